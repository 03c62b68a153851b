import Derived.Test.YtcnpijmfgfnpiaaGreatDoorWB10
import Derived.Test.YtcnpijmfgfnpiaaGreatDoorWB8
import Derived.Test.YtcnpijmfgfnpiaaGreatDoorWB9
import Derived.Test.YtcnpijmfgfnpiaaGreatDoorWB5
import Derived.Test.YtcnpijmfgfnpiaaGreatDoorWCore45
set_option linter.unusedSimpArgs false
set_option linter.unusedVariables false
set_option maxRecDepth 4000
set_option maxHeartbeats 1000000
namespace Go.Proofs.YtcnpijmfgfnpiaaGreatDoor
open K Go Go.Proofs
def cS(k:Nat)(a0:bB)(a1:(List (List Int))):Option Int:=
 (kf k a0).bind fun r2=>
 if¬(r2=0) then(some r2) else((lA k a0 a1).bind fun r4=>
 (RG r4).bind fun q5=>
 if q5.isSome=true then(some (q5.getD 0)) else(some 0))
theorem f8(k:Nat)(a0:bB)(a1:(List (List Int)))(r:Int)(h:cS k a0 a1=some r):
 cu Tryz.prog 35 [.rep aF a0,.rep (.slice (.slice (.int .i64))) a1] [.inv 0 (gG)] (fun _:Unit=>(bq [I r],[.inv 0 (gG)])):=by
 unfold cS at h
 replace h:=be h
 refine cu.of 19 Tryz.func35 rfl Tryz.ntmps35 rfl fun S w0=>?_
 refine sr ?_
 refine bx fun b1=>?_
 refine cq ?_
 refine nt ?_
 refine ag ?_
 refine sr ?_
 refine lo gC ?_
 obtain⟨r2,e,h⟩:=ab h
 have l:=nV k a0 r2 e
 refine ja (an [.tmp 7] rfl rfl OD rfl l) ?_
 refine aq ?_
 refine nt ?_
 refine sr ?_
 refine mq ?_
 refine jb (jd rfl) ?_
 refine nt ?_
 refine cn h (fun h=>?_) (fun h=>?_)
 ·
  refine sr (mq ?_);refine aq (nt (rx ?_));refine bL (SE.fin (Γ':=[(4,_)]) [1,0] ⟨rfl,trivial⟩ rfl) ?_;cases h;exact aL () [_] 1 ⟨rfl,trivial⟩ rfl
 ·
  refine sk (sr (aw rfl rfl rfl (aP rfl uS Rh) trivial fun b3=>?_));refine nt (ag (sr (fr 1 ?_)));refine lo gC ?_;refine mq ?_;obtain⟨r4,c,h⟩:=ab h;refine jb (an [.tmp 12,.tmp 13] rfl rfl Su rfl (rR k a0 a1 r4 c)) ?_;refine ja (Ht rfl SV) ?_;obtain⟨q5,j,h⟩:=ab h;refine fr 2 ?_;refine fr 2 ?_;refine bC (Δ:=[_,_]) (F:=_) (fun _ _ _=>au rfl _) rfl rfl (an [.tmp 14,.tmp 15] rfl rfl Sv rfl (Q6 j)) ⟨rfl,rfl,trivial⟩ fun _=>?_;refine nt (cv h (fun h=>?_) (fun h=>?_))
  ·refine sr (fl Ln ?_);refine lo RV ?_;refine aq (nt (rx ?_));refine bL (SE.fin (Γ':=[(4,_)]) [1,0,2] ⟨rfl,trivial⟩ rfl) ?_;cases h;exact aL () [_] 1 ⟨rfl,trivial⟩ rfl
  ·refine sk (sr (cq (nt (aA ?_))));refine bL (SE.fin (Γ':=[(4,_)]) [1,0,2] ⟨rfl,trivial⟩ rfl) ?_;cases h;exact aL () [_] 1 ⟨rfl,trivial⟩ rfl
def nU(k:Nat)(a0:bB)(r7:Int×(List (List Int))):Nat→((List Int)×Int)→Option (List Int)
 |0,_=>none
 |n+1,c=>
  if c.2 < (a0.2.1.length:Int) then((((dW k r7.1 c.2).bind fun j=>
  if j=true then((eM (bY (List.length c.1+List.length [c.2]))).bind fun _=>
  some (c.1++[c.2])) else(some c.1)):Option ((List Int))).bind fun h=>
  (ck (c.2+1)).bind fun e=>
  nU k a0 r7 n (h,e)) else(some c.1)
def yd(k:Nat)(a0:bB)(a1:(List (List Int)))(a2:Int):Option ((List Int)×(List (List Int))×Int):=
 (cS k a0 a1).bind fun r2=>
 if¬(r2=0) then(some ([],[],r2)) else((ck (a0.1 - 1)).bind fun x3=>
 (eE k a2 0 x3).bind fun r4=>
 if¬(r4=true) then(some ([],[],3)) else((dB k a1).bind fun r6=>
 (lj k (a0,()) r6 a2).bind fun r7=>
 ((nU k a0 r7 k (([]:(List Int)),0)):Option ((List Int))).bind fun x9=>
 (dy k (a0,()) r7.2).bind fun c=>
 some (x9,c,0)))
theorem BK(k:Nat)(a0:bB)(a1:(List (List Int)))(a2:Int)(r:(List Int)×(List (List Int))×Int)(h:yd k a0 a1 a2=some r):
 cu Tryz.prog 31 [.rep aF a0,.rep (.slice (.slice (.int .i64))) a1,I a2] [.inv 0 (gG)] (fun _:Unit=>(bq [Ri r.1,.rep (.slice (.slice (.int .i64))) r.2.1,I r.2.2],[.inv 0 (gG)])):=by
 unfold yd at h
 replace h:=be h
 refine cu.of 55 Tryz.func31 rfl Tryz.ntmps31 rfl fun S w0=>?_
 refine sr ?_
 refine bx fun b1=>?_
 refine cq ?_
 refine cq ?_
 refine cq ?_
 refine nt ?_
 refine ag ?_
 refine sr ?_
 refine lo gC ?_
 refine mq ?_
 obtain⟨r2,ac,h⟩:=ab h
 have mc:=f8 k a0 a1 r2 ac
 refine fr 1 ?_
 refine kb (an [.tmp 15,.tmp 16] rfl rfl OC rfl mc) ?_
 refine aq ?_
 refine nt ?_
 refine sr ?_
 refine mq ?_
 refine jb (jd rfl) ?_
 refine nt ?_
 refine cn h (fun h=>?_) (fun h=>?_)
 ·
  refine sr (mq ?_);refine cq ?_;refine cq ?_;refine aq (nt (rx ?_));refine bL (ky (t:=(.slice (.int .i64))) (x:=[]) 6 rfl .nil rfl rfl) ?_;refine bL (ky (t:=(.slice (.slice (.int .i64)))) (x:=[]) 7 rfl .nil rfl rfl) ?_;cases h;exact aL () [_,_,_] 1 ⟨rfl,rfl,rfl,trivial⟩ rfl
 ·
  refine sk (ag (sr (mq ?_)));refine fl jA ?_;refine fr 1 ?_;refine lo dh ?_;obtain⟨x3,Q,h⟩:=ab h;refine jb (f6 rfl Q) ?_;obtain⟨r4,Y,h⟩:=ab h;refine jc (an [.tmp 21,.const (.int .i64 (0)),.tmp 24] rfl rfl AT rfl (eU k a2 0 x3 r4 Y)) ?_;refine ja (ig rfl) ?_;refine nt (cw h (fun h=>?_) (fun h=>?_))
  ·refine sr (cq ?_);refine cq ?_;refine cq (nt (rx ?_));refine bL (ky (t:=(.slice (.int .i64))) (x:=[]) 6 rfl .nil rfl rfl) ?_;refine bL (ky (t:=(.slice (.slice (.int .i64)))) (x:=[]) 7 rfl .nil rfl rfl) ?_;refine bL (SE.fin (Γ':=[(6,_),(7,_),(8,_)]) [1,0] ⟨rfl,rfl,rfl,trivial⟩ rfl) ?_;cases h;exact aL () [_,_,_] 1 ⟨rfl,rfl,rfl,trivial⟩ rfl
  ·refine sk (sr (lo gC ?_));refine aw rfl rfl rfl (an [.tmp 27] rfl rfl FU rfl (fk a0)) ⟨rfl,trivial⟩ fun z5=>?_;refine cD (jO (bb k a0) km) ?_;refine aq (nt (sr ?_));iterate 2 refine mq ?_
   obtain⟨r6,X,h⟩:=ab h;refine ja (an [.tmp 31] rfl rfl Da rfl (dX k a1 r6 X)) ?_;refine mq ?_;obtain⟨r7,U,h⟩:=ab h;refine jc (cH (N:=[(.tmp 30,.at ap (a0,(.map (some z5)))),(.tmp 32,.rep (.arr 3 (.arr 5 (.int .i64))) r6),(.tmp 33,I a2)]) (an [.tmp 30,.tmp 32,.tmp 33] rfl rfl Qq rfl (oJ k (a0,()) r6 a2 r7 U)) fun _ _ _ hn=>⟨(oy hn.1),hn.2.1,hn.2.2.1,trivial⟩) ?_;refine mq ?_;refine xr ?_;refine xr ?_;refine aw rfl rfl rfl (aP rfl kZ lg) trivial fun b8=>?_;refine aq ?_;refine aS rfl rfl (aO rfl cF rfl rfl rfl) ⟨rfl,rfl,trivial⟩ ?_;refine nt (sr (cq (nt ?_)));refine aN (Z:=Value) (α:=(List Int)) (fun l x9=>[(10,.at ap (a0,(.map (some z5)))),(12,Pt b8),(13,.eq l)]) (fun l x9=>[.obj b8 107 (.rep (.arr 3 (.arr 5 (.int .i64))) r7.2),.sl l 3 (.int .i64) x9,.inv 0 (gG),.inv z5 (bb k a0)]) h (fun K h=>?_) (fun l x9 h=>?_)
   ·refine sr (fl fX ?_);refine fr 2 ?_;refine lo mZ ?_;refine ol wP ?_;refine eD rfl ?_;refine nt (aj (fw (SE.nil 3 (.int .i64)) ?_));refine aI (fun e c=>[(10,.at ap (a0,(.map (some z5)))),(11,.eq (.int .u8 r7.1)),(12,Pt b8),(13,.eq e),(39,I (a0.2.1.length:Int)),(40,I c.2)]) (fun e c=>[.obj b8 107 (.rep (.arr 3 (.arr 5 (.int .i64))) r7.2),.sl e 3 (.int .i64) c.1,.inv 0 (gG),.inv z5 (bb k a0)]) (nU k a0 r7) k (.slice none 0 0) (([]:(List Int)),0) (fun _=>rfl) h (SE.fin [2,0,4,3] ⟨rfl,rfl,rfl,rfl,rfl,rfl,trivial⟩ rfl) (fun n e c h=>?_);unfold nU at h;refine sr (jb (bm rfl) ?_);refine nt (ag (ci h (fun h=>?_) (fun h=>?_)))
    ·refine sk (aN (Z:=Value) (α:=(List Int)) (fun j s=>[(10,.at ap (a0,(.map (some z5)))),(11,.eq (.int .u8 r7.1)),(12,Pt b8),(13,.eq j),(39,I (a0.2.1.length:Int)),(40,I c.2)]) (fun j s=>[.obj b8 107 (.rep (.arr 3 (.arr 5 (.int .i64))) r7.2),.sl j 3 (.int .i64) s,.inv 0 (gG),.inv z5 (bb k a0)]) h (fun K h=>?_) (fun j s h=>?_))
     ·refine aj (sr (mq ?_));refine aq (nt (sr ?_));iterate 2 refine mq ?_
      obtain⟨O,E,h⟩:=ab h;refine jb (an [.tmp 43,.tmp 44] rfl rfl Lu rfl (iM k r7.1 c.2 O E)) ?_;refine nt (cv h (fun h=>?_) (fun h=>?_))
      ·refine aa ?_;iterate 2 refine mq ?_
       refine ja (bH (t:=(.int .i64)) [(.tmp 47,_)] [c.2] rfl rfl fD (.cons rfl .int .nil) rfl rfl) ?_;obtain⟨u16,y,h⟩:=ab h;refine fr 1 ?_;refine dN rfl rfl rfl (cz rfl rfl fD (aE y)) ⟨rfl,rfl,trivial⟩ fun J=>?_;refine aq (ao (bn ?_));exact jz (J,c.1++[c.2]) h [1,0,2,3]
      ·refine aV (bn ?_);exact jz (e,c.1) h [0,1,2,3]
     ·refine aa ?_;obtain⟨F,u,h⟩:=ab h;refine jb (bg rfl u) ?_;refine mq (nl ?_);exact jz (j,(s,F)) h [0,1,2,3]
    ·refine xa ?_;exact jz (e,c.1) h [0,1,2,3]
   ·refine sr ?_;iterate 2 refine mq ?_
    refine lo cF ?_;obtain⟨M,D,h⟩:=ab h;refine aw rfl rfl rfl (cH (N:=[(.tmp 52,.at ap (a0,(.map (some z5)))),(.tmp 53,.rep (.arr 3 (.arr 5 (.int .i64))) r7.2)]) (an [.tmp 52,.tmp 53] rfl rfl Lt rfl (ix k (a0,()) r7.2 M D)) fun _ _ _ hn=>⟨(oy hn.1),hn.2.1,trivial⟩) ⟨rfl,rfl,trivial⟩ fun pp=>?_;refine aq ?_;refine aq ?_;refine cq (nt (aA ?_));refine aH 2 rfl ?_;refine bL (gx [6,13,51] ⟨rfl,rfl,rfl,trivial⟩) ?_;refine bL (gx [7,54] ⟨rfl,rfl,trivial⟩) ?_;refine bL (SE.fin (Γ':=[(6,_),(7,_),(8,_)]) [1,0,2] ⟨rfl,rfl,rfl,trivial⟩ rfl) ?_;cases h;exact aL () [_,_,_] 1 ⟨rfl,rfl,rfl,trivial⟩ rfl
theorem fH(k:Nat)(a0:bB)(z_a0:Nat)(a1:(List (List Int)))(r:Int)(h:a8 k a0 a1=some r):
 dc (gQ Tryz.prog) 111 [.at ap (a0,(.map (some z_a0))),.rep (.arr 3 (.arr 5 (.int .i64))) a1] [.inv z_a0 (bb k a0)] (fun _:Unit=>(bq [I r],[.inv z_a0 (bb k a0)])):=by
 have h0:=h
 unfold a8 at h
 replace h:=be h
 obtain⟨u1,eg,h⟩:=ab h
 have hg:=aE eg
 have gk:=If hg
 refine dc.of 28 Tryz.func111 rfl Tryz.ntmps111 rfl fun S w0=>?_
 refine sr ?_
 refine bx fun b1=>?_
 refine cq ?_
 refine nt ?_
 refine ag ?_
 refine ct 1 rfl ?_
 refine Dt fun ob hob=>?_
 obtain⟨lnn,lbb,hlR,hlk⟩:=yz (z:=z_a0) Rm M8 Az gk FB hob
 refine bW ?_
 refine dm ?_
 refine da (dK rfl) ?_
 refine da (aM 1 false rfl Ee rfl) ?_
 refine da (ar (t:=.val) rfl ME rfl) ?_
 refine ea 1 (ak rfl cF (xj) rfl) ?_
 refine eb 0 (Fh (kv:=lb a1) (xo _) (mj.calm hob) rfl (fun _ _ _ hh=>vL hh) hlk) ?_
 refine dm ?_
 refine da (io rfl rfl) ?_
 refine da (io rfl rfl) ?_
 refine da (kJ rfl) ?_
 refine df eA ?_
 refine aq ?_
 refine nt ?_
 refine ag ?_
 refine sr ?_
 refine mq ?_
 refine ja (ig rfl) ?_
 refine nt ?_
 refine fw (jO (bb k a0) hob) ?_
 refine bu rfl (fun hb=>?_) (fun hb=>?_)
 ·
  refine sr (mq ?_);refine fr 1 ?_;refine lo cF ?_;obtain⟨r2,c,h⟩:=ab h;refine jc (cH (N:=[(.tmp 18,.at ap (a0,(.map (some z_a0)))),(.tmp 19,.rep (.arr 3 (.arr 5 (.int .i64))) a1),(.const (.int .i64 (0)),I 0)]) (c9 [.tmp 18,.tmp 19,.const (.int .i64 (0))] rfl rfl MZ rfl (mC k (a0,()) a1 0 r2 c)) fun _ _ _ hn=>⟨(oy hn.1),hn.2.1,hn.2.2.1,trivial⟩) ?_;refine aq (nt ?_);refine bW ?_;refine dm ?_;refine da (dK rfl) ?_;refine da (aM 1 false rfl Ee rfl) ?_;refine da (ar (t:=.val) rfl ME rfl) ?_;refine ea 0 (ak rfl cF (xj) rfl) ?_;refine dm ?_;refine df eA ?_;refine fr 1 ?_;have hl:a8 k a0 a1=some r2:=h0.trans (show some r=some r2 from h.symm);refine aS rfl rfl (zW (kv:=lb a1) (xo _) rfl Rm Az (fun _ _ _ hh=>vL hh) gk ⟨a1,hg,rfl,hl⟩) ⟨rfl,rfl,rfl,trivial⟩ ?_;refine nt (sr (mq ?_));refine aq (nt (aA ?_));cases h;exact aL () [_] 1 ⟨rfl,trivial⟩ rfl
 ·
  obtain⟨p,hp,he,hl⟩:=hlR (by simpa using hb);obtain rfl:=xp hg hp he;replace h:some lnn=some r:=hl.symm.trans h0;refine sk (sr (mq ?_));refine aq (nt (aA ?_));cases h;exact aL () [_] 1 ⟨rfl,trivial⟩ rfl
def qc(k:Nat)(a0:bB)(a1:(List (List Int))):Option (Int×Int):=
 (cS k a0 a1).bind fun r2=>
 if¬(r2=0) then(some (0,r2)) else((dB k a1).bind fun r4=>
 (a8 k a0 r4).bind fun r5=>
 some (r5,0))
theorem rW(k:Nat)(a0:bB)(a1:(List (List Int)))(r:Int×Int)(h:qc k a0 a1=some r):
 dc (gQ Tryz.prog) 48 [.rep aF a0,.rep (.slice (.slice (.int .i64))) a1] [.inv 0 (gG)] (fun _:Unit=>(bq [I r.1,I r.2],[.inv 0 (gG)])):=by
 unfold qc at h
 replace h:=be h
 refine dc.of 18 Tryz.func48 rfl Tryz.ntmps48 rfl fun S w0=>?_
 refine sr ?_
 refine bx fun b1=>?_
 refine cq ?_
 refine cq ?_
 refine nt ?_
 refine ag ?_
 refine sr ?_
 refine lo gC ?_
 refine mq ?_
 obtain⟨r2,j,h⟩:=ab h
 have l:=f8 k a0 a1 r2 j
 refine fr 1 ?_
 refine kb (an [.tmp 7,.tmp 8] rfl rfl OC rfl l) ?_
 refine aq ?_
 refine nt ?_
 refine sr ?_
 refine mq ?_
 refine jb (jd rfl) ?_
 refine nt ?_
 refine cn h (fun h=>?_) (fun h=>?_)
 ·
  refine sr (mq ?_);refine cq ?_;refine aq (nt (rx ?_));cases h;exact aL () [_,_] 1 ⟨rfl,rfl,trivial⟩ rfl
 ·
  refine sk (sr (fr 1 ?_));refine lo gC ?_;refine aw rfl rfl rfl (an [.tmp 13] rfl rfl FU rfl (fk a0)) ⟨rfl,trivial⟩ fun z3=>?_;refine cD (jO (bb k a0) km) ?_;refine mq ?_;obtain⟨r4,e,h⟩:=ab h;refine ja (an [.tmp 15] rfl rfl Da rfl (dX k a1 r4 e)) ?_;obtain⟨r5,c,h⟩:=ab h;refine kb (c9 [.tmp 14,.tmp 16] rfl rfl Ek rfl (fH k a0 z3 r4 r5 c)) ?_;refine aq ?_;refine cq (nt (aA ?_));refine bL (SE.fin (Γ':=[(4,_),(5,_)]) [2,0,1] ⟨rfl,rfl,trivial⟩ rfl) ?_;cases h;exact aL () [_,_] 1 ⟨rfl,rfl,trivial⟩ rfl
set_option maxRecDepth 20000
set_option maxHeartbeats 4000000
@[reducible] def fj:Ty:=.agg (.pair (.int .i64) (.int .i64))
def Qh(x:Int×Int):Value:=.agg #[.int .i64 x.1,.int .i64 x.2]
theorem Lr{S:FS}{w:World}{x:Int×Int}:(A.rep fj x).holds S w (Qh x):=⟨[_,_],⟨[_],[_],rfl,rfl,rfl⟩,rfl⟩
theorem IY{S:FS}{w:World}{x:Int×Int}{v:Value}(h:(A.rep fj x).holds S w v):(A.eq (Qh x)).holds S w v:=by
 obtain⟨cs,⟨c1,c2,rfl,h1,h2⟩,rfl⟩:=h;have h1:c1=_:=h1;have h2:c2=_:=h2;subst h1 h2;rfl
theorem gV:dL Tryz.prog 131 2 true:=⟨fun w=>by kernel_rfl,fun w=>by kernel_rfl⟩
theorem oK:dL Tryz.prog 28 1 false:=⟨fun w=>by kernel_rfl,fun w=>by kernel_rfl⟩
theorem DG:dL Tryz.prog 23 1 false:=⟨fun w=>by kernel_rfl,fun w=>by kernel_rfl⟩
theorem uv:dL Tryz.prog 3 1 false:=⟨fun w=>by kernel_rfl,fun w=>by kernel_rfl⟩
theorem GV:dL Tryz.prog 102 1 false:=⟨fun w=>by kernel_rfl,fun w=>by kernel_rfl⟩
theorem Og:aW Tryz.prog 131 0 0:=aW.of (by kernel_rfl)
theorem Of:aW Tryz.prog 131 1 1:=aW.of (by kernel_rfl)
theorem Qg:aW Tryz.prog 128 0 0:=aW.of (by kernel_rfl)
theorem uC:aW Tryz.prog 128 1 1:=aW.of (by kernel_rfl)
theorem yR:ah Tryz.prog 136:=ah.of Tryz.func136 (by kernel_rfl) (by kernel_rfl)
def jC(x:Int×Int)(m:Int):Nat→Int×List Int→Option (List Int)
 |0,_=>none
 |n+1,q=>if q.1 < m then((bf q.2 q.1).bind fun c=>if c=x.1 then(ck (q.1+1)).bind fun w=>jC x m n (w,q.2.set q.1.toNat x.2) else if c=x.2 then(ck (q.1+1)).bind fun w=>jC x m n (w,q.2.set q.1.toNat x.1) else(ck (q.1+1)).bind fun w=>jC x m n (w,q.2)) else some q.2
def kE(k:Nat)(x:Int×Int)(m:Int):Nat→Int×List (List Int)→Option (List (List Int))
 |0,_=>none
 |n+1,q=>if q.1 < m then((bf q.2 q.1).bind fun l=>(jC x (l.length:Int) k (0,l)).bind fun l2=>(ck (q.1+1)).bind fun w=>kE k x m n (w,q.2.set q.1.toNat l2)) else some q.2
def nn(k:Nat)(x:Int×Int)(ls:List (List Int)):Option (List (List Int)):=kE k x (ls.length:Int) k (0,ls)
theorem mB(k:Nat)(x:Int×Int)(ls r:List (List Int))(y:Nat)(d0:ap.den)(z:Value×(Nat→Value))(h:nn k x ls=some r):
 cu Tryz.prog 136 [.eq (bP y),.rep fj x] ([.obj y 128 (.agg (.pair (.at ap d0) (.eq z.1)))]++jE 23 z ls) (fun _:Unit=>(bq [],[.obj y 128 (.agg (.pair (.at ap d0) (.eq z.1)))]++jE 23 z r)):=by
 unfold nn at h
 replace h:=be h
 refine cu.of 45 Tryz.func136 rfl Tryz.ntmps136 rfl fun S w0=>?_
 refine sr ?_
 refine bx fun b3=>?_
 refine nt ?_
 refine sr ?_
 refine mq ?_
 refine ja (aX rfl) ?_
 refine fl uC ?_
 refine fr 1 ?_
 refine lo oK ?_
 refine cD (Ey (pre:=[.obj y 128 (.agg (.pair (.at ap d0) (.eq z.1))),.obj b3 131 (.rep fj x)])) ?_
 refine ka (dq rfl rfl oz) ?_
 rw [dQ]
 refine cD (F8 (pre:=[.obj y 128 (.agg (.pair (.at ap d0) (.eq z.1))),.obj b3 131 (.rep fj x)])) ?_
 refine eD rfl ?_
 refine nt ?_
 refine aj ?_
 refine aI (Z:=Unit) (α:=Int×List (List Int)) (fun _ q=>[(3,.eq (bP b3)),(11,.eq z.1),(12,I (ls.length:Int)),(13,I q.1)]) (fun _ q=>[.obj y 128 (.agg (.pair (.at ap d0) (.eq z.1))),.obj b3 131 (.rep fj x)]++jE 23 z q.2) (kE k x (ls.length:Int)) k () (0,ls) (fun _=>rfl) h (bM [.obj y 128 (.agg (.pair (.at ap d0) (.eq z.1))),.obj b3 131 (.rep fj x)] (jE 23 z ls) [0,1] ⟨rfl,rfl,rfl,rfl,trivial⟩ rfl) (fun n u q h=>?_)
 unfold kE at h
 refine sr ?_
 refine jb (bm rfl) ?_
 refine nt ?_
 refine ag ?_
 refine bu rfl (fun hb=>?_) (fun hb=>?_)
 ·
  replace h:=cr (mh hb) h;refine sk (ag (aj ?_));obtain⟨l,el,h⟩:=ab h;refine fw (F7 (pre:=[.obj y 128 (.agg (.pair (.at ap d0) (.eq z.1))),.obj b3 131 (.rep fj x)]) (iD el).2) ?_;refine sr (fr 1 ?_);refine kb (a9 (t:=.val) rfl oz DG (iw el)) ?_;refine ka (eu (i:=q.1.toNat) (off:=0) rfl DG (fun _=>rfl) rfl (dM (iw el)).2.2 rfl) ?_;refine aq (nt ?_);rw [Option.bind_assoc] at h;refine sr (mq ?_);refine fr 1 ?_;refine ka (dq rfl rfl fg) ?_;refine eD rfl ?_;refine nt (aj (aI (Z:=Unit) (α:=Int×List Int) (fun _ q2=>[(3,.eq (bP b3)),(5,.eq (z.2 q.1.toNat)),(11,.eq z.1),(12,I (ls.length:Int)),(13,I q.1),(17,.eq (z.2 q.1.toNat)),(18,I (l.length:Int)),(19,I q2.1)]) (fun _ q2=>[.sl (z.2 q.1.toNat) 3 (.int .i64) (q2.2),.sl z.1 23 .val (dH z.2 0 q.2),.obj y 128 (.agg (.pair (.at ap d0) (.eq z.1))),.obj b3 131 (.rep fj x)]++((fZ z.2 0 q.2).eraseIdx q.1.toNat)) (jC x (l.length:Int)) k () (0,l) (fun _=>rfl) h (bM [.sl (z.2 q.1.toNat) 3 (.int .i64) (l),.sl z.1 23 .val (dH z.2 0 q.2),.obj y 128 (.agg (.pair (.at ap d0) (.eq z.1))),.obj b3 131 (.rep fj x)] ((fZ z.2 0 q.2).eraseIdx q.1.toNat) [0,1,2,3] ⟨rfl,rfl,rfl,rfl,rfl,rfl,rfl,rfl,trivial⟩ rfl) (fun n2 u2 q2 h=>?_)));unfold jC at h;refine sr (jb (bm rfl) ?_);refine nt (ag (bu rfl (fun hb=>?_) (fun hb=>?_)))
  ·replace h:=cr (mh hb) h;refine sk (ag (aj ?_));obtain⟨c,ec,h⟩:=ab h;refine sr (mq ?_);refine kb (a9 (t:=.int .i64) rfl fg uv ec) ?_;refine ka (eu (i:=q2.1.toNat) (off:=0) rfl uv (fun _=>rfl) rfl (dM ec).2.2 rfl) ?_;refine aq ?_;refine aq (nt (sr ?_));refine mq (nt (aj (sr ?_)));refine fl Og ?_;refine fr 3 ?_;refine lo uv ?_;refine jb (dw rfl) ?_;refine aq (nt ?_);refine ci h (fun h=>?_) (fun h=>?_)
   ·refine aa ?_;iterate 2 refine mq ?_
    refine fl Of ?_;refine lo uv ?_;refine fr 1 ?_;refine kb (a9 (t:=.int .i64) rfl fg uv ec) ?_;refine aS rfl rfl (c6 (i:=q2.1.toNat) rfl uv rfl (jw ec) rfl .int rfl) ⟨rfl,rfl,trivial⟩ ?_;refine ao (aG (aG (tn (aa ?_))));obtain⟨w,ew,h⟩:=ab h;refine jb (bg rfl ew) ?_;refine mq (nl ?_);exact i7 ((),(w,q2.2.set q2.1.toNat x.2)) h (bM [.sl (z.2 q.1.toNat) 3 (.int .i64) (q2.2.set q2.1.toNat x.2),.obj b3 131 (.rep fj x),.sl z.1 23 .val (dH z.2 0 q.2),.obj y 128 (.agg (.pair (.at ap d0) (.eq z.1)))] ((fZ z.2 0 q.2).eraseIdx q.1.toNat) [0,2,3,1] ⟨rfl,rfl,rfl,rfl,rfl,rfl,rfl,rfl,trivial⟩ rfl)
   ·refine sr (fl Of ?_);refine lo uv ?_;refine jb (dw rfl) ?_;refine aq (nt ?_);refine ci h (fun h=>?_) (fun h=>?_)
    ·refine aa ?_;iterate 2 refine mq ?_
     refine fl Og ?_;refine lo uv ?_;refine fr 1 ?_;refine kb (a9 (t:=.int .i64) rfl fg uv ec) ?_;refine aS rfl rfl (c6 (i:=q2.1.toNat) rfl uv rfl (jw ec) rfl .int rfl) ⟨rfl,rfl,trivial⟩ ?_;refine ao (aG (aG (tn (aa ?_))));obtain⟨w,ew,h⟩:=ab h;refine jb (bg rfl ew) ?_;refine mq (nl ?_);exact i7 ((),(w,q2.2.set q2.1.toNat x.1)) h (bM [.sl (z.2 q.1.toNat) 3 (.int .i64) (q2.2.set q2.1.toNat x.1),.obj b3 131 (.rep fj x),.sl z.1 23 .val (dH z.2 0 q.2),.obj y 128 (.agg (.pair (.at ap d0) (.eq z.1)))] ((fZ z.2 0 q.2).eraseIdx q.1.toNat) [0,2,3,1] ⟨rfl,rfl,rfl,rfl,rfl,rfl,rfl,rfl,trivial⟩ rfl)
    ·refine aV (aG (aG (tn (aa ?_))));obtain⟨w,ew,h⟩:=ab h;refine jb (bg rfl ew) ?_;refine mq (nl ?_);exact i7 ((),(w,q2.2)) h (bM [.obj b3 131 (.rep fj x),.sl (z.2 q.1.toNat) 3 (.int .i64) (q2.2),.sl z.1 23 .val (dH z.2 0 q.2),.obj y 128 (.agg (.pair (.at ap d0) (.eq z.1)))] ((fZ z.2 0 q.2).eraseIdx q.1.toNat) [1,2,3,0] ⟨rfl,rfl,rfl,rfl,rfl,rfl,rfl,rfl,trivial⟩ rfl)
  replace h:=bv (lw hb) h;refine dJ (aR (aR (bR (aG (tn (fw (Bd (pre:=[.obj y 128 (.agg (.pair (.at ap d0) (.eq z.1))),.obj b3 131 (.rep fj x)]) (l':=q2.2) (iD el).2) ?_))))));refine aa ?_;obtain⟨w,ew,h⟩:=ab (X:=ck (q.1+1)) (f:=fun w=>kE k x (ls.length:Int) n (w,q.2.set q.1.toNat q2.2)) (K:=some) (r:=r) (by simpa using h);refine jb (bg rfl ew) ?_;refine mq (nl ?_);exact i7 ((),(w,q.2.set q.1.toNat q2.2)) h (bM [.obj y 128 (.agg (.pair (.at ap d0) (.eq z.1))),.obj b3 131 (.rep fj x)] (jE 23 z (q.2.set q.1.toNat q2.2)) [0,1] ⟨rfl,rfl,rfl,rfl,trivial⟩ rfl)
 replace h:=bv (lw hb) h
 refine dJ ?_
 refine aR ?_
 refine aR ?_
 refine bR ?_
 cases h
 refine jm ?_
 refine bL (bM (Γ':=[]) (pre':=[.obj y 128 (.agg (.pair (.at ap d0) (.eq z.1)))]) [.obj y 128 (.agg (.pair (.at ap d0) (.eq z.1))),.obj b3 131 (.rep fj x)] (jE 23 z q.2) [0] trivial rfl) ?_
 exact ia () [] trivial rfl
@[reducible] def J2:Ty:=.agg (.pair (.ptr ap) (.slice (.slice (.int .i64))))
theorem Ni{S:FS}{w:World}{y:Nat}{d0:ap.den}{z:Value×(Nat→Value)}{ls:List (List Int)}(h:∀d∈[D.obj y 128 (.agg (.pair (.at ap d0) (.eq z.1)))]++jE 23 z ls,d.holds S w∧∀b,d.foot=some b→S b):(A.at J2 (d0,ls)).holds S w (bP y):=by
 obtain⟨⟨cs,h1,c1,c2,rfl,g1,rfl,g2⟩,h2⟩:=h _ (List.mem_cons_self ..);have h3:=NN (fun d hd=>h d (List.mem_cons_of_mem _ hd));refine⟨y,0,_,128,(0,0),rfl,h2 y rfl,h1,c1,[z.1],?_,g1,?_⟩
 ·have l1:=aK (.ptr ap) g1;simp only [Ty.cells] at l1;match c1,l1 with
  |[u],_=>rfl
 ·obtain⟨cs,h4,h5⟩:=h3;have l1:=aK (.slice (.slice (.int .i64))) h4;simp only [Ty.cells] at l1;match cs,l1 with
  |[u],_=>rw [h5];exact h4
theorem zz{S:FS}{w:World}{a:Act}{Γ:Ga}{y:Nat}{d0:ap.den}{z:Value×(Nat→Value)}{ls:List (List Int)}(h:∀d∈[D.obj y 128 (.agg (.pair (.at ap d0) (.eq z.1)))]++jE 23 z ls,d.holds S w∧∀b,d.foot=some b→S b)
 (hk:∀s r,lk Γ s=some r→r.holds S w (a.tmps.getD s undef)) (h0:lk Γ 0=some (.eq (bP y))):∀s r,lk [(0,A.at J2 (d0,ls))] s=some r→r.holds S w (a.tmps.getD s undef):=fun s r hl=>by
 simp only [lk] at hl
 split at hl
 ·
  rename_i e
  cases hl
  subst e
  have e1:a.tmps.getD 0 undef=bP y:=hk 0 _ h0
  rw [e1]
  exact Ni h
 ·
  cases hl
theorem MU{n:Nat}{r0:A}(h:r0.flat=true):∀s r,lk [(n,r0)] s=some r→r.flat=true:=fun s r hl=>by
 simp only [lk] at hl
 split at hl
 ·
  cases hl;exact h
 ·
  cases hl
theorem Oi{d0:D}(h:d0.flat=true):∀d∈[d0],d.flat=true:=fun d hd=>by
 simp only [List.mem_cons,List.not_mem_nil,or_false] at hd
 subst hd;exact h
theorem Lp{d0 d1:D}(h:d0.flat=true)(h1:d1.flat=true):∀d∈[d0,d1],d.flat=true:=fun d hd=>by
 simp only [List.mem_cons,List.not_mem_nil,or_false] at hd
 rcases hd with rfl |rfl <;> assumption
theorem zA{y:Nat}{x:Int×Int}(S:FS)(w:World):f7 S w [.eq (bP y),.rep fj x] [bP y,Qh x]:=⟨_,_,rfl,rfl,_,_,rfl,Lr,rfl⟩
theorem Oe:aW Tryz.prog 173 0 0:=aW.of (by kernel_rfl)
theorem GU:dL Tryz.prog 25 3 true:=⟨fun w=>by kernel_rfl,fun w=>by kernel_rfl⟩
theorem Ql:ah Tryz.prog 94:=ah.of Tryz.func94 (by kernel_rfl) (by kernel_rfl)
theorem Qm:ah Tryz.prog 86:=ah.of Tryz.func86 (by kernel_rfl) (by kernel_rfl)
theorem Om:ah Tryz.prog 111:=ah.of Tryz.func111 (by kernel_rfl) (by kernel_rfl)
def mV(k:Nat)(t:bB)(x:Int×Int)(ls:List (List Int)):Option (Bool×List (List Int)):=
 (nn k x ls).bind fun l1=>(lA k t l1).bind fun e=>if KY e=true then(nn k x l1).bind fun l2=>some (!vR e,l2) else none
theorem tc(k:Nat)(t:bB)(x:Int×Int)(ls:List (List Int))(r:Bool×List (List Int))(y m:Nat)(z:Value×(Nat→Value))(h:mV k t x ls=some r):
 cu Tryz.prog 98 [.eq (bP y),.rep fj x] ([.obj y 128 (.agg (.pair (.at ap (t,.map (some m))) (.eq z.1)))]++jE 23 z ls) (fun _:Unit=>(bq [.eq (.bool r.1)],[.obj y 128 (.agg (.pair (.at ap (t,.map (some m))) (.eq z.1)))]++jE 23 z r.2)):=by
 unfold mV at h
 replace h:=be h
 obtain⟨l1,e1,h⟩:=ab h
 obtain⟨e,e2,h⟩:=ab h
 have he:KY e=true:=by
  apply Classical.byContradiction;intro hn;rw [if_neg hn] at h;cases h
 replace h:=cr he h
 obtain⟨l2,e3,h⟩:=ab h
 cases h
 have cv:=rR k t l1 e e2
 refine Mc 23 Tryz.func98 rfl Tryz.ntmps98 rfl fun S w0=>?_
 refine sr ?_
 refine bx fun b3=>?_
 refine cq ?_
 refine nt ?_
 refine sr ?_
 refine mq ?_
 refine ka (ak rfl gV (zl) rfl) ?_
 refine cD (gw (Δ':=([.obj y 128 (.agg (.pair (.at ap (t,.map (some m))) (.eq z.1)))]++jE 23 z ls)++[.obj b3 131 (.rep fj x)]) (List.perm_append_comm (l₁:=([.obj b3 131 (.rep fj x)]:List D)))) ?_
 refine bC (Δ:=_++_) (F:=[_]) (fun _ _ _=>au rfl _) rfl rfl (an [.tmp 5,.tmp 6] rfl rfl yR rfl (mB k x ls l1 y (t,.map (some m)) z e1)) ⟨rfl,rfl,trivial⟩ fun _=>?_
 refine nt ?_
 refine sr ?_
 refine mq ?_
 refine cD (gw (Δ':=[.obj b3 131 (.rep fj x)]++([.obj y 128 (.agg (.pair (.at ap (t,.map (some m))) (.eq z.1)))]++jE 23 z l1)) List.perm_append_comm) ?_
 refine ka (ak rfl gV (zl) rfl) ?_
 refine cD (sT 9 rfl fun _ _ _ h=>IY h) ?_
 refine xX (vs:=[bP y,Qh x]) [.tmp 8,.tmp 9] rfl rfl rfl rfl rfl ⟨rfl,rfl,trivial⟩ ?_
 refine ao ?_
 refine ae ?_
 refine bL (gw (Δ':=([.obj y 128 (.agg (.pair (.at ap (t,.map (some m))) (.eq z.1)))]++jE 23 z l1)++[.obj b3 131 (.rep fj x)]) (List.perm_append_comm (l₁:=([.obj b3 131 (.rep fj x)]:List D)))) ?_
 show JC _ _ _ _ _
 refine ag ?_
 refine EE (L:=_++_) (Δ:=[_]) (Γ1:=[(0,.at J2 ((t,.map (some m)),l1))]) (Z:=Unit) (fun _=>[(4,.eq (.bool (!vR e)))]) (fun _=>[.obj b3 131 (.rep fj x)]) (fun S w a hl hk=>zz hl hk rfl) (fun _=>⟨MU rfl,Oi rfl⟩) (fun S w=>?_) (fun _=>?_)
 ·
  refine bW ?_;refine dm ?_;refine da (dK rfl) ?_;refine da (aM 1 false rfl Qg rfl) ?_;refine da (ar (t:=.ptr ap) rfl GV rfl) ?_;refine da (dK rfl) ?_;refine da (aM 3 true rfl Oe rfl) ?_;refine da (ar (t:=aF) rfl GU rfl) ?_;refine dm ?_;refine da (dK rfl) ?_;refine da (aM 1 false rfl uC rfl) ?_;refine da (ar (t:=.slice (.slice (.int .i64))) rfl oK rfl) ?_;refine t8 (by kernel_rfl) rn ?_;refine jb (an [.tmp 16,.tmp 20] rfl rfl Ql rfl cv) ?_;refine jb (sn rfl SX he) ?_;refine aq (ao ?_);exact fun a w st=>⟨rfl,(),(SE.fin (Γ':=[(4,.eq (.bool (!vR e)))]) [0] ⟨rfl,trivial⟩ rfl) a w st⟩
 ·
  refine tn (aA (EC (Δ1:=[.obj y 128 (.agg (.pair (.at ap (t,.map (some m))) (.eq z.1)))]++jE 23 z l1) (F:=[.obj b3 131 (.rep fj x)]) yR (mB k x l1 l2 y (t,.map (some m)) z e3 _) zA (fun _=>?_)));refine bL (gw (Δ':=[.obj b3 131 (.rep fj x)]++([.obj y 128 (.agg (.pair (.at ap (t,.map (some m))) (.eq z.1)))]++jE 23 z l2)) List.perm_append_comm) ?_;refine bL (bM (pre':=[.obj y 128 (.agg (.pair (.at ap (t,.map (some m))) (.eq z.1)))]) (Γ':=[(4,.eq (.bool (!vR e)))]) [.obj b3 131 (.rep fj x),.obj y 128 (.agg (.pair (.at ap (t,.map (some m))) (.eq z.1)))] (jE 23 z l2) [1] ⟨rfl,trivial⟩ rfl) ?_;exact ia () [_] ⟨rfl,trivial⟩ rfl
def mW(k:Nat)(t:bB)(x:Int×Int)(ls:List (List Int)):Option (Int×List (List Int)):=
 (nn k x ls).bind fun l1=>(dB k l1).bind fun ld=>(a8 k t ld).bind fun n=>(nn k x l1).bind fun l2=>some (n,l2)
theorem td(k:Nat)(t:bB)(x:Int×Int)(ls:List (List Int))(r:Int×List (List Int))(y m:Nat)(z:Value×(Nat→Value))(h:mW k t x ls=some r):
 dc (gQ Tryz.prog) 100 [.eq (bP y),.rep fj x] ([.inv m (bb k t)]++([.obj y 128 (.agg (.pair (.at ap (t,.map (some m))) (.eq z.1)))]++jE 23 z ls)) (fun _:Unit=>(bq [I r.1],[.inv m (bb k t)]++([.obj y 128 (.agg (.pair (.at ap (t,.map (some m))) (.eq z.1)))]++jE 23 z r.2))):=by
 unfold mW at h
 replace h:=be h
 obtain⟨l1,e1,h⟩:=ab h
 obtain⟨ld,e2,h⟩:=ab h
 obtain⟨n,e2',h⟩:=ab h
 obtain⟨l2,e3,h⟩:=ab h
 cases h
 have cv:=dX k l1 ld e2
 have cl:=fH k t m ld n e2'
 refine Bo 20 Tryz.func100 rfl Tryz.ntmps100 rfl fun S w0=>?_
 refine sr ?_
 refine bx fun b3=>?_
 refine cq ?_
 refine nt ?_
 refine sr ?_
 refine mq ?_
 refine ka (ak rfl gV (zl) rfl) ?_
 refine cD (gw (Δ':=([.obj y 128 (.agg (.pair (.at ap (t,.map (some m))) (.eq z.1)))]++jE 23 z ls)++[.obj b3 131 (.rep fj x),.inv m (bb k t)]) (List.perm_append_comm (l₁:=([.obj b3 131 (.rep fj x),.inv m (bb k t)]:List D)))) ?_
 refine bC (Δ:=_++_) (F:=[_,_]) (fun _ _ _=>au rfl _) rfl rfl (an [.tmp 5,.tmp 6] rfl rfl yR rfl (mB k x ls l1 y (t,.map (some m)) z e1)) ⟨rfl,rfl,trivial⟩ fun _=>?_
 refine nt ?_
 refine sr ?_
 refine mq ?_
 refine cD (gw (Δ':=[.obj b3 131 (.rep fj x),.inv m (bb k t)]++([.obj y 128 (.agg (.pair (.at ap (t,.map (some m))) (.eq z.1)))]++jE 23 z l1)) List.perm_append_comm) ?_
 refine ka (ak rfl gV (zl) rfl) ?_
 refine cD (sT 9 rfl fun _ _ _ h=>IY h) ?_
 refine xX (vs:=[bP y,Qh x]) [.tmp 8,.tmp 9] rfl rfl rfl rfl rfl ⟨rfl,rfl,trivial⟩ ?_
 refine ao ?_
 refine ae ?_
 refine bL (gw (Δ':=([.obj y 128 (.agg (.pair (.at ap (t,.map (some m))) (.eq z.1)))]++jE 23 z l1)++[.obj b3 131 (.rep fj x),.inv m (bb k t)]) (List.perm_append_comm (l₁:=([.obj b3 131 (.rep fj x),.inv m (bb k t)]:List D)))) ?_
 show JC _ _ _ _ _
 refine ag ?_
 refine EE (L:=_++_) (Δ:=[_,_]) (Γ1:=[(0,.at J2 ((t,.map (some m)),l1))]) (Z:=Unit) (fun _=>[(4,I n)]) (fun _=>[.obj b3 131 (.rep fj x),.inv m (bb k t)]) (fun S w a hl hk=>zz hl hk rfl) (fun _=>⟨MU rfl,Lp rfl rfl⟩) (fun S w=>?_) (fun _=>?_)
 ·
  refine bW ?_;refine dm ?_;refine da (dK rfl) ?_;refine da (aM 1 false rfl Qg rfl) ?_;refine da (ar (t:=.ptr ap) rfl GV rfl) ?_;refine dm ?_;refine da (dK rfl) ?_;refine da (aM 1 false rfl uC rfl) ?_;refine da (ar (t:=.slice (.slice (.int .i64))) rfl oK rfl) ?_;refine da (an [.tmp 17] rfl rfl Qm rfl cv) ?_;refine t8 (by kernel_rfl) rn ?_;refine fr 1 ?_;refine kb (c9 [.tmp 13,.tmp 18] rfl rfl Om rfl cl) ?_;refine aq (ao ?_);exact fun a w st=>⟨rfl,(),(SE.fin (Γ':=[(4,I n)]) [1,0] ⟨rfl,trivial⟩ rfl) a w st⟩
 ·
  refine tn (aA (EC (Δ1:=[.obj y 128 (.agg (.pair (.at ap (t,.map (some m))) (.eq z.1)))]++jE 23 z l1) (F:=[.obj b3 131 (.rep fj x),.inv m (bb k t)]) yR (mB k x l1 l2 y (t,.map (some m)) z e3 _) zA (fun _=>?_)));refine bL (gw (Δ':=[.obj b3 131 (.rep fj x),.inv m (bb k t)]++([.obj y 128 (.agg (.pair (.at ap (t,.map (some m))) (.eq z.1)))]++jE 23 z l2)) List.perm_append_comm) ?_;refine bL (bM (pre':=[.inv m (bb k t),.obj y 128 (.agg (.pair (.at ap (t,.map (some m))) (.eq z.1)))]) (Γ':=[(4,I n)]) [.obj b3 131 (.rep fj x),.inv m (bb k t),.obj y 128 (.agg (.pair (.at ap (t,.map (some m))) (.eq z.1)))] (jE 23 z l2) [1,2] ⟨rfl,trivial⟩ rfl) ?_;exact ia () [_] ⟨rfl,trivial⟩ rfl
theorem sZ:∀w,(zeroValue 131).run Tryz.prog w= .ok (.agg #[.int .i64 0,.int .i64 0]) w:=fun w=>by kernel_rfl
theorem wh:∀S w,(A.cells S w (.rep fj (0,0)) (Value.cells (.agg #[.int .i64 0,.int .i64 0])).toList):=fun _ _=>⟨[_],[_],rfl,rfl,rfl⟩
theorem On:ah Tryz.prog 100:=ah.of Tryz.func100 (by kernel_rfl) (by kernel_rfl)
abbrev M4:=Int×(Int×Int)×Int×Bool×List (List Int)
def im(k:Nat)(t:bB)(xs:List (Int×Int)):Nat→M4→Option ((Int×Int)×Int×Bool×List (List Int))
 |0,_=>none
 |n+1,q=>if q.1 < (xs.length:Int) then((bf xs q.1).bind fun x=>(mW k t x q.2.2.2.2).bind fun r=>(ck (q.1+1)).bind fun w=>im k t xs n (if(!q.2.2.2.1 || decide (r.1 < q.2.2.1))=true then(w,x,r.1,true,r.2) else(w,q.2.1,q.2.2.1,q.2.2.2.1,r.2))) else some q.2
def lM(k:Nat)(t:bB)(xs:List (Int×Int))(ls:List (List Int)):Option ((Int×Int)×Int×Bool×List (List Int)):=im k t xs k (0,(0,0),0,false,ls)
theorem wB(k:Nat)(t:bB)(xs:List (Int×Int))(ls:List (List Int))(r:(Int×Int)×Int×Bool×List (List Int))(y m:Nat)(z:Value×(Nat→Value))(h:lM k t xs ls=some r):
 dc (gQ Tryz.prog) 99 [.eq (.func (.func 100) #[bP y] #[]),Rs fj xs] ([.inv m (bb k t),.obj y 128 (.agg (.pair (.at ap (t,.map (some m))) (.eq z.1)))]++jE 23 z ls) (fun _:Unit=>(bq [.rep fj r.1,I r.2.1,.eq (.bool r.2.2.1)],[.inv m (bb k t),.obj y 128 (.agg (.pair (.at ap (t,.map (some m))) (.eq z.1)))]++jE 23 z r.2.2.2)):=by
 unfold lM at h
 replace h:=be h
 refine dc.of 35 Tryz.func99 rfl Tryz.ntmps99 rfl fun S w0=>?_
 refine sr ?_
 refine aw rfl rfl rfl (aP rfl sZ wh) trivial fun b4=>?_
 refine cq ?_
 refine cq ?_
 refine nt ?_
 refine sr ?_
 refine aw rfl rfl rfl (aP rfl sZ wh) trivial fun b7=>?_
 refine nt ?_
 refine sr ?_
 refine cq ?_
 refine cq ?_
 refine nt ?_
 refine ag ?_
 refine sr ?_
 refine mq ?_
 refine ol OR ?_
 refine eD rfl ?_
 refine nt ?_
 refine aj ?_
 refine aI (Z:=Unit) (α:=M4) (fun _ q=>[(0,.eq (.func (.func 100) #[bP y] #[])),(4,.eq (bP b4)),(7,.eq (bP b7)),(8,I q.2.2.1),(9,.eq (.bool q.2.2.2.1)),(13,Rs fj xs),(14,I (xs.length:Int)),(15,I q.1)]) (fun _ q=>[.obj b7 131 (.rep fj q.2.1),.obj b4 131 (.rep fj (0,0)),.inv m (bb k t),.obj y 128 (.agg (.pair (.at ap (t,.map (some m))) (.eq z.1)))]++jE 23 z q.2.2.2.2) (im k t xs) k () (0,(0,0),0,false,ls) (fun _=>rfl) h (bM [.obj b7 131 (.rep fj (0,0)),.obj b4 131 (.rep fj (0,0)),.inv m (bb k t),.obj y 128 (.agg (.pair (.at ap (t,.map (some m))) (.eq z.1)))] (jE 23 z ls) [0,1,2,3] ⟨rfl,rfl,rfl,rfl,rfl,rfl,rfl,rfl,trivial⟩ rfl) (fun n u q h=>?_)
 unfold im at h
 obtain⟨q1,q2,q3,q4,q5⟩:=q
 refine sr ?_
 refine jb (bm rfl) ?_
 refine nt ?_
 refine ag ?_
 refine bu rfl (fun hb=>?_) (fun hb=>?_)
 ·
  replace h:=cr (mh hb) h;obtain⟨x,ex,h⟩:=ab h;obtain⟨r1,e,h⟩:=ab h;obtain⟨w,ew,h⟩:=ab h;have cl:=td k t x q5 r1 y m z e;refine sk (ag (aj (sr (jb (ba (t:=fj) rfl OR gV ex) ?_))));refine ja (ar (t:=fj) rfl gV rfl) ?_;refine aw rfl rfl rfl (aP rfl sZ wh) trivial fun c=>?_;refine aS rfl rfl (aO rfl gV rfl rfl rfl) ⟨rfl,rfl,trivial⟩ ?_;refine nt (sr (mq ?_));refine ka (ak rfl gV (zl) rfl) ?_;refine cD (gw (Δ':=([.inv m (bb k t)]++([.obj y 128 (.agg (.pair (.at ap (t,.map (some m))) (.eq z.1)))]++jE 23 z q5))++[.obj c 131 (.rep fj x),.obj b7 131 (.rep fj q2),.obj b4 131 (.rep fj (0,0))]) (List.perm_append_comm (l₁:=([.obj c 131 (.rep fj x),.obj b7 131 (.rep fj q2),.obj b4 131 (.rep fj (0,0))]:List D)))) ?_;refine bC (Δ:=_++_) (F:=[_,_,_]) (fun _ _ _=>au rfl _) rfl rfl (pu (fs:=[bP y]) (cs:=[]) (ags:=[.rep fj x]) [.tmp 20] rfl rfl On rfl cl) ⟨rfl,rfl,trivial⟩ fun _=>?_;refine aq ?_;refine cD (gw (Δ':=[.obj c 131 (.rep fj x),.obj b7 131 (.rep fj q2),.obj b4 131 (.rep fj (0,0))]++([.inv m (bb k t)]++([.obj y 128 (.agg (.pair (.at ap (t,.map (some m))) (.eq z.1)))]++jE 23 z r1.2))) List.perm_append_comm) ?_;refine nt ?_;cases q4 with
  |false=>
   refine sr (mq ?_);refine ja (ig rfl) ?_;refine mq ?_;iterate 3 refine gn ?_
   refine pt (nt ?_);refine bu rfl (fun hb=>?_) (fun hb=>(by cases hb));refine aa (ka (ak rfl gV (zl) rfl) ?_);refine mq ?_;refine fr 1 ?_;refine aS rfl rfl (aO rfl gV rfl rfl rfl) ⟨rfl,rfl,trivial⟩ ?_;refine aq ?_;refine cq (ao (aG (tn (aa ?_))));refine jb (bg rfl ew) ?_;refine mq (nl ?_);exact i7 ((),(w,x,r1.1,true,r1.2)) h (bM [.obj b7 131 (.rep fj x),.obj c 131 (.rep fj x),.obj b4 131 (.rep fj (0,0)),.inv m (bb k t),.obj y 128 (.agg (.pair (.at ap (t,.map (some m))) (.eq z.1)))] (jE 23 z r1.2) [0,2,3,4] ⟨rfl,rfl,rfl,rfl,rfl,rfl,rfl,rfl,trivial⟩ rfl)
  |true=>
   refine sr (mq ?_);refine ja (ig rfl) ?_;refine mq ?_;refine gm ?_;refine gm ?_;refine gb (bm rfl) ?_;refine pf (nt ?_);refine bu rfl (fun hb=>?_) (fun hb=>?_)
   ·replace h:(im k t xs n (w,x,r1.1,true,r1.2)).bind some=some r:=by
     have hd:r1.1 < q3:=of_decide_eq_true hb;simpa [hd] using h
    refine aa (ka (ak rfl gV (zl) rfl) ?_);refine mq ?_;refine fr 1 ?_;refine aS rfl rfl (aO rfl gV rfl rfl rfl) ⟨rfl,rfl,trivial⟩ ?_;refine aq ?_;refine cq (ao (aG (tn (aa ?_))));refine jb (bg rfl ew) ?_;refine mq (nl ?_);exact i7 ((),(w,x,r1.1,true,r1.2)) h (bM [.obj b7 131 (.rep fj x),.obj c 131 (.rep fj x),.obj b4 131 (.rep fj (0,0)),.inv m (bb k t),.obj y 128 (.agg (.pair (.at ap (t,.map (some m))) (.eq z.1)))] (jE 23 z r1.2) [0,2,3,4] ⟨rfl,rfl,rfl,rfl,rfl,rfl,rfl,rfl,trivial⟩ rfl)
   ·replace h:(im k t xs n (w,q2,q3,true,r1.2)).bind some=some r:=by
     have hd:¬r1.1 < q3:=of_decide_eq_false hb;simpa [hd] using h
    refine aV (aG (tn (aa (jb (bg rfl ew) ?_))));refine mq (nl ?_);exact i7 ((),(w,q2,q3,true,r1.2)) h (bM [.obj c 131 (.rep fj x),.obj b7 131 (.rep fj q2),.obj b4 131 (.rep fj (0,0)),.inv m (bb k t),.obj y 128 (.agg (.pair (.at ap (t,.map (some m))) (.eq z.1)))] (jE 23 z r1.2) [1,2,3,4] ⟨rfl,rfl,rfl,rfl,rfl,rfl,rfl,rfl,trivial⟩ rfl)
 replace h:=bv (lw hb) h
 refine dJ ?_
 refine aR ?_
 refine aR ?_
 refine bR ?_
 refine tn ?_
 cases h
 refine sr ?_
 refine ka (ak rfl gV (zl) rfl) ?_
 iterate 2 refine mq ?_
 refine fr 1 ?_
 refine aS rfl rfl (aO rfl gV rfl rfl rfl) ⟨rfl,rfl,trivial⟩ ?_
 refine aq ?_
 refine aq ?_
 refine nt ?_
 refine aA ?_
 refine bL (gw (Δ':=([.inv m (bb k t),.obj y 128 (.agg (.pair (.at ap (t,.map (some m))) (.eq z.1)))]++jE 23 z q5)++[.obj b4 131 (.rep fj q2),.obj b7 131 (.rep fj q2)]) (List.perm_append_comm (l₁:=([.obj b4 131 (.rep fj q2),.obj b7 131 (.rep fj q2)]:List D)))) ?_
 exact aL () [_,_,_] ([.inv m (bb k t),.obj y 128 (.agg (.pair (.at ap (t,.map (some m))) (.eq z.1)))]++jE 23 z q5:List D).length ⟨⟨b4,131,.rep fj q2,2,true,rfl,List.mem_append.2 (.inr (List.mem_cons_self ..)),gV,zl,rfl⟩,rfl,rfl,trivial⟩ (by rw [List.take_left])
theorem qN:ah Tryz.prog 97:=ah.of Tryz.func97 (by kernel_rfl) (by kernel_rfl)
theorem Qo:ah Tryz.prog 48:=ah.of Tryz.func48 (by kernel_rfl) (by kernel_rfl)
theorem Qn:ah Tryz.prog 84:=ah.of Tryz.func84 (by kernel_rfl) (by kernel_rfl)
theorem Qk:ah Tryz.prog 98:=ah.of Tryz.func98 (by kernel_rfl) (by kernel_rfl)
theorem Qj:ah Tryz.prog 99:=ah.of Tryz.func99 (by kernel_rfl) (by kernel_rfl)
theorem MC:dL Tryz.prog 22 1 false:=⟨fun w=>by kernel_rfl,fun w=>by kernel_rfl⟩
theorem MS:aW Tryz.prog 25 1 1:=aW.of (by kernel_rfl)
theorem oL:m9 Tryz.prog 28 23 1 24:=.of (z:=(.slice none 0 0)) oz (by kernel_rfl) rfl rfl rfl
theorem GY:m9 Tryz.prog 129 131 2 16:=.of (z:=(.agg #[.int .i64 0,.int .i64 0])) OR (by kernel_rfl) rfl rfl rfl
theorem Ny:zk Tryz.prog 128 #[(0,1),(1,1)]:=⟨_,SU,fun _=>by kernel_rfl⟩
theorem Na:∀w,(zeroValue 128).run Tryz.prog w= .ok (.agg #[.pointer none,.slice none 0 0]) w:=fun w=>by kernel_rfl
theorem OL:∀S w,(A.cells S w (.pair (.eq (.pointer none)) (.eq (.slice none 0 0))) (Value.cells (.agg #[.pointer none,.slice none 0 0])).toList):=fun _ _=>⟨[_],_,rfl,⟨rfl,rfl⟩,rfl,rfl⟩
theorem Nw:zk Tryz.prog 131 #[(0,1),(1,1)]:=⟨_,SS,fun _=>by kernel_rfl⟩
theorem LO:∀S w,(A.cells S w (.pair (I 0) (I 0)) (Value.cells (.agg #[.int .i64 0,.int .i64 0])).toList):=fun _ _=>⟨[_],_,rfl,⟨rfl,rfl⟩,rfl,rfl⟩
def fB:List Bool→Ga→Ga
 |true::l,e::g=>e::fB l g
 |false::l,_::g=>fB l g
 |_,_=>[]
def mF(y:Nat)(z1:Value)(l:List Int)(v v2:Value):Ga:=[(39,.eq (bP y)),(40,.eq (bP y)),(41,.eq (bP y)),(42,.eq (.pointer (some ⟨y,0+1,none⟩))),(43,.eq z1),(44,Ri l),(45,.eq v),(46,.rep (.slice .val) [v]),(47,.eq v2),(48,.eq (bP y)),(49,.eq (.pointer (some ⟨y,0+1,none⟩)))]
def lO(b2 y:Nat)(n i:Int)(l:List Int)(a1:List (List Int)):Ga:=[(2,.eq (bP b2)),(8,I n),(10,.eq (bP y)),(12,Ri l),(33,.rep (.slice (.slice (.int .i64))) a1),(34,I (a1.length:Int)),(35,I i)]
theorem Rj{i j:Int}:AE (.agg (.pair (I i) (I j))) (.rep fj (i,j)):=fun S w cs h=>by
 obtain⟨c1,c2,e,h1,h2⟩:=h
 exact⟨c1,c2,e,h1.1,h2.1⟩
def mD(k:Nat)(a1:List (List Int)):Nat→Int×List (List Int)→Option (List (List Int))
 |0,_=>none
 |n+1,q=>if q.1 < (a1.length:Int) then((bf a1 q.1).bind fun l=>(kC k l).bind fun l2=>if bY (q.2.length+1) then(ck (q.1+1)).bind fun w=>mD k a1 n (w,q.2++[l2]) else none) else some q.2
def kF(k:Nat)(t:bB)(i:Int):Nat→Int×List (Int×Int)×List (List Int)→Option (List (Int×Int)×List (List Int))
 |0,_=>none
 |n+1,q=>if q.1 < (t.2.1.length:Int) then((mV k t (i,q.1) q.2.2).bind fun r=>if r.1=true then(if bY (q.2.1.length+1) then(ck (q.1+1)).bind fun w=>kF k t i n (w,q.2.1++[(i,q.1)],r.2) else none) else(ck (q.1+1)).bind fun w=>kF k t i n (w,q.2.1,r.2)) else some q.2
def jD(k:Nat)(t:bB):Nat→Int×List (Int×Int)×List (List Int)→Option (List (Int×Int)×List (List Int))
 |0,_=>none
 |n+1,q=>if q.1 < (t.2.1.length:Int) then((ck (q.1+1)).bind fun w=>(kF k t q.1 k (w,q.2)).bind fun p=>jD k t n (w,p)) else some q.2
def uW(k:Nat)(a0:bB)(a1:(List (List Int))):Option (Int×Int×Int×Int):=
 (qc k a0 a1).bind fun L=>if¬(L.2=0) then some (0,0,0,L.2) else
 (mD k a1 k (0,[])).bind fun ls=>(jD k a0 k (0,[],ls)).bind fun p=>(lM k a0 p.1 p.2).bind fun b=>
 if(!b.2.2.1 || decide (L.1≤b.2.1))=true then some (0,0,0,11) else some (b.1.1,b.1.2,b.2.1,0)
theorem zD(k:Nat)(a0:bB)(a1:(List (List Int)))(r:Int×Int×Int×Int)(h:uW k a0 a1=some r):
 dc (gQ Tryz.prog) 40 [.rep aF a0,.rep (.slice (.slice (.int .i64))) a1] [.inv 0 gG] (fun _:Unit=>(bq [.eq (.int .i64 r.1),.eq (.int .i64 r.2.1),.eq (.int .i64 r.2.2.1),.eq (.int .i64 r.2.2.2)],[.inv 0 gG])):=by
 unfold uW at h
 replace h:=be h
 refine dc.of 97 Tryz.func40 rfl Tryz.ntmps40 rfl fun S w0=>?_
 refine ag ?_
 refine aa ?_
 refine aw rfl rfl rfl (oN rfl rfl) ⟨rfl,trivial⟩ fun b2=>?_
 refine dP rfl ?_
 refine dP rfl ?_
 refine dP rfl ?_
 refine dP rfl ?_
 refine ao ?_
 refine ae ?_
 show JC _ _ _ _ _
 obtain⟨L,eL,h⟩:=ab h
 have cL:=rW k a0 a1 L eL
 refine ag ?_
 refine aa ?_
 refine bV rfl rfl rfl (ak rfl GU (zl) rfl) ⟨rfl,trivial⟩ ?_
 refine ax rfl rfl ?_
 refine bD 1 rfl ?_
 refine bV rfl rfl rfl (c9 [.tmp 21,.tmp 22] rfl rfl Qo rfl cL) ⟨rfl,rfl,trivial⟩ ?_
 refine ax rfl rfl ?_
 refine aB rfl (io rfl rfl) ⟨rfl,trivial⟩ ?_
 refine aB rfl (io rfl rfl) ⟨rfl,trivial⟩ ?_
 refine dx rfl rfl ?_
 refine dx rfl rfl ?_
 refine ao ?_
 refine ae ?_
 show JC _ _ _ _ _
 refine ag ?_
 refine ag ?_
 refine aa ?_
 refine ax rfl rfl ?_
 refine aB rfl (jd rfl) ⟨rfl,rfl,trivial⟩ ?_
 refine ao ?_
 refine ae ?_
 show JC _ _ _ _ _
 refine bu rfl (fun hb=>?_) (fun hb=>?_)
 ·
  replace h:=cr (PZ hb) h
  refine ag ?_
  refine aa ?_
  refine ax rfl rfl ?_
  refine dP rfl ?_
  refine dP rfl ?_
  refine dP rfl ?_
  refine dx rfl rfl ?_
  refine ao ?_
  refine ae ?_
  show JC _ _ _ _ _
  refine aA ?_
  refine aZ ?_
  obtain rfl:=Option.some.inj h
  exact aL () [_,_,_,_] 1 ⟨rfl,rfl,rfl,rfl,trivial⟩ rfl
 replace h:=bv (HV hb) h
 refine aV ?_
 refine ae ?_
 show JC _ _ _ _ _
 rw [Option.bind_assoc] at h
 refine ag ?_
 refine aa ?_
 refine bD 1 rfl ?_
 refine bV rfl rfl rfl (ak rfl GU (zl) rfl) ⟨rfl,trivial⟩ ?_
 refine aw rfl rfl rfl (an [.tmp 29] rfl rfl Qn rfl (fk a0)) ⟨rfl,trivial⟩ fun m=>?_
 refine cD (jO (bb k a0) km) ?_
 refine aB rfl (cU [(0,.tmp 30,_)] rfl Ny Na OL (iQ ⟨trivial,trivial⟩) rfl) ⟨rfl,trivial⟩ ?_
 refine aw rfl rfl rfl (oN rfl trivial) ⟨rfl,trivial⟩ fun y=>?_
 refine dx rfl rfl ?_
 refine ao ?_
 refine ae ?_
 show JC _ _ _ _ _
 refine ag ?_
 refine ag ?_
 refine aa ?_
 refine ax rfl rfl ?_
 refine aB rfl (jF rfl rfl oz) ⟨rfl,trivial⟩ ?_
 refine eD rfl ?_
 refine cD (SE.nil 23 .val) ?_
 refine cD (gw (Δ':=[.obj y 128 (.agg (.pair (.at ap (a0,.map (some m))) (.eq (.slice none 0 0)))),.inv m (bb k a0),.obj b2 25 (.rep aF a0),.inv 0 gG]++jE 23 (.slice none 0 0,fun _=>undef) []) (List.Perm.trans (List.perm_append_comm (l₁:=([.sl (.slice none 0 0) 23 .val []]:List D))) (List.Perm.refl _))) ?_
 refine ao ?_
 refine ae ?_
 show JC _ _ _ _ _
 refine aj ?_
 refine aI (Z:=Value×(Nat→Value)) (α:=Int×List (List Int)) (fun z q=>[(2,.eq (bP b2)),(8,.eq (.int .i64 L.1)),(10,.eq (bP y)),(33,.rep (.slice (.slice (.int .i64))) a1),(34,.eq (.int .i64 (a1.length:Int))),(35,.eq (.int .i64 q.1))]) (fun z q=>[.obj y 128 (.agg (.pair (.at ap (a0,.map (some m))) (.eq z.1))),.inv m (bb k a0),.obj b2 25 (.rep aF a0),.inv 0 gG]++jE 23 z q.2) (mD k a1) k (.slice none 0 0,fun _=>undef) (0,[]) (fun _=>rfl) h (bM [.obj y 128 (.agg (.pair (.at ap (a0,.map (some m))) (.eq (.slice none 0 0)))),.inv m (bb k a0),.obj b2 25 (.rep aF a0),.inv 0 gG] (jE 23 (.slice none 0 0,fun _=>undef) []) [0,1,2,3] ⟨rfl,rfl,rfl,rfl,rfl,rfl,trivial⟩ rfl) (fun n z q h=>?_)
 unfold mD at h
 refine ag ?_
 refine aa ?_
 refine aB rfl (bm rfl) ⟨rfl,rfl,trivial⟩ ?_
 refine ao ?_
 refine ae ?_
 show JC _ _ _ _ _
 refine ag ?_
 refine bu rfl (fun hb=>?_) (fun hb=>?_)
 ·
  replace h:=cr (mh hb) h
  obtain⟨q1,q2⟩:=q
  obtain⟨l,el,h⟩:=ab h
  obtain⟨l2,el2,h⟩:=ab h
  have hk:bY (q2.length+1):=by
   apply Classical.byContradiction
   intro hn
   rw [if_neg hn] at h
   cases h
  replace h:=cr hk h
  have cc:=ny k l l2 el2
  refine aV ?_
  refine ae ?_
  show JC _ _ _ _ _
  refine ag ?_
  refine aj ?_
  refine ag ?_
  refine aa ?_
  refine aB rfl (ba (t:=.slice (.int .i64)) rfl oz DG el) ⟨rfl,rfl,trivial⟩ ?_
  refine aB rfl (ar (t:=.slice (.int .i64)) rfl DG rfl) ⟨rfl,trivial⟩ ?_
  refine dx rfl rfl ?_
  refine ao ?_
  refine ae ?_
  show JC _ _ _ _ _
  refine fw (Ey (pre:=[.obj y 128 (.agg (.pair (.at ap (a0,.map (some m))) (.eq z.1))),.inv m (bb k a0),.obj b2 25 (.rep aF a0),.inv 0 gG])) ?_
  refine ct 1 rfl ?_
  refine fw (SE.sub (Γ':=lO b2 y L.1 q1 l a1) ⟨rfl,rfl,rfl,rfl,rfl,rfl,rfl,trivial⟩) ?_
  generalize hB:lO b2 y L.1 q1 l a1=B
  refine Bj (Δ:=[.obj y 128 (.agg (.pair (.at ap (a0,.map (some m))) (.eq z.1))),.sl z.1 23 .val (dH z.2 0 q2)]) (F:=[.inv m (bb k a0),.obj b2 25 (.rep aF a0),.inv 0 gG]++fZ z.2 0 q2) (Z:=Value×Value) (fun p=>B) (fun p=>[.obj y 128 (.agg (.pair (.at ap (a0,.map (some m))) (.eq p.2))),.sl p.2 23 .val (dH z.2 0 q2++[p.1]),.sl p.1 3 (.int .i64) l2]) (fun S w=>?_) (fun p=>?_)
  ·
   subst hB
   refine Bl (I:=Value×Value) (Ge:=fun _=>lO b2 y L.1 q1 l a1) (De:=fun p=>[.obj y 128 (.agg (.pair (.at ap (a0,.map (some m))) (.eq p.2))),.sl p.2 23 .val (dH z.2 0 q2++[p.1]),.sl p.1 3 (.int .i64) l2]) (L:=[true,true,true,true,true,true,true,true,true,true,true,true]) rn rfl (fun J hJ hE=>?_) (by kernel_rfl) (fun p=>?_)
   ·
    have s2047:∀(v v2:Value),J 1 [true,true,true,true,true,true,true,true,true,true,true,false] (fB [true,true,true,true,true,true,true,true,true,true,true,false] (mF y z.1 l v v2)++lO b2 y L.1 q1 l a1) [.obj y 128 (.agg (.pair (.at ap (a0,.map (some m))) (.eq z.1))),.sl v2 23 .val (dH z.2 0 q2++[v]),.sl v 3 (.int .i64) l2]:=fun v v2=>by
     subst hJ
     refine JD.step [11] (by kernel_rfl) rfl ?_
     refine cI.cons rfl ?_ ?_
     ·
      refine bD 1 rfl ?_
      refine gz fun hv=>?_
      refine bD 1 rfl ?_
      refine aS rfl rfl (aO rfl oK hv rfl rfl) ⟨rfl,rfl,trivial⟩ ?_
      exact aC (hE (v,v2)) [0,1,2] ⟨rfl,rfl,rfl,rfl,rfl,rfl,rfl,trivial⟩
     exact trivial
    have s1023:∀(v v2:Value),J 2 [true,true,true,true,true,true,true,true,true,true,false,false] (fB [true,true,true,true,true,true,true,true,true,true,false,false] (mF y z.1 l v v2)++lO b2 y L.1 q1 l a1) [.obj y 128 (.agg (.pair (.at ap (a0,.map (some m))) (.eq z.1))),.sl v2 23 .val (dH z.2 0 q2++[v]),.sl v 3 (.int .i64) l2]:=fun v v2=>by
     subst hJ
     refine JD.step [10] (by kernel_rfl) rfl ?_
     refine cI.cons rfl ?_ ?_
     ·
      refine aB rfl (av rfl uC) ⟨rfl,trivial⟩ ?_
      exact aC (s2047 v v2) [0,1,2] ⟨rfl,rfl,rfl,rfl,rfl,rfl,rfl,rfl,rfl,rfl,rfl,rfl,rfl,rfl,rfl,rfl,rfl,rfl,trivial⟩
     exact trivial
    have s511:∀(v v2:Value),J 3 [true,true,true,true,true,true,true,true,true,false,false,false] (fB [true,true,true,true,true,true,true,true,true,false,false,false] (mF y z.1 l v v2)++lO b2 y L.1 q1 l a1) [.obj y 128 (.agg (.pair (.at ap (a0,.map (some m))) (.eq z.1))),.sl v2 23 .val (dH z.2 0 q2++[v]),.sl v 3 (.int .i64) l2]:=fun v v2=>by
     subst hJ
     refine JD.step [9] (by kernel_rfl) rfl ?_
     refine cI.cons rfl ?_ ?_
     ·
      refine aB rfl (aX rfl) ⟨rfl,trivial⟩ ?_
      exact aC (s1023 v v2) [0,1,2] ⟨rfl,rfl,rfl,rfl,rfl,rfl,rfl,rfl,rfl,rfl,rfl,rfl,rfl,rfl,rfl,rfl,rfl,trivial⟩
     exact trivial
    have s255:∀(v:Value),J 4 [true,true,true,true,true,true,true,true,false,false,false,false] (fB [true,true,true,true,true,true,true,true,false,false,false,false] (mF y z.1 l v undef)++lO b2 y L.1 q1 l a1) [.obj y 128 (.agg (.pair (.at ap (a0,.map (some m))) (.eq z.1))),.sl z.1 23 .val (dH z.2 0 q2),.sl v 3 (.int .i64) l2]:=fun v=>by
     subst hJ
     refine JD.step [8] (by kernel_rfl) rfl ?_
     refine cI.cons rfl ?_ ?_
     ·
      refine bD 1 rfl ?_
      refine dN rfl rfl rfl (cz rfl rfl oL (by simpa [dQ] using hk)) ⟨rfl,rfl,trivial⟩ fun v2=>?_
      exact aC (s511 v v2) [1,0,2] ⟨rfl,rfl,rfl,rfl,rfl,rfl,rfl,rfl,rfl,rfl,rfl,rfl,rfl,rfl,rfl,rfl,trivial⟩
     exact trivial
    have s510:∀(v v2:Value),J 4 [false,true,true,true,true,true,true,true,true,false,false,false] (fB [false,true,true,true,true,true,true,true,true,false,false,false] (mF y z.1 l v v2)++lO b2 y L.1 q1 l a1) [.obj y 128 (.agg (.pair (.at ap (a0,.map (some m))) (.eq z.1))),.sl v2 23 .val (dH z.2 0 q2++[v]),.sl v 3 (.int .i64) l2]:=fun v v2=>by
     subst hJ
     refine JD.step [0] (by kernel_rfl) rfl ?_
     refine cI.cons rfl ?_ ?_
     ·
      refine ax rfl rfl ?_
      exact aC (s511 v v2) [0,1,2] ⟨rfl,rfl,rfl,rfl,rfl,rfl,rfl,rfl,rfl,rfl,rfl,rfl,rfl,rfl,rfl,rfl,trivial⟩
     exact trivial
    have s127:∀(v:Value),J 5 [true,true,true,true,true,true,true,false,false,false,false,false] (fB [true,true,true,true,true,true,true,false,false,false,false,false] (mF y z.1 l v undef)++lO b2 y L.1 q1 l a1) [.obj y 128 (.agg (.pair (.at ap (a0,.map (some m))) (.eq z.1))),.sl z.1 23 .val (dH z.2 0 q2),.sl v 3 (.int .i64) l2]:=fun v=>by
     subst hJ
     refine JD.step [7] (by kernel_rfl) rfl ?_
     refine cI.cons rfl ?_ ?_
     ·
      refine bD 2 rfl ?_
      refine gz fun hv=>?_
      refine aB rfl (bH (t:=.val) [(.tmp 45,.eq v)] [v] rfl rfl oL (.cons hv (.val hv) .nil) rfl rfl) ⟨rfl,trivial⟩ ?_
      exact aC (s255 v) [1,2,0] ⟨rfl,rfl,rfl,rfl,rfl,rfl,rfl,rfl,rfl,rfl,rfl,rfl,rfl,rfl,rfl,trivial⟩
     exact trivial
    have s239:∀(v:Value),J 5 [true,true,true,true,false,true,true,true,false,false,false,false] (fB [true,true,true,true,false,true,true,true,false,false,false,false] (mF y z.1 l v undef)++lO b2 y L.1 q1 l a1) [.obj y 128 (.agg (.pair (.at ap (a0,.map (some m))) (.eq z.1))),.sl z.1 23 .val (dH z.2 0 q2),.sl v 3 (.int .i64) l2]:=fun v=>by
     subst hJ
     refine JD.step [4] (by kernel_rfl) rfl ?_
     refine cI.cons rfl ?_ ?_
     ·
      refine bV rfl rfl rfl (ak rfl oK kV rfl) ⟨rfl,trivial⟩ ?_
      exact aC (s255 v) [0,1,2] ⟨rfl,rfl,rfl,rfl,rfl,rfl,rfl,rfl,rfl,rfl,rfl,rfl,rfl,rfl,rfl,trivial⟩
     exact trivial
    have s254:∀(v:Value),J 5 [false,true,true,true,true,true,true,true,false,false,false,false] (fB [false,true,true,true,true,true,true,true,false,false,false,false] (mF y z.1 l v undef)++lO b2 y L.1 q1 l a1) [.obj y 128 (.agg (.pair (.at ap (a0,.map (some m))) (.eq z.1))),.sl z.1 23 .val (dH z.2 0 q2),.sl v 3 (.int .i64) l2]:=fun v=>by
     subst hJ
     refine JD.step [0,8] (by kernel_rfl) rfl ?_
     refine cI.cons rfl ?_ ?_
     ·
      refine ax rfl rfl ?_
      exact aC (s255 v) [0,1,2] ⟨rfl,rfl,rfl,rfl,rfl,rfl,rfl,rfl,rfl,rfl,rfl,rfl,rfl,rfl,rfl,trivial⟩
     refine cI.cons rfl ?_ ?_
     ·
      refine bD 1 rfl ?_
      refine dN rfl rfl rfl (cz rfl rfl oL (by simpa [dQ] using hk)) ⟨rfl,rfl,trivial⟩ fun v2=>?_
      exact aC (s510 v v2) [1,0,2] ⟨rfl,rfl,rfl,rfl,rfl,rfl,rfl,rfl,rfl,rfl,rfl,rfl,rfl,rfl,rfl,trivial⟩
     exact trivial
    have s63:J 6 [true,true,true,true,true,true,false,false,false,false,false,false] (fB [true,true,true,true,true,true,false,false,false,false,false,false] (mF y z.1 l undef undef)++lO b2 y L.1 q1 l a1) [.obj y 128 (.agg (.pair (.at ap (a0,.map (some m))) (.eq z.1))),.sl z.1 23 .val (dH z.2 0 q2)]:=by
     subst hJ
     refine JD.step [6] (by kernel_rfl) rfl ?_
     refine cI.cons rfl ?_ ?_
     ·
      refine aw rfl rfl rfl (an [.tmp 44] rfl rfl qN rfl cc) ⟨rfl,trivial⟩ fun v=>?_
      exact aC (s127 v) [1,2,0] ⟨rfl,rfl,rfl,rfl,rfl,rfl,rfl,rfl,rfl,rfl,rfl,rfl,rfl,rfl,trivial⟩
     exact trivial
    have s111:∀(v:Value),J 6 [true,true,true,true,false,true,true,false,false,false,false,false] (fB [true,true,true,true,false,true,true,false,false,false,false,false] (mF y z.1 l v undef)++lO b2 y L.1 q1 l a1) [.obj y 128 (.agg (.pair (.at ap (a0,.map (some m))) (.eq z.1))),.sl z.1 23 .val (dH z.2 0 q2),.sl v 3 (.int .i64) l2]:=fun v=>by
     subst hJ
     refine JD.step [4,7] (by kernel_rfl) rfl ?_
     refine cI.cons rfl ?_ ?_
     ·
      refine bV rfl rfl rfl (ak rfl oK kV rfl) ⟨rfl,trivial⟩ ?_
      exact aC (s127 v) [0,1,2] ⟨rfl,rfl,rfl,rfl,rfl,rfl,rfl,rfl,rfl,rfl,rfl,rfl,rfl,rfl,trivial⟩
     refine cI.cons rfl ?_ ?_
     ·
      refine bD 2 rfl ?_
      refine gz fun hv=>?_
      refine aB rfl (bH (t:=.val) [(.tmp 45,.eq v)] [v] rfl rfl oL (.cons hv (.val hv) .nil) rfl rfl) ⟨rfl,trivial⟩ ?_
      exact aC (s239 v) [1,2,0] ⟨rfl,rfl,rfl,rfl,rfl,rfl,rfl,rfl,rfl,rfl,rfl,rfl,rfl,rfl,trivial⟩
     exact trivial
    have s126:∀(v:Value),J 6 [false,true,true,true,true,true,true,false,false,false,false,false] (fB [false,true,true,true,true,true,true,false,false,false,false,false] (mF y z.1 l v undef)++lO b2 y L.1 q1 l a1) [.obj y 128 (.agg (.pair (.at ap (a0,.map (some m))) (.eq z.1))),.sl z.1 23 .val (dH z.2 0 q2),.sl v 3 (.int .i64) l2]:=fun v=>by
     subst hJ
     refine JD.step [0,7] (by kernel_rfl) rfl ?_
     refine cI.cons rfl ?_ ?_
     ·
      refine ax rfl rfl ?_
      exact aC (s127 v) [0,1,2] ⟨rfl,rfl,rfl,rfl,rfl,rfl,rfl,rfl,rfl,rfl,rfl,rfl,rfl,rfl,trivial⟩
     refine cI.cons rfl ?_ ?_
     ·
      refine bD 2 rfl ?_
      refine gz fun hv=>?_
      refine aB rfl (bH (t:=.val) [(.tmp 45,.eq v)] [v] rfl rfl oL (.cons hv (.val hv) .nil) rfl rfl) ⟨rfl,trivial⟩ ?_
      exact aC (s254 v) [1,2,0] ⟨rfl,rfl,rfl,rfl,rfl,rfl,rfl,rfl,rfl,rfl,rfl,rfl,rfl,rfl,trivial⟩
     exact trivial
    have s231:∀(v:Value),J 6 [true,true,true,false,false,true,true,true,false,false,false,false] (fB [true,true,true,false,false,true,true,true,false,false,false,false] (mF y z.1 l v undef)++lO b2 y L.1 q1 l a1) [.obj y 128 (.agg (.pair (.at ap (a0,.map (some m))) (.eq z.1))),.sl z.1 23 .val (dH z.2 0 q2),.sl v 3 (.int .i64) l2]:=fun v=>by
     subst hJ
     refine JD.step [3] (by kernel_rfl) rfl ?_
     refine cI.cons rfl ?_ ?_
     ·
      refine aB rfl (av rfl uC) ⟨rfl,trivial⟩ ?_
      exact aC (s239 v) [0,1,2] ⟨rfl,rfl,rfl,rfl,rfl,rfl,rfl,rfl,rfl,rfl,rfl,rfl,rfl,rfl,trivial⟩
     exact trivial
    have s238:∀(v:Value),J 6 [false,true,true,true,false,true,true,true,false,false,false,false] (fB [false,true,true,true,false,true,true,true,false,false,false,false] (mF y z.1 l v undef)++lO b2 y L.1 q1 l a1) [.obj y 128 (.agg (.pair (.at ap (a0,.map (some m))) (.eq z.1))),.sl z.1 23 .val (dH z.2 0 q2),.sl v 3 (.int .i64) l2]:=fun v=>by
     subst hJ
     refine JD.step [0,4] (by kernel_rfl) rfl ?_
     refine cI.cons rfl ?_ ?_
     ·
      refine ax rfl rfl ?_
      exact aC (s239 v) [0,1,2] ⟨rfl,rfl,rfl,rfl,rfl,rfl,rfl,rfl,rfl,rfl,rfl,rfl,rfl,rfl,trivial⟩
     refine cI.cons rfl ?_ ?_
     ·
      refine bV rfl rfl rfl (ak rfl oK kV rfl) ⟨rfl,trivial⟩ ?_
      exact aC (s254 v) [0,1,2] ⟨rfl,rfl,rfl,rfl,rfl,rfl,rfl,rfl,rfl,rfl,rfl,rfl,rfl,rfl,trivial⟩
     exact trivial
    have s31:J 7 [true,true,true,true,true,false,false,false,false,false,false,false] (fB [true,true,true,true,true,false,false,false,false,false,false,false] (mF y z.1 l undef undef)++lO b2 y L.1 q1 l a1) [.obj y 128 (.agg (.pair (.at ap (a0,.map (some m))) (.eq z.1))),.sl z.1 23 .val (dH z.2 0 q2)]:=by
     subst hJ
     refine JD.step [5] (by kernel_rfl) rfl ?_
     refine cI.cons rfl ?_ ?_
     ·
      refine ax rfl rfl ?_
      exact aC (s63) [0,1] ⟨rfl,rfl,rfl,rfl,rfl,rfl,rfl,rfl,rfl,rfl,rfl,rfl,rfl,trivial⟩
     exact trivial
    have s47:J 7 [true,true,true,true,false,true,false,false,false,false,false,false] (fB [true,true,true,true,false,true,false,false,false,false,false,false] (mF y z.1 l undef undef)++lO b2 y L.1 q1 l a1) [.obj y 128 (.agg (.pair (.at ap (a0,.map (some m))) (.eq z.1))),.sl z.1 23 .val (dH z.2 0 q2)]:=by
     subst hJ
     refine JD.step [4,6] (by kernel_rfl) rfl ?_
     refine cI.cons rfl ?_ ?_
     ·
      refine bV rfl rfl rfl (ak rfl oK kV rfl) ⟨rfl,trivial⟩ ?_
      exact aC (s63) [0,1] ⟨rfl,rfl,rfl,rfl,rfl,rfl,rfl,rfl,rfl,rfl,rfl,rfl,rfl,trivial⟩
     refine cI.cons rfl ?_ ?_
     ·
      refine aw rfl rfl rfl (an [.tmp 44] rfl rfl qN rfl cc) ⟨rfl,trivial⟩ fun v=>?_
      exact aC (s111 v) [1,2,0] ⟨rfl,rfl,rfl,rfl,rfl,rfl,rfl,rfl,rfl,rfl,rfl,rfl,rfl,trivial⟩
     exact trivial
    have s62:J 7 [false,true,true,true,true,true,false,false,false,false,false,false] (fB [false,true,true,true,true,true,false,false,false,false,false,false] (mF y z.1 l undef undef)++lO b2 y L.1 q1 l a1) [.obj y 128 (.agg (.pair (.at ap (a0,.map (some m))) (.eq z.1))),.sl z.1 23 .val (dH z.2 0 q2)]:=by
     subst hJ
     refine JD.step [0,6] (by kernel_rfl) rfl ?_
     refine cI.cons rfl ?_ ?_
     ·
      refine ax rfl rfl ?_
      exact aC (s63) [0,1] ⟨rfl,rfl,rfl,rfl,rfl,rfl,rfl,rfl,rfl,rfl,rfl,rfl,rfl,trivial⟩
     refine cI.cons rfl ?_ ?_
     ·
      refine aw rfl rfl rfl (an [.tmp 44] rfl rfl qN rfl cc) ⟨rfl,trivial⟩ fun v=>?_
      exact aC (s126 v) [1,2,0] ⟨rfl,rfl,rfl,rfl,rfl,rfl,rfl,rfl,rfl,rfl,rfl,rfl,rfl,trivial⟩
     exact trivial
    have s103:∀(v:Value),J 7 [true,true,true,false,false,true,true,false,false,false,false,false] (fB [true,true,true,false,false,true,true,false,false,false,false,false] (mF y z.1 l v undef)++lO b2 y L.1 q1 l a1) [.obj y 128 (.agg (.pair (.at ap (a0,.map (some m))) (.eq z.1))),.sl z.1 23 .val (dH z.2 0 q2),.sl v 3 (.int .i64) l2]:=fun v=>by
     subst hJ
     refine JD.step [3,7] (by kernel_rfl) rfl ?_
     refine cI.cons rfl ?_ ?_
     ·
      refine aB rfl (av rfl uC) ⟨rfl,trivial⟩ ?_
      exact aC (s111 v) [0,1,2] ⟨rfl,rfl,rfl,rfl,rfl,rfl,rfl,rfl,rfl,rfl,rfl,rfl,rfl,trivial⟩
     refine cI.cons rfl ?_ ?_
     ·
      refine bD 2 rfl ?_
      refine gz fun hv=>?_
      refine aB rfl (bH (t:=.val) [(.tmp 45,.eq v)] [v] rfl rfl oL (.cons hv (.val hv) .nil) rfl rfl) ⟨rfl,trivial⟩ ?_
      exact aC (s231 v) [1,2,0] ⟨rfl,rfl,rfl,rfl,rfl,rfl,rfl,rfl,rfl,rfl,rfl,rfl,rfl,trivial⟩
     exact trivial
    have s110:∀(v:Value),J 7 [false,true,true,true,false,true,true,false,false,false,false,false] (fB [false,true,true,true,false,true,true,false,false,false,false,false] (mF y z.1 l v undef)++lO b2 y L.1 q1 l a1) [.obj y 128 (.agg (.pair (.at ap (a0,.map (some m))) (.eq z.1))),.sl z.1 23 .val (dH z.2 0 q2),.sl v 3 (.int .i64) l2]:=fun v=>by
     subst hJ
     refine JD.step [0,4,7] (by kernel_rfl) rfl ?_
     refine cI.cons rfl ?_ ?_
     ·
      refine ax rfl rfl ?_
      exact aC (s111 v) [0,1,2] ⟨rfl,rfl,rfl,rfl,rfl,rfl,rfl,rfl,rfl,rfl,rfl,rfl,rfl,trivial⟩
     refine cI.cons rfl ?_ ?_
     ·
      refine bV rfl rfl rfl (ak rfl oK kV rfl) ⟨rfl,trivial⟩ ?_
      exact aC (s126 v) [0,1,2] ⟨rfl,rfl,rfl,rfl,rfl,rfl,rfl,rfl,rfl,rfl,rfl,rfl,rfl,trivial⟩
     refine cI.cons rfl ?_ ?_
     ·
      refine bD 2 rfl ?_
      refine gz fun hv=>?_
      refine aB rfl (bH (t:=.val) [(.tmp 45,.eq v)] [v] rfl rfl oL (.cons hv (.val hv) .nil) rfl rfl) ⟨rfl,trivial⟩ ?_
      exact aC (s238 v) [1,2,0] ⟨rfl,rfl,rfl,rfl,rfl,rfl,rfl,rfl,rfl,rfl,rfl,rfl,rfl,trivial⟩
     exact trivial
    have s227:∀(v:Value),J 7 [true,true,false,false,false,true,true,true,false,false,false,false] (fB [true,true,false,false,false,true,true,true,false,false,false,false] (mF y z.1 l v undef)++lO b2 y L.1 q1 l a1) [.obj y 128 (.agg (.pair (.at ap (a0,.map (some m))) (.eq z.1))),.sl z.1 23 .val (dH z.2 0 q2),.sl v 3 (.int .i64) l2]:=fun v=>by
     subst hJ
     refine JD.step [2] (by kernel_rfl) rfl ?_
     refine cI.cons rfl ?_ ?_
     ·
      refine aB rfl (aX rfl) ⟨rfl,trivial⟩ ?_
      exact aC (s231 v) [0,1,2] ⟨rfl,rfl,rfl,rfl,rfl,rfl,rfl,rfl,rfl,rfl,rfl,rfl,rfl,trivial⟩
     exact trivial
    have s230:∀(v:Value),J 7 [false,true,true,false,false,true,true,true,false,false,false,false] (fB [false,true,true,false,false,true,true,true,false,false,false,false] (mF y z.1 l v undef)++lO b2 y L.1 q1 l a1) [.obj y 128 (.agg (.pair (.at ap (a0,.map (some m))) (.eq z.1))),.sl z.1 23 .val (dH z.2 0 q2),.sl v 3 (.int .i64) l2]:=fun v=>by
     subst hJ
     refine JD.step [0,3] (by kernel_rfl) rfl ?_
     refine cI.cons rfl ?_ ?_
     ·
      refine ax rfl rfl ?_
      exact aC (s231 v) [0,1,2] ⟨rfl,rfl,rfl,rfl,rfl,rfl,rfl,rfl,rfl,rfl,rfl,rfl,rfl,trivial⟩
     refine cI.cons rfl ?_ ?_
     ·
      refine aB rfl (av rfl uC) ⟨rfl,trivial⟩ ?_
      exact aC (s238 v) [0,1,2] ⟨rfl,rfl,rfl,rfl,rfl,rfl,rfl,rfl,rfl,rfl,rfl,rfl,rfl,trivial⟩
     exact trivial
    have s15:J 8 [true,true,true,true,false,false,false,false,false,false,false,false] (fB [true,true,true,true,false,false,false,false,false,false,false,false] (mF y z.1 l undef undef)++lO b2 y L.1 q1 l a1) [.obj y 128 (.agg (.pair (.at ap (a0,.map (some m))) (.eq z.1))),.sl z.1 23 .val (dH z.2 0 q2)]:=by
     subst hJ
     refine JD.step [4,5] (by kernel_rfl) rfl ?_
     refine cI.cons rfl ?_ ?_
     ·
      refine bV rfl rfl rfl (ak rfl oK kV rfl) ⟨rfl,trivial⟩ ?_
      exact aC (s31) [0,1] ⟨rfl,rfl,rfl,rfl,rfl,rfl,rfl,rfl,rfl,rfl,rfl,rfl,trivial⟩
     refine cI.cons rfl ?_ ?_
     ·
      refine ax rfl rfl ?_
      exact aC (s47) [0,1] ⟨rfl,rfl,rfl,rfl,rfl,rfl,rfl,rfl,rfl,rfl,rfl,rfl,trivial⟩
     exact trivial
    have s30:J 8 [false,true,true,true,true,false,false,false,false,false,false,false] (fB [false,true,true,true,true,false,false,false,false,false,false,false] (mF y z.1 l undef undef)++lO b2 y L.1 q1 l a1) [.obj y 128 (.agg (.pair (.at ap (a0,.map (some m))) (.eq z.1))),.sl z.1 23 .val (dH z.2 0 q2)]:=by
     subst hJ
     refine JD.step [0,5] (by kernel_rfl) rfl ?_
     refine cI.cons rfl ?_ ?_
     ·
      refine ax rfl rfl ?_
      exact aC (s31) [0,1] ⟨rfl,rfl,rfl,rfl,rfl,rfl,rfl,rfl,rfl,rfl,rfl,rfl,trivial⟩
     refine cI.cons rfl ?_ ?_
     ·
      refine ax rfl rfl ?_
      exact aC (s62) [0,1] ⟨rfl,rfl,rfl,rfl,rfl,rfl,rfl,rfl,rfl,rfl,rfl,rfl,trivial⟩
     exact trivial
    have s39:J 8 [true,true,true,false,false,true,false,false,false,false,false,false] (fB [true,true,true,false,false,true,false,false,false,false,false,false] (mF y z.1 l undef undef)++lO b2 y L.1 q1 l a1) [.obj y 128 (.agg (.pair (.at ap (a0,.map (some m))) (.eq z.1))),.sl z.1 23 .val (dH z.2 0 q2)]:=by
     subst hJ
     refine JD.step [3,6] (by kernel_rfl) rfl ?_
     refine cI.cons rfl ?_ ?_
     ·
      refine aB rfl (av rfl uC) ⟨rfl,trivial⟩ ?_
      exact aC (s47) [0,1] ⟨rfl,rfl,rfl,rfl,rfl,rfl,rfl,rfl,rfl,rfl,rfl,rfl,trivial⟩
     refine cI.cons rfl ?_ ?_
     ·
      refine aw rfl rfl rfl (an [.tmp 44] rfl rfl qN rfl cc) ⟨rfl,trivial⟩ fun v=>?_
      exact aC (s103 v) [1,2,0] ⟨rfl,rfl,rfl,rfl,rfl,rfl,rfl,rfl,rfl,rfl,rfl,rfl,trivial⟩
     exact trivial
    have s46:J 8 [false,true,true,true,false,true,false,false,false,false,false,false] (fB [false,true,true,true,false,true,false,false,false,false,false,false] (mF y z.1 l undef undef)++lO b2 y L.1 q1 l a1) [.obj y 128 (.agg (.pair (.at ap (a0,.map (some m))) (.eq z.1))),.sl z.1 23 .val (dH z.2 0 q2)]:=by
     subst hJ
     refine JD.step [0,4,6] (by kernel_rfl) rfl ?_
     refine cI.cons rfl ?_ ?_
     ·
      refine ax rfl rfl ?_
      exact aC (s47) [0,1] ⟨rfl,rfl,rfl,rfl,rfl,rfl,rfl,rfl,rfl,rfl,rfl,rfl,trivial⟩
     refine cI.cons rfl ?_ ?_
     ·
      refine bV rfl rfl rfl (ak rfl oK kV rfl) ⟨rfl,trivial⟩ ?_
      exact aC (s62) [0,1] ⟨rfl,rfl,rfl,rfl,rfl,rfl,rfl,rfl,rfl,rfl,rfl,rfl,trivial⟩
     refine cI.cons rfl ?_ ?_
     ·
      refine aw rfl rfl rfl (an [.tmp 44] rfl rfl qN rfl cc) ⟨rfl,trivial⟩ fun v=>?_
      exact aC (s110 v) [1,2,0] ⟨rfl,rfl,rfl,rfl,rfl,rfl,rfl,rfl,rfl,rfl,rfl,rfl,trivial⟩
     exact trivial
    have s99:∀(v:Value),J 8 [true,true,false,false,false,true,true,false,false,false,false,false] (fB [true,true,false,false,false,true,true,false,false,false,false,false] (mF y z.1 l v undef)++lO b2 y L.1 q1 l a1) [.obj y 128 (.agg (.pair (.at ap (a0,.map (some m))) (.eq z.1))),.sl z.1 23 .val (dH z.2 0 q2),.sl v 3 (.int .i64) l2]:=fun v=>by
     subst hJ
     refine JD.step [2,7] (by kernel_rfl) rfl ?_
     refine cI.cons rfl ?_ ?_
     ·
      refine aB rfl (aX rfl) ⟨rfl,trivial⟩ ?_
      exact aC (s103 v) [0,1,2] ⟨rfl,rfl,rfl,rfl,rfl,rfl,rfl,rfl,rfl,rfl,rfl,rfl,trivial⟩
     refine cI.cons rfl ?_ ?_
     ·
      refine bD 2 rfl ?_
      refine gz fun hv=>?_
      refine aB rfl (bH (t:=.val) [(.tmp 45,.eq v)] [v] rfl rfl oL (.cons hv (.val hv) .nil) rfl rfl) ⟨rfl,trivial⟩ ?_
      exact aC (s227 v) [1,2,0] ⟨rfl,rfl,rfl,rfl,rfl,rfl,rfl,rfl,rfl,rfl,rfl,rfl,trivial⟩
     exact trivial
    have s102:∀(v:Value),J 8 [false,true,true,false,false,true,true,false,false,false,false,false] (fB [false,true,true,false,false,true,true,false,false,false,false,false] (mF y z.1 l v undef)++lO b2 y L.1 q1 l a1) [.obj y 128 (.agg (.pair (.at ap (a0,.map (some m))) (.eq z.1))),.sl z.1 23 .val (dH z.2 0 q2),.sl v 3 (.int .i64) l2]:=fun v=>by
     subst hJ
     refine JD.step [0,3,7] (by kernel_rfl) rfl ?_
     refine cI.cons rfl ?_ ?_
     ·
      refine ax rfl rfl ?_
      exact aC (s103 v) [0,1,2] ⟨rfl,rfl,rfl,rfl,rfl,rfl,rfl,rfl,rfl,rfl,rfl,rfl,trivial⟩
     refine cI.cons rfl ?_ ?_
     ·
      refine aB rfl (av rfl uC) ⟨rfl,trivial⟩ ?_
      exact aC (s110 v) [0,1,2] ⟨rfl,rfl,rfl,rfl,rfl,rfl,rfl,rfl,rfl,rfl,rfl,rfl,trivial⟩
     refine cI.cons rfl ?_ ?_
     ·
      refine bD 2 rfl ?_
      refine gz fun hv=>?_
      refine aB rfl (bH (t:=.val) [(.tmp 45,.eq v)] [v] rfl rfl oL (.cons hv (.val hv) .nil) rfl rfl) ⟨rfl,trivial⟩ ?_
      exact aC (s230 v) [1,2,0] ⟨rfl,rfl,rfl,rfl,rfl,rfl,rfl,rfl,rfl,rfl,rfl,rfl,trivial⟩
     exact trivial
    have s225:∀(v:Value),J 8 [true,false,false,false,false,true,true,true,false,false,false,false] (fB [true,false,false,false,false,true,true,true,false,false,false,false] (mF y z.1 l v undef)++lO b2 y L.1 q1 l a1) [.obj y 128 (.agg (.pair (.at ap (a0,.map (some m))) (.eq z.1))),.sl z.1 23 .val (dH z.2 0 q2),.sl v 3 (.int .i64) l2]:=fun v=>by
     subst hJ
     refine JD.step [1] (by kernel_rfl) rfl ?_
     refine cI.cons rfl ?_ ?_
     ·
      refine ax rfl rfl ?_
      exact aC (s227 v) [0,1,2] ⟨rfl,rfl,rfl,rfl,rfl,rfl,rfl,rfl,rfl,rfl,rfl,rfl,trivial⟩
     exact trivial
    have s226:∀(v:Value),J 8 [false,true,false,false,false,true,true,true,false,false,false,false] (fB [false,true,false,false,false,true,true,true,false,false,false,false] (mF y z.1 l v undef)++lO b2 y L.1 q1 l a1) [.obj y 128 (.agg (.pair (.at ap (a0,.map (some m))) (.eq z.1))),.sl z.1 23 .val (dH z.2 0 q2),.sl v 3 (.int .i64) l2]:=fun v=>by
     subst hJ
     refine JD.step [0,2] (by kernel_rfl) rfl ?_
     refine cI.cons rfl ?_ ?_
     ·
      refine ax rfl rfl ?_
      exact aC (s227 v) [0,1,2] ⟨rfl,rfl,rfl,rfl,rfl,rfl,rfl,rfl,rfl,rfl,rfl,rfl,trivial⟩
     refine cI.cons rfl ?_ ?_
     ·
      refine aB rfl (aX rfl) ⟨rfl,trivial⟩ ?_
      exact aC (s230 v) [0,1,2] ⟨rfl,rfl,rfl,rfl,rfl,rfl,rfl,rfl,rfl,rfl,rfl,rfl,trivial⟩
     exact trivial
    have s7:J 9 [true,true,true,false,false,false,false,false,false,false,false,false] (fB [true,true,true,false,false,false,false,false,false,false,false,false] (mF y z.1 l undef undef)++lO b2 y L.1 q1 l a1) [.obj y 128 (.agg (.pair (.at ap (a0,.map (some m))) (.eq z.1))),.sl z.1 23 .val (dH z.2 0 q2)]:=by
     subst hJ
     refine JD.step [3,5] (by kernel_rfl) rfl ?_
     refine cI.cons rfl ?_ ?_
     ·
      refine aB rfl (av rfl uC) ⟨rfl,trivial⟩ ?_
      exact aC (s15) [0,1] ⟨rfl,rfl,rfl,rfl,rfl,rfl,rfl,rfl,rfl,rfl,rfl,trivial⟩
     refine cI.cons rfl ?_ ?_
     ·
      refine ax rfl rfl ?_
      exact aC (s39) [0,1] ⟨rfl,rfl,rfl,rfl,rfl,rfl,rfl,rfl,rfl,rfl,rfl,trivial⟩
     exact trivial
    have s14:J 9 [false,true,true,true,false,false,false,false,false,false,false,false] (fB [false,true,true,true,false,false,false,false,false,false,false,false] (mF y z.1 l undef undef)++lO b2 y L.1 q1 l a1) [.obj y 128 (.agg (.pair (.at ap (a0,.map (some m))) (.eq z.1))),.sl z.1 23 .val (dH z.2 0 q2)]:=by
     subst hJ
     refine JD.step [0,4,5] (by kernel_rfl) rfl ?_
     refine cI.cons rfl ?_ ?_
     ·
      refine ax rfl rfl ?_
      exact aC (s15) [0,1] ⟨rfl,rfl,rfl,rfl,rfl,rfl,rfl,rfl,rfl,rfl,rfl,trivial⟩
     refine cI.cons rfl ?_ ?_
     ·
      refine bV rfl rfl rfl (ak rfl oK kV rfl) ⟨rfl,trivial⟩ ?_
      exact aC (s30) [0,1] ⟨rfl,rfl,rfl,rfl,rfl,rfl,rfl,rfl,rfl,rfl,rfl,trivial⟩
     refine cI.cons rfl ?_ ?_
     ·
      refine ax rfl rfl ?_
      exact aC (s46) [0,1] ⟨rfl,rfl,rfl,rfl,rfl,rfl,rfl,rfl,rfl,rfl,rfl,trivial⟩
     exact trivial
    have s35:J 9 [true,true,false,false,false,true,false,false,false,false,false,false] (fB [true,true,false,false,false,true,false,false,false,false,false,false] (mF y z.1 l undef undef)++lO b2 y L.1 q1 l a1) [.obj y 128 (.agg (.pair (.at ap (a0,.map (some m))) (.eq z.1))),.sl z.1 23 .val (dH z.2 0 q2)]:=by
     subst hJ
     refine JD.step [2,6] (by kernel_rfl) rfl ?_
     refine cI.cons rfl ?_ ?_
     ·
      refine aB rfl (aX rfl) ⟨rfl,trivial⟩ ?_
      exact aC (s39) [0,1] ⟨rfl,rfl,rfl,rfl,rfl,rfl,rfl,rfl,rfl,rfl,rfl,trivial⟩
     refine cI.cons rfl ?_ ?_
     ·
      refine aw rfl rfl rfl (an [.tmp 44] rfl rfl qN rfl cc) ⟨rfl,trivial⟩ fun v=>?_
      exact aC (s99 v) [1,2,0] ⟨rfl,rfl,rfl,rfl,rfl,rfl,rfl,rfl,rfl,rfl,rfl,trivial⟩
     exact trivial
    have s38:J 9 [false,true,true,false,false,true,false,false,false,false,false,false] (fB [false,true,true,false,false,true,false,false,false,false,false,false] (mF y z.1 l undef undef)++lO b2 y L.1 q1 l a1) [.obj y 128 (.agg (.pair (.at ap (a0,.map (some m))) (.eq z.1))),.sl z.1 23 .val (dH z.2 0 q2)]:=by
     subst hJ
     refine JD.step [0,3,6] (by kernel_rfl) rfl ?_
     refine cI.cons rfl ?_ ?_
     ·
      refine ax rfl rfl ?_
      exact aC (s39) [0,1] ⟨rfl,rfl,rfl,rfl,rfl,rfl,rfl,rfl,rfl,rfl,rfl,trivial⟩
     refine cI.cons rfl ?_ ?_
     ·
      refine aB rfl (av rfl uC) ⟨rfl,trivial⟩ ?_
      exact aC (s46) [0,1] ⟨rfl,rfl,rfl,rfl,rfl,rfl,rfl,rfl,rfl,rfl,rfl,trivial⟩
     refine cI.cons rfl ?_ ?_
     ·
      refine aw rfl rfl rfl (an [.tmp 44] rfl rfl qN rfl cc) ⟨rfl,trivial⟩ fun v=>?_
      exact aC (s102 v) [1,2,0] ⟨rfl,rfl,rfl,rfl,rfl,rfl,rfl,rfl,rfl,rfl,rfl,trivial⟩
     exact trivial
    have s97:∀(v:Value),J 9 [true,false,false,false,false,true,true,false,false,false,false,false] (fB [true,false,false,false,false,true,true,false,false,false,false,false] (mF y z.1 l v undef)++lO b2 y L.1 q1 l a1) [.obj y 128 (.agg (.pair (.at ap (a0,.map (some m))) (.eq z.1))),.sl z.1 23 .val (dH z.2 0 q2),.sl v 3 (.int .i64) l2]:=fun v=>by
     subst hJ
     refine JD.step [1,7] (by kernel_rfl) rfl ?_
     refine cI.cons rfl ?_ ?_
     ·
      refine ax rfl rfl ?_
      exact aC (s99 v) [0,1,2] ⟨rfl,rfl,rfl,rfl,rfl,rfl,rfl,rfl,rfl,rfl,rfl,trivial⟩
     refine cI.cons rfl ?_ ?_
     ·
      refine bD 2 rfl ?_
      refine gz fun hv=>?_
      refine aB rfl (bH (t:=.val) [(.tmp 45,.eq v)] [v] rfl rfl oL (.cons hv (.val hv) .nil) rfl rfl) ⟨rfl,trivial⟩ ?_
      exact aC (s225 v) [1,2,0] ⟨rfl,rfl,rfl,rfl,rfl,rfl,rfl,rfl,rfl,rfl,rfl,trivial⟩
     exact trivial
    have s98:∀(v:Value),J 9 [false,true,false,false,false,true,true,false,false,false,false,false] (fB [false,true,false,false,false,true,true,false,false,false,false,false] (mF y z.1 l v undef)++lO b2 y L.1 q1 l a1) [.obj y 128 (.agg (.pair (.at ap (a0,.map (some m))) (.eq z.1))),.sl z.1 23 .val (dH z.2 0 q2),.sl v 3 (.int .i64) l2]:=fun v=>by
     subst hJ
     refine JD.step [0,2,7] (by kernel_rfl) rfl ?_
     refine cI.cons rfl ?_ ?_
     ·
      refine ax rfl rfl ?_
      exact aC (s99 v) [0,1,2] ⟨rfl,rfl,rfl,rfl,rfl,rfl,rfl,rfl,rfl,rfl,rfl,trivial⟩
     refine cI.cons rfl ?_ ?_
     ·
      refine aB rfl (aX rfl) ⟨rfl,trivial⟩ ?_
      exact aC (s102 v) [0,1,2] ⟨rfl,rfl,rfl,rfl,rfl,rfl,rfl,rfl,rfl,rfl,rfl,trivial⟩
     refine cI.cons rfl ?_ ?_
     ·
      refine bD 2 rfl ?_
      refine gz fun hv=>?_
      refine aB rfl (bH (t:=.val) [(.tmp 45,.eq v)] [v] rfl rfl oL (.cons hv (.val hv) .nil) rfl rfl) ⟨rfl,trivial⟩ ?_
      exact aC (s226 v) [1,2,0] ⟨rfl,rfl,rfl,rfl,rfl,rfl,rfl,rfl,rfl,rfl,rfl,trivial⟩
     exact trivial
    have s224:∀(v:Value),J 9 [false,false,false,false,false,true,true,true,false,false,false,false] (fB [false,false,false,false,false,true,true,true,false,false,false,false] (mF y z.1 l v undef)++lO b2 y L.1 q1 l a1) [.obj y 128 (.agg (.pair (.at ap (a0,.map (some m))) (.eq z.1))),.sl z.1 23 .val (dH z.2 0 q2),.sl v 3 (.int .i64) l2]:=fun v=>by
     subst hJ
     refine JD.step [0,1] (by kernel_rfl) rfl ?_
     refine cI.cons rfl ?_ ?_
     ·
      refine ax rfl rfl ?_
      exact aC (s225 v) [0,1,2] ⟨rfl,rfl,rfl,rfl,rfl,rfl,rfl,rfl,rfl,rfl,rfl,trivial⟩
     refine cI.cons rfl ?_ ?_
     ·
      refine ax rfl rfl ?_
      exact aC (s226 v) [0,1,2] ⟨rfl,rfl,rfl,rfl,rfl,rfl,rfl,rfl,rfl,rfl,rfl,trivial⟩
     exact trivial
    have s3:J 10 [true,true,false,false,false,false,false,false,false,false,false,false] (fB [true,true,false,false,false,false,false,false,false,false,false,false] (mF y z.1 l undef undef)++lO b2 y L.1 q1 l a1) [.obj y 128 (.agg (.pair (.at ap (a0,.map (some m))) (.eq z.1))),.sl z.1 23 .val (dH z.2 0 q2)]:=by
     subst hJ
     refine JD.step [2,5] (by kernel_rfl) rfl ?_
     refine cI.cons rfl ?_ ?_
     ·
      refine aB rfl (aX rfl) ⟨rfl,trivial⟩ ?_
      exact aC (s7) [0,1] ⟨rfl,rfl,rfl,rfl,rfl,rfl,rfl,rfl,rfl,rfl,trivial⟩
     refine cI.cons rfl ?_ ?_
     ·
      refine ax rfl rfl ?_
      exact aC (s35) [0,1] ⟨rfl,rfl,rfl,rfl,rfl,rfl,rfl,rfl,rfl,rfl,trivial⟩
     exact trivial
    have s6:J 10 [false,true,true,false,false,false,false,false,false,false,false,false] (fB [false,true,true,false,false,false,false,false,false,false,false,false] (mF y z.1 l undef undef)++lO b2 y L.1 q1 l a1) [.obj y 128 (.agg (.pair (.at ap (a0,.map (some m))) (.eq z.1))),.sl z.1 23 .val (dH z.2 0 q2)]:=by
     subst hJ
     refine JD.step [0,3,5] (by kernel_rfl) rfl ?_
     refine cI.cons rfl ?_ ?_
     ·
      refine ax rfl rfl ?_
      exact aC (s7) [0,1] ⟨rfl,rfl,rfl,rfl,rfl,rfl,rfl,rfl,rfl,rfl,trivial⟩
     refine cI.cons rfl ?_ ?_
     ·
      refine aB rfl (av rfl uC) ⟨rfl,trivial⟩ ?_
      exact aC (s14) [0,1] ⟨rfl,rfl,rfl,rfl,rfl,rfl,rfl,rfl,rfl,rfl,trivial⟩
     refine cI.cons rfl ?_ ?_
     ·
      refine ax rfl rfl ?_
      exact aC (s38) [0,1] ⟨rfl,rfl,rfl,rfl,rfl,rfl,rfl,rfl,rfl,rfl,trivial⟩
     exact trivial
    have s33:J 10 [true,false,false,false,false,true,false,false,false,false,false,false] (fB [true,false,false,false,false,true,false,false,false,false,false,false] (mF y z.1 l undef undef)++lO b2 y L.1 q1 l a1) [.obj y 128 (.agg (.pair (.at ap (a0,.map (some m))) (.eq z.1))),.sl z.1 23 .val (dH z.2 0 q2)]:=by
     subst hJ
     refine JD.step [1,6] (by kernel_rfl) rfl ?_
     refine cI.cons rfl ?_ ?_
     ·
      refine ax rfl rfl ?_
      exact aC (s35) [0,1] ⟨rfl,rfl,rfl,rfl,rfl,rfl,rfl,rfl,rfl,rfl,trivial⟩
     refine cI.cons rfl ?_ ?_
     ·
      refine aw rfl rfl rfl (an [.tmp 44] rfl rfl qN rfl cc) ⟨rfl,trivial⟩ fun v=>?_
      exact aC (s97 v) [1,2,0] ⟨rfl,rfl,rfl,rfl,rfl,rfl,rfl,rfl,rfl,rfl,trivial⟩
     exact trivial
    have s34:J 10 [false,true,false,false,false,true,false,false,false,false,false,false] (fB [false,true,false,false,false,true,false,false,false,false,false,false] (mF y z.1 l undef undef)++lO b2 y L.1 q1 l a1) [.obj y 128 (.agg (.pair (.at ap (a0,.map (some m))) (.eq z.1))),.sl z.1 23 .val (dH z.2 0 q2)]:=by
     subst hJ
     refine JD.step [0,2,6] (by kernel_rfl) rfl ?_
     refine cI.cons rfl ?_ ?_
     ·
      refine ax rfl rfl ?_
      exact aC (s35) [0,1] ⟨rfl,rfl,rfl,rfl,rfl,rfl,rfl,rfl,rfl,rfl,trivial⟩
     refine cI.cons rfl ?_ ?_
     ·
      refine aB rfl (aX rfl) ⟨rfl,trivial⟩ ?_
      exact aC (s38) [0,1] ⟨rfl,rfl,rfl,rfl,rfl,rfl,rfl,rfl,rfl,rfl,trivial⟩
     refine cI.cons rfl ?_ ?_
     ·
      refine aw rfl rfl rfl (an [.tmp 44] rfl rfl qN rfl cc) ⟨rfl,trivial⟩ fun v=>?_
      exact aC (s98 v) [1,2,0] ⟨rfl,rfl,rfl,rfl,rfl,rfl,rfl,rfl,rfl,rfl,trivial⟩
     exact trivial
    have s96:∀(v:Value),J 10 [false,false,false,false,false,true,true,false,false,false,false,false] (fB [false,false,false,false,false,true,true,false,false,false,false,false] (mF y z.1 l v undef)++lO b2 y L.1 q1 l a1) [.obj y 128 (.agg (.pair (.at ap (a0,.map (some m))) (.eq z.1))),.sl z.1 23 .val (dH z.2 0 q2),.sl v 3 (.int .i64) l2]:=fun v=>by
     subst hJ
     refine JD.step [0,1,7] (by kernel_rfl) rfl ?_
     refine cI.cons rfl ?_ ?_
     ·
      refine ax rfl rfl ?_
      exact aC (s97 v) [0,1,2] ⟨rfl,rfl,rfl,rfl,rfl,rfl,rfl,rfl,rfl,rfl,trivial⟩
     refine cI.cons rfl ?_ ?_
     ·
      refine ax rfl rfl ?_
      exact aC (s98 v) [0,1,2] ⟨rfl,rfl,rfl,rfl,rfl,rfl,rfl,rfl,rfl,rfl,trivial⟩
     refine cI.cons rfl ?_ ?_
     ·
      refine bD 2 rfl ?_
      refine gz fun hv=>?_
      refine aB rfl (bH (t:=.val) [(.tmp 45,.eq v)] [v] rfl rfl oL (.cons hv (.val hv) .nil) rfl rfl) ⟨rfl,trivial⟩ ?_
      exact aC (s224 v) [1,2,0] ⟨rfl,rfl,rfl,rfl,rfl,rfl,rfl,rfl,rfl,rfl,trivial⟩
     exact trivial
    have s1:J 11 [true,false,false,false,false,false,false,false,false,false,false,false] (fB [true,false,false,false,false,false,false,false,false,false,false,false] (mF y z.1 l undef undef)++lO b2 y L.1 q1 l a1) [.obj y 128 (.agg (.pair (.at ap (a0,.map (some m))) (.eq z.1))),.sl z.1 23 .val (dH z.2 0 q2)]:=by
     subst hJ
     refine JD.step [1,5] (by kernel_rfl) rfl ?_
     refine cI.cons rfl ?_ ?_
     ·
      refine ax rfl rfl ?_
      exact aC (s3) [0,1] ⟨rfl,rfl,rfl,rfl,rfl,rfl,rfl,rfl,rfl,trivial⟩
     refine cI.cons rfl ?_ ?_
     ·
      refine ax rfl rfl ?_
      exact aC (s33) [0,1] ⟨rfl,rfl,rfl,rfl,rfl,rfl,rfl,rfl,rfl,trivial⟩
     exact trivial
    have s2:J 11 [false,true,false,false,false,false,false,false,false,false,false,false] (fB [false,true,false,false,false,false,false,false,false,false,false,false] (mF y z.1 l undef undef)++lO b2 y L.1 q1 l a1) [.obj y 128 (.agg (.pair (.at ap (a0,.map (some m))) (.eq z.1))),.sl z.1 23 .val (dH z.2 0 q2)]:=by
     subst hJ
     refine JD.step [0,2,5] (by kernel_rfl) rfl ?_
     refine cI.cons rfl ?_ ?_
     ·
      refine ax rfl rfl ?_
      exact aC (s3) [0,1] ⟨rfl,rfl,rfl,rfl,rfl,rfl,rfl,rfl,rfl,trivial⟩
     refine cI.cons rfl ?_ ?_
     ·
      refine aB rfl (aX rfl) ⟨rfl,trivial⟩ ?_
      exact aC (s6) [0,1] ⟨rfl,rfl,rfl,rfl,rfl,rfl,rfl,rfl,rfl,trivial⟩
     refine cI.cons rfl ?_ ?_
     ·
      refine ax rfl rfl ?_
      exact aC (s34) [0,1] ⟨rfl,rfl,rfl,rfl,rfl,rfl,rfl,rfl,rfl,trivial⟩
     exact trivial
    have s32:J 11 [false,false,false,false,false,true,false,false,false,false,false,false] (fB [false,false,false,false,false,true,false,false,false,false,false,false] (mF y z.1 l undef undef)++lO b2 y L.1 q1 l a1) [.obj y 128 (.agg (.pair (.at ap (a0,.map (some m))) (.eq z.1))),.sl z.1 23 .val (dH z.2 0 q2)]:=by
     subst hJ
     refine JD.step [0,1,6] (by kernel_rfl) rfl ?_
     refine cI.cons rfl ?_ ?_
     ·
      refine ax rfl rfl ?_
      exact aC (s33) [0,1] ⟨rfl,rfl,rfl,rfl,rfl,rfl,rfl,rfl,rfl,trivial⟩
     refine cI.cons rfl ?_ ?_
     ·
      refine ax rfl rfl ?_
      exact aC (s34) [0,1] ⟨rfl,rfl,rfl,rfl,rfl,rfl,rfl,rfl,rfl,trivial⟩
     refine cI.cons rfl ?_ ?_
     ·
      refine aw rfl rfl rfl (an [.tmp 44] rfl rfl qN rfl cc) ⟨rfl,trivial⟩ fun v=>?_
      exact aC (s96 v) [1,2,0] ⟨rfl,rfl,rfl,rfl,rfl,rfl,rfl,rfl,rfl,trivial⟩
     exact trivial
    have s0:J 12 [false,false,false,false,false,false,false,false,false,false,false,false] (fB [false,false,false,false,false,false,false,false,false,false,false,false] (mF y z.1 l undef undef)++lO b2 y L.1 q1 l a1) [.obj y 128 (.agg (.pair (.at ap (a0,.map (some m))) (.eq z.1))),.sl z.1 23 .val (dH z.2 0 q2)]:=by
     subst hJ
     refine JD.step [0,1,5] (by kernel_rfl) rfl ?_
     refine cI.cons rfl ?_ ?_
     ·
      refine ax rfl rfl ?_
      exact aC (s1) [0,1] ⟨rfl,rfl,rfl,rfl,rfl,rfl,rfl,rfl,trivial⟩
     refine cI.cons rfl ?_ ?_
     ·
      refine ax rfl rfl ?_
      exact aC (s2) [0,1] ⟨rfl,rfl,rfl,rfl,rfl,rfl,rfl,rfl,trivial⟩
     refine cI.cons rfl ?_ ?_
     ·
      refine ax rfl rfl ?_
      exact aC (s32) [0,1] ⟨rfl,rfl,rfl,rfl,rfl,rfl,rfl,rfl,trivial⟩
     exact trivial
    exact s0
   ·
    exact fun a w st=>⟨rfl,p,st⟩
  ·
   subst hB
   refine aG ?_
   refine ae ?_
   refine bL (gw (Δ':=.sl p.1 3 (.int .i64) l2:: .sl p.2 23 .val (dH z.2 0 q2++[p.1])::([.obj y 128 (.agg (.pair (.at ap (a0,.map (some m))) (.eq p.2))),.inv m (bb k a0),.obj b2 25 (.rep aF a0),.inv 0 gG]++fZ z.2 0 q2)) ?_) ?_
   ·
    exact List.Perm.trans (List.Perm.swap _ _ _) (List.Perm.trans (List.Perm.cons _ (List.Perm.swap _ _ _)) (List.Perm.swap _ _ _))
   refine bL (F6 (pre:=[.obj y 128 (.agg (.pair (.at ap (a0,.map (some m))) (.eq p.2))),.inv m (bb k a0),.obj b2 25 (.rep aF a0),.inv 0 gG])) ?_
   show JC _ _ _ _ _
   refine aa ?_
   obtain⟨w3,ew,h⟩:=ab h
   refine aB rfl (bg rfl ew) ⟨rfl,rfl,trivial⟩ ?_
   refine ax rfl rfl ?_
   refine ao ?_
   refine ae ?_
   exact i7 ((p.2,oU z.2 q2.length p.1),(w3,q2++[l2])) h (bM [.obj y 128 (.agg (.pair (.at ap (a0,.map (some m))) (.eq p.2))),.inv m (bb k a0),.obj b2 25 (.rep aF a0),.inv 0 gG] (jE 23 (p.2,oU z.2 q2.length p.1) (q2++[l2])) [0,1,2,3] ⟨rfl,rfl,rfl,rfl,rfl,rfl,trivial⟩ rfl)
 replace h:=bv (lw hb) h
 refine dJ ?_
 refine aR ?_
 refine aR ?_
 refine bR ?_
 refine ae ?_
 show JC _ _ _ _ _
 replace h:((jD k a0 k (0,[],q.2)).bind fun p=>(lM k a0 p.1 p.2).bind fun b=>if(!b.2.2.1 || decide (L.1≤b.2.1))=true then some (0,0,0,11) else some (b.1.1,b.1.2,b.2.1,0)).bind some=some r:=h
 rw [Option.bind_assoc] at h
 generalize q.2=ls at h⊢
 refine ag ?_
 refine aa ?_
 refine dP rfl ?_
 refine cD (SE.nil 131 fj) ?_
 refine ao ?_
 refine ae ?_
 show JC _ _ _ _ _
 refine fw (bM (Γ':=[(2,.eq (bP b2)),(8,.eq (.int .i64 L.1)),(10,.eq (bP y)),(13,.eq (.slice none 0 0))]) (pre':=[.inv m (bb k a0),.obj b2 25 (.rep aF a0),.inv 0 gG,.sl (.slice none 0 0) 131 fj [],.obj y 128 (.agg (.pair (.at ap (a0,.map (some m))) (.eq z.1)))]) [.sl (.slice none 0 0) 131 fj [],.obj y 128 (.agg (.pair (.at ap (a0,.map (some m))) (.eq z.1))),.inv m (bb k a0),.obj b2 25 (.rep aF a0),.inv 0 gG] (jE 23 z ls) [2,3,4,0,1] ⟨rfl,rfl,rfl,rfl,trivial⟩ rfl) ?_
 refine ag ?_
 refine ag ?_
 refine aa ?_
 refine aB rfl (av rfl MS) ⟨rfl,trivial⟩ ?_
 refine bD 1 rfl ?_
 refine bV rfl rfl rfl (ak rfl MC kV rfl) ⟨rfl,trivial⟩ ?_
 refine aB rfl (jF rfl rfl wP) ⟨rfl,trivial⟩ ?_
 refine eD rfl ?_
 refine ao ?_
 refine ae ?_
 show JC _ _ _ _ _
 refine aj ?_
 refine aI (Z:=Value) (α:=Int×List (Int×Int)×List (List Int)) (fun c q=>[(2,.eq (bP b2)),(8,.eq (.int .i64 L.1)),(10,.eq (bP y)),(13,.eq c),(53,.eq (.int .i64 (a0.2.1.length:Int))),(54,.eq (.int .i64 q.1))]) (fun c q=>[.obj b2 25 (.rep aF a0),.inv m (bb k a0),.inv 0 gG,.sl c 131 fj q.2.1,.obj y 128 (.agg (.pair (.at ap (a0,.map (some m))) (.eq z.1)))]++jE 23 z q.2.2) (jD k a0) k (.slice none 0 0) (0,[],ls) (fun _=>rfl) h (bM [.obj b2 25 (.rep aF a0),.inv m (bb k a0),.inv 0 gG,.sl (.slice none 0 0) 131 fj [],.obj y 128 (.agg (.pair (.at ap (a0,.map (some m))) (.eq z.1)))] (jE 23 z ls) [0,1,2,3,4] ⟨rfl,rfl,rfl,rfl,rfl,rfl,trivial⟩ rfl) (fun n c q h=>?_)
 obtain⟨q1,qp,ql⟩:=q
 unfold jD at h
 refine ag ?_
 refine aa ?_
 refine aB rfl (bm rfl) ⟨rfl,rfl,trivial⟩ ?_
 refine ao ?_
 refine ae ?_
 show JC _ _ _ _ _
 refine ag ?_
 refine bu rfl (fun hb=>?_) (fun hb=>?_)
 ·
  replace h:=cr (mh hb) h
  obtain⟨w,ew,h⟩:=ab h
  rw [Option.bind_assoc] at h
  refine aV ?_
  refine ae ?_
  show JC _ _ _ _ _
  refine ag ?_
  refine aj ?_
  refine ag ?_
  refine aa ?_
  refine ax rfl rfl ?_
  refine dx rfl rfl ?_
  refine ao ?_
  refine ae ?_
  show JC _ _ _ _ _
  refine ag ?_
  refine aa ?_
  refine ax rfl rfl ?_
  refine aB rfl (bg rfl ew) ⟨rfl,rfl,trivial⟩ ?_
  refine dx rfl rfl ?_
  refine ao ?_
  refine ae ?_
  show JC _ _ _ _ _
  refine aj ?_
  refine aI (Z:=Value) (α:=Int×List (Int×Int)×List (List Int)) (fun c q=>[(2,.eq (bP b2)),(8,.eq (.int .i64 L.1)),(10,.eq (bP y)),(13,.eq c),(14,.eq (.int .i64 q1)),(15,.eq (.int .i64 q.1)),(53,.eq (.int .i64 (a0.2.1.length:Int))),(54,.eq (.int .i64 q1))]) (fun c q=>[.obj b2 25 (.rep aF a0),.inv m (bb k a0),.inv 0 gG,.sl c 131 fj q.2.1,.obj y 128 (.agg (.pair (.at ap (a0,.map (some m))) (.eq z.1)))]++jE 23 z q.2.2) (kF k a0 q1) k c (w,qp,ql) (fun _=>rfl) h (bM [.obj b2 25 (.rep aF a0),.inv m (bb k a0),.inv 0 gG,.sl c 131 fj qp,.obj y 128 (.agg (.pair (.at ap (a0,.map (some m))) (.eq z.1)))] (jE 23 z ql) [0,1,2,3,4] ⟨rfl,rfl,rfl,rfl,rfl,rfl,rfl,rfl,trivial⟩ rfl) (fun n3 c q h=>?_)
  obtain⟨j,rp,rl⟩:=q
  unfold kF at h
  refine ag ?_
  refine ag ?_
  refine aa ?_
  refine ax rfl rfl ?_
  refine aB rfl (av rfl MS) ⟨rfl,trivial⟩ ?_
  refine bV rfl rfl rfl (ak rfl MC kV rfl) ⟨rfl,trivial⟩ ?_
  refine aB rfl (jF rfl rfl wP) ⟨rfl,trivial⟩ ?_
  refine aB rfl (bm rfl) ⟨rfl,rfl,trivial⟩ ?_
  refine ao ?_
  refine ae ?_
  show JC _ _ _ _ _
  refine bu rfl (fun hb=>?_) (fun hb=>?_)
  ·
   replace h:=cr (mh hb) h
   obtain⟨r1,Q,h⟩:=ab h
   have cv:=tc k a0 (q1,j) rl r1 y m z Q
   refine aV ?_
   refine ae ?_
   show JC _ _ _ _ _
   refine ag ?_
   refine aj ?_
   refine ag ?_
   refine aa ?_
   refine ax rfl rfl ?_
   refine ax rfl rfl ?_
   refine aB rfl (cU [(0,.tmp 66,_),(1,.tmp 67,_)] rfl Nw sZ LO (iQ ⟨rfl,rfl,trivial⟩) rfl) ⟨rfl,rfl,trivial⟩ ?_
   refine aw rfl rfl rfl (aP rfl sZ wh) trivial fun e=>?_
   refine aS rfl rfl (aO rfl gV trivial rfl rfl) ⟨rfl,rfl,trivial⟩ ?_
   refine cD (oC (a':=.rep fj (q1,j)) Rj) ?_
   refine ao ?_
   refine ae ?_
   show JC _ _ _ _ _
   refine ag ?_
   refine aa ?_
   refine ax rfl rfl ?_
   refine bV rfl rfl rfl (ak rfl gV (zl) rfl) ⟨rfl,trivial⟩ ?_
   refine cD (gw (Δ':=([.obj y 128 (.agg (.pair (.at ap (a0,.map (some m))) (.eq z.1)))]++jE 23 z rl)++[.obj e 131 (.rep fj (q1,j)),.obj b2 25 (.rep aF a0),.inv m (bb k a0),.inv 0 gG,.sl c 131 fj rp]) (List.perm_append_comm (l₁:=([.obj e 131 (.rep fj (q1,j)),.obj b2 25 (.rep aF a0),.inv m (bb k a0),.inv 0 gG,.sl c 131 fj rp]:List D)))) ?_
   refine bC (Δ:=_++_) (F:=[_,_,_,_,_]) (fun _ _ _=>au rfl _) rfl rfl (an [.tmp 69,.tmp 70] rfl rfl Qk rfl cv) ⟨rfl,rfl,trivial⟩ fun _=>?_
   refine cD (gw (Δ':=[.obj e 131 (.rep fj (q1,j)),.obj b2 25 (.rep aF a0),.inv m (bb k a0),.inv 0 gG,.sl c 131 fj rp]++([.obj y 128 (.agg (.pair (.at ap (a0,.map (some m))) (.eq z.1)))]++jE 23 z r1.2)) List.perm_append_comm) ?_
   refine ao ?_
   refine ae ?_
   show JC _ _ _ _ _
   refine bu rfl (fun hb=>?_) (fun hb=>?_)
   ·
    replace h:=cr (Bv hb) h
    have hk:bY (rp.length+1):=by
     apply Classical.byContradiction
     intro hn
     rw [if_neg hn] at h
     cases h
    replace h:=cr hk h
    refine aa ?_
    refine ax rfl rfl ?_
    refine bV rfl rfl rfl (ak rfl gV (zl) rfl) ⟨rfl,trivial⟩ ?_
    refine aB rfl (bH (t:=fj) [(.tmp 73,_)] [(q1,j)] rfl rfl GY (.cons rfl .rep .nil) rfl rfl) ⟨rfl,trivial⟩ ?_
    refine bD 4 rfl ?_
    refine dN rfl rfl rfl (cz rfl rfl GY (by simpa using hk)) ⟨rfl,rfl,trivial⟩ fun v'=>?_
    refine dx rfl rfl ?_
    refine ao ?_
    refine aG ?_
    refine ae ?_
    show JC _ _ _ _ _
    refine aa ?_
    refine ax rfl rfl ?_
    obtain⟨w2,ew2,h⟩:=ab h
    refine aB rfl (bg rfl ew2) ⟨rfl,rfl,trivial⟩ ?_
    refine dx rfl rfl ?_
    refine ao ?_
    refine ae ?_
    exact i7 (v',(w2,rp++[(q1,j)],r1.2)) h (bM [.sl v' 131 fj (rp++[(q1,j)]),.obj e 131 (.rep fj (q1,j)),.obj b2 25 (.rep aF a0),.inv m (bb k a0),.inv 0 gG,.obj y 128 (.agg (.pair (.at ap (a0,.map (some m))) (.eq z.1)))] (jE 23 z r1.2) [2,3,4,0,5] ⟨rfl,rfl,rfl,rfl,rfl,rfl,rfl,rfl,trivial⟩ rfl)
   ·
    replace h:=bv (Bw hb) h
    refine aV ?_
    refine aG ?_
    refine ae ?_
    show JC _ _ _ _ _
    refine aa ?_
    refine ax rfl rfl ?_
    obtain⟨w2,ew2,h⟩:=ab h
    refine aB rfl (bg rfl ew2) ⟨rfl,rfl,trivial⟩ ?_
    refine dx rfl rfl ?_
    refine ao ?_
    refine ae ?_
    exact i7 (c,(w2,rp,r1.2)) h (bM [.obj e 131 (.rep fj (q1,j)),.obj b2 25 (.rep aF a0),.inv m (bb k a0),.inv 0 gG,.sl c 131 fj rp,.obj y 128 (.agg (.pair (.at ap (a0,.map (some m))) (.eq z.1)))] (jE 23 z r1.2) [1,2,3,4,5] ⟨rfl,rfl,rfl,rfl,rfl,rfl,rfl,rfl,trivial⟩ rfl)
  replace h:=bv (lw hb) h
  refine dJ ?_
  refine aR ?_
  refine aR ?_
  refine bR ?_
  refine aG ?_
  refine ae ?_
  show JC _ _ _ _ _
  replace h:(jD k a0 n (w,rp,rl)).bind _=some r:=h
  refine aa ?_
  refine aB rfl (bg rfl ew) ⟨rfl,rfl,trivial⟩ ?_
  refine ax rfl rfl ?_
  refine ao ?_
  refine ae ?_
  exact i7 (c,(w,rp,rl)) h (bM [.obj b2 25 (.rep aF a0),.inv m (bb k a0),.inv 0 gG,.sl c 131 fj rp,.obj y 128 (.agg (.pair (.at ap (a0,.map (some m))) (.eq z.1)))] (jE 23 z rl) [0,1,2,3,4] ⟨rfl,rfl,rfl,rfl,rfl,rfl,trivial⟩ rfl)
 replace h:=bv (lw hb) h
 refine dJ ?_
 refine aR ?_
 refine aR ?_
 refine bR ?_
 refine ae ?_
 show JC _ _ _ _ _
 replace h:((lM k a0 qp ql).bind fun b=>if(!b.2.2.1 || decide (L.1≤b.2.1))=true then some (0,0,0,11) else some (b.1.1,b.1.2,b.2.1,0)).bind some=some r:=h
 obtain⟨b,eb,h⟩:=ab h
 have cx:=wB k a0 qp ql b y m z eb
 refine ag ?_
 refine aa ?_
 refine ax rfl rfl ?_
 refine aB rfl (tD [.tmp 78] [] [bP y] [] rfl rfl rfl) ⟨rfl,trivial⟩ ?_
 refine bD 3 rfl ?_
 refine cD (gx [13] ⟨rfl,trivial⟩) ?_
 refine ax rfl rfl ?_
 refine cD (bM (Γ':=[(8,.eq (.int .i64 L.1)),(79,.eq (.func (.func 100) #[bP y] #[])),(80,Rs fj qp)]) (pre':=[.inv 0 gG,.obj b2 25 (.rep aF a0),.inv m (bb k a0),.obj y 128 (.agg (.pair (.at ap (a0,.map (some m))) (.eq z.1)))]) [.obj b2 25 (.rep aF a0),.inv m (bb k a0),.inv 0 gG,.obj y 128 (.agg (.pair (.at ap (a0,.map (some m))) (.eq z.1)))] (jE 23 z ql) [2,0,1,3] ⟨rfl,rfl,rfl,trivial⟩ rfl) ?_
 refine cD (gw (Δ':=([.inv m (bb k a0),.obj y 128 (.agg (.pair (.at ap (a0,.map (some m))) (.eq z.1)))]++jE 23 z ql)++[.inv 0 gG,.obj b2 25 (.rep aF a0)]) (List.perm_append_comm (l₁:=([.inv 0 gG,.obj b2 25 (.rep aF a0)]:List D)))) ?_
 refine bC (Δ:=_++_) (F:=[_,_]) (fun _ _ _=>au rfl _) rfl rfl (c9 [.tmp 79,.tmp 80] rfl rfl Qj rfl cx) ⟨rfl,rfl,trivial⟩ fun _=>?_
 refine cD (gw (Δ':=[.inv 0 gG,.obj b2 25 (.rep aF a0)]++([.inv m (bb k a0),.obj y 128 (.agg (.pair (.at ap (a0,.map (some m))) (.eq z.1)))]++jE 23 z b.2.2.2)) List.perm_append_comm) ?_
 refine ax rfl rfl ?_
 refine aB rfl (io rfl rfl) ⟨rfl,trivial⟩ ?_
 refine aB rfl (io rfl rfl) ⟨rfl,trivial⟩ ?_
 refine aB rfl (io rfl rfl) ⟨rfl,trivial⟩ ?_
 refine aw rfl rfl rfl (aP rfl sZ wh) trivial fun s=>?_
 refine aS rfl rfl (aO rfl gV rfl rfl rfl) ⟨rfl,rfl,trivial⟩ ?_
 refine dx rfl rfl ?_
 refine dx rfl rfl ?_
 refine ao ?_
 refine ae ?_
 show JC _ _ _ _ _
 obtain⟨bx,bn,bo,bl⟩:=b
 cases bo with
 |false=>
  replace h:some (0,0,0,11)=some r:=by simpa using h
  obtain rfl:=Option.some.inj h
  refine ag ?_
  refine ag ?_
  refine aa ?_
  refine ax rfl rfl ?_
  refine aB rfl (ig rfl) ⟨rfl,trivial⟩ ?_
  refine ax rfl rfl ?_
  refine zg rfl rfl rfl rfl rfl rfl rfl ?_
  refine zg rfl rfl rfl rfl rfl rfl rfl ?_
  refine zg rfl rfl rfl rfl rfl rfl rfl ?_
  refine aB rfl (nC rfl) ⟨rfl,rfl,trivial⟩ ?_
  refine ao ?_
  refine ae ?_
  show JC _ _ _ _ _
  refine bu rfl (fun hb=>?_) (fun hb=>(by cases hb))
  refine ag ?_
  refine aa ?_
  refine dP rfl ?_
  refine dP rfl ?_
  refine dP rfl ?_
  refine dP rfl ?_
  refine ao ?_
  refine ae ?_
  show JC _ _ _ _ _
  refine aA ?_
  refine aZ ?_
  refine aH 1 rfl ?_
  exact aL () [_,_,_,_] 1 ⟨rfl,rfl,rfl,rfl,trivial⟩ rfl
 |true=>
  refine ag ?_
  refine ag ?_
  refine aa ?_
  refine ax rfl rfl ?_
  refine aB rfl (ig rfl) ⟨rfl,trivial⟩ ?_
  refine ax rfl rfl ?_
  refine nb rfl rfl rfl rfl rfl rfl (bG rfl) ⟨rfl,trivial⟩ ?_
  refine nb rfl rfl rfl rfl rfl rfl (bG rfl) ⟨rfl,trivial⟩ ?_
  refine nb rfl rfl rfl rfl rfl rfl (qK rfl) ⟨rfl,rfl,trivial⟩ ?_
  refine aB rfl (l5 rfl) ⟨rfl,rfl,trivial⟩ ?_
  refine ao ?_
  refine ae ?_
  show JC _ _ _ _ _
  refine bu rfl (fun hb=>?_) (fun hb=>?_)
  ·
   have hd:L.1≤bn:=of_decide_eq_true hb
   replace h:some (0,0,0,11)=some r:=by simpa [hd] using h
   obtain rfl:=Option.some.inj h
   refine ag ?_
   refine aa ?_
   refine dP rfl ?_
   refine dP rfl ?_
   refine dP rfl ?_
   refine dP rfl ?_
   refine ao ?_
   refine ae ?_
   show JC _ _ _ _ _
   refine aA ?_
   refine aZ ?_
   refine aH 1 rfl ?_
   exact aL () [_,_,_,_] 1 ⟨rfl,rfl,rfl,rfl,trivial⟩ rfl
  ·
   have hd:¬L.1≤bn:=of_decide_eq_false hb
   replace h:some (bx.1,bx.2,bn,0)=some r:=by simpa [hd] using h
   refine aV ?_
   refine ae ?_
   obtain rfl:=Option.some.inj h
   show JC _ _ _ _ _
   refine ag ?_
   refine Bj (Δ:=[.obj s 131 (.rep fj bx)]) (F:=[.inv 0 gG,.obj b2 25 (.rep aF a0),.inv m (bb k a0),.obj y 128 (.agg (.pair (.at ap (a0,.map (some m))) (.eq z.1)))]++jE 23 z bl) (Z:=Unit) (fun _=>[(4,.eq (.int .i64 bx.1)),(5,.eq (.int .i64 bx.2)),(6,.eq (.int .i64 bn)),(7,.eq (.int .i64 0))]) (fun _=>[.obj s 131 (.rep fj bx)]) (fun S w=>?_) (fun _=>?_)
   ·
    refine fw (SE.sub (Γ':=[(17,.eq (bP s)),(18,.eq (.int .i64 bn))]) ⟨rfl,rfl,trivial⟩) ?_
    refine ml ?_
    refine bX rfl rfl rfl (av rfl Og) ⟨rfl,trivial⟩ ?_
    refine gB 0 rfl rfl rfl rfl (ak rfl uv kV rfl) ⟨rfl,trivial⟩ ?_
    refine bX rfl rfl rfl (av rfl Of) ⟨rfl,trivial⟩ ?_
    refine gB 0 rfl rfl rfl rfl (ak rfl uv kV rfl) ⟨rfl,trivial⟩ ?_
    refine bX rfl rfl rfl (bG rfl) ⟨rfl,trivial⟩ ?_
    refine rM 5 [true,true,false,false,false] [4,5,6,7] [0] [.obj s 131 (.rep fj bx)] rfl (by kernel_rfl) (by kernel_rfl) (by kernel_rfl) rn (fun vs hv hB=>?_)
    obtain⟨u0,mc,rfl,O⟩:=aD hv
    obtain⟨u1,ac,rfl,M⟩:=aD O
    obtain⟨u2,Y,rfl,E⟩:=aD M
    obtain⟨u3,X,rfl,x⟩:=aD E
    obtain⟨u4,U,rfl,u⟩:=aD x
    obtain rfl:=ot u
    refine⟨[0],[],by kernel_rfl,by decide,?_⟩
    refine t6 rfl rfl rfl rfl (kJ rfl) ⟨rfl,trivial⟩ (by kernel_rfl) ?_
    refine t6 rfl rfl rfl rfl (kJ rfl) ⟨rfl,trivial⟩ (by kernel_rfl) ?_
    refine t6 rfl rfl rfl rfl (kJ rfl) ⟨rfl,trivial⟩ (by kernel_rfl) ?_
    refine t6 rfl rfl rfl rfl (kJ rfl) ⟨rfl,trivial⟩ (by kernel_rfl) ?_
    refine wo ?_
    exact fun a w st=>⟨rfl,(),(SE.fin (Γ':=[(4,.eq (.int .i64 bx.1)),(5,.eq (.int .i64 bx.2)),(6,.eq (.int .i64 bn)),(7,.eq (.int .i64 0))]) [0] ⟨rfl,rfl,rfl,rfl,trivial⟩ rfl) a w st⟩
   ·
    refine ae ?_
    show JC _ _ _ _ _
    refine aA ?_
    refine aH 1 rfl ?_
    exact aL () [_,_,_,_] 1 ⟨rfl,rfl,rfl,rfl,trivial⟩ rfl
def nS(k:Nat)(a0:(List Int))(a1:dj)(a2:(List (List Int)))(a3:Int)(a4:Int):Option Int:=
 (dy k a1 a2).bind fun r1=>
 (bf r1 a3).bind fun x3=>
 (dB k (List.set r1 (Int.toNat a3) a0)).bind fun r4=>
 (fR k a1 r4 a4).bind fun r5=>
 some r5
theorem uu(k:Nat)(a0:(List Int))(a1:dj)(l:Nat)(a2:(List (List Int)))(j:Nat)(a3:Int)(e:Nat)(a4:Int)(c:Nat)(r:Int)(h:nS k a0 a1 a2 a3 a4=some r):
 dc (gQ Tryz.prog) 104 [Ri a0,Pt l,Pt j,Pt e,Pt c] [.obj l 102 (.at bj a1),.obj j 107 (.rep (.arr 3 (.arr 5 (.int .i64))) a2),.obj e 3 (I a3),.obj c 3 (I a4)] (fun _:Unit=>(bq [I r],[.obj l 102 (.at bj a1),.obj j 107 (.rep (.arr 3 (.arr 5 (.int .i64))) a2),.obj e 3 (I a3),.obj c 3 (I a4)])):=by
 unfold nS at h
 replace h:=be h
 refine dc.of 20 Tryz.func104 rfl Tryz.ntmps104 rfl fun S w0=>?_
 refine sr ?_
 refine cq ?_
 refine nt ?_
 refine sr ?_
 refine lo k7 ?_
 refine fr 1 ?_
 refine lo cF ?_
 obtain⟨r1,x,h⟩:=ab h
 have E:=ix k a1 a2 r1 x
 refine aw rfl rfl rfl (an [.tmp 8,.tmp 9] rfl rfl Lt rfl E) ⟨rfl,rfl,trivial⟩ fun v2=>?_
 refine aq ?_
 refine nt ?_
 refine sr ?_
 refine mq ?_
 refine fr 3 ?_
 refine lo dh ?_
 refine mq ?_
 obtain⟨x3,n,h⟩:=ab h
 refine fr 1 ?_
 refine kb (a9 (t:=(.slice (.int .i64))) rfl oz co n) ?_
 refine aS rfl rfl (c6 (i:=Int.toNat a3) rfl co rfl (jw n) rfl .rep rfl) ⟨rfl,rfl,trivial⟩ ?_
 refine nt ?_
 refine ag ?_
 refine fw (gx [7,10,11] ⟨rfl,rfl,rfl,trivial⟩) ?_
 refine bW ?_
 refine ea 2 (ak rfl k7 kV rfl) ?_
 refine dm ?_
 obtain⟨r4,u,h⟩:=ab h
 have D:=dX k (List.set r1 (Int.toNat a3) a0) r4 u
 refine da (an [.tmp 16] rfl rfl Da rfl D) ?_
 refine ea 3 (ak rfl dh kV rfl) ?_
 refine df eA ?_
 obtain⟨r5,s,h⟩:=ab h
 have y:=mC k a1 r4 a4 r5 s
 refine jc (c9 [.tmp 15,.tmp 17,.tmp 18] rfl rfl MZ rfl y) ?_
 refine aq ?_
 refine nt ?_
 refine aA ?_
 refine bL (SE.fin (Γ':=[(6,_)]) [2,1,0,3] ⟨rfl,trivial⟩ rfl) ?_
 cases h
 exact aL () [_] 4 ⟨rfl,trivial⟩ rfl
def iz(k:Nat)(a0_0:dj)(a0_1:(List (List Int)))(a0_2:Int)(a0_3:Int)(a1:(List (List Int))):Nat→((List Int)×Int×Bool×Int)→Option ((List Int)×Int×Bool)
 |0,_=>none
 |n+1,y3=>
  if y3.2.2.2 < (a1.length:Int) then((((bf a1 y3.2.2.2).bind fun x7=>
  (nS k x7 a0_0 a0_1 a0_2 a0_3).bind fun r8=>
  ((if¬(y3.2.2.1=true) then(some true) else(some (decide (r8 < y3.2.1)))):Option (Bool)).bind fun x9=>
  if x9=true then(some (x7,r8,true)) else(some (y3.1,y3.2.1,y3.2.2.1))):Option ((List Int)×Int×Bool)).bind fun x5=>
  (ck (y3.2.2.2+1)).bind fun c=>
  iz k a0_0 a0_1 a0_2 a0_3 a1 n (x5.1,x5.2.1,x5.2.2,c)) else(some (y3.1,y3.2.1,y3.2.2.1))
def lN(k:Nat)(a0_0:dj)(a0_1:(List (List Int)))(a0_2:Int)(a0_3:Int)(a1:(List (List Int))):Option ((List Int)×Int×Bool):=
 ((iz k a0_0 a0_1 a0_2 a0_3 a1 k ([],0,false,0)):Option ((List Int)×Int×Bool)).bind fun x1=>
 some (x1.1,x1.2.1,x1.2.2)
theorem rT(k:Nat)(a0_0:dj)(c_a0_0:Nat)(a0_1:(List (List Int)))(c_a0_1:Nat)(a0_2:Int)(c_a0_2:Nat)(a0_3:Int)(c_a0_3:Nat)(a1:(List (List Int)))(r:(List Int)×Int×Bool)(h:lN k a0_0 a0_1 a0_2 a0_3 a1=some r):
 dc (gQ Tryz.prog) 106 [.eq (.func (.func 104) #[] #[(Pv c_a0_0),(Pv c_a0_1),(Pv c_a0_2),(Pv c_a0_3)]),.rep (.slice (.slice (.int .i64))) a1] [.obj c_a0_0 102 (.at bj a0_0),.obj c_a0_1 107 (.rep (.arr 3 (.arr 5 (.int .i64))) a0_1),.obj c_a0_2 3 (I a0_2),.obj c_a0_3 3 (I a0_3)] (fun _:Unit=>(bq [Ri r.1,I r.2.1,.eq (.bool r.2.2)],[.obj c_a0_0 102 (.at bj a0_0),.obj c_a0_1 107 (.rep (.arr 3 (.arr 5 (.int .i64))) a0_1),.obj c_a0_2 3 (I a0_2),.obj c_a0_3 3 (I a0_3)])):=by
 unfold lN at h
 replace h:=be h
 refine dc.of 35 Tryz.func106 rfl Tryz.ntmps106 rfl fun S w0=>?_
 refine sr ?_
 refine cq ?_
 refine cq ?_
 refine cq ?_
 refine nt ?_
 refine sr ?_
 refine cq ?_
 refine nt ?_
 refine sr ?_
 refine cq ?_
 refine cq ?_
 refine nt ?_
 refine aN (Z:=Unit) (α:=(List Int)×Int×Bool) (fun z2 x1=>[(7,Ri x1.1),(8,I x1.2.1),(9,.eq (.bool x1.2.2))]) (fun z2 x1=>[.obj c_a0_0 102 (.at bj a0_0),.obj c_a0_1 107 (.rep (.arr 3 (.arr 5 (.int .i64))) a0_1),.obj c_a0_2 3 (I a0_2),.obj c_a0_3 3 (I a0_3)]) h (fun K h=>?_) (fun z2 x1 h=>?_)
 ·
  refine sr (mq ?_);refine ol oz ?_;refine eD rfl ?_;refine nt (aj (fw (ky (t:=(.slice (.int .i64))) (x:=[]) 7 rfl .nil rfl rfl) ?_));refine aI (fun z4 y3=>[(0,.eq (.func (.func 104) #[] #[(Pv c_a0_0),(Pv c_a0_1),(Pv c_a0_2),(Pv c_a0_3)])),(7,Ri y3.1),(8,I y3.2.1),(9,.eq (.bool y3.2.2.1)),(13,.rep (.slice (.slice (.int .i64))) a1),(14,I (a1.length:Int)),(15,I y3.2.2.2)]) (fun z4 y3=>[.obj c_a0_0 102 (.at bj a0_0),.obj c_a0_1 107 (.rep (.arr 3 (.arr 5 (.int .i64))) a0_1),.obj c_a0_2 3 (I a0_2),.obj c_a0_3 3 (I a0_3)]) (iz k a0_0 a0_1 a0_2 a0_3 a1) k () ([],0,false,0) (fun _=>rfl) h (SE.fin [0,1,2,3] ⟨rfl,rfl,rfl,rfl,rfl,rfl,rfl,trivial⟩ rfl) (fun n z4 y3 h=>?_);unfold iz at h;refine sr (jb (bm rfl) ?_);refine nt (ag (ci h (fun h=>?_) (fun h=>?_)))
  ·refine sk (aN (Z:=Unit) (α:=(List Int)×Int×Bool) (fun z6 x5=>[(0,.eq (.func (.func 104) #[] #[(Pv c_a0_0),(Pv c_a0_1),(Pv c_a0_2),(Pv c_a0_3)])),(7,Ri x5.1),(8,I x5.2.1),(9,.eq (.bool x5.2.2)),(13,.rep (.slice (.slice (.int .i64))) a1),(14,I (a1.length:Int)),(15,I y3.2.2.2)]) (fun z6 x5=>[.obj c_a0_0 102 (.at bj a0_0),.obj c_a0_1 107 (.rep (.arr 3 (.arr 5 (.int .i64))) a0_1),.obj c_a0_2 3 (I a0_2),.obj c_a0_3 3 (I a0_3)]) h (fun K h=>?_) (fun z6 x5 h=>?_))
   ·refine aj (sr ?_);obtain⟨x7,l,h⟩:=ab h;refine jb (ba (t:=(.slice (.int .i64))) rfl oz co l) ?_;refine ja (ar (t:=(.slice (.int .i64))) rfl co rfl) ?_;refine aq (nt (sr ?_));iterate 2 refine mq ?_
    obtain⟨r8,u,h⟩:=ab h;refine fr 3 ?_;refine fr 3 ?_;refine fr 3 ?_;refine fr 3 ?_;refine bC (Δ:=[_,_,_,_]) (F:=_) (fun _ _ _=>au rfl _) rfl rfl (pu (fs:=[]) (cs:=[(Pv c_a0_0),(Pv c_a0_1),(Pv c_a0_2),(Pv c_a0_3)]) (ags:=[Ri x7]) [.tmp 20] rfl rfl Q1 rfl (uu k x7 a0_0 c_a0_0 a0_1 c_a0_1 a0_2 c_a0_2 a0_3 c_a0_3 r8 u)) ⟨rfl,rfl,trivial⟩ fun _=>?_;refine aq (nt ?_);refine aN (Z:=Unit) (α:=Bool) (fun c x9=>[(0,.eq (.func (.func 104) #[] #[(Pv c_a0_0),(Pv c_a0_1),(Pv c_a0_2),(Pv c_a0_3)])),(7,Ri y3.1),(8,I y3.2.1),(9,.eq (.bool y3.2.2.1)),(11,Ri x7),(12,I r8),(13,.rep (.slice (.slice (.int .i64))) a1),(14,I (a1.length:Int)),(15,I y3.2.2.2),(28,.eq (.bool x9))]) (fun c x9=>[.obj c_a0_0 102 (.at bj a0_0),.obj c_a0_1 107 (.rep (.arr 3 (.arr 5 (.int .i64))) a0_1),.obj c_a0_2 3 (I a0_2),.obj c_a0_3 3 (I a0_3)]) h (fun K h=>?_) (fun c x9 h=>?_)
    ·refine aa (mq ?_);refine ja (ig rfl) ?_;refine mq ?_;refine bF (s:=24) rfl (fun hb=>?_) (fun hb=>?_)
     ·replace h:=cr (HB hb) h;iterate 3 refine gn ?_
      refine pt (nl ?_);exact jz ((),true) h [0,1,2,3]
     ·replace h:=bv (Ac hb) h;refine gm ?_;refine gm ?_;refine gb (bm rfl) ?_;refine pf (nl ?_);exact jz ((),decide (r8 < y3.2.1)) h [0,1,2,3]
    ·refine cv h (fun h=>?_) (fun h=>?_)
     ·refine aa ?_;iterate 2 refine mq ?_
      refine aq ?_;refine aq ?_;refine cq (ao (bn ?_));exact jz ((),(x7,r8,true)) h [0,1,2,3]
     ·refine aV (bn ?_);exact jz ((),(y3.1,y3.2.1,y3.2.2.1)) h [0,1,2,3]
   ·refine aa ?_;obtain⟨j,e,h⟩:=ab h;refine jb (bg rfl e) ?_;refine mq (nl ?_);exact jz ((),(x5.1,x5.2.1,x5.2.2,j)) h [0,1,2,3]
  ·refine xa ?_;exact jz ((),(y3.1,y3.2.1,y3.2.2.1)) h [0,1,2,3]
 ·
  refine sr ?_;iterate 3 refine mq ?_
  refine aq ?_;refine aq ?_;refine aq (nt (aA ?_));cases h;exact aL () [_,_,_] 4 ⟨rfl,rfl,rfl,trivial⟩ rfl
def qT(k:Nat)(a0:bB)(a1:(List (List Int)))(a2:Int)(a3:Int):Option ((List Int)×Int×Int):=
 (cS k a0 a1).bind fun r4=>
 if¬(r4=0) then(some ([],0,r4)) else((((ck ((a0.2.2.length:Int) - 1)).bind fun x7=>
 (eE k a2 0 x7).bind fun r8=>
 if¬(r8=true) then(some true) else((eE k a3 0 a0.1).bind fun r9=>
 some (!r9))):Option (Bool)).bind fun x5=>
 if x5=true then(some ([],0,3)) else((dB k a1).bind fun n=>
 (lJ k (a0,()) n a3).bind fun e=>
 (dS k e a2).bind fun l=>
 (lS k l).bind fun j=>
 (lL k k j).bind fun h=>
 (lN k (a0,()) e a2 a3 h).bind fun c=>
 some (c.1,c.2.1,0)))
theorem wC(k:Nat)(a0:bB)(a1:(List (List Int)))(a2:Int)(a3:Int)(r:(List Int)×Int×Int)(h:qT k a0 a1 a2 a3=some r):
 dc (gQ Tryz.prog) 42 [.rep aF a0,.rep (.slice (.slice (.int .i64))) a1,I a2,I a3] [.inv 0 (gG)] (fun _:Unit=>(bq [Ri r.1,I r.2.1,I r.2.2],[.inv 0 (gG)])):=by
 unfold qT at h
 replace h:=be h
 refine dc.of 60 Tryz.func42 rfl Tryz.ntmps42 rfl fun S w0=>?_
 refine sr ?_
 refine bx fun b1=>?_
 refine bx fun b2=>?_
 refine bx fun b3=>?_
 refine cq ?_
 refine cq ?_
 refine cq ?_
 refine nt ?_
 refine ag ?_
 refine sr ?_
 refine fr 2 ?_
 refine lo gC ?_
 refine mq ?_
 obtain⟨r4,TN,h⟩:=ab h
 have TO:=f8 k a0 a1 r4 TN
 refine fr 3 ?_
 refine kb (an [.tmp 18,.tmp 19] rfl rfl OC rfl TO) ?_
 refine aq ?_
 refine nt ?_
 refine sr ?_
 refine mq ?_
 refine jb (jd rfl) ?_
 refine nt ?_
 refine cn h (fun h=>?_) (fun h=>?_)
 ·
  refine sr (mq ?_);refine cq ?_;refine cq ?_;refine aq (nt (rx ?_));refine bL (ky (t:=(.slice (.int .i64))) (x:=[]) 8 rfl .nil rfl rfl) ?_;cases h;exact aL () [_,_,_] 1 ⟨rfl,rfl,rfl,trivial⟩ rfl
 ·
  refine sk (ag (aN (Z:=Unit) (α:=Bool) (fun z6 x5=>[(1,.rep (.slice (.slice (.int .i64))) a1),(4,Pt b1),(6,Pt b2),(7,Pt b3),(37,.eq (.bool x5))]) (fun z6 x5=>[.obj b1 25 (.rep aF a0),.obj b2 3 (I a2),.obj b3 3 (I a3),.inv 0 (gG)]) h (fun K h=>?_) (fun z6 x5 h=>?_)))
  ·refine aa (fr 3 ?_);refine lo dh ?_;refine fl d4 ?_;refine fr 2 ?_;refine lo co ?_;refine ol fg ?_;obtain⟨x7,TK,h⟩:=ab h;refine jb (f6 rfl TK) ?_;obtain⟨r8,TM,h⟩:=ab h;refine jc (an [.tmp 24,.const (.int .i64 (0)),.tmp 28] rfl rfl AT rfl (eU k a2 0 x7 r8 TM)) ?_;refine ja (ig rfl) ?_;refine mq ?_;refine bF (s:=31) rfl (fun hb=>?_) (fun hb=>?_)
   ·replace h:=cr (HB hb) h;iterate 5 refine gn ?_
    refine pt (nl ?_);exact jz ((),true) h [0,1,3,2]
   ·replace h:=bv (Ac hb) h;refine fr 3 ?_;refine hQ rfl rfl rfl rfl rfl rfl (ak rfl dh kV rfl) ⟨rfl,trivial⟩ ?_;refine ga (av rfl jA) ?_;refine fr 1 ?_;refine hQ rfl rfl rfl rfl rfl rfl (ak rfl dh kV rfl) ⟨rfl,trivial⟩ ?_;obtain⟨r9,TL,h⟩:=ab h;refine gc (an [.tmp 32,.const (.int .i64 (0)),.tmp 34] rfl rfl AT rfl (eU k a3 0 a0.1 r9 TL)) ?_;refine ga (ig rfl) ?_;refine pf (nl ?_);exact jz ((), !r9) h [0,2,1,3]
  ·refine cv h (fun h=>?_) (fun h=>?_)
   ·refine sr (cq ?_);refine cq ?_;refine cq (nt (rx ?_));refine bL (ky (t:=(.slice (.int .i64))) (x:=[]) 8 rfl .nil rfl rfl) ?_;refine bL (SE.fin (Γ':=[(8,_),(9,_),(10,_)]) [3,0,1,2] ⟨rfl,rfl,rfl,trivial⟩ rfl) ?_;cases h;exact aL () [_,_,_] 1 ⟨rfl,rfl,rfl,trivial⟩ rfl
   ·refine sk (sr (lo gC ?_));refine aw rfl rfl rfl (an [.tmp 38] rfl rfl FU rfl (fk a0)) ⟨rfl,trivial⟩ fun c=>?_;refine cD (jO (bb k a0) km) ?_;refine aw rfl rfl rfl (aP rfl Gw Jm) trivial fun j=>?_;refine aS rfl rfl (aO rfl k7 trivial rfl rfl) ⟨rfl,rfl,trivial⟩ ?_;refine nt (ag (ml ?_));refine gB 0 rfl rfl rfl rfl (ak rfl k7 kV rfl) ⟨rfl,trivial⟩ ?_;refine bX rfl rfl rfl (bG rfl) ⟨rfl,trivial⟩ ?_;obtain⟨u,U,h⟩:=ab h;refine bX rfl rfl rfl (an [.tmp 41] rfl rfl Da rfl (dX k a1 u U)) ⟨rfl,trivial⟩ ?_;refine gB 4 rfl rfl rfl rfl (ak rfl dh kV rfl) ⟨rfl,trivial⟩ ?_;obtain⟨l,Q,h⟩:=ab h;refine bX rfl rfl rfl (cH (N:=[(.tmp 40,.at ap (a0,(.map (some c)))),(.tmp 42,.rep (.arr 3 (.arr 5 (.int .i64))) u),(.tmp 43,I a3)]) (an [.tmp 40,.tmp 42,.tmp 43] rfl rfl Q2 rfl (rS k (a0,()) u a3 l Q)) fun _ _ _ hn=>⟨(oy hn.1),hn.2.1,hn.2.2.1,trivial⟩) ⟨rfl,rfl,rfl,trivial⟩ ?_;refine EI (Nu 107 (.rep (.arr 3 (.arr 5 (.int .i64))) [[0,0,0,0,0],[0,0,0,0,0],[0,0,0,0,0]])) (fun _=>rfl) rfl rfl rfl (aP rfl kZ lg) trivial ?_;refine rM 6 [true,true,true,true,true,true] [] [] [] rfl (by kernel_rfl) (by kernel_rfl) (by kernel_rfl) eA (fun vs hv hB=>?_);obtain⟨w0,TZ,rfl,se⟩:=aD hv;obtain⟨w1,TY,rfl,qt⟩:=aD se;obtain⟨w2,TX,rfl,pp⟩:=aD qt;obtain⟨w3,TU,rfl,mc⟩:=aD pp;obtain⟨w4,TS,rfl,ac⟩:=aD mc;obtain⟨w5,TR,rfl,Y⟩:=aD ac;obtain rfl:=ot Y;obtain⟨e,rfl⟩:=Nr hB.2.2.2.2.2.1;refine⟨[0,1,2,3,4,5,6],[.obj j 102 (.at ap (a0,(.map (some c)))),.inv c (bb k a0),.obj b1 25 (.rep aF a0),.obj b2 3 (I a2),.obj b3 3 (I a3),.inv 0 (gG),.obj e 107 (.rep (.arr 3 (.arr 5 (.int .i64))) [[0,0,0,0,0],[0,0,0,0,0],[0,0,0,0,0]])],by kernel_rfl,by decide,?_⟩;refine sU 6 rfl ?_;refine rL rfl rfl (aO rfl cF rfl rfl rfl) ⟨rfl,rfl,trivial⟩ (by kernel_rfl) ?_;refine wo ?_;refine bL (SE.fin (Γ':=[(6,Pt b2),(7,Pt b3),(12,Pt j),(13,Pt e)]) (Δ':=[.obj e 107 (.rep (.arr 3 (.arr 5 (.int .i64))) l),.obj j 102 (.at ap (a0,(.map (some c)))),.inv c (bb k a0),.obj b1 25 (.rep aF a0),.obj b2 3 (I a2),.obj b3 3 (I a3),.inv 0 (gG)]) [0,1,2,3,4,5,6] ⟨rfl,rfl,rfl,rfl,trivial⟩ rfl) ?_;refine tn (sr (aB rfl (tD [] [.tmp 12,.tmp 13,.tmp 6,.tmp 7] [] [(Pv j),(Pv e),(Pv b2),(Pv b3)] rfl rfl rfl) ⟨rfl,rfl,rfl,rfl,trivial⟩ ?_));refine aq (nt (sr ?_));refine mq ?_;refine lo cF ?_;refine fr 4 ?_;refine lo dh ?_;obtain⟨n,O,h⟩:=ab h;refine jb (an [.tmp 48,.tmp 49] rfl rfl Em rfl (ge k l a2 n O)) ?_;refine aw rfl rfl rfl (an [.tmp 50] rfl rfl QY rfl (sa n)) ⟨rfl,trivial⟩ fun TP=>?_;obtain⟨D,M,h⟩:=ab h;refine ka (an [.tmp 51] rfl rfl QZ rfl (sb k n TP D M)) ?_;obtain⟨y,J,h⟩:=ab h;refine ja (an [.tmp 52] rfl rfl MY rfl (wA k k D y J)) ?_;refine fr 3 ?_;refine cD (oC (a:=.at ap (a0,(.map (some c)))) (a':=.at bj (a0,())) OP) ?_
    obtain⟨X,E,h⟩:=ab h;refine fr 6 ?_;refine fr 3 ?_;refine fr 4 ?_;refine fr 3 ?_;refine bC (Δ:=[_,_,_,_]) (F:=_) (fun _ _ _=>au rfl _) rfl rfl (c9 [.tmp 47,.tmp 53] rfl rfl Q0 rfl (rT k (a0,()) j l e a2 b2 a3 b3 y X E)) ⟨rfl,rfl,trivial⟩ fun _=>?_;refine mq ?_;refine xr ?_;refine xr ?_;refine xr ?_;refine aq ?_;refine aq ?_;refine aq (nt (sr ?_));iterate 2 refine mq ?_
    refine aq ?_;refine aq ?_;refine cq (nt (aA ?_));refine bL (SE.fin (Γ':=[(8,_),(9,_),(10,_)]) [7,0,1,2,3,4,5,6] ⟨rfl,rfl,rfl,trivial⟩ rfl) ?_;cases h;exact aL () [_,_,_] 1 ⟨rfl,rfl,rfl,trivial⟩ rfl
def cY(k:Nat)(a0:bB)(a1:(List (List (List Int)))):Nat→((List (List Int))×Int×Bool×Int)→Option ((List (List Int))×Int×Bool)
 |0,_=>none
 |n+1,y5=>
  if y5.2.2.2 < (a1.length:Int) then((((bf a1 y5.2.2.2).bind fun x9=>
  (a8 k a0 x9).bind fun c=>
  ((if¬(y5.2.2.1=true) then(some true) else(some (decide (c < y5.2.1)))):Option (Bool)).bind fun h=>
  if h=true then(some (x9,c,true)) else(some (y5.1,y5.2.1,y5.2.2.1))):Option ((List (List Int))×Int×Bool)).bind fun x7=>
  (ck (y5.2.2.2+1)).bind fun e=>
  cY k a0 a1 n (x7.1,x7.2.1,x7.2.2,e)) else(some (y5.1,y5.2.1,y5.2.2.1))
def iN(k:Nat)(a0:bB)(a1:(List (List (List Int)))):Option ((List (List Int))×Int×Bool):=
 ((cY k a0 a1 k ([[0,0,0,0,0],[0,0,0,0,0],[0,0,0,0,0]],0,false,0)):Option ((List (List Int))×Int×Bool)).bind fun x3=>
 some (x3.1,x3.2.1,x3.2.2)
theorem rU(k:Nat)(a0:bB)(z_a0:Nat)(a1:(List (List (List Int))))(r:(List (List Int))×Int×Bool)(h:iN k a0 a1=some r):
 dc (gQ Tryz.prog) 114 [.fn 111 (uV [.at ap (a0,(.map (some z_a0)))]),.rep (.slice (.arr 3 (.arr 5 (.int .i64)))) a1] [.inv z_a0 (bb k a0)] (fun _:Unit=>(bq [.rep (.arr 3 (.arr 5 (.int .i64))) r.1,I r.2.1,.eq (.bool r.2.2)],[.inv z_a0 (bb k a0)])):=by
 unfold iN at h
 replace h:=be h
 refine dc.of 35 Tryz.func114 rfl Tryz.ntmps114 rfl fun S w0=>?_
 refine sr ?_
 refine aw rfl rfl rfl (aP rfl kZ lg) trivial fun b1=>?_
 refine cq ?_
 refine cq ?_
 refine nt ?_
 refine sr ?_
 refine aw rfl rfl rfl (aP rfl kZ lg) trivial fun b2=>?_
 refine nt ?_
 refine sr ?_
 refine cq ?_
 refine cq ?_
 refine nt ?_
 refine aN (Z:=Unit) (α:=(List (List Int))×Int×Bool) (fun z4 x3=>[(4,Pt b1),(7,Pt b2),(8,I x3.2.1),(9,.eq (.bool x3.2.2))]) (fun z4 x3=>[.obj b1 107 (.rep (.arr 3 (.arr 5 (.int .i64))) [[0,0,0,0,0],[0,0,0,0,0],[0,0,0,0,0]]),.obj b2 107 (.rep (.arr 3 (.arr 5 (.int .i64))) x3.1),.inv z_a0 (bb k a0)]) h (fun K h=>?_) (fun z4 x3 h=>?_)
 ·
  refine sr (mq ?_);refine ol Rn ?_;refine eD rfl ?_;refine nt (aj (aI (fun z6 y5=>[(0,.fn 111 (uV [.at ap (a0,(.map (some z_a0)))])),(4,Pt b1),(7,Pt b2),(8,I y5.2.1),(9,.eq (.bool y5.2.2.1)),(13,.rep (.slice (.arr 3 (.arr 5 (.int .i64)))) a1),(14,I (a1.length:Int)),(15,I y5.2.2.2)]) (fun z6 y5=>[.obj b1 107 (.rep (.arr 3 (.arr 5 (.int .i64))) [[0,0,0,0,0],[0,0,0,0,0],[0,0,0,0,0]]),.obj b2 107 (.rep (.arr 3 (.arr 5 (.int .i64))) y5.1),.inv z_a0 (bb k a0)]) (cY k a0 a1) k () ([[0,0,0,0,0],[0,0,0,0,0],[0,0,0,0,0]],0,false,0) (fun _=>rfl) h (SE.fin [1,0,2] ⟨rfl,rfl,rfl,rfl,rfl,rfl,rfl,rfl,trivial⟩ rfl) (fun n z6 y5 h=>?_)));unfold cY at h;refine sr (jb (bm rfl) ?_);refine nt (ag (ci h (fun h=>?_) (fun h=>?_)))
  ·refine sk (aN (Z:=Unit) (α:=(List (List Int))×Int×Bool) (fun z8 x7=>[(0,.fn 111 (uV [.at ap (a0,(.map (some z_a0)))])),(4,Pt b1),(7,Pt b2),(8,I x7.2.1),(9,.eq (.bool x7.2.2)),(13,.rep (.slice (.arr 3 (.arr 5 (.int .i64)))) a1),(14,I (a1.length:Int)),(15,I y5.2.2.2)]) (fun z8 x7=>[.obj b1 107 (.rep (.arr 3 (.arr 5 (.int .i64))) [[0,0,0,0,0],[0,0,0,0,0],[0,0,0,0,0]]),.obj b2 107 (.rep (.arr 3 (.arr 5 (.int .i64))) x7.1),.inv z_a0 (bb k a0)]) h (fun K h=>?_) (fun z8 x7 h=>?_))
   ·refine aj (sr ?_);obtain⟨x9,D,h⟩:=ab h;refine jb (ba (t:=(.arr 3 (.arr 5 (.int .i64)))) rfl Rn cF D) ?_;refine ja (ar (t:=(.arr 3 (.arr 5 (.int .i64)))) rfl cF rfl) ?_;refine aw rfl rfl rfl (aP rfl kZ lg) trivial fun x=>?_;refine aS rfl rfl (aO rfl cF rfl rfl rfl) ⟨rfl,rfl,trivial⟩ ?_;refine nt (sr (mq ?_));refine lo cF ?_;obtain⟨c,u,h⟩:=ab h;refine fr 3 ?_;refine kb (HA (fs:=[.at ap (a0,(.map (some z_a0)))]) (ags:=[.rep (.arr 3 (.arr 5 (.int .i64))) x9]) [.tmp 20] rfl rfl Ek rfl (fH k a0 z_a0 x9 c u)) ?_;refine aq (nt ?_);refine aN (Z:=Unit) (α:=Bool) (fun j e=>[(0,.fn 111 (uV [.at ap (a0,(.map (some z_a0)))])),(4,Pt b1),(7,Pt b2),(8,I y5.2.1),(9,.eq (.bool y5.2.2.1)),(11,Pt x),(12,I c),(13,.rep (.slice (.arr 3 (.arr 5 (.int .i64)))) a1),(14,I (a1.length:Int)),(15,I y5.2.2.2),(28,.eq (.bool e))]) (fun j e=>[.obj b1 107 (.rep (.arr 3 (.arr 5 (.int .i64))) [[0,0,0,0,0],[0,0,0,0,0],[0,0,0,0,0]]),.obj b2 107 (.rep (.arr 3 (.arr 5 (.int .i64))) y5.1),.obj x 107 (.rep (.arr 3 (.arr 5 (.int .i64))) x9),.inv z_a0 (bb k a0)]) h (fun K h=>?_) (fun j e h=>?_)
    ·refine aa (mq ?_);refine ja (ig rfl) ?_;refine mq ?_;refine bF (s:=24) rfl (fun hb=>?_) (fun hb=>?_)
     ·replace h:=cr (HB hb) h;iterate 3 refine gn ?_
      refine pt (nl ?_);exact jz ((),true) h [2,3,1,0]
     ·replace h:=bv (Ac hb) h;refine gm ?_;refine gm ?_;refine gb (bm rfl) ?_;refine pf (nl ?_);exact jz ((),decide (c < y5.2.1)) h [2,3,1,0]
    ·refine cv h (fun h=>?_) (fun h=>?_)
     ·refine aa (fr 2 ?_);refine lo cF ?_;refine mq ?_;refine fr 2 ?_;refine aS rfl rfl (aO rfl cF rfl rfl rfl) ⟨rfl,rfl,trivial⟩ ?_;refine aq ?_;refine cq (ao (bn ?_));exact jz ((),(x9,c,true)) h [2,0,3]
     ·refine aV (bn ?_);exact jz ((),(y5.1,y5.2.1,y5.2.2.1)) h [0,1,3]
   ·refine aa ?_;obtain⟨y,l,h⟩:=ab h;refine jb (bg rfl l) ?_;refine mq (nl ?_);exact jz ((),(x7.1,x7.2.1,x7.2.2,y)) h [0,1,2]
  ·refine xa ?_;exact jz ((),(y5.1,y5.2.1,y5.2.2.1)) h [0,1,2]
 ·
  refine sr (fr 1 ?_);refine lo cF ?_;iterate 2 refine mq ?_
  refine fr 1 ?_;refine aS rfl rfl (aO rfl cF rfl rfl rfl) ⟨rfl,rfl,trivial⟩ ?_;refine aq ?_;refine aq (nt (aA ?_));refine bL (SE.fin (Γ':=[(4,_),(5,_),(6,_)]) [2,0,1] ⟨rfl,rfl,rfl,trivial⟩ rfl) ?_;cases h;exact aL () [.rep (.arr 3 (.arr 5 (.int .i64))) x3.1,_,_] 1 ⟨⟨_,_,_,_,_,rfl,(.tail _ (.head _)),cF,(xj),rfl⟩,rfl,rfl,trivial⟩ rfl
def ic(k:Nat)(a0:bB):Option ((List (List Int))×Int×Int):=
 (kf k a0).bind fun r2=>
 if¬(r2=0) then(some ([],0,r2)) else((gg k (a0,())).bind fun r5=>
 (iN k a0 r5).bind fun r6=>
 if¬(r6.2.2=true) then(some ([],0,11)) else((dy k (a0,()) r6.1).bind fun r8=>
 some (r8,r6.2.1,0)))
theorem kG(k:Nat)(a0:bB)(r:(List (List Int))×Int×Int)(h:ic k a0=some r):
 dc (gQ Tryz.prog) 56 [.rep aF a0] [] (fun _:Unit=>(bq [.rep (.slice (.slice (.int .i64))) r.1,I r.2.1,I r.2.2],[])):=by
 unfold ic at h
 replace h:=be h
 refine dc.of 33 Tryz.func56 rfl Tryz.ntmps56 rfl fun S w0=>?_
 refine sr ?_
 refine bx fun b1=>?_
 refine cq ?_
 refine cq ?_
 refine cq ?_
 refine nt ?_
 refine ag ?_
 refine sr ?_
 refine lo gC ?_
 obtain⟨r2,l,h⟩:=ab h
 have n:=nV k a0 r2 l
 refine ja (an [.tmp 10] rfl rfl OD rfl n) ?_
 refine aq ?_
 refine nt ?_
 refine sr ?_
 refine mq ?_
 refine jb (jd rfl) ?_
 refine nt ?_
 refine cn h (fun h=>?_) (fun h=>?_)
 ·
  refine sr (mq ?_);refine cq ?_;refine cq ?_;refine aq (nt (rx ?_));refine bL (ky (t:=(.slice (.slice (.int .i64)))) (x:=[]) 2 rfl .nil rfl rfl) ?_;cases h;exact aL () [_,_,_] 0 ⟨rfl,rfl,rfl,trivial⟩ rfl
 ·
  refine sk (sr (lo gC ?_));refine aw rfl rfl rfl (an [.tmp 15] rfl rfl FU rfl (fk a0)) ⟨rfl,trivial⟩ fun z3=>?_;refine cD (jO (bb k a0) km) ?_;refine aq (nt (sr ?_));refine mq ?_;refine ja (KB [.tmp 18] [.at ap (a0,(.map (some z3)))] rfl rfl) ?_;refine mq ?_;refine aw rfl rfl rfl (cH (N:=[(.tmp 20,.at ap (a0,(.map (some z3))))]) (an [.tmp 20] rfl rfl I6 rfl (iL (a0,()))) fun _ _ _ hn=>⟨oy hn.1,trivial⟩) ⟨rfl,trivial⟩ fun b4=>?_;obtain⟨r5,j,h⟩:=ab h;refine ka (an [.tmp 21] rfl rfl QW rfl (qD k (a0,()) b4 r5 j)) ?_;obtain⟨r6,e,h⟩:=ab h;refine fr 1 ?_;refine kb (c9 [.tmp 19,.tmp 22] rfl rfl QX rfl (rU k a0 z3 r5 r6 e)) ?_;refine mq ?_;refine xr ?_;refine xr ?_;refine xr ?_;refine aw rfl rfl rfl (aP rfl kZ lg) trivial fun b7=>?_;refine aS rfl rfl (aO rfl cF rfl rfl rfl) ⟨rfl,rfl,trivial⟩ ?_;refine aq ?_;refine aq (nt (ag (sr ?_)));refine mq ?_;refine ja (ig rfl) ?_;refine nt (cw h (fun h=>?_) (fun h=>?_))
  ·refine sr (cq ?_);refine cq ?_;refine cq (nt (rx ?_));refine bL (ky (t:=(.slice (.slice (.int .i64)))) (x:=[]) 2 rfl .nil rfl rfl) ?_;cases h;exact aL () [_,_,_] 0 ⟨rfl,rfl,rfl,trivial⟩ rfl
  ·refine sk (sr (mq ?_));refine lo cF ?_;obtain⟨r8,c,h⟩:=ab h;refine aw rfl rfl rfl (cH (N:=[(.tmp 29,.at ap (a0,(.map (some z3)))),(.tmp 30,.rep (.arr 3 (.arr 5 (.int .i64))) r6.1)]) (an [.tmp 29,.tmp 30] rfl rfl Lt rfl (ix k (a0,()) r6.1 r8 c)) fun _ _ _ hn=>⟨(oy hn.1),hn.2.1,trivial⟩) ⟨rfl,rfl,trivial⟩ fun v9=>?_;refine mq ?_;refine aq ?_;refine aq ?_;refine cq (nt (aA ?_));refine bL (gx [2,31] ⟨rfl,rfl,trivial⟩) ?_;cases h;exact aL () [_,_,_] 0 ⟨rfl,rfl,rfl,trivial⟩ rfl
set_option maxRecDepth 20000
set_option maxHeartbeats 4000000
def O8(b:Nat):List Int→Option Addr
 |[]=>none
 |_::_=>some ⟨b,0,none⟩
def RF:List Int→Value→Value
 |[],_=>.slice none 0 0
 |_::_,v=>v
theorem OG(b:Nat)(l:List Int):O8 b l=none∨O8 b l=some ⟨b,0,none⟩:=by cases l <;> simp [O8]
theorem Jh(b:Nat)(l:List Int)(c:Int):O8 b (l++[c])=some ⟨b,0,none⟩:=by cases l <;> rfl
theorem Jg(l:List Int)(c:Int)(v:Value):RF (l++[c]) v=v:=by cases l <;> rfl
theorem MG:m9 Tryz.prog 86 9 1 16:=.of (z:=(.string .empty)) TF (by kernel_rfl) rfl rfl rfl
theorem Oy:ah Tryz.prog 121:=ah.of Tryz.func121 (by kernel_rfl) (by kernel_rfl)
theorem Qp:ah Tryz.prog 35:=ah.of Tryz.func35 (by kernel_rfl) (by kernel_rfl)
theorem PL:dL Tryz.prog 25 3 true:=⟨fun w=>by kernel_rfl,fun w=>by kernel_rfl⟩
theorem MD:dL Tryz.prog 23 1 false:=⟨fun w=>by kernel_rfl,fun w=>by kernel_rfl⟩
theorem PK:dL Tryz.prog 3 1 false:=⟨fun w=>by kernel_rfl,fun w=>by kernel_rfl⟩
def lK(c:Int):Int:=IntKind.i32.wrap (97+IntKind.i32.wrap c)
def ll(xs:List Int):Nat→Int×List Int→Option (List Int)
 |0,_=>none
 |n+1,y=>if y.1 < (xs.length:Int) then((bf xs y.1).bind fun c=>if 0≤lK c∧lK c≤127∧bY (y.2.length+1) then(ck (y.1+1)).bind fun z=>ll xs n (z,y.2++[lK c]) else none) else some y.2
def jQ(k:Nat)(a1:List (List Int)):Nat→Int×List ByteArray→Option (List ByteArray)
 |0,_=>none
 |n+1,y=>if y.1 < (a1.length:Int) then((bf a1 y.1).bind fun xs=>(ll xs k (0,[])).bind fun l=>if bY (y.2.length+1) then(ck (y.1+1)).bind fun z=>jQ k a1 n (z,y.2++[qU l]) else none) else some y.2
def tf(k:Nat)(a0:bB)(a1:(List (List Int))):Option (Value×Int):=
 (cS k a0 a1).bind fun e=>if¬(e=0) then some (.string .empty,e) else(jQ k a1 k (0,[])).bind fun ss=>(uG k ss ⟨#[47]⟩).bind fun r=>some (.string r,0)
theorem yc(k:Nat)(a0:bB)(a1:(List (List Int)))(r:Value×Int)(h:tf k a0 a1=some r):
 cu Tryz.prog 67 [.rep aF a0,.rep (.slice (.slice (.int .i64))) a1] [.inv 0 gG] (fun _:Unit=>(bq [.eq r.1,I r.2],[.inv 0 gG])):=by
 unfold tf at h
 replace h:=be h
 refine cu.of 43 Tryz.func67 rfl Tryz.ntmps67 rfl fun S w0=>?_
 refine sr ?_
 refine bx fun b2=>?_
 refine cq ?_
 refine cq ?_
 refine nt ?_
 refine ag ?_
 refine sr ?_
 obtain⟨e,ee,h⟩:=ab h
 have ce:=f8 k a0 a1 e ee
 refine ka (ak rfl PL (zl) rfl) ?_
 refine mq ?_
 refine fr 1 ?_
 refine kb (an [.tmp 13,.tmp 14] rfl rfl Qp rfl ce) ?_
 refine aq ?_
 refine nt ?_
 refine sr ?_
 refine mq ?_
 refine jb (jd rfl) ?_
 refine nt ?_
 refine bu rfl (fun hb=>?_) (fun hb=>?_)
 ·
  replace h:=cr (PZ hb) h;refine sr (mq ?_);refine cq ?_;refine aq (nt (rx ?_));cases h;exact aL () [_,_] 1 ⟨rfl,rfl,trivial⟩ rfl
 replace h:=bv (HV hb) h
 refine sk ?_
 refine sr ?_
 refine cq ?_
 refine nt ?_
 rw [Option.bind_assoc] at h
 refine ag ?_
 refine sr ?_
 refine mq ?_
 refine ol oz ?_
 refine eD rfl ?_
 refine cD (SE.nil 9 .str) ?_
 refine nt ?_
 refine aj ?_
 refine aI (fun v y=>[(7,.eq v),(19,.rep (.slice (.slice (.int .i64))) a1),(20,I (a1.length:Int)),(21,I y.1)]) (fun v y=>[.sl v 9 .str y.2,.inv 0 gG]) (jQ k a1) k (.slice none 0 0) (0,[]) (fun _=>rfl) h (SE.fin [0,1] ⟨rfl,rfl,rfl,rfl,trivial⟩ rfl) (fun n v7 y h=>?_)
 unfold jQ at h
 refine sr ?_
 refine jb (bm rfl) ?_
 refine nt ?_
 refine ag ?_
 refine bu rfl (fun hb=>?_) (fun hb=>?_)
 ·
  replace h:=cr (mh hb) h;refine sk (ag (aj ?_));obtain⟨xs,exs,h⟩:=ab h;refine sr (jb (ba (t:=.slice (.int .i64)) rfl oz MD exs) ?_);refine ja (ar (t:=.slice (.int .i64)) rfl MD rfl) ?_;refine aq (nt (sr ?_));refine aw rfl rfl rfl (aP rfl Gu Jl) trivial fun b=>?_;refine nt ?_;rw [Option.bind_assoc] at h;refine ag (sr (mq ?_));refine ol fg ?_;refine eD rfl ?_;refine cD (SE.nil 5 (.int .u8)) ?_;refine nt (aj ?_)
  refine aI (fun v q=>[(7,.eq v7),(10,.eq (bP b)),(19,.rep (.slice (.slice (.int .i64))) a1),(20,I (a1.length:Int)),(21,I y.1),(25,Ri xs),(26,I (xs.length:Int)),(27,I q.1)])
   (fun v q=>[.obj b 162 (bA (.pointer (O8 b q.2)) (RF q.2 v)),.sl (RF q.2 v) 5 (.int .u8) q.2,.sl v7 9 .str y.2,.inv 0 gG]) (ll xs) k undef (0,[]) (fun _=>rfl) h (SE.fin [1,0,2,3] ⟨rfl,rfl,rfl,rfl,rfl,rfl,rfl,rfl,trivial⟩ rfl) (fun n2 v q h=>?_)
  unfold ll at h;refine sr (jb (bm rfl) ?_);refine nt (ag (bu rfl (fun hb=>?_) (fun hb=>?_)))
  ·replace h:=cr (mh hb) h;refine sk (ag (aj ?_));obtain⟨c,ec,h⟩:=ab h;refine sr (jb (ba (t:=.int .i64) rfl fg PK ec) ?_);refine ja (ar (t:=.int .i64) rfl PK rfl) ?_;refine aq (nt ?_)
   have hk:0≤lK c∧lK c≤127∧bY (q.2.length+1):=by
    apply Classical.byContradiction;intro hn;rw [if_neg hn] at h;cases h
   replace h:=cr hk h;refine wq 1 rfl fun hv=>?_;refine aa (mq ?_);refine ja (pq rfl U3 TG) ?_;refine jb (Cm rfl) ?_;refine bC (Δ:=[_,_]) (F:=_) (fun _ _ _=>au rfl _) rfl rfl (an [.tmp 10,.tmp 33] rfl rfl Oz rfl (yf (b:=b) (p:=O8 b q.2) (v:=RF q.2 v) (l:=q.2) (r:=lK c) (OG b q.2) hv hk.1 hk.2.1 hk.2.2)) ⟨rfl,rfl,trivial⟩ fun v2=>?_;refine ao (aG (tn (aa ?_)));obtain⟨z3,ez3,h⟩:=ab h;refine jb (bg rfl ez3) ?_;refine mq (nl ?_);exact i7 (v2,(z3,q.2++[lK c])) h (SE.fin [0,1,2,3] ⟨rfl,rfl,rfl,rfl,rfl,rfl,rfl,rfl,trivial⟩ (by simp only [Jh,Jg];rfl))
  replace h:=bv (lw hb) h;refine dJ (aR (aR (bR (tn ?_))));replace h:(if bY (y.2.length+1) then(ck (y.1+1)).bind fun z=>jQ k a1 n (z,y.2++[qU q.2]) else none).bind _=some r:=h
  have hk:bY (y.2.length+1):=by
   apply Classical.byContradiction;intro hn;rw [if_neg hn] at h;cases h
  replace h:=cr hk h;refine aa (mq ?_);refine bC (Δ:=[_,_]) (F:=_) (fun _ _ _=>au rfl _) rfl rfl (an [.tmp 10] rfl rfl I2 rfl (wY (b:=b) (l:=q.2) (fun hn=>by rw [hn];rfl))) ⟨rfl,trivial⟩ fun _=>?_;refine ja (bH (t:=.str) [(.tmp 37,.eq (.string (qU q.2)))] [qU q.2] rfl rfl MG (.cons rfl .str .nil) rfl rfl) ?_;refine dN rfl rfl rfl (cz rfl rfl MG (by simpa using hk)) ⟨rfl,rfl,trivial⟩ fun v'=>?_;refine aq (ao (aG (tn (aa ?_))));obtain⟨z3,ez3,h⟩:=ab h;refine jb (bg rfl ez3) ?_;refine mq (nl ?_);exact jz (v',(z3,y.2++[qU q.2])) h [0,1]
 replace h:=bv (lw hb) h
 refine dJ ?_
 refine aR ?_
 refine aR ?_
 refine bR ?_
 refine tn ?_
 replace h:((uG k y.2 ⟨#[47]⟩).bind fun r=>some (.string r,0)).bind some=some r:=h
 obtain⟨r1,j,h⟩:=ab h
 cases h
 have cj:=BO k y.2 _ r1 j
 refine sr ?_
 refine cD (gx [7] ⟨rfl,trivial⟩) ?_
 refine mq ?_
 refine jb (an [.tmp 41,.const (.string ⟨#[47]⟩)] rfl rfl Oy rfl cj) ?_
 refine aq ?_
 refine cq ?_
 refine nt ?_
 refine aA ?_
 exact aL () [_,_] 1 ⟨rfl,rfl,trivial⟩ rfl
def fp(k:Nat):Option Bool:=
 (kM k ([]:(List Int))).bind fun r1=>
 (xw k).bind fun r2=>
 (yd k r1 r2 1).bind fun r3=>
 (kM k ([]:(List Int))).bind fun r4=>
 (xw k).bind fun r5=>
 (qc k r4 r5).bind fun r6=>
 (kM k ([]:(List Int))).bind fun r7=>
 (ic k r7).bind fun r8=>
 (kM k ([]:(List Int))).bind fun r9=>
 (Ic k).bind fun E=>
 (uW k r9 E).bind fun c=>
 (kM k ([]:(List Int))).bind fun D=>
 (xw k).bind fun y=>
 (qT k D y 0 1).bind fun h=>
 (kM k ([]:(List Int))).bind fun x=>
 (xw k).bind fun u=>
 (tf k x u).bind fun e=>
 ((if r3.2.2=0 then(if r6.2=0 then(if r8.2.2=0 then(if c.2.2.2=0 then(if h.2.2=0 then(if e.2=0 then(if r6.1=3 then(if r8.2.1=0 then(if c.1=0 then(if c.2.1=2 then(if c.2.2.1=1 then(if h.2.1=2 then((eM (MQ e.1=true)).bind fun _=>
 if IZ e.1 (⟨#[98,97,100,47,99]⟩:ByteArray)=true then((dU k r3.1 [0]).bind fun s=>
 if s=true then((fV k r3.2.1 [[0,1,3],[2]]).bind fun r=>
 if r=true then((fV k r8.1 [[2,0],[1,3]]).bind fun n=>
 if n=true then((dU k h.1 [0,1,3]).bind fun l=>
 some l) else(some false)) else(some false)) else(some false)) else(some false)) else(some false)) else(some false)) else(some false)) else(some false)) else(some false)) else(some false)) else(some false)) else(some false)) else(some false)) else(some false)) else(some false)) else(some false)):Option (Bool)).bind fun j=>
 some j
theorem kD(k:Nat)(r:Bool)(h:fp k=some r):
 dc (gQ Tryz.prog) 25 [] [.inv 0 (gG)] (fun _:Unit=>(bq [.eq (.bool r)],[.inv 0 (gG)])):=by
 unfold fp at h
 replace h:=be h
 refine dc.of 132 Tryz.func25 rfl Tryz.ntmps25 rfl fun S w0=>?_
 refine sr ?_
 refine cq ?_
 refine nt ?_
 refine sr ?_
 obtain⟨r1,Ug,h⟩:=ab h
 have Up:=jG k ([]:(List Int)) r1 Ug
 refine ja (cH (N:=[(.const (.slice none 0 0),.eq (.slice none 0 0))]) (an [.const (.slice none 0 0)] rfl rfl FV rfl Up) fun _ _ _ hn=>⟨(gl (t:=(.slice (.int .i64))) (x:=([]:(List Int))) .nil rfl rfl hn.1),trivial⟩) ?_
 obtain⟨r2,Uf,h⟩:=ab h
 have Uo:=sB k r2 Uf
 refine aB rfl (an [] rfl rfl Lx rfl Uo) trivial ?_
 obtain⟨r3,Ue,h⟩:=ab h
 have Un:=BK k r1 r2 1 r3 Ue
 refine kc (an [.tmp 19,.tmp 20,.const (.int .i64 (1))] rfl rfl SK rfl Un) ?_
 refine mq ?_
 refine xr ?_
 refine xr ?_
 refine xr ?_
 refine aq ?_
 refine aq ?_
 refine aq ?_
 refine nt ?_
 refine sr ?_
 obtain⟨r4,Ud,h⟩:=ab h
 have Um:=jG k ([]:(List Int)) r4 Ud
 refine ja (cH (N:=[(.const (.slice none 0 0),.eq (.slice none 0 0))]) (an [.const (.slice none 0 0)] rfl rfl FV rfl Um) fun _ _ _ hn=>⟨(gl (t:=(.slice (.int .i64))) (x:=([]:(List Int))) .nil rfl rfl hn.1),trivial⟩) ?_
 obtain⟨r5,Uc,h⟩:=ab h
 have Ul:=sB k r5 Uc
 refine aB rfl (an [] rfl rfl Lx rfl Ul) trivial ?_
 obtain⟨r6,Ub,h⟩:=ab h
 have Uk:=rW k r4 r5 r6 Ub
 refine kb (c9 [.tmp 26,.tmp 27] rfl rfl SG rfl Uk) ?_
 refine mq ?_
 refine xr ?_
 refine xr ?_
 refine aq ?_
 refine aq ?_
 refine nt ?_
 refine sr ?_
 obtain⟨r7,Ua,h⟩:=ab h
 have Uj:=jG k ([]:(List Int)) r7 Ua
 refine ja (cH (N:=[(.const (.slice none 0 0),.eq (.slice none 0 0))]) (an [.const (.slice none 0 0)] rfl rfl FV rfl Uj) fun _ _ _ hn=>⟨(gl (t:=(.slice (.int .i64))) (x:=([]:(List Int))) .nil rfl rfl hn.1),trivial⟩) ?_
 obtain⟨r8,T9,h⟩:=ab h
 have Ui:=kG k r7 r8 T9
 refine ja (c9 [.tmp 32] rfl rfl I3 rfl Ui) ?_
 refine mq ?_
 refine xr ?_
 refine xr ?_
 refine xr ?_
 refine aq ?_
 refine aq ?_
 refine aq ?_
 refine nt ?_
 refine sr ?_
 obtain⟨r9,T8,h⟩:=ab h
 have Uh:=jG k ([]:(List Int)) r9 T8
 refine ja (cH (N:=[(.const (.slice none 0 0),.eq (.slice none 0 0))]) (an [.const (.slice none 0 0)] rfl rfl FV rfl Uh) fun _ _ _ hn=>⟨(gl (t:=(.slice (.int .i64))) (x:=([]:(List Int))) .nil rfl rfl hn.1),trivial⟩) ?_
 obtain⟨E,qt,h⟩:=ab h
 have TR:=Ib k E qt
 refine aB rfl (an [] rfl rfl SB rfl TR) trivial ?_
 obtain⟨TZ,pp,h⟩:=ab h
 have TP:=zD k r9 E TZ pp
 refine kb (c9 [.tmp 38,.tmp 39] rfl rfl SJ rfl TP) ?_
 refine mq ?_
 refine xr ?_
 refine xr ?_
 refine xr ?_
 refine xr ?_
 refine aq ?_
 refine aq ?_
 refine aq ?_
 refine aq ?_
 refine nt ?_
 refine sr ?_
 obtain⟨D,mc,h⟩:=ab h
 have TO:=jG k ([]:(List Int)) D mc
 refine ja (cH (N:=[(.const (.slice none 0 0),.eq (.slice none 0 0))]) (an [.const (.slice none 0 0)] rfl rfl FV rfl TO) fun _ _ _ hn=>⟨(gl (t:=(.slice (.int .i64))) (x:=([]:(List Int))) .nil rfl rfl hn.1),trivial⟩) ?_
 obtain⟨y,ac,h⟩:=ab h
 have TN:=sB k y ac
 refine aB rfl (an [] rfl rfl Lx rfl TN) trivial ?_
 obtain⟨u,Y,h⟩:=ab h
 have TM:=wC k D y 0 1 u Y
 refine bV rfl rfl rfl (c9 [.tmp 46,.tmp 47,.const (.int .i64 (0)),.const (.int .i64 (1))] rfl rfl SI rfl TM) ⟨rfl,rfl,rfl,rfl,trivial⟩ ?_
 refine mq ?_
 refine xr ?_
 refine xr ?_
 refine xr ?_
 refine aq ?_
 refine aq ?_
 refine aq ?_
 refine nt ?_
 refine sr ?_
 obtain⟨n,X,h⟩:=ab h
 have TL:=jG k ([]:(List Int)) n X
 refine ja (cH (N:=[(.const (.slice none 0 0),.eq (.slice none 0 0))]) (an [.const (.slice none 0 0)] rfl rfl FV rfl TL) fun _ _ _ hn=>⟨(gl (t:=(.slice (.int .i64))) (x:=([]:(List Int))) .nil rfl rfl hn.1),trivial⟩) ?_
 obtain⟨l,U,h⟩:=ab h
 have TK:=sB k l U
 refine aB rfl (an [] rfl rfl Lx rfl TK) trivial ?_
 obtain⟨TY,Q,h⟩:=ab h
 have se:=yc k n l TY Q
 refine kb (an [.tmp 53,.tmp 54] rfl rfl SD rfl se) ?_
 refine mq ?_
 refine xr ?_
 refine xr ?_
 refine aq ?_
 refine aq ?_
 refine nt ?_
 refine aN (Z:=Unit) (α:=Bool) (fun e c=>[(0,.eq (.bool c))]) (fun e c=>[.inv 0 (gG)]) h (fun K h=>?_) (fun e c h=>?_)
 ·
  refine aa (mq ?_);refine jb (dw rfl) ?_;refine mq ?_;refine bF (s:=60) rfl (fun hb=>?_) (fun hb=>?_)
  ·replace h:=cr (mh hb) h;refine gm ?_;refine gb (dw rfl) ?_;refine pt ?_;refine mq ?_;refine bF (s:=64) rfl (fun hb=>?_) (fun hb=>?_)
   ·replace h:=cr (mh hb) h;refine gm ?_;refine gb (dw rfl) ?_;refine pt ?_;refine mq ?_;refine bF (s:=68) rfl (fun hb=>?_) (fun hb=>?_)
    ·replace h:=cr (mh hb) h;refine gm ?_;refine gb (dw rfl) ?_;refine pt ?_;refine mq ?_;refine bF (s:=72) rfl (fun hb=>?_) (fun hb=>?_)
     ·replace h:=cr (mh hb) h;refine gm ?_;refine gb (dw rfl) ?_;refine pt ?_;refine mq ?_;refine bF (s:=76) rfl (fun hb=>?_) (fun hb=>?_)
      ·replace h:=cr (mh hb) h;refine gm ?_;refine gb (dw rfl) ?_;refine pt ?_;refine mq ?_;refine bF (s:=80) rfl (fun hb=>?_) (fun hb=>?_)
       ·replace h:=cr (mh hb) h;refine gm ?_;refine gb (dw rfl) ?_;refine pt ?_;refine mq ?_;refine bF (s:=84) rfl (fun hb=>?_) (fun hb=>?_)
        ·replace h:=cr (mh hb) h;refine gm ?_;refine gb (dw rfl) ?_;refine pt ?_;refine mq ?_;refine bF (s:=88) rfl (fun hb=>?_) (fun hb=>?_)
         ·replace h:=cr (mh hb) h;refine gm ?_;refine gb (dw rfl) ?_;refine pt ?_;refine mq ?_;refine bF (s:=92) rfl (fun hb=>?_) (fun hb=>?_)
          ·replace h:=cr (mh hb) h;refine gm ?_;refine gb (dw rfl) ?_;refine pt ?_;refine mq ?_;refine bF (s:=96) rfl (fun hb=>?_) (fun hb=>?_)
           ·replace h:=cr (mh hb) h;refine gm ?_;refine gb (dw rfl) ?_;refine pt ?_;refine mq ?_;refine bF (s:=100) rfl (fun hb=>?_) (fun hb=>?_)
            ·replace h:=cr (mh hb) h;refine gm ?_;refine gb (dw rfl) ?_;refine pt ?_;refine mq ?_;refine bF (s:=104) rfl (fun hb=>?_) (fun hb=>?_)
             ·replace h:=cr (mh hb) h;refine gm ?_;obtain⟨Ur,F,h⟩:=ab h;refine gb (Hy rfl (aE F)) ?_;refine pt ?_;refine mq ?_;refine bF (s:=108) rfl (fun hb=>?_) (fun hb=>?_)
              ·replace h:=cr (Bv hb) h;refine gm ?_;refine ga (bH (t:=(.int .i64)) [(.const (.int .i64 (0)),_)] [0] rfl rfl fD (.cons rfl .int .nil) rfl rfl) ?_;obtain⟨TX,O,h⟩:=ab h;refine gb (an [.tmp 109,.tmp 110] rfl rfl Ly rfl (jv k r3.1 [0] TX O)) ?_;refine pt ?_;refine mq ?_;refine bF (s:=113) rfl (fun hb=>?_) (fun hb=>?_)
               ·replace h:=cr (Bv hb) h;refine gm ?_;refine gc (bH (t:=(.int .i64)) [(.const (.int .i64 (0)),_),(.const (.int .i64 (1)),_),(.const (.int .i64 (3)),_)] [0,1,3] rfl rfl fD (.cons rfl .int (.cons rfl .int (.cons rfl .int .nil))) rfl rfl) ?_;refine ga (bH (t:=(.int .i64)) [(.const (.int .i64 (2)),_)] [2] rfl rfl fD (.cons rfl .int .nil) rfl rfl) ?_;refine gb (bH (t:=(.slice (.int .i64))) [(.tmp 115,_),(.tmp 116,_)] [[0,1,3],[2]] rfl rfl tj (.cons rfl .rep (.cons rfl .rep .nil)) rfl rfl) ?_;obtain⟨TU,M,h⟩:=ab h;refine gb (an [.tmp 114,.tmp 117] rfl rfl OB rfl (ko k r3.2.1 [[0,1,3],[2]] TU M)) ?_;refine pt ?_;refine mq ?_;refine bF (s:=120) rfl (fun hb=>?_) (fun hb=>?_)
                ·replace h:=cr (Bv hb) h;refine gm ?_;refine gb (bH (t:=(.int .i64)) [(.const (.int .i64 (2)),_),(.const (.int .i64 (0)),_)] [2,0] rfl rfl fD (.cons rfl .int (.cons rfl .int .nil)) rfl rfl) ?_;refine gb (bH (t:=(.int .i64)) [(.const (.int .i64 (1)),_),(.const (.int .i64 (3)),_)] [1,3] rfl rfl fD (.cons rfl .int (.cons rfl .int .nil)) rfl rfl) ?_;refine gb (bH (t:=(.slice (.int .i64))) [(.tmp 122,_),(.tmp 123,_)] [[2,0],[1,3]] rfl rfl tj (.cons rfl .rep (.cons rfl .rep .nil)) rfl rfl) ?_;obtain⟨TS,J,h⟩:=ab h;refine gb (an [.tmp 121,.tmp 124] rfl rfl OB rfl (ko k r8.1 [[2,0],[1,3]] TS J)) ?_;refine pt ?_;refine mq ?_;refine bF (s:=127) rfl (fun hb=>?_) (fun hb=>?_)
                 ·replace h:=cr (Bv hb) h;refine gm ?_;refine gc (bH (t:=(.int .i64)) [(.const (.int .i64 (0)),_),(.const (.int .i64 (1)),_),(.const (.int .i64 (3)),_)] [0,1,3] rfl rfl fD (.cons rfl .int (.cons rfl .int (.cons rfl .int .nil))) rfl rfl) ?_;obtain⟨j,I,h⟩:=ab h;refine gb (an [.tmp 128,.tmp 129] rfl rfl Ly rfl (jv k u.1 [0,1,3] j I)) ?_;refine pt ?_;refine aq (nl ?_);exact jz ((),j) h [0]
                 ·replace h:=bv (Bw hb) h;iterate 3 refine gn ?_
                  refine pf ?_;refine aq (nl ?_);exact jz ((),false) h [0]
                ·replace h:=bv (Bw hb) h;iterate 5 refine gn ?_
                 refine pf ?_;refine mq ?_;iterate 3 refine gn ?_
                 refine pf ?_;refine aq (nl ?_);exact jz ((),false) h [0]
               ·replace h:=bv (Bw hb) h;iterate 5 refine gn ?_
                refine pf ?_;refine mq ?_;iterate 5 refine gn ?_
                refine pf ?_;refine mq ?_;iterate 3 refine gn ?_
                refine pf ?_;refine aq (nl ?_);exact jz ((),false) h [0]
              ·replace h:=bv (Bw hb) h;iterate 3 refine gn ?_
               refine pf ?_;refine mq ?_;iterate 5 refine gn ?_
               refine pf ?_;refine mq ?_;iterate 5 refine gn ?_
               refine pf ?_;refine mq ?_;iterate 3 refine gn ?_
               refine pf ?_;refine aq (nl ?_);exact jz ((),false) h [0]
             ·replace h:=bv (lw hb) h;iterate 2 refine gn ?_
              refine pf ?_;refine mq ?_;iterate 3 refine gn ?_
              refine pf ?_;refine mq ?_;iterate 5 refine gn ?_
              refine pf ?_;refine mq ?_;iterate 5 refine gn ?_
              refine pf ?_;refine mq ?_;iterate 3 refine gn ?_
              refine pf ?_;refine aq (nl ?_);exact jz ((),false) h [0]
            ·replace h:=bv (lw hb) h;iterate 2 refine gn ?_
             refine pf ?_;refine mq ?_;iterate 2 refine gn ?_
             refine pf ?_;refine mq ?_;iterate 3 refine gn ?_
             refine pf ?_;refine mq ?_;iterate 5 refine gn ?_
             refine pf ?_;refine mq ?_;iterate 5 refine gn ?_
             refine pf ?_;refine mq ?_;iterate 3 refine gn ?_
             refine pf ?_;refine aq (nl ?_);exact jz ((),false) h [0]
           ·replace h:=bv (lw hb) h;iterate 2 refine gn ?_
            refine pf ?_;refine mq ?_;iterate 2 refine gn ?_
            refine pf ?_;refine mq ?_;iterate 2 refine gn ?_
            refine pf ?_;refine mq ?_;iterate 3 refine gn ?_
            refine pf ?_;refine mq ?_;iterate 5 refine gn ?_
            refine pf ?_;refine mq ?_;iterate 5 refine gn ?_
            refine pf ?_;refine mq ?_;iterate 3 refine gn ?_
            refine pf ?_;refine aq (nl ?_);exact jz ((),false) h [0]
          ·replace h:=bv (lw hb) h;iterate 2 refine gn ?_
           refine pf ?_;refine mq ?_;iterate 2 refine gn ?_
           refine pf ?_;refine mq ?_;iterate 2 refine gn ?_
           refine pf ?_;refine mq ?_;iterate 2 refine gn ?_
           refine pf ?_;refine mq ?_;iterate 3 refine gn ?_
           refine pf ?_;refine mq ?_;iterate 5 refine gn ?_
           refine pf ?_;refine mq ?_;iterate 5 refine gn ?_
           refine pf ?_;refine mq ?_;iterate 3 refine gn ?_
           refine pf ?_;refine aq (nl ?_);exact jz ((),false) h [0]
         ·replace h:=bv (lw hb) h;iterate 2 refine gn ?_
          refine pf ?_;refine mq ?_;iterate 2 refine gn ?_
          refine pf ?_;refine mq ?_;iterate 2 refine gn ?_
          refine pf ?_;refine mq ?_;iterate 2 refine gn ?_
          refine pf ?_;refine mq ?_;iterate 2 refine gn ?_
          refine pf ?_;refine mq ?_;iterate 3 refine gn ?_
          refine pf ?_;refine mq ?_;iterate 5 refine gn ?_
          refine pf ?_;refine mq ?_;iterate 5 refine gn ?_
          refine pf ?_;refine mq ?_;iterate 3 refine gn ?_
          refine pf ?_;refine aq (nl ?_);exact jz ((),false) h [0]
        ·replace h:=bv (lw hb) h;iterate 2 refine gn ?_
         refine pf ?_;refine mq ?_;iterate 2 refine gn ?_
         refine pf ?_;refine mq ?_;iterate 2 refine gn ?_
         refine pf ?_;refine mq ?_;iterate 2 refine gn ?_
         refine pf ?_;refine mq ?_;iterate 2 refine gn ?_
         refine pf ?_;refine mq ?_;iterate 2 refine gn ?_
         refine pf ?_;refine mq ?_;iterate 3 refine gn ?_
         refine pf ?_;refine mq ?_;iterate 5 refine gn ?_
         refine pf ?_;refine mq ?_;iterate 5 refine gn ?_
         refine pf ?_;refine mq ?_;iterate 3 refine gn ?_
         refine pf ?_;refine aq (nl ?_);exact jz ((),false) h [0]
       ·replace h:=bv (lw hb) h;iterate 2 refine gn ?_
        refine pf ?_;refine mq ?_;iterate 2 refine gn ?_
        refine pf ?_;refine mq ?_;iterate 2 refine gn ?_
        refine pf ?_;refine mq ?_;iterate 2 refine gn ?_
        refine pf ?_;refine mq ?_;iterate 2 refine gn ?_
        refine pf ?_;refine mq ?_;iterate 2 refine gn ?_
        refine pf ?_;refine mq ?_;iterate 2 refine gn ?_
        refine pf ?_;refine mq ?_;iterate 3 refine gn ?_
        refine pf ?_;refine mq ?_;iterate 5 refine gn ?_
        refine pf ?_;refine mq ?_;iterate 5 refine gn ?_
        refine pf ?_;refine mq ?_;iterate 3 refine gn ?_
        refine pf ?_;refine aq (nl ?_);exact jz ((),false) h [0]
      ·replace h:=bv (lw hb) h;iterate 2 refine gn ?_
       refine pf ?_;refine mq ?_;iterate 2 refine gn ?_
       refine pf ?_;refine mq ?_;iterate 2 refine gn ?_
       refine pf ?_;refine mq ?_;iterate 2 refine gn ?_
       refine pf ?_;refine mq ?_;iterate 2 refine gn ?_
       refine pf ?_;refine mq ?_;iterate 2 refine gn ?_
       refine pf ?_;refine mq ?_;iterate 2 refine gn ?_
       refine pf ?_;refine mq ?_;iterate 2 refine gn ?_
       refine pf ?_;refine mq ?_;iterate 3 refine gn ?_
       refine pf ?_;refine mq ?_;iterate 5 refine gn ?_
       refine pf ?_;refine mq ?_;iterate 5 refine gn ?_
       refine pf ?_;refine mq ?_;iterate 3 refine gn ?_
       refine pf ?_;refine aq (nl ?_);exact jz ((),false) h [0]
     ·replace h:=bv (lw hb) h;iterate 2 refine gn ?_
      refine pf ?_;refine mq ?_;iterate 2 refine gn ?_
      refine pf ?_;refine mq ?_;iterate 2 refine gn ?_
      refine pf ?_;refine mq ?_;iterate 2 refine gn ?_
      refine pf ?_;refine mq ?_;iterate 2 refine gn ?_
      refine pf ?_;refine mq ?_;iterate 2 refine gn ?_
      refine pf ?_;refine mq ?_;iterate 2 refine gn ?_
      refine pf ?_;refine mq ?_;iterate 2 refine gn ?_
      refine pf ?_;refine mq ?_;iterate 2 refine gn ?_
      refine pf ?_;refine mq ?_;iterate 3 refine gn ?_
      refine pf ?_;refine mq ?_;iterate 5 refine gn ?_
      refine pf ?_;refine mq ?_;iterate 5 refine gn ?_
      refine pf ?_;refine mq ?_;iterate 3 refine gn ?_
      refine pf ?_;refine aq (nl ?_);exact jz ((),false) h [0]
    ·replace h:=bv (lw hb) h;iterate 2 refine gn ?_
     refine pf ?_;refine mq ?_;iterate 2 refine gn ?_
     refine pf ?_;refine mq ?_;iterate 2 refine gn ?_
     refine pf ?_;refine mq ?_;iterate 2 refine gn ?_
     refine pf ?_;refine mq ?_;iterate 2 refine gn ?_
     refine pf ?_;refine mq ?_;iterate 2 refine gn ?_
     refine pf ?_;refine mq ?_;iterate 2 refine gn ?_
     refine pf ?_;refine mq ?_;iterate 2 refine gn ?_
     refine pf ?_;refine mq ?_;iterate 2 refine gn ?_
     refine pf ?_;refine mq ?_;iterate 2 refine gn ?_
     refine pf ?_;refine mq ?_;iterate 3 refine gn ?_
     refine pf ?_;refine mq ?_;iterate 5 refine gn ?_
     refine pf ?_;refine mq ?_;iterate 5 refine gn ?_
     refine pf ?_;refine mq ?_;iterate 3 refine gn ?_
     refine pf ?_;refine aq (nl ?_);exact jz ((),false) h [0]
   ·replace h:=bv (lw hb) h;iterate 2 refine gn ?_
    refine pf ?_;refine mq ?_;iterate 2 refine gn ?_
    refine pf ?_;refine mq ?_;iterate 2 refine gn ?_
    refine pf ?_;refine mq ?_;iterate 2 refine gn ?_
    refine pf ?_;refine mq ?_;iterate 2 refine gn ?_
    refine pf ?_;refine mq ?_;iterate 2 refine gn ?_
    refine pf ?_;refine mq ?_;iterate 2 refine gn ?_
    refine pf ?_;refine mq ?_;iterate 2 refine gn ?_
    refine pf ?_;refine mq ?_;iterate 2 refine gn ?_
    refine pf ?_;refine mq ?_;iterate 2 refine gn ?_
    refine pf ?_;refine mq ?_;iterate 2 refine gn ?_
    refine pf ?_;refine mq ?_;iterate 3 refine gn ?_
    refine pf ?_;refine mq ?_;iterate 5 refine gn ?_
    refine pf ?_;refine mq ?_;iterate 5 refine gn ?_
    refine pf ?_;refine mq ?_;iterate 3 refine gn ?_
    refine pf ?_;refine aq (nl ?_);exact jz ((),false) h [0]
  ·replace h:=bv (lw hb) h;iterate 2 refine gn ?_
   refine pf ?_;refine mq ?_;iterate 2 refine gn ?_
   refine pf ?_;refine mq ?_;iterate 2 refine gn ?_
   refine pf ?_;refine mq ?_;iterate 2 refine gn ?_
   refine pf ?_;refine mq ?_;iterate 2 refine gn ?_
   refine pf ?_;refine mq ?_;iterate 2 refine gn ?_
   refine pf ?_;refine mq ?_;iterate 2 refine gn ?_
   refine pf ?_;refine mq ?_;iterate 2 refine gn ?_
   refine pf ?_;refine mq ?_;iterate 2 refine gn ?_
   refine pf ?_;refine mq ?_;iterate 2 refine gn ?_
   refine pf ?_;refine mq ?_;iterate 2 refine gn ?_
   refine pf ?_;refine mq ?_;iterate 2 refine gn ?_
   refine pf ?_;refine mq ?_;iterate 3 refine gn ?_
   refine pf ?_;refine mq ?_;iterate 5 refine gn ?_
   refine pf ?_;refine mq ?_;iterate 5 refine gn ?_
   refine pf ?_;refine mq ?_;iterate 3 refine gn ?_
   refine pf ?_;refine aq (nl ?_);exact jz ((),false) h [0]
 ·
  refine aA ?_;cases h;exact aL () [_] 1 ⟨rfl,trivial⟩ rfl
def lB(k:Nat)(a0:bB):Option (Int×Int):=
 (ic k a0).bind fun r2=>
 if¬(r2.2.2=0) then(some (0,r2.2.2)) else((cV k (jS (fun(y8:Int) (j:(List (List Int)))=>
  (a8 k a0 j).bind fun h=>
  if h=r2.2.1 then((ck (y8+1)).bind fun e=>
  some (e,true)) else(some (y8,true)))) (a0,()) (0,false)).bind fun c=>
 if c.2=true then(none) else(some (c.1,0)))
theorem rY(k:Nat)(a0:bB)(r:Int×Int)(h:lB k a0=some r):
 dc (gQ Tryz.prog) 58 [.rep aF a0] [] (fun _:Unit=>(bq [I r.1,I r.2],[])):=by
 unfold lB at h
 replace h:=be h
 refine wu 32 Tryz.func58 rfl Tryz.ntmps58 rfl fun S w0=>?_
 refine sr ?_
 refine bx fun b1=>?_
 refine cq ?_
 refine cq ?_
 refine nt ?_
 refine sr ?_
 refine lo gC ?_
 obtain⟨r2,D,h⟩:=ab h
 have O:=kG k a0 r2 D
 refine ja (c9 [.tmp 11] rfl rfl I3 rfl O) ?_
 refine mq ?_
 refine xr ?_
 refine xr ?_
 refine xr ?_
 refine aw rfl rfl rfl (aP rfl S5 Tm) trivial fun b3=>?_
 refine aq ?_
 refine aS rfl rfl (aO rfl dh rfl rfl rfl) ⟨rfl,rfl,trivial⟩ ?_
 refine aq ?_
 refine nt ?_
 refine ag ?_
 refine sr ?_
 refine mq ?_
 refine jb (jd rfl) ?_
 refine nt ?_
 refine cn h (fun h=>?_) (fun h=>?_)
 ·
  refine sr (mq ?_);refine cq ?_;refine aq (nt (rx ?_));refine Bh ?_;cases h;exact rb
 ·
  refine sk (sr (fr 1 ?_));refine lo gC ?_;refine aw rfl rfl rfl (an [.tmp 19] rfl rfl FU rfl (fk a0)) ⟨rfl,trivial⟩ fun z4=>?_;refine cD (jO (bb k a0) km) ?_;refine aw rfl rfl rfl (aP rfl Gw Jm) trivial fun b5=>?_;refine aw rfl rfl rfl (aP rfl S5 Tm) trivial fun b6=>?_;refine fr 1 ?_;refine aS rfl rfl (aO rfl k7 trivial rfl rfl) ⟨rfl,rfl,trivial⟩ ?_;refine fr 1 ?_;refine aS rfl rfl (aO rfl dh rfl rfl rfl) ⟨rfl,rfl,trivial⟩ ?_;refine nt (ag (sr (fr 1 ?_)));refine lo k7 ?_;refine aw rfl rfl rfl (cH (N:=[(.tmp 21,.at ap (a0,(.map (some z4))))]) (an [.tmp 21] rfl rfl I6 rfl (iL (a0,()))) fun _ _ _ hn=>⟨oy hn.1,trivial⟩) ⟨rfl,trivial⟩ fun b7=>?_;refine nt (aj (ct 5 rfl ?_));refine ct 5 rfl ?_;refine ct 5 rfl ?_;refine ct 5 rfl ?_;refine ct 5 rfl ?_;refine ct 5 rfl ?_;obtain⟨e,y,h⟩:=ab h;refine j0 (Δ:=[.obj b7 102 (.at bj (a0,())),.obj b5 102 (.at ap (a0,(.map (some z4)))),.obj b6 3 (I 0),.inv z4 (bb k a0),.obj b1 25 (.rep aF a0),.obj b3 3 (I r2.2.1)]) (F:=[]) (X:=Unit) (J:=fun _=>CU e.2) (E:=fun z9=>[.obj b7 102 (.at bj (a0,())),.obj b5 102 (.at ap (a0,(.map (some z4)))),.obj b6 3 (I e.1),.inv z4 (bb k a0),.obj b1 25 (.rep aF a0),.obj b3 3 (I r2.2.1)]) (r0:=fun _=>.tup .any) rfl rfl I5 (fun rec hp ha hb hs hpe hN hv l=>?_) (fun dl z9=>lP (fun hj=>?_) (fun hj=>?_))
  ·rcases rec with⟨st0,pe0,fn0,tm0,ps0,as0,bd0,df0⟩;dsimp only at hp ha hb hs hpe hN hv;subst hp hs hpe;have vN:t5 tm0 [(5,Pt b3),(7,Pt b5),(8,Pt b6)]:=⟨congrArg A.eq (hv 5 _ rfl).symm,congrArg A.eq (hv 7 _ rfl).symm,congrArg A.eq (hv 8 _ rfl).symm,trivial⟩;refine dc.pick (M:=(gQ Tryz.prog)) [1,0,2,3,4,5,6] [1,0,2,3,4,5,6] (gU (fun(z9:Unit) (q:Int×Bool)=>[.raw l (.loop (iq ⟨.ready,none,fn0,tm0, #[23],as0,bd0,df0⟩ (CU q.2))),.obj b5 102 (.at ap (a0,(.map (some z4)))),.obj b6 3 (I q.1),.inv z4 (bb k a0),.obj b1 25 (.rep aF a0),.obj b3 3 (I r2.2.1)]) l (jS (fun(y8:Int) (j:(List (List Int)))=>
   (a8 k a0 j).bind fun c=>
   if c=r2.2.1 then((ck (y8+1)).bind fun n=>
   some (n,true)) else(some (y8,true)))) k (a0,()) b7 (fun z9 q p r' h=>?_) () (0,false) e y) rfl (fun _=>rfl) (fun _=>rfl)
   obtain⟨rq,hq,h2,rfl⟩:=lQ h;obtain⟨y8,b5⟩:=q;obtain rfl:b5=false:=hq;replace h:=be h2;obtain⟨j,hpv⟩:∃x,x=p:=⟨_,rfl⟩;subst hpv;refine YT.pick (R':=(fun z9:Unit=>(.eq (.bool rq.2),[.raw l (.loop (iq ⟨.ready,none,fn0,tm0, #[23],as0,bd0,df0⟩ (CU (!rq.2)))),.obj b5 102 (.at ap (a0,(.map (some z4)))),.obj b6 3 (I rq.1),.inv z4 (bb k a0),.obj b1 25 (.rep aF a0),.obj b3 3 (I r2.2.1)]))) [0,1,2,3,4,5] [0,1,2,3,4,5] (zb ha hb (N:=32) (Γ:=[(5,Pt b3),(7,Pt b5),(8,Pt b6)]) rfl hN (by decide) vN (fun S w=>?_)) rfl (fun _=>rfl) (fun _=>rfl);refine aa (aw rfl rfl rfl (aP rfl kZ lg) trivial fun Q=>?_);refine aS rfl rfl (aO rfl cF rfl rfl rfl) ⟨rfl,rfl,trivial⟩ ?_;refine nl (aH 1 rfl ?_);refine pW rfl rfl ?_;refine aj (ag (bW ?_));refine ea 2 (ak rfl k7 kV rfl) ?_;refine ea 1 (ak rfl cF (xj) rfl) ?_;obtain⟨c,u,h⟩:=ab h;refine eb 4 (c9 [.tmp 24,.tmp 25] rfl rfl Ek rfl (fH k a0 z4 j c u)) ?_;refine ea 6 (ak rfl dh kV rfl) ?_;refine df eA ?_;refine jb (dw rfl) ?_;refine nt (ci h (fun h=>?_) (fun h=>?_))
   ·refine aa (fr 3 ?_);refine lo dh ?_;obtain⟨n,s,h⟩:=ab h;refine jb (bg rfl s) ?_;refine aS rfl rfl (aO rfl dh rfl rfl rfl) ⟨rfl,rfl,trivial⟩ ?_;refine ao (aG (aH 6 rfl ?_));refine aH 6 rfl ?_;refine aH 6 rfl ?_;refine aH 3 rfl ?_;refine aH 6 rfl ?_;refine aH 5 rfl ?_;cases h;exact jP () 5 rfl
   ·refine aV (aG (aH 6 rfl ?_));refine aH 6 rfl ?_;refine aH 6 rfl ?_;refine aH 6 rfl ?_;refine aH 6 rfl ?_;refine aH 5 rfl ?_;cases h;exact jP () 5 rfl
  ·replace h:=bv (Bw hj) h;refine aG (tn (sr (fr 3 ?_)));refine lo dh ?_;refine aq ?_;refine cq (nt (aA ?_));refine aH 1 rfl ?_;refine qy ?_;cases h;exact rb
  ·replace h:=cr (Bv hj) h;cases h
def cQ(k:Nat)(r3:bB×bZ)(r5:(List Int)×bZ):Nat→((List iE)×Int)→Option (List iE)
 |0,_=>none
 |n+1,c=>
  if c.2 < (r5.1.length:Int) then((bf r5.1 c.2).bind fun e=>
  (bf r3.1.2.1 c.2).bind fun l=>
  (bf r3.1.2.1 c.2).bind fun j=>
  (eR k j.2).bind fun r=>
  (bf c.1 e).bind fun s=>
  (ck (c.2+1)).bind fun h=>
  cQ k r3 r5 n (List.set c.1 (Int.toNat e) (l.1,r),h)) else(some c.1)
def cP(k:Nat)(r3:bB×bZ)(r6:(List Int)×bZ):Nat→((List Int)×Int)→Option (List Int)
 |0,_=>none
 |n+1,c=>
  if c.2 < (r6.1.length:Int) then((bf r6.1 c.2).bind fun e=>
  (bf r3.1.2.2 c.2).bind fun j=>
  (bf c.1 e).bind fun l=>
  (ck (c.2+1)).bind fun h=>
  cP k r3 r6 n (List.set c.1 (Int.toNat e) j,h)) else(some c.1)
def iC(k:Nat)(a0:(List Int)):Option Bool:=
 (jI k a0).bind fun r1=>
 (iY k (r1.1,r1.2.1,r1.2.2) 4 2).bind fun r3=>
 (dZ k (r3.2.1,r3.2.2.1,r3.2.2.2) (r3.1.2.1.length:Int)).bind fun r5=>
 (dZ k (r5.2.1,r5.2.2.1,r5.2.2.2) (r3.1.2.2.length:Int)).bind fun r6=>
 (fM k r3.1).bind fun r7=>
 ((cQ k r3 r5 k (r7.2.1,0)):Option ((List iE))).bind fun h=>
 ((cP k r3 r6 k (r7.2.2,0)):Option ((List Int))).bind fun e=>
 (ic k r3.1).bind fun c=>
 (ic k (r7.1,h,e)).bind fun n=>
 (lB k r3.1).bind fun l=>
 (lB k (r7.1,h,e)).bind fun j=>
 ((if c.2.1=n.2.1 then(if c.2.2=n.2.2 then(if l.1=j.1 then(if l.2=j.2 then(if c.2.2=0 then((fp k).bind fun u=>
 some u) else(if c.2.2=11 then((fp k).bind fun s=>
 some s) else(some false))) else(some false)) else(some false)) else(some false)) else(some false)):Option (Bool)).bind fun r=>
 some r
theorem pB(k:Nat)(a0:(List Int))(r:Bool)(h:iC k a0=some r):
 dc (gQ Tryz.prog) 14 [Ri a0] [.inv 0 (gG)] (fun _:Unit=>(bq [.eq (.bool r)],[.inv 0 (gG)])):=by
 unfold iC at h
 replace h:=be h
 refine dc.of 132 Tryz.func14 rfl Tryz.ntmps14 rfl fun S w0=>?_
 refine sr ?_
 refine cq ?_
 refine nt ?_
 refine sr ?_
 refine mq ?_
 obtain⟨r1,Uk,h⟩:=ab h
 have Up:=pC k a0 r1 Uk
 refine aw rfl rfl rfl (an [.tmp 20] rfl rfl Qy rfl Up) ⟨rfl,trivial⟩ fun b2=>?_
 refine aq ?_
 refine nt ?_
 refine sr ?_
 refine mq ?_
 obtain⟨r3,Uj,h⟩:=ab h
 have Uo:=qM k (r1.1,r1.2.1,r1.2.2) b2 4 2 r3 Uj
 refine kc (an [.tmp 22,.const (.int .i64 (4)),.const (.int .i64 (2))] rfl rfl Qw rfl Uo) ?_
 refine aw rfl rfl rfl (aP rfl kW m7) trivial fun b4=>?_
 refine aS rfl rfl (aO rfl gC rfl rfl rfl) ⟨rfl,rfl,trivial⟩ ?_
 refine nt ?_
 refine ag ?_
 refine bW ?_
 refine dm ?_
 refine da (av rfl fX) ?_
 refine ea 0 (ak rfl mZ kV rfl) ?_
 refine da (jF rfl rfl wP) ?_
 obtain⟨r5,Ui,h⟩:=ab h
 have Un:=mL k (r3.2.1,r3.2.2.1,r3.2.2.2) b2 (r3.1.2.1.length:Int) r5 Ui
 refine EO 1 rfl rfl rfl rfl (an [.tmp 24,.tmp 27] rfl rfl Qu rfl Un) ⟨rfl,rfl,trivial⟩ ?_
 refine dm ?_
 refine da (av rfl d4) ?_
 refine ea 0 (ak rfl co kV rfl) ?_
 refine da (jF rfl rfl fg) ?_
 refine EP (Δ':=[.obj b4 25 (.rep aF r3.1),.inv 0 (gG),.obj b2 98 (.agg (.pair (Ri r5.2.1) (.pair (I r5.2.2.1) (.eq (.int .u64 r5.2.2.2)))))]) (by kernel_rfl) eA (by kernel_rfl) ?_
 obtain⟨r6,Uh,h⟩:=ab h
 have Um:=mL k (r5.2.1,r5.2.2.1,r5.2.2.2) b2 (r3.1.2.2.length:Int) r6 Uh
 refine fr 2 ?_
 refine kb (an [.tmp 29,.tmp 32] rfl rfl Qu rfl Um) ?_
 refine aq ?_
 refine aq ?_
 refine nt ?_
 refine sr ?_
 refine fr 1 ?_
 refine lo gC ?_
 obtain⟨r7,Ug,h⟩:=ab h
 have Ul:=oP k r3.1 r7 Ug
 refine bC (Δ:=[]) (F:=_) (fun _ _ _=>au rfl _) rfl rfl (an [.tmp 34] rfl rfl Qx rfl Ul) ⟨rfl,trivial⟩ fun z8=>?_
 refine aw rfl rfl rfl (aP rfl kW m7) trivial fun b9=>?_
 refine aS rfl rfl (aO rfl gC trivial rfl rfl) ⟨rfl,rfl,trivial⟩ ?_
 refine nt ?_
 refine aN (Z:=Unit) (α:=(List iE)) (fun Q c=>[(4,Pt b4),(6,Ri r6.1),(7,Pt b9)]) (fun Q c=>[.obj b4 25 (.rep aF r3.1),.obj b9 25 (.agg (.pair (I r7.1) (.pair (.eq z8.1) (.eq z8.2)))),.sl z8.1 27 bS c,.sl z8.2 3 (.int .i64) r7.2.2,.inv 0 (gG)]) h (fun K h=>?_) (fun Q c h=>?_)
 ·
  refine sr (cq (nt (aj ?_)));refine aI (fun O l=>[(4,Pt b4),(5,Ri r5.1),(6,Ri r6.1),(7,Pt b9),(8,I l.2)]) (fun O l=>[.obj b4 25 (.rep aF r3.1),.obj b9 25 (.agg (.pair (I r7.1) (.pair (.eq z8.1) (.eq z8.2)))),.sl z8.1 27 bS l.1,.sl z8.2 3 (.int .i64) r7.2.2,.inv 0 (gG)]) (cQ k r3 r5) k () (r7.2.1,0) (fun _=>rfl) h (SE.fin [3,0,1,2,5] ⟨rfl,rfl,rfl,rfl,rfl,trivial⟩ rfl) (fun n O l h=>?_);unfold cQ at h;refine ag (sr ?_);iterate 2 refine mq ?_
  refine ol fg ?_;refine jb (bm rfl) ?_;refine nt (ci h (fun h=>?_) (fun h=>?_))
  ·refine sk (ag (aj (bW ?_)));refine da (av rfl fX) ?_;refine ea 1 (ak rfl mZ kV rfl) ?_;refine dm ?_;refine dm ?_;obtain⟨X,TN,h⟩:=ab h;refine db (ba (t:=(.int .i64)) rfl fg dh TN) ?_;refine da (ar (t:=(.int .i64)) rfl dh rfl) ?_;refine da (av rfl fX) ?_;refine ea 0 (ak rfl mZ kV rfl) ?_;refine dm ?_;obtain⟨Ub,TM,h⟩:=ab h;refine db (ba (t:=bS) rfl wP nW TM) ?_;refine da (aM 1 false rfl tU rfl) ?_;refine da (ar (t:=(.int .i64)) rfl dh rfl) ?_;refine da (av rfl fX) ?_;refine ea 0 (ak rfl mZ kV rfl) ?_;refine dm ?_;obtain⟨Ua,TL,h⟩:=ab h;refine db (ba (t:=bS) rfl wP nW TL) ?_;refine da (aM 1 false rfl rC rfl) ?_;refine da (ar (t:=(.slice (.int .i64))) rfl co rfl) ?_;obtain⟨mc,TY,h⟩:=ab h;refine da (zd (an [.tmp 59] rfl rfl AU rfl (dG k Ua.2 mc TY))) ?_;refine db (cU [(0,.tmp 53,_),(1,.tmp 60,_)] rfl B0 uR wj (iQ ⟨rfl,rfl,trivial⟩) rfl) ?_;refine df eA ?_;obtain⟨Us,y,h⟩:=ab h;refine fr 2 ?_;refine kb (a9 (t:=bS) rfl wP nW y) ?_;refine aS rfl rfl (c6 (i:=Int.toNat X) rfl nW rfl (jw y) rfl (.agg (.pair .int .rep)) trivial) ⟨rfl,rfl,trivial⟩ ?_;refine ao (aG (tn (aa (mq ?_))));obtain⟨T9,TK,h⟩:=ab h;refine jb (bg rfl TK) ?_;refine aq (nl ?_);exact jz ((),(List.set l.1 (Int.toNat X) (Ub.1,mc),T9)) h [1,2,0,3,4]
  ·refine xa ?_;exact jz ((),l.1) h [0,1,2,3,4]
 ·
  refine aN (Z:=Unit) (α:=(List Int)) (fun M e=>[(4,Pt b4),(7,Pt b9)]) (fun M e=>[.obj b4 25 (.rep aF r3.1),.obj b9 25 (.agg (.pair (I r7.1) (.pair (.eq z8.1) (.eq z8.2)))),.sl z8.1 27 bS c,.sl z8.2 3 (.int .i64) e,.inv 0 (gG)]) h (fun K h=>?_) (fun M e h=>?_)
  ·refine sr (cq (nt (aj ?_)));refine aI (fun J j=>[(4,Pt b4),(6,Ri r6.1),(7,Pt b9),(9,I j.2)]) (fun J j=>[.obj b4 25 (.rep aF r3.1),.obj b9 25 (.agg (.pair (I r7.1) (.pair (.eq z8.1) (.eq z8.2)))),.sl z8.1 27 bS c,.sl z8.2 3 (.int .i64) j.1,.inv 0 (gG)]) (cP k r3 r6) k () (r7.2.2,0) (fun _=>rfl) h (SE.fin [0,1,2,3,4] ⟨rfl,rfl,rfl,rfl,trivial⟩ rfl) (fun n J j h=>?_);unfold cP at h;refine ag (sr ?_);iterate 2 refine mq ?_
   refine ol fg ?_;refine jb (bm rfl) ?_;refine nt (ci h (fun h=>?_) (fun h=>?_))
   ·refine sk (ag (aj (bW ?_)));refine da (av rfl d4) ?_;refine ea 1 (ak rfl co kV rfl) ?_;refine dm ?_;refine dm ?_;obtain⟨U,se,h⟩:=ab h;refine db (ba (t:=(.int .i64)) rfl fg dh se) ?_;refine da (ar (t:=(.int .i64)) rfl dh rfl) ?_;refine da (av rfl d4) ?_;refine ea 0 (ak rfl co kV rfl) ?_;refine dm ?_;obtain⟨T8,qt,h⟩:=ab h;refine db (ba (t:=(.int .i64)) rfl fg dh qt) ?_;refine da (ar (t:=(.int .i64)) rfl dh rfl) ?_;refine df eA ?_;obtain⟨Ur,u,h⟩:=ab h;refine fr 3 ?_;refine kb (a9 (t:=(.int .i64)) rfl fg dh u) ?_;refine aS rfl rfl (c6 (i:=Int.toNat U) rfl dh rfl (jw u) rfl .int rfl) ⟨rfl,rfl,trivial⟩ ?_;refine ao (aG (tn (aa (mq ?_))));obtain⟨TZ,pp,h⟩:=ab h;refine jb (bg rfl pp) ?_;refine aq (nl ?_);exact jz ((),(List.set j.1 (Int.toNat U) T8,TZ)) h [1,2,3,0,4]
   ·refine xa ?_;exact jz ((),j.1) h [0,1,2,3,4]
  ·refine sr (lo gC ?_);obtain⟨Uf,TX,h⟩:=ab h;refine ja (c9 [.tmp 82] rfl rfl I3 rfl (kG k r3.1 Uf TX)) ?_;refine mq ?_;refine xr ?_;refine xr ?_;refine xr ?_;refine aq ?_;refine aq ?_;refine aq (nt (sr ?_));refine fr 1 ?_;refine fr 2 ?_;refine cD (jB (off:=1) [] trivial rfl rfl) ?_;refine fr 2 ?_;refine cD (jB (off:=2) [] trivial rfl rfl) ?_;refine lo gC ?_;obtain⟨Ue,TU,h⟩:=ab h;refine ja (cH (N:=[(.tmp 88,.agg (.pair (I r7.1) (.pair (Rs bS c) (Ri e))))]) (c9 [.tmp 88] rfl rfl I3 rfl (kG k (r7.1,c,e) Ue TU)) fun _ _ _ hn=>⟨(gl (t:=aF) (x:=(r7.1,c,e)) (.agg (.pair .int (.pair .rep .rep))) trivial rfl hn.1),trivial⟩) ?_;refine mq ?_;refine xr ?_;refine xr ?_;refine xr ?_;refine aq ?_;refine aq ?_;refine aq (nt (sr ?_));refine fr 1 ?_;refine lo gC ?_;obtain⟨Ud,TS,h⟩:=ab h;refine ja (c9 [.tmp 94] rfl rfl Qv rfl (rY k r3.1 Ud TS)) ?_;refine mq ?_;refine xr ?_;refine xr ?_;refine aq ?_;refine aq (nt (sr ?_));refine fr 1 ?_;refine lo gC ?_;obtain⟨Uc,TR,h⟩:=ab h;refine ja (cH (N:=[(.tmp 99,.agg (.pair (I r7.1) (.pair (Rs bS c) (Ri e))))]) (c9 [.tmp 99] rfl rfl Qv rfl (rY k (r7.1,c,e) Uc TR)) fun _ _ _ hn=>⟨(gl (t:=aF) (x:=(r7.1,c,e)) (.agg (.pair .int (.pair .rep .rep))) trivial rfl hn.1),trivial⟩) ?_;refine mq ?_;refine xr ?_;refine xr ?_;refine aq ?_;refine aq (nt ?_);refine aN (Z:=Unit) (α:=Bool) (fun E D=>[(2,.eq (.bool D))]) (fun E D=>[.inv 0 (gG)]) h (fun K h=>?_) (fun E D h=>?_)
   ·refine aa ?_;iterate 2 refine mq ?_
    refine jb (dw rfl) ?_;refine mq ?_;refine bF (s:=106) rfl (fun hb=>?_) (fun hb=>?_)
    ·replace h:=cr (mh hb) h;refine gm ?_;refine gm ?_;refine gb (dw rfl) ?_;refine pt ?_;refine mq ?_;refine bF (s:=111) rfl (fun hb=>?_) (fun hb=>?_)
     ·replace h:=cr (mh hb) h;refine gm ?_;refine gm ?_;refine gb (dw rfl) ?_;refine pt ?_;refine mq ?_;refine bF (s:=116) rfl (fun hb=>?_) (fun hb=>?_)
      ·replace h:=cr (mh hb) h;refine gm ?_;refine gm ?_;refine gb (dw rfl) ?_;refine pt ?_;refine mq ?_;refine bF (s:=121) rfl (fun hb=>?_) (fun hb=>?_)
       ·replace h:=cr (mh hb) h;refine gm ?_;refine gb (dw rfl) ?_;refine gm ?_;refine bF (s:=124) rfl (fun hb=>?_) (fun hb=>?_)
        ·replace h:=cr (mh hb) h;iterate 2 refine gn ?_
         refine gb (nC rfl) ?_;refine pt ?_;refine mq ?_;obtain⟨ac,TP,h⟩:=ab h;refine fr 2 ?_;refine hQ rfl rfl rfl rfl rfl rfl (c9 [] rfl rfl LC rfl (kD k ac TP)) trivial ?_;refine pt ?_;refine aq (nl ?_);exact jz ((),ac) h [0]
        ·replace h:=bv (lw hb) h;refine gm ?_;refine gb (dw rfl) ?_;refine gb (l5 rfl) ?_;refine pt ?_;refine mq ?_;refine bF (s:=129) rfl (fun hb=>?_) (fun hb=>?_)
         ·replace h:=cr (mh hb) h;obtain⟨Y,TO,h⟩:=ab h;refine fr 2 ?_;refine hQ rfl rfl rfl rfl rfl rfl (c9 [] rfl rfl LC rfl (kD k Y TO)) trivial ?_;refine pt ?_;refine aq (nl ?_);exact jz ((),Y) h [0]
         ·replace h:=bv (lw hb) h;refine gn ?_;refine pf ?_;refine aq (nl ?_);exact jz ((),false) h [2]
       ·replace h:=bv (lw hb) h;iterate 3 refine gn ?_
        refine gu ?_;refine gu ?_;refine gn ?_;refine pf ?_;refine mq ?_;refine gn ?_;refine pf ?_;refine aq (nl ?_);exact jz ((),false) h [2]
      ·replace h:=bv (lw hb) h;iterate 3 refine gn ?_
       refine pf ?_;refine mq ?_;iterate 3 refine gn ?_
       refine gu ?_;refine gu ?_;refine gn ?_;refine pf ?_;refine mq ?_;refine gn ?_;refine pf ?_;refine aq (nl ?_);exact jz ((),false) h [2]
     ·replace h:=bv (lw hb) h;iterate 3 refine gn ?_
      refine pf ?_;refine mq ?_;iterate 3 refine gn ?_
      refine pf ?_;refine mq ?_;iterate 3 refine gn ?_
      refine gu ?_;refine gu ?_;refine gn ?_;refine pf ?_;refine mq ?_;refine gn ?_;refine pf ?_;refine aq (nl ?_);exact jz ((),false) h [2]
    ·replace h:=bv (lw hb) h;iterate 3 refine gn ?_
     refine pf ?_;refine mq ?_;iterate 3 refine gn ?_
     refine pf ?_;refine mq ?_;iterate 3 refine gn ?_
     refine pf ?_;refine mq ?_;iterate 3 refine gn ?_
     refine gu ?_;refine gu ?_;refine gn ?_;refine pf ?_;refine mq ?_;refine gn ?_;refine pf ?_;refine aq (nl ?_);exact jz ((),false) h [2]
   ·refine aA ?_;cases h;exact aL () [_] 1 ⟨rfl,trivial⟩ rfl
def eF(k:Nat)(a0:bB)(j:(List (List Int))):Nat→((List Int)×Int)→Option (List Int)
 |0,_=>none
 |n+1,c=>
  if c.2 < (a0.2.2.length:Int) then((((eM (0≤c.2∧c.2 < 3)).bind fun _=>
  (bf j c.2).bind fun h=>
  (dB k ([]:(List (List Int)))).bind fun s=>
  (bf s c.2).bind fun e=>
  (eM (vj h∧vj e)).bind fun _=>
  if¬(h=e) then((eM (bY (List.length c.1+List.length [c.2]))).bind fun _=>
  some (c.1++[c.2])) else(some c.1)):Option ((List Int))).bind fun r=>
  (ck (c.2+1)).bind fun l=>
  eF k a0 j n (r,l)) else(some c.1)
def rX(k:Nat)(a0:bB):Option ((List Int)×(List (List Int))×Int):=
 (kf k a0).bind fun r2=>
 if¬(r2=0) then(some ([],[],r2)) else((cV k (jS (fun(y9:Bool×(List (List Int))×(List Int)) (h:(List (List Int)))=>
  ((eF k a0 h k (([]:(List Int)),0)):Option ((List Int))).bind fun c=>
  ((if y9.1=true then(if(y9.2.2.length:Int) < (c.length:Int) then(some (c,true)) else(if(c.length:Int)=(y9.2.2.length:Int) then((dC k c y9.2.2).bind fun r=>
  some (c,decide (0≤r))) else(some (c,false)))) else(some (c,false))):Option ((List Int)×Bool)).bind fun j=>
  if j.2=true then(some ((y9.1,y9.2.1,y9.2.2),true)) else((a8 k a0 h).bind fun n=>
  if n=0 then(some ((true,h,j.1),true)) else(some ((y9.1,y9.2.1,y9.2.2),true))))) (a0,()) ((false,[[0,0,0,0,0],[0,0,0,0,0],[0,0,0,0,0]],[]),false)).bind fun e=>
 if e.2=true then(none) else(if¬(e.1.1=true) then(some ([],[],11)) else((dy k (a0,()) e.1.2.1).bind fun l=>
 some (e.1.2.2,l,0))))
theorem BJ(k:Nat)(a0:bB)(r:(List Int)×(List (List Int))×Int)(h:rX k a0=some r):
 dc (gQ Tryz.prog) 75 [.rep aF a0] [] (fun _:Unit=>(bq [Ri r.1,.rep (.slice (.slice (.int .i64))) r.2.1,I r.2.2],[])):=by
 unfold rX at h
 replace h:=be h
 refine wu 74 Tryz.func75 rfl Tryz.ntmps75 rfl fun S w0=>?_
 refine sr ?_
 refine bx fun b1=>?_
 refine cq ?_
 refine cq ?_
 refine cq ?_
 refine nt ?_
 refine xY rfl (ow (by kernel_rfl) (ow (by kernel_rfl) (ow (by kernel_rfl) (ow (by kernel_rfl) (ow (by kernel_rfl) (IX IW)))))) ?_
 refine ag ?_
 refine sr ?_
 refine lo gC ?_
 obtain⟨r2,Uc,h⟩:=ab h
 have Ud:=nV k a0 r2 Uc
 refine ja (an [.tmp 13] rfl rfl OD rfl Ud) ?_
 refine aq ?_
 refine nt ?_
 refine sr ?_
 refine mq ?_
 refine jb (jd rfl) ?_
 refine nt ?_
 refine cn h (fun h=>?_) (fun h=>?_)
 ·
  refine sr (mq ?_);refine cq ?_;refine cq ?_;refine aq (nt (rx ?_));refine sV ?_;refine bL (ky (t:=(.slice (.int .i64))) (x:=[]) 2 rfl .nil rfl rfl) ?_;refine bL (ky (t:=(.slice (.slice (.int .i64)))) (x:=[]) 3 rfl .nil rfl rfl) ?_;refine Bh ?_;cases h;exact aL () [_,_,_] 0 ⟨rfl,rfl,rfl,trivial⟩ rfl
 ·
  refine sk (sr (lo gC ?_));refine aw rfl rfl rfl (an [.tmp 18] rfl rfl FU rfl (fk a0)) ⟨rfl,trivial⟩ fun z3=>?_;refine cD (jO (bb k a0) km) ?_;refine aw rfl rfl rfl (aP rfl Gw Jm) trivial fun b4=>?_;refine aS rfl rfl (aO rfl k7 trivial rfl rfl) ⟨rfl,rfl,trivial⟩ ?_;refine nt (sr (aw rfl rfl rfl (aP rfl RQ SO) trivial fun b5=>?_));refine nt (sr (aw rfl rfl rfl (aP rfl kZ lg) trivial fun b6=>?_));refine nt (sr (aw rfl rfl rfl (aP rfl Tt TD) trivial fun b7=>?_));refine aS rfl rfl (aO rfl RA rfl rfl rfl) ⟨rfl,rfl,trivial⟩ ?_;refine nt (ag (Bi ?_));refine tn (ag (sr (fr 3 ?_)));refine lo k7 ?_;refine aw rfl rfl rfl (cH (N:=[(.tmp 20,.at ap (a0,(.map (some z3))))]) (an [.tmp 20] rfl rfl I6 rfl (iL (a0,()))) fun _ _ _ hn=>⟨oy hn.1,trivial⟩) ⟨rfl,trivial⟩ fun b8=>?_;refine nt (aj (ct 4 rfl ?_));refine fw (oC (a:=.eq (.slice none 0 0)) (a':=Ri []) (wv .nil)) ?_;refine ct 6 rfl ?_;refine ct 6 rfl ?_;refine ct 2 rfl ?_;refine ct 6 rfl ?_;refine ct 6 rfl ?_;refine ct 6 rfl ?_;refine ct 6 rfl ?_;obtain⟨D,TX,h⟩:=ab h;refine j0 (Δ:=[.obj b8 102 (.at bj (a0,())),.obj b4 102 (.at ap (a0,(.map (some z3)))),.obj b7 4 (.eq (.bool false)),.obj b6 107 (.rep (.arr 3 (.arr 5 (.int .i64))) [[0,0,0,0,0],[0,0,0,0,0],[0,0,0,0,0]]),.obj b5 23 (Ri []),.inv z3 (bb k a0),.obj b1 25 (.rep aF a0)]) (F:=[]) (X:=Unit) (J:=fun _=>CU D.2) (E:=fun Y=>[.obj b8 102 (.at bj (a0,())),.obj b4 102 (.at ap (a0,(.map (some z3)))),.obj b7 4 (.eq (.bool D.1.1)),.obj b6 107 (.rep (.arr 3 (.arr 5 (.int .i64))) D.1.2.1),.obj b5 23 (Ri D.1.2.2),.inv z3 (bb k a0),.obj b1 25 (.rep aF a0)]) (r0:=fun _=>.tup .any) rfl rfl I5 (fun rec hp ha hb hs hpe hN hv l=>?_) (fun dl Y=>lP (fun hj=>?_) (fun hj=>?_))
  ·rcases rec with⟨st0,pe0,fn0,tm0,ps0,as0,bd0,df0⟩;dsimp only at hp ha hb hs hpe hN hv;subst hp hs hpe;have vN:t5 tm0 [(1,Pt b1),(6,Pt b4),(7,Pt b5),(8,Pt b6),(9,Pt b7)]:=⟨congrArg A.eq (hv 1 _ rfl).symm,congrArg A.eq (hv 6 _ rfl).symm,congrArg A.eq (hv 7 _ rfl).symm,congrArg A.eq (hv 8 _ rfl).symm,congrArg A.eq (hv 9 _ rfl).symm,trivial⟩;refine dc.pick (M:=(gQ Tryz.prog)) [1,0,2,3,4,5,6,7] [1,0,2,3,4,5,6,7] (gU (fun(Y:Unit) (q:(Bool×(List (List Int))×(List Int))×Bool)=>[.raw l (.loop (iq ⟨.ready,none,fn0,tm0, #[22],as0,bd0,df0⟩ (CU q.2))),.obj b4 102 (.at ap (a0,(.map (some z3)))),.obj b7 4 (.eq (.bool q.1.1)),.obj b6 107 (.rep (.arr 3 (.arr 5 (.int .i64))) q.1.2.1),.obj b5 23 (Ri q.1.2.2),.inv z3 (bb k a0),.obj b1 25 (.rep aF a0)]) l (jS (fun(y9:Bool×(List (List Int))×(List Int)) (j:(List (List Int)))=>
   ((eF k a0 j k (([]:(List Int)),0)):Option ((List Int))).bind fun c=>
   ((if y9.1=true then(if(y9.2.2.length:Int) < (c.length:Int) then(some (c,true)) else(if(c.length:Int)=(y9.2.2.length:Int) then((dC k c y9.2.2).bind fun mc=>
   some (c,decide (0≤mc))) else(some (c,false)))) else(some (c,false))):Option ((List Int)×Bool)).bind fun y=>
   if y.2=true then(some ((y9.1,y9.2.1,y9.2.2),true)) else((a8 k a0 j).bind fun se=>
   if se=0 then(some ((true,j,y.1),true)) else(some ((y9.1,y9.2.1,y9.2.2),true))))) k (a0,()) b8 (fun Y q p r' h=>?_) () ((false,[[0,0,0,0,0],[0,0,0,0,0],[0,0,0,0,0]],[]),false) D TX) rfl (fun _=>rfl) (fun _=>rfl)
   obtain⟨rq,hq,h2,rfl⟩:=lQ h;obtain⟨y9,b5⟩:=q;obtain rfl:b5=false:=hq;replace h:=be h2;obtain⟨j,hpv⟩:∃x,x=p:=⟨_,rfl⟩;subst hpv;refine YT.pick (R':=(fun Y:Unit=>(.eq (.bool rq.2),[.raw l (.loop (iq ⟨.ready,none,fn0,tm0, #[22],as0,bd0,df0⟩ (CU (!rq.2)))),.obj b4 102 (.at ap (a0,(.map (some z3)))),.obj b7 4 (.eq (.bool rq.1.1)),.obj b6 107 (.rep (.arr 3 (.arr 5 (.int .i64))) rq.1.2.1),.obj b5 23 (Ri rq.1.2.2),.inv z3 (bb k a0),.obj b1 25 (.rep aF a0)]))) [0,1,2,3,4,5,6] [0,1,2,3,4,5,6] (zb ha hb (N:=74) (Γ:=[(1,Pt b1),(6,Pt b4),(7,Pt b5),(8,Pt b6),(9,Pt b7)]) rfl hN (by decide) vN (fun S w=>?_)) rfl (fun _=>rfl) (fun _=>rfl);refine aa (aw rfl rfl rfl (aP rfl kZ lg) trivial fun u=>?_);refine aS rfl rfl (aO rfl cF rfl rfl rfl) ⟨rfl,rfl,trivial⟩ ?_;refine nl (aH 1 rfl ?_);refine pW rfl rfl ?_;refine aj (sr (cq (nt ?_)));refine aN (Z:=Value) (α:=(List Int)) (fun U c=>[(6,Pt b4),(7,Pt b5),(8,Pt b6),(9,Pt b7),(10,Pt u),(11,.eq U)]) (fun U c=>[.obj b4 102 (.at ap (a0,(.map (some z3)))),.obj b5 23 (Ri y9.2.2),.obj b6 107 (.rep (.arr 3 (.arr 5 (.int .i64))) y9.2.1),.obj b7 4 (.eq (.bool y9.1)),.obj u 107 (.rep (.arr 3 (.arr 5 (.int .i64))) j),.sl U 3 (.int .i64) c,.inv z3 (bb k a0),.obj b1 25 (.rep aF a0),.raw l (.loop (⟨.busy,none,fn0,tm0, #[22],as0,bd0,df0⟩:Loop))]) h (fun K h=>?_) (fun U c h=>?_)
   ·refine sr (fl d4 ?_);refine fr 7 ?_;refine lo co ?_;refine ol fg ?_;refine eD rfl ?_;refine nt (aj (fw (SE.nil 3 (.int .i64)) ?_));refine aI (fun O e=>[(6,Pt b4),(7,Pt b5),(8,Pt b6),(9,Pt b7),(10,Pt u),(11,.eq O),(25,I (a0.2.2.length:Int)),(26,I e.2)]) (fun O e=>[.obj b4 102 (.at ap (a0,(.map (some z3)))),.obj b5 23 (Ri y9.2.2),.obj b6 107 (.rep (.arr 3 (.arr 5 (.int .i64))) y9.2.1),.obj b7 4 (.eq (.bool y9.1)),.obj u 107 (.rep (.arr 3 (.arr 5 (.int .i64))) j),.sl O 3 (.int .i64) e.1,.inv z3 (bb k a0),.obj b1 25 (.rep aF a0),.raw l (.loop (⟨.busy,none,fn0,tm0, #[22],as0,bd0,df0⟩:Loop))]) (eF k a0 j) k (.slice none 0 0) (([]:(List Int)),0) (fun _=>rfl) h (SE.fin [4,7,6,5,3,0,8,1,2] ⟨rfl,rfl,rfl,rfl,rfl,rfl,rfl,rfl,trivial⟩ rfl) (fun n O e h=>?_);unfold eF at h;refine sr (jb (bm rfl) ?_);refine nt (ag (ci h (fun h=>?_) (fun h=>?_)))
    ·refine sk (aN (Z:=Value) (α:=(List Int)) (fun Q ac=>[(6,Pt b4),(7,Pt b5),(8,Pt b6),(9,Pt b7),(10,Pt u),(11,.eq Q),(25,I (a0.2.2.length:Int)),(26,I e.2)]) (fun Q ac=>[.obj b4 102 (.at ap (a0,(.map (some z3)))),.obj b5 23 (Ri y9.2.2),.obj b6 107 (.rep (.arr 3 (.arr 5 (.int .i64))) y9.2.1),.obj b7 4 (.eq (.bool y9.1)),.obj u 107 (.rep (.arr 3 (.arr 5 (.int .i64))) j),.sl Q 3 (.int .i64) ac,.inv z3 (bb k a0),.obj b1 25 (.rep aF a0),.raw l (.loop (⟨.busy,none,fn0,tm0, #[22],as0,bd0,df0⟩:Loop))]) h (fun K h=>?_) (fun Q ac h=>?_))
     ·refine aj (sr (mq ?_));refine aq (nt (ag ?_));refine bW ?_;refine dm ?_;obtain⟨Uk,qt,h⟩:=ab h;refine db (gP rfl F5 ub (aE qt).1 (aE qt).2) ?_;obtain⟨Uf,TN,h⟩:=ab h;refine ea 4 (vD (t:=(.arr 5 (.int .i64))) (off:=0) (i:=e.2) (N:=3) rfl ub (xj) rfl rfl rfl rfl TN) ?_;obtain⟨T9,TU,h⟩:=ab h;refine da (cH (N:=[(.const (.slice none 0 0),.eq (.slice none 0 0))]) (an [.const (.slice none 0 0)] rfl rfl Da rfl (dX k ([]:(List (List Int))) T9 TU)) fun _ _ _ hn=>⟨(gl (t:=(.slice (.slice (.int .i64)))) (x:=([]:(List (List Int)))) .nil rfl rfl hn.1),trivial⟩) ?_;refine dm ?_;obtain⟨Ue,TM,h⟩:=ab h;refine db (ue (t:=(.arr 5 (.int .i64))) rfl F5 ub rfl rfl (xj) TM) ?_;refine df eA ?_;obtain⟨Uj,pp,h⟩:=ab h;refine jb (Hm rfl (aE pp).1 (aE pp).2) ?_;refine nt (cn h (fun h=>?_) (fun h=>?_))
      ·refine aa ?_;iterate 2 refine mq ?_
       refine ja (bH (t:=(.int .i64)) [(.tmp 37,_)] [e.2] rfl rfl fD (.cons rfl .int .nil) rfl rfl) ?_;obtain⟨Ui,TO,h⟩:=ab h;refine fr 5 ?_;refine dN rfl rfl rfl (cz rfl rfl fD (aE TO)) ⟨rfl,rfl,trivial⟩ fun TZ=>?_;refine aq (ao (bn ?_));exact jz (TZ,e.1++[e.2]) h [1,2,3,4,5,0,6,7,8]
      ·refine aV (bn ?_);exact jz (O,e.1) h [0,1,2,3,4,5,6,7,8]
     ·refine aa ?_;obtain⟨TY,TL,h⟩:=ab h;refine jb (bg rfl TL) ?_;refine mq (nl ?_);exact jz (Q,(ac,TY)) h [0,1,2,3,4,5,6,7,8]
    ·refine xa ?_;exact jz (O,e.1) h [0,1,2,3,4,5,6,7,8]
   ·refine ag (aN (Z:=Unit) (α:=(List Int)×Bool) (fun TK y=>[(6,Pt b4),(7,Pt b5),(8,Pt b6),(9,Pt b7),(10,Pt u),(11,Ri y.1),(61,.eq (.bool y.2))]) (fun TK y=>[.obj b4 102 (.at ap (a0,(.map (some z3)))),.obj b5 23 (Ri y9.2.2),.obj b6 107 (.rep (.arr 3 (.arr 5 (.int .i64))) y9.2.1),.obj b7 4 (.eq (.bool y9.1)),.obj u 107 (.rep (.arr 3 (.arr 5 (.int .i64))) j),.inv z3 (bb k a0),.obj b1 25 (.rep aF a0),.raw l (.loop (⟨.busy,none,fn0,tm0, #[22],as0,bd0,df0⟩:Loop))]) h (fun K h=>?_) (fun TK y h=>?_))
    ·refine aa (fr 3 ?_);refine lo RA ?_;refine mq ?_;refine bF (s:=42) rfl (fun hb=>?_) (fun hb=>?_)
     ·replace h:=cr (Bv hb) h;refine gm ?_;refine fr 5 ?_;refine hQ rfl rfl rfl rfl rfl rfl (dq rfl rfl fg) ⟨rfl,trivial⟩ ?_;refine fr 3 ?_;refine hQ rfl rfl rfl rfl rfl rfl (ak rfl co kV rfl) ⟨rfl,trivial⟩ ?_;refine ga (jF rfl rfl fg) ?_;refine gb (l6 rfl) ?_;refine gm ?_;refine bF (s:=48) rfl (fun hb=>?_) (fun hb=>?_)
      ·replace h:=cr (mh hb) h;iterate 6 refine gn ?_
       refine gu ?_;refine gu ?_;refine gu ?_;refine gu ?_;refine gn ?_;refine gb (nC rfl) ?_;refine pt (nl ?_);refine aH 1 rfl ?_;refine bL (gx [11,43] ⟨rfl,rfl,trivial⟩) ?_;exact jz ((),(c,true)) h [2,0,3,1,4,5,6,7]
      ·replace h:=bv (lw hb) h;refine gm ?_;refine fr 1 ?_;refine hQ rfl rfl rfl rfl rfl rfl (dq rfl rfl fg) ⟨rfl,trivial⟩ ?_;refine fr 1 ?_;refine hQ rfl rfl rfl rfl rfl rfl (ak rfl co kV rfl) ⟨rfl,trivial⟩ ?_;refine ga (jF rfl rfl fg) ?_;refine gb (dw rfl) ?_;refine gm ?_;refine bF (s:=54) rfl (fun hb=>?_) (fun hb=>?_)
       ·replace h:=cr (mh hb) h;refine gm ?_;refine hQ rfl rfl rfl rfl rfl rfl (ak rfl co kV rfl) ⟨rfl,trivial⟩ ?_;refine fr 1 ?_;refine cD (gx [11,43,49,55] ⟨rfl,rfl,rfl,rfl,trivial⟩) ?_;obtain⟨mc,TS,h⟩:=ab h;refine gb (an [.tmp 55,.tmp 56] rfl rfl QT rfl (qX k c y9.2.2 mc TS)) ?_;refine gb (qK rfl) ?_;refine gb (nC rfl) ?_;refine gb (l5 rfl) ?_;refine pt (nl ?_);exact jz ((),(c,decide (0≤mc))) h [2,0,3,1,4,5,6,7]
       ·replace h:=bv (lw hb) h;iterate 4 refine gn ?_
        refine gb (l5 rfl) ?_;refine gb (l5 rfl) ?_;refine pt (nl ?_);refine aH 1 rfl ?_;refine bL (gx [11,43,49] ⟨rfl,rfl,rfl,trivial⟩) ?_;exact jz ((),(c,false)) h [2,0,3,1,4,5,6,7]
     ·replace h:=bv (Bw hb) h;iterate 6 refine gn ?_
      refine gu ?_;refine gu ?_;refine gu ?_;refine gu ?_;refine gu ?_;refine gu ?_;refine gu ?_;refine gu ?_;refine gu ?_;refine gu ?_;refine gu ?_;refine gn ?_;refine pf (nl ?_);refine aH 5 rfl ?_;refine bL (gx [11] ⟨rfl,trivial⟩) ?_;exact jz ((),(c,false)) h [1,2,3,0,4,5,6,7]
    ·refine cv h (fun h=>?_) (fun h=>?_)
     ·refine dJ (aR (bR (aH 6 rfl ?_)));refine aH 6 rfl ?_;refine aH 3 rfl ?_;refine aH 4 rfl ?_;refine aH 5 rfl ?_;refine aH 5 rfl ?_;refine aH 7 rfl ?_;cases h;exact jP () 6 rfl
     ·refine sk (sr (lo k7 ?_));refine fr 4 ?_;refine lo cF ?_;obtain⟨se,TR,h⟩:=ab h;refine fr 5 ?_;refine kb (c9 [.tmp 62,.tmp 63] rfl rfl Ek rfl (fH k a0 z3 j se TR)) ?_;refine jb (dw rfl) ?_;refine nt (ci h (fun h=>?_) (fun h=>?_))
      ·refine ml ?_;refine bX rfl rfl rfl (bG rfl) ⟨rfl,trivial⟩ ?_;refine gB 1 rfl rfl rfl rfl (ak rfl cF (xj) rfl) ⟨rfl,trivial⟩ ?_;refine rM 2 [true,false] [] [1] [.obj u 107 (.rep (.arr 3 (.arr 5 (.int .i64))) j)] rfl (by kernel_rfl) (by kernel_rfl) (by kernel_rfl) eA (fun vs hv hB=>?_);obtain⟨w0,Uh,rfl,Ub⟩:=aD hv;obtain⟨w1,Ug,rfl,Ua⟩:=aD Ub;obtain rfl:=ot Ua;refine⟨[1,0,2,3,4,5,6,7],[.inv z3 (bb k a0),.obj b4 102 (.at ap (a0,(.map (some z3)))),.obj b5 23 (Ri y9.2.2),.obj b6 107 (.rep (.arr 3 (.arr 5 (.int .i64))) y9.2.1),.obj b7 4 (.eq (.bool y9.1)),.obj b1 25 (.rep aF a0),.raw l (.loop (⟨.busy,none,fn0,tm0, #[22],as0,bd0,df0⟩:Loop))],by kernel_rfl,by decide,?_⟩;refine sU 2 rfl ?_;refine rL rfl rfl (aO rfl co rfl rfl rfl) ⟨rfl,rfl,trivial⟩ (by kernel_rfl) ?_;refine Jz (by kernel_rfl) ?_;refine fr 4 ?_;refine aS rfl rfl (aO rfl cF rfl rfl rfl) ⟨rfl,rfl,trivial⟩ ?_;refine fr 5 ?_;refine aS rfl rfl (aO rfl RA rfl rfl rfl) ⟨rfl,rfl,trivial⟩ ?_;refine ao (aG (aH 6 rfl ?_));refine aH 5 rfl ?_;refine aH 5 rfl ?_;refine aH 4 rfl ?_;refine aH 4 rfl ?_;refine aH 6 rfl ?_;refine aH 7 rfl ?_;cases h;exact jP () 6 rfl
      ·refine aV (aG (aH 6 rfl ?_));refine aH 1 rfl ?_;refine aH 4 rfl ?_;refine aH 5 rfl ?_;refine aH 6 rfl ?_;refine aH 6 rfl ?_;refine aH 7 rfl ?_;cases h;exact jP () 6 rfl
  ·replace h:=bv (Bw hj) h;refine aG (tn (ag (sr (fr 3 ?_))));refine lo RA ?_;refine ja (ig rfl) ?_;refine nt (cw h (fun h=>?_) (fun h=>?_))
   ·refine sr (cq ?_);refine cq ?_;refine cq (nt (rx ?_));refine sV ?_;refine bL (ky (t:=(.slice (.int .i64))) (x:=[]) 2 rfl .nil rfl rfl) ?_;refine bL (ky (t:=(.slice (.slice (.int .i64)))) (x:=[]) 3 rfl .nil rfl rfl) ?_;refine aH 1 rfl ?_;refine qy ?_;cases h;exact aL () [_,_,_] 0 ⟨rfl,rfl,rfl,trivial⟩ rfl
   ·refine sk (ag (bW ?_));refine ea 5 (ak rfl co kV rfl) ?_;refine ea 3 (ak rfl k7 kV rfl) ?_;refine ea 4 (ak rfl cF (xj) rfl) ?_;obtain⟨T8,TP,h⟩:=ab h;refine db (zd (cH (N:=[(.tmp 71,.at ap (a0,(.map (some z3)))),(.tmp 72,.rep (.arr 3 (.arr 5 (.int .i64))) D.1.2.1)]) (an [.tmp 71,.tmp 72] rfl rfl Lt rfl (ix k (a0,()) D.1.2.1 T8 TP)) fun _ _ _ hn=>⟨(oy hn.1),hn.2.1,trivial⟩)) ?_;refine df eA ?_;refine aq ?_;refine aq ?_;refine cq (nt (aA ?_));refine sV ?_;refine aH 1 rfl ?_;refine qy ?_;cases h;exact aL () [_,_,_] 0 ⟨rfl,rfl,rfl,trivial⟩ rfl
  ·replace h:=cr (Bv hj) h;cases h
def eJ(k:Nat)(h:(List (List Int)))(e:Int):Nat→((List Int)×Int)→Option (List Int)
 |0,_=>none
 |n+1,c=>
  if c.2 < (c.1.length:Int) then((((bf h e).bind fun l=>
  (vQ k l c.2).bind fun s=>
  if s < 0 then((bf c.1 c.2).bind fun u=>
  some (List.set c.1 (Int.toNat c.2) 0)) else(some c.1)):Option ((List Int))).bind fun r=>
  (ck (c.2+1)).bind fun j=>
  eJ k h e n (r,j)) else(some c.1)
def bU(k:Nat)(r3:bB×bZ)(r5:(List Int)×(List (List Int))×Int)(j:(List (List Int))):Nat→Int→Option (Except Bool Unit)
 |0,_=>none
 |n+1,h=>
  if h < (j.length:Int) then(bE (α:=Unit) ((fM k r3.1).bind fun l=>
  ((eJ k j h k (l.2.2,0)):Option ((List Int))).bind fun D=>
  (ic k (l.1,l.2.1,D)).bind fun c=>
  ((if c.2.2=0 then(some (decide (c.2.1=0))) else(some false)):Option (Bool)).bind fun y=>
  if y=true then(((if r5.2.2=0 then((bf j h).bind fun u=>
  (dU k r5.1 u).bind fun I=>
  if I=true then((fV k r5.2.1 c.1).bind fun F=>
  if F=true then((fp k).bind fun E=>
  some E) else(some false)) else(some false)) else(some false)):Option (Bool)).bind fun x=>
  some (.error x)) else(((if¬(c.2.2=0) then(some (!decide (c.2.2=11))) else(some false)):Option (Bool)).bind fun s=>
  if s=true then(some (.error false)) else(some (.ok ())))) (fun e=>some (.error e)) fun _=>
  (ck (h+1)).bind fun r=>
  bU k r3 r5 j n r) else(some (.ok ()))
def dD(k:Nat)(r3:bB×bZ)(r5:(List Int)×(List (List Int))×Int):Nat→Int→Option (Except Bool Unit)
 |0,_=>none
 |n+1,y8=>
  if y8≤(r3.1.2.2.length:Int) then(bE (α:=Unit) ((jH k k (r3.1.2.2.length:Int) y8).bind fun h=>
  bU k r3 r5 h k 0) (fun e=>some (.error e)) fun _=>
  (ck (y8+1)).bind fun c=>
  dD k r3 r5 n c) else(some (.ok ()))
def ln(k:Nat)(a0:(List Int)):Option Bool:=
 (jI k a0).bind fun r1=>
 (iY k (r1.1,r1.2.1,r1.2.2) 4 3).bind fun r3=>
 (rX k r3.1).bind fun r5=>
 bE (α:=Unit) (dD k r3 r5 k 0) (some) fun _=>
 ((if r5.2.2=11 then((ck ((r5.1.length:Int)+(r5.2.1.length:Int))).bind fun c=>
 if c=0 then((fp k).bind fun h=>
 some h) else(some false)) else(some false)):Option (Bool)).bind fun e=>
 some e
theorem uB(k:Nat)(a0:(List Int))(r:Bool)(h:ln k a0=some r):
 dc (gQ Tryz.prog) 21 [Ri a0] [.inv 0 (gG)] (fun _:Unit=>(bq [.eq (.bool r)],[.inv 0 (gG)])):=by
 unfold ln at h
 replace h:=be h
 refine dc.of 111 Tryz.func21 rfl Tryz.ntmps21 rfl fun S w0=>?_
 refine sr ?_
 refine cq ?_
 refine nt ?_
 refine sr ?_
 refine mq ?_
 obtain⟨r1,Uw,h⟩:=ab h
 have Uz:=pC k a0 r1 Uw
 refine aw rfl rfl rfl (an [.tmp 15] rfl rfl Qy rfl Uz) ⟨rfl,trivial⟩ fun b2=>?_
 obtain⟨r3,Uu,h⟩:=ab h
 have Uy:=qM k (r1.1,r1.2.1,r1.2.2) b2 4 3 r3 Uu
 refine kc (an [.tmp 16,.const (.int .i64 (4)),.const (.int .i64 (3))] rfl rfl Qw rfl Uy) ?_
 refine aw rfl rfl rfl (aP rfl kW m7) trivial fun b4=>?_
 refine aS rfl rfl (aO rfl gC rfl rfl rfl) ⟨rfl,rfl,trivial⟩ ?_
 refine nt ?_
 refine sr ?_
 refine lo gC ?_
 obtain⟨r5,Ut,h⟩:=ab h
 have Ux:=BJ k r3.1 r5 Ut
 refine ja (c9 [.tmp 19] rfl rfl SC rfl Ux) ?_
 refine mq ?_
 refine xr ?_
 refine xr ?_
 refine xr ?_
 refine aq ?_
 refine aq ?_
 refine aq ?_
 refine nt ?_
 refine fP (Z:=Unit) (α:=Unit) (fun z7 x6=>[(4,Ri r5.1),(5,.rep (.slice (.slice (.int .i64))) r5.2.1),(6,I r5.2.2)]) (fun z7 x6=>[.inv 0 (gG)]) (fun e=>e=r) h (fun e h=>Option.some.inj h) (fun K hR h=>?_) (fun z7 x6 h=>?_)
 ·
  refine sr (cq (nt (aj ?_)));refine aI (fun z9 y8=>[(3,Pt b4),(4,Ri r5.1),(5,.rep (.slice (.slice (.int .i64))) r5.2.1),(6,I r5.2.2),(7,I y8)]) (fun z9 y8=>[.obj b4 25 (.rep aF r3.1),.inv 0 (gG)]) (dD k r3 r5) k () 0 (fun _=>rfl) h (SE.fin [0,2] ⟨rfl,rfl,rfl,rfl,rfl,trivial⟩ rfl) (fun n z9 y8 h=>?_);unfold dD at h;refine ag (sr (mq ?_));refine fl d4 ?_;refine lo co ?_;refine ol fg ?_;refine jb (xf rfl) ?_;refine nt (ci h (fun h=>?_) (fun h=>?_))
  ·refine sk (fP (Z:=Unit) (α:=Unit) (fun TS TX=>[(3,Pt b4),(4,Ri r5.1),(5,.rep (.slice (.slice (.int .i64))) r5.2.1),(6,I r5.2.2),(7,I y8)]) (fun TS TX=>[.obj b4 25 (.rep aF r3.1),.inv 0 (gG)]) (fun e=>e=r) h (fun e h=>hR e h) (fun K hR h=>?_) (fun TS TX h=>?_))
   ·refine aj (sr (fl d4 ?_));refine lo co ?_;refine ol fg ?_;refine mq ?_;obtain⟨D,Uj,h⟩:=ab h;refine aw rfl rfl rfl (an [.tmp 33,.tmp 34] rfl rfl Qs rfl (yD k k (r3.1.2.2.length:Int) y8 D Uj)) ⟨rfl,rfl,trivial⟩ fun c=>?_;refine aq (nt (sr ?_));refine cq (nt (aj ?_));refine aI (fun TR u=>[(3,Pt b4),(4,Ri r5.1),(5,.rep (.slice (.slice (.int .i64))) r5.2.1),(6,I r5.2.2),(7,I y8),(8,.eq c),(9,I u)]) (fun TR u=>[.obj b4 25 (.rep aF r3.1),.sl c 23 (.slice (.int .i64)) D,.inv 0 (gG)]) (bU k r3 r5 D) k () 0 (fun _=>rfl) h (SE.fin [1,0,2] ⟨rfl,rfl,rfl,rfl,rfl,rfl,rfl,trivial⟩ rfl) (fun n TR u h=>?_);unfold bU at h;refine ag (sr ?_);iterate 2 refine mq ?_
    refine fr 1 ?_;refine ka (dq rfl rfl oz) ?_;refine jb (bm rfl) ?_;refine nt (ci h (fun h=>?_) (fun h=>?_))
    ·refine sk (fP (Z:=Unit) (α:=Unit) (fun TP TU=>[(3,Pt b4),(4,Ri r5.1),(5,.rep (.slice (.slice (.int .i64))) r5.2.1),(6,I r5.2.2),(7,I y8),(8,.eq c),(9,I u)]) (fun TP TU=>[.obj b4 25 (.rep aF r3.1),.sl c 23 (.slice (.int .i64)) D,.inv 0 (gG)]) (fun e=>e=r) h (fun e h=>hR e h) (fun K hR h=>?_) (fun TP TU h=>?_))
     ·refine aj (sr (fr 1 ?_));refine lo gC ?_;obtain⟨j,Ui,h⟩:=ab h;refine bC (Δ:=[]) (F:=_) (fun _ _ _=>au rfl _) rfl rfl (an [.tmp 42] rfl rfl Qx rfl (oP k r3.1 j Ui)) ⟨rfl,trivial⟩ fun l=>?_;refine aw rfl rfl rfl (aP rfl kW m7) trivial fun M=>?_;refine aS rfl rfl (aO rfl gC trivial rfl rfl) ⟨rfl,rfl,trivial⟩ ?_;refine nt (aN (Z:=Unit) (α:=(List Int)) (fun TO E=>[(3,Pt b4),(4,Ri r5.1),(5,.rep (.slice (.slice (.int .i64))) r5.2.1),(6,I r5.2.2),(7,I y8),(8,.eq c),(9,I u),(10,Pt M)]) (fun TO E=>[.obj b4 25 (.rep aF r3.1),.sl c 23 (.slice (.int .i64)) D,.obj M 25 (.agg (.pair (I j.1) (.pair (.eq l.1) (.eq l.2)))),.sl l.1 27 bS j.2.1,.sl l.2 3 (.int .i64) E,.inv 0 (gG)]) h (fun K h=>?_) (fun TO E h=>?_))
      ·refine sr (cq (nt (aj ?_)));refine aI (fun TN y=>[(3,Pt b4),(4,Ri r5.1),(5,.rep (.slice (.slice (.int .i64))) r5.2.1),(6,I r5.2.2),(7,I y8),(8,.eq c),(9,I u),(10,Pt M),(11,I y.2)]) (fun TN y=>[.obj b4 25 (.rep aF r3.1),.sl c 23 (.slice (.int .i64)) D,.obj M 25 (.agg (.pair (I j.1) (.pair (.eq l.1) (.eq l.2)))),.sl l.1 27 bS j.2.1,.sl l.2 3 (.int .i64) y.1,.inv 0 (gG)]) (eJ k D u) k () (j.2.2,0) (fun _=>rfl) h (SE.fin [3,4,0,1,2,5] ⟨rfl,rfl,rfl,rfl,rfl,rfl,rfl,rfl,rfl,trivial⟩ rfl) (fun n TN y h=>?_);unfold eJ at h;refine ag (sr (mq ?_));refine fl d4 ?_;refine fr 2 ?_;refine lo co ?_;refine fr 4 ?_;refine ka (dq rfl rfl fg) ?_;refine jb (bm rfl) ?_;refine nt (ci h (fun h=>?_) (fun h=>?_))
       ·refine sk (aN (Z:=Unit) (α:=(List Int)) (fun TM O=>[(3,Pt b4),(4,Ri r5.1),(5,.rep (.slice (.slice (.int .i64))) r5.2.1),(6,I r5.2.2),(7,I y8),(8,.eq c),(9,I u),(10,Pt M),(11,I y.2)]) (fun TM O=>[.obj b4 25 (.rep aF r3.1),.sl c 23 (.slice (.int .i64)) D,.obj M 25 (.agg (.pair (I j.1) (.pair (.eq l.1) (.eq l.2)))),.sl l.1 27 bS j.2.1,.sl l.2 3 (.int .i64) O,.inv 0 (gG)]) h (fun K h=>?_) (fun TM O h=>?_))
        ·refine aj (sr ?_);iterate 2 refine mq ?_
         obtain⟨Uo,X,h⟩:=ab h;refine fr 3 ?_;refine kb (a9 (t:=(.slice (.int .i64))) rfl oz co X) ?_;refine ka (eu (i:=Int.toNat u) (off:=0) rfl co (fun _=>rfl) rfl (dM X).2.2 rfl) ?_;refine mq ?_;obtain⟨Us,Uh,h⟩:=ab h;refine jb (an [.tmp 54,.tmp 55] rfl rfl SH rfl (FC k Uo y.2 Us Uh)) ?_;refine jb (bm rfl) ?_;refine nt (ci h (fun h=>?_) (fun h=>?_))
         ·refine aa (fl d4 ?_);refine fr 2 ?_;refine lo co ?_;refine mq ?_;obtain⟨UB,U,h⟩:=ab h;refine fr 2 ?_;refine kb (a9 (t:=(.int .i64)) rfl fg dh U) ?_;refine aS rfl rfl (c6 (i:=Int.toNat y.2) rfl dh rfl (jw U) rfl .int rfl) ⟨rfl,rfl,trivial⟩ ?_;refine ao (bn ?_);exact jz ((),List.set y.1 (Int.toNat y.2) 0) h [3,2,1,4,0,5]
         ·refine aV (bn ?_);exact jz ((),y.1) h [3,0,2,4,1,5]
        ·refine aa (mq ?_);obtain⟨Un,Ub,h⟩:=ab h;refine jb (bg rfl Ub) ?_;refine aq (nl ?_);exact jz ((),(O,Un)) h [0,1,2,3,4,5]
       ·refine xa ?_;exact jz ((),y.1) h [2,3,1,4,0,5]
      ·refine sr (fr 2 ?_);refine fr 3 ?_;refine cD (jB (off:=1) [] trivial rfl rfl) ?_;refine fr 3 ?_;refine cD (jB (off:=2) [] trivial rfl rfl) ?_;refine lo gC ?_;obtain⟨J,Ug,h⟩:=ab h;refine ja (cH (N:=[(.tmp 63,.agg (.pair (I j.1) (.pair (Rs bS j.2.1) (Ri E))))]) (c9 [.tmp 63] rfl rfl I3 rfl (kG k (j.1,j.2.1,E) J Ug)) fun _ _ _ hn=>⟨(gl (t:=aF) (x:=(j.1,j.2.1,E)) (.agg (.pair .int (.pair .rep .rep))) trivial rfl hn.1),trivial⟩) ?_;refine mq ?_;refine xr ?_;refine xr ?_;refine xr ?_;refine aq ?_;refine aq ?_;refine aq (nt (ag ?_));refine aN (Z:=Unit) (α:=Bool) (fun TL pp=>[(3,Pt b4),(4,Ri r5.1),(5,.rep (.slice (.slice (.int .i64))) r5.2.1),(6,I r5.2.2),(7,I y8),(8,.eq c),(9,I u),(12,.rep (.slice (.slice (.int .i64))) J.1),(14,I J.2.2),(73,.eq (.bool pp))]) (fun TL pp=>[.obj b4 25 (.rep aF r3.1),.sl c 23 (.slice (.int .i64)) D,.inv 0 (gG)]) h (fun K h=>?_) (fun TL pp h=>?_)
       ·refine aa (mq ?_);refine jb (dw rfl) ?_;refine mq ?_;refine bF (s:=70) rfl (fun hb=>?_) (fun hb=>?_)
        ·replace h:=cr (mh hb) h;refine gm ?_;refine gb (dw rfl) ?_;refine pt (nl ?_);exact jz ((),decide (J.2.1=0)) h [1,2,3]
        ·replace h:=bv (lw hb) h;iterate 2 refine gn ?_
         refine pf (nl ?_);exact jz ((),false) h [1,2,3]
       ·refine cv h (fun h=>?_) (fun h=>?_)
        ·refine aN (Z:=Unit) (α:=Bool) (fun TK mc=>[(2,.eq (.bool mc))]) (fun TK mc=>[.inv 0 (gG)]) h (fun K h=>?_) (fun TK mc h=>?_)
         ·refine aa (mq ?_);refine jb (dw rfl) ?_;refine mq ?_;refine bF (s:=76) rfl (fun hb=>?_) (fun hb=>?_)
          ·replace h:=cr (mh hb) h;refine gm ?_;refine gm ?_;refine gm ?_;obtain⟨Um,Q,h⟩:=ab h;refine fr 1 ?_;refine hQ rfl rfl rfl rfl rfl rfl (a9 (t:=(.slice (.int .i64))) rfl oz co Q) ⟨rfl,rfl,trivial⟩ ?_;refine hQ rfl rfl rfl rfl rfl rfl (eu (i:=Int.toNat u) (off:=0) rfl co (fun _=>rfl) rfl (dM Q).2.2 rfl) ⟨rfl,trivial⟩ ?_;obtain⟨Ur,Uf,h⟩:=ab h;refine gb (an [.tmp 77,.tmp 81] rfl rfl Ly rfl (jv k r5.1 Um Ur Uf)) ?_;refine pt ?_;refine mq ?_;refine bF (s:=84) rfl (fun hb=>?_) (fun hb=>?_)
           ·replace h:=cr (Bv hb) h;refine gm ?_;refine gm ?_;obtain⟨Up,Ue,h⟩:=ab h;refine gb (an [.tmp 85,.tmp 86] rfl rfl OB rfl (ko k r5.2.1 J.1 Up Ue)) ?_;refine pt ?_;refine mq ?_;refine bF (s:=89) rfl (fun hb=>?_) (fun hb=>?_)
            ·replace h:=cr (Bv hb) h;obtain⟨TZ,Ud,h⟩:=ab h;refine fr 2 ?_;refine hQ rfl rfl rfl rfl rfl rfl (c9 [] rfl rfl LC rfl (kD k TZ Ud)) trivial ?_;refine pt ?_;refine aq (nl ?_);exact jz ((),TZ) h [0]
            ·replace h:=bv (Bw hb) h;refine gn ?_;refine pf ?_;refine aq (nl ?_);exact jz ((),false) h [2]
           ·replace h:=bv (Bw hb) h;iterate 3 refine gn ?_
            refine pf ?_;refine mq ?_;refine gn ?_;refine pf ?_;refine aq (nl ?_);exact jz ((),false) h [2]
          ·replace h:=bv (lw hb) h;iterate 6 refine gn ?_
           refine pf ?_;refine mq ?_;iterate 3 refine gn ?_
           refine pf ?_;refine mq ?_;refine gn ?_;refine pf ?_;refine aq (nl ?_);exact jz ((),false) h [2]
         ·refine rx (br (bJ (br (bJ (aZ ?_)))));obtain rfl:=hR _ h;exact aL () [_] 1 ⟨rfl,trivial⟩ rfl
        ·refine sk (aN (Z:=Unit) (α:=Bool) (fun se ac=>[(3,Pt b4),(4,Ri r5.1),(5,.rep (.slice (.slice (.int .i64))) r5.2.1),(6,I r5.2.2),(7,I y8),(8,.eq c),(9,I u),(97,.eq (.bool ac))]) (fun se ac=>[.obj b4 25 (.rep aF r3.1),.sl c 23 (.slice (.int .i64)) D,.inv 0 (gG)]) h (fun K h=>?_) (fun se ac h=>?_))
         ·refine aa (mq ?_);refine jb (jd rfl) ?_;refine mq ?_;refine bF (s:=94) rfl (fun hb=>?_) (fun hb=>?_)
          ·replace h:=cr (PZ hb) h;refine gm ?_;refine gb (jd rfl) ?_;refine pt (nl ?_);exact jz ((), !decide (J.2.2=11)) h [0,1,2]
          ·replace h:=bv (HV hb) h;iterate 2 refine gn ?_
           refine pf (nl ?_);exact jz ((),false) h [0,1,2]
         ·refine cv h (fun h=>?_) (fun h=>?_)
          ·refine sr (cq (nt (aA (br (bJ (br (bJ (aZ ?_))))))));refine bL (SE.fin (Γ':=[(2,_)]) [2,0,1] ⟨rfl,trivial⟩ rfl) ?_;obtain rfl:=hR _ h;exact aL () [_] 1 ⟨rfl,trivial⟩ rfl
          ·refine aV (bn ?_);exact jz ((),()) h [0,1,2]
     ·refine aa (mq ?_);obtain⟨Ul,Ua,h⟩:=ab h;refine jb (bg rfl Ua) ?_;refine aq (nl ?_);exact jz ((),Ul) h [0,1,2]
    ·refine dJ (aR (aR (bR (bn ?_))));exact jz ((),()) h [1,2]
   ·refine aa (mq ?_);obtain⟨Uk,T9,h⟩:=ab h;refine jb (bg rfl T9) ?_;refine aq (nl ?_);exact jz ((),Uk) h [0,1]
  ·refine xa ?_;exact jz ((),()) h [1]
 ·
  refine aN (Z:=Unit) (α:=Bool) (fun qt Y=>[(2,.eq (.bool Y))]) (fun qt Y=>[.inv 0 (gG)]) h (fun K h=>?_) (fun qt Y h=>?_)
  ·refine aa (mq ?_);refine jb (dw rfl) ?_;refine mq ?_;refine bF (s:=100) rfl (fun hb=>?_) (fun hb=>?_)
   ·replace h:=cr (mh hb) h;refine gm ?_;refine ga (jF rfl rfl fg) ?_;refine gm ?_;refine ga (jF rfl rfl oz) ?_;obtain⟨UA,T8,h⟩:=ab h;refine gb (bg rfl T8) ?_;refine gb (dw rfl) ?_;refine pt ?_;refine mq ?_;refine bF (s:=108) rfl (fun hb=>?_) (fun hb=>?_)
    ·replace h:=cr (mh hb) h;obtain⟨TY,Uc,h⟩:=ab h;refine hQ rfl rfl rfl rfl rfl rfl (c9 [] rfl rfl LC rfl (kD k TY Uc)) trivial ?_;refine pt ?_;refine aq (nl ?_);exact jz ((),TY) h [0]
    ·replace h:=bv (lw hb) h;refine gn ?_;refine pf ?_;refine aq (nl ?_);exact jz ((),false) h [0]
   ·replace h:=bv (lw hb) h;iterate 6 refine gn ?_
    refine pf ?_;refine mq ?_;refine gn ?_;refine pf ?_;refine aq (nl ?_);exact jz ((),false) h [0]
  ·refine aA ?_;cases h;exact aL () [_] 1 ⟨rfl,trivial⟩ rfl
end Go.Proofs.YtcnpijmfgfnpiaaGreatDoor
