import Derived.Test.YtcnpijmfgfnpiaaGreatDoorVB10
import Derived.Test.YtcnpijmfgfnpiaaGreatDoorVB8
import Derived.Test.YtcnpijmfgfnpiaaGreatDoorVB9
import Derived.Test.YtcnpijmfgfnpiaaGreatDoorVB5
set_option linter.unusedSimpArgs false
set_option linter.unusedVariables false
set_option maxRecDepth 4000
set_option maxHeartbeats 1000000
namespace Go.Proofs.YtcnpijmfgfnpiaaGreatDoor
open K Go Go.Proofs
def bD(k:Nat)(a0:a8)(a1:(List (List Int))):Option Int:=
 (ly k a0).bind fun r2=>
 if¬(r2=0) then(some r2) else((lx k a0 a1).bind fun r4=>
 (QY r4).bind fun q5=>
 if q5.isSome=true then(some (q5.getD 0)) else(some 0))
theorem cD(k:Nat)(a0:a8)(a1:(List (List Int)))(r:Int)(h:bD k a0 a1=some r):
 bZ Tryz.prog 35 [.rep aB a0,.rep (.slice (.slice (.int .i64))) a1] [.inv 0 (dO)] (fun _:Unit=>(bq [I r],[.inv 0 (dO)])):=by
 unfold bD at h
 replace h:=a9 h
 refine bZ.of 19 Tryz.func35 rfl Tryz.ntmps35 rfl fun S w0=>?_
 refine sr ?_
 refine bx fun b1=>?_
 refine cq ?_
 refine nt ?_
 refine ag ?_
 refine sr ?_
 refine lo fK ?_
 obtain⟨r2,e,h⟩:=aa h
 have l:=rc k a0 r2 e
 refine ja (ak [.tmp 7] rfl rfl PX rfl l) ?_
 refine aq ?_
 refine nt ?_
 refine sr ?_
 refine mq ?_
 refine jb (ge rfl) ?_
 refine nt ?_
 refine cn h (fun h=>?_) (fun h=>?_)
 ·
  refine sr (mq ?_);refine aq (nt (rx ?_));refine bv (SE.fin (Γ':=[(4,_)]) [1,0] ⟨rfl,trivial⟩ rfl) ?_;cases h;exact aE () [_] 1 ⟨rfl,trivial⟩ rfl
 ·
  refine sk (sr (aF rfl rfl rfl (bR rfl ud QE) trivial fun b3=>?_));refine nt (ag (sr (fr 1 ?_)));refine lo fK ?_;refine mq ?_;obtain⟨r4,c,h⟩:=aa h;refine jb (ak [.tmp 12,.tmp 13] rfl rfl Rz rfl (qZ k a0 a1 r4 c)) ?_;refine ja (GE rfl RV) ?_;obtain⟨q5,j,h⟩:=aa h;refine fr 2 ?_;refine fr 2 ?_;refine bJ (Δ:=[_,_]) (F:=_) (fun _ _ _=>av rfl _) rfl rfl (ak [.tmp 14,.tmp 15] rfl rfl RA rfl (Qx j)) ⟨rfl,rfl,trivial⟩ fun _=>?_;refine nt (cv h (fun h=>?_) (fun h=>?_))
  ·refine sr (fl KF ?_);refine lo Rf ?_;refine aq (nt (rx ?_));refine bv (SE.fin (Γ':=[(4,_)]) [1,0,2] ⟨rfl,trivial⟩ rfl) ?_;cases h;exact aE () [_] 1 ⟨rfl,trivial⟩ rfl
  ·refine sk (sr (cq (nt (aA ?_))));refine bv (SE.fin (Γ':=[(4,_)]) [1,0,2] ⟨rfl,trivial⟩ rfl) ?_;cases h;exact aE () [_] 1 ⟨rfl,trivial⟩ rfl
def ju(k:Nat)(a0:a8)(r7:Int×(List (List Int))):Nat→((List Int)×Int)→Option (List Int)
 |0,_=>none
 |n+1,c=>
  if c.2 < (a0.2.1.length:Int) then((((d3 k r7.1 c.2).bind fun j=>
  if j=true then((ek (bT (List.length c.1+List.length [c.2]))).bind fun _=>
  some (c.1++[c.2])) else(some c.1)):Option ((List Int))).bind fun h=>
  (ck (c.2+1)).bind fun e=>
  ju k a0 r7 n (h,e)) else(some c.1)
def pz(k:Nat)(a0:a8)(a1:(List (List Int)))(a2:Int):Option ((List Int)×(List (List Int))×Int):=
 (bD k a0 a1).bind fun r2=>
 if¬(r2=0) then(some ([],[],r2)) else((ck (a0.1 - 1)).bind fun x3=>
 (dP k a2 0 x3).bind fun r4=>
 if¬(r4=true) then(some ([],[],3)) else((dn k a1).bind fun r6=>
 (iL k (a0,()) r6 a2).bind fun r7=>
 ((ju k a0 r7 k (([]:(List Int)),0)):Option ((List Int))).bind fun x9=>
 (dZ k (a0,()) r7.2).bind fun c=>
 some (x9,c,0)))
theorem ui(k:Nat)(a0:a8)(a1:(List (List Int)))(a2:Int)(r:(List Int)×(List (List Int))×Int)(h:pz k a0 a1 a2=some r):
 bZ Tryz.prog 31 [.rep aB a0,.rep (.slice (.slice (.int .i64))) a1,I a2] [.inv 0 (dO)] (fun _:Unit=>(bq [Ri r.1,.rep (.slice (.slice (.int .i64))) r.2.1,I r.2.2],[.inv 0 (dO)])):=by
 unfold pz at h
 replace h:=a9 h
 refine bZ.of 55 Tryz.func31 rfl Tryz.ntmps31 rfl fun S w0=>?_
 refine sr ?_
 refine bx fun b1=>?_
 refine cq ?_
 refine cq ?_
 refine cq ?_
 refine nt ?_
 refine ag ?_
 refine sr ?_
 refine lo fK ?_
 refine mq ?_
 obtain⟨r2,ac,h⟩:=aa h
 have mc:=cD k a0 a1 r2 ac
 refine fr 1 ?_
 refine kb (ak [.tmp 15,.tmp 16] rfl rfl BK rfl mc) ?_
 refine aq ?_
 refine nt ?_
 refine sr ?_
 refine mq ?_
 refine jb (ge rfl) ?_
 refine nt ?_
 refine cn h (fun h=>?_) (fun h=>?_)
 ·
  refine sr (mq ?_);refine cq ?_;refine cq ?_;refine aq (nt (rx ?_));refine bv (lb (t:=(.slice (.int .i64))) (x:=[]) 6 rfl .nil rfl rfl) ?_;refine bv (lb (t:=(.slice (.slice (.int .i64)))) (x:=[]) 7 rfl .nil rfl rfl) ?_;cases h;exact aE () [_,_,_] 1 ⟨rfl,rfl,rfl,trivial⟩ rfl
 ·
  refine sk (ag (sr (mq ?_)));refine fl kZ ?_;refine fr 1 ?_;refine lo cP ?_;obtain⟨x3,Q,h⟩:=aa h;refine jb (fQ rfl Q) ?_;obtain⟨r4,Y,h⟩:=aa h;refine jc (ak [.tmp 21,.const (.int .i64 (0)),.tmp 24] rfl rfl yc rfl (dV k a2 0 x3 r4 Y)) ?_;refine ja (d5 rfl) ?_;refine nt (cw h (fun h=>?_) (fun h=>?_))
  ·refine sr (cq ?_);refine cq ?_;refine cq (nt (rx ?_));refine bv (lb (t:=(.slice (.int .i64))) (x:=[]) 6 rfl .nil rfl rfl) ?_;refine bv (lb (t:=(.slice (.slice (.int .i64)))) (x:=[]) 7 rfl .nil rfl rfl) ?_;refine bv (SE.fin (Γ':=[(6,_),(7,_),(8,_)]) [1,0] ⟨rfl,rfl,rfl,trivial⟩ rfl) ?_;cases h;exact aE () [_,_,_] 1 ⟨rfl,rfl,rfl,trivial⟩ rfl
  ·refine sk (sr (lo fK ?_));refine aF rfl rfl rfl (ak [.tmp 27] rfl rfl Ip rfl (gj a0)) ⟨rfl,trivial⟩ fun z5=>?_;refine cu (ko (bN k a0) lC) ?_;refine aq (nt (sr ?_));iterate 2 refine mq ?_
   obtain⟨r6,X,h⟩:=aa h;refine ja (ak [.tmp 31] rfl rfl BJ rfl (d4 k a1 r6 X)) ?_;refine mq ?_;obtain⟨r7,U,h⟩:=aa h;refine jc (dz (N:=[(.tmp 30,.at au (a0,(.map (some z5)))),(.tmp 32,.rep (.arr 3 (.arr 5 (.int .i64))) r6),(.tmp 33,I a2)]) (ak [.tmp 30,.tmp 32,.tmp 33] rfl rfl PO rfl (oa k (a0,()) r6 a2 r7 U)) fun _ _ _ hn=>⟨(pi hn.1),hn.2.1,hn.2.2.1,trivial⟩) ?_;refine mq ?_;refine xr ?_;refine xr ?_;refine aF rfl rfl rfl (bR rfl mQ nr) trivial fun b8=>?_;refine aq ?_;refine bi rfl rfl (bh rfl di rfl rfl rfl) ⟨rfl,rfl,trivial⟩ ?_;refine nt (sr (cq (nt ?_)));refine aL (Z:=Value) (α:=(List Int)) (fun l x9=>[(10,.at au (a0,(.map (some z5)))),(12,Pt b8),(13,.eq l)]) (fun l x9=>[.obj b8 107 (.rep (.arr 3 (.arr 5 (.int .i64))) r7.2),.sl l 3 (.int .i64) x9,.inv 0 (dO),.inv z5 (bN k a0)]) h (fun K h=>?_) (fun l x9 h=>?_)
   ·refine sr (fl eM ?_);refine fr 2 ?_;refine lo kW ?_;refine ol tp ?_;refine fg rfl ?_;refine nt (aj (eH (SE.nil 3 (.int .i64)) ?_));refine aG (fun e c=>[(10,.at au (a0,(.map (some z5)))),(11,.eq (.int .u8 r7.1)),(12,Pt b8),(13,.eq e),(39,I (a0.2.1.length:Int)),(40,I c.2)]) (fun e c=>[.obj b8 107 (.rep (.arr 3 (.arr 5 (.int .i64))) r7.2),.sl e 3 (.int .i64) c.1,.inv 0 (dO),.inv z5 (bN k a0)]) (ju k a0 r7) k (.slice none 0 0) (([]:(List Int)),0) (fun _=>rfl) h (SE.fin [2,0,4,3] ⟨rfl,rfl,rfl,rfl,rfl,rfl,trivial⟩ rfl) (fun n e c h=>?_);unfold ju at h;refine sr (jb (bm rfl) ?_);refine nt (ag (ci h (fun h=>?_) (fun h=>?_)))
    ·refine sk (aL (Z:=Value) (α:=(List Int)) (fun j s=>[(10,.at au (a0,(.map (some z5)))),(11,.eq (.int .u8 r7.1)),(12,Pt b8),(13,.eq j),(39,I (a0.2.1.length:Int)),(40,I c.2)]) (fun j s=>[.obj b8 107 (.rep (.arr 3 (.arr 5 (.int .i64))) r7.2),.sl j 3 (.int .i64) s,.inv 0 (dO),.inv z5 (bN k a0)]) h (fun K h=>?_) (fun j s h=>?_))
     ·refine aj (sr (mq ?_));refine aq (nt (sr ?_));iterate 2 refine mq ?_
      obtain⟨O,E,h⟩:=aa h;refine jb (ak [.tmp 43,.tmp 44] rfl rfl KL rfl (iq k r7.1 c.2 O E)) ?_;refine nt (cv h (fun h=>?_) (fun h=>?_))
      ·refine ab ?_;iterate 2 refine mq ?_
       refine ja (bF (t:=(.int .i64)) [(.tmp 47,_)] [c.2] rfl rfl eJ (.cons rfl .int .nil) rfl rfl) ?_;obtain⟨u16,y,h⟩:=aa h;refine fr 1 ?_;refine dF rfl rfl rfl (bX rfl rfl eJ (aD y)) ⟨rfl,rfl,trivial⟩ fun J=>?_;refine aq (ao (bn ?_));exact jz (J,c.1++[c.2]) h [1,0,2,3]
      ·refine aS (bn ?_);exact jz (e,c.1) h [0,1,2,3]
     ·refine ab ?_;obtain⟨F,u,h⟩:=aa h;refine jb (bb rfl u) ?_;refine mq (nl ?_);exact jz (j,(s,F)) h [0,1,2,3]
    ·refine xa ?_;exact jz (e,c.1) h [0,1,2,3]
   ·refine sr ?_;iterate 2 refine mq ?_
    refine lo di ?_;obtain⟨M,D,h⟩:=aa h;refine aF rfl rfl rfl (dz (N:=[(.tmp 52,.at au (a0,(.map (some z5)))),(.tmp 53,.rep (.arr 3 (.arr 5 (.int .i64))) r7.2)]) (ak [.tmp 52,.tmp 53] rfl rfl KJ rfl (ii k (a0,()) r7.2 M D)) fun _ _ _ hn=>⟨(pi hn.1),hn.2.1,trivial⟩) ⟨rfl,rfl,trivial⟩ fun pp=>?_;refine aq ?_;refine aq ?_;refine cq (nt (aA ?_));refine cN 2 rfl ?_;refine bv (f9 [6,13,51] ⟨rfl,rfl,rfl,trivial⟩) ?_;refine bv (f9 [7,54] ⟨rfl,rfl,trivial⟩) ?_;refine bv (SE.fin (Γ':=[(6,_),(7,_),(8,_)]) [1,0,2] ⟨rfl,rfl,rfl,trivial⟩ rfl) ?_;cases h;exact aE () [_,_,_] 1 ⟨rfl,rfl,rfl,trivial⟩ rfl
theorem jI(k:Nat)(a0:a8)(z_a0:Nat)(a1:(List (List Int)))(r:Int)(h:ct k a0 a1=some r):
 dC (iU Tryz.prog) 111 [.at au (a0,(.map (some z_a0))),.rep (.arr 3 (.arr 5 (.int .i64))) a1] [.inv z_a0 (bN k a0)] (fun _:Unit=>(bq [I r],[.inv z_a0 (bN k a0)])):=by
 have h0:=h
 unfold ct at h
 replace h:=a9 h
 obtain⟨u1,eg,h⟩:=aa h
 have hg:=aD eg
 have gk:=Hr hg
 refine dC.of 28 Tryz.func111 rfl Tryz.ntmps111 rfl fun S w0=>?_
 refine sr ?_
 refine bx fun b1=>?_
 refine cq ?_
 refine nt ?_
 refine ag ?_
 refine jh 1 rfl ?_
 refine BW fun ob hob=>?_
 obtain⟨lnn,lbb,hlR,hlk⟩:=xK (z:=z_a0) QJ L9 zK gk EE hob
 refine cy ?_
 refine dm ?_
 refine da (dM rfl) ?_
 refine da (aM 1 false rfl C6 rfl) ?_
 refine da (an (t:=.val) rfl Lu rfl) ?_
 refine ea 1 (ap rfl di (xG) rfl) ?_
 refine eb 0 (Ej (kv:=lj a1) (wv _) (l6.calm hob) rfl (fun _ _ _ hh=>uX hh) hlk) ?_
 refine dm ?_
 refine da (ia rfl rfl) ?_
 refine da (ia rfl rfl) ?_
 refine da (iG rfl) ?_
 refine df fo ?_
 refine aq ?_
 refine nt ?_
 refine ag ?_
 refine sr ?_
 refine mq ?_
 refine ja (d5 rfl) ?_
 refine nt ?_
 refine eH (ko (bN k a0) hob) ?_
 refine bL rfl (fun hb=>?_) (fun hb=>?_)
 ·
  refine sr (mq ?_);refine fr 1 ?_;refine lo di ?_;obtain⟨r2,c,h⟩:=aa h;refine jc (dz (N:=[(.tmp 18,.at au (a0,(.map (some z_a0)))),(.tmp 19,.rep (.arr 3 (.arr 5 (.int .i64))) a1),(.const (.int .i64 (0)),I 0)]) (dL [.tmp 18,.tmp 19,.const (.int .i64 (0))] rfl rfl LX rfl (mj k (a0,()) a1 0 r2 c)) fun _ _ _ hn=>⟨(pi hn.1),hn.2.1,hn.2.2.1,trivial⟩) ?_;refine aq (nt ?_);refine cy ?_;refine dm ?_;refine da (dM rfl) ?_;refine da (aM 1 false rfl C6 rfl) ?_;refine da (an (t:=.val) rfl Lu rfl) ?_;refine ea 0 (ap rfl di (xG) rfl) ?_;refine dm ?_;refine df fo ?_;refine fr 1 ?_;have hl:ct k a0 a1=some r2:=h0.trans (show some r=some r2 from h.symm);refine bi rfl rfl (zg (kv:=lj a1) (wv _) rfl QJ zK (fun _ _ _ hh=>uX hh) gk ⟨a1,hg,rfl,hl⟩) ⟨rfl,rfl,rfl,trivial⟩ ?_;refine nt (sr (mq ?_));refine aq (nt (aA ?_));cases h;exact aE () [_] 1 ⟨rfl,trivial⟩ rfl
 ·
  obtain⟨p,hp,he,hl⟩:=hlR (by simpa using hb);obtain rfl:=wx hg hp he;replace h:some lnn=some r:=hl.symm.trans h0;refine sk (sr (mq ?_));refine aq (nt (aA ?_));cases h;exact aE () [_] 1 ⟨rfl,trivial⟩ rfl
def iM(k:Nat)(a0:a8)(a1:(List (List Int))):Option (Int×Int):=
 (bD k a0 a1).bind fun r2=>
 if¬(r2=0) then(some (0,r2)) else((dn k a1).bind fun r4=>
 (ct k a0 r4).bind fun r5=>
 some (r5,0))
theorem lp(k:Nat)(a0:a8)(a1:(List (List Int)))(r:Int×Int)(h:iM k a0 a1=some r):
 dC (iU Tryz.prog) 48 [.rep aB a0,.rep (.slice (.slice (.int .i64))) a1] [.inv 0 (dO)] (fun _:Unit=>(bq [I r.1,I r.2],[.inv 0 (dO)])):=by
 unfold iM at h
 replace h:=a9 h
 refine dC.of 18 Tryz.func48 rfl Tryz.ntmps48 rfl fun S w0=>?_
 refine sr ?_
 refine bx fun b1=>?_
 refine cq ?_
 refine cq ?_
 refine nt ?_
 refine ag ?_
 refine sr ?_
 refine lo fK ?_
 refine mq ?_
 obtain⟨r2,j,h⟩:=aa h
 have l:=cD k a0 a1 r2 j
 refine fr 1 ?_
 refine kb (ak [.tmp 7,.tmp 8] rfl rfl BK rfl l) ?_
 refine aq ?_
 refine nt ?_
 refine sr ?_
 refine mq ?_
 refine jb (ge rfl) ?_
 refine nt ?_
 refine cn h (fun h=>?_) (fun h=>?_)
 ·
  refine sr (mq ?_);refine cq ?_;refine aq (nt (rx ?_));cases h;exact aE () [_,_] 1 ⟨rfl,rfl,trivial⟩ rfl
 ·
  refine sk (sr (fr 1 ?_));refine lo fK ?_;refine aF rfl rfl rfl (ak [.tmp 13] rfl rfl Ip rfl (gj a0)) ⟨rfl,trivial⟩ fun z3=>?_;refine cu (ko (bN k a0) lC) ?_;refine mq ?_;obtain⟨r4,e,h⟩:=aa h;refine ja (ak [.tmp 15] rfl rfl BJ rfl (d4 k a1 r4 e)) ?_;obtain⟨r5,c,h⟩:=aa h;refine kb (dL [.tmp 14,.tmp 16] rfl rfl LV rfl (jI k a0 z3 r4 r5 c)) ?_;refine aq ?_;refine cq (nt (aA ?_));refine bv (SE.fin (Γ':=[(4,_),(5,_)]) [2,0,1] ⟨rfl,rfl,trivial⟩ rfl) ?_;cases h;exact aE () [_,_] 1 ⟨rfl,rfl,trivial⟩ rfl
set_option maxRecDepth 20000
set_option maxHeartbeats 4000000
@[reducible] def fk:Ty:=.agg (.pair (.int .i64) (.int .i64))
def PD(x:Int×Int):Value:=.agg #[.int .i64 x.1,.int .i64 x.2]
theorem KH{S:FS}{w:World}{x:Int×Int}:(A.rep fk x).holds S w (PD x):=⟨[_,_],⟨[_],[_],rfl,rfl,rfl⟩,rfl⟩
theorem Ii{S:FS}{w:World}{x:Int×Int}{v:Value}(h:(A.rep fk x).holds S w v):(A.eq (PD x)).holds S w v:=by
 obtain⟨cs,⟨c1,c2,rfl,h1,h2⟩,rfl⟩:=h;have h1:c1=_:=h1;have h2:c2=_:=h2;subst h1 h2;rfl
theorem gU:dS Tryz.prog 131 2 true:=⟨fun w=>by kernel_rfl,fun w=>by kernel_rfl⟩
theorem oc:dS Tryz.prog 28 1 false:=⟨fun w=>by kernel_rfl,fun w=>by kernel_rfl⟩
theorem Ce:dS Tryz.prog 23 1 false:=⟨fun w=>by kernel_rfl,fun w=>by kernel_rfl⟩
theorem tQ:dS Tryz.prog 3 1 false:=⟨fun w=>by kernel_rfl,fun w=>by kernel_rfl⟩
theorem FT:dS Tryz.prog 102 1 false:=⟨fun w=>by kernel_rfl,fun w=>by kernel_rfl⟩
theorem Nz:aU Tryz.prog 131 0 0:=aU.of (by kernel_rfl)
theorem Ny:aU Tryz.prog 131 1 1:=aU.of (by kernel_rfl)
theorem PC:aU Tryz.prog 128 0 0:=aU.of (by kernel_rfl)
theorem tX:aU Tryz.prog 128 1 1:=aU.of (by kernel_rfl)
theorem yb:ah Tryz.prog 136:=ah.of Tryz.func136 (by kernel_rfl) (by kernel_rfl)
def eV(x:Int×Int)(m:Int):Nat→Int×List Int→Option (List Int)
 |0,_=>none
 |n+1,q=>if q.1 < m then((aZ q.2 q.1).bind fun c=>if c=x.1 then(ck (q.1+1)).bind fun w=>eV x m n (w,q.2.set q.1.toNat x.2) else if c=x.2 then(ck (q.1+1)).bind fun w=>eV x m n (w,q.2.set q.1.toNat x.1) else(ck (q.1+1)).bind fun w=>eV x m n (w,q.2)) else some q.2
def gC(k:Nat)(x:Int×Int)(m:Int):Nat→Int×List (List Int)→Option (List (List Int))
 |0,_=>none
 |n+1,q=>if q.1 < m then((aZ q.2 q.1).bind fun l=>(eV x (l.length:Int) k (0,l)).bind fun l2=>(ck (q.1+1)).bind fun w=>gC k x m n (w,q.2.set q.1.toNat l2)) else some q.2
def kC(k:Nat)(x:Int×Int)(ls:List (List Int)):Option (List (List Int)):=gC k x (ls.length:Int) k (0,ls)
theorem mi(k:Nat)(x:Int×Int)(ls r:List (List Int))(y:Nat)(d0:au.den)(z:Value×(Nat→Value))(h:kC k x ls=some r):
 bZ Tryz.prog 136 [.eq (bP y),.rep fk x] ([.obj y 128 (.agg (.pair (.at au d0) (.eq z.1)))]++dK 23 z ls) (fun _:Unit=>(bq [],[.obj y 128 (.agg (.pair (.at au d0) (.eq z.1)))]++dK 23 z r)):=by
 unfold kC at h
 replace h:=a9 h
 refine bZ.of 45 Tryz.func136 rfl Tryz.ntmps136 rfl fun S w0=>?_
 refine sr ?_
 refine bx fun b3=>?_
 refine nt ?_
 refine sr ?_
 refine mq ?_
 refine ja (aV rfl) ?_
 refine fl tX ?_
 refine fr 1 ?_
 refine lo oc ?_
 refine cu (Dl (pre:=[.obj y 128 (.agg (.pair (.at au d0) (.eq z.1))),.obj b3 131 (.rep fk x)])) ?_
 refine ka (cZ rfl rfl k9) ?_
 rw [gQ]
 refine cu (E0 (pre:=[.obj y 128 (.agg (.pair (.at au d0) (.eq z.1))),.obj b3 131 (.rep fk x)])) ?_
 refine fg rfl ?_
 refine nt ?_
 refine aj ?_
 refine aG (Z:=Unit) (α:=Int×List (List Int)) (fun _ q=>[(3,.eq (bP b3)),(11,.eq z.1),(12,I (ls.length:Int)),(13,I q.1)]) (fun _ q=>[.obj y 128 (.agg (.pair (.at au d0) (.eq z.1))),.obj b3 131 (.rep fk x)]++dK 23 z q.2) (gC k x (ls.length:Int)) k () (0,ls) (fun _=>rfl) h (aQ [.obj y 128 (.agg (.pair (.at au d0) (.eq z.1))),.obj b3 131 (.rep fk x)] (dK 23 z ls) [0,1] ⟨rfl,rfl,rfl,rfl,trivial⟩ rfl) (fun n u q h=>?_)
 unfold gC at h
 refine sr ?_
 refine jb (bm rfl) ?_
 refine nt ?_
 refine ag ?_
 refine bL rfl (fun hb=>?_) (fun hb=>?_)
 ·
  replace h:=cp (me hb) h;refine sk (ag (aj ?_));obtain⟨l,el,h⟩:=aa h;refine eH (nu (pre:=[.obj y 128 (.agg (.pair (.at au d0) (.eq z.1))),.obj b3 131 (.rep fk x)]) (kB el).2) ?_;refine sr (fr 1 ?_);refine kb (be (t:=.val) rfl k9 Ce (ji el)) ?_;refine ka (fi (i:=q.1.toNat) (off:=0) rfl Ce (fun _=>rfl) rfl (cT (ji el)).2.2 rfl) ?_;refine aq (nt ?_);rw [Option.bind_assoc] at h;refine sr (mq ?_);refine fr 1 ?_;refine ka (cZ rfl rfl eA) ?_;refine fg rfl ?_;refine nt (aj (aG (Z:=Unit) (α:=Int×List Int) (fun _ q2=>[(3,.eq (bP b3)),(5,.eq (z.2 q.1.toNat)),(11,.eq z.1),(12,I (ls.length:Int)),(13,I q.1),(17,.eq (z.2 q.1.toNat)),(18,I (l.length:Int)),(19,I q2.1)]) (fun _ q2=>[.sl (z.2 q.1.toNat) 3 (.int .i64) (q2.2),.sl z.1 23 .val (eP z.2 0 q.2),.obj y 128 (.agg (.pair (.at au d0) (.eq z.1))),.obj b3 131 (.rep fk x)]++((kE z.2 0 q.2).eraseIdx q.1.toNat)) (eV x (l.length:Int)) k () (0,l) (fun _=>rfl) h (aQ [.sl (z.2 q.1.toNat) 3 (.int .i64) (l),.sl z.1 23 .val (eP z.2 0 q.2),.obj y 128 (.agg (.pair (.at au d0) (.eq z.1))),.obj b3 131 (.rep fk x)] ((kE z.2 0 q.2).eraseIdx q.1.toNat) [0,1,2,3] ⟨rfl,rfl,rfl,rfl,rfl,rfl,rfl,rfl,trivial⟩ rfl) (fun n2 u2 q2 h=>?_)));unfold eV at h;refine sr (jb (bm rfl) ?_);refine nt (ag (bL rfl (fun hb=>?_) (fun hb=>?_)))
  ·replace h:=cp (me hb) h;refine sk (ag (aj ?_));obtain⟨c,ec,h⟩:=aa h;refine sr (mq ?_);refine kb (be (t:=.int .i64) rfl eA tQ ec) ?_;refine ka (fi (i:=q2.1.toNat) (off:=0) rfl tQ (fun _=>rfl) rfl (cT ec).2.2 rfl) ?_;refine aq ?_;refine aq (nt (sr ?_));refine mq (nt (aj (sr ?_)));refine fl Nz ?_;refine fr 3 ?_;refine lo tQ ?_;refine jb (dr rfl) ?_;refine aq (nt ?_);refine ci h (fun h=>?_) (fun h=>?_)
   ·refine ab ?_;iterate 2 refine mq ?_
    refine fl Ny ?_;refine lo tQ ?_;refine fr 1 ?_;refine kb (be (t:=.int .i64) rfl eA tQ ec) ?_;refine bi rfl rfl (cX (i:=q2.1.toNat) rfl tQ rfl (ik ec) rfl .int rfl) ⟨rfl,rfl,trivial⟩ ?_;refine ao (aO (aO (tn (ab ?_))));obtain⟨w,ew,h⟩:=aa h;refine jb (bb rfl ew) ?_;refine mq (nl ?_);exact fX ((),(w,q2.2.set q2.1.toNat x.2)) h (aQ [.sl (z.2 q.1.toNat) 3 (.int .i64) (q2.2.set q2.1.toNat x.2),.obj b3 131 (.rep fk x),.sl z.1 23 .val (eP z.2 0 q.2),.obj y 128 (.agg (.pair (.at au d0) (.eq z.1)))] ((kE z.2 0 q.2).eraseIdx q.1.toNat) [0,2,3,1] ⟨rfl,rfl,rfl,rfl,rfl,rfl,rfl,rfl,trivial⟩ rfl)
   ·refine sr (fl Ny ?_);refine lo tQ ?_;refine jb (dr rfl) ?_;refine aq (nt ?_);refine ci h (fun h=>?_) (fun h=>?_)
    ·refine ab ?_;iterate 2 refine mq ?_
     refine fl Nz ?_;refine lo tQ ?_;refine fr 1 ?_;refine kb (be (t:=.int .i64) rfl eA tQ ec) ?_;refine bi rfl rfl (cX (i:=q2.1.toNat) rfl tQ rfl (ik ec) rfl .int rfl) ⟨rfl,rfl,trivial⟩ ?_;refine ao (aO (aO (tn (ab ?_))));obtain⟨w,ew,h⟩:=aa h;refine jb (bb rfl ew) ?_;refine mq (nl ?_);exact fX ((),(w,q2.2.set q2.1.toNat x.1)) h (aQ [.sl (z.2 q.1.toNat) 3 (.int .i64) (q2.2.set q2.1.toNat x.1),.obj b3 131 (.rep fk x),.sl z.1 23 .val (eP z.2 0 q.2),.obj y 128 (.agg (.pair (.at au d0) (.eq z.1)))] ((kE z.2 0 q.2).eraseIdx q.1.toNat) [0,2,3,1] ⟨rfl,rfl,rfl,rfl,rfl,rfl,rfl,rfl,trivial⟩ rfl)
    ·refine aS (aO (aO (tn (ab ?_))));obtain⟨w,ew,h⟩:=aa h;refine jb (bb rfl ew) ?_;refine mq (nl ?_);exact fX ((),(w,q2.2)) h (aQ [.obj b3 131 (.rep fk x),.sl (z.2 q.1.toNat) 3 (.int .i64) (q2.2),.sl z.1 23 .val (eP z.2 0 q.2),.obj y 128 (.agg (.pair (.at au d0) (.eq z.1)))] ((kE z.2 0 q.2).eraseIdx q.1.toNat) [1,2,3,0] ⟨rfl,rfl,rfl,rfl,rfl,rfl,rfl,rfl,trivial⟩ rfl)
  replace h:=bH (lY hb) h;refine dh (aI (aI (bO (aO (tn (eH (mB (pre:=[.obj y 128 (.agg (.pair (.at au d0) (.eq z.1))),.obj b3 131 (.rep fk x)]) (l':=q2.2) (kB el).2) ?_))))));refine ab ?_;obtain⟨w,ew,h⟩:=aa (X:=ck (q.1+1)) (f:=fun w=>gC k x (ls.length:Int) n (w,q.2.set q.1.toNat q2.2)) (K:=some) (r:=r) (by simpa using h);refine jb (bb rfl ew) ?_;refine mq (nl ?_);exact fX ((),(w,q.2.set q.1.toNat q2.2)) h (aQ [.obj y 128 (.agg (.pair (.at au d0) (.eq z.1))),.obj b3 131 (.rep fk x)] (dK 23 z (q.2.set q.1.toNat q2.2)) [0,1] ⟨rfl,rfl,rfl,rfl,trivial⟩ rfl)
 replace h:=bH (lY hb) h
 refine dh ?_
 refine aI ?_
 refine aI ?_
 refine bO ?_
 cases h
 refine jg ?_
 refine bv (aQ (Γ':=[]) (pre':=[.obj y 128 (.agg (.pair (.at au d0) (.eq z.1)))]) [.obj y 128 (.agg (.pair (.at au d0) (.eq z.1))),.obj b3 131 (.rep fk x)] (dK 23 z q.2) [0] trivial rfl) ?_
 exact iP () [] trivial rfl
@[reducible] def Js:Ty:=.agg (.pair (.ptr au) (.slice (.slice (.int .i64))))
theorem MD{S:FS}{w:World}{y:Nat}{d0:au.den}{z:Value×(Nat→Value)}{ls:List (List Int)}(h:∀d∈[D.obj y 128 (.agg (.pair (.at au d0) (.eq z.1)))]++dK 23 z ls,d.holds S w∧∀b,d.foot=some b→S b):(A.at Js (d0,ls)).holds S w (bP y):=by
 obtain⟨⟨cs,h1,c1,c2,rfl,g1,rfl,g2⟩,h2⟩:=h _ (List.mem_cons_self ..);have h3:=Hg (fun d hd=>h d (List.mem_cons_of_mem _ hd));refine⟨y,0,_,128,(0,0),rfl,h2 y rfl,h1,c1,[z.1],?_,g1,?_⟩
 ·have l1:=aK (.ptr au) g1;simp only [Ty.cells] at l1;match c1,l1 with
  |[u],_=>rfl
 ·obtain⟨cs,h4,h5⟩:=h3;have l1:=aK (.slice (.slice (.int .i64))) h4;simp only [Ty.cells] at l1;match cs,l1 with
  |[u],_=>rw [h5];exact h4
theorem yL{S:FS}{w:World}{a:Act}{Γ:Ga}{y:Nat}{d0:au.den}{z:Value×(Nat→Value)}{ls:List (List Int)}(h:∀d∈[D.obj y 128 (.agg (.pair (.at au d0) (.eq z.1)))]++dK 23 z ls,d.holds S w∧∀b,d.foot=some b→S b)
 (hk:∀s r,lk Γ s=some r→r.holds S w (a.tmps.getD s undef)) (h0:lk Γ 0=some (.eq (bP y))):∀s r,lk [(0,A.at Js (d0,ls))] s=some r→r.holds S w (a.tmps.getD s undef):=fun s r hl=>by
 simp only [lk] at hl
 split at hl
 ·
  rename_i e
  cases hl
  subst e
  have e1:a.tmps.getD 0 undef=bP y:=hk 0 _ h0
  rw [e1]
  exact MD h
 ·
  cases hl
theorem LP{n:Nat}{r0:A}(h:r0.flat=true):∀s r,lk [(n,r0)] s=some r→r.flat=true:=fun s r hl=>by
 simp only [lk] at hl
 split at hl
 ·
  cases hl;exact h
 ·
  cases hl
theorem NC{d0:D}(h:d0.flat=true):∀d∈[d0],d.flat=true:=fun d hd=>by
 simp only [List.mem_cons,List.not_mem_nil,or_false] at hd
 subst hd;exact h
theorem KG{d0 d1:D}(h:d0.flat=true)(h1:d1.flat=true):∀d∈[d0,d1],d.flat=true:=fun d hd=>by
 simp only [List.mem_cons,List.not_mem_nil,or_false] at hd
 rcases hd with rfl |rfl <;> assumption
theorem yM{y:Nat}{x:Int×Int}(S:FS)(w:World):gf S w [.eq (bP y),.rep fk x] [bP y,PD x]:=⟨_,_,rfl,rfl,_,_,rfl,KH,rfl⟩
theorem Nw:aU Tryz.prog 173 0 0:=aU.of (by kernel_rfl)
theorem FR:dS Tryz.prog 25 3 true:=⟨fun w=>by kernel_rfl,fun w=>by kernel_rfl⟩
theorem PI:ah Tryz.prog 94:=ah.of Tryz.func94 (by kernel_rfl) (by kernel_rfl)
theorem PK:ah Tryz.prog 86:=ah.of Tryz.func86 (by kernel_rfl) (by kernel_rfl)
theorem NG:ah Tryz.prog 111:=ah.of Tryz.func111 (by kernel_rfl) (by kernel_rfl)
def i8(k:Nat)(t:a8)(x:Int×Int)(ls:List (List Int)):Option (Bool×List (List Int)):=
 (kC k x ls).bind fun l1=>(lx k t l1).bind fun e=>if EH e=true then(kC k x l1).bind fun l2=>some (!uZ e,l2) else none
theorem su(k:Nat)(t:a8)(x:Int×Int)(ls:List (List Int))(r:Bool×List (List Int))(y m:Nat)(z:Value×(Nat→Value))(h:i8 k t x ls=some r):
 bZ Tryz.prog 98 [.eq (bP y),.rep fk x] ([.obj y 128 (.agg (.pair (.at au (t,.map (some m))) (.eq z.1)))]++dK 23 z ls) (fun _:Unit=>(bq [.eq (.bool r.1)],[.obj y 128 (.agg (.pair (.at au (t,.map (some m))) (.eq z.1)))]++dK 23 z r.2)):=by
 unfold i8 at h
 replace h:=a9 h
 obtain⟨l1,e1,h⟩:=aa h
 obtain⟨e,e2,h⟩:=aa h
 have he:EH e=true:=by
  apply Classical.byContradiction;intro hn;rw [if_neg hn] at h;cases h
 replace h:=cp he h
 obtain⟨l2,e3,h⟩:=aa h
 cases h
 have cv:=qZ k t l1 e e2
 refine Ln 23 Tryz.func98 rfl Tryz.ntmps98 rfl fun S w0=>?_
 refine sr ?_
 refine bx fun b3=>?_
 refine cq ?_
 refine nt ?_
 refine sr ?_
 refine mq ?_
 refine ka (ap rfl gU (yz) rfl) ?_
 refine cu (ff (Δ':=([.obj y 128 (.agg (.pair (.at au (t,.map (some m))) (.eq z.1)))]++dK 23 z ls)++[.obj b3 131 (.rep fk x)]) (List.perm_append_comm (l₁:=([.obj b3 131 (.rep fk x)]:List D)))) ?_
 refine bJ (Δ:=_++_) (F:=[_]) (fun _ _ _=>av rfl _) rfl rfl (ak [.tmp 5,.tmp 6] rfl rfl yb rfl (mi k x ls l1 y (t,.map (some m)) z e1)) ⟨rfl,rfl,trivial⟩ fun _=>?_
 refine nt ?_
 refine sr ?_
 refine mq ?_
 refine cu (ff (Δ':=[.obj b3 131 (.rep fk x)]++([.obj y 128 (.agg (.pair (.at au (t,.map (some m))) (.eq z.1)))]++dK 23 z l1)) List.perm_append_comm) ?_
 refine ka (ap rfl gU (yz) rfl) ?_
 refine cu (sc 9 rfl fun _ _ _ h=>Ii h) ?_
 refine wY (vs:=[bP y,PD x]) [.tmp 8,.tmp 9] rfl rfl rfl rfl rfl ⟨rfl,rfl,trivial⟩ ?_
 refine ao ?_
 refine ae ?_
 refine bv (ff (Δ':=([.obj y 128 (.agg (.pair (.at au (t,.map (some m))) (.eq z.1)))]++dK 23 z l1)++[.obj b3 131 (.rep fk x)]) (List.perm_append_comm (l₁:=([.obj b3 131 (.rep fk x)]:List D)))) ?_
 show JC _ _ _ _ _
 refine ag ?_
 refine Dt (L:=_++_) (Δ:=[_]) (Γ1:=[(0,.at Js ((t,.map (some m)),l1))]) (Z:=Unit) (fun _=>[(4,.eq (.bool (!uZ e)))]) (fun _=>[.obj b3 131 (.rep fk x)]) (fun S w a hl hk=>yL hl hk rfl) (fun _=>⟨LP rfl,NC rfl⟩) (fun S w=>?_) (fun _=>?_)
 ·
  refine cy ?_;refine dm ?_;refine da (dM rfl) ?_;refine da (aM 1 false rfl PC rfl) ?_;refine da (an (t:=.ptr au) rfl FT rfl) ?_;refine da (dM rfl) ?_;refine da (aM 3 true rfl Nw rfl) ?_;refine da (an (t:=aB) rfl FR rfl) ?_;refine dm ?_;refine da (dM rfl) ?_;refine da (aM 1 false rfl tX rfl) ?_;refine da (an (t:=.slice (.slice (.int .i64))) rfl oc rfl) ?_;refine tw (by kernel_rfl) qH ?_;refine jb (ak [.tmp 16,.tmp 20] rfl rfl PI rfl cv) ?_;refine jb (rD rfl RX he) ?_;refine aq (ao ?_);exact fun a w st=>⟨rfl,(),(SE.fin (Γ':=[(4,.eq (.bool (!uZ e)))]) [0] ⟨rfl,trivial⟩ rfl) a w st⟩
 ·
  refine tn (aA (Dq (Δ1:=[.obj y 128 (.agg (.pair (.at au (t,.map (some m))) (.eq z.1)))]++dK 23 z l1) (F:=[.obj b3 131 (.rep fk x)]) yb (mi k x l1 l2 y (t,.map (some m)) z e3 _) yM (fun _=>?_)));refine bv (ff (Δ':=[.obj b3 131 (.rep fk x)]++([.obj y 128 (.agg (.pair (.at au (t,.map (some m))) (.eq z.1)))]++dK 23 z l2)) List.perm_append_comm) ?_;refine bv (aQ (pre':=[.obj y 128 (.agg (.pair (.at au (t,.map (some m))) (.eq z.1)))]) (Γ':=[(4,.eq (.bool (!uZ e)))]) [.obj b3 131 (.rep fk x),.obj y 128 (.agg (.pair (.at au (t,.map (some m))) (.eq z.1)))] (dK 23 z l2) [1] ⟨rfl,trivial⟩ rfl) ?_;exact iP () [_] ⟨rfl,trivial⟩ rfl
def fZ(k:Nat)(t:a8)(x:Int×Int)(ls:List (List Int)):Option (Int×List (List Int)):=
 (kC k x ls).bind fun l1=>(dn k l1).bind fun ld=>(ct k t ld).bind fun n=>(kC k x l1).bind fun l2=>some (n,l2)
theorem sx(k:Nat)(t:a8)(x:Int×Int)(ls:List (List Int))(r:Int×List (List Int))(y m:Nat)(z:Value×(Nat→Value))(h:fZ k t x ls=some r):
 dC (iU Tryz.prog) 100 [.eq (bP y),.rep fk x] ([.inv m (bN k t)]++([.obj y 128 (.agg (.pair (.at au (t,.map (some m))) (.eq z.1)))]++dK 23 z ls)) (fun _:Unit=>(bq [I r.1],[.inv m (bN k t)]++([.obj y 128 (.agg (.pair (.at au (t,.map (some m))) (.eq z.1)))]++dK 23 z r.2))):=by
 unfold fZ at h
 replace h:=a9 h
 obtain⟨l1,e1,h⟩:=aa h
 obtain⟨ld,e2,h⟩:=aa h
 obtain⟨n,e2',h⟩:=aa h
 obtain⟨l2,e3,h⟩:=aa h
 cases h
 have cv:=d4 k l1 ld e2
 have cl:=jI k t m ld n e2'
 refine Au 20 Tryz.func100 rfl Tryz.ntmps100 rfl fun S w0=>?_
 refine sr ?_
 refine bx fun b3=>?_
 refine cq ?_
 refine nt ?_
 refine sr ?_
 refine mq ?_
 refine ka (ap rfl gU (yz) rfl) ?_
 refine cu (ff (Δ':=([.obj y 128 (.agg (.pair (.at au (t,.map (some m))) (.eq z.1)))]++dK 23 z ls)++[.obj b3 131 (.rep fk x),.inv m (bN k t)]) (List.perm_append_comm (l₁:=([.obj b3 131 (.rep fk x),.inv m (bN k t)]:List D)))) ?_
 refine bJ (Δ:=_++_) (F:=[_,_]) (fun _ _ _=>av rfl _) rfl rfl (ak [.tmp 5,.tmp 6] rfl rfl yb rfl (mi k x ls l1 y (t,.map (some m)) z e1)) ⟨rfl,rfl,trivial⟩ fun _=>?_
 refine nt ?_
 refine sr ?_
 refine mq ?_
 refine cu (ff (Δ':=[.obj b3 131 (.rep fk x),.inv m (bN k t)]++([.obj y 128 (.agg (.pair (.at au (t,.map (some m))) (.eq z.1)))]++dK 23 z l1)) List.perm_append_comm) ?_
 refine ka (ap rfl gU (yz) rfl) ?_
 refine cu (sc 9 rfl fun _ _ _ h=>Ii h) ?_
 refine wY (vs:=[bP y,PD x]) [.tmp 8,.tmp 9] rfl rfl rfl rfl rfl ⟨rfl,rfl,trivial⟩ ?_
 refine ao ?_
 refine ae ?_
 refine bv (ff (Δ':=([.obj y 128 (.agg (.pair (.at au (t,.map (some m))) (.eq z.1)))]++dK 23 z l1)++[.obj b3 131 (.rep fk x),.inv m (bN k t)]) (List.perm_append_comm (l₁:=([.obj b3 131 (.rep fk x),.inv m (bN k t)]:List D)))) ?_
 show JC _ _ _ _ _
 refine ag ?_
 refine Dt (L:=_++_) (Δ:=[_,_]) (Γ1:=[(0,.at Js ((t,.map (some m)),l1))]) (Z:=Unit) (fun _=>[(4,I n)]) (fun _=>[.obj b3 131 (.rep fk x),.inv m (bN k t)]) (fun S w a hl hk=>yL hl hk rfl) (fun _=>⟨LP rfl,KG rfl rfl⟩) (fun S w=>?_) (fun _=>?_)
 ·
  refine cy ?_;refine dm ?_;refine da (dM rfl) ?_;refine da (aM 1 false rfl PC rfl) ?_;refine da (an (t:=.ptr au) rfl FT rfl) ?_;refine dm ?_;refine da (dM rfl) ?_;refine da (aM 1 false rfl tX rfl) ?_;refine da (an (t:=.slice (.slice (.int .i64))) rfl oc rfl) ?_;refine da (ak [.tmp 17] rfl rfl PK rfl cv) ?_;refine tw (by kernel_rfl) qH ?_;refine fr 1 ?_;refine kb (dL [.tmp 13,.tmp 18] rfl rfl NG rfl cl) ?_;refine aq (ao ?_);exact fun a w st=>⟨rfl,(),(SE.fin (Γ':=[(4,I n)]) [1,0] ⟨rfl,trivial⟩ rfl) a w st⟩
 ·
  refine tn (aA (Dq (Δ1:=[.obj y 128 (.agg (.pair (.at au (t,.map (some m))) (.eq z.1)))]++dK 23 z l1) (F:=[.obj b3 131 (.rep fk x),.inv m (bN k t)]) yb (mi k x l1 l2 y (t,.map (some m)) z e3 _) yM (fun _=>?_)));refine bv (ff (Δ':=[.obj b3 131 (.rep fk x),.inv m (bN k t)]++([.obj y 128 (.agg (.pair (.at au (t,.map (some m))) (.eq z.1)))]++dK 23 z l2)) List.perm_append_comm) ?_;refine bv (aQ (pre':=[.inv m (bN k t),.obj y 128 (.agg (.pair (.at au (t,.map (some m))) (.eq z.1)))]) (Γ':=[(4,I n)]) [.obj b3 131 (.rep fk x),.inv m (bN k t),.obj y 128 (.agg (.pair (.at au (t,.map (some m))) (.eq z.1)))] (dK 23 z l2) [1,2] ⟨rfl,trivial⟩ rfl) ?_;exact iP () [_] ⟨rfl,trivial⟩ rfl
theorem sj:∀w,(zeroValue 131).run Tryz.prog w= .ok (.agg #[.int .i64 0,.int .i64 0]) w:=fun w=>by kernel_rfl
theorem vp:∀S w,(A.cells S w (.rep fk (0,0)) (Value.cells (.agg #[.int .i64 0,.int .i64 0])).toList):=fun _ _=>⟨[_],[_],rfl,rfl,rfl⟩
theorem NH:ah Tryz.prog 100:=ah.of Tryz.func100 (by kernel_rfl) (by kernel_rfl)
abbrev LZ:=Int×(Int×Int)×Int×Bool×List (List Int)
def c9(k:Nat)(t:a8)(xs:List (Int×Int)):Nat→LZ→Option ((Int×Int)×Int×Bool×List (List Int))
 |0,_=>none
 |n+1,q=>if q.1 < (xs.length:Int) then((aZ xs q.1).bind fun x=>(fZ k t x q.2.2.2.2).bind fun r=>(ck (q.1+1)).bind fun w=>c9 k t xs n (if(!q.2.2.2.1 || decide (r.1 < q.2.2.1))=true then(w,x,r.1,true,r.2) else(w,q.2.1,q.2.2.1,q.2.2.2.1,r.2))) else some q.2
def jt(k:Nat)(t:a8)(xs:List (Int×Int))(ls:List (List Int)):Option ((Int×Int)×Int×Bool×List (List Int)):=c9 k t xs k (0,(0,0),0,false,ls)
theorem vG(k:Nat)(t:a8)(xs:List (Int×Int))(ls:List (List Int))(r:(Int×Int)×Int×Bool×List (List Int))(y m:Nat)(z:Value×(Nat→Value))(h:jt k t xs ls=some r):
 dC (iU Tryz.prog) 99 [.eq (.func (.func 100) #[bP y] #[]),Rs fk xs] ([.inv m (bN k t),.obj y 128 (.agg (.pair (.at au (t,.map (some m))) (.eq z.1)))]++dK 23 z ls) (fun _:Unit=>(bq [.rep fk r.1,I r.2.1,.eq (.bool r.2.2.1)],[.inv m (bN k t),.obj y 128 (.agg (.pair (.at au (t,.map (some m))) (.eq z.1)))]++dK 23 z r.2.2.2)):=by
 unfold jt at h
 replace h:=a9 h
 refine dC.of 35 Tryz.func99 rfl Tryz.ntmps99 rfl fun S w0=>?_
 refine sr ?_
 refine aF rfl rfl rfl (bR rfl sj vp) trivial fun b4=>?_
 refine cq ?_
 refine cq ?_
 refine nt ?_
 refine sr ?_
 refine aF rfl rfl rfl (bR rfl sj vp) trivial fun b7=>?_
 refine nt ?_
 refine sr ?_
 refine cq ?_
 refine cq ?_
 refine nt ?_
 refine ag ?_
 refine sr ?_
 refine mq ?_
 refine ol Oa ?_
 refine fg rfl ?_
 refine nt ?_
 refine aj ?_
 refine aG (Z:=Unit) (α:=LZ) (fun _ q=>[(0,.eq (.func (.func 100) #[bP y] #[])),(4,.eq (bP b4)),(7,.eq (bP b7)),(8,I q.2.2.1),(9,.eq (.bool q.2.2.2.1)),(13,Rs fk xs),(14,I (xs.length:Int)),(15,I q.1)]) (fun _ q=>[.obj b7 131 (.rep fk q.2.1),.obj b4 131 (.rep fk (0,0)),.inv m (bN k t),.obj y 128 (.agg (.pair (.at au (t,.map (some m))) (.eq z.1)))]++dK 23 z q.2.2.2.2) (c9 k t xs) k () (0,(0,0),0,false,ls) (fun _=>rfl) h (aQ [.obj b7 131 (.rep fk (0,0)),.obj b4 131 (.rep fk (0,0)),.inv m (bN k t),.obj y 128 (.agg (.pair (.at au (t,.map (some m))) (.eq z.1)))] (dK 23 z ls) [0,1,2,3] ⟨rfl,rfl,rfl,rfl,rfl,rfl,rfl,rfl,trivial⟩ rfl) (fun n u q h=>?_)
 unfold c9 at h
 obtain⟨q1,q2,q3,q4,q5⟩:=q
 refine sr ?_
 refine jb (bm rfl) ?_
 refine nt ?_
 refine ag ?_
 refine bL rfl (fun hb=>?_) (fun hb=>?_)
 ·
  replace h:=cp (me hb) h;obtain⟨x,ex,h⟩:=aa h;obtain⟨r1,e,h⟩:=aa h;obtain⟨w,ew,h⟩:=aa h;have cl:=sx k t x q5 r1 y m z e;refine sk (ag (aj (sr (jb (aH (t:=fk) rfl Oa gU ex) ?_))));refine ja (an (t:=fk) rfl gU rfl) ?_;refine aF rfl rfl rfl (bR rfl sj vp) trivial fun c=>?_;refine bi rfl rfl (bh rfl gU rfl rfl rfl) ⟨rfl,rfl,trivial⟩ ?_;refine nt (sr (mq ?_));refine ka (ap rfl gU (yz) rfl) ?_;refine cu (ff (Δ':=([.inv m (bN k t)]++([.obj y 128 (.agg (.pair (.at au (t,.map (some m))) (.eq z.1)))]++dK 23 z q5))++[.obj c 131 (.rep fk x),.obj b7 131 (.rep fk q2),.obj b4 131 (.rep fk (0,0))]) (List.perm_append_comm (l₁:=([.obj c 131 (.rep fk x),.obj b7 131 (.rep fk q2),.obj b4 131 (.rep fk (0,0))]:List D)))) ?_;refine bJ (Δ:=_++_) (F:=[_,_,_]) (fun _ _ _=>av rfl _) rfl rfl (oO (fs:=[bP y]) (cs:=[]) (ags:=[.rep fk x]) [.tmp 20] rfl rfl NH rfl cl) ⟨rfl,rfl,trivial⟩ fun _=>?_;refine aq ?_;refine cu (ff (Δ':=[.obj c 131 (.rep fk x),.obj b7 131 (.rep fk q2),.obj b4 131 (.rep fk (0,0))]++([.inv m (bN k t)]++([.obj y 128 (.agg (.pair (.at au (t,.map (some m))) (.eq z.1)))]++dK 23 z r1.2))) List.perm_append_comm) ?_;refine nt ?_;cases q4 with
  |false=>
   refine sr (mq ?_);refine ja (d5 rfl) ?_;refine mq ?_;iterate 3 refine gn ?_
   refine pt (nt ?_);refine bL rfl (fun hb=>?_) (fun hb=>(by cases hb));refine ab (ka (ap rfl gU (yz) rfl) ?_);refine mq ?_;refine fr 1 ?_;refine bi rfl rfl (bh rfl gU rfl rfl rfl) ⟨rfl,rfl,trivial⟩ ?_;refine aq ?_;refine cq (ao (aO (tn (ab ?_))));refine jb (bb rfl ew) ?_;refine mq (nl ?_);exact fX ((),(w,x,r1.1,true,r1.2)) h (aQ [.obj b7 131 (.rep fk x),.obj c 131 (.rep fk x),.obj b4 131 (.rep fk (0,0)),.inv m (bN k t),.obj y 128 (.agg (.pair (.at au (t,.map (some m))) (.eq z.1)))] (dK 23 z r1.2) [0,2,3,4] ⟨rfl,rfl,rfl,rfl,rfl,rfl,rfl,rfl,trivial⟩ rfl)
  |true=>
   refine sr (mq ?_);refine ja (d5 rfl) ?_;refine mq ?_;refine gm ?_;refine gm ?_;refine gb (bm rfl) ?_;refine pf (nt ?_);refine bL rfl (fun hb=>?_) (fun hb=>?_)
   ·replace h:(c9 k t xs n (w,x,r1.1,true,r1.2)).bind some=some r:=by
     have hd:r1.1 < q3:=of_decide_eq_true hb;simpa [hd] using h
    refine ab (ka (ap rfl gU (yz) rfl) ?_);refine mq ?_;refine fr 1 ?_;refine bi rfl rfl (bh rfl gU rfl rfl rfl) ⟨rfl,rfl,trivial⟩ ?_;refine aq ?_;refine cq (ao (aO (tn (ab ?_))));refine jb (bb rfl ew) ?_;refine mq (nl ?_);exact fX ((),(w,x,r1.1,true,r1.2)) h (aQ [.obj b7 131 (.rep fk x),.obj c 131 (.rep fk x),.obj b4 131 (.rep fk (0,0)),.inv m (bN k t),.obj y 128 (.agg (.pair (.at au (t,.map (some m))) (.eq z.1)))] (dK 23 z r1.2) [0,2,3,4] ⟨rfl,rfl,rfl,rfl,rfl,rfl,rfl,rfl,trivial⟩ rfl)
   ·replace h:(c9 k t xs n (w,q2,q3,true,r1.2)).bind some=some r:=by
     have hd:¬r1.1 < q3:=of_decide_eq_false hb;simpa [hd] using h
    refine aS (aO (tn (ab (jb (bb rfl ew) ?_))));refine mq (nl ?_);exact fX ((),(w,q2,q3,true,r1.2)) h (aQ [.obj c 131 (.rep fk x),.obj b7 131 (.rep fk q2),.obj b4 131 (.rep fk (0,0)),.inv m (bN k t),.obj y 128 (.agg (.pair (.at au (t,.map (some m))) (.eq z.1)))] (dK 23 z r1.2) [1,2,3,4] ⟨rfl,rfl,rfl,rfl,rfl,rfl,rfl,rfl,trivial⟩ rfl)
 replace h:=bH (lY hb) h
 refine dh ?_
 refine aI ?_
 refine aI ?_
 refine bO ?_
 refine tn ?_
 cases h
 refine sr ?_
 refine ka (ap rfl gU (yz) rfl) ?_
 iterate 2 refine mq ?_
 refine fr 1 ?_
 refine bi rfl rfl (bh rfl gU rfl rfl rfl) ⟨rfl,rfl,trivial⟩ ?_
 refine aq ?_
 refine aq ?_
 refine nt ?_
 refine aA ?_
 refine bv (ff (Δ':=([.inv m (bN k t),.obj y 128 (.agg (.pair (.at au (t,.map (some m))) (.eq z.1)))]++dK 23 z q5)++[.obj b4 131 (.rep fk q2),.obj b7 131 (.rep fk q2)]) (List.perm_append_comm (l₁:=([.obj b4 131 (.rep fk q2),.obj b7 131 (.rep fk q2)]:List D)))) ?_
 exact aE () [_,_,_] ([.inv m (bN k t),.obj y 128 (.agg (.pair (.at au (t,.map (some m))) (.eq z.1)))]++dK 23 z q5:List D).length ⟨⟨b4,131,.rep fk q2,2,true,rfl,List.mem_append.2 (.inr (List.mem_cons_self ..)),gU,yz,rfl⟩,rfl,rfl,trivial⟩ (by rw [List.take_left])
theorem qk:ah Tryz.prog 97:=ah.of Tryz.func97 (by kernel_rfl) (by kernel_rfl)
theorem PM:ah Tryz.prog 48:=ah.of Tryz.func48 (by kernel_rfl) (by kernel_rfl)
theorem PL:ah Tryz.prog 84:=ah.of Tryz.func84 (by kernel_rfl) (by kernel_rfl)
theorem PH:ah Tryz.prog 98:=ah.of Tryz.func98 (by kernel_rfl) (by kernel_rfl)
theorem PG:ah Tryz.prog 99:=ah.of Tryz.func99 (by kernel_rfl) (by kernel_rfl)
theorem Ls:dS Tryz.prog 22 1 false:=⟨fun w=>by kernel_rfl,fun w=>by kernel_rfl⟩
theorem LO:aU Tryz.prog 25 1 1:=aU.of (by kernel_rfl)
theorem od:mL Tryz.prog 28 23 1 24:=.of (z:=(.slice none 0 0)) k9 (by kernel_rfl) rfl rfl rfl
theorem FW:mL Tryz.prog 129 131 2 16:=.of (z:=(.agg #[.int .i64 0,.int .i64 0])) Oa (by kernel_rfl) rfl rfl rfl
theorem MO:yw Tryz.prog 128 #[(0,1),(1,1)]:=⟨_,RU,fun _=>by kernel_rfl⟩
theorem Mc:∀w,(zeroValue 128).run Tryz.prog w= .ok (.agg #[.pointer none,.slice none 0 0]) w:=fun w=>by kernel_rfl
theorem N5:∀S w,(A.cells S w (.pair (.eq (.pointer none)) (.eq (.slice none 0 0))) (Value.cells (.agg #[.pointer none,.slice none 0 0])).toList):=fun _ _=>⟨[_],_,rfl,⟨rfl,rfl⟩,rfl,rfl⟩
theorem MN:yw Tryz.prog 131 #[(0,1),(1,1)]:=⟨_,RS,fun _=>by kernel_rfl⟩
theorem K0:∀S w,(A.cells S w (.pair (I 0) (I 0)) (Value.cells (.agg #[.int .i64 0,.int .i64 0])).toList):=fun _ _=>⟨[_],_,rfl,⟨rfl,rfl⟩,rfl,rfl⟩
def fA:List Bool→Ga→Ga
 |true::l,e::g=>e::fA l g
 |false::l,_::g=>fA l g
 |_,_=>[]
def mm(y:Nat)(z1:Value)(l:List Int)(v v2:Value):Ga:=[(39,.eq (bP y)),(40,.eq (bP y)),(41,.eq (bP y)),(42,.eq (.pointer (some ⟨y,0+1,none⟩))),(43,.eq z1),(44,Ri l),(45,.eq v),(46,.rep (.slice .val) [v]),(47,.eq v2),(48,.eq (bP y)),(49,.eq (.pointer (some ⟨y,0+1,none⟩)))]
def lH(b2 y:Nat)(n i:Int)(l:List Int)(a1:List (List Int)):Ga:=[(2,.eq (bP b2)),(8,I n),(10,.eq (bP y)),(12,Ri l),(33,.rep (.slice (.slice (.int .i64))) a1),(34,I (a1.length:Int)),(35,I i)]
theorem QG{i j:Int}:AE (.agg (.pair (I i) (I j))) (.rep fk (i,j)):=fun S w cs h=>by
 obtain⟨c1,c2,e,h1,h2⟩:=h
 exact⟨c1,c2,e,h1.1,h2.1⟩
def gK(k:Nat)(a1:List (List Int)):Nat→Int×List (List Int)→Option (List (List Int))
 |0,_=>none
 |n+1,q=>if q.1 < (a1.length:Int) then((aZ a1 q.1).bind fun l=>(hQ k l).bind fun l2=>if bT (q.2.length+1) then(ck (q.1+1)).bind fun w=>gK k a1 n (w,q.2++[l2]) else none) else some q.2
def gJ(k:Nat)(t:a8)(i:Int):Nat→Int×List (Int×Int)×List (List Int)→Option (List (Int×Int)×List (List Int))
 |0,_=>none
 |n+1,q=>if q.1 < (t.2.1.length:Int) then((i8 k t (i,q.1) q.2.2).bind fun r=>if r.1=true then(if bT (q.2.1.length+1) then(ck (q.1+1)).bind fun w=>gJ k t i n (w,q.2.1++[(i,q.1)],r.2) else none) else(ck (q.1+1)).bind fun w=>gJ k t i n (w,q.2.1,r.2)) else some q.2
def eW(k:Nat)(t:a8):Nat→Int×List (Int×Int)×List (List Int)→Option (List (Int×Int)×List (List Int))
 |0,_=>none
 |n+1,q=>if q.1 < (t.2.1.length:Int) then((ck (q.1+1)).bind fun w=>(gJ k t q.1 k (w,q.2)).bind fun p=>eW k t n (w,p)) else some q.2
def mW(k:Nat)(a0:a8)(a1:(List (List Int))):Option (Int×Int×Int×Int):=
 (iM k a0 a1).bind fun L=>if¬(L.2=0) then some (0,0,0,L.2) else
 (gK k a1 k (0,[])).bind fun ls=>(eW k a0 k (0,[],ls)).bind fun p=>(jt k a0 p.1 p.2).bind fun b=>
 if(!b.2.2.1 || decide (L.1≤b.2.1))=true then some (0,0,0,11) else some (b.1.1,b.1.2,b.2.1,0)
theorem tB(k:Nat)(a0:a8)(a1:(List (List Int)))(r:Int×Int×Int×Int)(h:mW k a0 a1=some r):
 dC (iU Tryz.prog) 40 [.rep aB a0,.rep (.slice (.slice (.int .i64))) a1] [.inv 0 dO] (fun _:Unit=>(bq [.eq (.int .i64 r.1),.eq (.int .i64 r.2.1),.eq (.int .i64 r.2.2.1),.eq (.int .i64 r.2.2.2)],[.inv 0 dO])):=by
 unfold mW at h
 replace h:=a9 h
 refine dC.of 97 Tryz.func40 rfl Tryz.ntmps40 rfl fun S w0=>?_
 refine ag ?_
 refine ab ?_
 refine aF rfl rfl rfl (oe rfl rfl) ⟨rfl,trivial⟩ fun b2=>?_
 refine dG rfl ?_
 refine dG rfl ?_
 refine dG rfl ?_
 refine dG rfl ?_
 refine ao ?_
 refine ae ?_
 show JC _ _ _ _ _
 obtain⟨L,eL,h⟩:=aa h
 have cL:=lp k a0 a1 L eL
 refine ag ?_
 refine ab ?_
 refine bV rfl rfl rfl (ap rfl FR (yz) rfl) ⟨rfl,trivial⟩ ?_
 refine ax rfl rfl ?_
 refine bK 1 rfl ?_
 refine bV rfl rfl rfl (dL [.tmp 21,.tmp 22] rfl rfl PM rfl cL) ⟨rfl,rfl,trivial⟩ ?_
 refine ax rfl rfl ?_
 refine aC rfl (ia rfl rfl) ⟨rfl,trivial⟩ ?_
 refine aC rfl (ia rfl rfl) ⟨rfl,trivial⟩ ?_
 refine de rfl rfl ?_
 refine de rfl rfl ?_
 refine ao ?_
 refine ae ?_
 show JC _ _ _ _ _
 refine ag ?_
 refine ag ?_
 refine ab ?_
 refine ax rfl rfl ?_
 refine aC rfl (ge rfl) ⟨rfl,rfl,trivial⟩ ?_
 refine ao ?_
 refine ae ?_
 show JC _ _ _ _ _
 refine bL rfl (fun hb=>?_) (fun hb=>?_)
 ·
  replace h:=cp (JY hb) h
  refine ag ?_
  refine ab ?_
  refine ax rfl rfl ?_
  refine dG rfl ?_
  refine dG rfl ?_
  refine dG rfl ?_
  refine de rfl rfl ?_
  refine ao ?_
  refine ae ?_
  show JC _ _ _ _ _
  refine aA ?_
  refine aP ?_
  obtain rfl:=Option.some.inj h
  exact aE () [_,_,_,_] 1 ⟨rfl,rfl,rfl,rfl,trivial⟩ rfl
 replace h:=bH (xH hb) h
 refine aS ?_
 refine ae ?_
 show JC _ _ _ _ _
 rw [Option.bind_assoc] at h
 refine ag ?_
 refine ab ?_
 refine bK 1 rfl ?_
 refine bV rfl rfl rfl (ap rfl FR (yz) rfl) ⟨rfl,trivial⟩ ?_
 refine aF rfl rfl rfl (ak [.tmp 29] rfl rfl PL rfl (gj a0)) ⟨rfl,trivial⟩ fun m=>?_
 refine cu (ko (bN k a0) lC) ?_
 refine aC rfl (dN [(0,.tmp 30,_)] rfl MO Mc N5 (jM ⟨trivial,trivial⟩) rfl) ⟨rfl,trivial⟩ ?_
 refine aF rfl rfl rfl (oe rfl trivial) ⟨rfl,trivial⟩ fun y=>?_
 refine de rfl rfl ?_
 refine ao ?_
 refine ae ?_
 show JC _ _ _ _ _
 refine ag ?_
 refine ag ?_
 refine ab ?_
 refine ax rfl rfl ?_
 refine aC rfl (jY rfl rfl k9) ⟨rfl,trivial⟩ ?_
 refine fg rfl ?_
 refine cu (SE.nil 23 .val) ?_
 refine cu (ff (Δ':=[.obj y 128 (.agg (.pair (.at au (a0,.map (some m))) (.eq (.slice none 0 0)))),.inv m (bN k a0),.obj b2 25 (.rep aB a0),.inv 0 dO]++dK 23 (.slice none 0 0,fun _=>undef) []) (List.Perm.trans (List.perm_append_comm (l₁:=([.sl (.slice none 0 0) 23 .val []]:List D))) (List.Perm.refl _))) ?_
 refine ao ?_
 refine ae ?_
 show JC _ _ _ _ _
 refine aj ?_
 refine aG (Z:=Value×(Nat→Value)) (α:=Int×List (List Int)) (fun z q=>[(2,.eq (bP b2)),(8,.eq (.int .i64 L.1)),(10,.eq (bP y)),(33,.rep (.slice (.slice (.int .i64))) a1),(34,.eq (.int .i64 (a1.length:Int))),(35,.eq (.int .i64 q.1))]) (fun z q=>[.obj y 128 (.agg (.pair (.at au (a0,.map (some m))) (.eq z.1))),.inv m (bN k a0),.obj b2 25 (.rep aB a0),.inv 0 dO]++dK 23 z q.2) (gK k a1) k (.slice none 0 0,fun _=>undef) (0,[]) (fun _=>rfl) h (aQ [.obj y 128 (.agg (.pair (.at au (a0,.map (some m))) (.eq (.slice none 0 0)))),.inv m (bN k a0),.obj b2 25 (.rep aB a0),.inv 0 dO] (dK 23 (.slice none 0 0,fun _=>undef) []) [0,1,2,3] ⟨rfl,rfl,rfl,rfl,rfl,rfl,trivial⟩ rfl) (fun n z q h=>?_)
 unfold gK at h
 refine ag ?_
 refine ab ?_
 refine aC rfl (bm rfl) ⟨rfl,rfl,trivial⟩ ?_
 refine ao ?_
 refine ae ?_
 show JC _ _ _ _ _
 refine ag ?_
 refine bL rfl (fun hb=>?_) (fun hb=>?_)
 ·
  replace h:=cp (me hb) h
  obtain⟨q1,q2⟩:=q
  obtain⟨l,el,h⟩:=aa h
  obtain⟨l2,el2,h⟩:=aa h
  have hk:bT (q2.length+1):=by
   apply Classical.byContradiction
   intro hn
   rw [if_neg hn] at h
   cases h
  replace h:=cp hk h
  have cc:=m3 k l l2 el2
  refine aS ?_
  refine ae ?_
  show JC _ _ _ _ _
  refine ag ?_
  refine aj ?_
  refine ag ?_
  refine ab ?_
  refine aC rfl (aH (t:=.slice (.int .i64)) rfl k9 Ce el) ⟨rfl,rfl,trivial⟩ ?_
  refine aC rfl (an (t:=.slice (.int .i64)) rfl Ce rfl) ⟨rfl,trivial⟩ ?_
  refine de rfl rfl ?_
  refine ao ?_
  refine ae ?_
  show JC _ _ _ _ _
  refine eH (Dl (pre:=[.obj y 128 (.agg (.pair (.at au (a0,.map (some m))) (.eq z.1))),.inv m (bN k a0),.obj b2 25 (.rep aB a0),.inv 0 dO])) ?_
  refine jh 1 rfl ?_
  refine eH (SE.sub (Γ':=lH b2 y L.1 q1 l a1) ⟨rfl,rfl,rfl,rfl,rfl,rfl,rfl,trivial⟩) ?_
  generalize hB:lH b2 y L.1 q1 l a1=B
  refine vz (Δ:=[.obj y 128 (.agg (.pair (.at au (a0,.map (some m))) (.eq z.1))),.sl z.1 23 .val (eP z.2 0 q2)]) (F:=[.inv m (bN k a0),.obj b2 25 (.rep aB a0),.inv 0 dO]++kE z.2 0 q2) (Z:=Value×Value) (fun p=>B) (fun p=>[.obj y 128 (.agg (.pair (.at au (a0,.map (some m))) (.eq p.2))),.sl p.2 23 .val (eP z.2 0 q2++[p.1]),.sl p.1 3 (.int .i64) l2]) (fun S w=>?_) (fun p=>?_)
  ·
   subst hB
   refine I1 (I:=Value×Value) (Ge:=fun _=>lH b2 y L.1 q1 l a1) (De:=fun p=>[.obj y 128 (.agg (.pair (.at au (a0,.map (some m))) (.eq p.2))),.sl p.2 23 .val (eP z.2 0 q2++[p.1]),.sl p.1 3 (.int .i64) l2]) (L:=[true,true,true,true,true,true,true,true,true,true,true,true]) qH rfl (fun J hJ hE=>?_) (by kernel_rfl) (fun p=>?_)
   ·
    have s2047:∀(v v2:Value),J 1 [true,true,true,true,true,true,true,true,true,true,true,false] (fA [true,true,true,true,true,true,true,true,true,true,true,false] (mm y z.1 l v v2)++lH b2 y L.1 q1 l a1) [.obj y 128 (.agg (.pair (.at au (a0,.map (some m))) (.eq z.1))),.sl v2 23 .val (eP z.2 0 q2++[v]),.sl v 3 (.int .i64) l2]:=fun v v2=>by
     subst hJ
     refine JD.step [11] (by kernel_rfl) rfl ?_
     refine fu.cons rfl ?_ ?_
     ·
      refine bK 1 rfl ?_
      refine fW fun hv=>?_
      refine bK 1 rfl ?_
      refine bi rfl rfl (bh rfl oc hv rfl rfl) ⟨rfl,rfl,trivial⟩ ?_
      exact aY (hE (v,v2)) [0,1,2] ⟨rfl,rfl,rfl,rfl,rfl,rfl,rfl,trivial⟩
     exact trivial
    have s1023:∀(v v2:Value),J 2 [true,true,true,true,true,true,true,true,true,true,false,false] (fA [true,true,true,true,true,true,true,true,true,true,false,false] (mm y z.1 l v v2)++lH b2 y L.1 q1 l a1) [.obj y 128 (.agg (.pair (.at au (a0,.map (some m))) (.eq z.1))),.sl v2 23 .val (eP z.2 0 q2++[v]),.sl v 3 (.int .i64) l2]:=fun v v2=>by
     subst hJ
     refine JD.step [10] (by kernel_rfl) rfl ?_
     refine fu.cons rfl ?_ ?_
     ·
      refine aC rfl (aw rfl tX) ⟨rfl,trivial⟩ ?_
      exact aY (s2047 v v2) [0,1,2] ⟨rfl,rfl,rfl,rfl,rfl,rfl,rfl,rfl,rfl,rfl,rfl,rfl,rfl,rfl,rfl,rfl,rfl,rfl,trivial⟩
     exact trivial
    have s511:∀(v v2:Value),J 3 [true,true,true,true,true,true,true,true,true,false,false,false] (fA [true,true,true,true,true,true,true,true,true,false,false,false] (mm y z.1 l v v2)++lH b2 y L.1 q1 l a1) [.obj y 128 (.agg (.pair (.at au (a0,.map (some m))) (.eq z.1))),.sl v2 23 .val (eP z.2 0 q2++[v]),.sl v 3 (.int .i64) l2]:=fun v v2=>by
     subst hJ
     refine JD.step [9] (by kernel_rfl) rfl ?_
     refine fu.cons rfl ?_ ?_
     ·
      refine aC rfl (aV rfl) ⟨rfl,trivial⟩ ?_
      exact aY (s1023 v v2) [0,1,2] ⟨rfl,rfl,rfl,rfl,rfl,rfl,rfl,rfl,rfl,rfl,rfl,rfl,rfl,rfl,rfl,rfl,rfl,trivial⟩
     exact trivial
    have s255:∀(v:Value),J 4 [true,true,true,true,true,true,true,true,false,false,false,false] (fA [true,true,true,true,true,true,true,true,false,false,false,false] (mm y z.1 l v undef)++lH b2 y L.1 q1 l a1) [.obj y 128 (.agg (.pair (.at au (a0,.map (some m))) (.eq z.1))),.sl z.1 23 .val (eP z.2 0 q2),.sl v 3 (.int .i64) l2]:=fun v=>by
     subst hJ
     refine JD.step [8] (by kernel_rfl) rfl ?_
     refine fu.cons rfl ?_ ?_
     ·
      refine bK 1 rfl ?_
      refine dF rfl rfl rfl (bX rfl rfl od (by simpa [gQ] using hk)) ⟨rfl,rfl,trivial⟩ fun v2=>?_
      exact aY (s511 v v2) [1,0,2] ⟨rfl,rfl,rfl,rfl,rfl,rfl,rfl,rfl,rfl,rfl,rfl,rfl,rfl,rfl,rfl,rfl,trivial⟩
     exact trivial
    have s510:∀(v v2:Value),J 4 [false,true,true,true,true,true,true,true,true,false,false,false] (fA [false,true,true,true,true,true,true,true,true,false,false,false] (mm y z.1 l v v2)++lH b2 y L.1 q1 l a1) [.obj y 128 (.agg (.pair (.at au (a0,.map (some m))) (.eq z.1))),.sl v2 23 .val (eP z.2 0 q2++[v]),.sl v 3 (.int .i64) l2]:=fun v v2=>by
     subst hJ
     refine JD.step [0] (by kernel_rfl) rfl ?_
     refine fu.cons rfl ?_ ?_
     ·
      refine ax rfl rfl ?_
      exact aY (s511 v v2) [0,1,2] ⟨rfl,rfl,rfl,rfl,rfl,rfl,rfl,rfl,rfl,rfl,rfl,rfl,rfl,rfl,rfl,rfl,trivial⟩
     exact trivial
    have s127:∀(v:Value),J 5 [true,true,true,true,true,true,true,false,false,false,false,false] (fA [true,true,true,true,true,true,true,false,false,false,false,false] (mm y z.1 l v undef)++lH b2 y L.1 q1 l a1) [.obj y 128 (.agg (.pair (.at au (a0,.map (some m))) (.eq z.1))),.sl z.1 23 .val (eP z.2 0 q2),.sl v 3 (.int .i64) l2]:=fun v=>by
     subst hJ
     refine JD.step [7] (by kernel_rfl) rfl ?_
     refine fu.cons rfl ?_ ?_
     ·
      refine bK 2 rfl ?_
      refine fW fun hv=>?_
      refine aC rfl (bF (t:=.val) [(.tmp 45,.eq v)] [v] rfl rfl od (.cons hv (.val hv) .nil) rfl rfl) ⟨rfl,trivial⟩ ?_
      exact aY (s255 v) [1,2,0] ⟨rfl,rfl,rfl,rfl,rfl,rfl,rfl,rfl,rfl,rfl,rfl,rfl,rfl,rfl,rfl,trivial⟩
     exact trivial
    have s239:∀(v:Value),J 5 [true,true,true,true,false,true,true,true,false,false,false,false] (fA [true,true,true,true,false,true,true,true,false,false,false,false] (mm y z.1 l v undef)++lH b2 y L.1 q1 l a1) [.obj y 128 (.agg (.pair (.at au (a0,.map (some m))) (.eq z.1))),.sl z.1 23 .val (eP z.2 0 q2),.sl v 3 (.int .i64) l2]:=fun v=>by
     subst hJ
     refine JD.step [4] (by kernel_rfl) rfl ?_
     refine fu.cons rfl ?_ ?_
     ·
      refine bV rfl rfl rfl (ap rfl oc mP rfl) ⟨rfl,trivial⟩ ?_
      exact aY (s255 v) [0,1,2] ⟨rfl,rfl,rfl,rfl,rfl,rfl,rfl,rfl,rfl,rfl,rfl,rfl,rfl,rfl,rfl,trivial⟩
     exact trivial
    have s254:∀(v:Value),J 5 [false,true,true,true,true,true,true,true,false,false,false,false] (fA [false,true,true,true,true,true,true,true,false,false,false,false] (mm y z.1 l v undef)++lH b2 y L.1 q1 l a1) [.obj y 128 (.agg (.pair (.at au (a0,.map (some m))) (.eq z.1))),.sl z.1 23 .val (eP z.2 0 q2),.sl v 3 (.int .i64) l2]:=fun v=>by
     subst hJ
     refine JD.step [0,8] (by kernel_rfl) rfl ?_
     refine fu.cons rfl ?_ ?_
     ·
      refine ax rfl rfl ?_
      exact aY (s255 v) [0,1,2] ⟨rfl,rfl,rfl,rfl,rfl,rfl,rfl,rfl,rfl,rfl,rfl,rfl,rfl,rfl,rfl,trivial⟩
     refine fu.cons rfl ?_ ?_
     ·
      refine bK 1 rfl ?_
      refine dF rfl rfl rfl (bX rfl rfl od (by simpa [gQ] using hk)) ⟨rfl,rfl,trivial⟩ fun v2=>?_
      exact aY (s510 v v2) [1,0,2] ⟨rfl,rfl,rfl,rfl,rfl,rfl,rfl,rfl,rfl,rfl,rfl,rfl,rfl,rfl,rfl,trivial⟩
     exact trivial
    have s63:J 6 [true,true,true,true,true,true,false,false,false,false,false,false] (fA [true,true,true,true,true,true,false,false,false,false,false,false] (mm y z.1 l undef undef)++lH b2 y L.1 q1 l a1) [.obj y 128 (.agg (.pair (.at au (a0,.map (some m))) (.eq z.1))),.sl z.1 23 .val (eP z.2 0 q2)]:=by
     subst hJ
     refine JD.step [6] (by kernel_rfl) rfl ?_
     refine fu.cons rfl ?_ ?_
     ·
      refine aF rfl rfl rfl (ak [.tmp 44] rfl rfl qk rfl cc) ⟨rfl,trivial⟩ fun v=>?_
      exact aY (s127 v) [1,2,0] ⟨rfl,rfl,rfl,rfl,rfl,rfl,rfl,rfl,rfl,rfl,rfl,rfl,rfl,rfl,trivial⟩
     exact trivial
    have s111:∀(v:Value),J 6 [true,true,true,true,false,true,true,false,false,false,false,false] (fA [true,true,true,true,false,true,true,false,false,false,false,false] (mm y z.1 l v undef)++lH b2 y L.1 q1 l a1) [.obj y 128 (.agg (.pair (.at au (a0,.map (some m))) (.eq z.1))),.sl z.1 23 .val (eP z.2 0 q2),.sl v 3 (.int .i64) l2]:=fun v=>by
     subst hJ
     refine JD.step [4,7] (by kernel_rfl) rfl ?_
     refine fu.cons rfl ?_ ?_
     ·
      refine bV rfl rfl rfl (ap rfl oc mP rfl) ⟨rfl,trivial⟩ ?_
      exact aY (s127 v) [0,1,2] ⟨rfl,rfl,rfl,rfl,rfl,rfl,rfl,rfl,rfl,rfl,rfl,rfl,rfl,rfl,trivial⟩
     refine fu.cons rfl ?_ ?_
     ·
      refine bK 2 rfl ?_
      refine fW fun hv=>?_
      refine aC rfl (bF (t:=.val) [(.tmp 45,.eq v)] [v] rfl rfl od (.cons hv (.val hv) .nil) rfl rfl) ⟨rfl,trivial⟩ ?_
      exact aY (s239 v) [1,2,0] ⟨rfl,rfl,rfl,rfl,rfl,rfl,rfl,rfl,rfl,rfl,rfl,rfl,rfl,rfl,trivial⟩
     exact trivial
    have s126:∀(v:Value),J 6 [false,true,true,true,true,true,true,false,false,false,false,false] (fA [false,true,true,true,true,true,true,false,false,false,false,false] (mm y z.1 l v undef)++lH b2 y L.1 q1 l a1) [.obj y 128 (.agg (.pair (.at au (a0,.map (some m))) (.eq z.1))),.sl z.1 23 .val (eP z.2 0 q2),.sl v 3 (.int .i64) l2]:=fun v=>by
     subst hJ
     refine JD.step [0,7] (by kernel_rfl) rfl ?_
     refine fu.cons rfl ?_ ?_
     ·
      refine ax rfl rfl ?_
      exact aY (s127 v) [0,1,2] ⟨rfl,rfl,rfl,rfl,rfl,rfl,rfl,rfl,rfl,rfl,rfl,rfl,rfl,rfl,trivial⟩
     refine fu.cons rfl ?_ ?_
     ·
      refine bK 2 rfl ?_
      refine fW fun hv=>?_
      refine aC rfl (bF (t:=.val) [(.tmp 45,.eq v)] [v] rfl rfl od (.cons hv (.val hv) .nil) rfl rfl) ⟨rfl,trivial⟩ ?_
      exact aY (s254 v) [1,2,0] ⟨rfl,rfl,rfl,rfl,rfl,rfl,rfl,rfl,rfl,rfl,rfl,rfl,rfl,rfl,trivial⟩
     exact trivial
    have s231:∀(v:Value),J 6 [true,true,true,false,false,true,true,true,false,false,false,false] (fA [true,true,true,false,false,true,true,true,false,false,false,false] (mm y z.1 l v undef)++lH b2 y L.1 q1 l a1) [.obj y 128 (.agg (.pair (.at au (a0,.map (some m))) (.eq z.1))),.sl z.1 23 .val (eP z.2 0 q2),.sl v 3 (.int .i64) l2]:=fun v=>by
     subst hJ
     refine JD.step [3] (by kernel_rfl) rfl ?_
     refine fu.cons rfl ?_ ?_
     ·
      refine aC rfl (aw rfl tX) ⟨rfl,trivial⟩ ?_
      exact aY (s239 v) [0,1,2] ⟨rfl,rfl,rfl,rfl,rfl,rfl,rfl,rfl,rfl,rfl,rfl,rfl,rfl,rfl,trivial⟩
     exact trivial
    have s238:∀(v:Value),J 6 [false,true,true,true,false,true,true,true,false,false,false,false] (fA [false,true,true,true,false,true,true,true,false,false,false,false] (mm y z.1 l v undef)++lH b2 y L.1 q1 l a1) [.obj y 128 (.agg (.pair (.at au (a0,.map (some m))) (.eq z.1))),.sl z.1 23 .val (eP z.2 0 q2),.sl v 3 (.int .i64) l2]:=fun v=>by
     subst hJ
     refine JD.step [0,4] (by kernel_rfl) rfl ?_
     refine fu.cons rfl ?_ ?_
     ·
      refine ax rfl rfl ?_
      exact aY (s239 v) [0,1,2] ⟨rfl,rfl,rfl,rfl,rfl,rfl,rfl,rfl,rfl,rfl,rfl,rfl,rfl,rfl,trivial⟩
     refine fu.cons rfl ?_ ?_
     ·
      refine bV rfl rfl rfl (ap rfl oc mP rfl) ⟨rfl,trivial⟩ ?_
      exact aY (s254 v) [0,1,2] ⟨rfl,rfl,rfl,rfl,rfl,rfl,rfl,rfl,rfl,rfl,rfl,rfl,rfl,rfl,trivial⟩
     exact trivial
    have s31:J 7 [true,true,true,true,true,false,false,false,false,false,false,false] (fA [true,true,true,true,true,false,false,false,false,false,false,false] (mm y z.1 l undef undef)++lH b2 y L.1 q1 l a1) [.obj y 128 (.agg (.pair (.at au (a0,.map (some m))) (.eq z.1))),.sl z.1 23 .val (eP z.2 0 q2)]:=by
     subst hJ
     refine JD.step [5] (by kernel_rfl) rfl ?_
     refine fu.cons rfl ?_ ?_
     ·
      refine ax rfl rfl ?_
      exact aY (s63) [0,1] ⟨rfl,rfl,rfl,rfl,rfl,rfl,rfl,rfl,rfl,rfl,rfl,rfl,rfl,trivial⟩
     exact trivial
    have s47:J 7 [true,true,true,true,false,true,false,false,false,false,false,false] (fA [true,true,true,true,false,true,false,false,false,false,false,false] (mm y z.1 l undef undef)++lH b2 y L.1 q1 l a1) [.obj y 128 (.agg (.pair (.at au (a0,.map (some m))) (.eq z.1))),.sl z.1 23 .val (eP z.2 0 q2)]:=by
     subst hJ
     refine JD.step [4,6] (by kernel_rfl) rfl ?_
     refine fu.cons rfl ?_ ?_
     ·
      refine bV rfl rfl rfl (ap rfl oc mP rfl) ⟨rfl,trivial⟩ ?_
      exact aY (s63) [0,1] ⟨rfl,rfl,rfl,rfl,rfl,rfl,rfl,rfl,rfl,rfl,rfl,rfl,rfl,trivial⟩
     refine fu.cons rfl ?_ ?_
     ·
      refine aF rfl rfl rfl (ak [.tmp 44] rfl rfl qk rfl cc) ⟨rfl,trivial⟩ fun v=>?_
      exact aY (s111 v) [1,2,0] ⟨rfl,rfl,rfl,rfl,rfl,rfl,rfl,rfl,rfl,rfl,rfl,rfl,rfl,trivial⟩
     exact trivial
    have s62:J 7 [false,true,true,true,true,true,false,false,false,false,false,false] (fA [false,true,true,true,true,true,false,false,false,false,false,false] (mm y z.1 l undef undef)++lH b2 y L.1 q1 l a1) [.obj y 128 (.agg (.pair (.at au (a0,.map (some m))) (.eq z.1))),.sl z.1 23 .val (eP z.2 0 q2)]:=by
     subst hJ
     refine JD.step [0,6] (by kernel_rfl) rfl ?_
     refine fu.cons rfl ?_ ?_
     ·
      refine ax rfl rfl ?_
      exact aY (s63) [0,1] ⟨rfl,rfl,rfl,rfl,rfl,rfl,rfl,rfl,rfl,rfl,rfl,rfl,rfl,trivial⟩
     refine fu.cons rfl ?_ ?_
     ·
      refine aF rfl rfl rfl (ak [.tmp 44] rfl rfl qk rfl cc) ⟨rfl,trivial⟩ fun v=>?_
      exact aY (s126 v) [1,2,0] ⟨rfl,rfl,rfl,rfl,rfl,rfl,rfl,rfl,rfl,rfl,rfl,rfl,rfl,trivial⟩
     exact trivial
    have s103:∀(v:Value),J 7 [true,true,true,false,false,true,true,false,false,false,false,false] (fA [true,true,true,false,false,true,true,false,false,false,false,false] (mm y z.1 l v undef)++lH b2 y L.1 q1 l a1) [.obj y 128 (.agg (.pair (.at au (a0,.map (some m))) (.eq z.1))),.sl z.1 23 .val (eP z.2 0 q2),.sl v 3 (.int .i64) l2]:=fun v=>by
     subst hJ
     refine JD.step [3,7] (by kernel_rfl) rfl ?_
     refine fu.cons rfl ?_ ?_
     ·
      refine aC rfl (aw rfl tX) ⟨rfl,trivial⟩ ?_
      exact aY (s111 v) [0,1,2] ⟨rfl,rfl,rfl,rfl,rfl,rfl,rfl,rfl,rfl,rfl,rfl,rfl,rfl,trivial⟩
     refine fu.cons rfl ?_ ?_
     ·
      refine bK 2 rfl ?_
      refine fW fun hv=>?_
      refine aC rfl (bF (t:=.val) [(.tmp 45,.eq v)] [v] rfl rfl od (.cons hv (.val hv) .nil) rfl rfl) ⟨rfl,trivial⟩ ?_
      exact aY (s231 v) [1,2,0] ⟨rfl,rfl,rfl,rfl,rfl,rfl,rfl,rfl,rfl,rfl,rfl,rfl,rfl,trivial⟩
     exact trivial
    have s110:∀(v:Value),J 7 [false,true,true,true,false,true,true,false,false,false,false,false] (fA [false,true,true,true,false,true,true,false,false,false,false,false] (mm y z.1 l v undef)++lH b2 y L.1 q1 l a1) [.obj y 128 (.agg (.pair (.at au (a0,.map (some m))) (.eq z.1))),.sl z.1 23 .val (eP z.2 0 q2),.sl v 3 (.int .i64) l2]:=fun v=>by
     subst hJ
     refine JD.step [0,4,7] (by kernel_rfl) rfl ?_
     refine fu.cons rfl ?_ ?_
     ·
      refine ax rfl rfl ?_
      exact aY (s111 v) [0,1,2] ⟨rfl,rfl,rfl,rfl,rfl,rfl,rfl,rfl,rfl,rfl,rfl,rfl,rfl,trivial⟩
     refine fu.cons rfl ?_ ?_
     ·
      refine bV rfl rfl rfl (ap rfl oc mP rfl) ⟨rfl,trivial⟩ ?_
      exact aY (s126 v) [0,1,2] ⟨rfl,rfl,rfl,rfl,rfl,rfl,rfl,rfl,rfl,rfl,rfl,rfl,rfl,trivial⟩
     refine fu.cons rfl ?_ ?_
     ·
      refine bK 2 rfl ?_
      refine fW fun hv=>?_
      refine aC rfl (bF (t:=.val) [(.tmp 45,.eq v)] [v] rfl rfl od (.cons hv (.val hv) .nil) rfl rfl) ⟨rfl,trivial⟩ ?_
      exact aY (s238 v) [1,2,0] ⟨rfl,rfl,rfl,rfl,rfl,rfl,rfl,rfl,rfl,rfl,rfl,rfl,rfl,trivial⟩
     exact trivial
    have s227:∀(v:Value),J 7 [true,true,false,false,false,true,true,true,false,false,false,false] (fA [true,true,false,false,false,true,true,true,false,false,false,false] (mm y z.1 l v undef)++lH b2 y L.1 q1 l a1) [.obj y 128 (.agg (.pair (.at au (a0,.map (some m))) (.eq z.1))),.sl z.1 23 .val (eP z.2 0 q2),.sl v 3 (.int .i64) l2]:=fun v=>by
     subst hJ
     refine JD.step [2] (by kernel_rfl) rfl ?_
     refine fu.cons rfl ?_ ?_
     ·
      refine aC rfl (aV rfl) ⟨rfl,trivial⟩ ?_
      exact aY (s231 v) [0,1,2] ⟨rfl,rfl,rfl,rfl,rfl,rfl,rfl,rfl,rfl,rfl,rfl,rfl,rfl,trivial⟩
     exact trivial
    have s230:∀(v:Value),J 7 [false,true,true,false,false,true,true,true,false,false,false,false] (fA [false,true,true,false,false,true,true,true,false,false,false,false] (mm y z.1 l v undef)++lH b2 y L.1 q1 l a1) [.obj y 128 (.agg (.pair (.at au (a0,.map (some m))) (.eq z.1))),.sl z.1 23 .val (eP z.2 0 q2),.sl v 3 (.int .i64) l2]:=fun v=>by
     subst hJ
     refine JD.step [0,3] (by kernel_rfl) rfl ?_
     refine fu.cons rfl ?_ ?_
     ·
      refine ax rfl rfl ?_
      exact aY (s231 v) [0,1,2] ⟨rfl,rfl,rfl,rfl,rfl,rfl,rfl,rfl,rfl,rfl,rfl,rfl,rfl,trivial⟩
     refine fu.cons rfl ?_ ?_
     ·
      refine aC rfl (aw rfl tX) ⟨rfl,trivial⟩ ?_
      exact aY (s238 v) [0,1,2] ⟨rfl,rfl,rfl,rfl,rfl,rfl,rfl,rfl,rfl,rfl,rfl,rfl,rfl,trivial⟩
     exact trivial
    have s15:J 8 [true,true,true,true,false,false,false,false,false,false,false,false] (fA [true,true,true,true,false,false,false,false,false,false,false,false] (mm y z.1 l undef undef)++lH b2 y L.1 q1 l a1) [.obj y 128 (.agg (.pair (.at au (a0,.map (some m))) (.eq z.1))),.sl z.1 23 .val (eP z.2 0 q2)]:=by
     subst hJ
     refine JD.step [4,5] (by kernel_rfl) rfl ?_
     refine fu.cons rfl ?_ ?_
     ·
      refine bV rfl rfl rfl (ap rfl oc mP rfl) ⟨rfl,trivial⟩ ?_
      exact aY (s31) [0,1] ⟨rfl,rfl,rfl,rfl,rfl,rfl,rfl,rfl,rfl,rfl,rfl,rfl,trivial⟩
     refine fu.cons rfl ?_ ?_
     ·
      refine ax rfl rfl ?_
      exact aY (s47) [0,1] ⟨rfl,rfl,rfl,rfl,rfl,rfl,rfl,rfl,rfl,rfl,rfl,rfl,trivial⟩
     exact trivial
    have s30:J 8 [false,true,true,true,true,false,false,false,false,false,false,false] (fA [false,true,true,true,true,false,false,false,false,false,false,false] (mm y z.1 l undef undef)++lH b2 y L.1 q1 l a1) [.obj y 128 (.agg (.pair (.at au (a0,.map (some m))) (.eq z.1))),.sl z.1 23 .val (eP z.2 0 q2)]:=by
     subst hJ
     refine JD.step [0,5] (by kernel_rfl) rfl ?_
     refine fu.cons rfl ?_ ?_
     ·
      refine ax rfl rfl ?_
      exact aY (s31) [0,1] ⟨rfl,rfl,rfl,rfl,rfl,rfl,rfl,rfl,rfl,rfl,rfl,rfl,trivial⟩
     refine fu.cons rfl ?_ ?_
     ·
      refine ax rfl rfl ?_
      exact aY (s62) [0,1] ⟨rfl,rfl,rfl,rfl,rfl,rfl,rfl,rfl,rfl,rfl,rfl,rfl,trivial⟩
     exact trivial
    have s39:J 8 [true,true,true,false,false,true,false,false,false,false,false,false] (fA [true,true,true,false,false,true,false,false,false,false,false,false] (mm y z.1 l undef undef)++lH b2 y L.1 q1 l a1) [.obj y 128 (.agg (.pair (.at au (a0,.map (some m))) (.eq z.1))),.sl z.1 23 .val (eP z.2 0 q2)]:=by
     subst hJ
     refine JD.step [3,6] (by kernel_rfl) rfl ?_
     refine fu.cons rfl ?_ ?_
     ·
      refine aC rfl (aw rfl tX) ⟨rfl,trivial⟩ ?_
      exact aY (s47) [0,1] ⟨rfl,rfl,rfl,rfl,rfl,rfl,rfl,rfl,rfl,rfl,rfl,rfl,trivial⟩
     refine fu.cons rfl ?_ ?_
     ·
      refine aF rfl rfl rfl (ak [.tmp 44] rfl rfl qk rfl cc) ⟨rfl,trivial⟩ fun v=>?_
      exact aY (s103 v) [1,2,0] ⟨rfl,rfl,rfl,rfl,rfl,rfl,rfl,rfl,rfl,rfl,rfl,rfl,trivial⟩
     exact trivial
    have s46:J 8 [false,true,true,true,false,true,false,false,false,false,false,false] (fA [false,true,true,true,false,true,false,false,false,false,false,false] (mm y z.1 l undef undef)++lH b2 y L.1 q1 l a1) [.obj y 128 (.agg (.pair (.at au (a0,.map (some m))) (.eq z.1))),.sl z.1 23 .val (eP z.2 0 q2)]:=by
     subst hJ
     refine JD.step [0,4,6] (by kernel_rfl) rfl ?_
     refine fu.cons rfl ?_ ?_
     ·
      refine ax rfl rfl ?_
      exact aY (s47) [0,1] ⟨rfl,rfl,rfl,rfl,rfl,rfl,rfl,rfl,rfl,rfl,rfl,rfl,trivial⟩
     refine fu.cons rfl ?_ ?_
     ·
      refine bV rfl rfl rfl (ap rfl oc mP rfl) ⟨rfl,trivial⟩ ?_
      exact aY (s62) [0,1] ⟨rfl,rfl,rfl,rfl,rfl,rfl,rfl,rfl,rfl,rfl,rfl,rfl,trivial⟩
     refine fu.cons rfl ?_ ?_
     ·
      refine aF rfl rfl rfl (ak [.tmp 44] rfl rfl qk rfl cc) ⟨rfl,trivial⟩ fun v=>?_
      exact aY (s110 v) [1,2,0] ⟨rfl,rfl,rfl,rfl,rfl,rfl,rfl,rfl,rfl,rfl,rfl,rfl,trivial⟩
     exact trivial
    have s99:∀(v:Value),J 8 [true,true,false,false,false,true,true,false,false,false,false,false] (fA [true,true,false,false,false,true,true,false,false,false,false,false] (mm y z.1 l v undef)++lH b2 y L.1 q1 l a1) [.obj y 128 (.agg (.pair (.at au (a0,.map (some m))) (.eq z.1))),.sl z.1 23 .val (eP z.2 0 q2),.sl v 3 (.int .i64) l2]:=fun v=>by
     subst hJ
     refine JD.step [2,7] (by kernel_rfl) rfl ?_
     refine fu.cons rfl ?_ ?_
     ·
      refine aC rfl (aV rfl) ⟨rfl,trivial⟩ ?_
      exact aY (s103 v) [0,1,2] ⟨rfl,rfl,rfl,rfl,rfl,rfl,rfl,rfl,rfl,rfl,rfl,rfl,trivial⟩
     refine fu.cons rfl ?_ ?_
     ·
      refine bK 2 rfl ?_
      refine fW fun hv=>?_
      refine aC rfl (bF (t:=.val) [(.tmp 45,.eq v)] [v] rfl rfl od (.cons hv (.val hv) .nil) rfl rfl) ⟨rfl,trivial⟩ ?_
      exact aY (s227 v) [1,2,0] ⟨rfl,rfl,rfl,rfl,rfl,rfl,rfl,rfl,rfl,rfl,rfl,rfl,trivial⟩
     exact trivial
    have s102:∀(v:Value),J 8 [false,true,true,false,false,true,true,false,false,false,false,false] (fA [false,true,true,false,false,true,true,false,false,false,false,false] (mm y z.1 l v undef)++lH b2 y L.1 q1 l a1) [.obj y 128 (.agg (.pair (.at au (a0,.map (some m))) (.eq z.1))),.sl z.1 23 .val (eP z.2 0 q2),.sl v 3 (.int .i64) l2]:=fun v=>by
     subst hJ
     refine JD.step [0,3,7] (by kernel_rfl) rfl ?_
     refine fu.cons rfl ?_ ?_
     ·
      refine ax rfl rfl ?_
      exact aY (s103 v) [0,1,2] ⟨rfl,rfl,rfl,rfl,rfl,rfl,rfl,rfl,rfl,rfl,rfl,rfl,trivial⟩
     refine fu.cons rfl ?_ ?_
     ·
      refine aC rfl (aw rfl tX) ⟨rfl,trivial⟩ ?_
      exact aY (s110 v) [0,1,2] ⟨rfl,rfl,rfl,rfl,rfl,rfl,rfl,rfl,rfl,rfl,rfl,rfl,trivial⟩
     refine fu.cons rfl ?_ ?_
     ·
      refine bK 2 rfl ?_
      refine fW fun hv=>?_
      refine aC rfl (bF (t:=.val) [(.tmp 45,.eq v)] [v] rfl rfl od (.cons hv (.val hv) .nil) rfl rfl) ⟨rfl,trivial⟩ ?_
      exact aY (s230 v) [1,2,0] ⟨rfl,rfl,rfl,rfl,rfl,rfl,rfl,rfl,rfl,rfl,rfl,rfl,trivial⟩
     exact trivial
    have s225:∀(v:Value),J 8 [true,false,false,false,false,true,true,true,false,false,false,false] (fA [true,false,false,false,false,true,true,true,false,false,false,false] (mm y z.1 l v undef)++lH b2 y L.1 q1 l a1) [.obj y 128 (.agg (.pair (.at au (a0,.map (some m))) (.eq z.1))),.sl z.1 23 .val (eP z.2 0 q2),.sl v 3 (.int .i64) l2]:=fun v=>by
     subst hJ
     refine JD.step [1] (by kernel_rfl) rfl ?_
     refine fu.cons rfl ?_ ?_
     ·
      refine ax rfl rfl ?_
      exact aY (s227 v) [0,1,2] ⟨rfl,rfl,rfl,rfl,rfl,rfl,rfl,rfl,rfl,rfl,rfl,rfl,trivial⟩
     exact trivial
    have s226:∀(v:Value),J 8 [false,true,false,false,false,true,true,true,false,false,false,false] (fA [false,true,false,false,false,true,true,true,false,false,false,false] (mm y z.1 l v undef)++lH b2 y L.1 q1 l a1) [.obj y 128 (.agg (.pair (.at au (a0,.map (some m))) (.eq z.1))),.sl z.1 23 .val (eP z.2 0 q2),.sl v 3 (.int .i64) l2]:=fun v=>by
     subst hJ
     refine JD.step [0,2] (by kernel_rfl) rfl ?_
     refine fu.cons rfl ?_ ?_
     ·
      refine ax rfl rfl ?_
      exact aY (s227 v) [0,1,2] ⟨rfl,rfl,rfl,rfl,rfl,rfl,rfl,rfl,rfl,rfl,rfl,rfl,trivial⟩
     refine fu.cons rfl ?_ ?_
     ·
      refine aC rfl (aV rfl) ⟨rfl,trivial⟩ ?_
      exact aY (s230 v) [0,1,2] ⟨rfl,rfl,rfl,rfl,rfl,rfl,rfl,rfl,rfl,rfl,rfl,rfl,trivial⟩
     exact trivial
    have s7:J 9 [true,true,true,false,false,false,false,false,false,false,false,false] (fA [true,true,true,false,false,false,false,false,false,false,false,false] (mm y z.1 l undef undef)++lH b2 y L.1 q1 l a1) [.obj y 128 (.agg (.pair (.at au (a0,.map (some m))) (.eq z.1))),.sl z.1 23 .val (eP z.2 0 q2)]:=by
     subst hJ
     refine JD.step [3,5] (by kernel_rfl) rfl ?_
     refine fu.cons rfl ?_ ?_
     ·
      refine aC rfl (aw rfl tX) ⟨rfl,trivial⟩ ?_
      exact aY (s15) [0,1] ⟨rfl,rfl,rfl,rfl,rfl,rfl,rfl,rfl,rfl,rfl,rfl,trivial⟩
     refine fu.cons rfl ?_ ?_
     ·
      refine ax rfl rfl ?_
      exact aY (s39) [0,1] ⟨rfl,rfl,rfl,rfl,rfl,rfl,rfl,rfl,rfl,rfl,rfl,trivial⟩
     exact trivial
    have s14:J 9 [false,true,true,true,false,false,false,false,false,false,false,false] (fA [false,true,true,true,false,false,false,false,false,false,false,false] (mm y z.1 l undef undef)++lH b2 y L.1 q1 l a1) [.obj y 128 (.agg (.pair (.at au (a0,.map (some m))) (.eq z.1))),.sl z.1 23 .val (eP z.2 0 q2)]:=by
     subst hJ
     refine JD.step [0,4,5] (by kernel_rfl) rfl ?_
     refine fu.cons rfl ?_ ?_
     ·
      refine ax rfl rfl ?_
      exact aY (s15) [0,1] ⟨rfl,rfl,rfl,rfl,rfl,rfl,rfl,rfl,rfl,rfl,rfl,trivial⟩
     refine fu.cons rfl ?_ ?_
     ·
      refine bV rfl rfl rfl (ap rfl oc mP rfl) ⟨rfl,trivial⟩ ?_
      exact aY (s30) [0,1] ⟨rfl,rfl,rfl,rfl,rfl,rfl,rfl,rfl,rfl,rfl,rfl,trivial⟩
     refine fu.cons rfl ?_ ?_
     ·
      refine ax rfl rfl ?_
      exact aY (s46) [0,1] ⟨rfl,rfl,rfl,rfl,rfl,rfl,rfl,rfl,rfl,rfl,rfl,trivial⟩
     exact trivial
    have s35:J 9 [true,true,false,false,false,true,false,false,false,false,false,false] (fA [true,true,false,false,false,true,false,false,false,false,false,false] (mm y z.1 l undef undef)++lH b2 y L.1 q1 l a1) [.obj y 128 (.agg (.pair (.at au (a0,.map (some m))) (.eq z.1))),.sl z.1 23 .val (eP z.2 0 q2)]:=by
     subst hJ
     refine JD.step [2,6] (by kernel_rfl) rfl ?_
     refine fu.cons rfl ?_ ?_
     ·
      refine aC rfl (aV rfl) ⟨rfl,trivial⟩ ?_
      exact aY (s39) [0,1] ⟨rfl,rfl,rfl,rfl,rfl,rfl,rfl,rfl,rfl,rfl,rfl,trivial⟩
     refine fu.cons rfl ?_ ?_
     ·
      refine aF rfl rfl rfl (ak [.tmp 44] rfl rfl qk rfl cc) ⟨rfl,trivial⟩ fun v=>?_
      exact aY (s99 v) [1,2,0] ⟨rfl,rfl,rfl,rfl,rfl,rfl,rfl,rfl,rfl,rfl,rfl,trivial⟩
     exact trivial
    have s38:J 9 [false,true,true,false,false,true,false,false,false,false,false,false] (fA [false,true,true,false,false,true,false,false,false,false,false,false] (mm y z.1 l undef undef)++lH b2 y L.1 q1 l a1) [.obj y 128 (.agg (.pair (.at au (a0,.map (some m))) (.eq z.1))),.sl z.1 23 .val (eP z.2 0 q2)]:=by
     subst hJ
     refine JD.step [0,3,6] (by kernel_rfl) rfl ?_
     refine fu.cons rfl ?_ ?_
     ·
      refine ax rfl rfl ?_
      exact aY (s39) [0,1] ⟨rfl,rfl,rfl,rfl,rfl,rfl,rfl,rfl,rfl,rfl,rfl,trivial⟩
     refine fu.cons rfl ?_ ?_
     ·
      refine aC rfl (aw rfl tX) ⟨rfl,trivial⟩ ?_
      exact aY (s46) [0,1] ⟨rfl,rfl,rfl,rfl,rfl,rfl,rfl,rfl,rfl,rfl,rfl,trivial⟩
     refine fu.cons rfl ?_ ?_
     ·
      refine aF rfl rfl rfl (ak [.tmp 44] rfl rfl qk rfl cc) ⟨rfl,trivial⟩ fun v=>?_
      exact aY (s102 v) [1,2,0] ⟨rfl,rfl,rfl,rfl,rfl,rfl,rfl,rfl,rfl,rfl,rfl,trivial⟩
     exact trivial
    have s97:∀(v:Value),J 9 [true,false,false,false,false,true,true,false,false,false,false,false] (fA [true,false,false,false,false,true,true,false,false,false,false,false] (mm y z.1 l v undef)++lH b2 y L.1 q1 l a1) [.obj y 128 (.agg (.pair (.at au (a0,.map (some m))) (.eq z.1))),.sl z.1 23 .val (eP z.2 0 q2),.sl v 3 (.int .i64) l2]:=fun v=>by
     subst hJ
     refine JD.step [1,7] (by kernel_rfl) rfl ?_
     refine fu.cons rfl ?_ ?_
     ·
      refine ax rfl rfl ?_
      exact aY (s99 v) [0,1,2] ⟨rfl,rfl,rfl,rfl,rfl,rfl,rfl,rfl,rfl,rfl,rfl,trivial⟩
     refine fu.cons rfl ?_ ?_
     ·
      refine bK 2 rfl ?_
      refine fW fun hv=>?_
      refine aC rfl (bF (t:=.val) [(.tmp 45,.eq v)] [v] rfl rfl od (.cons hv (.val hv) .nil) rfl rfl) ⟨rfl,trivial⟩ ?_
      exact aY (s225 v) [1,2,0] ⟨rfl,rfl,rfl,rfl,rfl,rfl,rfl,rfl,rfl,rfl,rfl,trivial⟩
     exact trivial
    have s98:∀(v:Value),J 9 [false,true,false,false,false,true,true,false,false,false,false,false] (fA [false,true,false,false,false,true,true,false,false,false,false,false] (mm y z.1 l v undef)++lH b2 y L.1 q1 l a1) [.obj y 128 (.agg (.pair (.at au (a0,.map (some m))) (.eq z.1))),.sl z.1 23 .val (eP z.2 0 q2),.sl v 3 (.int .i64) l2]:=fun v=>by
     subst hJ
     refine JD.step [0,2,7] (by kernel_rfl) rfl ?_
     refine fu.cons rfl ?_ ?_
     ·
      refine ax rfl rfl ?_
      exact aY (s99 v) [0,1,2] ⟨rfl,rfl,rfl,rfl,rfl,rfl,rfl,rfl,rfl,rfl,rfl,trivial⟩
     refine fu.cons rfl ?_ ?_
     ·
      refine aC rfl (aV rfl) ⟨rfl,trivial⟩ ?_
      exact aY (s102 v) [0,1,2] ⟨rfl,rfl,rfl,rfl,rfl,rfl,rfl,rfl,rfl,rfl,rfl,trivial⟩
     refine fu.cons rfl ?_ ?_
     ·
      refine bK 2 rfl ?_
      refine fW fun hv=>?_
      refine aC rfl (bF (t:=.val) [(.tmp 45,.eq v)] [v] rfl rfl od (.cons hv (.val hv) .nil) rfl rfl) ⟨rfl,trivial⟩ ?_
      exact aY (s226 v) [1,2,0] ⟨rfl,rfl,rfl,rfl,rfl,rfl,rfl,rfl,rfl,rfl,rfl,trivial⟩
     exact trivial
    have s224:∀(v:Value),J 9 [false,false,false,false,false,true,true,true,false,false,false,false] (fA [false,false,false,false,false,true,true,true,false,false,false,false] (mm y z.1 l v undef)++lH b2 y L.1 q1 l a1) [.obj y 128 (.agg (.pair (.at au (a0,.map (some m))) (.eq z.1))),.sl z.1 23 .val (eP z.2 0 q2),.sl v 3 (.int .i64) l2]:=fun v=>by
     subst hJ
     refine JD.step [0,1] (by kernel_rfl) rfl ?_
     refine fu.cons rfl ?_ ?_
     ·
      refine ax rfl rfl ?_
      exact aY (s225 v) [0,1,2] ⟨rfl,rfl,rfl,rfl,rfl,rfl,rfl,rfl,rfl,rfl,rfl,trivial⟩
     refine fu.cons rfl ?_ ?_
     ·
      refine ax rfl rfl ?_
      exact aY (s226 v) [0,1,2] ⟨rfl,rfl,rfl,rfl,rfl,rfl,rfl,rfl,rfl,rfl,rfl,trivial⟩
     exact trivial
    have s3:J 10 [true,true,false,false,false,false,false,false,false,false,false,false] (fA [true,true,false,false,false,false,false,false,false,false,false,false] (mm y z.1 l undef undef)++lH b2 y L.1 q1 l a1) [.obj y 128 (.agg (.pair (.at au (a0,.map (some m))) (.eq z.1))),.sl z.1 23 .val (eP z.2 0 q2)]:=by
     subst hJ
     refine JD.step [2,5] (by kernel_rfl) rfl ?_
     refine fu.cons rfl ?_ ?_
     ·
      refine aC rfl (aV rfl) ⟨rfl,trivial⟩ ?_
      exact aY (s7) [0,1] ⟨rfl,rfl,rfl,rfl,rfl,rfl,rfl,rfl,rfl,rfl,trivial⟩
     refine fu.cons rfl ?_ ?_
     ·
      refine ax rfl rfl ?_
      exact aY (s35) [0,1] ⟨rfl,rfl,rfl,rfl,rfl,rfl,rfl,rfl,rfl,rfl,trivial⟩
     exact trivial
    have s6:J 10 [false,true,true,false,false,false,false,false,false,false,false,false] (fA [false,true,true,false,false,false,false,false,false,false,false,false] (mm y z.1 l undef undef)++lH b2 y L.1 q1 l a1) [.obj y 128 (.agg (.pair (.at au (a0,.map (some m))) (.eq z.1))),.sl z.1 23 .val (eP z.2 0 q2)]:=by
     subst hJ
     refine JD.step [0,3,5] (by kernel_rfl) rfl ?_
     refine fu.cons rfl ?_ ?_
     ·
      refine ax rfl rfl ?_
      exact aY (s7) [0,1] ⟨rfl,rfl,rfl,rfl,rfl,rfl,rfl,rfl,rfl,rfl,trivial⟩
     refine fu.cons rfl ?_ ?_
     ·
      refine aC rfl (aw rfl tX) ⟨rfl,trivial⟩ ?_
      exact aY (s14) [0,1] ⟨rfl,rfl,rfl,rfl,rfl,rfl,rfl,rfl,rfl,rfl,trivial⟩
     refine fu.cons rfl ?_ ?_
     ·
      refine ax rfl rfl ?_
      exact aY (s38) [0,1] ⟨rfl,rfl,rfl,rfl,rfl,rfl,rfl,rfl,rfl,rfl,trivial⟩
     exact trivial
    have s33:J 10 [true,false,false,false,false,true,false,false,false,false,false,false] (fA [true,false,false,false,false,true,false,false,false,false,false,false] (mm y z.1 l undef undef)++lH b2 y L.1 q1 l a1) [.obj y 128 (.agg (.pair (.at au (a0,.map (some m))) (.eq z.1))),.sl z.1 23 .val (eP z.2 0 q2)]:=by
     subst hJ
     refine JD.step [1,6] (by kernel_rfl) rfl ?_
     refine fu.cons rfl ?_ ?_
     ·
      refine ax rfl rfl ?_
      exact aY (s35) [0,1] ⟨rfl,rfl,rfl,rfl,rfl,rfl,rfl,rfl,rfl,rfl,trivial⟩
     refine fu.cons rfl ?_ ?_
     ·
      refine aF rfl rfl rfl (ak [.tmp 44] rfl rfl qk rfl cc) ⟨rfl,trivial⟩ fun v=>?_
      exact aY (s97 v) [1,2,0] ⟨rfl,rfl,rfl,rfl,rfl,rfl,rfl,rfl,rfl,rfl,trivial⟩
     exact trivial
    have s34:J 10 [false,true,false,false,false,true,false,false,false,false,false,false] (fA [false,true,false,false,false,true,false,false,false,false,false,false] (mm y z.1 l undef undef)++lH b2 y L.1 q1 l a1) [.obj y 128 (.agg (.pair (.at au (a0,.map (some m))) (.eq z.1))),.sl z.1 23 .val (eP z.2 0 q2)]:=by
     subst hJ
     refine JD.step [0,2,6] (by kernel_rfl) rfl ?_
     refine fu.cons rfl ?_ ?_
     ·
      refine ax rfl rfl ?_
      exact aY (s35) [0,1] ⟨rfl,rfl,rfl,rfl,rfl,rfl,rfl,rfl,rfl,rfl,trivial⟩
     refine fu.cons rfl ?_ ?_
     ·
      refine aC rfl (aV rfl) ⟨rfl,trivial⟩ ?_
      exact aY (s38) [0,1] ⟨rfl,rfl,rfl,rfl,rfl,rfl,rfl,rfl,rfl,rfl,trivial⟩
     refine fu.cons rfl ?_ ?_
     ·
      refine aF rfl rfl rfl (ak [.tmp 44] rfl rfl qk rfl cc) ⟨rfl,trivial⟩ fun v=>?_
      exact aY (s98 v) [1,2,0] ⟨rfl,rfl,rfl,rfl,rfl,rfl,rfl,rfl,rfl,rfl,trivial⟩
     exact trivial
    have s96:∀(v:Value),J 10 [false,false,false,false,false,true,true,false,false,false,false,false] (fA [false,false,false,false,false,true,true,false,false,false,false,false] (mm y z.1 l v undef)++lH b2 y L.1 q1 l a1) [.obj y 128 (.agg (.pair (.at au (a0,.map (some m))) (.eq z.1))),.sl z.1 23 .val (eP z.2 0 q2),.sl v 3 (.int .i64) l2]:=fun v=>by
     subst hJ
     refine JD.step [0,1,7] (by kernel_rfl) rfl ?_
     refine fu.cons rfl ?_ ?_
     ·
      refine ax rfl rfl ?_
      exact aY (s97 v) [0,1,2] ⟨rfl,rfl,rfl,rfl,rfl,rfl,rfl,rfl,rfl,rfl,trivial⟩
     refine fu.cons rfl ?_ ?_
     ·
      refine ax rfl rfl ?_
      exact aY (s98 v) [0,1,2] ⟨rfl,rfl,rfl,rfl,rfl,rfl,rfl,rfl,rfl,rfl,trivial⟩
     refine fu.cons rfl ?_ ?_
     ·
      refine bK 2 rfl ?_
      refine fW fun hv=>?_
      refine aC rfl (bF (t:=.val) [(.tmp 45,.eq v)] [v] rfl rfl od (.cons hv (.val hv) .nil) rfl rfl) ⟨rfl,trivial⟩ ?_
      exact aY (s224 v) [1,2,0] ⟨rfl,rfl,rfl,rfl,rfl,rfl,rfl,rfl,rfl,rfl,trivial⟩
     exact trivial
    have s1:J 11 [true,false,false,false,false,false,false,false,false,false,false,false] (fA [true,false,false,false,false,false,false,false,false,false,false,false] (mm y z.1 l undef undef)++lH b2 y L.1 q1 l a1) [.obj y 128 (.agg (.pair (.at au (a0,.map (some m))) (.eq z.1))),.sl z.1 23 .val (eP z.2 0 q2)]:=by
     subst hJ
     refine JD.step [1,5] (by kernel_rfl) rfl ?_
     refine fu.cons rfl ?_ ?_
     ·
      refine ax rfl rfl ?_
      exact aY (s3) [0,1] ⟨rfl,rfl,rfl,rfl,rfl,rfl,rfl,rfl,rfl,trivial⟩
     refine fu.cons rfl ?_ ?_
     ·
      refine ax rfl rfl ?_
      exact aY (s33) [0,1] ⟨rfl,rfl,rfl,rfl,rfl,rfl,rfl,rfl,rfl,trivial⟩
     exact trivial
    have s2:J 11 [false,true,false,false,false,false,false,false,false,false,false,false] (fA [false,true,false,false,false,false,false,false,false,false,false,false] (mm y z.1 l undef undef)++lH b2 y L.1 q1 l a1) [.obj y 128 (.agg (.pair (.at au (a0,.map (some m))) (.eq z.1))),.sl z.1 23 .val (eP z.2 0 q2)]:=by
     subst hJ
     refine JD.step [0,2,5] (by kernel_rfl) rfl ?_
     refine fu.cons rfl ?_ ?_
     ·
      refine ax rfl rfl ?_
      exact aY (s3) [0,1] ⟨rfl,rfl,rfl,rfl,rfl,rfl,rfl,rfl,rfl,trivial⟩
     refine fu.cons rfl ?_ ?_
     ·
      refine aC rfl (aV rfl) ⟨rfl,trivial⟩ ?_
      exact aY (s6) [0,1] ⟨rfl,rfl,rfl,rfl,rfl,rfl,rfl,rfl,rfl,trivial⟩
     refine fu.cons rfl ?_ ?_
     ·
      refine ax rfl rfl ?_
      exact aY (s34) [0,1] ⟨rfl,rfl,rfl,rfl,rfl,rfl,rfl,rfl,rfl,trivial⟩
     exact trivial
    have s32:J 11 [false,false,false,false,false,true,false,false,false,false,false,false] (fA [false,false,false,false,false,true,false,false,false,false,false,false] (mm y z.1 l undef undef)++lH b2 y L.1 q1 l a1) [.obj y 128 (.agg (.pair (.at au (a0,.map (some m))) (.eq z.1))),.sl z.1 23 .val (eP z.2 0 q2)]:=by
     subst hJ
     refine JD.step [0,1,6] (by kernel_rfl) rfl ?_
     refine fu.cons rfl ?_ ?_
     ·
      refine ax rfl rfl ?_
      exact aY (s33) [0,1] ⟨rfl,rfl,rfl,rfl,rfl,rfl,rfl,rfl,rfl,trivial⟩
     refine fu.cons rfl ?_ ?_
     ·
      refine ax rfl rfl ?_
      exact aY (s34) [0,1] ⟨rfl,rfl,rfl,rfl,rfl,rfl,rfl,rfl,rfl,trivial⟩
     refine fu.cons rfl ?_ ?_
     ·
      refine aF rfl rfl rfl (ak [.tmp 44] rfl rfl qk rfl cc) ⟨rfl,trivial⟩ fun v=>?_
      exact aY (s96 v) [1,2,0] ⟨rfl,rfl,rfl,rfl,rfl,rfl,rfl,rfl,rfl,trivial⟩
     exact trivial
    have s0:J 12 [false,false,false,false,false,false,false,false,false,false,false,false] (fA [false,false,false,false,false,false,false,false,false,false,false,false] (mm y z.1 l undef undef)++lH b2 y L.1 q1 l a1) [.obj y 128 (.agg (.pair (.at au (a0,.map (some m))) (.eq z.1))),.sl z.1 23 .val (eP z.2 0 q2)]:=by
     subst hJ
     refine JD.step [0,1,5] (by kernel_rfl) rfl ?_
     refine fu.cons rfl ?_ ?_
     ·
      refine ax rfl rfl ?_
      exact aY (s1) [0,1] ⟨rfl,rfl,rfl,rfl,rfl,rfl,rfl,rfl,trivial⟩
     refine fu.cons rfl ?_ ?_
     ·
      refine ax rfl rfl ?_
      exact aY (s2) [0,1] ⟨rfl,rfl,rfl,rfl,rfl,rfl,rfl,rfl,trivial⟩
     refine fu.cons rfl ?_ ?_
     ·
      refine ax rfl rfl ?_
      exact aY (s32) [0,1] ⟨rfl,rfl,rfl,rfl,rfl,rfl,rfl,rfl,trivial⟩
     exact trivial
    exact s0
   ·
    exact fun a w st=>⟨rfl,p,st⟩
  ·
   subst hB
   refine aO ?_
   refine ae ?_
   refine bv (ff (Δ':=.sl p.1 3 (.int .i64) l2:: .sl p.2 23 .val (eP z.2 0 q2++[p.1])::([.obj y 128 (.agg (.pair (.at au (a0,.map (some m))) (.eq p.2))),.inv m (bN k a0),.obj b2 25 (.rep aB a0),.inv 0 dO]++kE z.2 0 q2)) ?_) ?_
   ·
    exact List.Perm.trans (List.Perm.swap _ _ _) (List.Perm.trans (List.Perm.cons _ (List.Perm.swap _ _ _)) (List.Perm.swap _ _ _))
   refine bv (wU (pre:=[.obj y 128 (.agg (.pair (.at au (a0,.map (some m))) (.eq p.2))),.inv m (bN k a0),.obj b2 25 (.rep aB a0),.inv 0 dO])) ?_
   show JC _ _ _ _ _
   refine ab ?_
   obtain⟨w3,ew,h⟩:=aa h
   refine aC rfl (bb rfl ew) ⟨rfl,rfl,trivial⟩ ?_
   refine ax rfl rfl ?_
   refine ao ?_
   refine ae ?_
   exact fX ((p.2,m4 z.2 q2.length p.1),(w3,q2++[l2])) h (aQ [.obj y 128 (.agg (.pair (.at au (a0,.map (some m))) (.eq p.2))),.inv m (bN k a0),.obj b2 25 (.rep aB a0),.inv 0 dO] (dK 23 (p.2,m4 z.2 q2.length p.1) (q2++[l2])) [0,1,2,3] ⟨rfl,rfl,rfl,rfl,rfl,rfl,trivial⟩ rfl)
 replace h:=bH (lY hb) h
 refine dh ?_
 refine aI ?_
 refine aI ?_
 refine bO ?_
 refine ae ?_
 show JC _ _ _ _ _
 replace h:((eW k a0 k (0,[],q.2)).bind fun p=>(jt k a0 p.1 p.2).bind fun b=>if(!b.2.2.1 || decide (L.1≤b.2.1))=true then some (0,0,0,11) else some (b.1.1,b.1.2,b.2.1,0)).bind some=some r:=h
 rw [Option.bind_assoc] at h
 generalize q.2=ls at h⊢
 refine ag ?_
 refine ab ?_
 refine dG rfl ?_
 refine cu (SE.nil 131 fk) ?_
 refine ao ?_
 refine ae ?_
 show JC _ _ _ _ _
 refine eH (aQ (Γ':=[(2,.eq (bP b2)),(8,.eq (.int .i64 L.1)),(10,.eq (bP y)),(13,.eq (.slice none 0 0))]) (pre':=[.inv m (bN k a0),.obj b2 25 (.rep aB a0),.inv 0 dO,.sl (.slice none 0 0) 131 fk [],.obj y 128 (.agg (.pair (.at au (a0,.map (some m))) (.eq z.1)))]) [.sl (.slice none 0 0) 131 fk [],.obj y 128 (.agg (.pair (.at au (a0,.map (some m))) (.eq z.1))),.inv m (bN k a0),.obj b2 25 (.rep aB a0),.inv 0 dO] (dK 23 z ls) [2,3,4,0,1] ⟨rfl,rfl,rfl,rfl,trivial⟩ rfl) ?_
 refine ag ?_
 refine ag ?_
 refine ab ?_
 refine aC rfl (aw rfl LO) ⟨rfl,trivial⟩ ?_
 refine bK 1 rfl ?_
 refine bV rfl rfl rfl (ap rfl Ls mP rfl) ⟨rfl,trivial⟩ ?_
 refine aC rfl (jY rfl rfl tp) ⟨rfl,trivial⟩ ?_
 refine fg rfl ?_
 refine ao ?_
 refine ae ?_
 show JC _ _ _ _ _
 refine aj ?_
 refine aG (Z:=Value) (α:=Int×List (Int×Int)×List (List Int)) (fun c q=>[(2,.eq (bP b2)),(8,.eq (.int .i64 L.1)),(10,.eq (bP y)),(13,.eq c),(53,.eq (.int .i64 (a0.2.1.length:Int))),(54,.eq (.int .i64 q.1))]) (fun c q=>[.obj b2 25 (.rep aB a0),.inv m (bN k a0),.inv 0 dO,.sl c 131 fk q.2.1,.obj y 128 (.agg (.pair (.at au (a0,.map (some m))) (.eq z.1)))]++dK 23 z q.2.2) (eW k a0) k (.slice none 0 0) (0,[],ls) (fun _=>rfl) h (aQ [.obj b2 25 (.rep aB a0),.inv m (bN k a0),.inv 0 dO,.sl (.slice none 0 0) 131 fk [],.obj y 128 (.agg (.pair (.at au (a0,.map (some m))) (.eq z.1)))] (dK 23 z ls) [0,1,2,3,4] ⟨rfl,rfl,rfl,rfl,rfl,rfl,trivial⟩ rfl) (fun n c q h=>?_)
 obtain⟨q1,qp,ql⟩:=q
 unfold eW at h
 refine ag ?_
 refine ab ?_
 refine aC rfl (bm rfl) ⟨rfl,rfl,trivial⟩ ?_
 refine ao ?_
 refine ae ?_
 show JC _ _ _ _ _
 refine ag ?_
 refine bL rfl (fun hb=>?_) (fun hb=>?_)
 ·
  replace h:=cp (me hb) h
  obtain⟨w,ew,h⟩:=aa h
  rw [Option.bind_assoc] at h
  refine aS ?_
  refine ae ?_
  show JC _ _ _ _ _
  refine ag ?_
  refine aj ?_
  refine ag ?_
  refine ab ?_
  refine ax rfl rfl ?_
  refine de rfl rfl ?_
  refine ao ?_
  refine ae ?_
  show JC _ _ _ _ _
  refine ag ?_
  refine ab ?_
  refine ax rfl rfl ?_
  refine aC rfl (bb rfl ew) ⟨rfl,rfl,trivial⟩ ?_
  refine de rfl rfl ?_
  refine ao ?_
  refine ae ?_
  show JC _ _ _ _ _
  refine aj ?_
  refine aG (Z:=Value) (α:=Int×List (Int×Int)×List (List Int)) (fun c q=>[(2,.eq (bP b2)),(8,.eq (.int .i64 L.1)),(10,.eq (bP y)),(13,.eq c),(14,.eq (.int .i64 q1)),(15,.eq (.int .i64 q.1)),(53,.eq (.int .i64 (a0.2.1.length:Int))),(54,.eq (.int .i64 q1))]) (fun c q=>[.obj b2 25 (.rep aB a0),.inv m (bN k a0),.inv 0 dO,.sl c 131 fk q.2.1,.obj y 128 (.agg (.pair (.at au (a0,.map (some m))) (.eq z.1)))]++dK 23 z q.2.2) (gJ k a0 q1) k c (w,qp,ql) (fun _=>rfl) h (aQ [.obj b2 25 (.rep aB a0),.inv m (bN k a0),.inv 0 dO,.sl c 131 fk qp,.obj y 128 (.agg (.pair (.at au (a0,.map (some m))) (.eq z.1)))] (dK 23 z ql) [0,1,2,3,4] ⟨rfl,rfl,rfl,rfl,rfl,rfl,rfl,rfl,trivial⟩ rfl) (fun n3 c q h=>?_)
  obtain⟨j,rp,rl⟩:=q
  unfold gJ at h
  refine ag ?_
  refine ag ?_
  refine ab ?_
  refine ax rfl rfl ?_
  refine aC rfl (aw rfl LO) ⟨rfl,trivial⟩ ?_
  refine bV rfl rfl rfl (ap rfl Ls mP rfl) ⟨rfl,trivial⟩ ?_
  refine aC rfl (jY rfl rfl tp) ⟨rfl,trivial⟩ ?_
  refine aC rfl (bm rfl) ⟨rfl,rfl,trivial⟩ ?_
  refine ao ?_
  refine ae ?_
  show JC _ _ _ _ _
  refine bL rfl (fun hb=>?_) (fun hb=>?_)
  ·
   replace h:=cp (me hb) h
   obtain⟨r1,Q,h⟩:=aa h
   have cv:=su k a0 (q1,j) rl r1 y m z Q
   refine aS ?_
   refine ae ?_
   show JC _ _ _ _ _
   refine ag ?_
   refine aj ?_
   refine ag ?_
   refine ab ?_
   refine ax rfl rfl ?_
   refine ax rfl rfl ?_
   refine aC rfl (dN [(0,.tmp 66,_),(1,.tmp 67,_)] rfl MN sj K0 (jM ⟨rfl,rfl,trivial⟩) rfl) ⟨rfl,rfl,trivial⟩ ?_
   refine aF rfl rfl rfl (bR rfl sj vp) trivial fun e=>?_
   refine bi rfl rfl (bh rfl gU trivial rfl rfl) ⟨rfl,rfl,trivial⟩ ?_
   refine cu (pR (a':=.rep fk (q1,j)) QG) ?_
   refine ao ?_
   refine ae ?_
   show JC _ _ _ _ _
   refine ag ?_
   refine ab ?_
   refine ax rfl rfl ?_
   refine bV rfl rfl rfl (ap rfl gU (yz) rfl) ⟨rfl,trivial⟩ ?_
   refine cu (ff (Δ':=([.obj y 128 (.agg (.pair (.at au (a0,.map (some m))) (.eq z.1)))]++dK 23 z rl)++[.obj e 131 (.rep fk (q1,j)),.obj b2 25 (.rep aB a0),.inv m (bN k a0),.inv 0 dO,.sl c 131 fk rp]) (List.perm_append_comm (l₁:=([.obj e 131 (.rep fk (q1,j)),.obj b2 25 (.rep aB a0),.inv m (bN k a0),.inv 0 dO,.sl c 131 fk rp]:List D)))) ?_
   refine bJ (Δ:=_++_) (F:=[_,_,_,_,_]) (fun _ _ _=>av rfl _) rfl rfl (ak [.tmp 69,.tmp 70] rfl rfl PH rfl cv) ⟨rfl,rfl,trivial⟩ fun _=>?_
   refine cu (ff (Δ':=[.obj e 131 (.rep fk (q1,j)),.obj b2 25 (.rep aB a0),.inv m (bN k a0),.inv 0 dO,.sl c 131 fk rp]++([.obj y 128 (.agg (.pair (.at au (a0,.map (some m))) (.eq z.1)))]++dK 23 z r1.2)) List.perm_append_comm) ?_
   refine ao ?_
   refine ae ?_
   show JC _ _ _ _ _
   refine bL rfl (fun hb=>?_) (fun hb=>?_)
   ·
    replace h:=cp (DK hb) h
    have hk:bT (rp.length+1):=by
     apply Classical.byContradiction
     intro hn
     rw [if_neg hn] at h
     cases h
    replace h:=cp hk h
    refine ab ?_
    refine ax rfl rfl ?_
    refine bV rfl rfl rfl (ap rfl gU (yz) rfl) ⟨rfl,trivial⟩ ?_
    refine aC rfl (bF (t:=fk) [(.tmp 73,_)] [(q1,j)] rfl rfl FW (.cons rfl .rep .nil) rfl rfl) ⟨rfl,trivial⟩ ?_
    refine bK 4 rfl ?_
    refine dF rfl rfl rfl (bX rfl rfl FW (by simpa using hk)) ⟨rfl,rfl,trivial⟩ fun v'=>?_
    refine de rfl rfl ?_
    refine ao ?_
    refine aO ?_
    refine ae ?_
    show JC _ _ _ _ _
    refine ab ?_
    refine ax rfl rfl ?_
    obtain⟨w2,ew2,h⟩:=aa h
    refine aC rfl (bb rfl ew2) ⟨rfl,rfl,trivial⟩ ?_
    refine de rfl rfl ?_
    refine ao ?_
    refine ae ?_
    exact fX (v',(w2,rp++[(q1,j)],r1.2)) h (aQ [.sl v' 131 fk (rp++[(q1,j)]),.obj e 131 (.rep fk (q1,j)),.obj b2 25 (.rep aB a0),.inv m (bN k a0),.inv 0 dO,.obj y 128 (.agg (.pair (.at au (a0,.map (some m))) (.eq z.1)))] (dK 23 z r1.2) [2,3,4,0,5] ⟨rfl,rfl,rfl,rfl,rfl,rfl,rfl,rfl,trivial⟩ rfl)
   ·
    replace h:=bH (DL hb) h
    refine aS ?_
    refine aO ?_
    refine ae ?_
    show JC _ _ _ _ _
    refine ab ?_
    refine ax rfl rfl ?_
    obtain⟨w2,ew2,h⟩:=aa h
    refine aC rfl (bb rfl ew2) ⟨rfl,rfl,trivial⟩ ?_
    refine de rfl rfl ?_
    refine ao ?_
    refine ae ?_
    exact fX (c,(w2,rp,r1.2)) h (aQ [.obj e 131 (.rep fk (q1,j)),.obj b2 25 (.rep aB a0),.inv m (bN k a0),.inv 0 dO,.sl c 131 fk rp,.obj y 128 (.agg (.pair (.at au (a0,.map (some m))) (.eq z.1)))] (dK 23 z r1.2) [1,2,3,4,5] ⟨rfl,rfl,rfl,rfl,rfl,rfl,rfl,rfl,trivial⟩ rfl)
  replace h:=bH (lY hb) h
  refine dh ?_
  refine aI ?_
  refine aI ?_
  refine bO ?_
  refine aO ?_
  refine ae ?_
  show JC _ _ _ _ _
  replace h:(eW k a0 n (w,rp,rl)).bind _=some r:=h
  refine ab ?_
  refine aC rfl (bb rfl ew) ⟨rfl,rfl,trivial⟩ ?_
  refine ax rfl rfl ?_
  refine ao ?_
  refine ae ?_
  exact fX (c,(w,rp,rl)) h (aQ [.obj b2 25 (.rep aB a0),.inv m (bN k a0),.inv 0 dO,.sl c 131 fk rp,.obj y 128 (.agg (.pair (.at au (a0,.map (some m))) (.eq z.1)))] (dK 23 z rl) [0,1,2,3,4] ⟨rfl,rfl,rfl,rfl,rfl,rfl,trivial⟩ rfl)
 replace h:=bH (lY hb) h
 refine dh ?_
 refine aI ?_
 refine aI ?_
 refine bO ?_
 refine ae ?_
 show JC _ _ _ _ _
 replace h:((jt k a0 qp ql).bind fun b=>if(!b.2.2.1 || decide (L.1≤b.2.1))=true then some (0,0,0,11) else some (b.1.1,b.1.2,b.2.1,0)).bind some=some r:=h
 obtain⟨b,eb,h⟩:=aa h
 have cx:=vG k a0 qp ql b y m z eb
 refine ag ?_
 refine ab ?_
 refine ax rfl rfl ?_
 refine aC rfl (sM [.tmp 78] [] [bP y] [] rfl rfl rfl) ⟨rfl,trivial⟩ ?_
 refine bK 3 rfl ?_
 refine cu (f9 [13] ⟨rfl,trivial⟩) ?_
 refine ax rfl rfl ?_
 refine cu (aQ (Γ':=[(8,.eq (.int .i64 L.1)),(79,.eq (.func (.func 100) #[bP y] #[])),(80,Rs fk qp)]) (pre':=[.inv 0 dO,.obj b2 25 (.rep aB a0),.inv m (bN k a0),.obj y 128 (.agg (.pair (.at au (a0,.map (some m))) (.eq z.1)))]) [.obj b2 25 (.rep aB a0),.inv m (bN k a0),.inv 0 dO,.obj y 128 (.agg (.pair (.at au (a0,.map (some m))) (.eq z.1)))] (dK 23 z ql) [2,0,1,3] ⟨rfl,rfl,rfl,trivial⟩ rfl) ?_
 refine cu (ff (Δ':=([.inv m (bN k a0),.obj y 128 (.agg (.pair (.at au (a0,.map (some m))) (.eq z.1)))]++dK 23 z ql)++[.inv 0 dO,.obj b2 25 (.rep aB a0)]) (List.perm_append_comm (l₁:=([.inv 0 dO,.obj b2 25 (.rep aB a0)]:List D)))) ?_
 refine bJ (Δ:=_++_) (F:=[_,_]) (fun _ _ _=>av rfl _) rfl rfl (dL [.tmp 79,.tmp 80] rfl rfl PG rfl cx) ⟨rfl,rfl,trivial⟩ fun _=>?_
 refine cu (ff (Δ':=[.inv 0 dO,.obj b2 25 (.rep aB a0)]++([.inv m (bN k a0),.obj y 128 (.agg (.pair (.at au (a0,.map (some m))) (.eq z.1)))]++dK 23 z b.2.2.2)) List.perm_append_comm) ?_
 refine ax rfl rfl ?_
 refine aC rfl (ia rfl rfl) ⟨rfl,trivial⟩ ?_
 refine aC rfl (ia rfl rfl) ⟨rfl,trivial⟩ ?_
 refine aC rfl (ia rfl rfl) ⟨rfl,trivial⟩ ?_
 refine aF rfl rfl rfl (bR rfl sj vp) trivial fun s=>?_
 refine bi rfl rfl (bh rfl gU rfl rfl rfl) ⟨rfl,rfl,trivial⟩ ?_
 refine de rfl rfl ?_
 refine de rfl rfl ?_
 refine ao ?_
 refine ae ?_
 show JC _ _ _ _ _
 obtain⟨bx,bn,bo,bl⟩:=b
 cases bo with
 |false=>
  replace h:some (0,0,0,11)=some r:=by simpa using h
  obtain rfl:=Option.some.inj h
  refine ag ?_
  refine ag ?_
  refine ab ?_
  refine ax rfl rfl ?_
  refine aC rfl (d5 rfl) ⟨rfl,trivial⟩ ?_
  refine ax rfl rfl ?_
  refine yp rfl rfl rfl rfl rfl rfl rfl ?_
  refine yp rfl rfl rfl rfl rfl rfl rfl ?_
  refine yp rfl rfl rfl rfl rfl rfl rfl ?_
  refine aC rfl (uQ rfl) ⟨rfl,rfl,trivial⟩ ?_
  refine ao ?_
  refine ae ?_
  show JC _ _ _ _ _
  refine bL rfl (fun hb=>?_) (fun hb=>(by cases hb))
  refine ag ?_
  refine ab ?_
  refine dG rfl ?_
  refine dG rfl ?_
  refine dG rfl ?_
  refine dG rfl ?_
  refine ao ?_
  refine ae ?_
  show JC _ _ _ _ _
  refine aA ?_
  refine aP ?_
  refine cN 1 rfl ?_
  exact aE () [_,_,_,_] 1 ⟨rfl,rfl,rfl,rfl,trivial⟩ rfl
 |true=>
  refine ag ?_
  refine ag ?_
  refine ab ?_
  refine ax rfl rfl ?_
  refine aC rfl (d5 rfl) ⟨rfl,trivial⟩ ?_
  refine ax rfl rfl ?_
  refine mM rfl rfl rfl rfl rfl rfl (aW rfl) ⟨rfl,trivial⟩ ?_
  refine mM rfl rfl rfl rfl rfl rfl (aW rfl) ⟨rfl,trivial⟩ ?_
  refine mM rfl rfl rfl rfl rfl rfl (qi rfl) ⟨rfl,rfl,trivial⟩ ?_
  refine aC rfl (uR rfl) ⟨rfl,rfl,trivial⟩ ?_
  refine ao ?_
  refine ae ?_
  show JC _ _ _ _ _
  refine bL rfl (fun hb=>?_) (fun hb=>?_)
  ·
   have hd:L.1≤bn:=of_decide_eq_true hb
   replace h:some (0,0,0,11)=some r:=by simpa [hd] using h
   obtain rfl:=Option.some.inj h
   refine ag ?_
   refine ab ?_
   refine dG rfl ?_
   refine dG rfl ?_
   refine dG rfl ?_
   refine dG rfl ?_
   refine ao ?_
   refine ae ?_
   show JC _ _ _ _ _
   refine aA ?_
   refine aP ?_
   refine cN 1 rfl ?_
   exact aE () [_,_,_,_] 1 ⟨rfl,rfl,rfl,rfl,trivial⟩ rfl
  ·
   have hd:¬L.1≤bn:=of_decide_eq_false hb
   replace h:some (bx.1,bx.2,bn,0)=some r:=by simpa [hd] using h
   refine aS ?_
   refine ae ?_
   obtain rfl:=Option.some.inj h
   show JC _ _ _ _ _
   refine ag ?_
   refine vz (Δ:=[.obj s 131 (.rep fk bx)]) (F:=[.inv 0 dO,.obj b2 25 (.rep aB a0),.inv m (bN k a0),.obj y 128 (.agg (.pair (.at au (a0,.map (some m))) (.eq z.1)))]++dK 23 z bl) (Z:=Unit) (fun _=>[(4,.eq (.int .i64 bx.1)),(5,.eq (.int .i64 bx.2)),(6,.eq (.int .i64 bn)),(7,.eq (.int .i64 0))]) (fun _=>[.obj s 131 (.rep fk bx)]) (fun S w=>?_) (fun _=>?_)
   ·
    refine eH (SE.sub (Γ':=[(17,.eq (bP s)),(18,.eq (.int .i64 bn))]) ⟨rfl,rfl,trivial⟩) ?_
    refine kU ?_
    refine aN rfl rfl rfl (aw rfl Nz) ⟨rfl,trivial⟩ ?_
    refine fw 0 rfl rfl rfl rfl (ap rfl tQ mP rfl) ⟨rfl,trivial⟩ ?_
    refine aN rfl rfl rfl (aw rfl Ny) ⟨rfl,trivial⟩ ?_
    refine fw 0 rfl rfl rfl rfl (ap rfl tQ mP rfl) ⟨rfl,trivial⟩ ?_
    refine aN rfl rfl rfl (aW rfl) ⟨rfl,trivial⟩ ?_
    refine pr 5 [true,true,false,false,false] [4,5,6,7] [0] [.obj s 131 (.rep fk bx)] rfl (by kernel_rfl) (by kernel_rfl) (by kernel_rfl) qH (fun vs hv hB=>?_)
    obtain⟨u0,mc,rfl,O⟩:=ar hv
    obtain⟨u1,ac,rfl,M⟩:=ar O
    obtain⟨u2,Y,rfl,E⟩:=ar M
    obtain⟨u3,X,rfl,x⟩:=ar E
    obtain⟨u4,U,rfl,u⟩:=ar x
    obtain rfl:=my u
    refine⟨[0],[],by kernel_rfl,by decide,?_⟩
    refine nV rfl rfl rfl rfl (iG rfl) ⟨rfl,trivial⟩ (by kernel_rfl) ?_
    refine nV rfl rfl rfl rfl (iG rfl) ⟨rfl,trivial⟩ (by kernel_rfl) ?_
    refine nV rfl rfl rfl rfl (iG rfl) ⟨rfl,trivial⟩ (by kernel_rfl) ?_
    refine nV rfl rfl rfl rfl (iG rfl) ⟨rfl,trivial⟩ (by kernel_rfl) ?_
    refine tq ?_
    exact fun a w st=>⟨rfl,(),(SE.fin (Γ':=[(4,.eq (.int .i64 bx.1)),(5,.eq (.int .i64 bx.2)),(6,.eq (.int .i64 bn)),(7,.eq (.int .i64 0))]) [0] ⟨rfl,rfl,rfl,rfl,trivial⟩ rfl) a w st⟩
   ·
    refine ae ?_
    show JC _ _ _ _ _
    refine aA ?_
    refine cN 1 rfl ?_
    exact aE () [_,_,_,_] 1 ⟨rfl,rfl,rfl,rfl,trivial⟩ rfl
def jK(k:Nat)(a0:(List Int))(a1:dk)(a2:(List (List Int)))(a3:Int)(a4:Int):Option Int:=
 (dZ k a1 a2).bind fun r1=>
 (aZ r1 a3).bind fun x3=>
 (dn k (List.set r1 (Int.toNat a3) a0)).bind fun r4=>
 (f4 k a1 r4 a4).bind fun r5=>
 some r5
theorem tP(k:Nat)(a0:(List Int))(a1:dk)(l:Nat)(a2:(List (List Int)))(j:Nat)(a3:Int)(e:Nat)(a4:Int)(c:Nat)(r:Int)(h:jK k a0 a1 a2 a3 a4=some r):
 dC (iU Tryz.prog) 104 [Ri a0,Pt l,Pt j,Pt e,Pt c] [.obj l 102 (.at bM a1),.obj j 107 (.rep (.arr 3 (.arr 5 (.int .i64))) a2),.obj e 3 (I a3),.obj c 3 (I a4)] (fun _:Unit=>(bq [I r],[.obj l 102 (.at bM a1),.obj j 107 (.rep (.arr 3 (.arr 5 (.int .i64))) a2),.obj e 3 (I a3),.obj c 3 (I a4)])):=by
 unfold jK at h
 replace h:=a9 h
 refine dC.of 20 Tryz.func104 rfl Tryz.ntmps104 rfl fun S w0=>?_
 refine sr ?_
 refine cq ?_
 refine nt ?_
 refine sr ?_
 refine lo rf ?_
 refine fr 1 ?_
 refine lo di ?_
 obtain⟨r1,x,h⟩:=aa h
 have E:=ii k a1 a2 r1 x
 refine aF rfl rfl rfl (ak [.tmp 8,.tmp 9] rfl rfl KJ rfl E) ⟨rfl,rfl,trivial⟩ fun v2=>?_
 refine aq ?_
 refine nt ?_
 refine sr ?_
 refine mq ?_
 refine fr 3 ?_
 refine lo cP ?_
 refine mq ?_
 obtain⟨x3,n,h⟩:=aa h
 refine fr 1 ?_
 refine kb (be (t:=(.slice (.int .i64))) rfl k9 bW n) ?_
 refine bi rfl rfl (cX (i:=Int.toNat a3) rfl bW rfl (ik n) rfl .rep rfl) ⟨rfl,rfl,trivial⟩ ?_
 refine nt ?_
 refine ag ?_
 refine eH (f9 [7,10,11] ⟨rfl,rfl,rfl,trivial⟩) ?_
 refine cy ?_
 refine ea 2 (ap rfl rf mP rfl) ?_
 refine dm ?_
 obtain⟨r4,u,h⟩:=aa h
 have D:=d4 k (List.set r1 (Int.toNat a3) a0) r4 u
 refine da (ak [.tmp 16] rfl rfl BJ rfl D) ?_
 refine ea 3 (ap rfl cP mP rfl) ?_
 refine df fo ?_
 obtain⟨r5,s,h⟩:=aa h
 have y:=mj k a1 r4 a4 r5 s
 refine jc (dL [.tmp 15,.tmp 17,.tmp 18] rfl rfl LX rfl y) ?_
 refine aq ?_
 refine nt ?_
 refine aA ?_
 refine bv (SE.fin (Γ':=[(6,_)]) [2,1,0,3] ⟨rfl,trivial⟩ rfl) ?_
 cases h
 exact aE () [_] 4 ⟨rfl,trivial⟩ rfl
def co(k:Nat)(a0_0:dk)(a0_1:(List (List Int)))(a0_2:Int)(a0_3:Int)(a1:(List (List Int))):Nat→((List Int)×Int×Bool×Int)→Option ((List Int)×Int×Bool)
 |0,_=>none
 |n+1,y3=>
  if y3.2.2.2 < (a1.length:Int) then((((aZ a1 y3.2.2.2).bind fun x7=>
  (jK k x7 a0_0 a0_1 a0_2 a0_3).bind fun r8=>
  ((if¬(y3.2.2.1=true) then(some true) else(some (decide (r8 < y3.2.1)))):Option (Bool)).bind fun x9=>
  if x9=true then(some (x7,r8,true)) else(some (y3.1,y3.2.1,y3.2.2.1))):Option ((List Int)×Int×Bool)).bind fun x5=>
  (ck (y3.2.2.2+1)).bind fun c=>
  co k a0_0 a0_1 a0_2 a0_3 a1 n (x5.1,x5.2.1,x5.2.2,c)) else(some (y3.1,y3.2.1,y3.2.2.1))
def ir(k:Nat)(a0_0:dk)(a0_1:(List (List Int)))(a0_2:Int)(a0_3:Int)(a1:(List (List Int))):Option ((List Int)×Int×Bool):=
 ((co k a0_0 a0_1 a0_2 a0_3 a1 k ([],0,false,0)):Option ((List Int)×Int×Bool)).bind fun x1=>
 some (x1.1,x1.2.1,x1.2.2)
theorem q7(k:Nat)(a0_0:dk)(c_a0_0:Nat)(a0_1:(List (List Int)))(c_a0_1:Nat)(a0_2:Int)(c_a0_2:Nat)(a0_3:Int)(c_a0_3:Nat)(a1:(List (List Int)))(r:(List Int)×Int×Bool)(h:ir k a0_0 a0_1 a0_2 a0_3 a1=some r):
 dC (iU Tryz.prog) 106 [.eq (.func (.func 104) #[] #[(Pv c_a0_0),(Pv c_a0_1),(Pv c_a0_2),(Pv c_a0_3)]),.rep (.slice (.slice (.int .i64))) a1] [.obj c_a0_0 102 (.at bM a0_0),.obj c_a0_1 107 (.rep (.arr 3 (.arr 5 (.int .i64))) a0_1),.obj c_a0_2 3 (I a0_2),.obj c_a0_3 3 (I a0_3)] (fun _:Unit=>(bq [Ri r.1,I r.2.1,.eq (.bool r.2.2)],[.obj c_a0_0 102 (.at bM a0_0),.obj c_a0_1 107 (.rep (.arr 3 (.arr 5 (.int .i64))) a0_1),.obj c_a0_2 3 (I a0_2),.obj c_a0_3 3 (I a0_3)])):=by
 unfold ir at h
 replace h:=a9 h
 refine dC.of 35 Tryz.func106 rfl Tryz.ntmps106 rfl fun S w0=>?_
 refine sr ?_
 refine cq ?_
 refine cq ?_
 refine cq ?_
 refine nt ?_
 refine sr ?_
 refine cq ?_
 refine nt ?_
 refine sr ?_
 refine cq ?_
 refine cq ?_
 refine nt ?_
 refine aL (Z:=Unit) (α:=(List Int)×Int×Bool) (fun z2 x1=>[(7,Ri x1.1),(8,I x1.2.1),(9,.eq (.bool x1.2.2))]) (fun z2 x1=>[.obj c_a0_0 102 (.at bM a0_0),.obj c_a0_1 107 (.rep (.arr 3 (.arr 5 (.int .i64))) a0_1),.obj c_a0_2 3 (I a0_2),.obj c_a0_3 3 (I a0_3)]) h (fun K h=>?_) (fun z2 x1 h=>?_)
 ·
  refine sr (mq ?_);refine ol k9 ?_;refine fg rfl ?_;refine nt (aj (eH (lb (t:=(.slice (.int .i64))) (x:=[]) 7 rfl .nil rfl rfl) ?_));refine aG (fun z4 y3=>[(0,.eq (.func (.func 104) #[] #[(Pv c_a0_0),(Pv c_a0_1),(Pv c_a0_2),(Pv c_a0_3)])),(7,Ri y3.1),(8,I y3.2.1),(9,.eq (.bool y3.2.2.1)),(13,.rep (.slice (.slice (.int .i64))) a1),(14,I (a1.length:Int)),(15,I y3.2.2.2)]) (fun z4 y3=>[.obj c_a0_0 102 (.at bM a0_0),.obj c_a0_1 107 (.rep (.arr 3 (.arr 5 (.int .i64))) a0_1),.obj c_a0_2 3 (I a0_2),.obj c_a0_3 3 (I a0_3)]) (co k a0_0 a0_1 a0_2 a0_3 a1) k () ([],0,false,0) (fun _=>rfl) h (SE.fin [0,1,2,3] ⟨rfl,rfl,rfl,rfl,rfl,rfl,rfl,trivial⟩ rfl) (fun n z4 y3 h=>?_);unfold co at h;refine sr (jb (bm rfl) ?_);refine nt (ag (ci h (fun h=>?_) (fun h=>?_)))
  ·refine sk (aL (Z:=Unit) (α:=(List Int)×Int×Bool) (fun z6 x5=>[(0,.eq (.func (.func 104) #[] #[(Pv c_a0_0),(Pv c_a0_1),(Pv c_a0_2),(Pv c_a0_3)])),(7,Ri x5.1),(8,I x5.2.1),(9,.eq (.bool x5.2.2)),(13,.rep (.slice (.slice (.int .i64))) a1),(14,I (a1.length:Int)),(15,I y3.2.2.2)]) (fun z6 x5=>[.obj c_a0_0 102 (.at bM a0_0),.obj c_a0_1 107 (.rep (.arr 3 (.arr 5 (.int .i64))) a0_1),.obj c_a0_2 3 (I a0_2),.obj c_a0_3 3 (I a0_3)]) h (fun K h=>?_) (fun z6 x5 h=>?_))
   ·refine aj (sr ?_);obtain⟨x7,l,h⟩:=aa h;refine jb (aH (t:=(.slice (.int .i64))) rfl k9 bW l) ?_;refine ja (an (t:=(.slice (.int .i64))) rfl bW rfl) ?_;refine aq (nt (sr ?_));iterate 2 refine mq ?_
    obtain⟨r8,u,h⟩:=aa h;refine fr 3 ?_;refine fr 3 ?_;refine fr 3 ?_;refine fr 3 ?_;refine bJ (Δ:=[_,_,_,_]) (F:=_) (fun _ _ _=>av rfl _) rfl rfl (oO (fs:=[]) (cs:=[(Pv c_a0_0),(Pv c_a0_1),(Pv c_a0_2),(Pv c_a0_3)]) (ags:=[Ri x7]) [.tmp 20] rfl rfl Qu rfl (tP k x7 a0_0 c_a0_0 a0_1 c_a0_1 a0_2 c_a0_2 a0_3 c_a0_3 r8 u)) ⟨rfl,rfl,trivial⟩ fun _=>?_;refine aq (nt ?_);refine aL (Z:=Unit) (α:=Bool) (fun c x9=>[(0,.eq (.func (.func 104) #[] #[(Pv c_a0_0),(Pv c_a0_1),(Pv c_a0_2),(Pv c_a0_3)])),(7,Ri y3.1),(8,I y3.2.1),(9,.eq (.bool y3.2.2.1)),(11,Ri x7),(12,I r8),(13,.rep (.slice (.slice (.int .i64))) a1),(14,I (a1.length:Int)),(15,I y3.2.2.2),(28,.eq (.bool x9))]) (fun c x9=>[.obj c_a0_0 102 (.at bM a0_0),.obj c_a0_1 107 (.rep (.arr 3 (.arr 5 (.int .i64))) a0_1),.obj c_a0_2 3 (I a0_2),.obj c_a0_3 3 (I a0_3)]) h (fun K h=>?_) (fun c x9 h=>?_)
    ·refine ab (mq ?_);refine ja (d5 rfl) ?_;refine mq ?_;refine bC (s:=24) rfl (fun hb=>?_) (fun hb=>?_)
     ·replace h:=cp (En hb) h;iterate 3 refine gn ?_
      refine pt (nl ?_);exact jz ((),true) h [0,1,2,3]
     ·replace h:=bH (wj hb) h;refine gm ?_;refine gm ?_;refine gb (bm rfl) ?_;refine pf (nl ?_);exact jz ((),decide (r8 < y3.2.1)) h [0,1,2,3]
    ·refine cv h (fun h=>?_) (fun h=>?_)
     ·refine ab ?_;iterate 2 refine mq ?_
      refine aq ?_;refine aq ?_;refine cq (ao (bn ?_));exact jz ((),(x7,r8,true)) h [0,1,2,3]
     ·refine aS (bn ?_);exact jz ((),(y3.1,y3.2.1,y3.2.2.1)) h [0,1,2,3]
   ·refine ab ?_;obtain⟨j,e,h⟩:=aa h;refine jb (bb rfl e) ?_;refine mq (nl ?_);exact jz ((),(x5.1,x5.2.1,x5.2.2,j)) h [0,1,2,3]
  ·refine xa ?_;exact jz ((),(y3.1,y3.2.1,y3.2.2.1)) h [0,1,2,3]
 ·
  refine sr ?_;iterate 3 refine mq ?_
  refine aq ?_;refine aq ?_;refine aq (nt (aA ?_));cases h;exact aE () [_,_,_] 4 ⟨rfl,rfl,rfl,trivial⟩ rfl
def j8(k:Nat)(a0:a8)(a1:(List (List Int)))(a2:Int)(a3:Int):Option ((List Int)×Int×Int):=
 (bD k a0 a1).bind fun r4=>
 if¬(r4=0) then(some ([],0,r4)) else((((ck ((a0.2.2.length:Int) - 1)).bind fun x7=>
 (dP k a2 0 x7).bind fun r8=>
 if¬(r8=true) then(some true) else((dP k a3 0 a0.1).bind fun r9=>
 some (!r9))):Option (Bool)).bind fun x5=>
 if x5=true then(some ([],0,3)) else((dn k a1).bind fun n=>
 (gi k (a0,()) n a3).bind fun e=>
 (dX k e a2).bind fun l=>
 (ix k l).bind fun j=>
 (jr k k j).bind fun h=>
 (ir k (a0,()) e a2 a3 h).bind fun c=>
 some (c.1,c.2.1,0)))
theorem qg(k:Nat)(a0:a8)(a1:(List (List Int)))(a2:Int)(a3:Int)(r:(List Int)×Int×Int)(h:j8 k a0 a1 a2 a3=some r):
 dC (iU Tryz.prog) 42 [.rep aB a0,.rep (.slice (.slice (.int .i64))) a1,I a2,I a3] [.inv 0 (dO)] (fun _:Unit=>(bq [Ri r.1,I r.2.1,I r.2.2],[.inv 0 (dO)])):=by
 unfold j8 at h
 replace h:=a9 h
 refine dC.of 60 Tryz.func42 rfl Tryz.ntmps42 rfl fun S w0=>?_
 refine sr ?_
 refine bx fun b1=>?_
 refine bx fun b2=>?_
 refine bx fun b3=>?_
 refine cq ?_
 refine cq ?_
 refine cq ?_
 refine nt ?_
 refine ag ?_
 refine sr ?_
 refine fr 2 ?_
 refine lo fK ?_
 refine mq ?_
 obtain⟨r4,SN,h⟩:=aa h
 have SO:=cD k a0 a1 r4 SN
 refine fr 3 ?_
 refine kb (ak [.tmp 18,.tmp 19] rfl rfl BK rfl SO) ?_
 refine aq ?_
 refine nt ?_
 refine sr ?_
 refine mq ?_
 refine jb (ge rfl) ?_
 refine nt ?_
 refine cn h (fun h=>?_) (fun h=>?_)
 ·
  refine sr (mq ?_);refine cq ?_;refine cq ?_;refine aq (nt (rx ?_));refine bv (lb (t:=(.slice (.int .i64))) (x:=[]) 8 rfl .nil rfl rfl) ?_;cases h;exact aE () [_,_,_] 1 ⟨rfl,rfl,rfl,trivial⟩ rfl
 ·
  refine sk (ag (aL (Z:=Unit) (α:=Bool) (fun z6 x5=>[(1,.rep (.slice (.slice (.int .i64))) a1),(4,Pt b1),(6,Pt b2),(7,Pt b3),(37,.eq (.bool x5))]) (fun z6 x5=>[.obj b1 25 (.rep aB a0),.obj b2 3 (I a2),.obj b3 3 (I a3),.inv 0 (dO)]) h (fun K h=>?_) (fun z6 x5 h=>?_)))
  ·refine ab (fr 3 ?_);refine lo cP ?_;refine fl fD ?_;refine fr 2 ?_;refine lo bW ?_;refine ol eA ?_;obtain⟨x7,SJ,h⟩:=aa h;refine jb (fQ rfl SJ) ?_;obtain⟨r8,SL,h⟩:=aa h;refine jc (ak [.tmp 24,.const (.int .i64 (0)),.tmp 28] rfl rfl yc rfl (dV k a2 0 x7 r8 SL)) ?_;refine ja (d5 rfl) ?_;refine mq ?_;refine bC (s:=31) rfl (fun hb=>?_) (fun hb=>?_)
   ·replace h:=cp (En hb) h;iterate 5 refine gn ?_
    refine pt (nl ?_);exact jz ((),true) h [0,1,3,2]
   ·replace h:=bH (wj hb) h;refine fr 3 ?_;refine jV rfl rfl rfl rfl rfl rfl (ap rfl cP mP rfl) ⟨rfl,trivial⟩ ?_;refine ga (aw rfl kZ) ?_;refine fr 1 ?_;refine jV rfl rfl rfl rfl rfl rfl (ap rfl cP mP rfl) ⟨rfl,trivial⟩ ?_;obtain⟨r9,SK,h⟩:=aa h;refine gc (ak [.tmp 32,.const (.int .i64 (0)),.tmp 34] rfl rfl yc rfl (dV k a3 0 a0.1 r9 SK)) ?_;refine ga (d5 rfl) ?_;refine pf (nl ?_);exact jz ((), !r9) h [0,2,1,3]
  ·refine cv h (fun h=>?_) (fun h=>?_)
   ·refine sr (cq ?_);refine cq ?_;refine cq (nt (rx ?_));refine bv (lb (t:=(.slice (.int .i64))) (x:=[]) 8 rfl .nil rfl rfl) ?_;refine bv (SE.fin (Γ':=[(8,_),(9,_),(10,_)]) [3,0,1,2] ⟨rfl,rfl,rfl,trivial⟩ rfl) ?_;cases h;exact aE () [_,_,_] 1 ⟨rfl,rfl,rfl,trivial⟩ rfl
   ·refine sk (sr (lo fK ?_));refine aF rfl rfl rfl (ak [.tmp 38] rfl rfl Ip rfl (gj a0)) ⟨rfl,trivial⟩ fun c=>?_;refine cu (ko (bN k a0) lC) ?_;refine aF rfl rfl rfl (bR rfl OH QF) trivial fun j=>?_;refine bi rfl rfl (bh rfl rf trivial rfl rfl) ⟨rfl,rfl,trivial⟩ ?_;refine nt (ag (kU ?_));refine fw 0 rfl rfl rfl rfl (ap rfl rf mP rfl) ⟨rfl,trivial⟩ ?_;refine aN rfl rfl rfl (aW rfl) ⟨rfl,trivial⟩ ?_;obtain⟨u,U,h⟩:=aa h;refine aN rfl rfl rfl (ak [.tmp 41] rfl rfl BJ rfl (d4 k a1 u U)) ⟨rfl,trivial⟩ ?_;refine fw 4 rfl rfl rfl rfl (ap rfl cP mP rfl) ⟨rfl,trivial⟩ ?_;obtain⟨l,Q,h⟩:=aa h;refine aN rfl rfl rfl (dz (N:=[(.tmp 40,.at au (a0,(.map (some c)))),(.tmp 42,.rep (.arr 3 (.arr 5 (.int .i64))) u),(.tmp 43,I a3)]) (ak [.tmp 40,.tmp 42,.tmp 43] rfl rfl LY rfl (ml k (a0,()) u a3 l Q)) fun _ _ _ hn=>⟨(pi hn.1),hn.2.1,hn.2.2.1,trivial⟩) ⟨rfl,rfl,rfl,trivial⟩ ?_;refine Dw (MM 107 (.rep (.arr 3 (.arr 5 (.int .i64))) [[0,0,0,0,0],[0,0,0,0,0],[0,0,0,0,0]])) (fun _=>rfl) rfl rfl rfl (bR rfl mQ nr) trivial ?_;refine pr 6 [true,true,true,true,true,true] [] [] [] rfl (by kernel_rfl) (by kernel_rfl) (by kernel_rfl) fo (fun vs hv hB=>?_);obtain⟨w0,SY,rfl,se⟩:=ar hv;obtain⟨w1,SX,rfl,qt⟩:=ar se;obtain⟨w2,SV,rfl,pp⟩:=ar qt;obtain⟨w3,SU,rfl,mc⟩:=ar pp;obtain⟨w4,SS,rfl,ac⟩:=ar mc;obtain⟨w5,SR,rfl,Y⟩:=ar ac;obtain rfl:=my Y;obtain⟨e,rfl⟩:=ML hB.2.2.2.2.2.1;refine⟨[0,1,2,3,4,5,6],[.obj j 102 (.at au (a0,(.map (some c)))),.inv c (bN k a0),.obj b1 25 (.rep aB a0),.obj b2 3 (I a2),.obj b3 3 (I a3),.inv 0 (dO),.obj e 107 (.rep (.arr 3 (.arr 5 (.int .i64))) [[0,0,0,0,0],[0,0,0,0,0],[0,0,0,0,0]])],by kernel_rfl,by decide,?_⟩;refine l7 6 rfl ?_;refine qT rfl rfl (bh rfl di rfl rfl rfl) ⟨rfl,rfl,trivial⟩ (by kernel_rfl) ?_;refine tq ?_;refine bv (SE.fin (Γ':=[(6,Pt b2),(7,Pt b3),(12,Pt j),(13,Pt e)]) (Δ':=[.obj e 107 (.rep (.arr 3 (.arr 5 (.int .i64))) l),.obj j 102 (.at au (a0,(.map (some c)))),.inv c (bN k a0),.obj b1 25 (.rep aB a0),.obj b2 3 (I a2),.obj b3 3 (I a3),.inv 0 (dO)]) [0,1,2,3,4,5,6] ⟨rfl,rfl,rfl,rfl,trivial⟩ rfl) ?_;refine tn (sr (aC rfl (sM [] [.tmp 12,.tmp 13,.tmp 6,.tmp 7] [] [(Pv j),(Pv e),(Pv b2),(Pv b3)] rfl rfl rfl) ⟨rfl,rfl,rfl,rfl,trivial⟩ ?_));refine aq (nt (sr ?_));refine mq ?_;refine lo di ?_;refine fr 4 ?_;refine lo cP ?_;obtain⟨n,O,h⟩:=aa h;refine jb (ak [.tmp 48,.tmp 49] rfl rfl Dc rfl (gl k l a2 n O)) ?_;refine aF rfl rfl rfl (ak [.tmp 50] rfl rfl Qp rfl (rj n)) ⟨rfl,trivial⟩ fun SQ=>?_;obtain⟨D,M,h⟩:=aa h;refine ka (ak [.tmp 51] rfl rfl Qq rfl (rm k n SQ D M)) ?_;obtain⟨y,J,h⟩:=aa h;refine ja (ak [.tmp 52] rfl rfl LW rfl (vF k k D y J)) ?_;refine fr 3 ?_;refine cu (pR (a:=.at au (a0,(.map (some c)))) (a':=.at bM (a0,())) N8) ?_
    obtain⟨X,E,h⟩:=aa h;refine fr 6 ?_;refine fr 3 ?_;refine fr 4 ?_;refine fr 3 ?_;refine bJ (Δ:=[_,_,_,_]) (F:=_) (fun _ _ _=>av rfl _) rfl rfl (dL [.tmp 47,.tmp 53] rfl rfl Qs rfl (q7 k (a0,()) j l e a2 b2 a3 b3 y X E)) ⟨rfl,rfl,trivial⟩ fun _=>?_;refine mq ?_;refine xr ?_;refine xr ?_;refine xr ?_;refine aq ?_;refine aq ?_;refine aq (nt (sr ?_));iterate 2 refine mq ?_
    refine aq ?_;refine aq ?_;refine cq (nt (aA ?_));refine bv (SE.fin (Γ':=[(8,_),(9,_),(10,_)]) [7,0,1,2,3,4,5,6] ⟨rfl,rfl,rfl,trivial⟩ rfl) ?_;cases h;exact aE () [_,_,_] 1 ⟨rfl,rfl,rfl,trivial⟩ rfl
def ij(k:Nat)(a0:a8)(a1:(List (List (List Int)))):Nat→((List (List Int))×Int×Bool×Int)→Option ((List (List Int))×Int×Bool)
 |0,_=>none
 |n+1,y5=>
  if y5.2.2.2 < (a1.length:Int) then((((aZ a1 y5.2.2.2).bind fun x9=>
  (ct k a0 x9).bind fun c=>
  ((if¬(y5.2.2.1=true) then(some true) else(some (decide (c < y5.2.1)))):Option (Bool)).bind fun h=>
  if h=true then(some (x9,c,true)) else(some (y5.1,y5.2.1,y5.2.2.1))):Option ((List (List Int))×Int×Bool)).bind fun x7=>
  (ck (y5.2.2.2+1)).bind fun e=>
  ij k a0 a1 n (x7.1,x7.2.1,x7.2.2,e)) else(some (y5.1,y5.2.1,y5.2.2.1))
def lG(k:Nat)(a0:a8)(a1:(List (List (List Int)))):Option ((List (List Int))×Int×Bool):=
 ((ij k a0 a1 k ([[0,0,0,0,0],[0,0,0,0,0],[0,0,0,0,0]],0,false,0)):Option ((List (List Int))×Int×Bool)).bind fun x3=>
 some (x3.1,x3.2.1,x3.2.2)
theorem q8(k:Nat)(a0:a8)(z_a0:Nat)(a1:(List (List (List Int))))(r:(List (List Int))×Int×Bool)(h:lG k a0 a1=some r):
 dC (iU Tryz.prog) 114 [.fn 111 (ug [.at au (a0,(.map (some z_a0)))]),.rep (.slice (.arr 3 (.arr 5 (.int .i64)))) a1] [.inv z_a0 (bN k a0)] (fun _:Unit=>(bq [.rep (.arr 3 (.arr 5 (.int .i64))) r.1,I r.2.1,.eq (.bool r.2.2)],[.inv z_a0 (bN k a0)])):=by
 unfold lG at h
 replace h:=a9 h
 refine dC.of 35 Tryz.func114 rfl Tryz.ntmps114 rfl fun S w0=>?_
 refine sr ?_
 refine aF rfl rfl rfl (bR rfl mQ nr) trivial fun b1=>?_
 refine cq ?_
 refine cq ?_
 refine nt ?_
 refine sr ?_
 refine aF rfl rfl rfl (bR rfl mQ nr) trivial fun b2=>?_
 refine nt ?_
 refine sr ?_
 refine cq ?_
 refine cq ?_
 refine nt ?_
 refine aL (Z:=Unit) (α:=(List (List Int))×Int×Bool) (fun z4 x3=>[(4,Pt b1),(7,Pt b2),(8,I x3.2.1),(9,.eq (.bool x3.2.2))]) (fun z4 x3=>[.obj b1 107 (.rep (.arr 3 (.arr 5 (.int .i64))) [[0,0,0,0,0],[0,0,0,0,0],[0,0,0,0,0]]),.obj b2 107 (.rep (.arr 3 (.arr 5 (.int .i64))) x3.1),.inv z_a0 (bN k a0)]) h (fun K h=>?_) (fun z4 x3 h=>?_)
 ·
  refine sr (mq ?_);refine ol QK ?_;refine fg rfl ?_;refine nt (aj (aG (fun z6 y5=>[(0,.fn 111 (ug [.at au (a0,(.map (some z_a0)))])),(4,Pt b1),(7,Pt b2),(8,I y5.2.1),(9,.eq (.bool y5.2.2.1)),(13,.rep (.slice (.arr 3 (.arr 5 (.int .i64)))) a1),(14,I (a1.length:Int)),(15,I y5.2.2.2)]) (fun z6 y5=>[.obj b1 107 (.rep (.arr 3 (.arr 5 (.int .i64))) [[0,0,0,0,0],[0,0,0,0,0],[0,0,0,0,0]]),.obj b2 107 (.rep (.arr 3 (.arr 5 (.int .i64))) y5.1),.inv z_a0 (bN k a0)]) (ij k a0 a1) k () ([[0,0,0,0,0],[0,0,0,0,0],[0,0,0,0,0]],0,false,0) (fun _=>rfl) h (SE.fin [1,0,2] ⟨rfl,rfl,rfl,rfl,rfl,rfl,rfl,rfl,trivial⟩ rfl) (fun n z6 y5 h=>?_)));unfold ij at h;refine sr (jb (bm rfl) ?_);refine nt (ag (ci h (fun h=>?_) (fun h=>?_)))
  ·refine sk (aL (Z:=Unit) (α:=(List (List Int))×Int×Bool) (fun z8 x7=>[(0,.fn 111 (ug [.at au (a0,(.map (some z_a0)))])),(4,Pt b1),(7,Pt b2),(8,I x7.2.1),(9,.eq (.bool x7.2.2)),(13,.rep (.slice (.arr 3 (.arr 5 (.int .i64)))) a1),(14,I (a1.length:Int)),(15,I y5.2.2.2)]) (fun z8 x7=>[.obj b1 107 (.rep (.arr 3 (.arr 5 (.int .i64))) [[0,0,0,0,0],[0,0,0,0,0],[0,0,0,0,0]]),.obj b2 107 (.rep (.arr 3 (.arr 5 (.int .i64))) x7.1),.inv z_a0 (bN k a0)]) h (fun K h=>?_) (fun z8 x7 h=>?_))
   ·refine aj (sr ?_);obtain⟨x9,D,h⟩:=aa h;refine jb (aH (t:=(.arr 3 (.arr 5 (.int .i64)))) rfl QK di D) ?_;refine ja (an (t:=(.arr 3 (.arr 5 (.int .i64)))) rfl di rfl) ?_;refine aF rfl rfl rfl (bR rfl mQ nr) trivial fun x=>?_;refine bi rfl rfl (bh rfl di rfl rfl rfl) ⟨rfl,rfl,trivial⟩ ?_;refine nt (sr (mq ?_));refine lo di ?_;obtain⟨c,u,h⟩:=aa h;refine fr 3 ?_;refine kb (GL (fs:=[.at au (a0,(.map (some z_a0)))]) (ags:=[.rep (.arr 3 (.arr 5 (.int .i64))) x9]) [.tmp 20] rfl rfl LV rfl (jI k a0 z_a0 x9 c u)) ?_;refine aq (nt ?_);refine aL (Z:=Unit) (α:=Bool) (fun j e=>[(0,.fn 111 (ug [.at au (a0,(.map (some z_a0)))])),(4,Pt b1),(7,Pt b2),(8,I y5.2.1),(9,.eq (.bool y5.2.2.1)),(11,Pt x),(12,I c),(13,.rep (.slice (.arr 3 (.arr 5 (.int .i64)))) a1),(14,I (a1.length:Int)),(15,I y5.2.2.2),(28,.eq (.bool e))]) (fun j e=>[.obj b1 107 (.rep (.arr 3 (.arr 5 (.int .i64))) [[0,0,0,0,0],[0,0,0,0,0],[0,0,0,0,0]]),.obj b2 107 (.rep (.arr 3 (.arr 5 (.int .i64))) y5.1),.obj x 107 (.rep (.arr 3 (.arr 5 (.int .i64))) x9),.inv z_a0 (bN k a0)]) h (fun K h=>?_) (fun j e h=>?_)
    ·refine ab (mq ?_);refine ja (d5 rfl) ?_;refine mq ?_;refine bC (s:=24) rfl (fun hb=>?_) (fun hb=>?_)
     ·replace h:=cp (En hb) h;iterate 3 refine gn ?_
      refine pt (nl ?_);exact jz ((),true) h [2,3,1,0]
     ·replace h:=bH (wj hb) h;refine gm ?_;refine gm ?_;refine gb (bm rfl) ?_;refine pf (nl ?_);exact jz ((),decide (c < y5.2.1)) h [2,3,1,0]
    ·refine cv h (fun h=>?_) (fun h=>?_)
     ·refine ab (fr 2 ?_);refine lo di ?_;refine mq ?_;refine fr 2 ?_;refine bi rfl rfl (bh rfl di rfl rfl rfl) ⟨rfl,rfl,trivial⟩ ?_;refine aq ?_;refine cq (ao (bn ?_));exact jz ((),(x9,c,true)) h [2,0,3]
     ·refine aS (bn ?_);exact jz ((),(y5.1,y5.2.1,y5.2.2.1)) h [0,1,3]
   ·refine ab ?_;obtain⟨y,l,h⟩:=aa h;refine jb (bb rfl l) ?_;refine mq (nl ?_);exact jz ((),(x7.1,x7.2.1,x7.2.2,y)) h [0,1,2]
  ·refine xa ?_;exact jz ((),(y5.1,y5.2.1,y5.2.2.1)) h [0,1,2]
 ·
  refine sr (fr 1 ?_);refine lo di ?_;iterate 2 refine mq ?_
  refine fr 1 ?_;refine bi rfl rfl (bh rfl di rfl rfl rfl) ⟨rfl,rfl,trivial⟩ ?_;refine aq ?_;refine aq (nt (aA ?_));refine bv (SE.fin (Γ':=[(4,_),(5,_),(6,_)]) [2,0,1] ⟨rfl,rfl,rfl,trivial⟩ rfl) ?_;cases h;exact aE () [.rep (.arr 3 (.arr 5 (.int .i64))) x3.1,_,_] 1 ⟨⟨_,_,_,_,_,rfl,(.tail _ (.head _)),di,(xG),rfl⟩,rfl,rfl,trivial⟩ rfl
def uj(k:Nat)(a0:a8):Option ((List (List Int))×Int×Int):=
 (ly k a0).bind fun r2=>
 if¬(r2=0) then(some ([],0,r2)) else((kd k (a0,())).bind fun r5=>
 (lG k a0 r5).bind fun r6=>
 if¬(r6.2.2=true) then(some ([],0,11)) else((dZ k (a0,()) r6.1).bind fun r8=>
 some (r8,r6.2.1,0)))
theorem yP(k:Nat)(a0:a8)(r:(List (List Int))×Int×Int)(h:uj k a0=some r):
 dC (iU Tryz.prog) 56 [.rep aB a0] [] (fun _:Unit=>(bq [.rep (.slice (.slice (.int .i64))) r.1,I r.2.1,I r.2.2],[])):=by
 unfold uj at h
 replace h:=a9 h
 refine dC.of 33 Tryz.func56 rfl Tryz.ntmps56 rfl fun S w0=>?_
 refine sr ?_
 refine bx fun b1=>?_
 refine cq ?_
 refine cq ?_
 refine cq ?_
 refine nt ?_
 refine ag ?_
 refine sr ?_
 refine lo fK ?_
 obtain⟨r2,l,h⟩:=aa h
 have n:=rc k a0 r2 l
 refine ja (ak [.tmp 10] rfl rfl PX rfl n) ?_
 refine aq ?_
 refine nt ?_
 refine sr ?_
 refine mq ?_
 refine jb (ge rfl) ?_
 refine nt ?_
 refine cn h (fun h=>?_) (fun h=>?_)
 ·
  refine sr (mq ?_);refine cq ?_;refine cq ?_;refine aq (nt (rx ?_));refine bv (lb (t:=(.slice (.slice (.int .i64)))) (x:=[]) 2 rfl .nil rfl rfl) ?_;cases h;exact aE () [_,_,_] 0 ⟨rfl,rfl,rfl,trivial⟩ rfl
 ·
  refine sk (sr (lo fK ?_));refine aF rfl rfl rfl (ak [.tmp 15] rfl rfl Ip rfl (gj a0)) ⟨rfl,trivial⟩ fun z3=>?_;refine cu (ko (bN k a0) lC) ?_;refine aq (nt (sr ?_));refine mq ?_;refine ja (JG [.tmp 18] [.at au (a0,(.map (some z3)))] rfl rfl) ?_;refine mq ?_;refine aF rfl rfl rfl (dz (N:=[(.tmp 20,.at au (a0,(.map (some z3))))]) (ak [.tmp 20] rfl rfl Qm rfl (oG (a0,()))) fun _ _ _ hn=>⟨pi hn.1,trivial⟩) ⟨rfl,trivial⟩ fun b4=>?_;obtain⟨r5,j,h⟩:=aa h;refine ka (ak [.tmp 21] rfl rfl Qn rfl (pX k (a0,()) b4 r5 j)) ?_;obtain⟨r6,e,h⟩:=aa h;refine fr 1 ?_;refine kb (dL [.tmp 19,.tmp 22] rfl rfl Qo rfl (q8 k a0 z3 r5 r6 e)) ?_;refine mq ?_;refine xr ?_;refine xr ?_;refine xr ?_;refine aF rfl rfl rfl (bR rfl mQ nr) trivial fun b7=>?_;refine bi rfl rfl (bh rfl di rfl rfl rfl) ⟨rfl,rfl,trivial⟩ ?_;refine aq ?_;refine aq (nt (ag (sr ?_)));refine mq ?_;refine ja (d5 rfl) ?_;refine nt (cw h (fun h=>?_) (fun h=>?_))
  ·refine sr (cq ?_);refine cq ?_;refine cq (nt (rx ?_));refine bv (lb (t:=(.slice (.slice (.int .i64)))) (x:=[]) 2 rfl .nil rfl rfl) ?_;cases h;exact aE () [_,_,_] 0 ⟨rfl,rfl,rfl,trivial⟩ rfl
  ·refine sk (sr (mq ?_));refine lo di ?_;obtain⟨r8,c,h⟩:=aa h;refine aF rfl rfl rfl (dz (N:=[(.tmp 29,.at au (a0,(.map (some z3)))),(.tmp 30,.rep (.arr 3 (.arr 5 (.int .i64))) r6.1)]) (ak [.tmp 29,.tmp 30] rfl rfl KJ rfl (ii k (a0,()) r6.1 r8 c)) fun _ _ _ hn=>⟨(pi hn.1),hn.2.1,trivial⟩) ⟨rfl,rfl,trivial⟩ fun v9=>?_;refine mq ?_;refine aq ?_;refine aq ?_;refine cq (nt (aA ?_));refine bv (f9 [2,31] ⟨rfl,rfl,trivial⟩) ?_;cases h;exact aE () [_,_,_] 0 ⟨rfl,rfl,rfl,trivial⟩ rfl
set_option maxRecDepth 20000
set_option maxHeartbeats 4000000
def Ox(b:Nat):List Int→Option Addr
 |[]=>none
 |_::_=>some ⟨b,0,none⟩
def QX:List Int→Value→Value
 |[],_=>.slice none 0 0
 |_::_,v=>v
theorem NX(b:Nat)(l:List Int):Ox b l=none∨Ox b l=some ⟨b,0,none⟩:=by cases l <;> simp [Ox]
theorem IE(b:Nat)(l:List Int)(c:Int):Ox b (l++[c])=some ⟨b,0,none⟩:=by cases l <;> rfl
theorem ID(l:List Int)(c:Int)(v:Value):QX (l++[c]) v=v:=by cases l <;> rfl
theorem Ly:mL Tryz.prog 86 9 1 16:=.of (z:=(.string .empty)) SG (by kernel_rfl) rfl rfl rfl
theorem NR:ah Tryz.prog 121:=ah.of Tryz.func121 (by kernel_rfl) (by kernel_rfl)
theorem PN:ah Tryz.prog 35:=ah.of Tryz.func35 (by kernel_rfl) (by kernel_rfl)
theorem OT:dS Tryz.prog 25 3 true:=⟨fun w=>by kernel_rfl,fun w=>by kernel_rfl⟩
theorem Lt:dS Tryz.prog 23 1 false:=⟨fun w=>by kernel_rfl,fun w=>by kernel_rfl⟩
theorem OS:dS Tryz.prog 3 1 false:=⟨fun w=>by kernel_rfl,fun w=>by kernel_rfl⟩
def lF(c:Int):Int:=IntKind.i32.wrap (97+IntKind.i32.wrap c)
def ln(xs:List Int):Nat→Int×List Int→Option (List Int)
 |0,_=>none
 |n+1,y=>if y.1 < (xs.length:Int) then((aZ xs y.1).bind fun c=>if 0≤lF c∧lF c≤127∧bT (y.2.length+1) then(ck (y.1+1)).bind fun z=>ln xs n (z,y.2++[lF c]) else none) else some y.2
def jJ(k:Nat)(a1:List (List Int)):Nat→Int×List ByteArray→Option (List ByteArray)
 |0,_=>none
 |n+1,y=>if y.1 < (a1.length:Int) then((aZ a1 y.1).bind fun xs=>(ln xs k (0,[])).bind fun l=>if bT (y.2.length+1) then(ck (y.1+1)).bind fun z=>jJ k a1 n (z,y.2++[qq l]) else none) else some y.2
def sB(k:Nat)(a0:a8)(a1:(List (List Int))):Option (Value×Int):=
 (bD k a0 a1).bind fun e=>if¬(e=0) then some (.string .empty,e) else(jJ k a1 k (0,[])).bind fun ss=>(t3 k ss ⟨#[47]⟩).bind fun r=>some (.string r,0)
theorem xf(k:Nat)(a0:a8)(a1:(List (List Int)))(r:Value×Int)(h:sB k a0 a1=some r):
 bZ Tryz.prog 67 [.rep aB a0,.rep (.slice (.slice (.int .i64))) a1] [.inv 0 dO] (fun _:Unit=>(bq [.eq r.1,I r.2],[.inv 0 dO])):=by
 unfold sB at h
 replace h:=a9 h
 refine bZ.of 43 Tryz.func67 rfl Tryz.ntmps67 rfl fun S w0=>?_
 refine sr ?_
 refine bx fun b2=>?_
 refine cq ?_
 refine cq ?_
 refine nt ?_
 refine ag ?_
 refine sr ?_
 obtain⟨e,ee,h⟩:=aa h
 have ce:=cD k a0 a1 e ee
 refine ka (ap rfl OT (yz) rfl) ?_
 refine mq ?_
 refine fr 1 ?_
 refine kb (ak [.tmp 13,.tmp 14] rfl rfl PN rfl ce) ?_
 refine aq ?_
 refine nt ?_
 refine sr ?_
 refine mq ?_
 refine jb (ge rfl) ?_
 refine nt ?_
 refine bL rfl (fun hb=>?_) (fun hb=>?_)
 ·
  replace h:=cp (JY hb) h;refine sr (mq ?_);refine cq ?_;refine aq (nt (rx ?_));cases h;exact aE () [_,_] 1 ⟨rfl,rfl,trivial⟩ rfl
 replace h:=bH (xH hb) h
 refine sk ?_
 refine sr ?_
 refine cq ?_
 refine nt ?_
 rw [Option.bind_assoc] at h
 refine ag ?_
 refine sr ?_
 refine mq ?_
 refine ol k9 ?_
 refine fg rfl ?_
 refine cu (SE.nil 9 .str) ?_
 refine nt ?_
 refine aj ?_
 refine aG (fun v y=>[(7,.eq v),(19,.rep (.slice (.slice (.int .i64))) a1),(20,I (a1.length:Int)),(21,I y.1)]) (fun v y=>[.sl v 9 .str y.2,.inv 0 dO]) (jJ k a1) k (.slice none 0 0) (0,[]) (fun _=>rfl) h (SE.fin [0,1] ⟨rfl,rfl,rfl,rfl,trivial⟩ rfl) (fun n v7 y h=>?_)
 unfold jJ at h
 refine sr ?_
 refine jb (bm rfl) ?_
 refine nt ?_
 refine ag ?_
 refine bL rfl (fun hb=>?_) (fun hb=>?_)
 ·
  replace h:=cp (me hb) h;refine sk (ag (aj ?_));obtain⟨xs,exs,h⟩:=aa h;refine sr (jb (aH (t:=.slice (.int .i64)) rfl k9 Lt exs) ?_);refine ja (an (t:=.slice (.int .i64)) rfl Lt rfl) ?_;refine aq (nt (sr ?_));refine aF rfl rfl rfl (bR rfl Fj IH) trivial fun b=>?_;refine nt ?_;rw [Option.bind_assoc] at h;refine ag (sr (mq ?_));refine ol eA ?_;refine fg rfl ?_;refine cu (SE.nil 5 (.int .u8)) ?_;refine nt (aj ?_)
  refine aG (fun v q=>[(7,.eq v7),(10,.eq (bP b)),(19,.rep (.slice (.slice (.int .i64))) a1),(20,I (a1.length:Int)),(21,I y.1),(25,Ri xs),(26,I (xs.length:Int)),(27,I q.1)])
   (fun v q=>[.obj b 162 (bA (.pointer (Ox b q.2)) (QX q.2 v)),.sl (QX q.2 v) 5 (.int .u8) q.2,.sl v7 9 .str y.2,.inv 0 dO]) (ln xs) k undef (0,[]) (fun _=>rfl) h (SE.fin [1,0,2,3] ⟨rfl,rfl,rfl,rfl,rfl,rfl,rfl,rfl,trivial⟩ rfl) (fun n2 v q h=>?_)
  unfold ln at h;refine sr (jb (bm rfl) ?_);refine nt (ag (bL rfl (fun hb=>?_) (fun hb=>?_)))
  ·replace h:=cp (me hb) h;refine sk (ag (aj ?_));obtain⟨c,ec,h⟩:=aa h;refine sr (jb (aH (t:=.int .i64) rfl eA OS ec) ?_);refine ja (an (t:=.int .i64) rfl OS rfl) ?_;refine aq (nt ?_)
   have hk:0≤lF c∧lF c≤127∧bT (q.2.length+1):=by
    apply Classical.byContradiction;intro hn;rw [if_neg hn] at h;cases h
   replace h:=cp hk h;refine vy 1 rfl fun hv=>?_;refine ab (mq ?_);refine ja (oN rfl U3 SH) ?_;refine jb (Bc rfl) ?_;refine bJ (Δ:=[_,_]) (F:=_) (fun _ _ _=>av rfl _) rfl rfl (ak [.tmp 10,.tmp 33] rfl rfl NS rfl (xm (b:=b) (p:=Ox b q.2) (v:=QX q.2 v) (l:=q.2) (r:=lF c) (NX b q.2) hv hk.1 hk.2.1 hk.2.2)) ⟨rfl,rfl,trivial⟩ fun v2=>?_;refine ao (aO (tn (ab ?_)));obtain⟨z3,ez3,h⟩:=aa h;refine jb (bb rfl ez3) ?_;refine mq (nl ?_);exact fX (v2,(z3,q.2++[lF c])) h (SE.fin [0,1,2,3] ⟨rfl,rfl,rfl,rfl,rfl,rfl,rfl,rfl,trivial⟩ (by simp only [IE,ID];rfl))
  replace h:=bH (lY hb) h;refine dh (aI (aI (bO (tn ?_))));replace h:(if bT (y.2.length+1) then(ck (y.1+1)).bind fun z=>jJ k a1 n (z,y.2++[qq q.2]) else none).bind _=some r:=h
  have hk:bT (y.2.length+1):=by
   apply Classical.byContradiction;intro hn;rw [if_neg hn] at h;cases h
  replace h:=cp hk h;refine ab (mq ?_);refine bJ (Δ:=[_,_]) (F:=_) (fun _ _ _=>av rfl _) rfl rfl (ak [.tmp 10] rfl rfl Im rfl (wc (b:=b) (l:=q.2) (fun hn=>by rw [hn];rfl))) ⟨rfl,trivial⟩ fun _=>?_;refine ja (bF (t:=.str) [(.tmp 37,.eq (.string (qq q.2)))] [qq q.2] rfl rfl Ly (.cons rfl .str .nil) rfl rfl) ?_;refine dF rfl rfl rfl (bX rfl rfl Ly (by simpa using hk)) ⟨rfl,rfl,trivial⟩ fun v'=>?_;refine aq (ao (aO (tn (ab ?_))));obtain⟨z3,ez3,h⟩:=aa h;refine jb (bb rfl ez3) ?_;refine mq (nl ?_);exact jz (v',(z3,y.2++[qq q.2])) h [0,1]
 replace h:=bH (lY hb) h
 refine dh ?_
 refine aI ?_
 refine aI ?_
 refine bO ?_
 refine tn ?_
 replace h:((t3 k y.2 ⟨#[47]⟩).bind fun r=>some (.string r,0)).bind some=some r:=h
 obtain⟨r1,j,h⟩:=aa h
 cases h
 have cj:=AP k y.2 _ r1 j
 refine sr ?_
 refine cu (f9 [7] ⟨rfl,trivial⟩) ?_
 refine mq ?_
 refine jb (ak [.tmp 41,.const (.string ⟨#[47]⟩)] rfl rfl NR rfl cj) ?_
 refine aq ?_
 refine cq ?_
 refine nt ?_
 refine aA ?_
 exact aE () [_,_] 1 ⟨rfl,rfl,trivial⟩ rfl
def fp(k:Nat):Option Bool:=
 (kJ k ([]:(List Int))).bind fun r1=>
 (wA k).bind fun r2=>
 (pz k r1 r2 1).bind fun r3=>
 (kJ k ([]:(List Int))).bind fun r4=>
 (wA k).bind fun r5=>
 (iM k r4 r5).bind fun r6=>
 (kJ k ([]:(List Int))).bind fun r7=>
 (uj k r7).bind fun r8=>
 (kJ k ([]:(List Int))).bind fun r9=>
 (Ho k).bind fun E=>
 (mW k r9 E).bind fun c=>
 (kJ k ([]:(List Int))).bind fun D=>
 (wA k).bind fun y=>
 (j8 k D y 0 1).bind fun h=>
 (kJ k ([]:(List Int))).bind fun x=>
 (wA k).bind fun u=>
 (sB k x u).bind fun e=>
 ((if r3.2.2=0 then(if r6.2=0 then(if r8.2.2=0 then(if c.2.2.2=0 then(if h.2.2=0 then(if e.2=0 then(if r6.1=3 then(if r8.2.1=0 then(if c.1=0 then(if c.2.1=2 then(if c.2.2.1=1 then(if h.2.1=2 then((ek (LM e.1=true)).bind fun _=>
 if Ij e.1 (⟨#[98,97,100,47,99]⟩:ByteArray)=true then((fS k r3.1 [0]).bind fun s=>
 if s=true then((kA k r3.2.1 [[0,1,3],[2]]).bind fun r=>
 if r=true then((kA k r8.1 [[2,0],[1,3]]).bind fun n=>
 if n=true then((fS k h.1 [0,1,3]).bind fun l=>
 some l) else(some false)) else(some false)) else(some false)) else(some false)) else(some false)) else(some false)) else(some false)) else(some false)) else(some false)) else(some false)) else(some false)) else(some false)) else(some false)) else(some false)) else(some false)) else(some false)):Option (Bool)).bind fun j=>
 some j
theorem je(k:Nat)(r:Bool)(h:fp k=some r):
 dC (iU Tryz.prog) 25 [] [.inv 0 (dO)] (fun _:Unit=>(bq [.eq (.bool r)],[.inv 0 (dO)])):=by
 unfold fp at h
 replace h:=a9 h
 refine dC.of 132 Tryz.func25 rfl Tryz.ntmps25 rfl fun S w0=>?_
 refine sr ?_
 refine cq ?_
 refine nt ?_
 refine sr ?_
 obtain⟨r1,Ti,h⟩:=aa h
 have TA:=jB k ([]:(List Int)) r1 Ti
 refine ja (dz (N:=[(.const (.slice none 0 0),.eq (.slice none 0 0))]) (ak [.const (.slice none 0 0)] rfl rfl ER rfl TA) fun _ _ _ hn=>⟨(jG (t:=(.slice (.int .i64))) (x:=([]:(List Int))) .nil rfl rfl hn.1),trivial⟩) ?_
 obtain⟨r2,Tf,h⟩:=aa h
 have Tz:=rK k r2 Tf
 refine aC rfl (ak [] rfl rfl KN rfl Tz) trivial ?_
 obtain⟨r3,Td,h⟩:=aa h
 have Tv:=ui k r1 r2 1 r3 Td
 refine kc (ak [.tmp 19,.tmp 20,.const (.int .i64 (1))] rfl rfl PY rfl Tv) ?_
 refine mq ?_
 refine xr ?_
 refine xr ?_
 refine xr ?_
 refine aq ?_
 refine aq ?_
 refine aq ?_
 refine nt ?_
 refine sr ?_
 obtain⟨r4,Ta,h⟩:=aa h
 have Tu:=jB k ([]:(List Int)) r4 Ta
 refine ja (dz (N:=[(.const (.slice none 0 0),.eq (.slice none 0 0))]) (ak [.const (.slice none 0 0)] rfl rfl ER rfl Tu) fun _ _ _ hn=>⟨(jG (t:=(.slice (.int .i64))) (x:=([]:(List Int))) .nil rfl rfl hn.1),trivial⟩) ?_
 obtain⟨r5,S9,h⟩:=aa h
 have Tt:=rK k r5 S9
 refine aC rfl (ak [] rfl rfl KN rfl Tt) trivial ?_
 obtain⟨r6,S8,h⟩:=aa h
 have To:=lp k r4 r5 r6 S8
 refine kb (dL [.tmp 26,.tmp 27] rfl rfl NV rfl To) ?_
 refine mq ?_
 refine xr ?_
 refine xr ?_
 refine aq ?_
 refine aq ?_
 refine nt ?_
 refine sr ?_
 obtain⟨r7,S7,h⟩:=aa h
 have Tn:=jB k ([]:(List Int)) r7 S7
 refine ja (dz (N:=[(.const (.slice none 0 0),.eq (.slice none 0 0))]) (ak [.const (.slice none 0 0)] rfl rfl ER rfl Tn) fun _ _ _ hn=>⟨(jG (t:=(.slice (.int .i64))) (x:=([]:(List Int))) .nil rfl rfl hn.1),trivial⟩) ?_
 obtain⟨r8,S5,h⟩:=aa h
 have Tm:=yP k r7 r8 S5
 refine ja (dL [.tmp 32] rfl rfl RI rfl Tm) ?_
 refine mq ?_
 refine xr ?_
 refine xr ?_
 refine xr ?_
 refine aq ?_
 refine aq ?_
 refine aq ?_
 refine nt ?_
 refine sr ?_
 obtain⟨r9,SZ,h⟩:=aa h
 have Tj:=jB k ([]:(List Int)) r9 SZ
 refine ja (dz (N:=[(.const (.slice none 0 0),.eq (.slice none 0 0))]) (ak [.const (.slice none 0 0)] rfl rfl ER rfl Tj) fun _ _ _ hn=>⟨(jG (t:=(.slice (.int .i64))) (x:=([]:(List Int))) .nil rfl rfl hn.1),trivial⟩) ?_
 obtain⟨E,qt,h⟩:=aa h
 have SR:=Hn k E qt
 refine aC rfl (ak [] rfl rfl RF rfl SR) trivial ?_
 obtain⟨SY,pp,h⟩:=aa h
 have SQ:=tB k r9 E SY pp
 refine kb (dL [.tmp 38,.tmp 39] rfl rfl PU rfl SQ) ?_
 refine mq ?_
 refine xr ?_
 refine xr ?_
 refine xr ?_
 refine xr ?_
 refine aq ?_
 refine aq ?_
 refine aq ?_
 refine aq ?_
 refine nt ?_
 refine sr ?_
 obtain⟨D,mc,h⟩:=aa h
 have SO:=jB k ([]:(List Int)) D mc
 refine ja (dz (N:=[(.const (.slice none 0 0),.eq (.slice none 0 0))]) (ak [.const (.slice none 0 0)] rfl rfl ER rfl SO) fun _ _ _ hn=>⟨(jG (t:=(.slice (.int .i64))) (x:=([]:(List Int))) .nil rfl rfl hn.1),trivial⟩) ?_
 obtain⟨y,ac,h⟩:=aa h
 have SN:=rK k y ac
 refine aC rfl (ak [] rfl rfl KN rfl SN) trivial ?_
 obtain⟨u,Y,h⟩:=aa h
 have SL:=qg k D y 0 1 u Y
 refine bV rfl rfl rfl (dL [.tmp 46,.tmp 47,.const (.int .i64 (0)),.const (.int .i64 (1))] rfl rfl PT rfl SL) ⟨rfl,rfl,rfl,rfl,trivial⟩ ?_
 refine mq ?_
 refine xr ?_
 refine xr ?_
 refine xr ?_
 refine aq ?_
 refine aq ?_
 refine aq ?_
 refine nt ?_
 refine sr ?_
 obtain⟨n,X,h⟩:=aa h
 have SK:=jB k ([]:(List Int)) n X
 refine ja (dz (N:=[(.const (.slice none 0 0),.eq (.slice none 0 0))]) (ak [.const (.slice none 0 0)] rfl rfl ER rfl SK) fun _ _ _ hn=>⟨(jG (t:=(.slice (.int .i64))) (x:=([]:(List Int))) .nil rfl rfl hn.1),trivial⟩) ?_
 obtain⟨l,U,h⟩:=aa h
 have SJ:=rK k l U
 refine aC rfl (ak [] rfl rfl KN rfl SJ) trivial ?_
 obtain⟨SX,Q,h⟩:=aa h
 have se:=xf k n l SX Q
 refine kb (ak [.tmp 53,.tmp 54] rfl rfl RG rfl se) ?_
 refine mq ?_
 refine xr ?_
 refine xr ?_
 refine aq ?_
 refine aq ?_
 refine nt ?_
 refine aL (Z:=Unit) (α:=Bool) (fun e c=>[(0,.eq (.bool c))]) (fun e c=>[.inv 0 (dO)]) h (fun K h=>?_) (fun e c h=>?_)
 ·
  refine ab (mq ?_);refine jb (dr rfl) ?_;refine mq ?_;refine bC (s:=60) rfl (fun hb=>?_) (fun hb=>?_)
  ·replace h:=cp (me hb) h;refine gm ?_;refine gb (dr rfl) ?_;refine pt ?_;refine mq ?_;refine bC (s:=64) rfl (fun hb=>?_) (fun hb=>?_)
   ·replace h:=cp (me hb) h;refine gm ?_;refine gb (dr rfl) ?_;refine pt ?_;refine mq ?_;refine bC (s:=68) rfl (fun hb=>?_) (fun hb=>?_)
    ·replace h:=cp (me hb) h;refine gm ?_;refine gb (dr rfl) ?_;refine pt ?_;refine mq ?_;refine bC (s:=72) rfl (fun hb=>?_) (fun hb=>?_)
     ·replace h:=cp (me hb) h;refine gm ?_;refine gb (dr rfl) ?_;refine pt ?_;refine mq ?_;refine bC (s:=76) rfl (fun hb=>?_) (fun hb=>?_)
      ·replace h:=cp (me hb) h;refine gm ?_;refine gb (dr rfl) ?_;refine pt ?_;refine mq ?_;refine bC (s:=80) rfl (fun hb=>?_) (fun hb=>?_)
       ·replace h:=cp (me hb) h;refine gm ?_;refine gb (dr rfl) ?_;refine pt ?_;refine mq ?_;refine bC (s:=84) rfl (fun hb=>?_) (fun hb=>?_)
        ·replace h:=cp (me hb) h;refine gm ?_;refine gb (dr rfl) ?_;refine pt ?_;refine mq ?_;refine bC (s:=88) rfl (fun hb=>?_) (fun hb=>?_)
         ·replace h:=cp (me hb) h;refine gm ?_;refine gb (dr rfl) ?_;refine pt ?_;refine mq ?_;refine bC (s:=92) rfl (fun hb=>?_) (fun hb=>?_)
          ·replace h:=cp (me hb) h;refine gm ?_;refine gb (dr rfl) ?_;refine pt ?_;refine mq ?_;refine bC (s:=96) rfl (fun hb=>?_) (fun hb=>?_)
           ·replace h:=cp (me hb) h;refine gm ?_;refine gb (dr rfl) ?_;refine pt ?_;refine mq ?_;refine bC (s:=100) rfl (fun hb=>?_) (fun hb=>?_)
            ·replace h:=cp (me hb) h;refine gm ?_;refine gb (dr rfl) ?_;refine pt ?_;refine mq ?_;refine bC (s:=104) rfl (fun hb=>?_) (fun hb=>?_)
             ·replace h:=cp (me hb) h;refine gm ?_;obtain⟨TB,F,h⟩:=aa h;refine gb (GI rfl (aD F)) ?_;refine pt ?_;refine mq ?_;refine bC (s:=108) rfl (fun hb=>?_) (fun hb=>?_)
              ·replace h:=cp (DK hb) h;refine gm ?_;refine ga (bF (t:=(.int .i64)) [(.const (.int .i64 (0)),_)] [0] rfl rfl eJ (.cons rfl .int .nil) rfl rfl) ?_;obtain⟨SV,O,h⟩:=aa h;refine gb (ak [.tmp 109,.tmp 110] rfl rfl KO rfl (jp k r3.1 [0] SV O)) ?_;refine pt ?_;refine mq ?_;refine bC (s:=113) rfl (fun hb=>?_) (fun hb=>?_)
               ·replace h:=cp (DK hb) h;refine gm ?_;refine gc (bF (t:=(.int .i64)) [(.const (.int .i64 (0)),_),(.const (.int .i64 (1)),_),(.const (.int .i64 (3)),_)] [0,1,3] rfl rfl eJ (.cons rfl .int (.cons rfl .int (.cons rfl .int .nil))) rfl rfl) ?_;refine ga (bF (t:=(.int .i64)) [(.const (.int .i64 (2)),_)] [2] rfl rfl eJ (.cons rfl .int .nil) rfl rfl) ?_;refine gb (bF (t:=(.slice (.int .i64))) [(.tmp 115,_),(.tmp 116,_)] [[0,1,3],[2]] rfl rfl oJ (.cons rfl .rep (.cons rfl .rep .nil)) rfl rfl) ?_;obtain⟨SU,M,h⟩:=aa h;refine gb (ak [.tmp 114,.tmp 117] rfl rfl PV rfl (ng k r3.2.1 [[0,1,3],[2]] SU M)) ?_;refine pt ?_;refine mq ?_;refine bC (s:=120) rfl (fun hb=>?_) (fun hb=>?_)
                ·replace h:=cp (DK hb) h;refine gm ?_;refine gb (bF (t:=(.int .i64)) [(.const (.int .i64 (2)),_),(.const (.int .i64 (0)),_)] [2,0] rfl rfl eJ (.cons rfl .int (.cons rfl .int .nil)) rfl rfl) ?_;refine gb (bF (t:=(.int .i64)) [(.const (.int .i64 (1)),_),(.const (.int .i64 (3)),_)] [1,3] rfl rfl eJ (.cons rfl .int (.cons rfl .int .nil)) rfl rfl) ?_;refine gb (bF (t:=(.slice (.int .i64))) [(.tmp 122,_),(.tmp 123,_)] [[2,0],[1,3]] rfl rfl oJ (.cons rfl .rep (.cons rfl .rep .nil)) rfl rfl) ?_;obtain⟨SS,J,h⟩:=aa h;refine gb (ak [.tmp 121,.tmp 124] rfl rfl PV rfl (ng k r8.1 [[2,0],[1,3]] SS J)) ?_;refine pt ?_;refine mq ?_;refine bC (s:=127) rfl (fun hb=>?_) (fun hb=>?_)
                 ·replace h:=cp (DK hb) h;refine gm ?_;refine gc (bF (t:=(.int .i64)) [(.const (.int .i64 (0)),_),(.const (.int .i64 (1)),_),(.const (.int .i64 (3)),_)] [0,1,3] rfl rfl eJ (.cons rfl .int (.cons rfl .int (.cons rfl .int .nil))) rfl rfl) ?_;obtain⟨j,I,h⟩:=aa h;refine gb (ak [.tmp 128,.tmp 129] rfl rfl KO rfl (jp k u.1 [0,1,3] j I)) ?_;refine pt ?_;refine aq (nl ?_);exact jz ((),j) h [0]
                 ·replace h:=bH (DL hb) h;iterate 3 refine gn ?_
                  refine pf ?_;refine aq (nl ?_);exact jz ((),false) h [0]
                ·replace h:=bH (DL hb) h;iterate 5 refine gn ?_
                 refine pf ?_;refine mq ?_;iterate 3 refine gn ?_
                 refine pf ?_;refine aq (nl ?_);exact jz ((),false) h [0]
               ·replace h:=bH (DL hb) h;iterate 5 refine gn ?_
                refine pf ?_;refine mq ?_;iterate 5 refine gn ?_
                refine pf ?_;refine mq ?_;iterate 3 refine gn ?_
                refine pf ?_;refine aq (nl ?_);exact jz ((),false) h [0]
              ·replace h:=bH (DL hb) h;iterate 3 refine gn ?_
               refine pf ?_;refine mq ?_;iterate 5 refine gn ?_
               refine pf ?_;refine mq ?_;iterate 5 refine gn ?_
               refine pf ?_;refine mq ?_;iterate 3 refine gn ?_
               refine pf ?_;refine aq (nl ?_);exact jz ((),false) h [0]
             ·replace h:=bH (lY hb) h;iterate 2 refine gn ?_
              refine pf ?_;refine mq ?_;iterate 3 refine gn ?_
              refine pf ?_;refine mq ?_;iterate 5 refine gn ?_
              refine pf ?_;refine mq ?_;iterate 5 refine gn ?_
              refine pf ?_;refine mq ?_;iterate 3 refine gn ?_
              refine pf ?_;refine aq (nl ?_);exact jz ((),false) h [0]
            ·replace h:=bH (lY hb) h;iterate 2 refine gn ?_
             refine pf ?_;refine mq ?_;iterate 2 refine gn ?_
             refine pf ?_;refine mq ?_;iterate 3 refine gn ?_
             refine pf ?_;refine mq ?_;iterate 5 refine gn ?_
             refine pf ?_;refine mq ?_;iterate 5 refine gn ?_
             refine pf ?_;refine mq ?_;iterate 3 refine gn ?_
             refine pf ?_;refine aq (nl ?_);exact jz ((),false) h [0]
           ·replace h:=bH (lY hb) h;iterate 2 refine gn ?_
            refine pf ?_;refine mq ?_;iterate 2 refine gn ?_
            refine pf ?_;refine mq ?_;iterate 2 refine gn ?_
            refine pf ?_;refine mq ?_;iterate 3 refine gn ?_
            refine pf ?_;refine mq ?_;iterate 5 refine gn ?_
            refine pf ?_;refine mq ?_;iterate 5 refine gn ?_
            refine pf ?_;refine mq ?_;iterate 3 refine gn ?_
            refine pf ?_;refine aq (nl ?_);exact jz ((),false) h [0]
          ·replace h:=bH (lY hb) h;iterate 2 refine gn ?_
           refine pf ?_;refine mq ?_;iterate 2 refine gn ?_
           refine pf ?_;refine mq ?_;iterate 2 refine gn ?_
           refine pf ?_;refine mq ?_;iterate 2 refine gn ?_
           refine pf ?_;refine mq ?_;iterate 3 refine gn ?_
           refine pf ?_;refine mq ?_;iterate 5 refine gn ?_
           refine pf ?_;refine mq ?_;iterate 5 refine gn ?_
           refine pf ?_;refine mq ?_;iterate 3 refine gn ?_
           refine pf ?_;refine aq (nl ?_);exact jz ((),false) h [0]
         ·replace h:=bH (lY hb) h;iterate 2 refine gn ?_
          refine pf ?_;refine mq ?_;iterate 2 refine gn ?_
          refine pf ?_;refine mq ?_;iterate 2 refine gn ?_
          refine pf ?_;refine mq ?_;iterate 2 refine gn ?_
          refine pf ?_;refine mq ?_;iterate 2 refine gn ?_
          refine pf ?_;refine mq ?_;iterate 3 refine gn ?_
          refine pf ?_;refine mq ?_;iterate 5 refine gn ?_
          refine pf ?_;refine mq ?_;iterate 5 refine gn ?_
          refine pf ?_;refine mq ?_;iterate 3 refine gn ?_
          refine pf ?_;refine aq (nl ?_);exact jz ((),false) h [0]
        ·replace h:=bH (lY hb) h;iterate 2 refine gn ?_
         refine pf ?_;refine mq ?_;iterate 2 refine gn ?_
         refine pf ?_;refine mq ?_;iterate 2 refine gn ?_
         refine pf ?_;refine mq ?_;iterate 2 refine gn ?_
         refine pf ?_;refine mq ?_;iterate 2 refine gn ?_
         refine pf ?_;refine mq ?_;iterate 2 refine gn ?_
         refine pf ?_;refine mq ?_;iterate 3 refine gn ?_
         refine pf ?_;refine mq ?_;iterate 5 refine gn ?_
         refine pf ?_;refine mq ?_;iterate 5 refine gn ?_
         refine pf ?_;refine mq ?_;iterate 3 refine gn ?_
         refine pf ?_;refine aq (nl ?_);exact jz ((),false) h [0]
       ·replace h:=bH (lY hb) h;iterate 2 refine gn ?_
        refine pf ?_;refine mq ?_;iterate 2 refine gn ?_
        refine pf ?_;refine mq ?_;iterate 2 refine gn ?_
        refine pf ?_;refine mq ?_;iterate 2 refine gn ?_
        refine pf ?_;refine mq ?_;iterate 2 refine gn ?_
        refine pf ?_;refine mq ?_;iterate 2 refine gn ?_
        refine pf ?_;refine mq ?_;iterate 2 refine gn ?_
        refine pf ?_;refine mq ?_;iterate 3 refine gn ?_
        refine pf ?_;refine mq ?_;iterate 5 refine gn ?_
        refine pf ?_;refine mq ?_;iterate 5 refine gn ?_
        refine pf ?_;refine mq ?_;iterate 3 refine gn ?_
        refine pf ?_;refine aq (nl ?_);exact jz ((),false) h [0]
      ·replace h:=bH (lY hb) h;iterate 2 refine gn ?_
       refine pf ?_;refine mq ?_;iterate 2 refine gn ?_
       refine pf ?_;refine mq ?_;iterate 2 refine gn ?_
       refine pf ?_;refine mq ?_;iterate 2 refine gn ?_
       refine pf ?_;refine mq ?_;iterate 2 refine gn ?_
       refine pf ?_;refine mq ?_;iterate 2 refine gn ?_
       refine pf ?_;refine mq ?_;iterate 2 refine gn ?_
       refine pf ?_;refine mq ?_;iterate 2 refine gn ?_
       refine pf ?_;refine mq ?_;iterate 3 refine gn ?_
       refine pf ?_;refine mq ?_;iterate 5 refine gn ?_
       refine pf ?_;refine mq ?_;iterate 5 refine gn ?_
       refine pf ?_;refine mq ?_;iterate 3 refine gn ?_
       refine pf ?_;refine aq (nl ?_);exact jz ((),false) h [0]
     ·replace h:=bH (lY hb) h;iterate 2 refine gn ?_
      refine pf ?_;refine mq ?_;iterate 2 refine gn ?_
      refine pf ?_;refine mq ?_;iterate 2 refine gn ?_
      refine pf ?_;refine mq ?_;iterate 2 refine gn ?_
      refine pf ?_;refine mq ?_;iterate 2 refine gn ?_
      refine pf ?_;refine mq ?_;iterate 2 refine gn ?_
      refine pf ?_;refine mq ?_;iterate 2 refine gn ?_
      refine pf ?_;refine mq ?_;iterate 2 refine gn ?_
      refine pf ?_;refine mq ?_;iterate 2 refine gn ?_
      refine pf ?_;refine mq ?_;iterate 3 refine gn ?_
      refine pf ?_;refine mq ?_;iterate 5 refine gn ?_
      refine pf ?_;refine mq ?_;iterate 5 refine gn ?_
      refine pf ?_;refine mq ?_;iterate 3 refine gn ?_
      refine pf ?_;refine aq (nl ?_);exact jz ((),false) h [0]
    ·replace h:=bH (lY hb) h;iterate 2 refine gn ?_
     refine pf ?_;refine mq ?_;iterate 2 refine gn ?_
     refine pf ?_;refine mq ?_;iterate 2 refine gn ?_
     refine pf ?_;refine mq ?_;iterate 2 refine gn ?_
     refine pf ?_;refine mq ?_;iterate 2 refine gn ?_
     refine pf ?_;refine mq ?_;iterate 2 refine gn ?_
     refine pf ?_;refine mq ?_;iterate 2 refine gn ?_
     refine pf ?_;refine mq ?_;iterate 2 refine gn ?_
     refine pf ?_;refine mq ?_;iterate 2 refine gn ?_
     refine pf ?_;refine mq ?_;iterate 2 refine gn ?_
     refine pf ?_;refine mq ?_;iterate 3 refine gn ?_
     refine pf ?_;refine mq ?_;iterate 5 refine gn ?_
     refine pf ?_;refine mq ?_;iterate 5 refine gn ?_
     refine pf ?_;refine mq ?_;iterate 3 refine gn ?_
     refine pf ?_;refine aq (nl ?_);exact jz ((),false) h [0]
   ·replace h:=bH (lY hb) h;iterate 2 refine gn ?_
    refine pf ?_;refine mq ?_;iterate 2 refine gn ?_
    refine pf ?_;refine mq ?_;iterate 2 refine gn ?_
    refine pf ?_;refine mq ?_;iterate 2 refine gn ?_
    refine pf ?_;refine mq ?_;iterate 2 refine gn ?_
    refine pf ?_;refine mq ?_;iterate 2 refine gn ?_
    refine pf ?_;refine mq ?_;iterate 2 refine gn ?_
    refine pf ?_;refine mq ?_;iterate 2 refine gn ?_
    refine pf ?_;refine mq ?_;iterate 2 refine gn ?_
    refine pf ?_;refine mq ?_;iterate 2 refine gn ?_
    refine pf ?_;refine mq ?_;iterate 2 refine gn ?_
    refine pf ?_;refine mq ?_;iterate 3 refine gn ?_
    refine pf ?_;refine mq ?_;iterate 5 refine gn ?_
    refine pf ?_;refine mq ?_;iterate 5 refine gn ?_
    refine pf ?_;refine mq ?_;iterate 3 refine gn ?_
    refine pf ?_;refine aq (nl ?_);exact jz ((),false) h [0]
  ·replace h:=bH (lY hb) h;iterate 2 refine gn ?_
   refine pf ?_;refine mq ?_;iterate 2 refine gn ?_
   refine pf ?_;refine mq ?_;iterate 2 refine gn ?_
   refine pf ?_;refine mq ?_;iterate 2 refine gn ?_
   refine pf ?_;refine mq ?_;iterate 2 refine gn ?_
   refine pf ?_;refine mq ?_;iterate 2 refine gn ?_
   refine pf ?_;refine mq ?_;iterate 2 refine gn ?_
   refine pf ?_;refine mq ?_;iterate 2 refine gn ?_
   refine pf ?_;refine mq ?_;iterate 2 refine gn ?_
   refine pf ?_;refine mq ?_;iterate 2 refine gn ?_
   refine pf ?_;refine mq ?_;iterate 2 refine gn ?_
   refine pf ?_;refine mq ?_;iterate 2 refine gn ?_
   refine pf ?_;refine mq ?_;iterate 3 refine gn ?_
   refine pf ?_;refine mq ?_;iterate 5 refine gn ?_
   refine pf ?_;refine mq ?_;iterate 5 refine gn ?_
   refine pf ?_;refine mq ?_;iterate 3 refine gn ?_
   refine pf ?_;refine aq (nl ?_);exact jz ((),false) h [0]
 ·
  refine aA ?_;cases h;exact aE () [_] 1 ⟨rfl,trivial⟩ rfl
def cS(k:Nat)(r3:a8×(List (List Int))×Bool×bB)(l:Int×Int×Int×Int)(j:Int×Int×Int×Int)(e:Int×(List (List Int))):Nat→(Int×(List (List Int)))→Option (List (List Int))
 |0,_=>none
 |n+1,c=>
  (aZ c.2 e.1).bind fun h=>
  if c.1 < (h.length:Int) then((((aZ r3.2.1 e.1).bind fun E=>
  (aZ E c.1).bind fun D=>
  if D=l.2.2.2 then((aZ (List.set c.2 (Int.toNat e.1) h) e.1).bind fun s=>
  (aZ s c.1).bind fun J=>
  some (List.set (List.set c.2 (Int.toNat e.1) h) (Int.toNat e.1) (List.set s (Int.toNat c.1) j.2.2.2))) else((aZ r3.2.1 e.1).bind fun y=>
  (aZ y c.1).bind fun x=>
  if x=j.2.2.2 then((aZ (List.set c.2 (Int.toNat e.1) h) e.1).bind fun r=>
  (aZ r c.1).bind fun I=>
  some (List.set (List.set c.2 (Int.toNat e.1) h) (Int.toNat e.1) (List.set r (Int.toNat c.1) l.2.2.2))) else(some (List.set c.2 (Int.toNat e.1) h)))):Option ((List (List Int)))).bind fun F=>
  (ck (c.1+1)).bind fun u=>
  cS k r3 l j e n (u,F)) else(some (List.set c.2 (Int.toNat e.1) h))
def dt(k:Nat)(r3:a8×(List (List Int))×Bool×bB)(h:Int×Int×Int×Int)(e:Int×Int×Int×Int):Nat→(Int×(List (List Int)))→Option (List (List Int))
 |0,_=>none
 |n+1,c=>
  if c.1 < (c.2.length:Int) then(((cS k r3 h e c k (0,c.2)):Option ((List (List Int)))).bind fun l=>
  (ck (c.1+1)).bind fun j=>
  dt k r3 h e n (j,l)) else(some c.2)
def du(k:Nat)(r3:a8×(List (List Int))×Bool×bB)(j:Int×Int×Int×Int):Nat→(Int×Int×Int×Int)→Option (Except Bool (Int×Int×Int))
 |0,_=>none
 |n+1,c=>
  if c.2.2.2 < (r3.1.2.1.length:Int) then(bE (α:=Int×Int×Int×(List (List Int))) ((dD k r3.2.1).bind fun x=>
  ((dt k r3 j c k (0,x)):Option ((List (List Int)))).bind fun h=>
  (bD k r3.1 h).bind fun u=>
  if¬(u=0) then(some (.ok (c.1,c.2.1,c.2.2.1,h))) else((iM k r3.1 h).bind fun r=>
  if¬(r.2=0) then(some (.error false)) else(if r.1 < c.1 then(some (.ok (r.1,j.2.2.2,c.2.2.2,h))) else(some (.ok (c.1,c.2.1,c.2.2.1,h)))))) (fun e=>some (.error e)) fun l=>
  (ck (c.2.2.2+1)).bind fun s=>
  du k r3 j n (l.1,l.2.1,l.2.2.1,s)) else(some (.ok (c.1,c.2.1,c.2.2.1)))
def dw(k:Nat)(r3:a8×(List (List Int))×Bool×bB):Nat→(Int×Int×Int×Int)→Option (Except Bool (Int×Int×Int))
 |0,_=>none
 |n+1,c=>
  if c.2.2.2 < (r3.1.2.1.length:Int) then(bE (α:=Int×Int×Int) ((ck (c.2.2.2+1)).bind fun l=>
  du k r3 c k (c.1,c.2.1,c.2.2.1,l)) (fun e=>some (.error e)) fun h=>
  (ck (c.2.2.2+1)).bind fun j=>
  dw k r3 n (h.1,h.2.1,h.2.2,j)) else(some (.ok (c.1,c.2.1,c.2.2.1)))
def kz(k:Nat)(a0:(List Int)):Option Bool:=
 (jD k a0).bind fun r1=>
 (kK k (r1.1,r1.2.1,r1.2.2) 5).bind fun r3=>
 if¬(r3.2.2.1=true) then((((bD k r3.1 r3.2.1).bind fun r7=>
 if¬(r7=0) then((fp k).bind fun r8=>
 some r8) else(some false)):Option (Bool)).bind fun x5=>
 some x5) else((iM k r3.1 r3.2.1).bind fun r9=>
 if¬(r9.2=0) then(some false) else(bE (α:=Int×Int×Int) (dw k r3 k (r9.1,0,0,0)) (some) fun e=>
 (mW k r3.1 r3.2.1).bind fun c=>
 if e.2.2=0 then(((if c.2.2.2=11 then(if c.1=0 then(if c.2.1=0 then(if c.2.2.1=0 then((fp k).bind fun n=>
 some n) else(some false)) else(some false)) else(some false)) else(some false)):Option (Bool)).bind fun j=>
 some j) else(((if c.2.2.2=0 then(if c.1=e.2.1 then(if c.2.1=e.2.2 then(if c.2.2.1=e.1 then((fp k).bind fun l=>
 some l) else(some false)) else(some false)) else(some false)) else(some false)):Option (Bool)).bind fun h=>
 some h)))
theorem sW(k:Nat)(a0:(List Int))(r:Bool)(h:kz k a0=some r):
 dC (iU Tryz.prog) 7 [Ri a0] [.inv 0 (dO)] (fun _:Unit=>(bq [.eq (.bool r)],[.inv 0 (dO)])):=by
 unfold kz at h
 replace h:=a9 h
 refine dC.of 175 Tryz.func7 rfl Tryz.ntmps7 rfl fun S w0=>?_
 refine sr ?_
 refine cq ?_
 refine nt ?_
 refine sr ?_
 refine mq ?_
 obtain⟨r1,TU,h⟩:=aa h
 have TY:=oV k a0 r1 TU
 refine aF rfl rfl rfl (ak [.tmp 22] rfl rfl P0 rfl TY) ⟨rfl,trivial⟩ fun b2=>?_
 obtain⟨r3,TS,h⟩:=aa h
 have TX:=tI k (r1.1,r1.2.1,r1.2.2) b2 5 r3 TS
 refine kb (ak [.tmp 23,.const (.int .i64 (5))] rfl rfl PS rfl TX) ?_
 refine mq ?_
 refine xr ?_
 refine xr ?_
 refine xr ?_
 refine aF rfl rfl rfl (bR rfl xb BS) trivial fun b4=>?_
 refine bi rfl rfl (bh rfl fK rfl rfl rfl) ⟨rfl,rfl,trivial⟩ ?_
 refine aq ?_
 refine aq ?_
 refine nt ?_
 refine ag ?_
 refine sr ?_
 refine mq ?_
 refine ja (d5 rfl) ?_
 refine nt ?_
 refine cw h (fun h=>?_) (fun h=>?_)
 ·
  refine aL (Z:=Unit) (α:=Bool) (fun z6 x5=>[(2,.eq (.bool x5))]) (fun z6 x5=>[.inv 0 (dO)]) h (fun K h=>?_) (fun z6 x5 h=>?_)
  ·refine ab (lo fK ?_);refine mq ?_;obtain⟨r7,TR,h⟩:=aa h;refine fr 2 ?_;refine kb (ak [.tmp 30,.tmp 31] rfl rfl BK rfl (cD k r3.1 r3.2.1 r7 TR)) ?_;refine jb (ge rfl) ?_;refine mq ?_;refine bC (s:=34) rfl (fun hb=>?_) (fun hb=>?_)
   ·replace h:=cp (JY hb) h;obtain⟨r8,TP,h⟩:=aa h;refine jV rfl rfl rfl rfl rfl rfl (dL [] rfl rfl Iq rfl (je k r8 TP)) trivial ?_;refine pt ?_;refine aq (nl ?_);exact jz ((),r8) h [0]
   ·replace h:=bH (xH hb) h;refine gn ?_;refine pf ?_;refine aq (nl ?_);exact jz ((),false) h [0]
  ·refine rx ?_;cases h;exact aE () [_] 1 ⟨rfl,trivial⟩ rfl
 ·
  refine sk (sr (lo fK ?_));refine mq ?_;obtain⟨r9,TO,h⟩:=aa h;refine fr 2 ?_;refine kb (dL [.tmp 38,.tmp 39] rfl rfl NV rfl (lp k r3.1 r3.2.1 r9 TO)) ?_;refine mq ?_;refine xr ?_;refine xr ?_;refine aq ?_;refine aq (nt (ag (sr ?_)));refine mq ?_;refine jb (ge rfl) ?_;refine nt (cn h (fun h=>?_) (fun h=>?_))
  ·refine sr (cq (nt (rx ?_)));cases h;exact aE () [_] 1 ⟨rfl,trivial⟩ rfl
  ·refine sk (sr (cq ?_));refine cq (nt ?_);refine dA (Z:=Unit) (α:=Int×Int×Int) (fun SZ se=>[(3,Pt b4),(4,.rep (.slice (.slice (.int .i64))) r3.2.1),(6,I se.1),(8,I se.2.1),(9,I se.2.2)]) (fun SZ se=>[.obj b4 25 (.rep aB r3.1),.inv 0 (dO)]) (fun e=>e=r) h (fun e h=>Option.some.inj h) (fun K hR h=>?_) (fun SZ se h=>?_)
   ·refine sr (cq (nt (aj ?_)));refine aG (Z:=Unit) (α:=Int×Int×Int×Int) (fun SY l=>[(3,Pt b4),(4,.rep (.slice (.slice (.int .i64))) r3.2.1),(6,I l.1),(8,I l.2.1),(9,I l.2.2.1),(10,I l.2.2.2)]) (fun SY l=>[.obj b4 25 (.rep aB r3.1),.inv 0 (dO)]) (dw k r3) k () (r9.1,0,0,0) (fun _=>rfl) h (SE.fin [1,0] ⟨rfl,rfl,rfl,rfl,rfl,rfl,trivial⟩ rfl) (fun n SY l h=>?_);unfold dw at h;refine ag (sr (mq ?_));refine fl eM ?_;refine lo kW ?_;refine ol tp ?_;refine jb (bm rfl) ?_;refine nt (ci h (fun h=>?_) (fun h=>?_))
    ·refine sk (dA (Z:=Unit) (α:=Int×Int×Int) (fun SX O=>[(3,Pt b4),(4,.rep (.slice (.slice (.int .i64))) r3.2.1),(6,I O.1),(8,I O.2.1),(9,I O.2.2),(10,I l.2.2.2)]) (fun SX O=>[.obj b4 25 (.rep aB r3.1),.inv 0 (dO)]) (fun e=>e=r) h (fun e h=>hR e h) (fun K hR h=>?_) (fun SX O h=>?_))
     ·refine aj (sr (mq ?_));obtain⟨TL,Tu,h⟩:=aa h;refine jb (bb rfl Tu) ?_;refine aq (nt (aj ?_));refine aG (Z:=Unit) (α:=Int×Int×Int×Int) (fun SV c=>[(3,Pt b4),(4,.rep (.slice (.slice (.int .i64))) r3.2.1),(6,I c.1),(8,I c.2.1),(9,I c.2.2.1),(10,I l.2.2.2),(11,I c.2.2.2)]) (fun SV c=>[.obj b4 25 (.rep aB r3.1),.inv 0 (dO)]) (du k r3 l) k () (l.1,l.2.1,l.2.2.1,TL) (fun _=>rfl) h (SE.fin [0,1] ⟨rfl,rfl,rfl,rfl,rfl,rfl,rfl,trivial⟩ rfl) (fun n SV c h=>?_);unfold du at h;refine ag (sr (mq ?_));refine fl eM ?_;refine lo kW ?_;refine ol tp ?_;refine jb (bm rfl) ?_;refine nt (ci h (fun h=>?_) (fun h=>?_))
      ·refine sk (dA (Z:=(Value×(Nat→Value))) (α:=Int×Int×Int×(List (List Int))) (fun SL E=>[(3,Pt b4),(4,.rep (.slice (.slice (.int .i64))) r3.2.1),(6,I E.1),(8,I E.2.1),(9,I E.2.2.1),(10,I l.2.2.2),(11,I c.2.2.2)]) (fun SL E=>[.obj b4 25 (.rep aB r3.1),.inv 0 (dO)]++dK 23 SL E.2.2.2) (fun e=>e=r) h (fun e h=>hR e h) (fun K hR h=>?_) (fun SL E h=>?_))
       ·refine aj (sr (mq ?_));obtain⟨SQ,TD,h⟩:=aa h;refine bJ (Δ:=[]) (F:=[.obj b4 25 (.rep aB r3.1),.inv 0 (dO)]) (fun _ _ _=>av rfl _) rfl rfl (ak [.tmp 61] rfl rfl PZ rfl (rM k r3.2.1 SQ TD)) ⟨rfl,trivial⟩ fun SU=>?_;refine cu (ff List.perm_append_comm) ?_;refine aq (nt ?_);refine aL (Z:=(Value×(Nat→Value))) (α:=(List (List Int))) (fun y D=>[(3,Pt b4),(4,.rep (.slice (.slice (.int .i64))) r3.2.1),(6,I c.1),(8,I c.2.1),(9,I c.2.2.1),(10,I l.2.2.2),(11,I c.2.2.2),(12,.eq y.1)]) (fun y D=>[.obj b4 25 (.rep aB r3.1),.inv 0 (dO)]++dK 23 y D) h (fun K h=>?_) (fun y D h=>?_)
        ·refine sr (cq (nt (aj ?_)));refine aG (Z:=(Value×(Nat→Value))) (α:=Int×(List (List Int))) (fun J j=>[(3,Pt b4),(4,.rep (.slice (.slice (.int .i64))) r3.2.1),(6,I c.1),(8,I c.2.1),(9,I c.2.2.1),(10,I l.2.2.2),(11,I c.2.2.2),(12,.eq J.1),(13,I j.1)]) (fun J j=>[.obj b4 25 (.rep aB r3.1),.inv 0 (dO)]++dK 23 J j.2) (dt k r3 l c) k SU (0,SQ) (fun _=>rfl) h (aQ [.obj b4 25 (.rep aB r3.1),.inv 0 (dO)] (dK 23 SU SQ) [0,1] ⟨rfl,rfl,rfl,rfl,rfl,rfl,rfl,rfl,rfl,trivial⟩ rfl) (fun n J j h=>?_);unfold dt at h;refine ag (sr ?_);iterate 2 refine mq ?_
         refine JO.lenLL (pre:=[.obj b4 25 (.rep aB r3.1),.inv 0 (dO)]) rfl rfl rfl rfl rfl k9 ⟨rfl,trivial⟩ ?_;refine jb (bm rfl) ?_;refine nt (ci h (fun h=>?_) (fun h=>?_))
         ·refine sk (aL (Z:=(Value×(Nat→Value))) (α:=(List (List Int))) (fun mc qt=>[(3,Pt b4),(4,.rep (.slice (.slice (.int .i64))) r3.2.1),(6,I c.1),(8,I c.2.1),(9,I c.2.2.1),(10,I l.2.2.2),(11,I c.2.2.2),(12,.eq mc.1),(13,I j.1)]) (fun mc qt=>[.obj b4 25 (.rep aB r3.1),.inv 0 (dO)]++dK 23 mc qt) h (fun K h=>?_) (fun mc qt h=>?_))
          ·refine aj (sr (cq (nt (aj ?_))));refine aG (Z:=(Value×(Nat→Value))) (α:=Int×(List (List Int))) (fun x u=>[(3,Pt b4),(4,.rep (.slice (.slice (.int .i64))) r3.2.1),(6,I c.1),(8,I c.2.1),(9,I c.2.2.1),(10,I l.2.2.2),(11,I c.2.2.2),(12,.eq x.1),(13,I j.1),(14,I u.1)]) (fun x u=>[.obj b4 25 (.rep aB r3.1),.inv 0 (dO)]++dK 23 x u.2) (cS k r3 l c j) k J (0,j.2) (fun _=>rfl) h (aQ [.obj b4 25 (.rep aB r3.1),.inv 0 (dO)] (dK 23 J j.2) [0,1] ⟨rfl,rfl,rfl,rfl,rfl,rfl,rfl,rfl,rfl,rfl,trivial⟩ rfl) (fun n x u h=>?_);unfold cS at h;refine ag (ag ?_);obtain⟨M,Y,h⟩:=aa h;refine eH (nu (pre:=[.obj b4 25 (.rep aB r3.1),.inv 0 (dO)]) (kB Y).2) ?_;refine ab ?_;iterate 3 refine mq ?_
           refine fr 1 ?_;refine kb (be (t:=.val) rfl k9 bW (ji Y)) ?_;refine ka (fi (i:=Int.toNat j.1) (off:=0) rfl bW (fun _=>rfl) rfl (cT (ji Y)).2.2 rfl) ?_;refine fr 1 ?_;refine ka (cZ rfl rfl eA) ?_;refine jb (bm rfl) ?_;refine ao (cN 1 rfl ?_);refine cN 1 rfl ?_;refine bv (mB (pre:=[.obj b4 25 (.rep aB r3.1),.inv 0 (dO)]) (z:=x) (i:=Int.toNat j.1) (kB Y).2) ?_;refine tn (ci h (fun h=>?_) (fun h=>?_))
           ·refine sk (aL (Z:=(Value×(Nat→Value))) (α:=(List (List Int))) (fun ac pp=>[(3,Pt b4),(4,.rep (.slice (.slice (.int .i64))) r3.2.1),(6,I c.1),(8,I c.2.1),(9,I c.2.2.1),(10,I l.2.2.2),(11,I c.2.2.2),(12,.eq ac.1),(13,I j.1),(14,I u.1)]) (fun ac pp=>[.obj b4 25 (.rep aB r3.1),.inv 0 (dO)]++dK 23 ac pp) h (fun K h=>?_) (fun ac pp h=>?_))
            ·refine aj (sr ?_);iterate 2 refine mq ?_
             obtain⟨Uc,Tt,h⟩:=aa h;refine jb (aH (t:=(.slice (.int .i64))) rfl k9 bW Tt) ?_;refine ja (an (t:=(.slice (.int .i64))) rfl bW rfl) ?_;refine mq ?_;obtain⟨Ub,To,h⟩:=aa h;refine jb (aH (t:=(.int .i64)) rfl eA cP To) ?_;refine ja (an (t:=(.int .i64)) rfl cP rfl) ?_;refine mq ?_;refine jb (dr rfl) ?_;refine nt (ci h (fun h=>?_) (fun h=>?_))
             ·obtain⟨S7,U,h⟩:=aa h;refine eH (nu (pre:=[.obj b4 25 (.rep aB r3.1),.inv 0 (dO)]) (kB U).2) ?_;refine ab ?_;iterate 2 refine mq ?_
              refine fr 1 ?_;refine kb (be (t:=.val) rfl k9 bW (ji U)) ?_;refine ka (fi (i:=Int.toNat j.1) (off:=0) rfl bW (fun _=>rfl) rfl (cT (ji U)).2.2 rfl) ?_;iterate 2 refine mq ?_
              obtain⟨Ua,SK,h⟩:=aa h;refine fr 1 ?_;refine kb (be (t:=(.int .i64)) rfl eA cP SK) ?_;refine bi rfl rfl (cX (i:=Int.toNat u.1) rfl cP rfl (ik SK) rfl .int rfl) ⟨rfl,rfl,trivial⟩ ?_;refine ao (cN 1 rfl ?_);refine cN 1 rfl ?_;refine bv (mB (pre:=[.obj b4 25 (.rep aB r3.1),.inv 0 (dO)]) (z:=x) (i:=Int.toNat j.1) (kB U).2) ?_;refine bn ?_;exact fX (x,List.set (List.set u.2 (Int.toNat j.1) M) (Int.toNat j.1) (List.set S7 (Int.toNat u.1) c.2.2.2)) h (aQ [.obj b4 25 (.rep aB r3.1),.inv 0 (dO)] (dK 23 x (List.set (List.set u.2 (Int.toNat j.1) M) (Int.toNat j.1) (List.set S7 (Int.toNat u.1) c.2.2.2))) [0,1] ⟨rfl,rfl,rfl,rfl,rfl,rfl,rfl,rfl,rfl,rfl,trivial⟩ rfl)
             ·refine sr ?_;iterate 2 refine mq ?_
              obtain⟨T9,Tn,h⟩:=aa h;refine jb (aH (t:=(.slice (.int .i64))) rfl k9 bW Tn) ?_;refine ja (an (t:=(.slice (.int .i64))) rfl bW rfl) ?_;refine mq ?_;obtain⟨T8,Tm,h⟩:=aa h;refine jb (aH (t:=(.int .i64)) rfl eA cP Tm) ?_;refine ja (an (t:=(.int .i64)) rfl cP rfl) ?_;refine mq ?_;refine jb (dr rfl) ?_;refine nt (ci h (fun h=>?_) (fun h=>?_))
              ·obtain⟨S5,Q,h⟩:=aa h;refine eH (nu (pre:=[.obj b4 25 (.rep aB r3.1),.inv 0 (dO)]) (kB Q).2) ?_;refine ab ?_;iterate 2 refine mq ?_
               refine fr 1 ?_;refine kb (be (t:=.val) rfl k9 bW (ji Q)) ?_;refine ka (fi (i:=Int.toNat j.1) (off:=0) rfl bW (fun _=>rfl) rfl (cT (ji Q)).2.2 rfl) ?_;iterate 2 refine mq ?_
               obtain⟨TZ,SJ,h⟩:=aa h;refine fr 1 ?_;refine kb (be (t:=(.int .i64)) rfl eA cP SJ) ?_;refine bi rfl rfl (cX (i:=Int.toNat u.1) rfl cP rfl (ik SJ) rfl .int rfl) ⟨rfl,rfl,trivial⟩ ?_;refine ao (cN 1 rfl ?_);refine cN 1 rfl ?_;refine bv (mB (pre:=[.obj b4 25 (.rep aB r3.1),.inv 0 (dO)]) (z:=x) (i:=Int.toNat j.1) (kB Q).2) ?_;refine bn ?_;exact fX (x,List.set (List.set u.2 (Int.toNat j.1) M) (Int.toNat j.1) (List.set S5 (Int.toNat u.1) l.2.2.2)) h (aQ [.obj b4 25 (.rep aB r3.1),.inv 0 (dO)] (dK 23 x (List.set (List.set u.2 (Int.toNat j.1) M) (Int.toNat j.1) (List.set S5 (Int.toNat u.1) l.2.2.2))) [0,1] ⟨rfl,rfl,rfl,rfl,rfl,rfl,rfl,rfl,rfl,rfl,trivial⟩ rfl)
              ·refine aS (bn ?_);exact fX (x,List.set u.2 (Int.toNat j.1) M) h (aQ [.obj b4 25 (.rep aB r3.1),.inv 0 (dO)] (dK 23 x (List.set u.2 (Int.toNat j.1) M)) [0,1] ⟨rfl,rfl,rfl,rfl,rfl,rfl,rfl,rfl,rfl,rfl,trivial⟩ rfl)
            ·refine ab (mq ?_);obtain⟨TK,Tj,h⟩:=aa h;refine jb (bb rfl Tj) ?_;refine aq (nl ?_);exact fX (ac,(TK,pp)) h (aQ [.obj b4 25 (.rep aB r3.1),.inv 0 (dO)] (dK 23 ac pp) [0,1] ⟨rfl,rfl,rfl,rfl,rfl,rfl,rfl,rfl,rfl,rfl,trivial⟩ rfl)
           ·refine dh (aI (aI (bO (bn ?_))));exact fX (x,List.set u.2 (Int.toNat j.1) M) h (aQ [.obj b4 25 (.rep aB r3.1),.inv 0 (dO)] (dK 23 x (List.set u.2 (Int.toNat j.1) M)) [0,1] ⟨rfl,rfl,rfl,rfl,rfl,rfl,rfl,rfl,rfl,trivial⟩ rfl)
          ·refine ab (mq ?_);obtain⟨TJ,Ti,h⟩:=aa h;refine jb (bb rfl Ti) ?_;refine aq (nl ?_);exact fX (mc,(TJ,qt)) h (aQ [.obj b4 25 (.rep aB r3.1),.inv 0 (dO)] (dK 23 mc qt) [0,1] ⟨rfl,rfl,rfl,rfl,rfl,rfl,rfl,rfl,rfl,trivial⟩ rfl)
         ·refine xa ?_;exact fX (J,j.2) h (aQ [.obj b4 25 (.rep aB r3.1),.inv 0 (dO)] (dK 23 J j.2) [0,1] ⟨rfl,rfl,rfl,rfl,rfl,rfl,rfl,rfl,trivial⟩ rfl)
        ·refine ag (sr (lo fK ?_));refine mq ?_;obtain⟨TN,TC,h⟩:=aa h;refine fr 1 ?_;refine wX (R0:=[_]) (X:=[_]) (N:=[(.tmp 110,.rep aB r3.1),(.tmp 111,.eq y.1)]) rfl rfl rfl (ak [.tmp 110,.tmp 111] rfl rfl BK rfl (cD k r3.1 D TN TC)) (fun _ _ _ hl hn=>⟨hn.1,(CV hn.2.1 hl),trivial⟩) rfl (zS rfl) ⟨rfl,rfl,trivial⟩ ?_;refine jb (ge rfl) ?_;refine nt (cn h (fun h=>?_) (fun h=>?_))
         ·refine dh (aI (bO (ae ?_)));exact fX (y,(c.1,c.2.1,c.2.2.1,D)) h (aQ [.inv 0 (dO),.obj b4 25 (.rep aB r3.1)] (dK 23 y D) [1,0] ⟨rfl,rfl,rfl,rfl,rfl,rfl,rfl,trivial⟩ rfl)
         ·refine sk (sr (fr 1 ?_));refine lo fK ?_;refine mq ?_;obtain⟨Ta,TB,h⟩:=aa h;refine fr 1 ?_;refine wX (R0:=[_]) (X:=[_]) (N:=[(.tmp 115,.rep aB r3.1),(.tmp 116,.eq y.1)]) rfl rfl rfl (dL [.tmp 115,.tmp 116] rfl rfl NV rfl (lp k r3.1 D Ta TB)) (fun _ _ _ hl hn=>⟨hn.1,(CV hn.2.1 hl),trivial⟩) rfl (zS rfl) ⟨rfl,rfl,trivial⟩ ?_;refine mq ?_;refine xr ?_;refine xr ?_;refine aq ?_;refine aq (nt (ag (sr ?_)));refine mq ?_;refine jb (ge rfl) ?_;refine nt (cn h (fun h=>?_) (fun h=>?_))
          ·refine sr (cq (nt (rx (br (ba (br (ba (aP ?_))))))));obtain rfl:=hR _ h;exact aE () [_] 1 ⟨rfl,trivial⟩ rfl
          ·refine sk (sr ?_);iterate 2 refine mq ?_
           refine jb (bm rfl) ?_;refine nt (ci h (fun h=>?_) (fun h=>?_))
           ·refine ab ?_;iterate 3 refine mq ?_
            refine aq ?_;refine aq ?_;refine aq (ao (bn ?_));exact fX (y,(Ta.1,l.2.2.2,c.2.2.2,D)) h (aQ [.inv 0 (dO),.obj b4 25 (.rep aB r3.1)] (dK 23 y D) [1,0] ⟨rfl,rfl,rfl,rfl,rfl,rfl,rfl,trivial⟩ rfl)
           ·refine aS (bn ?_);exact fX (y,(c.1,c.2.1,c.2.2.1,D)) h (aQ [.inv 0 (dO),.obj b4 25 (.rep aB r3.1)] (dK 23 y D) [1,0] ⟨rfl,rfl,rfl,rfl,rfl,rfl,rfl,trivial⟩ rfl)
       ·refine ab (mq ?_);obtain⟨TG,Tf,h⟩:=aa h;refine jb (bb rfl Tf) ?_;refine aq (nl ?_);exact jz ((),(E.1,E.2.1,E.2.2.1,TG)) h [0,1]
      ·refine dh (aI (aI (bO (bn ?_))));exact jz ((),(c.1,c.2.1,c.2.2.1)) h [0,1]
     ·refine ab (mq ?_);obtain⟨TF,Td,h⟩:=aa h;refine jb (bb rfl Td) ?_;refine aq (nl ?_);exact jz ((),(O.1,O.2.1,O.2.2,TF)) h [0,1]
    ·refine xa ?_;exact jz ((),(l.1,l.2.1,l.2.2.1)) h [0,1]
   ·refine sr (lo fK ?_);refine mq ?_;obtain⟨TM,TA,h⟩:=aa h;refine fr 1 ?_;refine kb (dL [.tmp 129,.tmp 130] rfl rfl PU rfl (tB k r3.1 r3.2.1 TM TA)) ?_;refine mq ?_;refine xr ?_;refine xr ?_;refine xr ?_;refine xr ?_;refine aq ?_;refine aq ?_;refine aq ?_;refine aq (nt (ag (sr ?_)));refine mq ?_;refine jb (dr rfl) ?_;refine nt (ci h (fun h=>?_) (fun h=>?_))
    ·refine aL (Z:=Unit) (α:=Bool) (fun SS SO=>[(2,.eq (.bool SO))]) (fun SS SO=>[.inv 0 (dO)]) h (fun K h=>?_) (fun SS SO h=>?_)
     ·refine ab (mq ?_);refine jb (dr rfl) ?_;refine mq ?_;refine bC (s:=140) rfl (fun hb=>?_) (fun hb=>?_)
      ·replace h:=cp (me hb) h;refine gm ?_;refine gb (dr rfl) ?_;refine pt ?_;refine mq ?_;refine bC (s:=144) rfl (fun hb=>?_) (fun hb=>?_)
       ·replace h:=cp (me hb) h;refine gm ?_;refine gb (dr rfl) ?_;refine pt ?_;refine mq ?_;refine bC (s:=148) rfl (fun hb=>?_) (fun hb=>?_)
        ·replace h:=cp (me hb) h;refine gm ?_;refine gb (dr rfl) ?_;refine pt ?_;refine mq ?_;refine bC (s:=152) rfl (fun hb=>?_) (fun hb=>?_)
         ·replace h:=cp (me hb) h;obtain⟨S9,Tz,h⟩:=aa h;refine jV rfl rfl rfl rfl rfl rfl (dL [] rfl rfl Iq rfl (je k S9 Tz)) trivial ?_;refine pt ?_;refine aq (nl ?_);exact jz ((),S9) h [0]
         ·replace h:=bH (lY hb) h;refine gn ?_;refine pf ?_;refine aq (nl ?_);exact jz ((),false) h [0]
        ·replace h:=bH (lY hb) h;iterate 2 refine gn ?_
         refine pf ?_;refine mq ?_;refine gn ?_;refine pf ?_;refine aq (nl ?_);exact jz ((),false) h [0]
       ·replace h:=bH (lY hb) h;iterate 2 refine gn ?_
        refine pf ?_;refine mq ?_;iterate 2 refine gn ?_
        refine pf ?_;refine mq ?_;refine gn ?_;refine pf ?_;refine aq (nl ?_);exact jz ((),false) h [0]
      ·replace h:=bH (lY hb) h;iterate 2 refine gn ?_
       refine pf ?_;refine mq ?_;iterate 2 refine gn ?_
       refine pf ?_;refine mq ?_;iterate 2 refine gn ?_
       refine pf ?_;refine mq ?_;refine gn ?_;refine pf ?_;refine aq (nl ?_);exact jz ((),false) h [0]
     ·refine rx ?_;cases h;exact aE () [_] 1 ⟨rfl,trivial⟩ rfl
    ·refine sk (aL (Z:=Unit) (α:=Bool) (fun SR SN=>[(2,.eq (.bool SN))]) (fun SR SN=>[.inv 0 (dO)]) h (fun K h=>?_) (fun SR SN h=>?_))
     ·refine ab (mq ?_);refine jb (dr rfl) ?_;refine mq ?_;refine bC (s:=157) rfl (fun hb=>?_) (fun hb=>?_)
      ·replace h:=cp (me hb) h;refine gm ?_;refine gm ?_;refine gb (dr rfl) ?_;refine pt ?_;refine mq ?_;refine bC (s:=162) rfl (fun hb=>?_) (fun hb=>?_)
       ·replace h:=cp (me hb) h;refine gm ?_;refine gm ?_;refine gb (dr rfl) ?_;refine pt ?_;refine mq ?_;refine bC (s:=167) rfl (fun hb=>?_) (fun hb=>?_)
        ·replace h:=cp (me hb) h;refine gm ?_;refine gm ?_;refine gb (dr rfl) ?_;refine pt ?_;refine mq ?_;refine bC (s:=172) rfl (fun hb=>?_) (fun hb=>?_)
         ·replace h:=cp (me hb) h;obtain⟨S8,Tv,h⟩:=aa h;refine jV rfl rfl rfl rfl rfl rfl (dL [] rfl rfl Iq rfl (je k S8 Tv)) trivial ?_;refine pt ?_;refine aq (nl ?_);exact jz ((),S8) h [0]
         ·replace h:=bH (lY hb) h;refine gn ?_;refine pf ?_;refine aq (nl ?_);exact jz ((),false) h [0]
        ·replace h:=bH (lY hb) h;iterate 3 refine gn ?_
         refine pf ?_;refine mq ?_;refine gn ?_;refine pf ?_;refine aq (nl ?_);exact jz ((),false) h [0]
       ·replace h:=bH (lY hb) h;iterate 3 refine gn ?_
        refine pf ?_;refine mq ?_;iterate 3 refine gn ?_
        refine pf ?_;refine mq ?_;refine gn ?_;refine pf ?_;refine aq (nl ?_);exact jz ((),false) h [0]
      ·replace h:=bH (lY hb) h;iterate 3 refine gn ?_
       refine pf ?_;refine mq ?_;iterate 3 refine gn ?_
       refine pf ?_;refine mq ?_;iterate 3 refine gn ?_
       refine pf ?_;refine mq ?_;refine gn ?_;refine pf ?_;refine aq (nl ?_);exact jz ((),false) h [0]
     ·refine aA ?_;cases h;exact aE () [_] 1 ⟨rfl,trivial⟩ rfl
def mX(k:Nat)(a0:a8)(a1:(List (List Int)))(a2:Int):Option ((List (List Int))×Int):=
 (bD k a0 a1).bind fun r2=>
 if¬(r2=0) then(some ([],r2)) else((dP k a2 0 a0.1).bind fun r3=>
 if¬(r3=true) then(some ([],3)) else((dn k a1).bind fun r5=>
 (gi k (a0,()) r5 a2).bind fun r6=>
 (dZ k (a0,()) r6).bind fun r7=>
 some (r7,0)))
theorem xg(k:Nat)(a0:a8)(a1:(List (List Int)))(a2:Int)(r:(List (List Int))×Int)(h:mX k a0 a1 a2=some r):
 bZ Tryz.prog 52 [.rep aB a0,.rep (.slice (.slice (.int .i64))) a1,I a2] [.inv 0 (dO)] (fun _:Unit=>(bq [.rep (.slice (.slice (.int .i64))) r.1,I r.2],[.inv 0 (dO)])):=by
 unfold mX at h
 replace h:=a9 h
 refine bZ.of 30 Tryz.func52 rfl Tryz.ntmps52 rfl fun S w0=>?_
 refine sr ?_
 refine bx fun b1=>?_
 refine cq ?_
 refine cq ?_
 refine nt ?_
 refine ag ?_
 refine sr ?_
 refine lo fK ?_
 refine mq ?_
 obtain⟨r2,n,h⟩:=aa h
 have s:=cD k a0 a1 r2 n
 refine fr 1 ?_
 refine kb (ak [.tmp 10,.tmp 11] rfl rfl BK rfl s) ?_
 refine aq ?_
 refine nt ?_
 refine sr ?_
 refine mq ?_
 refine jb (ge rfl) ?_
 refine nt ?_
 refine cn h (fun h=>?_) (fun h=>?_)
 ·
  refine sr (mq ?_);refine cq ?_;refine aq (nt (rx ?_));refine bv (lb (t:=(.slice (.slice (.int .i64)))) (x:=[]) 6 rfl .nil rfl rfl) ?_;cases h;exact aE () [_,_] 1 ⟨rfl,rfl,trivial⟩ rfl
 ·
  refine sk (ag (sr (mq ?_)));refine fl kZ ?_;refine fr 1 ?_;refine lo cP ?_;obtain⟨r3,l,h⟩:=aa h;refine jc (ak [.tmp 16,.const (.int .i64 (0)),.tmp 18] rfl rfl yc rfl (dV k a2 0 a0.1 r3 l)) ?_;refine ja (d5 rfl) ?_;refine nt (cw h (fun h=>?_) (fun h=>?_))
  ·refine sr (cq ?_);refine cq (nt (rx ?_));refine bv (lb (t:=(.slice (.slice (.int .i64)))) (x:=[]) 6 rfl .nil rfl rfl) ?_;refine bv (SE.fin (Γ':=[(6,_),(7,_)]) [1,0] ⟨rfl,rfl,trivial⟩ rfl) ?_;cases h;exact aE () [_,_] 1 ⟨rfl,rfl,trivial⟩ rfl
  ·refine sk (sr (lo fK ?_));refine aF rfl rfl rfl (ak [.tmp 21] rfl rfl Ip rfl (gj a0)) ⟨rfl,trivial⟩ fun z4=>?_;refine cu (ko (bN k a0) lC) ?_;refine aq (nt (sr ?_));iterate 3 refine mq ?_
   obtain⟨r5,j,h⟩:=aa h;refine ja (ak [.tmp 25] rfl rfl BJ rfl (d4 k a1 r5 j)) ?_;refine mq ?_;obtain⟨r6,e,h⟩:=aa h;refine jc (dz (N:=[(.tmp 24,.at au (a0,(.map (some z4)))),(.tmp 26,.rep (.arr 3 (.arr 5 (.int .i64))) r5),(.tmp 27,I a2)]) (ak [.tmp 24,.tmp 26,.tmp 27] rfl rfl LY rfl (ml k (a0,()) r5 a2 r6 e)) fun _ _ _ hn=>⟨(pi hn.1),hn.2.1,hn.2.2.1,trivial⟩) ?_;obtain⟨r7,c,h⟩:=aa h;refine aF rfl rfl rfl (dz (N:=[(.tmp 23,.at au (a0,(.map (some z4)))),(.tmp 28,.rep (.arr 3 (.arr 5 (.int .i64))) r6)]) (ak [.tmp 23,.tmp 28] rfl rfl KJ rfl (ii k (a0,()) r6 r7 c)) fun _ _ _ hn=>⟨(pi hn.1),hn.2.1,trivial⟩) ⟨rfl,rfl,trivial⟩ fun v8=>?_;refine aq ?_;refine cq (nt (aA ?_));refine bv (f9 [6,29] ⟨rfl,rfl,trivial⟩) ?_;refine bv (SE.fin (Γ':=[(6,_),(7,_)]) [2,0,1] ⟨rfl,rfl,trivial⟩ rfl) ?_;cases h;exact aE () [_,_] 1 ⟨rfl,rfl,trivial⟩ rfl
def jC(k:Nat)(a0:a8)(a1:(List (List Int))):Nat→(Int×(List (List Int))×Int)→Option (Except (Int×Bool) Int)
 |0,_=>none
 |n+1,y4=>
  if y4.2.2 < a0.1 then((pz k a0 y4.2.1 y4.2.2).bind fun r6=>
  ((if¬(r6.2.2=0) then(some true) else(some (!decide ((r6.2.1.length:Int)=(a1.length:Int))))):Option (Bool)).bind fun x7=>
  if x7=true then(some (.error (0,false))) else((ck (y4.1+(r6.1.length:Int))).bind fun x9=>
  (ck (y4.2.2+1)).bind fun c=>
  jC k a0 a1 n (x9,r6.2.1,c))) else(some (.ok y4.1))
def nb(k:Nat)(a0:a8)(a1:(List (List Int)))(a2:Int):Option (Int×Bool):=
 bE (α:=Int) (jC k a0 a1 k (0,a1,a2)) (some) fun x2=>
 some (x2,true)
theorem tJ(k:Nat)(a0:a8)(a1:(List (List Int)))(a2:Int)(r:Int×Bool)(h:nb k a0 a1 a2=some r):
 bZ Tryz.prog 53 [.rep aB a0,.rep (.slice (.slice (.int .i64))) a1,I a2] [.inv 0 (dO)] (fun _:Unit=>(bq [I r.1,.eq (.bool r.2)],[.inv 0 (dO)])):=by
 unfold nb at h
 replace h:=a9 h
 refine bZ.of 45 Tryz.func53 rfl Tryz.ntmps53 rfl fun S w0=>?_
 refine sr ?_
 refine bx fun b1=>?_
 refine cq ?_
 refine cq ?_
 refine nt ?_
 refine sr ?_
 refine mq ?_
 refine cq ?_
 refine aq ?_
 refine nt ?_
 refine dA (Z:=Unit) (α:=Int) (fun z3 x2=>[(8,I x2)]) (fun z3 x2=>[.inv 0 (dO)]) (fun e=>e=r) h (fun e h=>Option.some.inj h) (fun K hR h=>?_) (fun z3 x2 h=>?_)
 ·
  refine sr (mq ?_);refine aq (nt (aj ?_));refine aG (fun z5 y4=>[(1,.rep (.slice (.slice (.int .i64))) a1),(3,Pt b1),(8,I y4.1),(9,.rep (.slice (.slice (.int .i64))) y4.2.1),(10,I y4.2.2)]) (fun z5 y4=>[.obj b1 25 (.rep aB a0),.inv 0 (dO)]) (jC k a0 a1) k () (0,a1,a2) (fun _=>rfl) h (SE.fin [0,1] ⟨rfl,rfl,rfl,rfl,rfl,trivial⟩ rfl) (fun n z5 y4 h=>?_);unfold jC at h;refine ag (sr (mq ?_));refine fl kZ ?_;refine lo cP ?_;refine jb (bm rfl) ?_;refine nt (ci h (fun h=>?_) (fun h=>?_))
  ·refine sk (ag (aj (sr (lo fK ?_))));iterate 2 refine mq ?_
   obtain⟨r6,u,h⟩:=aa h;refine fr 1 ?_;refine kc (ak [.tmp 23,.tmp 24,.tmp 25] rfl rfl PY rfl (ui k a0 y4.2.1 y4.2.2 r6 u)) ?_;refine mq ?_;refine xr ?_;refine xr ?_;refine xr ?_;refine aq ?_;refine aq ?_;refine aq (nt (ag ?_));refine aL (Z:=Unit) (α:=Bool) (fun z8 x7=>[(1,.rep (.slice (.slice (.int .i64))) a1),(3,Pt b1),(8,I y4.1),(10,I y4.2.2),(11,Ri r6.1),(12,.rep (.slice (.slice (.int .i64))) r6.2.1),(38,.eq (.bool x7))]) (fun z8 x7=>[.obj b1 25 (.rep aB a0),.inv 0 (dO)]) h (fun K h=>?_) (fun z8 x7 h=>?_)
   ·refine ab (mq ?_);refine jb (ge rfl) ?_;refine mq ?_;refine bC (s:=32) rfl (fun hb=>?_) (fun hb=>?_)
    ·replace h:=cp (JY hb) h;iterate 5 refine gn ?_
     refine pt (nl ?_);exact jz ((),true) h [1,0]
    ·replace h:=bH (xH hb) h;refine gm ?_;refine ga (jY rfl rfl k9) ?_;refine gm ?_;refine ga (jY rfl rfl k9) ?_;refine gb (ge rfl) ?_;refine pf (nl ?_);exact jz ((), !decide ((r6.2.1.length:Int)=(a1.length:Int))) h [1,0]
   ·refine cv h (fun h=>?_) (fun h=>?_)
    ·refine sr (cq ?_);refine cq (nt (rx (br (ba (aP ?_)))));refine bv (SE.fin (Γ':=[(6,_),(7,_)]) [1,0] ⟨rfl,rfl,trivial⟩ rfl) ?_;obtain rfl:=hR _ h;exact aE () [_,_] 1 ⟨rfl,rfl,trivial⟩ rfl
    ·refine sk (ab ?_);iterate 2 refine mq ?_
     refine ol eA ?_;obtain⟨x9,l,h⟩:=aa h;refine jb (bb rfl l) ?_;refine mq ?_;refine aq ?_;refine aq (ao (aO (tn (ab ?_))));refine mq ?_;obtain⟨j,c,h⟩:=aa h;refine jb (bb rfl c) ?_;refine aq (nl ?_);exact jz ((),(x9,r6.2.1,j)) h [0,1]
  ·refine xa ?_;exact jz ((),y4.1) h [1]
 ·
  refine sr (mq ?_);refine aq ?_;refine cq (nt (aA ?_));cases h;exact aE () [_,_] 1 ⟨rfl,rfl,trivial⟩ rfl
def bY(k:Nat)(r3:a8×(List (List Int))×Bool×bB)(l:Int×bB)(x:Int×bB)(u:(List (List Int))×Int)(h:(List (List Int))):Nat→((List Int)×Int×Int)→Option (Except Bool ((List Int)×Int))
 |0,_=>none
 |n+1,c=>
  if c.2.2 < (h.length:Int) then(bE (α:=(List Int)×Int) ((dD k u.1).bind fun s=>
  (aZ h c.2.2).bind fun F=>
  (aZ s l.1).bind fun I=>
  (nb k r3.1 (List.set s (Int.toNat l.1) F) x.1).bind fun j=>
  if¬(j.2=true) then(some (.error false)) else(((if c.2.1 < 0 then(some true) else(some (decide (j.1 < c.2.1)))):Option (Bool)).bind fun E=>
  if E=true then((aZ h c.2.2).bind fun D=>
  some (.ok (D,j.1))) else(some (.ok (c.1,c.2.1))))) (fun e=>some (.error e)) fun r=>
  (ck (c.2.2+1)).bind fun y=>
  bY k r3 l x u h n (r.1,r.2,y)) else(some (.ok (c.1,c.2.1)))
def jo(k:Nat)(a0:(List Int)):Option Bool:=
 (jD k a0).bind fun r1=>
 (kK k (r1.1,r1.2.1,r1.2.2) 4).bind fun r3=>
 if¬(r3.2.2.1=true) then((((bD k r3.1 r3.2.1).bind fun r7=>
 if¬(r7=0) then((fp k).bind fun r8=>
 some r8) else(some false)):Option (Bool)).bind fun x5=>
 some x5) else((ck ((r3.1.2.2.length:Int) - 1)).bind fun x9=>
 (cz k (r3.2.2.2.1,r3.2.2.2.2.1,r3.2.2.2.2.2) x9).bind fun c=>
 (cz k (c.2.1,c.2.2.1,c.2.2.2) r3.1.1).bind fun j=>
 (mX k r3.1 r3.2.1 j.1).bind fun e=>
 ((if¬(e.2=0) then(some true) else((dQ k r3.1 e.1).bind fun F=>
 some (!decide (F=0)))):Option (Bool)).bind fun x=>
 if x=true then(some false) else((nb k r3.1 e.1 j.1).bind fun n=>
 (j8 k r3.1 r3.2.1 c.1 j.1).bind fun h=>
 ((if¬(n.2=true) then(some true) else(if¬(h.2.2=0) then(some true) else(some (decide (n.1 < h.2.1))))):Option (Bool)).bind fun u=>
 if u=true then(some false) else((aZ e.1 c.1).bind fun s=>
 (jw k k s ([]:(List Int)) (r3.1.2.1.length:Int)).bind fun E=>
 bE (α:=(List Int)×Int) (bY k r3 c j e E k ([],(-1:Int),0)) (some) fun l=>
 ((if h.2.1=l.2 then((fS k h.1 l.1).bind fun D=>
 if D=true then((fp k).bind fun y=>
 some y) else(some false)) else(some false)):Option (Bool)).bind fun r=>
 some r)))
theorem qK(k:Nat)(a0:(List Int))(r:Bool)(h:jo k a0=some r):
 dC (iU Tryz.prog) 10 [Ri a0] [.inv 0 (dO)] (fun _:Unit=>(bq [.eq (.bool r)],[.inv 0 (dO)])):=by
 unfold jo at h
 replace h:=a9 h
 refine dC.of 147 Tryz.func10 rfl Tryz.ntmps10 rfl fun S w0=>?_
 refine sr ?_
 refine cq ?_
 refine nt ?_
 refine sr ?_
 refine mq ?_
 obtain⟨r1,TD,h⟩:=aa h
 have TG:=oV k a0 r1 TD
 refine aF rfl rfl rfl (ak [.tmp 23] rfl rfl P0 rfl TG) ⟨rfl,trivial⟩ fun b2=>?_
 refine aq ?_
 refine nt ?_
 refine sr ?_
 refine mq ?_
 obtain⟨r3,TC,h⟩:=aa h
 have TF:=tI k (r1.1,r1.2.1,r1.2.2) b2 4 r3 TC
 refine kb (ak [.tmp 26,.const (.int .i64 (4))] rfl rfl PS rfl TF) ?_
 refine mq ?_
 refine xr ?_
 refine xr ?_
 refine xr ?_
 refine aF rfl rfl rfl (bR rfl xb BS) trivial fun b4=>?_
 refine bi rfl rfl (bh rfl fK rfl rfl rfl) ⟨rfl,rfl,trivial⟩ ?_
 refine aq ?_
 refine aq ?_
 refine nt ?_
 refine ag ?_
 refine sr ?_
 refine mq ?_
 refine ja (d5 rfl) ?_
 refine nt ?_
 refine cw h (fun h=>?_) (fun h=>?_)
 ·
  refine aL (Z:=Unit) (α:=Bool) (fun z6 x5=>[(2,.eq (.bool x5))]) (fun z6 x5=>[.inv 0 (dO)]) h (fun K h=>?_) (fun z6 x5 h=>?_)
  ·refine ab (lo fK ?_);refine mq ?_;obtain⟨r7,TB,h⟩:=aa h;refine fr 2 ?_;refine kb (ak [.tmp 33,.tmp 34] rfl rfl BK rfl (cD k r3.1 r3.2.1 r7 TB)) ?_;refine jb (ge rfl) ?_;refine mq ?_;refine bC (s:=37) rfl (fun hb=>?_) (fun hb=>?_)
   ·replace h:=cp (JY hb) h;obtain⟨r8,TA,h⟩:=aa h;refine jV rfl rfl rfl rfl rfl rfl (dL [] rfl rfl Iq rfl (je k r8 TA)) trivial ?_;refine pt ?_;refine aq (nl ?_);exact jz ((),r8) h [0]
   ·replace h:=bH (xH hb) h;refine gn ?_;refine pf ?_;refine aq (nl ?_);exact jz ((),false) h [0]
  ·refine rx ?_;cases h;exact aE () [_] 1 ⟨rfl,trivial⟩ rfl
 ·
  refine sk (ag (cy ?_));refine dm ?_;refine da (aw rfl fD) ?_;refine ea 0 (ap rfl bW mP rfl) ?_;refine da (jY rfl rfl eA) ?_;obtain⟨x9,Tz,h⟩:=aa h;refine db (fQ rfl Tz) ?_;obtain⟨c,Tm,h⟩:=aa h;refine DD 1 rfl rfl rfl rfl (ak [.tmp 40,.tmp 44] rfl rfl BL rfl (dR k (r3.2.2.2.1,r3.2.2.2.2.1,r3.2.2.2.2.2) b2 x9 c Tm)) ⟨rfl,rfl,trivial⟩ ?_;refine dm ?_;refine da (aw rfl kZ) ?_;refine ea 0 (ap rfl cP mP rfl) ?_;refine DF (Δ':=[.obj b4 25 (.rep aB r3.1),.inv 0 (dO),.obj b2 98 (.agg (.pair (Ri c.2.1) (.pair (I c.2.2.1) (.eq (.int .u64 c.2.2.2)))))]) (by kernel_rfl) fo (by kernel_rfl) ?_;obtain⟨u,Tj,h⟩:=aa h;refine fr 2 ?_;refine kb (ak [.tmp 46,.tmp 48] rfl rfl BL rfl (dR k (c.2.1,c.2.2.1,c.2.2.2) b2 r3.1.1 u Tj)) ?_;refine aq ?_;refine aq (nt (sr ?_));refine fr 1 ?_;refine lo fK ?_;iterate 2 refine mq ?_
  obtain⟨y,Ti,h⟩:=aa h;refine fr 2 ?_;refine kc (ak [.tmp 51,.tmp 52,.tmp 53] rfl rfl RJ rfl (xg k r3.1 r3.2.1 u.1 y Ti)) ?_;refine mq ?_;refine xr ?_;refine xr ?_;refine aq ?_;refine aq (nt (ag ?_));refine aL (Z:=Unit) (α:=Bool) (fun SL ac=>[(4,Pt b4),(5,.rep (.slice (.slice (.int .i64))) r3.2.1),(7,I c.1),(8,I u.1),(9,.rep (.slice (.slice (.int .i64))) y.1),(64,.eq (.bool ac))]) (fun SL ac=>[.obj b4 25 (.rep aB r3.1),.inv 0 (dO)]) h (fun K h=>?_) (fun SL ac h=>?_)
  ·refine ab (mq ?_);refine jb (ge rfl) ?_;refine mq ?_;refine bC (s:=59) rfl (fun hb=>?_) (fun hb=>?_)
   ·replace h:=cp (JY hb) h;iterate 4 refine gn ?_
    refine pt (nl ?_);exact jz ((),true) h [1,0]
   ·replace h:=bH (xH hb) h;refine fr 1 ?_;refine jV rfl rfl rfl rfl rfl rfl (ap rfl fK (xG) rfl) ⟨rfl,trivial⟩ ?_;refine gm ?_;obtain⟨SS,Tf,h⟩:=aa h;refine gb (ak [.tmp 60,.tmp 61] rfl rfl PW rfl (li k r3.1 y.1 SS Tf)) ?_;refine gb (ge rfl) ?_;refine pf (nl ?_);exact jz ((), !decide (SS=0)) h [0,1]
  ·refine cv h (fun h=>?_) (fun h=>?_)
   ·refine sr (cq (nt (rx ?_)));refine bv (SE.fin (Γ':=[(2,_)]) [1,0] ⟨rfl,trivial⟩ rfl) ?_;cases h;exact aE () [_] 1 ⟨rfl,trivial⟩ rfl
   ·refine sk (sr (lo fK ?_));iterate 2 refine mq ?_
    obtain⟨SR,Td,h⟩:=aa h;refine fr 1 ?_;refine kc (ak [.tmp 66,.tmp 67,.tmp 68] rfl rfl PR rfl (tJ k r3.1 y.1 u.1 SR Td)) ?_;refine mq ?_;refine xr ?_;refine xr ?_;refine aq ?_;refine aq (nt (sr ?_));refine fr 1 ?_;refine lo fK ?_;iterate 3 refine mq ?_
    obtain⟨l,Ta,h⟩:=aa h;refine fr 1 ?_;refine bV rfl rfl rfl (dL [.tmp 73,.tmp 74,.tmp 75,.tmp 76] rfl rfl PT rfl (qg k r3.1 r3.2.1 c.1 u.1 l Ta)) ⟨rfl,rfl,rfl,rfl,trivial⟩ ?_;refine mq ?_;refine xr ?_;refine xr ?_;refine xr ?_;refine aq ?_;refine aq ?_;refine aq (nt (ag ?_));refine aL (Z:=Unit) (α:=Bool) (fun SK Y=>[(4,Pt b4),(7,I c.1),(8,I u.1),(9,.rep (.slice (.slice (.int .i64))) y.1),(13,Ri l.1),(14,I l.2.1),(91,.eq (.bool Y))]) (fun SK Y=>[.obj b4 25 (.rep aB r3.1),.inv 0 (dO)]) h (fun K h=>?_) (fun SK Y h=>?_)
    ·refine ab (mq ?_);refine ja (d5 rfl) ?_;refine mq ?_;refine bC (s:=83) rfl (fun hb=>?_) (fun hb=>?_)
     ·replace h:=cp (En hb) h;iterate 2 refine gn ?_
      refine pt ?_;refine mq ?_;iterate 3 refine gn ?_
      refine pt (nl ?_);exact jz ((),true) h [1,0]
     ·replace h:=bH (wj hb) h;refine gm ?_;refine gb (ge rfl) ?_;refine pf ?_;refine mq ?_;refine bC (s:=87) rfl (fun hb=>?_) (fun hb=>?_)
      ·replace h:=cp (JY hb) h;iterate 3 refine gn ?_
       refine pt (nl ?_);exact jz ((),true) h [1,0]
      ·replace h:=bH (xH hb) h;refine gm ?_;refine gm ?_;refine gb (jZ rfl) ?_;refine pf (nl ?_);exact jz ((),decide (SR.1 < l.2.1)) h [1,0]
    ·refine cv h (fun h=>?_) (fun h=>?_)
     ·refine sr (cq (nt (rx ?_)));refine bv (SE.fin (Γ':=[(2,_)]) [1,0] ⟨rfl,trivial⟩ rfl) ?_;cases h;exact aE () [_] 1 ⟨rfl,trivial⟩ rfl
     ·refine sk (ag (cy ?_));refine dm ?_;refine dm ?_;obtain⟨SN,SY,h⟩:=aa h;refine db (aH (t:=(.slice (.int .i64))) rfl k9 bW SY) ?_;refine da (an (t:=(.slice (.int .i64))) rfl bW rfl) ?_;refine da (aw rfl eM) ?_;refine ea 0 (ap rfl kW mP rfl) ?_;refine da (jY rfl rfl tp) ?_;refine df fo ?_;obtain⟨M,S9,h⟩:=aa h;refine jc (dz (N:=[(.tmp 95,Ri SN),(.const (.slice none 0 0),.eq (.slice none 0 0)),(.tmp 98,I (r3.1.2.1.length:Int))]) (ak [.tmp 95,.const (.slice none 0 0),.tmp 98] rfl rfl PQ rfl (vI k k SN ([]:(List Int)) (r3.1.2.1.length:Int) M S9)) fun _ _ _ hn=>⟨hn.1,(jG (t:=(.slice (.int .i64))) (x:=([]:(List Int))) .nil rfl rfl hn.2.1),hn.2.2.1,trivial⟩) ?_;refine aq (nt (sr ?_));refine cq (nt (sr ?_));refine cq (nt ?_);refine dA (Z:=Unit) (α:=(List Int)×Int) (fun SJ J=>[(13,Ri l.1),(14,I l.2.1),(17,Ri J.1),(18,I J.2)]) (fun SJ J=>[.inv 0 (dO)]) (fun e=>e=r) h (fun e h=>Option.some.inj h) (fun K hR h=>?_) (fun SJ J h=>?_)
      ·refine sr (cq (nt (aj ?_)));refine eH (lb (t:=(.slice (.int .i64))) (x:=[]) 17 rfl .nil rfl rfl) ?_;refine aG (fun se j=>[(4,Pt b4),(7,I c.1),(8,I u.1),(9,.rep (.slice (.slice (.int .i64))) y.1),(13,Ri l.1),(14,I l.2.1),(16,.rep (.slice (.slice (.int .i64))) M),(17,Ri j.1),(18,I j.2.1),(19,I j.2.2)]) (fun se j=>[.obj b4 25 (.rep aB r3.1),.inv 0 (dO)]) (bY k r3 c u y M) k () ([],(-1:Int),0) (fun _=>rfl) h (SE.fin [0,1] ⟨rfl,rfl,rfl,rfl,rfl,rfl,rfl,rfl,rfl,rfl,trivial⟩ rfl) (fun n se j h=>?_);unfold bY at h;refine ag (sr ?_);iterate 2 refine mq ?_
       refine ol k9 ?_;refine jb (bm rfl) ?_;refine nt (ci h (fun h=>?_) (fun h=>?_))
       ·refine sk (dA (Z:=Unit) (α:=(List Int)×Int) (fun qt E=>[(4,Pt b4),(7,I c.1),(8,I u.1),(9,.rep (.slice (.slice (.int .i64))) y.1),(13,Ri l.1),(14,I l.2.1),(16,.rep (.slice (.slice (.int .i64))) M),(17,Ri E.1),(18,I E.2),(19,I j.2.2)]) (fun qt E=>[.obj b4 25 (.rep aB r3.1),.inv 0 (dO)]) (fun e=>e=r) h (fun e h=>hR e h) (fun K hR h=>?_) (fun qt E h=>?_))
        ·refine aj (sr (mq ?_));obtain⟨SQ,S8,h⟩:=aa h;refine aF rfl rfl rfl (ak [.tmp 106] rfl rfl PZ rfl (sZ k y.1 SQ S8)) ⟨rfl,trivial⟩ fun Tu=>?_;refine aq (nt (sr ?_));iterate 4 refine mq ?_
         obtain⟨Tt,SX,h⟩:=aa h;refine jb (aH (t:=(.slice (.int .i64))) rfl k9 bW SX) ?_;refine ja (an (t:=(.slice (.int .i64))) rfl bW rfl) ?_;obtain⟨TJ,Q,h⟩:=aa h;refine kb (be (t:=(.slice (.int .i64))) rfl k9 bW Q) ?_;refine bi rfl rfl (cX (i:=Int.toNat c.1) rfl bW rfl (ik Q) rfl .rep rfl) ⟨rfl,rfl,trivial⟩ ?_;refine nt (sr (fr 1 ?_));refine lo fK ?_;iterate 2 refine mq ?_
         obtain⟨O,S7,h⟩:=aa h;refine fr 2 ?_;refine fr 2 ?_;refine bJ (Δ:=[_,_]) (F:=_) (fun _ _ _=>av rfl _) rfl rfl (qS (N:=[(.tmp 116,.rep aB r3.1),(.tmp 117,.eq Tu),(.tmp 118,I u.1)]) (ak [.tmp 116,.tmp 117,.tmp 118] rfl rfl PR rfl (tJ k r3.1 (List.set SQ (Int.toNat c.1) Tt) u.1 O S7)) (fun _ _ _ hv hn=>⟨hn.1,(lend hn.2.1 hv),hn.2.2.1,trivial⟩) (fun _=>⟨rfl,Ig (by simp [D.flat,A.flat,Ty.flat])⟩)) ⟨rfl,rfl,rfl,trivial⟩ fun _=>?_;refine mq ?_;refine xr ?_;refine xr ?_;refine aq ?_;refine aq (nt (ag (sr ?_)));refine mq ?_;refine ja (d5 rfl) ?_;refine nt (cw h (fun h=>?_) (fun h=>?_))
         ·refine sr (cq (nt (rx (br (ba (aP ?_))))));refine bv (SE.fin (Γ':=[(2,_)]) [1,0,2] ⟨rfl,trivial⟩ rfl) ?_;obtain rfl:=hR _ h;exact aE () [_] 1 ⟨rfl,trivial⟩ rfl
         ·refine sk (aL (Z:=Unit) (α:=Bool) (fun pp X=>[(4,Pt b4),(7,I c.1),(8,I u.1),(9,.rep (.slice (.slice (.int .i64))) y.1),(13,Ri l.1),(14,I l.2.1),(16,.rep (.slice (.slice (.int .i64))) M),(17,Ri j.1),(18,I j.2.1),(19,I j.2.2),(21,I O.1),(130,.eq (.bool X))]) (fun pp X=>[.obj b4 25 (.rep aB r3.1),.inv 0 (dO)]) h (fun K h=>?_) (fun pp X h=>?_))
          ·refine ab (mq ?_);refine jb (bm rfl) ?_;refine mq ?_;refine bC (s:=126) rfl (fun hb=>?_) (fun hb=>?_)
           ·replace h:=cp (me hb) h;iterate 3 refine gn ?_
            refine pt (nl ?_);exact jz ((),true) h [2,1]
           ·replace h:=bH (lY hb) h;refine gm ?_;refine gm ?_;refine gb (bm rfl) ?_;refine pf (nl ?_);exact jz ((),decide (O.1 < j.2.1)) h [2,1]
          ·refine cv h (fun h=>?_) (fun h=>?_)
           ·refine ab ?_;iterate 2 refine mq ?_
            obtain⟨To,SV,h⟩:=aa h;refine jb (aH (t:=(.slice (.int .i64))) rfl k9 bW SV) ?_;refine ja (an (t:=(.slice (.int .i64))) rfl bW rfl) ?_;refine mq ?_;refine aq ?_;refine aq (ao (bn ?_));exact jz ((),(To,O.1)) h [0,1]
           ·refine aS (bn ?_);exact jz ((),(j.1,j.2.1)) h [0,1]
        ·refine ab (mq ?_);obtain⟨Tn,SU,h⟩:=aa h;refine jb (bb rfl SU) ?_;refine aq (nl ?_);exact jz ((),(E.1,E.2,Tn)) h [0,1]
       ·refine xa ?_;exact jz ((),(j.1,j.2.1)) h [1]
      ·refine aL (Z:=Unit) (α:=Bool) (fun mc U=>[(2,.eq (.bool U))]) (fun mc U=>[.inv 0 (dO)]) h (fun K h=>?_) (fun mc U h=>?_)
       ·refine ab ?_;iterate 2 refine mq ?_
        refine jb (dr rfl) ?_;refine mq ?_;refine bC (s:=139) rfl (fun hb=>?_) (fun hb=>?_)
        ·replace h:=cp (me hb) h;refine gm ?_;refine gm ?_;obtain⟨Tv,S5,h⟩:=aa h;refine gb (ak [.tmp 140,.tmp 141] rfl rfl KO rfl (jp k l.1 J.1 Tv S5)) ?_;refine pt ?_;refine mq ?_;refine bC (s:=144) rfl (fun hb=>?_) (fun hb=>?_)
         ·replace h:=cp (DK hb) h;obtain⟨SO,SZ,h⟩:=aa h;refine jV rfl rfl rfl rfl rfl rfl (dL [] rfl rfl Iq rfl (je k SO SZ)) trivial ?_;refine pt ?_;refine aq (nl ?_);exact jz ((),SO) h [0]
         ·replace h:=bH (DL hb) h;refine gn ?_;refine pf ?_;refine aq (nl ?_);exact jz ((),false) h [0]
        ·replace h:=bH (lY hb) h;iterate 3 refine gn ?_
         refine pf ?_;refine mq ?_;refine gn ?_;refine pf ?_;refine aq (nl ?_);exact jz ((),false) h [0]
       ·refine aA ?_;cases h;exact aE () [_] 1 ⟨rfl,trivial⟩ rfl
end Go.Proofs.YtcnpijmfgfnpiaaGreatDoor
