import Derived.Test.YtcnpijmfgfnpiaaGreatDoorB8
import Derived.Test.YtcnpijmfgfnpiaaGreatDoorB7
import Derived.Test.YtcnpijmfgfnpiaaGreatDoorB5
set_option linter.unusedVariables false
set_option maxRecDepth 4000
set_option maxHeartbeats 1000000
namespace Go.Proofs.YtcnpijmfgfnpiaaGreatDoor
open K Go Go.Proofs
def cg(k:Nat)(a0:aZ)(a1:(List (List Int))):Option Int:=
 (kB k a0).bind fun r2=>
 if¬(r2=0) then(some r2) else((kA k a0 a1).bind fun r4=>
 (O5 r4).bind fun q5=>
 if q5.isSome=true then(some (q5.getD 0)) else(some 0))
theorem dX(k:Nat)(a0:aZ)(a1:(List (List Int)))(r:Int)(h:cg k a0 a1=some r):
 bW Tryz.prog 35 [.rep aD a0,.rep (.slice (.slice (.int .i64))) a1] [.inv 0 (gJ)] (fun _:Unit=>(bp [I r],[.inv 0 (gJ)])):=by
 unfold cg at h
 replace h:=ba h
 refine bW.of 19 Tryz.func35 rfl Tryz.ntmps35 rfl fun S w0=>?_
 refine sr ?_
 refine bx fun b1=>?_
 refine cq ?_
 refine nt ?_
 refine ah ?_
 refine sr ?_
 refine lo hH ?_
 obtain⟨r2,e,h⟩:=ab h
 have l:=qs k a0 r2 e
 refine ja (ap [.tmp 7] rfl rfl NV rfl l) ?_
 refine aq ?_
 refine nt ?_
 refine sr ?_
 refine mq ?_
 refine jb (iS rfl) ?_
 refine nt ?_
 refine cn h (fun h=>?_) (fun h=>?_)
 ·
  refine sr (mq ?_);refine aq (nt (rx ?_));refine bM (SE.fin (Γ':=[(4,_)]) [1,0] ⟨rfl,trivial⟩ rfl) ?_;cases h;exact aM () [_] 1 ⟨rfl,trivial⟩ rfl
 ·
  refine sk (sr (aL rfl rfl rfl (bL rfl ta OJ) trivial fun b3=>?_));refine nt (ah (sr (fr 1 ?_)));refine lo hH ?_;refine mq ?_;obtain⟨r4,c,h⟩:=ab h;refine jb (ap [.tmp 12,.tmp 13] rfl rfl P1 rfl (qj k a0 a1 r4 c)) ?_;refine ja (EM rfl Qp) ?_;obtain⟨q5,j,h⟩:=ab h;refine fr 2 ?_;refine fr 2 ?_;refine bN (Δ:=[_,_]) (F:=_) (fun _ _ _=>av rfl _) rfl rfl (ap [.tmp 14,.tmp 15] rfl rfl P2 rfl (OC j)) ⟨rfl,rfl,trivial⟩ fun _=>?_;refine nt (cv h (fun h=>?_) (fun h=>?_))
  ·refine sr (fl Ir ?_);refine lo Px ?_;refine aq (nt (rx ?_));refine bM (SE.fin (Γ':=[(4,_)]) [1,0,2] ⟨rfl,trivial⟩ rfl) ?_;cases h;exact aM () [_] 1 ⟨rfl,trivial⟩ rfl
  ·refine sk (sr (cq (nt (aA ?_))));refine bM (SE.fin (Γ':=[(4,_)]) [1,0,2] ⟨rfl,trivial⟩ rfl) ?_;cases h;exact aM () [_] 1 ⟨rfl,trivial⟩ rfl
def iN(k:Nat)(a0:aZ)(r7:Int×(List (List Int))):Nat→((List Int)×Int)→Option (List Int)
 |0,_=>none
 |n+1,c=>
  if c.2 < (a0.2.1.length:Int) then((((eE k r7.1 c.2).bind fun j=>
  if j=true then((d4 (bS (List.length c.1+List.length [c.2]))).bind fun _=>
  some (c.1++[c.2])) else(some c.1)):Option ((List Int))).bind fun h=>
  (ck (c.2+1)).bind fun e=>
  iN k a0 r7 n (h,e)) else(some c.1)
def oG(k:Nat)(a0:aZ)(a1:(List (List Int)))(a2:Int):Option ((List Int)×(List (List Int))×Int):=
 (cg k a0 a1).bind fun r2=>
 if¬(r2=0) then(some ([],[],r2)) else((ck (a0.1 - 1)).bind fun x3=>
 (dQ k a2 0 x3).bind fun r4=>
 if¬(r4=true) then(some ([],[],3)) else((dE k a1).bind fun r6=>
 (ik k (a0,()) r6 a2).bind fun r7=>
 ((iN k a0 r7 k (([]:(List Int)),0)):Option ((List Int))).bind fun x9=>
 (eP k (a0,()) r7.2).bind fun c=>
 some (x9,c,0)))
theorem tg(k:Nat)(a0:aZ)(a1:(List (List Int)))(a2:Int)(r:(List Int)×(List (List Int))×Int)(h:oG k a0 a1 a2=some r):
 bW Tryz.prog 31 [.rep aD a0,.rep (.slice (.slice (.int .i64))) a1,I a2] [.inv 0 (gJ)] (fun _:Unit=>(bp [Ri r.1,.rep (.slice (.slice (.int .i64))) r.2.1,I r.2.2],[.inv 0 (gJ)])):=by
 unfold oG at h
 replace h:=ba h
 refine bW.of 55 Tryz.func31 rfl Tryz.ntmps31 rfl fun S w0=>?_
 refine sr ?_
 refine bx fun b1=>?_
 refine cq ?_
 refine cq ?_
 refine cq ?_
 refine nt ?_
 refine ah ?_
 refine sr ?_
 refine lo hH ?_
 refine mq ?_
 obtain⟨r2,ac,h⟩:=ab h
 have mc:=dX k a0 a1 r2 ac
 refine fr 1 ?_
 refine kb (ap [.tmp 15,.tmp 16] rfl rfl Iz rfl mc) ?_
 refine aq ?_
 refine nt ?_
 refine sr ?_
 refine mq ?_
 refine jb (iS rfl) ?_
 refine nt ?_
 refine cn h (fun h=>?_) (fun h=>?_)
 ·
  refine sr (mq ?_);refine cq ?_;refine cq ?_;refine aq (nt (rx ?_));refine bM (m6 (t:=(.slice (.int .i64))) (x:=[]) 6 rfl .nil rfl rfl) ?_;refine bM (m6 (t:=(.slice (.slice (.int .i64)))) (x:=[]) 7 rfl .nil rfl rfl) ?_;cases h;exact aM () [_,_,_] 1 ⟨rfl,rfl,rfl,trivial⟩ rfl
 ·
  refine sk (ah (sr (mq ?_)));refine fl lW ?_;refine fr 1 ?_;refine lo cI ?_;obtain⟨x3,Q,h⟩:=ab h;refine jb (fF rfl Q) ?_;obtain⟨r4,Y,h⟩:=ab h;refine jc (ap [.tmp 21,.const (.int .i64 (0)),.tmp 24] rfl rfl yO rfl (eD k a2 0 x3 r4 Y)) ?_;refine ja (dY rfl) ?_;refine nt (cw h (fun h=>?_) (fun h=>?_))
  ·refine sr (cq ?_);refine cq ?_;refine cq (nt (rx ?_));refine bM (m6 (t:=(.slice (.int .i64))) (x:=[]) 6 rfl .nil rfl rfl) ?_;refine bM (m6 (t:=(.slice (.slice (.int .i64)))) (x:=[]) 7 rfl .nil rfl rfl) ?_;refine bM (SE.fin (Γ':=[(6,_),(7,_),(8,_)]) [1,0] ⟨rfl,rfl,rfl,trivial⟩ rfl) ?_;cases h;exact aM () [_,_,_] 1 ⟨rfl,rfl,rfl,trivial⟩ rfl
  ·refine sk (sr (lo hH ?_));refine aL rfl rfl rfl (ap [.tmp 27] rfl rfl Ix rfl (g9 a0)) ⟨rfl,trivial⟩ fun z5=>?_;refine cS (kG (bD k a0) mA) ?_;refine aq (nt (sr ?_));iterate 2 refine mq ?_
   obtain⟨r6,X,h⟩:=ab h;refine ja (ap [.tmp 31] rfl rfl C5 rfl (eQ k a1 r6 X)) ?_;refine mq ?_;obtain⟨r7,U,h⟩:=ab h;refine jc (dJ (N:=[(.tmp 30,.at au (a0,(.map (some z5)))),(.tmp 32,.rep (.arr 3 (.arr 5 (.int .i64))) r6),(.tmp 33,I a2)]) (ap [.tmp 30,.tmp 32,.tmp 33] rfl rfl NS rfl (nc k (a0,()) r6 a2 r7 U)) fun _ _ _ hn=>⟨(sn hn.1),hn.2.1,hn.2.2.1,trivial⟩) ?_;refine mq ?_;refine xr ?_;refine xr ?_;refine aL rfl rfl rfl (bL rfl l9 mJ) trivial fun b8=>?_;refine aq ?_;refine bg rfl rfl (bb rfl cP rfl rfl rfl) ⟨rfl,rfl,trivial⟩ ?_;refine nt (sr (cq (nt ?_)));refine aP (Z:=Value) (α:=(List Int)) (fun l x9=>[(10,.at au (a0,(.map (some z5)))),(12,Pt b8),(13,.eq l)]) (fun l x9=>[.obj b8 107 (.rep (.arr 3 (.arr 5 (.int .i64))) r7.2),.sl l 3 (.int .i64) x9,.inv 0 (gJ),.inv z5 (bD k a0)]) h (fun K h=>?_) (fun l x9 h=>?_)
   ·refine sr (fl eA ?_);refine fr 2 ?_;refine lo kj ?_;refine ol sH ?_;refine eK rfl ?_;refine nt (aj (fG (SE.nil 3 (.int .i64)) ?_));refine aE (fun e c=>[(10,.at au (a0,(.map (some z5)))),(11,.eq (.int .u8 r7.1)),(12,Pt b8),(13,.eq e),(39,I (a0.2.1.length:Int)),(40,I c.2)]) (fun e c=>[.obj b8 107 (.rep (.arr 3 (.arr 5 (.int .i64))) r7.2),.sl e 3 (.int .i64) c.1,.inv 0 (gJ),.inv z5 (bD k a0)]) (iN k a0 r7) k (.slice none 0 0) (([]:(List Int)),0) (fun _=>rfl) h (SE.fin [2,0,4,3] ⟨rfl,rfl,rfl,rfl,rfl,rfl,trivial⟩ rfl) (fun n e c h=>?_);unfold iN at h;refine sr (jb (bj rfl) ?_);refine nt (ah (ci h (fun h=>?_) (fun h=>?_)))
    ·refine sk (aP (Z:=Value) (α:=(List Int)) (fun j s=>[(10,.at au (a0,(.map (some z5)))),(11,.eq (.int .u8 r7.1)),(12,Pt b8),(13,.eq j),(39,I (a0.2.1.length:Int)),(40,I c.2)]) (fun j s=>[.obj b8 107 (.rep (.arr 3 (.arr 5 (.int .i64))) r7.2),.sl j 3 (.int .i64) s,.inv 0 (gJ),.inv z5 (bD k a0)]) h (fun K h=>?_) (fun j s h=>?_))
     ·refine aj (sr (mq ?_));refine aq (nt (sr ?_));iterate 2 refine mq ?_
      obtain⟨O,E,h⟩:=ab h;refine jb (ap [.tmp 43,.tmp 44] rfl rfl Iw rfl (g8 k r7.1 c.2 O E)) ?_;refine nt (cv h (fun h=>?_) (fun h=>?_))
      ·refine aa ?_;iterate 2 refine mq ?_
       refine ja (bz (t:=(.int .i64)) [(.tmp 47,_)] [c.2] rfl rfl eh (.cons rfl .int .nil) rfl rfl) ?_;obtain⟨u16,y,h⟩:=ab h;refine fr 1 ?_;refine dV rfl rfl rfl (bY rfl rfl eh (aC y)) ⟨rfl,rfl,trivial⟩ fun J=>?_;refine aq (ar (bn ?_));exact jz (J,c.1++[c.2]) h [1,0,2,3]
      ·refine aS (bn ?_);exact jz (e,c.1) h [0,1,2,3]
     ·refine aa ?_;obtain⟨F,u,h⟩:=ab h;refine jb (a9 rfl u) ?_;refine mq (nl ?_);exact jz (j,(s,F)) h [0,1,2,3]
    ·refine xa ?_;exact jz (e,c.1) h [0,1,2,3]
   ·refine sr ?_;iterate 2 refine mq ?_
    refine lo cP ?_;obtain⟨M,D,h⟩:=ab h;refine aL rfl rfl rfl (dJ (N:=[(.tmp 52,.at au (a0,(.map (some z5)))),(.tmp 53,.rep (.arr 3 (.arr 5 (.int .i64))) r7.2)]) (ap [.tmp 52,.tmp 53] rfl rfl K3 rfl (i7 k (a0,()) r7.2 M D)) fun _ _ _ hn=>⟨(sn hn.1),hn.2.1,trivial⟩) ⟨rfl,rfl,trivial⟩ fun pp=>?_;refine aq ?_;refine aq ?_;refine cq (nt (aA ?_));refine dK 2 rfl ?_;refine bM (gK [6,13,51] ⟨rfl,rfl,rfl,trivial⟩) ?_;refine bM (gK [7,54] ⟨rfl,rfl,trivial⟩) ?_;refine bM (SE.fin (Γ':=[(6,_),(7,_),(8,_)]) [1,0,2] ⟨rfl,rfl,rfl,trivial⟩ rfl) ?_;cases h;exact aM () [_,_,_] 1 ⟨rfl,rfl,rfl,trivial⟩ rfl
theorem i8(k:Nat)(a0:aZ)(z_a0:Nat)(a1:(List (List Int)))(r:Int)(h:dh k a0 a1=some r):
 dn (iD Tryz.prog) 111 [.at au (a0,(.map (some z_a0))),.rep (.arr 3 (.arr 5 (.int .i64))) a1] [.inv z_a0 (bD k a0)] (fun _:Unit=>(bp [I r],[.inv z_a0 (bD k a0)])):=by
 have h0:=h
 unfold dh at h
 replace h:=ba h
 obtain⟨u1,eg,h⟩:=ab h
 have hg:=aC eg
 have gk:=FC hg
 refine dn.of 28 Tryz.func111 rfl Tryz.ntmps111 rfl fun S w0=>?_
 refine sr ?_
 refine bx fun b1=>?_
 refine cq ?_
 refine nt ?_
 refine ah ?_
 refine iH 1 rfl ?_
 refine AH fun ob hob=>?_
 obtain⟨lnn,lbb,hlR,hlk⟩:=wA (z:=z_a0) OO JK yD gk CO hob
 refine bX ?_
 refine dm ?_
 refine da (dr rfl) ?_
 refine da (aI 1 false rfl Bc rfl) ?_
 refine da (ak (t:=.val) rfl Jf rfl) ?_
 refine ea 1 (an rfl cP (uA) rfl) ?_
 refine eb 0 (Cm (kv:=kd a1) (vp _) (ln.calm hob) rfl (fun _ _ _ hh=>t6 hh) hlk) ?_
 refine dm ?_
 refine da (gC rfl rfl) ?_
 refine da (gC rfl rfl) ?_
 refine da (ig rfl) ?_
 refine df d3 ?_
 refine aq ?_
 refine nt ?_
 refine ah ?_
 refine sr ?_
 refine mq ?_
 refine ja (dY rfl) ?_
 refine nt ?_
 refine fG (kG (bD k a0) hob) ?_
 refine bC rfl (fun hb=>?_) (fun hb=>?_)
 ·
  refine sr (mq ?_);refine fr 1 ?_;refine lo cP ?_;obtain⟨r2,c,h⟩:=ab h;refine jc (dJ (N:=[(.tmp 18,.at au (a0,(.map (some z_a0)))),(.tmp 19,.rep (.arr 3 (.arr 5 (.int .i64))) a1),(.const (.int .i64 (0)),I 0)]) (gj [.tmp 18,.tmp 19,.const (.int .i64 (0))] rfl rfl JB rfl (lC k (a0,()) a1 0 r2 c)) fun _ _ _ hn=>⟨(sn hn.1),hn.2.1,hn.2.2.1,trivial⟩) ?_;refine aq (nt ?_);refine bX ?_;refine dm ?_;refine da (dr rfl) ?_;refine da (aI 1 false rfl Bc rfl) ?_;refine da (ak (t:=.val) rfl Jf rfl) ?_;refine ea 0 (an rfl cP (uA) rfl) ?_;refine dm ?_;refine df d3 ?_;refine fr 1 ?_;have hl:dh k a0 a1=some r2:=h0.trans (show some r=some r2 from h.symm);refine bg rfl rfl (xY (kv:=kd a1) (vp _) rfl OO yD (fun _ _ _ hh=>t6 hh) gk ⟨a1,hg,rfl,hl⟩) ⟨rfl,rfl,rfl,trivial⟩ ?_;refine nt (sr (mq ?_));refine aq (nt (aA ?_));cases h;exact aM () [_] 1 ⟨rfl,trivial⟩ rfl
 ·
  obtain⟨p,hp,he,hl⟩:=hlR (by simpa using hb);obtain rfl:=vq hg hp he;replace h:some lnn=some r:=hl.symm.trans h0;refine sk (sr (mq ?_));refine aq (nt (aA ?_));cases h;exact aM () [_] 1 ⟨rfl,trivial⟩ rfl
def oD(k:Nat)(a0:aZ)(a1:(List (List Int))):Option (Int×Int):=
 (cg k a0 a1).bind fun r2=>
 if¬(r2=0) then(some (0,r2)) else((dE k a1).bind fun r4=>
 (dh k a0 r4).bind fun r5=>
 some (r5,0))
theorem qq(k:Nat)(a0:aZ)(a1:(List (List Int)))(r:Int×Int)(h:oD k a0 a1=some r):
 dn (iD Tryz.prog) 48 [.rep aD a0,.rep (.slice (.slice (.int .i64))) a1] [.inv 0 (gJ)] (fun _:Unit=>(bp [I r.1,I r.2],[.inv 0 (gJ)])):=by
 unfold oD at h
 replace h:=ba h
 refine dn.of 18 Tryz.func48 rfl Tryz.ntmps48 rfl fun S w0=>?_
 refine sr ?_
 refine bx fun b1=>?_
 refine cq ?_
 refine cq ?_
 refine nt ?_
 refine ah ?_
 refine sr ?_
 refine lo hH ?_
 refine mq ?_
 obtain⟨r2,j,h⟩:=ab h
 have l:=dX k a0 a1 r2 j
 refine fr 1 ?_
 refine kb (ap [.tmp 7,.tmp 8] rfl rfl Iz rfl l) ?_
 refine aq ?_
 refine nt ?_
 refine sr ?_
 refine mq ?_
 refine jb (iS rfl) ?_
 refine nt ?_
 refine cn h (fun h=>?_) (fun h=>?_)
 ·
  refine sr (mq ?_);refine cq ?_;refine aq (nt (rx ?_));cases h;exact aM () [_,_] 1 ⟨rfl,rfl,trivial⟩ rfl
 ·
  refine sk (sr (fr 1 ?_));refine lo hH ?_;refine aL rfl rfl rfl (ap [.tmp 13] rfl rfl Ix rfl (g9 a0)) ⟨rfl,trivial⟩ fun z3=>?_;refine cS (kG (bD k a0) mA) ?_;refine mq ?_;obtain⟨r4,e,h⟩:=ab h;refine ja (ap [.tmp 15] rfl rfl C5 rfl (eQ k a1 r4 e)) ?_;obtain⟨r5,c,h⟩:=ab h;refine kb (gj [.tmp 14,.tmp 16] rfl rfl Jz rfl (i8 k a0 z3 r4 r5 c)) ?_;refine aq ?_;refine cq (nt (aA ?_));refine bM (SE.fin (Γ':=[(4,_),(5,_)]) [2,0,1] ⟨rfl,rfl,trivial⟩ rfl) ?_;cases h;exact aM () [_,_] 1 ⟨rfl,rfl,trivial⟩ rfl
set_option maxRecDepth 20000
set_option maxHeartbeats 4000000
@[reducible] def eO:Ty:=.agg (.pair (.int .i64) (.int .i64))
def NG(x:Int×Int):Value:=.agg #[.int .i64 x.1,.int .i64 x.2]
theorem It{S:FS}{w:World}{x:Int×Int}:(A.rep eO x).holds S w (NG x):=⟨[_,_],⟨[_],[_],rfl,rfl,rfl⟩,rfl⟩
theorem F4{S:FS}{w:World}{x:Int×Int}{v:Value}(h:(A.rep eO x).holds S w v):(A.eq (NG x)).holds S w v:=by
 obtain⟨cs,⟨c1,c2,rfl,h1,h2⟩,rfl⟩:=h;have h1:c1=_:=h1;have h2:c2=_:=h2;subst h1 h2;rfl
theorem gd:du Tryz.prog 131 2 true:=⟨fun w=>by kernel_rfl,fun w=>by kernel_rfl⟩
theorem ng:du Tryz.prog 28 1 false:=⟨fun w=>by kernel_rfl,fun w=>by kernel_rfl⟩
theorem AP:du Tryz.prog 23 1 false:=⟨fun w=>by kernel_rfl,fun w=>by kernel_rfl⟩
theorem sM:du Tryz.prog 3 1 false:=⟨fun w=>by kernel_rfl,fun w=>by kernel_rfl⟩
theorem D9:du Tryz.prog 102 1 false:=⟨fun w=>by kernel_rfl,fun w=>by kernel_rfl⟩
theorem KL:aU Tryz.prog 131 0 0:=aU.of (by kernel_rfl)
theorem KJ:aU Tryz.prog 131 1 1:=aU.of (by kernel_rfl)
theorem NF:aU Tryz.prog 128 0 0:=aU.of (by kernel_rfl)
theorem sS:aU Tryz.prog 128 1 1:=aU.of (by kernel_rfl)
theorem wP:ag Tryz.prog 136:=ag.of Tryz.func136 (by kernel_rfl) (by kernel_rfl)
def iQ(x:Int×Int)(m:Int):Nat→Int×List Int→Option (List Int)
 |0,_=>none
 |n+1,q=>if q.1 < m then((a8 q.2 q.1).bind fun c=>if c=x.1 then(ck (q.1+1)).bind fun w=>iQ x m n (w,q.2.set q.1.toNat x.2) else if c=x.2 then(ck (q.1+1)).bind fun w=>iQ x m n (w,q.2.set q.1.toNat x.1) else(ck (q.1+1)).bind fun w=>iQ x m n (w,q.2)) else some q.2
def jJ(k:Nat)(x:Int×Int)(m:Int):Nat→Int×List (List Int)→Option (List (List Int))
 |0,_=>none
 |n+1,q=>if q.1 < m then((a8 q.2 q.1).bind fun l=>(iQ x (l.length:Int) k (0,l)).bind fun l2=>(ck (q.1+1)).bind fun w=>jJ k x m n (w,q.2.set q.1.toNat l2)) else some q.2
def me(k:Nat)(x:Int×Int)(ls:List (List Int)):Option (List (List Int)):=jJ k x (ls.length:Int) k (0,ls)
theorem lB(k:Nat)(x:Int×Int)(ls r:List (List Int))(y:Nat)(d0:au.den)(z:Value×(Nat→Value))(h:me k x ls=some r):
 bW Tryz.prog 136 [.eq (bP y),.rep eO x] ([.obj y 128 (.agg (.pair (.at au d0) (.eq z.1)))]++fX 23 z ls) (fun _:Unit=>(bp [],[.obj y 128 (.agg (.pair (.at au d0) (.eq z.1)))]++fX 23 z r)):=by
 unfold me at h
 replace h:=ba h
 refine bW.of 45 Tryz.func136 rfl Tryz.ntmps136 rfl fun S w0=>?_
 refine sr ?_
 refine bx fun b3=>?_
 refine nt ?_
 refine sr ?_
 refine mq ?_
 refine ja (aV rfl) ?_
 refine fl sS ?_
 refine fr 1 ?_
 refine lo ng ?_
 refine cS (Bo (pre:=[.obj y 128 (.agg (.pair (.at au d0) (.eq z.1))),.obj b3 131 (.rep eO x)])) ?_
 refine ka (dj rfl rfl lP) ?_
 rw [f7]
 refine cS (Dm (pre:=[.obj y 128 (.agg (.pair (.at au d0) (.eq z.1))),.obj b3 131 (.rep eO x)])) ?_
 refine eK rfl ?_
 refine nt ?_
 refine aj ?_
 refine aE (Z:=Unit) (α:=Int×List (List Int)) (fun _ q=>[(3,.eq (bP b3)),(11,.eq z.1),(12,I (ls.length:Int)),(13,I q.1)]) (fun _ q=>[.obj y 128 (.agg (.pair (.at au d0) (.eq z.1))),.obj b3 131 (.rep eO x)]++fX 23 z q.2) (jJ k x (ls.length:Int)) k () (0,ls) (fun _=>rfl) h (be [.obj y 128 (.agg (.pair (.at au d0) (.eq z.1))),.obj b3 131 (.rep eO x)] (fX 23 z ls) [0,1] ⟨rfl,rfl,rfl,rfl,trivial⟩ rfl) (fun n u q h=>?_)
 unfold jJ at h
 refine sr ?_
 refine jb (bj rfl) ?_
 refine nt ?_
 refine ah ?_
 refine bC rfl (fun hb=>?_) (fun hb=>?_)
 ·
  replace h:=cK (od hb) h;refine sk (ah (aj ?_));obtain⟨l,el,h⟩:=ab h;refine fG (vP (pre:=[.obj y 128 (.agg (.pair (.at au d0) (.eq z.1))),.obj b3 131 (.rep eO x)]) (s4 el).2) ?_;refine sr (fr 1 ?_);refine kb (bJ (t:=.val) rfl lP AP (oC el)) ?_;refine ka (gB (i:=q.1.toNat) (off:=0) rfl AP (fun _=>rfl) rfl (dk (oC el)).2.2 rfl) ?_;refine aq (nt ?_);rw [Option.bind_assoc] at h;refine sr (mq ?_);refine fr 1 ?_;refine ka (dj rfl rfl dW) ?_;refine eK rfl ?_;refine nt (aj (aE (Z:=Unit) (α:=Int×List Int) (fun _ q2=>[(3,.eq (bP b3)),(5,.eq (z.2 q.1.toNat)),(11,.eq z.1),(12,I (ls.length:Int)),(13,I q.1),(17,.eq (z.2 q.1.toNat)),(18,I (l.length:Int)),(19,I q2.1)]) (fun _ q2=>[.sl (z.2 q.1.toNat) 3 (.int .i64) (q2.2),.sl z.1 23 .val (eZ z.2 0 q.2),.obj y 128 (.agg (.pair (.at au d0) (.eq z.1))),.obj b3 131 (.rep eO x)]++((kD z.2 0 q.2).eraseIdx q.1.toNat)) (iQ x (l.length:Int)) k () (0,l) (fun _=>rfl) h (be [.sl (z.2 q.1.toNat) 3 (.int .i64) (l),.sl z.1 23 .val (eZ z.2 0 q.2),.obj y 128 (.agg (.pair (.at au d0) (.eq z.1))),.obj b3 131 (.rep eO x)] ((kD z.2 0 q.2).eraseIdx q.1.toNat) [0,1,2,3] ⟨rfl,rfl,rfl,rfl,rfl,rfl,rfl,rfl,trivial⟩ rfl) (fun n2 u2 q2 h=>?_)));unfold iQ at h;refine sr (jb (bj rfl) ?_);refine nt (ah (bC rfl (fun hb=>?_) (fun hb=>?_)))
  ·replace h:=cK (od hb) h;refine sk (ah (aj ?_));obtain⟨c,ec,h⟩:=ab h;refine sr (mq ?_);refine kb (bJ (t:=.int .i64) rfl dW sM ec) ?_;refine ka (gB (i:=q2.1.toNat) (off:=0) rfl sM (fun _=>rfl) rfl (dk ec).2.2 rfl) ?_;refine aq ?_;refine aq (nt (sr ?_));refine mq (nt (aj (sr ?_)));refine fl KL ?_;refine fr 3 ?_;refine lo sM ?_;refine jb (eY rfl) ?_;refine aq (nt ?_);refine ci h (fun h=>?_) (fun h=>?_)
   ·refine aa ?_;iterate 2 refine mq ?_
    refine fl KJ ?_;refine lo sM ?_;refine fr 1 ?_;refine kb (bJ (t:=.int .i64) rfl dW sM ec) ?_;refine bg rfl rfl (dF (i:=q2.1.toNat) rfl sM rfl (jl ec) rfl .int rfl) ⟨rfl,rfl,trivial⟩ ?_;refine ar (aN (aN (tn (aa ?_))));obtain⟨w,ew,h⟩:=ab h;refine jb (a9 rfl ew) ?_;refine mq (nl ?_);exact iE ((),(w,q2.2.set q2.1.toNat x.2)) h (be [.sl (z.2 q.1.toNat) 3 (.int .i64) (q2.2.set q2.1.toNat x.2),.obj b3 131 (.rep eO x),.sl z.1 23 .val (eZ z.2 0 q.2),.obj y 128 (.agg (.pair (.at au d0) (.eq z.1)))] ((kD z.2 0 q.2).eraseIdx q.1.toNat) [0,2,3,1] ⟨rfl,rfl,rfl,rfl,rfl,rfl,rfl,rfl,trivial⟩ rfl)
   ·refine sr (fl KJ ?_);refine lo sM ?_;refine jb (eY rfl) ?_;refine aq (nt ?_);refine ci h (fun h=>?_) (fun h=>?_)
    ·refine aa ?_;iterate 2 refine mq ?_
     refine fl KL ?_;refine lo sM ?_;refine fr 1 ?_;refine kb (bJ (t:=.int .i64) rfl dW sM ec) ?_;refine bg rfl rfl (dF (i:=q2.1.toNat) rfl sM rfl (jl ec) rfl .int rfl) ⟨rfl,rfl,trivial⟩ ?_;refine ar (aN (aN (tn (aa ?_))));obtain⟨w,ew,h⟩:=ab h;refine jb (a9 rfl ew) ?_;refine mq (nl ?_);exact iE ((),(w,q2.2.set q2.1.toNat x.1)) h (be [.sl (z.2 q.1.toNat) 3 (.int .i64) (q2.2.set q2.1.toNat x.1),.obj b3 131 (.rep eO x),.sl z.1 23 .val (eZ z.2 0 q.2),.obj y 128 (.agg (.pair (.at au d0) (.eq z.1)))] ((kD z.2 0 q.2).eraseIdx q.1.toNat) [0,2,3,1] ⟨rfl,rfl,rfl,rfl,rfl,rfl,rfl,rfl,trivial⟩ rfl)
    ·refine aS (aN (aN (tn (aa ?_))));obtain⟨w,ew,h⟩:=ab h;refine jb (a9 rfl ew) ?_;refine mq (nl ?_);exact iE ((),(w,q2.2)) h (be [.obj b3 131 (.rep eO x),.sl (z.2 q.1.toNat) 3 (.int .i64) (q2.2),.sl z.1 23 .val (eZ z.2 0 q.2),.obj y 128 (.agg (.pair (.at au d0) (.eq z.1)))] ((kD z.2 0 q.2).eraseIdx q.1.toNat) [1,2,3,0] ⟨rfl,rfl,rfl,rfl,rfl,rfl,rfl,rfl,trivial⟩ rfl)
  replace h:=bR (nr hb) h;refine cZ (aJ (aJ (bH (aN (tn (fG (zd (pre:=[.obj y 128 (.agg (.pair (.at au d0) (.eq z.1))),.obj b3 131 (.rep eO x)]) (l':=q2.2) (s4 el).2) ?_))))));refine aa ?_;obtain⟨w,ew,h⟩:=ab (X:=ck (q.1+1)) (f:=fun w=>jJ k x (ls.length:Int) n (w,q.2.set q.1.toNat q2.2)) (K:=some) (r:=r) (by simpa using h);refine jb (a9 rfl ew) ?_;refine mq (nl ?_);exact iE ((),(w,q.2.set q.1.toNat q2.2)) h (be [.obj y 128 (.agg (.pair (.at au d0) (.eq z.1))),.obj b3 131 (.rep eO x)] (fX 23 z (q.2.set q.1.toNat q2.2)) [0,1] ⟨rfl,rfl,rfl,rfl,trivial⟩ rfl)
 replace h:=bR (nr hb) h
 refine cZ ?_
 refine aJ ?_
 refine aJ ?_
 refine bH ?_
 cases h
 refine iG ?_
 refine bM (be (Γ':=[]) (pre':=[.obj y 128 (.agg (.pair (.at au d0) (.eq z.1)))]) [.obj y 128 (.agg (.pair (.at au d0) (.eq z.1))),.obj b3 131 (.rep eO x)] (fX 23 z q.2) [0] trivial rfl) ?_
 exact io () [] trivial rfl
@[reducible] def Hr:Ty:=.agg (.pair (.ptr au) (.slice (.slice (.int .i64))))
theorem JS{S:FS}{w:World}{y:Nat}{d0:au.den}{z:Value×(Nat→Value)}{ls:List (List Int)}(h:∀d∈[D.obj y 128 (.agg (.pair (.at au d0) (.eq z.1)))]++fX 23 z ls,d.holds S w∧∀b,d.foot=some b→S b):(A.at Hr (d0,ls)).holds S w (bP y):=by
 obtain⟨⟨cs,h1,c1,c2,rfl,g1,rfl,g2⟩,h2⟩:=h _ (List.mem_cons_self ..);have h3:=Kv (fun d hd=>h d (List.mem_cons_of_mem _ hd));refine⟨y,0,_,128,(0,0),rfl,h2 y rfl,h1,c1,[z.1],?_,g1,?_⟩
 ·have l1:=aH (.ptr au) g1;simp only [Ty.cells] at l1;match c1,l1 with
  |[u],_=>rfl
 ·obtain⟨cs,h4,h5⟩:=h3;have l1:=aH (.slice (.slice (.int .i64))) h4;simp only [Ty.cells] at l1;match cs,l1 with
  |[u],_=>rw [h5];exact h4
theorem xx{S:FS}{w:World}{a:Act}{Γ:Ga}{y:Nat}{d0:au.den}{z:Value×(Nat→Value)}{ls:List (List Int)}(h:∀d∈[D.obj y 128 (.agg (.pair (.at au d0) (.eq z.1)))]++fX 23 z ls,d.holds S w∧∀b,d.foot=some b→S b)
 (hk:∀s r,lk Γ s=some r→r.holds S w (a.tmps.getD s undef)) (h0:lk Γ 0=some (.eq (bP y))):∀s r,lk [(0,A.at Hr (d0,ls))] s=some r→r.holds S w (a.tmps.getD s undef):=fun s r hl=>by
 simp only [lk] at hl
 split at hl
 ·
  rename_i e
  cases hl
  subst e
  have e1:a.tmps.getD 0 undef=bP y:=hk 0 _ h0
  rw [e1]
  exact JS h
 ·
  cases hl
theorem Ju{n:Nat}{r0:A}(h:r0.flat=true):∀s r,lk [(n,r0)] s=some r→r.flat=true:=fun s r hl=>by
 simp only [lk] at hl
 split at hl
 ·
  cases hl;exact h
 ·
  cases hl
theorem KO{d0:D}(h:d0.flat=true):∀d∈[d0],d.flat=true:=fun d hd=>by
 simp only [List.mem_cons,List.not_mem_nil,or_false] at hd
 subst hd;exact h
theorem Is{d0 d1:D}(h:d0.flat=true)(h1:d1.flat=true):∀d∈[d0,d1],d.flat=true:=fun d hd=>by
 simp only [List.mem_cons,List.not_mem_nil,or_false] at hd
 rcases hd with rfl |rfl <;> assumption
theorem xy{y:Nat}{x:Int×Int}(S:FS)(w:World):fH S w [.eq (bP y),.rep eO x] [bP y,NG x]:=⟨_,_,rfl,rfl,_,_,rfl,It,rfl⟩
theorem KI:aU Tryz.prog 173 0 0:=aU.of (by kernel_rfl)
theorem D8:du Tryz.prog 25 3 true:=⟨fun w=>by kernel_rfl,fun w=>by kernel_rfl⟩
theorem NL:ag Tryz.prog 94:=ag.of Tryz.func94 (by kernel_rfl) (by kernel_rfl)
theorem NN:ag Tryz.prog 86:=ag.of Tryz.func86 (by kernel_rfl) (by kernel_rfl)
theorem KT:ag Tryz.prog 111:=ag.of Tryz.func111 (by kernel_rfl) (by kernel_rfl)
def lT(k:Nat)(t:aZ)(x:Int×Int)(ls:List (List Int)):Option (Bool×List (List Int)):=
 (me k x ls).bind fun l1=>(kA k t l1).bind fun e=>if H7 e=true then(me k x l1).bind fun l2=>some (!t8 e,l2) else none
theorem ry(k:Nat)(t:aZ)(x:Int×Int)(ls:List (List Int))(r:Bool×List (List Int))(y m:Nat)(z:Value×(Nat→Value))(h:lT k t x ls=some r):
 bW Tryz.prog 98 [.eq (bP y),.rep eO x] ([.obj y 128 (.agg (.pair (.at au (t,.map (some m))) (.eq z.1)))]++fX 23 z ls) (fun _:Unit=>(bp [.eq (.bool r.1)],[.obj y 128 (.agg (.pair (.at au (t,.map (some m))) (.eq z.1)))]++fX 23 z r.2)):=by
 unfold lT at h
 replace h:=ba h
 obtain⟨l1,e1,h⟩:=ab h
 obtain⟨e,e2,h⟩:=ab h
 have he:H7 e=true:=by
  apply Classical.byContradiction;intro hn;rw [if_neg hn] at h;cases h
 replace h:=cK he h
 obtain⟨l2,e3,h⟩:=ab h
 cases h
 have cv:=qj k t l1 e e2
 refine I8 23 Tryz.func98 rfl Tryz.ntmps98 rfl fun S w0=>?_
 refine sr ?_
 refine bx fun b3=>?_
 refine cq ?_
 refine nt ?_
 refine sr ?_
 refine mq ?_
 refine ka (an rfl gd (xh) rfl) ?_
 refine cS (gx (Δ':=([.obj y 128 (.agg (.pair (.at au (t,.map (some m))) (.eq z.1)))]++fX 23 z ls)++[.obj b3 131 (.rep eO x)]) (List.perm_append_comm (l₁:=([.obj b3 131 (.rep eO x)]:List D)))) ?_
 refine bN (Δ:=_++_) (F:=[_]) (fun _ _ _=>av rfl _) rfl rfl (ap [.tmp 5,.tmp 6] rfl rfl wP rfl (lB k x ls l1 y (t,.map (some m)) z e1)) ⟨rfl,rfl,trivial⟩ fun _=>?_
 refine nt ?_
 refine sr ?_
 refine mq ?_
 refine cS (gx (Δ':=[.obj b3 131 (.rep eO x)]++([.obj y 128 (.agg (.pair (.at au (t,.map (some m))) (.eq z.1)))]++fX 23 z l1)) List.perm_append_comm) ?_
 refine ka (an rfl gd (xh) rfl) ?_
 refine cS (q9 9 rfl fun _ _ _ h=>F4 h) ?_
 refine vT (vs:=[bP y,NG x]) [.tmp 8,.tmp 9] rfl rfl rfl rfl rfl ⟨rfl,rfl,trivial⟩ ?_
 refine ar ?_
 refine ae ?_
 refine bM (gx (Δ':=([.obj y 128 (.agg (.pair (.at au (t,.map (some m))) (.eq z.1)))]++fX 23 z l1)++[.obj b3 131 (.rep eO x)]) (List.perm_append_comm (l₁:=([.obj b3 131 (.rep eO x)]:List D)))) ?_
 show JC _ _ _ _ _
 refine ah ?_
 refine By (L:=_++_) (Δ:=[_]) (Γ1:=[(0,.at Hr ((t,.map (some m)),l1))]) (Z:=Unit) (fun _=>[(4,.eq (.bool (!t8 e)))]) (fun _=>[.obj b3 131 (.rep eO x)]) (fun S w a hl hk=>xx hl hk rfl) (fun _=>⟨Ju rfl,KO rfl⟩) (fun S w=>?_) (fun _=>?_)
 ·
  refine bX ?_;refine dm ?_;refine da (dr rfl) ?_;refine da (aI 1 false rfl NF rfl) ?_;refine da (ak (t:=.ptr au) rfl D9 rfl) ?_;refine da (dr rfl) ?_;refine da (aI 3 true rfl KI rfl) ?_;refine da (ak (t:=aD) rfl D8 rfl) ?_;refine dm ?_;refine da (dr rfl) ?_;refine da (aI 1 false rfl sS rfl) ?_;refine da (ak (t:=.slice (.slice (.int .i64))) rfl ng rfl) ?_;refine sw (by kernel_rfl) pQ ?_;refine jb (ap [.tmp 16,.tmp 20] rfl rfl NL rfl cv) ?_;refine jb (qF rfl Qq he) ?_;refine aq (ar ?_);exact fun a w st=>⟨rfl,(),(SE.fin (Γ':=[(4,.eq (.bool (!t8 e)))]) [0] ⟨rfl,trivial⟩ rfl) a w st⟩
 ·
  refine tn (aA (Bv (Δ1:=[.obj y 128 (.agg (.pair (.at au (t,.map (some m))) (.eq z.1)))]++fX 23 z l1) (F:=[.obj b3 131 (.rep eO x)]) wP (lB k x l1 l2 y (t,.map (some m)) z e3 _) xy (fun _=>?_)));refine bM (gx (Δ':=[.obj b3 131 (.rep eO x)]++([.obj y 128 (.agg (.pair (.at au (t,.map (some m))) (.eq z.1)))]++fX 23 z l2)) List.perm_append_comm) ?_;refine bM (be (pre':=[.obj y 128 (.agg (.pair (.at au (t,.map (some m))) (.eq z.1)))]) (Γ':=[(4,.eq (.bool (!t8 e)))]) [.obj b3 131 (.rep eO x),.obj y 128 (.agg (.pair (.at au (t,.map (some m))) (.eq z.1)))] (fX 23 z l2) [1] ⟨rfl,trivial⟩ rfl) ?_;exact io () [_] ⟨rfl,trivial⟩ rfl
def lU(k:Nat)(t:aZ)(x:Int×Int)(ls:List (List Int)):Option (Int×List (List Int)):=
 (me k x ls).bind fun l1=>(dE k l1).bind fun ld=>(dh k t ld).bind fun n=>(me k x l1).bind fun l2=>some (n,l2)
theorem rz(k:Nat)(t:aZ)(x:Int×Int)(ls:List (List Int))(r:Int×List (List Int))(y m:Nat)(z:Value×(Nat→Value))(h:lU k t x ls=some r):
 dn (iD Tryz.prog) 100 [.eq (bP y),.rep eO x] ([.inv m (bD k t)]++([.obj y 128 (.agg (.pair (.at au (t,.map (some m))) (.eq z.1)))]++fX 23 z ls)) (fun _:Unit=>(bp [I r.1],[.inv m (bD k t)]++([.obj y 128 (.agg (.pair (.at au (t,.map (some m))) (.eq z.1)))]++fX 23 z r.2))):=by
 unfold lU at h
 replace h:=ba h
 obtain⟨l1,e1,h⟩:=ab h
 obtain⟨ld,e2,h⟩:=ab h
 obtain⟨n,e2',h⟩:=ab h
 obtain⟨l2,e3,h⟩:=ab h
 cases h
 have cv:=eQ k l1 ld e2
 have cl:=i8 k t m ld n e2'
 refine zk 20 Tryz.func100 rfl Tryz.ntmps100 rfl fun S w0=>?_
 refine sr ?_
 refine bx fun b3=>?_
 refine cq ?_
 refine nt ?_
 refine sr ?_
 refine mq ?_
 refine ka (an rfl gd (xh) rfl) ?_
 refine cS (gx (Δ':=([.obj y 128 (.agg (.pair (.at au (t,.map (some m))) (.eq z.1)))]++fX 23 z ls)++[.obj b3 131 (.rep eO x),.inv m (bD k t)]) (List.perm_append_comm (l₁:=([.obj b3 131 (.rep eO x),.inv m (bD k t)]:List D)))) ?_
 refine bN (Δ:=_++_) (F:=[_,_]) (fun _ _ _=>av rfl _) rfl rfl (ap [.tmp 5,.tmp 6] rfl rfl wP rfl (lB k x ls l1 y (t,.map (some m)) z e1)) ⟨rfl,rfl,trivial⟩ fun _=>?_
 refine nt ?_
 refine sr ?_
 refine mq ?_
 refine cS (gx (Δ':=[.obj b3 131 (.rep eO x),.inv m (bD k t)]++([.obj y 128 (.agg (.pair (.at au (t,.map (some m))) (.eq z.1)))]++fX 23 z l1)) List.perm_append_comm) ?_
 refine ka (an rfl gd (xh) rfl) ?_
 refine cS (q9 9 rfl fun _ _ _ h=>F4 h) ?_
 refine vT (vs:=[bP y,NG x]) [.tmp 8,.tmp 9] rfl rfl rfl rfl rfl ⟨rfl,rfl,trivial⟩ ?_
 refine ar ?_
 refine ae ?_
 refine bM (gx (Δ':=([.obj y 128 (.agg (.pair (.at au (t,.map (some m))) (.eq z.1)))]++fX 23 z l1)++[.obj b3 131 (.rep eO x),.inv m (bD k t)]) (List.perm_append_comm (l₁:=([.obj b3 131 (.rep eO x),.inv m (bD k t)]:List D)))) ?_
 show JC _ _ _ _ _
 refine ah ?_
 refine By (L:=_++_) (Δ:=[_,_]) (Γ1:=[(0,.at Hr ((t,.map (some m)),l1))]) (Z:=Unit) (fun _=>[(4,I n)]) (fun _=>[.obj b3 131 (.rep eO x),.inv m (bD k t)]) (fun S w a hl hk=>xx hl hk rfl) (fun _=>⟨Ju rfl,Is rfl rfl⟩) (fun S w=>?_) (fun _=>?_)
 ·
  refine bX ?_;refine dm ?_;refine da (dr rfl) ?_;refine da (aI 1 false rfl NF rfl) ?_;refine da (ak (t:=.ptr au) rfl D9 rfl) ?_;refine dm ?_;refine da (dr rfl) ?_;refine da (aI 1 false rfl sS rfl) ?_;refine da (ak (t:=.slice (.slice (.int .i64))) rfl ng rfl) ?_;refine da (ap [.tmp 17] rfl rfl NN rfl cv) ?_;refine sw (by kernel_rfl) pQ ?_;refine fr 1 ?_;refine kb (gj [.tmp 13,.tmp 18] rfl rfl KT rfl cl) ?_;refine aq (ar ?_);exact fun a w st=>⟨rfl,(),(SE.fin (Γ':=[(4,I n)]) [1,0] ⟨rfl,trivial⟩ rfl) a w st⟩
 ·
  refine tn (aA (Bv (Δ1:=[.obj y 128 (.agg (.pair (.at au (t,.map (some m))) (.eq z.1)))]++fX 23 z l1) (F:=[.obj b3 131 (.rep eO x),.inv m (bD k t)]) wP (lB k x l1 l2 y (t,.map (some m)) z e3 _) xy (fun _=>?_)));refine bM (gx (Δ':=[.obj b3 131 (.rep eO x),.inv m (bD k t)]++([.obj y 128 (.agg (.pair (.at au (t,.map (some m))) (.eq z.1)))]++fX 23 z l2)) List.perm_append_comm) ?_;refine bM (be (pre':=[.inv m (bD k t),.obj y 128 (.agg (.pair (.at au (t,.map (some m))) (.eq z.1)))]) (Γ':=[(4,I n)]) [.obj b3 131 (.rep eO x),.inv m (bD k t),.obj y 128 (.agg (.pair (.at au (t,.map (some m))) (.eq z.1)))] (fX 23 z l2) [1,2] ⟨rfl,trivial⟩ rfl) ?_;exact io () [_] ⟨rfl,trivial⟩ rfl
theorem rj:∀w,(zeroValue 131).run Tryz.prog w= .ok (.agg #[.int .i64 0,.int .i64 0]) w:=fun w=>by kernel_rfl
theorem ul:∀S w,(A.cells S w (.rep eO (0,0)) (Value.cells (.agg #[.int .i64 0,.int .i64 0])).toList):=fun _ _=>⟨[_],[_],rfl,rfl,rfl⟩
theorem KU:ag Tryz.prog 100:=ag.of Tryz.func100 (by kernel_rfl) (by kernel_rfl)
abbrev JE:=Int×(Int×Int)×Int×Bool×List (List Int)
def gz(k:Nat)(t:aZ)(xs:List (Int×Int)):Nat→JE→Option ((Int×Int)×Int×Bool×List (List Int))
 |0,_=>none
 |n+1,q=>if q.1 < (xs.length:Int) then((a8 xs q.1).bind fun x=>(lU k t x q.2.2.2.2).bind fun r=>(ck (q.1+1)).bind fun w=>gz k t xs n (if(!q.2.2.2.1 || decide (r.1 < q.2.2.1))=true then(w,x,r.1,true,r.2) else(w,q.2.1,q.2.2.1,q.2.2.2.1,r.2))) else some q.2
def kN(k:Nat)(t:aZ)(xs:List (Int×Int))(ls:List (List Int)):Option ((Int×Int)×Int×Bool×List (List Int)):=gz k t xs k (0,(0,0),0,false,ls)
theorem uF(k:Nat)(t:aZ)(xs:List (Int×Int))(ls:List (List Int))(r:(Int×Int)×Int×Bool×List (List Int))(y m:Nat)(z:Value×(Nat→Value))(h:kN k t xs ls=some r):
 dn (iD Tryz.prog) 99 [.eq (.func (.func 100) #[bP y] #[]),Rs eO xs] ([.inv m (bD k t),.obj y 128 (.agg (.pair (.at au (t,.map (some m))) (.eq z.1)))]++fX 23 z ls) (fun _:Unit=>(bp [.rep eO r.1,I r.2.1,.eq (.bool r.2.2.1)],[.inv m (bD k t),.obj y 128 (.agg (.pair (.at au (t,.map (some m))) (.eq z.1)))]++fX 23 z r.2.2.2)):=by
 unfold kN at h
 replace h:=ba h
 refine dn.of 35 Tryz.func99 rfl Tryz.ntmps99 rfl fun S w0=>?_
 refine sr ?_
 refine aL rfl rfl rfl (bL rfl rj ul) trivial fun b4=>?_
 refine cq ?_
 refine cq ?_
 refine nt ?_
 refine sr ?_
 refine aL rfl rfl rfl (bL rfl rj ul) trivial fun b7=>?_
 refine nt ?_
 refine sr ?_
 refine cq ?_
 refine cq ?_
 refine nt ?_
 refine ah ?_
 refine sr ?_
 refine mq ?_
 refine ol Ls ?_
 refine eK rfl ?_
 refine nt ?_
 refine aj ?_
 refine aE (Z:=Unit) (α:=JE) (fun _ q=>[(0,.eq (.func (.func 100) #[bP y] #[])),(4,.eq (bP b4)),(7,.eq (bP b7)),(8,I q.2.2.1),(9,.eq (.bool q.2.2.2.1)),(13,Rs eO xs),(14,I (xs.length:Int)),(15,I q.1)]) (fun _ q=>[.obj b7 131 (.rep eO q.2.1),.obj b4 131 (.rep eO (0,0)),.inv m (bD k t),.obj y 128 (.agg (.pair (.at au (t,.map (some m))) (.eq z.1)))]++fX 23 z q.2.2.2.2) (gz k t xs) k () (0,(0,0),0,false,ls) (fun _=>rfl) h (be [.obj b7 131 (.rep eO (0,0)),.obj b4 131 (.rep eO (0,0)),.inv m (bD k t),.obj y 128 (.agg (.pair (.at au (t,.map (some m))) (.eq z.1)))] (fX 23 z ls) [0,1,2,3] ⟨rfl,rfl,rfl,rfl,rfl,rfl,rfl,rfl,trivial⟩ rfl) (fun n u q h=>?_)
 unfold gz at h
 obtain⟨q1,q2,q3,q4,q5⟩:=q
 refine sr ?_
 refine jb (bj rfl) ?_
 refine nt ?_
 refine ah ?_
 refine bC rfl (fun hb=>?_) (fun hb=>?_)
 ·
  replace h:=cK (od hb) h;obtain⟨x,ex,h⟩:=ab h;obtain⟨r1,e,h⟩:=ab h;obtain⟨w,ew,h⟩:=ab h;have cl:=rz k t x q5 r1 y m z e;refine sk (ah (aj (sr (jb (aF (t:=eO) rfl Ls gd ex) ?_))));refine ja (ak (t:=eO) rfl gd rfl) ?_;refine aL rfl rfl rfl (bL rfl rj ul) trivial fun c=>?_;refine bg rfl rfl (bb rfl gd rfl rfl rfl) ⟨rfl,rfl,trivial⟩ ?_;refine nt (sr (mq ?_));refine ka (an rfl gd (xh) rfl) ?_;refine cS (gx (Δ':=([.inv m (bD k t)]++([.obj y 128 (.agg (.pair (.at au (t,.map (some m))) (.eq z.1)))]++fX 23 z q5))++[.obj c 131 (.rep eO x),.obj b7 131 (.rep eO q2),.obj b4 131 (.rep eO (0,0))]) (List.perm_append_comm (l₁:=([.obj c 131 (.rep eO x),.obj b7 131 (.rep eO q2),.obj b4 131 (.rep eO (0,0))]:List D)))) ?_;refine bN (Δ:=_++_) (F:=[_,_,_]) (fun _ _ _=>av rfl _) rfl rfl (nK (fs:=[bP y]) (cs:=[]) (ags:=[.rep eO x]) [.tmp 20] rfl rfl KU rfl cl) ⟨rfl,rfl,trivial⟩ fun _=>?_;refine aq ?_;refine cS (gx (Δ':=[.obj c 131 (.rep eO x),.obj b7 131 (.rep eO q2),.obj b4 131 (.rep eO (0,0))]++([.inv m (bD k t)]++([.obj y 128 (.agg (.pair (.at au (t,.map (some m))) (.eq z.1)))]++fX 23 z r1.2))) List.perm_append_comm) ?_;refine nt ?_;cases q4 with
  |false=>
   refine sr (mq ?_);refine ja (dY rfl) ?_;refine mq ?_;iterate 3 refine gn ?_
   refine pt (nt ?_);refine bC rfl (fun hb=>?_) (fun hb=>(by cases hb));refine aa (ka (an rfl gd (xh) rfl) ?_);refine mq ?_;refine fr 1 ?_;refine bg rfl rfl (bb rfl gd rfl rfl rfl) ⟨rfl,rfl,trivial⟩ ?_;refine aq ?_;refine cq (ar (aN (tn (aa ?_))));refine jb (a9 rfl ew) ?_;refine mq (nl ?_);exact iE ((),(w,x,r1.1,true,r1.2)) h (be [.obj b7 131 (.rep eO x),.obj c 131 (.rep eO x),.obj b4 131 (.rep eO (0,0)),.inv m (bD k t),.obj y 128 (.agg (.pair (.at au (t,.map (some m))) (.eq z.1)))] (fX 23 z r1.2) [0,2,3,4] ⟨rfl,rfl,rfl,rfl,rfl,rfl,rfl,rfl,trivial⟩ rfl)
  |true=>
   refine sr (mq ?_);refine ja (dY rfl) ?_;refine mq ?_;refine gm ?_;refine gm ?_;refine gb (bj rfl) ?_;refine pf (nt ?_);refine bC rfl (fun hb=>?_) (fun hb=>?_)
   ·replace h:(gz k t xs n (w,x,r1.1,true,r1.2)).bind some=some r:=by
     have hd:r1.1 < q3:=of_decide_eq_true hb;simpa [hd] using h
    refine aa (ka (an rfl gd (xh) rfl) ?_);refine mq ?_;refine fr 1 ?_;refine bg rfl rfl (bb rfl gd rfl rfl rfl) ⟨rfl,rfl,trivial⟩ ?_;refine aq ?_;refine cq (ar (aN (tn (aa ?_))));refine jb (a9 rfl ew) ?_;refine mq (nl ?_);exact iE ((),(w,x,r1.1,true,r1.2)) h (be [.obj b7 131 (.rep eO x),.obj c 131 (.rep eO x),.obj b4 131 (.rep eO (0,0)),.inv m (bD k t),.obj y 128 (.agg (.pair (.at au (t,.map (some m))) (.eq z.1)))] (fX 23 z r1.2) [0,2,3,4] ⟨rfl,rfl,rfl,rfl,rfl,rfl,rfl,rfl,trivial⟩ rfl)
   ·replace h:(gz k t xs n (w,q2,q3,true,r1.2)).bind some=some r:=by
     have hd:¬r1.1 < q3:=of_decide_eq_false hb;simpa [hd] using h
    refine aS (aN (tn (aa (jb (a9 rfl ew) ?_))));refine mq (nl ?_);exact iE ((),(w,q2,q3,true,r1.2)) h (be [.obj c 131 (.rep eO x),.obj b7 131 (.rep eO q2),.obj b4 131 (.rep eO (0,0)),.inv m (bD k t),.obj y 128 (.agg (.pair (.at au (t,.map (some m))) (.eq z.1)))] (fX 23 z r1.2) [1,2,3,4] ⟨rfl,rfl,rfl,rfl,rfl,rfl,rfl,rfl,trivial⟩ rfl)
 replace h:=bR (nr hb) h
 refine cZ ?_
 refine aJ ?_
 refine aJ ?_
 refine bH ?_
 refine tn ?_
 cases h
 refine sr ?_
 refine ka (an rfl gd (xh) rfl) ?_
 iterate 2 refine mq ?_
 refine fr 1 ?_
 refine bg rfl rfl (bb rfl gd rfl rfl rfl) ⟨rfl,rfl,trivial⟩ ?_
 refine aq ?_
 refine aq ?_
 refine nt ?_
 refine aA ?_
 refine bM (gx (Δ':=([.inv m (bD k t),.obj y 128 (.agg (.pair (.at au (t,.map (some m))) (.eq z.1)))]++fX 23 z q5)++[.obj b4 131 (.rep eO q2),.obj b7 131 (.rep eO q2)]) (List.perm_append_comm (l₁:=([.obj b4 131 (.rep eO q2),.obj b7 131 (.rep eO q2)]:List D)))) ?_
 exact aM () [_,_,_] ([.inv m (bD k t),.obj y 128 (.agg (.pair (.at au (t,.map (some m))) (.eq z.1)))]++fX 23 z q5:List D).length ⟨⟨b4,131,.rep eO q2,2,true,rfl,List.mem_append.2 (.inr (List.mem_cons_self ..)),gd,xh,rfl⟩,rfl,rfl,trivial⟩ (by rw [List.take_left])
theorem pr:ag Tryz.prog 97:=ag.of Tryz.func97 (by kernel_rfl) (by kernel_rfl)
theorem NQ:ag Tryz.prog 48:=ag.of Tryz.func48 (by kernel_rfl) (by kernel_rfl)
theorem NP:ag Tryz.prog 84:=ag.of Tryz.func84 (by kernel_rfl) (by kernel_rfl)
theorem NK:ag Tryz.prog 98:=ag.of Tryz.func98 (by kernel_rfl) (by kernel_rfl)
theorem NJ:ag Tryz.prog 99:=ag.of Tryz.func99 (by kernel_rfl) (by kernel_rfl)
theorem Jd:du Tryz.prog 22 1 false:=⟨fun w=>by kernel_rfl,fun w=>by kernel_rfl⟩
theorem Jt:aU Tryz.prog 25 1 1:=aU.of (by kernel_rfl)
theorem nh:lZ Tryz.prog 28 23 1 24:=.of (z:=(.slice none 0 0)) lP (by kernel_rfl) rfl rfl rfl
theorem Ec:lZ Tryz.prog 129 131 2 16:=.of (z:=(.agg #[.int .i64 0,.int .i64 0])) Ls (by kernel_rfl) rfl rfl rfl
theorem J4:xf Tryz.prog 128 #[(0,1),(1,1)]:=⟨_,Qo,fun _=>by kernel_rfl⟩
theorem JL:∀w,(zeroValue 128).run Tryz.prog w= .ok (.agg #[.pointer none,.slice none 0 0]) w:=fun w=>by kernel_rfl
theorem Lm:∀S w,(A.cells S w (.pair (.eq (.pointer none)) (.eq (.slice none 0 0))) (Value.cells (.agg #[.pointer none,.slice none 0 0])).toList):=fun _ _=>⟨[_],_,rfl,⟨rfl,rfl⟩,rfl,rfl⟩
theorem J3:xf Tryz.prog 131 #[(0,1),(1,1)]:=⟨_,Qn,fun _=>by kernel_rfl⟩
theorem IN:∀S w,(A.cells S w (.pair (I 0) (I 0)) (Value.cells (.agg #[.int .i64 0,.int .i64 0])).toList):=fun _ _=>⟨[_],_,rfl,⟨rfl,rfl⟩,rfl,rfl⟩
def eX:List Bool→Ga→Ga
 |true::l,e::g=>e::eX l g
 |false::l,_::g=>eX l g
 |_,_=>[]
def lE(y:Nat)(z1:Value)(l:List Int)(v v2:Value):Ga:=[(39,.eq (bP y)),(40,.eq (bP y)),(41,.eq (bP y)),(42,.eq (.pointer (some ⟨y,0+1,none⟩))),(43,.eq z1),(44,Ri l),(45,.eq v),(46,.rep (.slice .val) [v]),(47,.eq v2),(48,.eq (bP y)),(49,.eq (.pointer (some ⟨y,0+1,none⟩)))]
def kQ(b2 y:Nat)(n i:Int)(l:List Int)(a1:List (List Int)):Ga:=[(2,.eq (bP b2)),(8,I n),(10,.eq (bP y)),(12,Ri l),(33,.rep (.slice (.slice (.int .i64))) a1),(34,I (a1.length:Int)),(35,I i)]
theorem OL{i j:Int}:AE (.agg (.pair (I i) (I j))) (.rep eO (i,j)):=fun S w cs h=>by
 obtain⟨c1,c2,e,h1,h2⟩:=h
 exact⟨c1,c2,e,h1.1,h2.1⟩
def lD(k:Nat)(a1:List (List Int)):Nat→Int×List (List Int)→Option (List (List Int))
 |0,_=>none
 |n+1,q=>if q.1 < (a1.length:Int) then((a8 a1 q.1).bind fun l=>(jH k l).bind fun l2=>if bS (q.2.length+1) then(ck (q.1+1)).bind fun w=>lD k a1 n (w,q.2++[l2]) else none) else some q.2
def jK(k:Nat)(t:aZ)(i:Int):Nat→Int×List (Int×Int)×List (List Int)→Option (List (Int×Int)×List (List Int))
 |0,_=>none
 |n+1,q=>if q.1 < (t.2.1.length:Int) then((lT k t (i,q.1) q.2.2).bind fun r=>if r.1=true then(if bS (q.2.1.length+1) then(ck (q.1+1)).bind fun w=>jK k t i n (w,q.2.1++[(i,q.1)],r.2) else none) else(ck (q.1+1)).bind fun w=>jK k t i n (w,q.2.1,r.2)) else some q.2
def iR(k:Nat)(t:aZ):Nat→Int×List (Int×Int)×List (List Int)→Option (List (Int×Int)×List (List Int))
 |0,_=>none
 |n+1,q=>if q.1 < (t.2.1.length:Int) then((ck (q.1+1)).bind fun w=>(jK k t q.1 k (w,q.2)).bind fun p=>iR k t n (w,p)) else some q.2
def tf(k:Nat)(a0:aZ)(a1:(List (List Int))):Option (Int×Int×Int×Int):=
 (oD k a0 a1).bind fun L=>if¬(L.2=0) then some (0,0,0,L.2) else
 (lD k a1 k (0,[])).bind fun ls=>(iR k a0 k (0,[],ls)).bind fun p=>(kN k a0 p.1 p.2).bind fun b=>
 if(!b.2.2.1 || decide (L.1≤b.2.1))=true then some (0,0,0,11) else some (b.1.1,b.1.2,b.2.1,0)
theorem xC(k:Nat)(a0:aZ)(a1:(List (List Int)))(r:Int×Int×Int×Int)(h:tf k a0 a1=some r):
 dn (iD Tryz.prog) 40 [.rep aD a0,.rep (.slice (.slice (.int .i64))) a1] [.inv 0 gJ] (fun _:Unit=>(bp [.eq (.int .i64 r.1),.eq (.int .i64 r.2.1),.eq (.int .i64 r.2.2.1),.eq (.int .i64 r.2.2.2)],[.inv 0 gJ])):=by
 unfold tf at h
 replace h:=ba h
 refine dn.of 97 Tryz.func40 rfl Tryz.ntmps40 rfl fun S w0=>?_
 refine ah ?_
 refine aa ?_
 refine aL rfl rfl rfl (nj rfl rfl) ⟨rfl,trivial⟩ fun b2=>?_
 refine dx rfl ?_
 refine dx rfl ?_
 refine dx rfl ?_
 refine dx rfl ?_
 refine ar ?_
 refine ae ?_
 show JC _ _ _ _ _
 obtain⟨L,eL,h⟩:=ab h
 have cL:=qq k a0 a1 L eL
 refine ah ?_
 refine aa ?_
 refine bQ rfl rfl rfl (an rfl D8 (xh) rfl) ⟨rfl,trivial⟩ ?_
 refine ax rfl rfl ?_
 refine bu 1 rfl ?_
 refine bQ rfl rfl rfl (gj [.tmp 21,.tmp 22] rfl rfl NQ rfl cL) ⟨rfl,rfl,trivial⟩ ?_
 refine ax rfl rfl ?_
 refine aB rfl (gC rfl rfl) ⟨rfl,trivial⟩ ?_
 refine aB rfl (gC rfl rfl) ⟨rfl,trivial⟩ ?_
 refine de rfl rfl ?_
 refine de rfl rfl ?_
 refine ar ?_
 refine ae ?_
 show JC _ _ _ _ _
 refine ah ?_
 refine ah ?_
 refine aa ?_
 refine ax rfl rfl ?_
 refine aB rfl (iS rfl) ⟨rfl,rfl,trivial⟩ ?_
 refine ar ?_
 refine ae ?_
 show JC _ _ _ _ _
 refine bC rfl (fun hb=>?_) (fun hb=>?_)
 ·
  replace h:=cK (LO hb) h
  refine ah ?_
  refine aa ?_
  refine ax rfl rfl ?_
  refine dx rfl ?_
  refine dx rfl ?_
  refine dx rfl ?_
  refine de rfl rfl ?_
  refine ar ?_
  refine ae ?_
  show JC _ _ _ _ _
  refine aA ?_
  refine aO ?_
  obtain rfl:=Option.some.inj h
  exact aM () [_,_,_,_] 1 ⟨rfl,rfl,rfl,rfl,trivial⟩ rfl
 replace h:=bR (CN hb) h
 refine aS ?_
 refine ae ?_
 show JC _ _ _ _ _
 rw [Option.bind_assoc] at h
 refine ah ?_
 refine aa ?_
 refine bu 1 rfl ?_
 refine bQ rfl rfl rfl (an rfl D8 (xh) rfl) ⟨rfl,trivial⟩ ?_
 refine aL rfl rfl rfl (ap [.tmp 29] rfl rfl NP rfl (g9 a0)) ⟨rfl,trivial⟩ fun m=>?_
 refine cS (kG (bD k a0) mA) ?_
 refine aB rfl (dt [(0,.tmp 30,_)] rfl J4 JL Lm (je ⟨trivial,trivial⟩) rfl) ⟨rfl,trivial⟩ ?_
 refine aL rfl rfl rfl (nj rfl trivial) ⟨rfl,trivial⟩ fun y=>?_
 refine de rfl rfl ?_
 refine ar ?_
 refine ae ?_
 show JC _ _ _ _ _
 refine ah ?_
 refine ah ?_
 refine aa ?_
 refine ax rfl rfl ?_
 refine aB rfl (k7 rfl rfl lP) ⟨rfl,trivial⟩ ?_
 refine eK rfl ?_
 refine cS (SE.nil 23 .val) ?_
 refine cS (gx (Δ':=[.obj y 128 (.agg (.pair (.at au (a0,.map (some m))) (.eq (.slice none 0 0)))),.inv m (bD k a0),.obj b2 25 (.rep aD a0),.inv 0 gJ]++fX 23 (.slice none 0 0,fun _=>undef) []) (List.Perm.trans (List.perm_append_comm (l₁:=([.sl (.slice none 0 0) 23 .val []]:List D))) (List.Perm.refl _))) ?_
 refine ar ?_
 refine ae ?_
 show JC _ _ _ _ _
 refine aj ?_
 refine aE (Z:=Value×(Nat→Value)) (α:=Int×List (List Int)) (fun z q=>[(2,.eq (bP b2)),(8,.eq (.int .i64 L.1)),(10,.eq (bP y)),(33,.rep (.slice (.slice (.int .i64))) a1),(34,.eq (.int .i64 (a1.length:Int))),(35,.eq (.int .i64 q.1))]) (fun z q=>[.obj y 128 (.agg (.pair (.at au (a0,.map (some m))) (.eq z.1))),.inv m (bD k a0),.obj b2 25 (.rep aD a0),.inv 0 gJ]++fX 23 z q.2) (lD k a1) k (.slice none 0 0,fun _=>undef) (0,[]) (fun _=>rfl) h (be [.obj y 128 (.agg (.pair (.at au (a0,.map (some m))) (.eq (.slice none 0 0)))),.inv m (bD k a0),.obj b2 25 (.rep aD a0),.inv 0 gJ] (fX 23 (.slice none 0 0,fun _=>undef) []) [0,1,2,3] ⟨rfl,rfl,rfl,rfl,rfl,rfl,trivial⟩ rfl) (fun n z q h=>?_)
 unfold lD at h
 refine ah ?_
 refine aa ?_
 refine aB rfl (bj rfl) ⟨rfl,rfl,trivial⟩ ?_
 refine ar ?_
 refine ae ?_
 show JC _ _ _ _ _
 refine ah ?_
 refine bC rfl (fun hb=>?_) (fun hb=>?_)
 ·
  replace h:=cK (od hb) h
  obtain⟨q1,q2⟩:=q
  obtain⟨l,el,h⟩:=ab h
  obtain⟨l2,el2,h⟩:=ab h
  have hk:bS (q2.length+1):=by
   apply Classical.byContradiction
   intro hn
   rw [if_neg hn] at h
   cases h
  replace h:=cK hk h
  have cc:=ml k l l2 el2
  refine aS ?_
  refine ae ?_
  show JC _ _ _ _ _
  refine ah ?_
  refine aj ?_
  refine ah ?_
  refine aa ?_
  refine aB rfl (aF (t:=.slice (.int .i64)) rfl lP AP el) ⟨rfl,rfl,trivial⟩ ?_
  refine aB rfl (ak (t:=.slice (.int .i64)) rfl AP rfl) ⟨rfl,trivial⟩ ?_
  refine de rfl rfl ?_
  refine ar ?_
  refine ae ?_
  show JC _ _ _ _ _
  refine fG (Bo (pre:=[.obj y 128 (.agg (.pair (.at au (a0,.map (some m))) (.eq z.1))),.inv m (bD k a0),.obj b2 25 (.rep aD a0),.inv 0 gJ])) ?_
  refine iH 1 rfl ?_
  refine fG (SE.sub (Γ':=kQ b2 y L.1 q1 l a1) ⟨rfl,rfl,rfl,rfl,rfl,rfl,rfl,trivial⟩) ?_
  generalize hB:kQ b2 y L.1 q1 l a1=B
  refine ux (Δ:=[.obj y 128 (.agg (.pair (.at au (a0,.map (some m))) (.eq z.1))),.sl z.1 23 .val (eZ z.2 0 q2)]) (F:=[.inv m (bD k a0),.obj b2 25 (.rep aD a0),.inv 0 gJ]++kD z.2 0 q2) (Z:=Value×Value) (fun p=>B) (fun p=>[.obj y 128 (.agg (.pair (.at au (a0,.map (some m))) (.eq p.2))),.sl p.2 23 .val (eZ z.2 0 q2++[p.1]),.sl p.1 3 (.int .i64) l2]) (fun S w=>?_) (fun p=>?_)
  ·
   subst hB
   refine G0 (I:=Value×Value) (Ge:=fun _=>kQ b2 y L.1 q1 l a1) (De:=fun p=>[.obj y 128 (.agg (.pair (.at au (a0,.map (some m))) (.eq p.2))),.sl p.2 23 .val (eZ z.2 0 q2++[p.1]),.sl p.1 3 (.int .i64) l2]) (L:=[true,true,true,true,true,true,true,true,true,true,true,true]) pQ rfl (fun J hJ hE=>?_) (by kernel_rfl) (fun p=>?_)
   ·
    have s2047:∀(v v2:Value),J 1 [true,true,true,true,true,true,true,true,true,true,true,false] (eX [true,true,true,true,true,true,true,true,true,true,true,false] (lE y z.1 l v v2)++kQ b2 y L.1 q1 l a1) [.obj y 128 (.agg (.pair (.at au (a0,.map (some m))) (.eq z.1))),.sl v2 23 .val (eZ z.2 0 q2++[v]),.sl v 3 (.int .i64) l2]:=fun v v2=>by
     subst hJ
     refine JD.step [11] (by kernel_rfl) rfl ?_
     refine eU.cons rfl ?_ ?_
     ·
      refine bu 1 rfl ?_
      refine fW fun hv=>?_
      refine bu 1 rfl ?_
      refine bg rfl rfl (bb rfl ng hv rfl rfl) ⟨rfl,rfl,trivial⟩ ?_
      exact aX (hE (v,v2)) [0,1,2] ⟨rfl,rfl,rfl,rfl,rfl,rfl,rfl,trivial⟩
     exact trivial
    have s1023:∀(v v2:Value),J 2 [true,true,true,true,true,true,true,true,true,true,false,false] (eX [true,true,true,true,true,true,true,true,true,true,false,false] (lE y z.1 l v v2)++kQ b2 y L.1 q1 l a1) [.obj y 128 (.agg (.pair (.at au (a0,.map (some m))) (.eq z.1))),.sl v2 23 .val (eZ z.2 0 q2++[v]),.sl v 3 (.int .i64) l2]:=fun v v2=>by
     subst hJ
     refine JD.step [10] (by kernel_rfl) rfl ?_
     refine eU.cons rfl ?_ ?_
     ·
      refine aB rfl (aw rfl sS) ⟨rfl,trivial⟩ ?_
      exact aX (s2047 v v2) [0,1,2] ⟨rfl,rfl,rfl,rfl,rfl,rfl,rfl,rfl,rfl,rfl,rfl,rfl,rfl,rfl,rfl,rfl,rfl,rfl,trivial⟩
     exact trivial
    have s511:∀(v v2:Value),J 3 [true,true,true,true,true,true,true,true,true,false,false,false] (eX [true,true,true,true,true,true,true,true,true,false,false,false] (lE y z.1 l v v2)++kQ b2 y L.1 q1 l a1) [.obj y 128 (.agg (.pair (.at au (a0,.map (some m))) (.eq z.1))),.sl v2 23 .val (eZ z.2 0 q2++[v]),.sl v 3 (.int .i64) l2]:=fun v v2=>by
     subst hJ
     refine JD.step [9] (by kernel_rfl) rfl ?_
     refine eU.cons rfl ?_ ?_
     ·
      refine aB rfl (aV rfl) ⟨rfl,trivial⟩ ?_
      exact aX (s1023 v v2) [0,1,2] ⟨rfl,rfl,rfl,rfl,rfl,rfl,rfl,rfl,rfl,rfl,rfl,rfl,rfl,rfl,rfl,rfl,rfl,trivial⟩
     exact trivial
    have s255:∀(v:Value),J 4 [true,true,true,true,true,true,true,true,false,false,false,false] (eX [true,true,true,true,true,true,true,true,false,false,false,false] (lE y z.1 l v undef)++kQ b2 y L.1 q1 l a1) [.obj y 128 (.agg (.pair (.at au (a0,.map (some m))) (.eq z.1))),.sl z.1 23 .val (eZ z.2 0 q2),.sl v 3 (.int .i64) l2]:=fun v=>by
     subst hJ
     refine JD.step [8] (by kernel_rfl) rfl ?_
     refine eU.cons rfl ?_ ?_
     ·
      refine bu 1 rfl ?_
      refine dV rfl rfl rfl (bY rfl rfl nh (by simpa [f7] using hk)) ⟨rfl,rfl,trivial⟩ fun v2=>?_
      exact aX (s511 v v2) [1,0,2] ⟨rfl,rfl,rfl,rfl,rfl,rfl,rfl,rfl,rfl,rfl,rfl,rfl,rfl,rfl,rfl,rfl,trivial⟩
     exact trivial
    have s510:∀(v v2:Value),J 4 [false,true,true,true,true,true,true,true,true,false,false,false] (eX [false,true,true,true,true,true,true,true,true,false,false,false] (lE y z.1 l v v2)++kQ b2 y L.1 q1 l a1) [.obj y 128 (.agg (.pair (.at au (a0,.map (some m))) (.eq z.1))),.sl v2 23 .val (eZ z.2 0 q2++[v]),.sl v 3 (.int .i64) l2]:=fun v v2=>by
     subst hJ
     refine JD.step [0] (by kernel_rfl) rfl ?_
     refine eU.cons rfl ?_ ?_
     ·
      refine ax rfl rfl ?_
      exact aX (s511 v v2) [0,1,2] ⟨rfl,rfl,rfl,rfl,rfl,rfl,rfl,rfl,rfl,rfl,rfl,rfl,rfl,rfl,rfl,rfl,trivial⟩
     exact trivial
    have s127:∀(v:Value),J 5 [true,true,true,true,true,true,true,false,false,false,false,false] (eX [true,true,true,true,true,true,true,false,false,false,false,false] (lE y z.1 l v undef)++kQ b2 y L.1 q1 l a1) [.obj y 128 (.agg (.pair (.at au (a0,.map (some m))) (.eq z.1))),.sl z.1 23 .val (eZ z.2 0 q2),.sl v 3 (.int .i64) l2]:=fun v=>by
     subst hJ
     refine JD.step [7] (by kernel_rfl) rfl ?_
     refine eU.cons rfl ?_ ?_
     ·
      refine bu 2 rfl ?_
      refine fW fun hv=>?_
      refine aB rfl (bz (t:=.val) [(.tmp 45,.eq v)] [v] rfl rfl nh (.cons hv (.val hv) .nil) rfl rfl) ⟨rfl,trivial⟩ ?_
      exact aX (s255 v) [1,2,0] ⟨rfl,rfl,rfl,rfl,rfl,rfl,rfl,rfl,rfl,rfl,rfl,rfl,rfl,rfl,rfl,trivial⟩
     exact trivial
    have s239:∀(v:Value),J 5 [true,true,true,true,false,true,true,true,false,false,false,false] (eX [true,true,true,true,false,true,true,true,false,false,false,false] (lE y z.1 l v undef)++kQ b2 y L.1 q1 l a1) [.obj y 128 (.agg (.pair (.at au (a0,.map (some m))) (.eq z.1))),.sl z.1 23 .val (eZ z.2 0 q2),.sl v 3 (.int .i64) l2]:=fun v=>by
     subst hJ
     refine JD.step [4] (by kernel_rfl) rfl ?_
     refine eU.cons rfl ?_ ?_
     ·
      refine bQ rfl rfl rfl (an rfl ng mY rfl) ⟨rfl,trivial⟩ ?_
      exact aX (s255 v) [0,1,2] ⟨rfl,rfl,rfl,rfl,rfl,rfl,rfl,rfl,rfl,rfl,rfl,rfl,rfl,rfl,rfl,trivial⟩
     exact trivial
    have s254:∀(v:Value),J 5 [false,true,true,true,true,true,true,true,false,false,false,false] (eX [false,true,true,true,true,true,true,true,false,false,false,false] (lE y z.1 l v undef)++kQ b2 y L.1 q1 l a1) [.obj y 128 (.agg (.pair (.at au (a0,.map (some m))) (.eq z.1))),.sl z.1 23 .val (eZ z.2 0 q2),.sl v 3 (.int .i64) l2]:=fun v=>by
     subst hJ
     refine JD.step [0,8] (by kernel_rfl) rfl ?_
     refine eU.cons rfl ?_ ?_
     ·
      refine ax rfl rfl ?_
      exact aX (s255 v) [0,1,2] ⟨rfl,rfl,rfl,rfl,rfl,rfl,rfl,rfl,rfl,rfl,rfl,rfl,rfl,rfl,rfl,trivial⟩
     refine eU.cons rfl ?_ ?_
     ·
      refine bu 1 rfl ?_
      refine dV rfl rfl rfl (bY rfl rfl nh (by simpa [f7] using hk)) ⟨rfl,rfl,trivial⟩ fun v2=>?_
      exact aX (s510 v v2) [1,0,2] ⟨rfl,rfl,rfl,rfl,rfl,rfl,rfl,rfl,rfl,rfl,rfl,rfl,rfl,rfl,rfl,trivial⟩
     exact trivial
    have s63:J 6 [true,true,true,true,true,true,false,false,false,false,false,false] (eX [true,true,true,true,true,true,false,false,false,false,false,false] (lE y z.1 l undef undef)++kQ b2 y L.1 q1 l a1) [.obj y 128 (.agg (.pair (.at au (a0,.map (some m))) (.eq z.1))),.sl z.1 23 .val (eZ z.2 0 q2)]:=by
     subst hJ
     refine JD.step [6] (by kernel_rfl) rfl ?_
     refine eU.cons rfl ?_ ?_
     ·
      refine aL rfl rfl rfl (ap [.tmp 44] rfl rfl pr rfl cc) ⟨rfl,trivial⟩ fun v=>?_
      exact aX (s127 v) [1,2,0] ⟨rfl,rfl,rfl,rfl,rfl,rfl,rfl,rfl,rfl,rfl,rfl,rfl,rfl,rfl,trivial⟩
     exact trivial
    have s111:∀(v:Value),J 6 [true,true,true,true,false,true,true,false,false,false,false,false] (eX [true,true,true,true,false,true,true,false,false,false,false,false] (lE y z.1 l v undef)++kQ b2 y L.1 q1 l a1) [.obj y 128 (.agg (.pair (.at au (a0,.map (some m))) (.eq z.1))),.sl z.1 23 .val (eZ z.2 0 q2),.sl v 3 (.int .i64) l2]:=fun v=>by
     subst hJ
     refine JD.step [4,7] (by kernel_rfl) rfl ?_
     refine eU.cons rfl ?_ ?_
     ·
      refine bQ rfl rfl rfl (an rfl ng mY rfl) ⟨rfl,trivial⟩ ?_
      exact aX (s127 v) [0,1,2] ⟨rfl,rfl,rfl,rfl,rfl,rfl,rfl,rfl,rfl,rfl,rfl,rfl,rfl,rfl,trivial⟩
     refine eU.cons rfl ?_ ?_
     ·
      refine bu 2 rfl ?_
      refine fW fun hv=>?_
      refine aB rfl (bz (t:=.val) [(.tmp 45,.eq v)] [v] rfl rfl nh (.cons hv (.val hv) .nil) rfl rfl) ⟨rfl,trivial⟩ ?_
      exact aX (s239 v) [1,2,0] ⟨rfl,rfl,rfl,rfl,rfl,rfl,rfl,rfl,rfl,rfl,rfl,rfl,rfl,rfl,trivial⟩
     exact trivial
    have s126:∀(v:Value),J 6 [false,true,true,true,true,true,true,false,false,false,false,false] (eX [false,true,true,true,true,true,true,false,false,false,false,false] (lE y z.1 l v undef)++kQ b2 y L.1 q1 l a1) [.obj y 128 (.agg (.pair (.at au (a0,.map (some m))) (.eq z.1))),.sl z.1 23 .val (eZ z.2 0 q2),.sl v 3 (.int .i64) l2]:=fun v=>by
     subst hJ
     refine JD.step [0,7] (by kernel_rfl) rfl ?_
     refine eU.cons rfl ?_ ?_
     ·
      refine ax rfl rfl ?_
      exact aX (s127 v) [0,1,2] ⟨rfl,rfl,rfl,rfl,rfl,rfl,rfl,rfl,rfl,rfl,rfl,rfl,rfl,rfl,trivial⟩
     refine eU.cons rfl ?_ ?_
     ·
      refine bu 2 rfl ?_
      refine fW fun hv=>?_
      refine aB rfl (bz (t:=.val) [(.tmp 45,.eq v)] [v] rfl rfl nh (.cons hv (.val hv) .nil) rfl rfl) ⟨rfl,trivial⟩ ?_
      exact aX (s254 v) [1,2,0] ⟨rfl,rfl,rfl,rfl,rfl,rfl,rfl,rfl,rfl,rfl,rfl,rfl,rfl,rfl,trivial⟩
     exact trivial
    have s231:∀(v:Value),J 6 [true,true,true,false,false,true,true,true,false,false,false,false] (eX [true,true,true,false,false,true,true,true,false,false,false,false] (lE y z.1 l v undef)++kQ b2 y L.1 q1 l a1) [.obj y 128 (.agg (.pair (.at au (a0,.map (some m))) (.eq z.1))),.sl z.1 23 .val (eZ z.2 0 q2),.sl v 3 (.int .i64) l2]:=fun v=>by
     subst hJ
     refine JD.step [3] (by kernel_rfl) rfl ?_
     refine eU.cons rfl ?_ ?_
     ·
      refine aB rfl (aw rfl sS) ⟨rfl,trivial⟩ ?_
      exact aX (s239 v) [0,1,2] ⟨rfl,rfl,rfl,rfl,rfl,rfl,rfl,rfl,rfl,rfl,rfl,rfl,rfl,rfl,trivial⟩
     exact trivial
    have s238:∀(v:Value),J 6 [false,true,true,true,false,true,true,true,false,false,false,false] (eX [false,true,true,true,false,true,true,true,false,false,false,false] (lE y z.1 l v undef)++kQ b2 y L.1 q1 l a1) [.obj y 128 (.agg (.pair (.at au (a0,.map (some m))) (.eq z.1))),.sl z.1 23 .val (eZ z.2 0 q2),.sl v 3 (.int .i64) l2]:=fun v=>by
     subst hJ
     refine JD.step [0,4] (by kernel_rfl) rfl ?_
     refine eU.cons rfl ?_ ?_
     ·
      refine ax rfl rfl ?_
      exact aX (s239 v) [0,1,2] ⟨rfl,rfl,rfl,rfl,rfl,rfl,rfl,rfl,rfl,rfl,rfl,rfl,rfl,rfl,trivial⟩
     refine eU.cons rfl ?_ ?_
     ·
      refine bQ rfl rfl rfl (an rfl ng mY rfl) ⟨rfl,trivial⟩ ?_
      exact aX (s254 v) [0,1,2] ⟨rfl,rfl,rfl,rfl,rfl,rfl,rfl,rfl,rfl,rfl,rfl,rfl,rfl,rfl,trivial⟩
     exact trivial
    have s31:J 7 [true,true,true,true,true,false,false,false,false,false,false,false] (eX [true,true,true,true,true,false,false,false,false,false,false,false] (lE y z.1 l undef undef)++kQ b2 y L.1 q1 l a1) [.obj y 128 (.agg (.pair (.at au (a0,.map (some m))) (.eq z.1))),.sl z.1 23 .val (eZ z.2 0 q2)]:=by
     subst hJ
     refine JD.step [5] (by kernel_rfl) rfl ?_
     refine eU.cons rfl ?_ ?_
     ·
      refine ax rfl rfl ?_
      exact aX (s63) [0,1] ⟨rfl,rfl,rfl,rfl,rfl,rfl,rfl,rfl,rfl,rfl,rfl,rfl,rfl,trivial⟩
     exact trivial
    have s47:J 7 [true,true,true,true,false,true,false,false,false,false,false,false] (eX [true,true,true,true,false,true,false,false,false,false,false,false] (lE y z.1 l undef undef)++kQ b2 y L.1 q1 l a1) [.obj y 128 (.agg (.pair (.at au (a0,.map (some m))) (.eq z.1))),.sl z.1 23 .val (eZ z.2 0 q2)]:=by
     subst hJ
     refine JD.step [4,6] (by kernel_rfl) rfl ?_
     refine eU.cons rfl ?_ ?_
     ·
      refine bQ rfl rfl rfl (an rfl ng mY rfl) ⟨rfl,trivial⟩ ?_
      exact aX (s63) [0,1] ⟨rfl,rfl,rfl,rfl,rfl,rfl,rfl,rfl,rfl,rfl,rfl,rfl,rfl,trivial⟩
     refine eU.cons rfl ?_ ?_
     ·
      refine aL rfl rfl rfl (ap [.tmp 44] rfl rfl pr rfl cc) ⟨rfl,trivial⟩ fun v=>?_
      exact aX (s111 v) [1,2,0] ⟨rfl,rfl,rfl,rfl,rfl,rfl,rfl,rfl,rfl,rfl,rfl,rfl,rfl,trivial⟩
     exact trivial
    have s62:J 7 [false,true,true,true,true,true,false,false,false,false,false,false] (eX [false,true,true,true,true,true,false,false,false,false,false,false] (lE y z.1 l undef undef)++kQ b2 y L.1 q1 l a1) [.obj y 128 (.agg (.pair (.at au (a0,.map (some m))) (.eq z.1))),.sl z.1 23 .val (eZ z.2 0 q2)]:=by
     subst hJ
     refine JD.step [0,6] (by kernel_rfl) rfl ?_
     refine eU.cons rfl ?_ ?_
     ·
      refine ax rfl rfl ?_
      exact aX (s63) [0,1] ⟨rfl,rfl,rfl,rfl,rfl,rfl,rfl,rfl,rfl,rfl,rfl,rfl,rfl,trivial⟩
     refine eU.cons rfl ?_ ?_
     ·
      refine aL rfl rfl rfl (ap [.tmp 44] rfl rfl pr rfl cc) ⟨rfl,trivial⟩ fun v=>?_
      exact aX (s126 v) [1,2,0] ⟨rfl,rfl,rfl,rfl,rfl,rfl,rfl,rfl,rfl,rfl,rfl,rfl,rfl,trivial⟩
     exact trivial
    have s103:∀(v:Value),J 7 [true,true,true,false,false,true,true,false,false,false,false,false] (eX [true,true,true,false,false,true,true,false,false,false,false,false] (lE y z.1 l v undef)++kQ b2 y L.1 q1 l a1) [.obj y 128 (.agg (.pair (.at au (a0,.map (some m))) (.eq z.1))),.sl z.1 23 .val (eZ z.2 0 q2),.sl v 3 (.int .i64) l2]:=fun v=>by
     subst hJ
     refine JD.step [3,7] (by kernel_rfl) rfl ?_
     refine eU.cons rfl ?_ ?_
     ·
      refine aB rfl (aw rfl sS) ⟨rfl,trivial⟩ ?_
      exact aX (s111 v) [0,1,2] ⟨rfl,rfl,rfl,rfl,rfl,rfl,rfl,rfl,rfl,rfl,rfl,rfl,rfl,trivial⟩
     refine eU.cons rfl ?_ ?_
     ·
      refine bu 2 rfl ?_
      refine fW fun hv=>?_
      refine aB rfl (bz (t:=.val) [(.tmp 45,.eq v)] [v] rfl rfl nh (.cons hv (.val hv) .nil) rfl rfl) ⟨rfl,trivial⟩ ?_
      exact aX (s231 v) [1,2,0] ⟨rfl,rfl,rfl,rfl,rfl,rfl,rfl,rfl,rfl,rfl,rfl,rfl,rfl,trivial⟩
     exact trivial
    have s110:∀(v:Value),J 7 [false,true,true,true,false,true,true,false,false,false,false,false] (eX [false,true,true,true,false,true,true,false,false,false,false,false] (lE y z.1 l v undef)++kQ b2 y L.1 q1 l a1) [.obj y 128 (.agg (.pair (.at au (a0,.map (some m))) (.eq z.1))),.sl z.1 23 .val (eZ z.2 0 q2),.sl v 3 (.int .i64) l2]:=fun v=>by
     subst hJ
     refine JD.step [0,4,7] (by kernel_rfl) rfl ?_
     refine eU.cons rfl ?_ ?_
     ·
      refine ax rfl rfl ?_
      exact aX (s111 v) [0,1,2] ⟨rfl,rfl,rfl,rfl,rfl,rfl,rfl,rfl,rfl,rfl,rfl,rfl,rfl,trivial⟩
     refine eU.cons rfl ?_ ?_
     ·
      refine bQ rfl rfl rfl (an rfl ng mY rfl) ⟨rfl,trivial⟩ ?_
      exact aX (s126 v) [0,1,2] ⟨rfl,rfl,rfl,rfl,rfl,rfl,rfl,rfl,rfl,rfl,rfl,rfl,rfl,trivial⟩
     refine eU.cons rfl ?_ ?_
     ·
      refine bu 2 rfl ?_
      refine fW fun hv=>?_
      refine aB rfl (bz (t:=.val) [(.tmp 45,.eq v)] [v] rfl rfl nh (.cons hv (.val hv) .nil) rfl rfl) ⟨rfl,trivial⟩ ?_
      exact aX (s238 v) [1,2,0] ⟨rfl,rfl,rfl,rfl,rfl,rfl,rfl,rfl,rfl,rfl,rfl,rfl,rfl,trivial⟩
     exact trivial
    have s227:∀(v:Value),J 7 [true,true,false,false,false,true,true,true,false,false,false,false] (eX [true,true,false,false,false,true,true,true,false,false,false,false] (lE y z.1 l v undef)++kQ b2 y L.1 q1 l a1) [.obj y 128 (.agg (.pair (.at au (a0,.map (some m))) (.eq z.1))),.sl z.1 23 .val (eZ z.2 0 q2),.sl v 3 (.int .i64) l2]:=fun v=>by
     subst hJ
     refine JD.step [2] (by kernel_rfl) rfl ?_
     refine eU.cons rfl ?_ ?_
     ·
      refine aB rfl (aV rfl) ⟨rfl,trivial⟩ ?_
      exact aX (s231 v) [0,1,2] ⟨rfl,rfl,rfl,rfl,rfl,rfl,rfl,rfl,rfl,rfl,rfl,rfl,rfl,trivial⟩
     exact trivial
    have s230:∀(v:Value),J 7 [false,true,true,false,false,true,true,true,false,false,false,false] (eX [false,true,true,false,false,true,true,true,false,false,false,false] (lE y z.1 l v undef)++kQ b2 y L.1 q1 l a1) [.obj y 128 (.agg (.pair (.at au (a0,.map (some m))) (.eq z.1))),.sl z.1 23 .val (eZ z.2 0 q2),.sl v 3 (.int .i64) l2]:=fun v=>by
     subst hJ
     refine JD.step [0,3] (by kernel_rfl) rfl ?_
     refine eU.cons rfl ?_ ?_
     ·
      refine ax rfl rfl ?_
      exact aX (s231 v) [0,1,2] ⟨rfl,rfl,rfl,rfl,rfl,rfl,rfl,rfl,rfl,rfl,rfl,rfl,rfl,trivial⟩
     refine eU.cons rfl ?_ ?_
     ·
      refine aB rfl (aw rfl sS) ⟨rfl,trivial⟩ ?_
      exact aX (s238 v) [0,1,2] ⟨rfl,rfl,rfl,rfl,rfl,rfl,rfl,rfl,rfl,rfl,rfl,rfl,rfl,trivial⟩
     exact trivial
    have s15:J 8 [true,true,true,true,false,false,false,false,false,false,false,false] (eX [true,true,true,true,false,false,false,false,false,false,false,false] (lE y z.1 l undef undef)++kQ b2 y L.1 q1 l a1) [.obj y 128 (.agg (.pair (.at au (a0,.map (some m))) (.eq z.1))),.sl z.1 23 .val (eZ z.2 0 q2)]:=by
     subst hJ
     refine JD.step [4,5] (by kernel_rfl) rfl ?_
     refine eU.cons rfl ?_ ?_
     ·
      refine bQ rfl rfl rfl (an rfl ng mY rfl) ⟨rfl,trivial⟩ ?_
      exact aX (s31) [0,1] ⟨rfl,rfl,rfl,rfl,rfl,rfl,rfl,rfl,rfl,rfl,rfl,rfl,trivial⟩
     refine eU.cons rfl ?_ ?_
     ·
      refine ax rfl rfl ?_
      exact aX (s47) [0,1] ⟨rfl,rfl,rfl,rfl,rfl,rfl,rfl,rfl,rfl,rfl,rfl,rfl,trivial⟩
     exact trivial
    have s30:J 8 [false,true,true,true,true,false,false,false,false,false,false,false] (eX [false,true,true,true,true,false,false,false,false,false,false,false] (lE y z.1 l undef undef)++kQ b2 y L.1 q1 l a1) [.obj y 128 (.agg (.pair (.at au (a0,.map (some m))) (.eq z.1))),.sl z.1 23 .val (eZ z.2 0 q2)]:=by
     subst hJ
     refine JD.step [0,5] (by kernel_rfl) rfl ?_
     refine eU.cons rfl ?_ ?_
     ·
      refine ax rfl rfl ?_
      exact aX (s31) [0,1] ⟨rfl,rfl,rfl,rfl,rfl,rfl,rfl,rfl,rfl,rfl,rfl,rfl,trivial⟩
     refine eU.cons rfl ?_ ?_
     ·
      refine ax rfl rfl ?_
      exact aX (s62) [0,1] ⟨rfl,rfl,rfl,rfl,rfl,rfl,rfl,rfl,rfl,rfl,rfl,rfl,trivial⟩
     exact trivial
    have s39:J 8 [true,true,true,false,false,true,false,false,false,false,false,false] (eX [true,true,true,false,false,true,false,false,false,false,false,false] (lE y z.1 l undef undef)++kQ b2 y L.1 q1 l a1) [.obj y 128 (.agg (.pair (.at au (a0,.map (some m))) (.eq z.1))),.sl z.1 23 .val (eZ z.2 0 q2)]:=by
     subst hJ
     refine JD.step [3,6] (by kernel_rfl) rfl ?_
     refine eU.cons rfl ?_ ?_
     ·
      refine aB rfl (aw rfl sS) ⟨rfl,trivial⟩ ?_
      exact aX (s47) [0,1] ⟨rfl,rfl,rfl,rfl,rfl,rfl,rfl,rfl,rfl,rfl,rfl,rfl,trivial⟩
     refine eU.cons rfl ?_ ?_
     ·
      refine aL rfl rfl rfl (ap [.tmp 44] rfl rfl pr rfl cc) ⟨rfl,trivial⟩ fun v=>?_
      exact aX (s103 v) [1,2,0] ⟨rfl,rfl,rfl,rfl,rfl,rfl,rfl,rfl,rfl,rfl,rfl,rfl,trivial⟩
     exact trivial
    have s46:J 8 [false,true,true,true,false,true,false,false,false,false,false,false] (eX [false,true,true,true,false,true,false,false,false,false,false,false] (lE y z.1 l undef undef)++kQ b2 y L.1 q1 l a1) [.obj y 128 (.agg (.pair (.at au (a0,.map (some m))) (.eq z.1))),.sl z.1 23 .val (eZ z.2 0 q2)]:=by
     subst hJ
     refine JD.step [0,4,6] (by kernel_rfl) rfl ?_
     refine eU.cons rfl ?_ ?_
     ·
      refine ax rfl rfl ?_
      exact aX (s47) [0,1] ⟨rfl,rfl,rfl,rfl,rfl,rfl,rfl,rfl,rfl,rfl,rfl,rfl,trivial⟩
     refine eU.cons rfl ?_ ?_
     ·
      refine bQ rfl rfl rfl (an rfl ng mY rfl) ⟨rfl,trivial⟩ ?_
      exact aX (s62) [0,1] ⟨rfl,rfl,rfl,rfl,rfl,rfl,rfl,rfl,rfl,rfl,rfl,rfl,trivial⟩
     refine eU.cons rfl ?_ ?_
     ·
      refine aL rfl rfl rfl (ap [.tmp 44] rfl rfl pr rfl cc) ⟨rfl,trivial⟩ fun v=>?_
      exact aX (s110 v) [1,2,0] ⟨rfl,rfl,rfl,rfl,rfl,rfl,rfl,rfl,rfl,rfl,rfl,rfl,trivial⟩
     exact trivial
    have s99:∀(v:Value),J 8 [true,true,false,false,false,true,true,false,false,false,false,false] (eX [true,true,false,false,false,true,true,false,false,false,false,false] (lE y z.1 l v undef)++kQ b2 y L.1 q1 l a1) [.obj y 128 (.agg (.pair (.at au (a0,.map (some m))) (.eq z.1))),.sl z.1 23 .val (eZ z.2 0 q2),.sl v 3 (.int .i64) l2]:=fun v=>by
     subst hJ
     refine JD.step [2,7] (by kernel_rfl) rfl ?_
     refine eU.cons rfl ?_ ?_
     ·
      refine aB rfl (aV rfl) ⟨rfl,trivial⟩ ?_
      exact aX (s103 v) [0,1,2] ⟨rfl,rfl,rfl,rfl,rfl,rfl,rfl,rfl,rfl,rfl,rfl,rfl,trivial⟩
     refine eU.cons rfl ?_ ?_
     ·
      refine bu 2 rfl ?_
      refine fW fun hv=>?_
      refine aB rfl (bz (t:=.val) [(.tmp 45,.eq v)] [v] rfl rfl nh (.cons hv (.val hv) .nil) rfl rfl) ⟨rfl,trivial⟩ ?_
      exact aX (s227 v) [1,2,0] ⟨rfl,rfl,rfl,rfl,rfl,rfl,rfl,rfl,rfl,rfl,rfl,rfl,trivial⟩
     exact trivial
    have s102:∀(v:Value),J 8 [false,true,true,false,false,true,true,false,false,false,false,false] (eX [false,true,true,false,false,true,true,false,false,false,false,false] (lE y z.1 l v undef)++kQ b2 y L.1 q1 l a1) [.obj y 128 (.agg (.pair (.at au (a0,.map (some m))) (.eq z.1))),.sl z.1 23 .val (eZ z.2 0 q2),.sl v 3 (.int .i64) l2]:=fun v=>by
     subst hJ
     refine JD.step [0,3,7] (by kernel_rfl) rfl ?_
     refine eU.cons rfl ?_ ?_
     ·
      refine ax rfl rfl ?_
      exact aX (s103 v) [0,1,2] ⟨rfl,rfl,rfl,rfl,rfl,rfl,rfl,rfl,rfl,rfl,rfl,rfl,trivial⟩
     refine eU.cons rfl ?_ ?_
     ·
      refine aB rfl (aw rfl sS) ⟨rfl,trivial⟩ ?_
      exact aX (s110 v) [0,1,2] ⟨rfl,rfl,rfl,rfl,rfl,rfl,rfl,rfl,rfl,rfl,rfl,rfl,trivial⟩
     refine eU.cons rfl ?_ ?_
     ·
      refine bu 2 rfl ?_
      refine fW fun hv=>?_
      refine aB rfl (bz (t:=.val) [(.tmp 45,.eq v)] [v] rfl rfl nh (.cons hv (.val hv) .nil) rfl rfl) ⟨rfl,trivial⟩ ?_
      exact aX (s230 v) [1,2,0] ⟨rfl,rfl,rfl,rfl,rfl,rfl,rfl,rfl,rfl,rfl,rfl,rfl,trivial⟩
     exact trivial
    have s225:∀(v:Value),J 8 [true,false,false,false,false,true,true,true,false,false,false,false] (eX [true,false,false,false,false,true,true,true,false,false,false,false] (lE y z.1 l v undef)++kQ b2 y L.1 q1 l a1) [.obj y 128 (.agg (.pair (.at au (a0,.map (some m))) (.eq z.1))),.sl z.1 23 .val (eZ z.2 0 q2),.sl v 3 (.int .i64) l2]:=fun v=>by
     subst hJ
     refine JD.step [1] (by kernel_rfl) rfl ?_
     refine eU.cons rfl ?_ ?_
     ·
      refine ax rfl rfl ?_
      exact aX (s227 v) [0,1,2] ⟨rfl,rfl,rfl,rfl,rfl,rfl,rfl,rfl,rfl,rfl,rfl,rfl,trivial⟩
     exact trivial
    have s226:∀(v:Value),J 8 [false,true,false,false,false,true,true,true,false,false,false,false] (eX [false,true,false,false,false,true,true,true,false,false,false,false] (lE y z.1 l v undef)++kQ b2 y L.1 q1 l a1) [.obj y 128 (.agg (.pair (.at au (a0,.map (some m))) (.eq z.1))),.sl z.1 23 .val (eZ z.2 0 q2),.sl v 3 (.int .i64) l2]:=fun v=>by
     subst hJ
     refine JD.step [0,2] (by kernel_rfl) rfl ?_
     refine eU.cons rfl ?_ ?_
     ·
      refine ax rfl rfl ?_
      exact aX (s227 v) [0,1,2] ⟨rfl,rfl,rfl,rfl,rfl,rfl,rfl,rfl,rfl,rfl,rfl,rfl,trivial⟩
     refine eU.cons rfl ?_ ?_
     ·
      refine aB rfl (aV rfl) ⟨rfl,trivial⟩ ?_
      exact aX (s230 v) [0,1,2] ⟨rfl,rfl,rfl,rfl,rfl,rfl,rfl,rfl,rfl,rfl,rfl,rfl,trivial⟩
     exact trivial
    have s7:J 9 [true,true,true,false,false,false,false,false,false,false,false,false] (eX [true,true,true,false,false,false,false,false,false,false,false,false] (lE y z.1 l undef undef)++kQ b2 y L.1 q1 l a1) [.obj y 128 (.agg (.pair (.at au (a0,.map (some m))) (.eq z.1))),.sl z.1 23 .val (eZ z.2 0 q2)]:=by
     subst hJ
     refine JD.step [3,5] (by kernel_rfl) rfl ?_
     refine eU.cons rfl ?_ ?_
     ·
      refine aB rfl (aw rfl sS) ⟨rfl,trivial⟩ ?_
      exact aX (s15) [0,1] ⟨rfl,rfl,rfl,rfl,rfl,rfl,rfl,rfl,rfl,rfl,rfl,trivial⟩
     refine eU.cons rfl ?_ ?_
     ·
      refine ax rfl rfl ?_
      exact aX (s39) [0,1] ⟨rfl,rfl,rfl,rfl,rfl,rfl,rfl,rfl,rfl,rfl,rfl,trivial⟩
     exact trivial
    have s14:J 9 [false,true,true,true,false,false,false,false,false,false,false,false] (eX [false,true,true,true,false,false,false,false,false,false,false,false] (lE y z.1 l undef undef)++kQ b2 y L.1 q1 l a1) [.obj y 128 (.agg (.pair (.at au (a0,.map (some m))) (.eq z.1))),.sl z.1 23 .val (eZ z.2 0 q2)]:=by
     subst hJ
     refine JD.step [0,4,5] (by kernel_rfl) rfl ?_
     refine eU.cons rfl ?_ ?_
     ·
      refine ax rfl rfl ?_
      exact aX (s15) [0,1] ⟨rfl,rfl,rfl,rfl,rfl,rfl,rfl,rfl,rfl,rfl,rfl,trivial⟩
     refine eU.cons rfl ?_ ?_
     ·
      refine bQ rfl rfl rfl (an rfl ng mY rfl) ⟨rfl,trivial⟩ ?_
      exact aX (s30) [0,1] ⟨rfl,rfl,rfl,rfl,rfl,rfl,rfl,rfl,rfl,rfl,rfl,trivial⟩
     refine eU.cons rfl ?_ ?_
     ·
      refine ax rfl rfl ?_
      exact aX (s46) [0,1] ⟨rfl,rfl,rfl,rfl,rfl,rfl,rfl,rfl,rfl,rfl,rfl,trivial⟩
     exact trivial
    have s35:J 9 [true,true,false,false,false,true,false,false,false,false,false,false] (eX [true,true,false,false,false,true,false,false,false,false,false,false] (lE y z.1 l undef undef)++kQ b2 y L.1 q1 l a1) [.obj y 128 (.agg (.pair (.at au (a0,.map (some m))) (.eq z.1))),.sl z.1 23 .val (eZ z.2 0 q2)]:=by
     subst hJ
     refine JD.step [2,6] (by kernel_rfl) rfl ?_
     refine eU.cons rfl ?_ ?_
     ·
      refine aB rfl (aV rfl) ⟨rfl,trivial⟩ ?_
      exact aX (s39) [0,1] ⟨rfl,rfl,rfl,rfl,rfl,rfl,rfl,rfl,rfl,rfl,rfl,trivial⟩
     refine eU.cons rfl ?_ ?_
     ·
      refine aL rfl rfl rfl (ap [.tmp 44] rfl rfl pr rfl cc) ⟨rfl,trivial⟩ fun v=>?_
      exact aX (s99 v) [1,2,0] ⟨rfl,rfl,rfl,rfl,rfl,rfl,rfl,rfl,rfl,rfl,rfl,trivial⟩
     exact trivial
    have s38:J 9 [false,true,true,false,false,true,false,false,false,false,false,false] (eX [false,true,true,false,false,true,false,false,false,false,false,false] (lE y z.1 l undef undef)++kQ b2 y L.1 q1 l a1) [.obj y 128 (.agg (.pair (.at au (a0,.map (some m))) (.eq z.1))),.sl z.1 23 .val (eZ z.2 0 q2)]:=by
     subst hJ
     refine JD.step [0,3,6] (by kernel_rfl) rfl ?_
     refine eU.cons rfl ?_ ?_
     ·
      refine ax rfl rfl ?_
      exact aX (s39) [0,1] ⟨rfl,rfl,rfl,rfl,rfl,rfl,rfl,rfl,rfl,rfl,rfl,trivial⟩
     refine eU.cons rfl ?_ ?_
     ·
      refine aB rfl (aw rfl sS) ⟨rfl,trivial⟩ ?_
      exact aX (s46) [0,1] ⟨rfl,rfl,rfl,rfl,rfl,rfl,rfl,rfl,rfl,rfl,rfl,trivial⟩
     refine eU.cons rfl ?_ ?_
     ·
      refine aL rfl rfl rfl (ap [.tmp 44] rfl rfl pr rfl cc) ⟨rfl,trivial⟩ fun v=>?_
      exact aX (s102 v) [1,2,0] ⟨rfl,rfl,rfl,rfl,rfl,rfl,rfl,rfl,rfl,rfl,rfl,trivial⟩
     exact trivial
    have s97:∀(v:Value),J 9 [true,false,false,false,false,true,true,false,false,false,false,false] (eX [true,false,false,false,false,true,true,false,false,false,false,false] (lE y z.1 l v undef)++kQ b2 y L.1 q1 l a1) [.obj y 128 (.agg (.pair (.at au (a0,.map (some m))) (.eq z.1))),.sl z.1 23 .val (eZ z.2 0 q2),.sl v 3 (.int .i64) l2]:=fun v=>by
     subst hJ
     refine JD.step [1,7] (by kernel_rfl) rfl ?_
     refine eU.cons rfl ?_ ?_
     ·
      refine ax rfl rfl ?_
      exact aX (s99 v) [0,1,2] ⟨rfl,rfl,rfl,rfl,rfl,rfl,rfl,rfl,rfl,rfl,rfl,trivial⟩
     refine eU.cons rfl ?_ ?_
     ·
      refine bu 2 rfl ?_
      refine fW fun hv=>?_
      refine aB rfl (bz (t:=.val) [(.tmp 45,.eq v)] [v] rfl rfl nh (.cons hv (.val hv) .nil) rfl rfl) ⟨rfl,trivial⟩ ?_
      exact aX (s225 v) [1,2,0] ⟨rfl,rfl,rfl,rfl,rfl,rfl,rfl,rfl,rfl,rfl,rfl,trivial⟩
     exact trivial
    have s98:∀(v:Value),J 9 [false,true,false,false,false,true,true,false,false,false,false,false] (eX [false,true,false,false,false,true,true,false,false,false,false,false] (lE y z.1 l v undef)++kQ b2 y L.1 q1 l a1) [.obj y 128 (.agg (.pair (.at au (a0,.map (some m))) (.eq z.1))),.sl z.1 23 .val (eZ z.2 0 q2),.sl v 3 (.int .i64) l2]:=fun v=>by
     subst hJ
     refine JD.step [0,2,7] (by kernel_rfl) rfl ?_
     refine eU.cons rfl ?_ ?_
     ·
      refine ax rfl rfl ?_
      exact aX (s99 v) [0,1,2] ⟨rfl,rfl,rfl,rfl,rfl,rfl,rfl,rfl,rfl,rfl,rfl,trivial⟩
     refine eU.cons rfl ?_ ?_
     ·
      refine aB rfl (aV rfl) ⟨rfl,trivial⟩ ?_
      exact aX (s102 v) [0,1,2] ⟨rfl,rfl,rfl,rfl,rfl,rfl,rfl,rfl,rfl,rfl,rfl,trivial⟩
     refine eU.cons rfl ?_ ?_
     ·
      refine bu 2 rfl ?_
      refine fW fun hv=>?_
      refine aB rfl (bz (t:=.val) [(.tmp 45,.eq v)] [v] rfl rfl nh (.cons hv (.val hv) .nil) rfl rfl) ⟨rfl,trivial⟩ ?_
      exact aX (s226 v) [1,2,0] ⟨rfl,rfl,rfl,rfl,rfl,rfl,rfl,rfl,rfl,rfl,rfl,trivial⟩
     exact trivial
    have s224:∀(v:Value),J 9 [false,false,false,false,false,true,true,true,false,false,false,false] (eX [false,false,false,false,false,true,true,true,false,false,false,false] (lE y z.1 l v undef)++kQ b2 y L.1 q1 l a1) [.obj y 128 (.agg (.pair (.at au (a0,.map (some m))) (.eq z.1))),.sl z.1 23 .val (eZ z.2 0 q2),.sl v 3 (.int .i64) l2]:=fun v=>by
     subst hJ
     refine JD.step [0,1] (by kernel_rfl) rfl ?_
     refine eU.cons rfl ?_ ?_
     ·
      refine ax rfl rfl ?_
      exact aX (s225 v) [0,1,2] ⟨rfl,rfl,rfl,rfl,rfl,rfl,rfl,rfl,rfl,rfl,rfl,trivial⟩
     refine eU.cons rfl ?_ ?_
     ·
      refine ax rfl rfl ?_
      exact aX (s226 v) [0,1,2] ⟨rfl,rfl,rfl,rfl,rfl,rfl,rfl,rfl,rfl,rfl,rfl,trivial⟩
     exact trivial
    have s3:J 10 [true,true,false,false,false,false,false,false,false,false,false,false] (eX [true,true,false,false,false,false,false,false,false,false,false,false] (lE y z.1 l undef undef)++kQ b2 y L.1 q1 l a1) [.obj y 128 (.agg (.pair (.at au (a0,.map (some m))) (.eq z.1))),.sl z.1 23 .val (eZ z.2 0 q2)]:=by
     subst hJ
     refine JD.step [2,5] (by kernel_rfl) rfl ?_
     refine eU.cons rfl ?_ ?_
     ·
      refine aB rfl (aV rfl) ⟨rfl,trivial⟩ ?_
      exact aX (s7) [0,1] ⟨rfl,rfl,rfl,rfl,rfl,rfl,rfl,rfl,rfl,rfl,trivial⟩
     refine eU.cons rfl ?_ ?_
     ·
      refine ax rfl rfl ?_
      exact aX (s35) [0,1] ⟨rfl,rfl,rfl,rfl,rfl,rfl,rfl,rfl,rfl,rfl,trivial⟩
     exact trivial
    have s6:J 10 [false,true,true,false,false,false,false,false,false,false,false,false] (eX [false,true,true,false,false,false,false,false,false,false,false,false] (lE y z.1 l undef undef)++kQ b2 y L.1 q1 l a1) [.obj y 128 (.agg (.pair (.at au (a0,.map (some m))) (.eq z.1))),.sl z.1 23 .val (eZ z.2 0 q2)]:=by
     subst hJ
     refine JD.step [0,3,5] (by kernel_rfl) rfl ?_
     refine eU.cons rfl ?_ ?_
     ·
      refine ax rfl rfl ?_
      exact aX (s7) [0,1] ⟨rfl,rfl,rfl,rfl,rfl,rfl,rfl,rfl,rfl,rfl,trivial⟩
     refine eU.cons rfl ?_ ?_
     ·
      refine aB rfl (aw rfl sS) ⟨rfl,trivial⟩ ?_
      exact aX (s14) [0,1] ⟨rfl,rfl,rfl,rfl,rfl,rfl,rfl,rfl,rfl,rfl,trivial⟩
     refine eU.cons rfl ?_ ?_
     ·
      refine ax rfl rfl ?_
      exact aX (s38) [0,1] ⟨rfl,rfl,rfl,rfl,rfl,rfl,rfl,rfl,rfl,rfl,trivial⟩
     exact trivial
    have s33:J 10 [true,false,false,false,false,true,false,false,false,false,false,false] (eX [true,false,false,false,false,true,false,false,false,false,false,false] (lE y z.1 l undef undef)++kQ b2 y L.1 q1 l a1) [.obj y 128 (.agg (.pair (.at au (a0,.map (some m))) (.eq z.1))),.sl z.1 23 .val (eZ z.2 0 q2)]:=by
     subst hJ
     refine JD.step [1,6] (by kernel_rfl) rfl ?_
     refine eU.cons rfl ?_ ?_
     ·
      refine ax rfl rfl ?_
      exact aX (s35) [0,1] ⟨rfl,rfl,rfl,rfl,rfl,rfl,rfl,rfl,rfl,rfl,trivial⟩
     refine eU.cons rfl ?_ ?_
     ·
      refine aL rfl rfl rfl (ap [.tmp 44] rfl rfl pr rfl cc) ⟨rfl,trivial⟩ fun v=>?_
      exact aX (s97 v) [1,2,0] ⟨rfl,rfl,rfl,rfl,rfl,rfl,rfl,rfl,rfl,rfl,trivial⟩
     exact trivial
    have s34:J 10 [false,true,false,false,false,true,false,false,false,false,false,false] (eX [false,true,false,false,false,true,false,false,false,false,false,false] (lE y z.1 l undef undef)++kQ b2 y L.1 q1 l a1) [.obj y 128 (.agg (.pair (.at au (a0,.map (some m))) (.eq z.1))),.sl z.1 23 .val (eZ z.2 0 q2)]:=by
     subst hJ
     refine JD.step [0,2,6] (by kernel_rfl) rfl ?_
     refine eU.cons rfl ?_ ?_
     ·
      refine ax rfl rfl ?_
      exact aX (s35) [0,1] ⟨rfl,rfl,rfl,rfl,rfl,rfl,rfl,rfl,rfl,rfl,trivial⟩
     refine eU.cons rfl ?_ ?_
     ·
      refine aB rfl (aV rfl) ⟨rfl,trivial⟩ ?_
      exact aX (s38) [0,1] ⟨rfl,rfl,rfl,rfl,rfl,rfl,rfl,rfl,rfl,rfl,trivial⟩
     refine eU.cons rfl ?_ ?_
     ·
      refine aL rfl rfl rfl (ap [.tmp 44] rfl rfl pr rfl cc) ⟨rfl,trivial⟩ fun v=>?_
      exact aX (s98 v) [1,2,0] ⟨rfl,rfl,rfl,rfl,rfl,rfl,rfl,rfl,rfl,rfl,trivial⟩
     exact trivial
    have s96:∀(v:Value),J 10 [false,false,false,false,false,true,true,false,false,false,false,false] (eX [false,false,false,false,false,true,true,false,false,false,false,false] (lE y z.1 l v undef)++kQ b2 y L.1 q1 l a1) [.obj y 128 (.agg (.pair (.at au (a0,.map (some m))) (.eq z.1))),.sl z.1 23 .val (eZ z.2 0 q2),.sl v 3 (.int .i64) l2]:=fun v=>by
     subst hJ
     refine JD.step [0,1,7] (by kernel_rfl) rfl ?_
     refine eU.cons rfl ?_ ?_
     ·
      refine ax rfl rfl ?_
      exact aX (s97 v) [0,1,2] ⟨rfl,rfl,rfl,rfl,rfl,rfl,rfl,rfl,rfl,rfl,trivial⟩
     refine eU.cons rfl ?_ ?_
     ·
      refine ax rfl rfl ?_
      exact aX (s98 v) [0,1,2] ⟨rfl,rfl,rfl,rfl,rfl,rfl,rfl,rfl,rfl,rfl,trivial⟩
     refine eU.cons rfl ?_ ?_
     ·
      refine bu 2 rfl ?_
      refine fW fun hv=>?_
      refine aB rfl (bz (t:=.val) [(.tmp 45,.eq v)] [v] rfl rfl nh (.cons hv (.val hv) .nil) rfl rfl) ⟨rfl,trivial⟩ ?_
      exact aX (s224 v) [1,2,0] ⟨rfl,rfl,rfl,rfl,rfl,rfl,rfl,rfl,rfl,rfl,trivial⟩
     exact trivial
    have s1:J 11 [true,false,false,false,false,false,false,false,false,false,false,false] (eX [true,false,false,false,false,false,false,false,false,false,false,false] (lE y z.1 l undef undef)++kQ b2 y L.1 q1 l a1) [.obj y 128 (.agg (.pair (.at au (a0,.map (some m))) (.eq z.1))),.sl z.1 23 .val (eZ z.2 0 q2)]:=by
     subst hJ
     refine JD.step [1,5] (by kernel_rfl) rfl ?_
     refine eU.cons rfl ?_ ?_
     ·
      refine ax rfl rfl ?_
      exact aX (s3) [0,1] ⟨rfl,rfl,rfl,rfl,rfl,rfl,rfl,rfl,rfl,trivial⟩
     refine eU.cons rfl ?_ ?_
     ·
      refine ax rfl rfl ?_
      exact aX (s33) [0,1] ⟨rfl,rfl,rfl,rfl,rfl,rfl,rfl,rfl,rfl,trivial⟩
     exact trivial
    have s2:J 11 [false,true,false,false,false,false,false,false,false,false,false,false] (eX [false,true,false,false,false,false,false,false,false,false,false,false] (lE y z.1 l undef undef)++kQ b2 y L.1 q1 l a1) [.obj y 128 (.agg (.pair (.at au (a0,.map (some m))) (.eq z.1))),.sl z.1 23 .val (eZ z.2 0 q2)]:=by
     subst hJ
     refine JD.step [0,2,5] (by kernel_rfl) rfl ?_
     refine eU.cons rfl ?_ ?_
     ·
      refine ax rfl rfl ?_
      exact aX (s3) [0,1] ⟨rfl,rfl,rfl,rfl,rfl,rfl,rfl,rfl,rfl,trivial⟩
     refine eU.cons rfl ?_ ?_
     ·
      refine aB rfl (aV rfl) ⟨rfl,trivial⟩ ?_
      exact aX (s6) [0,1] ⟨rfl,rfl,rfl,rfl,rfl,rfl,rfl,rfl,rfl,trivial⟩
     refine eU.cons rfl ?_ ?_
     ·
      refine ax rfl rfl ?_
      exact aX (s34) [0,1] ⟨rfl,rfl,rfl,rfl,rfl,rfl,rfl,rfl,rfl,trivial⟩
     exact trivial
    have s32:J 11 [false,false,false,false,false,true,false,false,false,false,false,false] (eX [false,false,false,false,false,true,false,false,false,false,false,false] (lE y z.1 l undef undef)++kQ b2 y L.1 q1 l a1) [.obj y 128 (.agg (.pair (.at au (a0,.map (some m))) (.eq z.1))),.sl z.1 23 .val (eZ z.2 0 q2)]:=by
     subst hJ
     refine JD.step [0,1,6] (by kernel_rfl) rfl ?_
     refine eU.cons rfl ?_ ?_
     ·
      refine ax rfl rfl ?_
      exact aX (s33) [0,1] ⟨rfl,rfl,rfl,rfl,rfl,rfl,rfl,rfl,rfl,trivial⟩
     refine eU.cons rfl ?_ ?_
     ·
      refine ax rfl rfl ?_
      exact aX (s34) [0,1] ⟨rfl,rfl,rfl,rfl,rfl,rfl,rfl,rfl,rfl,trivial⟩
     refine eU.cons rfl ?_ ?_
     ·
      refine aL rfl rfl rfl (ap [.tmp 44] rfl rfl pr rfl cc) ⟨rfl,trivial⟩ fun v=>?_
      exact aX (s96 v) [1,2,0] ⟨rfl,rfl,rfl,rfl,rfl,rfl,rfl,rfl,rfl,trivial⟩
     exact trivial
    have s0:J 12 [false,false,false,false,false,false,false,false,false,false,false,false] (eX [false,false,false,false,false,false,false,false,false,false,false,false] (lE y z.1 l undef undef)++kQ b2 y L.1 q1 l a1) [.obj y 128 (.agg (.pair (.at au (a0,.map (some m))) (.eq z.1))),.sl z.1 23 .val (eZ z.2 0 q2)]:=by
     subst hJ
     refine JD.step [0,1,5] (by kernel_rfl) rfl ?_
     refine eU.cons rfl ?_ ?_
     ·
      refine ax rfl rfl ?_
      exact aX (s1) [0,1] ⟨rfl,rfl,rfl,rfl,rfl,rfl,rfl,rfl,trivial⟩
     refine eU.cons rfl ?_ ?_
     ·
      refine ax rfl rfl ?_
      exact aX (s2) [0,1] ⟨rfl,rfl,rfl,rfl,rfl,rfl,rfl,rfl,trivial⟩
     refine eU.cons rfl ?_ ?_
     ·
      refine ax rfl rfl ?_
      exact aX (s32) [0,1] ⟨rfl,rfl,rfl,rfl,rfl,rfl,rfl,rfl,trivial⟩
     exact trivial
    exact s0
   ·
    exact fun a w st=>⟨rfl,p,st⟩
  ·
   subst hB
   refine aN ?_
   refine ae ?_
   refine bM (gx (Δ':=.sl p.1 3 (.int .i64) l2:: .sl p.2 23 .val (eZ z.2 0 q2++[p.1])::([.obj y 128 (.agg (.pair (.at au (a0,.map (some m))) (.eq p.2))),.inv m (bD k a0),.obj b2 25 (.rep aD a0),.inv 0 gJ]++kD z.2 0 q2)) ?_) ?_
   ·
    exact List.Perm.trans (List.Perm.swap _ _ _) (List.Perm.trans (List.Perm.cons _ (List.Perm.swap _ _ _)) (List.Perm.swap _ _ _))
   refine bM (Dl (pre:=[.obj y 128 (.agg (.pair (.at au (a0,.map (some m))) (.eq p.2))),.inv m (bD k a0),.obj b2 25 (.rep aD a0),.inv 0 gJ])) ?_
   show JC _ _ _ _ _
   refine aa ?_
   obtain⟨w3,ew,h⟩:=ab h
   refine aB rfl (a9 rfl ew) ⟨rfl,rfl,trivial⟩ ?_
   refine ax rfl rfl ?_
   refine ar ?_
   refine ae ?_
   exact iE ((p.2,nq z.2 q2.length p.1),(w3,q2++[l2])) h (be [.obj y 128 (.agg (.pair (.at au (a0,.map (some m))) (.eq p.2))),.inv m (bD k a0),.obj b2 25 (.rep aD a0),.inv 0 gJ] (fX 23 (p.2,nq z.2 q2.length p.1) (q2++[l2])) [0,1,2,3] ⟨rfl,rfl,rfl,rfl,rfl,rfl,trivial⟩ rfl)
 replace h:=bR (nr hb) h
 refine cZ ?_
 refine aJ ?_
 refine aJ ?_
 refine bH ?_
 refine ae ?_
 show JC _ _ _ _ _
 replace h:((iR k a0 k (0,[],q.2)).bind fun p=>(kN k a0 p.1 p.2).bind fun b=>if(!b.2.2.1 || decide (L.1≤b.2.1))=true then some (0,0,0,11) else some (b.1.1,b.1.2,b.2.1,0)).bind some=some r:=h
 rw [Option.bind_assoc] at h
 generalize q.2=ls at h⊢
 refine ah ?_
 refine aa ?_
 refine dx rfl ?_
 refine cS (SE.nil 131 eO) ?_
 refine ar ?_
 refine ae ?_
 show JC _ _ _ _ _
 refine fG (be (Γ':=[(2,.eq (bP b2)),(8,.eq (.int .i64 L.1)),(10,.eq (bP y)),(13,.eq (.slice none 0 0))]) (pre':=[.inv m (bD k a0),.obj b2 25 (.rep aD a0),.inv 0 gJ,.sl (.slice none 0 0) 131 eO [],.obj y 128 (.agg (.pair (.at au (a0,.map (some m))) (.eq z.1)))]) [.sl (.slice none 0 0) 131 eO [],.obj y 128 (.agg (.pair (.at au (a0,.map (some m))) (.eq z.1))),.inv m (bD k a0),.obj b2 25 (.rep aD a0),.inv 0 gJ] (fX 23 z ls) [2,3,4,0,1] ⟨rfl,rfl,rfl,rfl,trivial⟩ rfl) ?_
 refine ah ?_
 refine ah ?_
 refine aa ?_
 refine aB rfl (aw rfl Jt) ⟨rfl,trivial⟩ ?_
 refine bu 1 rfl ?_
 refine bQ rfl rfl rfl (an rfl Jd mY rfl) ⟨rfl,trivial⟩ ?_
 refine aB rfl (k7 rfl rfl sH) ⟨rfl,trivial⟩ ?_
 refine eK rfl ?_
 refine ar ?_
 refine ae ?_
 show JC _ _ _ _ _
 refine aj ?_
 refine aE (Z:=Value) (α:=Int×List (Int×Int)×List (List Int)) (fun c q=>[(2,.eq (bP b2)),(8,.eq (.int .i64 L.1)),(10,.eq (bP y)),(13,.eq c),(53,.eq (.int .i64 (a0.2.1.length:Int))),(54,.eq (.int .i64 q.1))]) (fun c q=>[.obj b2 25 (.rep aD a0),.inv m (bD k a0),.inv 0 gJ,.sl c 131 eO q.2.1,.obj y 128 (.agg (.pair (.at au (a0,.map (some m))) (.eq z.1)))]++fX 23 z q.2.2) (iR k a0) k (.slice none 0 0) (0,[],ls) (fun _=>rfl) h (be [.obj b2 25 (.rep aD a0),.inv m (bD k a0),.inv 0 gJ,.sl (.slice none 0 0) 131 eO [],.obj y 128 (.agg (.pair (.at au (a0,.map (some m))) (.eq z.1)))] (fX 23 z ls) [0,1,2,3,4] ⟨rfl,rfl,rfl,rfl,rfl,rfl,trivial⟩ rfl) (fun n c q h=>?_)
 obtain⟨q1,qp,ql⟩:=q
 unfold iR at h
 refine ah ?_
 refine aa ?_
 refine aB rfl (bj rfl) ⟨rfl,rfl,trivial⟩ ?_
 refine ar ?_
 refine ae ?_
 show JC _ _ _ _ _
 refine ah ?_
 refine bC rfl (fun hb=>?_) (fun hb=>?_)
 ·
  replace h:=cK (od hb) h
  obtain⟨w,ew,h⟩:=ab h
  rw [Option.bind_assoc] at h
  refine aS ?_
  refine ae ?_
  show JC _ _ _ _ _
  refine ah ?_
  refine aj ?_
  refine ah ?_
  refine aa ?_
  refine ax rfl rfl ?_
  refine de rfl rfl ?_
  refine ar ?_
  refine ae ?_
  show JC _ _ _ _ _
  refine ah ?_
  refine aa ?_
  refine ax rfl rfl ?_
  refine aB rfl (a9 rfl ew) ⟨rfl,rfl,trivial⟩ ?_
  refine de rfl rfl ?_
  refine ar ?_
  refine ae ?_
  show JC _ _ _ _ _
  refine aj ?_
  refine aE (Z:=Value) (α:=Int×List (Int×Int)×List (List Int)) (fun c q=>[(2,.eq (bP b2)),(8,.eq (.int .i64 L.1)),(10,.eq (bP y)),(13,.eq c),(14,.eq (.int .i64 q1)),(15,.eq (.int .i64 q.1)),(53,.eq (.int .i64 (a0.2.1.length:Int))),(54,.eq (.int .i64 q1))]) (fun c q=>[.obj b2 25 (.rep aD a0),.inv m (bD k a0),.inv 0 gJ,.sl c 131 eO q.2.1,.obj y 128 (.agg (.pair (.at au (a0,.map (some m))) (.eq z.1)))]++fX 23 z q.2.2) (jK k a0 q1) k c (w,qp,ql) (fun _=>rfl) h (be [.obj b2 25 (.rep aD a0),.inv m (bD k a0),.inv 0 gJ,.sl c 131 eO qp,.obj y 128 (.agg (.pair (.at au (a0,.map (some m))) (.eq z.1)))] (fX 23 z ql) [0,1,2,3,4] ⟨rfl,rfl,rfl,rfl,rfl,rfl,rfl,rfl,trivial⟩ rfl) (fun n3 c q h=>?_)
  obtain⟨j,rp,rl⟩:=q
  unfold jK at h
  refine ah ?_
  refine ah ?_
  refine aa ?_
  refine ax rfl rfl ?_
  refine aB rfl (aw rfl Jt) ⟨rfl,trivial⟩ ?_
  refine bQ rfl rfl rfl (an rfl Jd mY rfl) ⟨rfl,trivial⟩ ?_
  refine aB rfl (k7 rfl rfl sH) ⟨rfl,trivial⟩ ?_
  refine aB rfl (bj rfl) ⟨rfl,rfl,trivial⟩ ?_
  refine ar ?_
  refine ae ?_
  show JC _ _ _ _ _
  refine bC rfl (fun hb=>?_) (fun hb=>?_)
  ·
   replace h:=cK (od hb) h
   obtain⟨r1,Q,h⟩:=ab h
   have cv:=ry k a0 (q1,j) rl r1 y m z Q
   refine aS ?_
   refine ae ?_
   show JC _ _ _ _ _
   refine ah ?_
   refine aj ?_
   refine ah ?_
   refine aa ?_
   refine ax rfl rfl ?_
   refine ax rfl rfl ?_
   refine aB rfl (dt [(0,.tmp 66,_),(1,.tmp 67,_)] rfl J3 rj IN (je ⟨rfl,rfl,trivial⟩) rfl) ⟨rfl,rfl,trivial⟩ ?_
   refine aL rfl rfl rfl (bL rfl rj ul) trivial fun e=>?_
   refine bg rfl rfl (bb rfl gd trivial rfl rfl) ⟨rfl,rfl,trivial⟩ ?_
   refine cS (oV (a':=.rep eO (q1,j)) OL) ?_
   refine ar ?_
   refine ae ?_
   show JC _ _ _ _ _
   refine ah ?_
   refine aa ?_
   refine ax rfl rfl ?_
   refine bQ rfl rfl rfl (an rfl gd (xh) rfl) ⟨rfl,trivial⟩ ?_
   refine cS (gx (Δ':=([.obj y 128 (.agg (.pair (.at au (a0,.map (some m))) (.eq z.1)))]++fX 23 z rl)++[.obj e 131 (.rep eO (q1,j)),.obj b2 25 (.rep aD a0),.inv m (bD k a0),.inv 0 gJ,.sl c 131 eO rp]) (List.perm_append_comm (l₁:=([.obj e 131 (.rep eO (q1,j)),.obj b2 25 (.rep aD a0),.inv m (bD k a0),.inv 0 gJ,.sl c 131 eO rp]:List D)))) ?_
   refine bN (Δ:=_++_) (F:=[_,_,_,_,_]) (fun _ _ _=>av rfl _) rfl rfl (ap [.tmp 69,.tmp 70] rfl rfl NK rfl cv) ⟨rfl,rfl,trivial⟩ fun _=>?_
   refine cS (gx (Δ':=[.obj e 131 (.rep eO (q1,j)),.obj b2 25 (.rep aD a0),.inv m (bD k a0),.inv 0 gJ,.sl c 131 eO rp]++([.obj y 128 (.agg (.pair (.at au (a0,.map (some m))) (.eq z.1)))]++fX 23 z r1.2)) List.perm_append_comm) ?_
   refine ar ?_
   refine ae ?_
   show JC _ _ _ _ _
   refine bC rfl (fun hb=>?_) (fun hb=>?_)
   ·
    replace h:=cK (BL hb) h
    have hk:bS (rp.length+1):=by
     apply Classical.byContradiction
     intro hn
     rw [if_neg hn] at h
     cases h
    replace h:=cK hk h
    refine aa ?_
    refine ax rfl rfl ?_
    refine bQ rfl rfl rfl (an rfl gd (xh) rfl) ⟨rfl,trivial⟩ ?_
    refine aB rfl (bz (t:=eO) [(.tmp 73,_)] [(q1,j)] rfl rfl Ec (.cons rfl .rep .nil) rfl rfl) ⟨rfl,trivial⟩ ?_
    refine bu 4 rfl ?_
    refine dV rfl rfl rfl (bY rfl rfl Ec (by simpa using hk)) ⟨rfl,rfl,trivial⟩ fun v'=>?_
    refine de rfl rfl ?_
    refine ar ?_
    refine aN ?_
    refine ae ?_
    show JC _ _ _ _ _
    refine aa ?_
    refine ax rfl rfl ?_
    obtain⟨w2,ew2,h⟩:=ab h
    refine aB rfl (a9 rfl ew2) ⟨rfl,rfl,trivial⟩ ?_
    refine de rfl rfl ?_
    refine ar ?_
    refine ae ?_
    exact iE (v',(w2,rp++[(q1,j)],r1.2)) h (be [.sl v' 131 eO (rp++[(q1,j)]),.obj e 131 (.rep eO (q1,j)),.obj b2 25 (.rep aD a0),.inv m (bD k a0),.inv 0 gJ,.obj y 128 (.agg (.pair (.at au (a0,.map (some m))) (.eq z.1)))] (fX 23 z r1.2) [2,3,4,0,5] ⟨rfl,rfl,rfl,rfl,rfl,rfl,rfl,rfl,trivial⟩ rfl)
   ·
    replace h:=bR (BM hb) h
    refine aS ?_
    refine aN ?_
    refine ae ?_
    show JC _ _ _ _ _
    refine aa ?_
    refine ax rfl rfl ?_
    obtain⟨w2,ew2,h⟩:=ab h
    refine aB rfl (a9 rfl ew2) ⟨rfl,rfl,trivial⟩ ?_
    refine de rfl rfl ?_
    refine ar ?_
    refine ae ?_
    exact iE (c,(w2,rp,r1.2)) h (be [.obj e 131 (.rep eO (q1,j)),.obj b2 25 (.rep aD a0),.inv m (bD k a0),.inv 0 gJ,.sl c 131 eO rp,.obj y 128 (.agg (.pair (.at au (a0,.map (some m))) (.eq z.1)))] (fX 23 z r1.2) [1,2,3,4,5] ⟨rfl,rfl,rfl,rfl,rfl,rfl,rfl,rfl,trivial⟩ rfl)
  replace h:=bR (nr hb) h
  refine cZ ?_
  refine aJ ?_
  refine aJ ?_
  refine bH ?_
  refine aN ?_
  refine ae ?_
  show JC _ _ _ _ _
  replace h:(iR k a0 n (w,rp,rl)).bind _=some r:=h
  refine aa ?_
  refine aB rfl (a9 rfl ew) ⟨rfl,rfl,trivial⟩ ?_
  refine ax rfl rfl ?_
  refine ar ?_
  refine ae ?_
  exact iE (c,(w,rp,rl)) h (be [.obj b2 25 (.rep aD a0),.inv m (bD k a0),.inv 0 gJ,.sl c 131 eO rp,.obj y 128 (.agg (.pair (.at au (a0,.map (some m))) (.eq z.1)))] (fX 23 z rl) [0,1,2,3,4] ⟨rfl,rfl,rfl,rfl,rfl,rfl,trivial⟩ rfl)
 replace h:=bR (nr hb) h
 refine cZ ?_
 refine aJ ?_
 refine aJ ?_
 refine bH ?_
 refine ae ?_
 show JC _ _ _ _ _
 replace h:((kN k a0 qp ql).bind fun b=>if(!b.2.2.1 || decide (L.1≤b.2.1))=true then some (0,0,0,11) else some (b.1.1,b.1.2,b.2.1,0)).bind some=some r:=h
 obtain⟨b,eb,h⟩:=ab h
 have cx:=uF k a0 qp ql b y m z eb
 refine ah ?_
 refine aa ?_
 refine ax rfl rfl ?_
 refine aB rfl (rL [.tmp 78] [] [bP y] [] rfl rfl rfl) ⟨rfl,trivial⟩ ?_
 refine bu 3 rfl ?_
 refine cS (gK [13] ⟨rfl,trivial⟩) ?_
 refine ax rfl rfl ?_
 refine cS (be (Γ':=[(8,.eq (.int .i64 L.1)),(79,.eq (.func (.func 100) #[bP y] #[])),(80,Rs eO qp)]) (pre':=[.inv 0 gJ,.obj b2 25 (.rep aD a0),.inv m (bD k a0),.obj y 128 (.agg (.pair (.at au (a0,.map (some m))) (.eq z.1)))]) [.obj b2 25 (.rep aD a0),.inv m (bD k a0),.inv 0 gJ,.obj y 128 (.agg (.pair (.at au (a0,.map (some m))) (.eq z.1)))] (fX 23 z ql) [2,0,1,3] ⟨rfl,rfl,rfl,trivial⟩ rfl) ?_
 refine cS (gx (Δ':=([.inv m (bD k a0),.obj y 128 (.agg (.pair (.at au (a0,.map (some m))) (.eq z.1)))]++fX 23 z ql)++[.inv 0 gJ,.obj b2 25 (.rep aD a0)]) (List.perm_append_comm (l₁:=([.inv 0 gJ,.obj b2 25 (.rep aD a0)]:List D)))) ?_
 refine bN (Δ:=_++_) (F:=[_,_]) (fun _ _ _=>av rfl _) rfl rfl (gj [.tmp 79,.tmp 80] rfl rfl NJ rfl cx) ⟨rfl,rfl,trivial⟩ fun _=>?_
 refine cS (gx (Δ':=[.inv 0 gJ,.obj b2 25 (.rep aD a0)]++([.inv m (bD k a0),.obj y 128 (.agg (.pair (.at au (a0,.map (some m))) (.eq z.1)))]++fX 23 z b.2.2.2)) List.perm_append_comm) ?_
 refine ax rfl rfl ?_
 refine aB rfl (gC rfl rfl) ⟨rfl,trivial⟩ ?_
 refine aB rfl (gC rfl rfl) ⟨rfl,trivial⟩ ?_
 refine aB rfl (gC rfl rfl) ⟨rfl,trivial⟩ ?_
 refine aL rfl rfl rfl (bL rfl rj ul) trivial fun s=>?_
 refine bg rfl rfl (bb rfl gd rfl rfl rfl) ⟨rfl,rfl,trivial⟩ ?_
 refine de rfl rfl ?_
 refine de rfl rfl ?_
 refine ar ?_
 refine ae ?_
 show JC _ _ _ _ _
 obtain⟨bx,bn,bo,bl⟩:=b
 cases bo with
 |false=>
  replace h:some (0,0,0,11)=some r:=by simpa using h
  obtain rfl:=Option.some.inj h
  refine ah ?_
  refine ah ?_
  refine aa ?_
  refine ax rfl rfl ?_
  refine aB rfl (dY rfl) ⟨rfl,trivial⟩ ?_
  refine ax rfl rfl ?_
  refine xb rfl rfl rfl rfl rfl rfl rfl ?_
  refine xb rfl rfl rfl rfl rfl rfl rfl ?_
  refine xb rfl rfl rfl rfl rfl rfl rfl ?_
  refine aB rfl (tR rfl) ⟨rfl,rfl,trivial⟩ ?_
  refine ar ?_
  refine ae ?_
  show JC _ _ _ _ _
  refine bC rfl (fun hb=>?_) (fun hb=>(by cases hb))
  refine ah ?_
  refine aa ?_
  refine dx rfl ?_
  refine dx rfl ?_
  refine dx rfl ?_
  refine dx rfl ?_
  refine ar ?_
  refine ae ?_
  show JC _ _ _ _ _
  refine aA ?_
  refine aO ?_
  refine dK 1 rfl ?_
  exact aM () [_,_,_,_] 1 ⟨rfl,rfl,rfl,rfl,trivial⟩ rfl
 |true=>
  refine ah ?_
  refine ah ?_
  refine aa ?_
  refine ax rfl rfl ?_
  refine aB rfl (dY rfl) ⟨rfl,trivial⟩ ?_
  refine ax rfl rfl ?_
  refine l6 rfl rfl rfl rfl rfl rfl (aQ rfl) ⟨rfl,trivial⟩ ?_
  refine l6 rfl rfl rfl rfl rfl rfl (aQ rfl) ⟨rfl,trivial⟩ ?_
  refine l6 rfl rfl rfl rfl rfl rfl (ni rfl) ⟨rfl,rfl,trivial⟩ ?_
  refine aB rfl (tU rfl) ⟨rfl,rfl,trivial⟩ ?_
  refine ar ?_
  refine ae ?_
  show JC _ _ _ _ _
  refine bC rfl (fun hb=>?_) (fun hb=>?_)
  ·
   have hd:L.1≤bn:=of_decide_eq_true hb
   replace h:some (0,0,0,11)=some r:=by simpa [hd] using h
   obtain rfl:=Option.some.inj h
   refine ah ?_
   refine aa ?_
   refine dx rfl ?_
   refine dx rfl ?_
   refine dx rfl ?_
   refine dx rfl ?_
   refine ar ?_
   refine ae ?_
   show JC _ _ _ _ _
   refine aA ?_
   refine aO ?_
   refine dK 1 rfl ?_
   exact aM () [_,_,_,_] 1 ⟨rfl,rfl,rfl,rfl,trivial⟩ rfl
  ·
   have hd:¬L.1≤bn:=of_decide_eq_false hb
   replace h:some (bx.1,bx.2,bn,0)=some r:=by simpa [hd] using h
   refine aS ?_
   refine ae ?_
   obtain rfl:=Option.some.inj h
   show JC _ _ _ _ _
   refine ah ?_
   refine ux (Δ:=[.obj s 131 (.rep eO bx)]) (F:=[.inv 0 gJ,.obj b2 25 (.rep aD a0),.inv m (bD k a0),.obj y 128 (.agg (.pair (.at au (a0,.map (some m))) (.eq z.1)))]++fX 23 z bl) (Z:=Unit) (fun _=>[(4,.eq (.int .i64 bx.1)),(5,.eq (.int .i64 bx.2)),(6,.eq (.int .i64 bn)),(7,.eq (.int .i64 0))]) (fun _=>[.obj s 131 (.rep eO bx)]) (fun S w=>?_) (fun _=>?_)
   ·
    refine fG (SE.sub (Γ':=[(17,.eq (bP s)),(18,.eq (.int .i64 bn))]) ⟨rfl,rfl,trivial⟩) ?_
    refine jY ?_
    refine aK rfl rfl rfl (aw rfl KL) ⟨rfl,trivial⟩ ?_
    refine eV 0 rfl rfl rfl rfl (an rfl sM mY rfl) ⟨rfl,trivial⟩ ?_
    refine aK rfl rfl rfl (aw rfl KJ) ⟨rfl,trivial⟩ ?_
    refine eV 0 rfl rfl rfl rfl (an rfl sM mY rfl) ⟨rfl,trivial⟩ ?_
    refine aK rfl rfl rfl (aQ rfl) ⟨rfl,trivial⟩ ?_
    refine ov 5 [true,true,false,false,false] [4,5,6,7] [0] [.obj s 131 (.rep eO bx)] rfl (by kernel_rfl) (by kernel_rfl) (by kernel_rfl) pQ (fun vs hv hB=>?_)
    obtain⟨u0,mc,rfl,O⟩:=ao hv
    obtain⟨u1,ac,rfl,M⟩:=ao O
    obtain⟨u2,Y,rfl,E⟩:=ao M
    obtain⟨u3,X,rfl,x⟩:=ao E
    obtain⟨u4,U,rfl,u⟩:=ao x
    obtain rfl:=lK u
    refine⟨[0],[],by kernel_rfl,by decide,?_⟩
    refine m7 rfl rfl rfl rfl (ig rfl) ⟨rfl,trivial⟩ (by kernel_rfl) ?_
    refine m7 rfl rfl rfl rfl (ig rfl) ⟨rfl,trivial⟩ (by kernel_rfl) ?_
    refine m7 rfl rfl rfl rfl (ig rfl) ⟨rfl,trivial⟩ (by kernel_rfl) ?_
    refine m7 rfl rfl rfl rfl (ig rfl) ⟨rfl,trivial⟩ (by kernel_rfl) ?_
    refine sq ?_
    exact fun a w st=>⟨rfl,(),(SE.fin (Γ':=[(4,.eq (.int .i64 bx.1)),(5,.eq (.int .i64 bx.2)),(6,.eq (.int .i64 bn)),(7,.eq (.int .i64 0))]) [0] ⟨rfl,rfl,rfl,rfl,trivial⟩ rfl) a w st⟩
   ·
    refine ae ?_
    show JC _ _ _ _ _
    refine aA ?_
    refine dK 1 rfl ?_
    exact aM () [_,_,_,_] 1 ⟨rfl,rfl,rfl,rfl,trivial⟩ rfl
def mO(k:Nat)(a0:(List Int))(a1:cR)(a2:(List (List Int)))(a3:Int)(a4:Int):Option Int:=
 (eP k a1 a2).bind fun r1=>
 (a8 r1 a3).bind fun x3=>
 (dE k (List.set r1 (Int.toNat a3) a0)).bind fun r4=>
 (ix k a1 r4 a4).bind fun r5=>
 some r5
theorem sL(k:Nat)(a0:(List Int))(a1:cR)(l:Nat)(a2:(List (List Int)))(j:Nat)(a3:Int)(e:Nat)(a4:Int)(c:Nat)(r:Int)(h:mO k a0 a1 a2 a3 a4=some r):
 dn (iD Tryz.prog) 104 [Ri a0,Pt l,Pt j,Pt e,Pt c] [.obj l 102 (.at bB a1),.obj j 107 (.rep (.arr 3 (.arr 5 (.int .i64))) a2),.obj e 3 (I a3),.obj c 3 (I a4)] (fun _:Unit=>(bp [I r],[.obj l 102 (.at bB a1),.obj j 107 (.rep (.arr 3 (.arr 5 (.int .i64))) a2),.obj e 3 (I a3),.obj c 3 (I a4)])):=by
 unfold mO at h
 replace h:=ba h
 refine dn.of 20 Tryz.func104 rfl Tryz.ntmps104 rfl fun S w0=>?_
 refine sr ?_
 refine cq ?_
 refine nt ?_
 refine sr ?_
 refine lo qu ?_
 refine fr 1 ?_
 refine lo cP ?_
 obtain⟨r1,x,h⟩:=ab h
 have E:=i7 k a1 a2 r1 x
 refine aL rfl rfl rfl (ap [.tmp 8,.tmp 9] rfl rfl K3 rfl E) ⟨rfl,rfl,trivial⟩ fun v2=>?_
 refine aq ?_
 refine nt ?_
 refine sr ?_
 refine mq ?_
 refine fr 3 ?_
 refine lo cI ?_
 refine mq ?_
 obtain⟨x3,n,h⟩:=ab h
 refine fr 1 ?_
 refine kb (bJ (t:=(.slice (.int .i64))) rfl lP cm n) ?_
 refine bg rfl rfl (dF (i:=Int.toNat a3) rfl cm rfl (jl n) rfl .rep rfl) ⟨rfl,rfl,trivial⟩ ?_
 refine nt ?_
 refine ah ?_
 refine fG (gK [7,10,11] ⟨rfl,rfl,rfl,trivial⟩) ?_
 refine bX ?_
 refine ea 2 (an rfl qu mY rfl) ?_
 refine dm ?_
 obtain⟨r4,u,h⟩:=ab h
 have D:=eQ k (List.set r1 (Int.toNat a3) a0) r4 u
 refine da (ap [.tmp 16] rfl rfl C5 rfl D) ?_
 refine ea 3 (an rfl cI mY rfl) ?_
 refine df d3 ?_
 obtain⟨r5,s,h⟩:=ab h
 have y:=lC k a1 r4 a4 r5 s
 refine jc (gj [.tmp 15,.tmp 17,.tmp 18] rfl rfl JB rfl y) ?_
 refine aq ?_
 refine nt ?_
 refine aA ?_
 refine bM (SE.fin (Γ':=[(6,_)]) [2,1,0,3] ⟨rfl,trivial⟩ rfl) ?_
 cases h
 exact aM () [_] 4 ⟨rfl,trivial⟩ rfl
def gU(k:Nat)(a0_0:cR)(a0_1:(List (List Int)))(a0_2:Int)(a0_3:Int)(a1:(List (List Int))):Nat→((List Int)×Int×Bool×Int)→Option ((List Int)×Int×Bool)
 |0,_=>none
 |n+1,y3=>
  if y3.2.2.2 < (a1.length:Int) then((((a8 a1 y3.2.2.2).bind fun x7=>
  (mO k x7 a0_0 a0_1 a0_2 a0_3).bind fun r8=>
  ((if¬(y3.2.2.1=true) then(some true) else(some (decide (r8 < y3.2.1)))):Option (Bool)).bind fun x9=>
  if x9=true then(some (x7,r8,true)) else(some (y3.1,y3.2.1,y3.2.2.1))):Option ((List Int)×Int×Bool)).bind fun x5=>
  (ck (y3.2.2.2+1)).bind fun c=>
  gU k a0_0 a0_1 a0_2 a0_3 a1 n (x5.1,x5.2.1,x5.2.2,c)) else(some (y3.1,y3.2.1,y3.2.2.1))
def kO(k:Nat)(a0_0:cR)(a0_1:(List (List Int)))(a0_2:Int)(a0_3:Int)(a1:(List (List Int))):Option ((List Int)×Int×Bool):=
 ((gU k a0_0 a0_1 a0_2 a0_3 a1 k ([],0,false,0)):Option ((List Int)×Int×Bool)).bind fun x1=>
 some (x1.1,x1.2.1,x1.2.2)
theorem qm(k:Nat)(a0_0:cR)(c_a0_0:Nat)(a0_1:(List (List Int)))(c_a0_1:Nat)(a0_2:Int)(c_a0_2:Nat)(a0_3:Int)(c_a0_3:Nat)(a1:(List (List Int)))(r:(List Int)×Int×Bool)(h:kO k a0_0 a0_1 a0_2 a0_3 a1=some r):
 dn (iD Tryz.prog) 106 [.eq (.func (.func 104) #[] #[(Pv c_a0_0),(Pv c_a0_1),(Pv c_a0_2),(Pv c_a0_3)]),.rep (.slice (.slice (.int .i64))) a1] [.obj c_a0_0 102 (.at bB a0_0),.obj c_a0_1 107 (.rep (.arr 3 (.arr 5 (.int .i64))) a0_1),.obj c_a0_2 3 (I a0_2),.obj c_a0_3 3 (I a0_3)] (fun _:Unit=>(bp [Ri r.1,I r.2.1,.eq (.bool r.2.2)],[.obj c_a0_0 102 (.at bB a0_0),.obj c_a0_1 107 (.rep (.arr 3 (.arr 5 (.int .i64))) a0_1),.obj c_a0_2 3 (I a0_2),.obj c_a0_3 3 (I a0_3)])):=by
 unfold kO at h
 replace h:=ba h
 refine dn.of 35 Tryz.func106 rfl Tryz.ntmps106 rfl fun S w0=>?_
 refine sr ?_
 refine cq ?_
 refine cq ?_
 refine cq ?_
 refine nt ?_
 refine sr ?_
 refine cq ?_
 refine nt ?_
 refine sr ?_
 refine cq ?_
 refine cq ?_
 refine nt ?_
 refine aP (Z:=Unit) (α:=(List Int)×Int×Bool) (fun z2 x1=>[(7,Ri x1.1),(8,I x1.2.1),(9,.eq (.bool x1.2.2))]) (fun z2 x1=>[.obj c_a0_0 102 (.at bB a0_0),.obj c_a0_1 107 (.rep (.arr 3 (.arr 5 (.int .i64))) a0_1),.obj c_a0_2 3 (I a0_2),.obj c_a0_3 3 (I a0_3)]) h (fun K h=>?_) (fun z2 x1 h=>?_)
 ·
  refine sr (mq ?_);refine ol lP ?_;refine eK rfl ?_;refine nt (aj (fG (m6 (t:=(.slice (.int .i64))) (x:=[]) 7 rfl .nil rfl rfl) ?_));refine aE (fun z4 y3=>[(0,.eq (.func (.func 104) #[] #[(Pv c_a0_0),(Pv c_a0_1),(Pv c_a0_2),(Pv c_a0_3)])),(7,Ri y3.1),(8,I y3.2.1),(9,.eq (.bool y3.2.2.1)),(13,.rep (.slice (.slice (.int .i64))) a1),(14,I (a1.length:Int)),(15,I y3.2.2.2)]) (fun z4 y3=>[.obj c_a0_0 102 (.at bB a0_0),.obj c_a0_1 107 (.rep (.arr 3 (.arr 5 (.int .i64))) a0_1),.obj c_a0_2 3 (I a0_2),.obj c_a0_3 3 (I a0_3)]) (gU k a0_0 a0_1 a0_2 a0_3 a1) k () ([],0,false,0) (fun _=>rfl) h (SE.fin [0,1,2,3] ⟨rfl,rfl,rfl,rfl,rfl,rfl,rfl,trivial⟩ rfl) (fun n z4 y3 h=>?_);unfold gU at h;refine sr (jb (bj rfl) ?_);refine nt (ah (ci h (fun h=>?_) (fun h=>?_)))
  ·refine sk (aP (Z:=Unit) (α:=(List Int)×Int×Bool) (fun z6 x5=>[(0,.eq (.func (.func 104) #[] #[(Pv c_a0_0),(Pv c_a0_1),(Pv c_a0_2),(Pv c_a0_3)])),(7,Ri x5.1),(8,I x5.2.1),(9,.eq (.bool x5.2.2)),(13,.rep (.slice (.slice (.int .i64))) a1),(14,I (a1.length:Int)),(15,I y3.2.2.2)]) (fun z6 x5=>[.obj c_a0_0 102 (.at bB a0_0),.obj c_a0_1 107 (.rep (.arr 3 (.arr 5 (.int .i64))) a0_1),.obj c_a0_2 3 (I a0_2),.obj c_a0_3 3 (I a0_3)]) h (fun K h=>?_) (fun z6 x5 h=>?_))
   ·refine aj (sr ?_);obtain⟨x7,l,h⟩:=ab h;refine jb (aF (t:=(.slice (.int .i64))) rfl lP cm l) ?_;refine ja (ak (t:=(.slice (.int .i64))) rfl cm rfl) ?_;refine aq (nt (sr ?_));iterate 2 refine mq ?_
    obtain⟨r8,u,h⟩:=ab h;refine fr 3 ?_;refine fr 3 ?_;refine fr 3 ?_;refine fr 3 ?_;refine bN (Δ:=[_,_,_,_]) (F:=_) (fun _ _ _=>av rfl _) rfl rfl (nK (fs:=[]) (cs:=[(Pv c_a0_0),(Pv c_a0_1),(Pv c_a0_2),(Pv c_a0_3)]) (ags:=[Ri x7]) [.tmp 20] rfl rfl Oy rfl (sL k x7 a0_0 c_a0_0 a0_1 c_a0_1 a0_2 c_a0_2 a0_3 c_a0_3 r8 u)) ⟨rfl,rfl,trivial⟩ fun _=>?_;refine aq (nt ?_);refine aP (Z:=Unit) (α:=Bool) (fun c x9=>[(0,.eq (.func (.func 104) #[] #[(Pv c_a0_0),(Pv c_a0_1),(Pv c_a0_2),(Pv c_a0_3)])),(7,Ri y3.1),(8,I y3.2.1),(9,.eq (.bool y3.2.2.1)),(11,Ri x7),(12,I r8),(13,.rep (.slice (.slice (.int .i64))) a1),(14,I (a1.length:Int)),(15,I y3.2.2.2),(28,.eq (.bool x9))]) (fun c x9=>[.obj c_a0_0 102 (.at bB a0_0),.obj c_a0_1 107 (.rep (.arr 3 (.arr 5 (.int .i64))) a0_1),.obj c_a0_2 3 (I a0_2),.obj c_a0_3 3 (I a0_3)]) h (fun K h=>?_) (fun c x9 h=>?_)
    ·refine aa (mq ?_);refine ja (dY rfl) ?_;refine mq ?_;refine cd (s:=24) rfl (fun hb=>?_) (fun hb=>?_)
     ·replace h:=cK (ET hb) h;iterate 3 refine gn ?_
      refine pt (nl ?_);exact jz ((),true) h [0,1,2,3]
     ·replace h:=bR (yg hb) h;refine gm ?_;refine gm ?_;refine gb (bj rfl) ?_;refine pf (nl ?_);exact jz ((),decide (r8 < y3.2.1)) h [0,1,2,3]
    ·refine cv h (fun h=>?_) (fun h=>?_)
     ·refine aa ?_;iterate 2 refine mq ?_
      refine aq ?_;refine aq ?_;refine cq (ar (bn ?_));exact jz ((),(x7,r8,true)) h [0,1,2,3]
     ·refine aS (bn ?_);exact jz ((),(y3.1,y3.2.1,y3.2.2.1)) h [0,1,2,3]
   ·refine aa ?_;obtain⟨j,e,h⟩:=ab h;refine jb (a9 rfl e) ?_;refine mq (nl ?_);exact jz ((),(x5.1,x5.2.1,x5.2.2,j)) h [0,1,2,3]
  ·refine xa ?_;exact jz ((),(y3.1,y3.2.1,y3.2.2.1)) h [0,1,2,3]
 ·
  refine sr ?_;iterate 3 refine mq ?_
  refine aq ?_;refine aq ?_;refine aq (nt (aA ?_));cases h;exact aM () [_,_,_] 4 ⟨rfl,rfl,rfl,trivial⟩ rfl
def pz(k:Nat)(a0:aZ)(a1:(List (List Int)))(a2:Int)(a3:Int):Option ((List Int)×Int×Int):=
 (cg k a0 a1).bind fun r4=>
 if¬(r4=0) then(some ([],0,r4)) else((((ck ((a0.2.2.length:Int) - 1)).bind fun x7=>
 (dQ k a2 0 x7).bind fun r8=>
 if¬(r8=true) then(some true) else((dQ k a3 0 a0.1).bind fun r9=>
 some (!r9))):Option (Bool)).bind fun x5=>
 if x5=true then(some ([],0,3)) else((dE k a1).bind fun n=>
 (kK k (a0,()) n a3).bind fun e=>
 (dz k e a2).bind fun l=>
 (kS k l).bind fun j=>
 (kM k k j).bind fun h=>
 (kO k (a0,()) e a2 a3 h).bind fun c=>
 some (c.1,c.2.1,0)))
theorem uG(k:Nat)(a0:aZ)(a1:(List (List Int)))(a2:Int)(a3:Int)(r:(List Int)×Int×Int)(h:pz k a0 a1 a2 a3=some r):
 dn (iD Tryz.prog) 42 [.rep aD a0,.rep (.slice (.slice (.int .i64))) a1,I a2,I a3] [.inv 0 (gJ)] (fun _:Unit=>(bp [Ri r.1,I r.2.1,I r.2.2],[.inv 0 (gJ)])):=by
 unfold pz at h
 replace h:=ba h
 refine dn.of 60 Tryz.func42 rfl Tryz.ntmps42 rfl fun S w0=>?_
 refine sr ?_
 refine bx fun b1=>?_
 refine bx fun b2=>?_
 refine bx fun b3=>?_
 refine cq ?_
 refine cq ?_
 refine cq ?_
 refine nt ?_
 refine ah ?_
 refine sr ?_
 refine fr 2 ?_
 refine lo hH ?_
 refine mq ?_
 obtain⟨r4,QR,h⟩:=ab h
 have QT:=dX k a0 a1 r4 QR
 refine fr 3 ?_
 refine kb (ap [.tmp 18,.tmp 19] rfl rfl Iz rfl QT) ?_
 refine aq ?_
 refine nt ?_
 refine sr ?_
 refine mq ?_
 refine jb (iS rfl) ?_
 refine nt ?_
 refine cn h (fun h=>?_) (fun h=>?_)
 ·
  refine sr (mq ?_);refine cq ?_;refine cq ?_;refine aq (nt (rx ?_));refine bM (m6 (t:=(.slice (.int .i64))) (x:=[]) 8 rfl .nil rfl rfl) ?_;cases h;exact aM () [_,_,_] 1 ⟨rfl,rfl,rfl,trivial⟩ rfl
 ·
  refine sk (ah (aP (Z:=Unit) (α:=Bool) (fun z6 x5=>[(1,.rep (.slice (.slice (.int .i64))) a1),(4,Pt b1),(6,Pt b2),(7,Pt b3),(37,.eq (.bool x5))]) (fun z6 x5=>[.obj b1 25 (.rep aD a0),.obj b2 3 (I a2),.obj b3 3 (I a3),.inv 0 (gJ)]) h (fun K h=>?_) (fun z6 x5 h=>?_)))
  ·refine aa (fr 3 ?_);refine lo cI ?_;refine fl fD ?_;refine fr 2 ?_;refine lo cm ?_;refine ol dW ?_;obtain⟨x7,QO,h⟩:=ab h;refine jb (fF rfl QO) ?_;obtain⟨r8,QQ,h⟩:=ab h;refine jc (ap [.tmp 24,.const (.int .i64 (0)),.tmp 28] rfl rfl yO rfl (eD k a2 0 x7 r8 QQ)) ?_;refine ja (dY rfl) ?_;refine mq ?_;refine cd (s:=31) rfl (fun hb=>?_) (fun hb=>?_)
   ·replace h:=cK (ET hb) h;iterate 5 refine gn ?_
    refine pt (nl ?_);exact jz ((),true) h [0,1,3,2]
   ·replace h:=bR (yg hb) h;refine fr 3 ?_;refine l5 rfl rfl rfl rfl rfl rfl (an rfl cI mY rfl) ⟨rfl,trivial⟩ ?_;refine ga (aw rfl lW) ?_;refine fr 1 ?_;refine l5 rfl rfl rfl rfl rfl rfl (an rfl cI mY rfl) ⟨rfl,trivial⟩ ?_;obtain⟨r9,QP,h⟩:=ab h;refine gc (ap [.tmp 32,.const (.int .i64 (0)),.tmp 34] rfl rfl yO rfl (eD k a3 0 a0.1 r9 QP)) ?_;refine ga (dY rfl) ?_;refine pf (nl ?_);exact jz ((), !r9) h [0,2,1,3]
  ·refine cv h (fun h=>?_) (fun h=>?_)
   ·refine sr (cq ?_);refine cq ?_;refine cq (nt (rx ?_));refine bM (m6 (t:=(.slice (.int .i64))) (x:=[]) 8 rfl .nil rfl rfl) ?_;refine bM (SE.fin (Γ':=[(8,_),(9,_),(10,_)]) [3,0,1,2] ⟨rfl,rfl,rfl,trivial⟩ rfl) ?_;cases h;exact aM () [_,_,_] 1 ⟨rfl,rfl,rfl,trivial⟩ rfl
   ·refine sk (sr (lo hH ?_));refine aL rfl rfl rfl (ap [.tmp 38] rfl rfl Ix rfl (g9 a0)) ⟨rfl,trivial⟩ fun c=>?_;refine cS (kG (bD k a0) mA) ?_;refine aL rfl rfl rfl (bL rfl L0 OK) trivial fun j=>?_;refine bg rfl rfl (bb rfl qu trivial rfl rfl) ⟨rfl,rfl,trivial⟩ ?_;refine nt (ah (jY ?_));refine eV 0 rfl rfl rfl rfl (an rfl qu mY rfl) ⟨rfl,trivial⟩ ?_;refine aK rfl rfl rfl (aQ rfl) ⟨rfl,trivial⟩ ?_;obtain⟨u,U,h⟩:=ab h;refine aK rfl rfl rfl (ap [.tmp 41] rfl rfl C5 rfl (eQ k a1 u U)) ⟨rfl,trivial⟩ ?_;refine eV 4 rfl rfl rfl rfl (an rfl cI mY rfl) ⟨rfl,trivial⟩ ?_;obtain⟨l,Q,h⟩:=ab h;refine aK rfl rfl rfl (dJ (N:=[(.tmp 40,.at au (a0,(.map (some c)))),(.tmp 42,.rep (.arr 3 (.arr 5 (.int .i64))) u),(.tmp 43,I a3)]) (ap [.tmp 40,.tmp 42,.tmp 43] rfl rfl Oz rfl (qk k (a0,()) u a3 l Q)) fun _ _ _ hn=>⟨(sn hn.1),hn.2.1,hn.2.2.1,trivial⟩) ⟨rfl,rfl,rfl,trivial⟩ ?_;refine BB (J2 107 (.rep (.arr 3 (.arr 5 (.int .i64))) [[0,0,0,0,0],[0,0,0,0,0],[0,0,0,0,0]])) (fun _=>rfl) rfl rfl rfl (bL rfl l9 mJ) trivial ?_;refine ov 6 [true,true,true,true,true,true] [] [] [] rfl (by kernel_rfl) (by kernel_rfl) (by kernel_rfl) d3 (fun vs hv hB=>?_);obtain⟨w0,Q0,rfl,se⟩:=ao hv;obtain⟨w1,QZ,rfl,qt⟩:=ao se;obtain⟨w2,QY,rfl,pp⟩:=ao qt;obtain⟨w3,QX,rfl,mc⟩:=ao pp;obtain⟨w4,QW,rfl,ac⟩:=ao mc;obtain⟨w5,QV,rfl,Y⟩:=ao ac;obtain rfl:=lK Y;obtain⟨e,rfl⟩:=J1 hB.2.2.2.2.2.1;refine⟨[0,1,2,3,4,5,6],[.obj j 102 (.at au (a0,(.map (some c)))),.inv c (bD k a0),.obj b1 25 (.rep aD a0),.obj b2 3 (I a2),.obj b3 3 (I a3),.inv 0 (gJ),.obj e 107 (.rep (.arr 3 (.arr 5 (.int .i64))) [[0,0,0,0,0],[0,0,0,0,0],[0,0,0,0,0]])],by kernel_rfl,by decide,?_⟩;refine lp 6 rfl ?_;refine qd rfl rfl (bb rfl cP rfl rfl rfl) ⟨rfl,rfl,trivial⟩ (by kernel_rfl) ?_;refine sq ?_;refine bM (SE.fin (Γ':=[(6,Pt b2),(7,Pt b3),(12,Pt j),(13,Pt e)]) (Δ':=[.obj e 107 (.rep (.arr 3 (.arr 5 (.int .i64))) l),.obj j 102 (.at au (a0,(.map (some c)))),.inv c (bD k a0),.obj b1 25 (.rep aD a0),.obj b2 3 (I a2),.obj b3 3 (I a3),.inv 0 (gJ)]) [0,1,2,3,4,5,6] ⟨rfl,rfl,rfl,rfl,trivial⟩ rfl) ?_;refine tn (sr (aB rfl (rL [] [.tmp 12,.tmp 13,.tmp 6,.tmp 7] [] [(Pv j),(Pv e),(Pv b2),(Pv b3)] rfl rfl rfl) ⟨rfl,rfl,rfl,rfl,trivial⟩ ?_));refine aq (nt (sr ?_));refine mq ?_;refine lo cP ?_;refine fr 4 ?_;refine lo cI ?_;obtain⟨n,O,h⟩:=ab h;refine jb (ap [.tmp 48,.tmp 49] rfl rfl Bh rfl (fL k l a2 n O)) ?_;refine aL rfl rfl rfl (ap [.tmp 50] rfl rfl Ou rfl (qx n)) ⟨rfl,trivial⟩ fun QU=>?_;obtain⟨D,M,h⟩:=ab h;refine ka (ap [.tmp 51] rfl rfl Ov rfl (qy k n QU D M)) ?_;obtain⟨y,J,h⟩:=ab h;refine ja (ap [.tmp 52] rfl rfl JA rfl (uE k k D y J)) ?_;refine fr 3 ?_;refine cS (oV (a:=.at au (a0,(.map (some c)))) (a':=.at bB (a0,())) Lq) ?_
    obtain⟨X,E,h⟩:=ab h;refine fr 6 ?_;refine fr 3 ?_;refine fr 4 ?_;refine fr 3 ?_;refine bN (Δ:=[_,_,_,_]) (F:=_) (fun _ _ _=>av rfl _) rfl rfl (gj [.tmp 47,.tmp 53] rfl rfl Ox rfl (qm k (a0,()) j l e a2 b2 a3 b3 y X E)) ⟨rfl,rfl,trivial⟩ fun _=>?_;refine mq ?_;refine xr ?_;refine xr ?_;refine xr ?_;refine aq ?_;refine aq ?_;refine aq (nt (sr ?_));iterate 2 refine mq ?_
    refine aq ?_;refine aq ?_;refine cq (nt (aA ?_));refine bM (SE.fin (Γ':=[(8,_),(9,_),(10,_)]) [7,0,1,2,3,4,5,6] ⟨rfl,rfl,rfl,trivial⟩ rfl) ?_;cases h;exact aM () [_,_,_] 1 ⟨rfl,rfl,rfl,trivial⟩ rfl
def gV(k:Nat)(a0:aZ)(a1:(List (List (List Int)))):Nat→((List (List Int))×Int×Bool×Int)→Option ((List (List Int))×Int×Bool)
 |0,_=>none
 |n+1,y5=>
  if y5.2.2.2 < (a1.length:Int) then((((a8 a1 y5.2.2.2).bind fun x9=>
  (dh k a0 x9).bind fun c=>
  ((if¬(y5.2.2.1=true) then(some true) else(some (decide (c < y5.2.1)))):Option (Bool)).bind fun h=>
  if h=true then(some (x9,c,true)) else(some (y5.1,y5.2.1,y5.2.2.1))):Option ((List (List Int))×Int×Bool)).bind fun x7=>
  (ck (y5.2.2.2+1)).bind fun e=>
  gV k a0 a1 n (x7.1,x7.2.1,x7.2.2,e)) else(some (y5.1,y5.2.1,y5.2.2.1))
def kP(k:Nat)(a0:aZ)(a1:(List (List (List Int)))):Option ((List (List Int))×Int×Bool):=
 ((gV k a0 a1 k ([[0,0,0,0,0],[0,0,0,0,0],[0,0,0,0,0]],0,false,0)):Option ((List (List Int))×Int×Bool)).bind fun x3=>
 some (x3.1,x3.2.1,x3.2.2)
theorem qn(k:Nat)(a0:aZ)(z_a0:Nat)(a1:(List (List (List Int))))(r:(List (List Int))×Int×Bool)(h:kP k a0 a1=some r):
 dn (iD Tryz.prog) 114 [.fn 111 (te [.at au (a0,(.map (some z_a0)))]),.rep (.slice (.arr 3 (.arr 5 (.int .i64)))) a1] [.inv z_a0 (bD k a0)] (fun _:Unit=>(bp [.rep (.arr 3 (.arr 5 (.int .i64))) r.1,I r.2.1,.eq (.bool r.2.2)],[.inv z_a0 (bD k a0)])):=by
 unfold kP at h
 replace h:=ba h
 refine dn.of 35 Tryz.func114 rfl Tryz.ntmps114 rfl fun S w0=>?_
 refine sr ?_
 refine aL rfl rfl rfl (bL rfl l9 mJ) trivial fun b1=>?_
 refine cq ?_
 refine cq ?_
 refine nt ?_
 refine sr ?_
 refine aL rfl rfl rfl (bL rfl l9 mJ) trivial fun b2=>?_
 refine nt ?_
 refine sr ?_
 refine cq ?_
 refine cq ?_
 refine nt ?_
 refine aP (Z:=Unit) (α:=(List (List Int))×Int×Bool) (fun z4 x3=>[(4,Pt b1),(7,Pt b2),(8,I x3.2.1),(9,.eq (.bool x3.2.2))]) (fun z4 x3=>[.obj b1 107 (.rep (.arr 3 (.arr 5 (.int .i64))) [[0,0,0,0,0],[0,0,0,0,0],[0,0,0,0,0]]),.obj b2 107 (.rep (.arr 3 (.arr 5 (.int .i64))) x3.1),.inv z_a0 (bD k a0)]) h (fun K h=>?_) (fun z4 x3 h=>?_)
 ·
  refine sr (mq ?_);refine ol OP ?_;refine eK rfl ?_;refine nt (aj (aE (fun z6 y5=>[(0,.fn 111 (te [.at au (a0,(.map (some z_a0)))])),(4,Pt b1),(7,Pt b2),(8,I y5.2.1),(9,.eq (.bool y5.2.2.1)),(13,.rep (.slice (.arr 3 (.arr 5 (.int .i64)))) a1),(14,I (a1.length:Int)),(15,I y5.2.2.2)]) (fun z6 y5=>[.obj b1 107 (.rep (.arr 3 (.arr 5 (.int .i64))) [[0,0,0,0,0],[0,0,0,0,0],[0,0,0,0,0]]),.obj b2 107 (.rep (.arr 3 (.arr 5 (.int .i64))) y5.1),.inv z_a0 (bD k a0)]) (gV k a0 a1) k () ([[0,0,0,0,0],[0,0,0,0,0],[0,0,0,0,0]],0,false,0) (fun _=>rfl) h (SE.fin [1,0,2] ⟨rfl,rfl,rfl,rfl,rfl,rfl,rfl,rfl,trivial⟩ rfl) (fun n z6 y5 h=>?_)));unfold gV at h;refine sr (jb (bj rfl) ?_);refine nt (ah (ci h (fun h=>?_) (fun h=>?_)))
  ·refine sk (aP (Z:=Unit) (α:=(List (List Int))×Int×Bool) (fun z8 x7=>[(0,.fn 111 (te [.at au (a0,(.map (some z_a0)))])),(4,Pt b1),(7,Pt b2),(8,I x7.2.1),(9,.eq (.bool x7.2.2)),(13,.rep (.slice (.arr 3 (.arr 5 (.int .i64)))) a1),(14,I (a1.length:Int)),(15,I y5.2.2.2)]) (fun z8 x7=>[.obj b1 107 (.rep (.arr 3 (.arr 5 (.int .i64))) [[0,0,0,0,0],[0,0,0,0,0],[0,0,0,0,0]]),.obj b2 107 (.rep (.arr 3 (.arr 5 (.int .i64))) x7.1),.inv z_a0 (bD k a0)]) h (fun K h=>?_) (fun z8 x7 h=>?_))
   ·refine aj (sr ?_);obtain⟨x9,D,h⟩:=ab h;refine jb (aF (t:=(.arr 3 (.arr 5 (.int .i64)))) rfl OP cP D) ?_;refine ja (ak (t:=(.arr 3 (.arr 5 (.int .i64)))) rfl cP rfl) ?_;refine aL rfl rfl rfl (bL rfl l9 mJ) trivial fun x=>?_;refine bg rfl rfl (bb rfl cP rfl rfl rfl) ⟨rfl,rfl,trivial⟩ ?_;refine nt (sr (mq ?_));refine lo cP ?_;obtain⟨c,u,h⟩:=ab h;refine fr 3 ?_;refine kb (ES (fs:=[.at au (a0,(.map (some z_a0)))]) (ags:=[.rep (.arr 3 (.arr 5 (.int .i64))) x9]) [.tmp 20] rfl rfl Jz rfl (i8 k a0 z_a0 x9 c u)) ?_;refine aq (nt ?_);refine aP (Z:=Unit) (α:=Bool) (fun j e=>[(0,.fn 111 (te [.at au (a0,(.map (some z_a0)))])),(4,Pt b1),(7,Pt b2),(8,I y5.2.1),(9,.eq (.bool y5.2.2.1)),(11,Pt x),(12,I c),(13,.rep (.slice (.arr 3 (.arr 5 (.int .i64)))) a1),(14,I (a1.length:Int)),(15,I y5.2.2.2),(28,.eq (.bool e))]) (fun j e=>[.obj b1 107 (.rep (.arr 3 (.arr 5 (.int .i64))) [[0,0,0,0,0],[0,0,0,0,0],[0,0,0,0,0]]),.obj b2 107 (.rep (.arr 3 (.arr 5 (.int .i64))) y5.1),.obj x 107 (.rep (.arr 3 (.arr 5 (.int .i64))) x9),.inv z_a0 (bD k a0)]) h (fun K h=>?_) (fun j e h=>?_)
    ·refine aa (mq ?_);refine ja (dY rfl) ?_;refine mq ?_;refine cd (s:=24) rfl (fun hb=>?_) (fun hb=>?_)
     ·replace h:=cK (ET hb) h;iterate 3 refine gn ?_
      refine pt (nl ?_);exact jz ((),true) h [2,3,1,0]
     ·replace h:=bR (yg hb) h;refine gm ?_;refine gm ?_;refine gb (bj rfl) ?_;refine pf (nl ?_);exact jz ((),decide (c < y5.2.1)) h [2,3,1,0]
    ·refine cv h (fun h=>?_) (fun h=>?_)
     ·refine aa (fr 2 ?_);refine lo cP ?_;refine mq ?_;refine fr 2 ?_;refine bg rfl rfl (bb rfl cP rfl rfl rfl) ⟨rfl,rfl,trivial⟩ ?_;refine aq ?_;refine cq (ar (bn ?_));exact jz ((),(x9,c,true)) h [2,0,3]
     ·refine aS (bn ?_);exact jz ((),(y5.1,y5.2.1,y5.2.2.1)) h [0,1,3]
   ·refine aa ?_;obtain⟨y,l,h⟩:=ab h;refine jb (a9 rfl l) ?_;refine mq (nl ?_);exact jz ((),(x7.1,x7.2.1,x7.2.2,y)) h [0,1,2]
  ·refine xa ?_;exact jz ((),(y5.1,y5.2.1,y5.2.2.1)) h [0,1,2]
 ·
  refine sr (fr 1 ?_);refine lo cP ?_;iterate 2 refine mq ?_
  refine fr 1 ?_;refine bg rfl rfl (bb rfl cP rfl rfl rfl) ⟨rfl,rfl,trivial⟩ ?_;refine aq ?_;refine aq (nt (aA ?_));refine bM (SE.fin (Γ':=[(4,_),(5,_),(6,_)]) [2,0,1] ⟨rfl,rfl,rfl,trivial⟩ rfl) ?_;cases h;exact aM () [.rep (.arr 3 (.arr 5 (.int .i64))) x3.1,_,_] 1 ⟨⟨_,_,_,_,_,rfl,(.tail _ (.head _)),cP,(uA),rfl⟩,rfl,rfl,trivial⟩ rfl
def ti(k:Nat)(a0:aZ):Option ((List (List Int))×Int×Int):=
 (kB k a0).bind fun r2=>
 if¬(r2=0) then(some ([],0,r2)) else((ju k (a0,())).bind fun r5=>
 (kP k a0 r5).bind fun r6=>
 if¬(r6.2.2=true) then(some ([],0,11)) else((eP k (a0,()) r6.1).bind fun r8=>
 some (r8,r6.2.1,0)))
theorem xE(k:Nat)(a0:aZ)(r:(List (List Int))×Int×Int)(h:ti k a0=some r):
 dn (iD Tryz.prog) 56 [.rep aD a0] [] (fun _:Unit=>(bp [.rep (.slice (.slice (.int .i64))) r.1,I r.2.1,I r.2.2],[])):=by
 unfold ti at h
 replace h:=ba h
 refine dn.of 33 Tryz.func56 rfl Tryz.ntmps56 rfl fun S w0=>?_
 refine sr ?_
 refine bx fun b1=>?_
 refine cq ?_
 refine cq ?_
 refine cq ?_
 refine nt ?_
 refine ah ?_
 refine sr ?_
 refine lo hH ?_
 obtain⟨r2,l,h⟩:=ab h
 have n:=qs k a0 r2 l
 refine ja (ap [.tmp 10] rfl rfl NV rfl n) ?_
 refine aq ?_
 refine nt ?_
 refine sr ?_
 refine mq ?_
 refine jb (iS rfl) ?_
 refine nt ?_
 refine cn h (fun h=>?_) (fun h=>?_)
 ·
  refine sr (mq ?_);refine cq ?_;refine cq ?_;refine aq (nt (rx ?_));refine bM (m6 (t:=(.slice (.slice (.int .i64)))) (x:=[]) 2 rfl .nil rfl rfl) ?_;cases h;exact aM () [_,_,_] 0 ⟨rfl,rfl,rfl,trivial⟩ rfl
 ·
  refine sk (sr (lo hH ?_));refine aL rfl rfl rfl (ap [.tmp 15] rfl rfl Ix rfl (g9 a0)) ⟨rfl,trivial⟩ fun z3=>?_;refine cS (kG (bD k a0) mA) ?_;refine aq (nt (sr ?_));refine mq ?_;refine ja (HG [.tmp 18] [.at au (a0,(.map (some z3)))] rfl rfl) ?_;refine mq ?_;refine aL rfl rfl rfl (dJ (N:=[(.tmp 20,.at au (a0,(.map (some z3))))]) (ap [.tmp 20] rfl rfl Oo rfl (nC (a0,()))) fun _ _ _ hn=>⟨sn hn.1,trivial⟩) ⟨rfl,trivial⟩ fun b4=>?_;obtain⟨r5,j,h⟩:=ab h;refine ka (ap [.tmp 21] rfl rfl Oq rfl (o4 k (a0,()) b4 r5 j)) ?_;obtain⟨r6,e,h⟩:=ab h;refine fr 1 ?_;refine kb (gj [.tmp 19,.tmp 22] rfl rfl Ot rfl (qn k a0 z3 r5 r6 e)) ?_;refine mq ?_;refine xr ?_;refine xr ?_;refine xr ?_;refine aL rfl rfl rfl (bL rfl l9 mJ) trivial fun b7=>?_;refine bg rfl rfl (bb rfl cP rfl rfl rfl) ⟨rfl,rfl,trivial⟩ ?_;refine aq ?_;refine aq (nt (ah (sr ?_)));refine mq ?_;refine ja (dY rfl) ?_;refine nt (cw h (fun h=>?_) (fun h=>?_))
  ·refine sr (cq ?_);refine cq ?_;refine cq (nt (rx ?_));refine bM (m6 (t:=(.slice (.slice (.int .i64)))) (x:=[]) 2 rfl .nil rfl rfl) ?_;cases h;exact aM () [_,_,_] 0 ⟨rfl,rfl,rfl,trivial⟩ rfl
  ·refine sk (sr (mq ?_));refine lo cP ?_;obtain⟨r8,c,h⟩:=ab h;refine aL rfl rfl rfl (dJ (N:=[(.tmp 29,.at au (a0,(.map (some z3)))),(.tmp 30,.rep (.arr 3 (.arr 5 (.int .i64))) r6.1)]) (ap [.tmp 29,.tmp 30] rfl rfl K3 rfl (i7 k (a0,()) r6.1 r8 c)) fun _ _ _ hn=>⟨(sn hn.1),hn.2.1,trivial⟩) ⟨rfl,rfl,trivial⟩ fun v9=>?_;refine mq ?_;refine aq ?_;refine aq ?_;refine cq (nt (aA ?_));refine bM (gK [2,31] ⟨rfl,rfl,trivial⟩) ?_;cases h;exact aM () [_,_,_] 0 ⟨rfl,rfl,rfl,trivial⟩ rfl
set_option maxRecDepth 20000
set_option maxHeartbeats 4000000
def LP(b:Nat):List Int→Option Addr
 |[]=>none
 |_::_=>some ⟨b,0,none⟩
def O4:List Int→Value→Value
 |[],_=>.slice none 0 0
 |_::_,v=>v
theorem Ld(b:Nat)(l:List Int):LP b l=none∨LP b l=some ⟨b,0,none⟩:=by cases l <;> simp [LP]
theorem Gx(b:Nat)(l:List Int)(c:Int):LP b (l++[c])=some ⟨b,0,none⟩:=by cases l <;> rfl
theorem Gw(l:List Int)(c:Int)(v:Value):O4 (l++[c]) v=v:=by cases l <;> rfl
theorem Jh:lZ Tryz.prog 86 9 1 16:=.of (z:=(.string .empty)) QL (by kernel_rfl) rfl rfl rfl
theorem K1:ag Tryz.prog 121:=ag.of Tryz.func121 (by kernel_rfl) (by kernel_rfl)
theorem NR:ag Tryz.prog 35:=ag.of Tryz.func35 (by kernel_rfl) (by kernel_rfl)
theorem MF:du Tryz.prog 25 3 true:=⟨fun w=>by kernel_rfl,fun w=>by kernel_rfl⟩
theorem Je:du Tryz.prog 23 1 false:=⟨fun w=>by kernel_rfl,fun w=>by kernel_rfl⟩
theorem ME:du Tryz.prog 3 1 false:=⟨fun w=>by kernel_rfl,fun w=>by kernel_rfl⟩
def kL(c:Int):Int:=IntKind.i32.wrap (97+IntKind.i32.wrap c)
def kh(xs:List Int):Nat→Int×List Int→Option (List Int)
 |0,_=>none
 |n+1,y=>if y.1 < (xs.length:Int) then((a8 xs y.1).bind fun c=>if 0≤kL c∧kL c≤127∧bS (y.2.length+1) then(ck (y.1+1)).bind fun z=>kh xs n (z,y.2++[kL c]) else none) else some y.2
def i9(k:Nat)(a1:List (List Int)):Nat→Int×List ByteArray→Option (List ByteArray)
 |0,_=>none
 |n+1,y=>if y.1 < (a1.length:Int) then((a8 a1 y.1).bind fun xs=>(kh xs k (0,[])).bind fun l=>if bS (y.2.length+1) then(ck (y.1+1)).bind fun z=>i9 k a1 n (z,y.2++[pA l]) else none) else some y.2
def rC(k:Nat)(a0:aZ)(a1:(List (List Int))):Option (Value×Int):=
 (cg k a0 a1).bind fun e=>if¬(e=0) then some (.string .empty,e) else(i9 k a1 k (0,[])).bind fun ss=>(sV k ss ⟨#[47]⟩).bind fun r=>some (.string r,0)
theorem vY(k:Nat)(a0:aZ)(a1:(List (List Int)))(r:Value×Int)(h:rC k a0 a1=some r):
 bW Tryz.prog 67 [.rep aD a0,.rep (.slice (.slice (.int .i64))) a1] [.inv 0 gJ] (fun _:Unit=>(bp [.eq r.1,I r.2],[.inv 0 gJ])):=by
 unfold rC at h
 replace h:=ba h
 refine bW.of 43 Tryz.func67 rfl Tryz.ntmps67 rfl fun S w0=>?_
 refine sr ?_
 refine bx fun b2=>?_
 refine cq ?_
 refine cq ?_
 refine nt ?_
 refine ah ?_
 refine sr ?_
 obtain⟨e,ee,h⟩:=ab h
 have ce:=dX k a0 a1 e ee
 refine ka (an rfl MF (xh) rfl) ?_
 refine mq ?_
 refine fr 1 ?_
 refine kb (ap [.tmp 13,.tmp 14] rfl rfl NR rfl ce) ?_
 refine aq ?_
 refine nt ?_
 refine sr ?_
 refine mq ?_
 refine jb (iS rfl) ?_
 refine nt ?_
 refine bC rfl (fun hb=>?_) (fun hb=>?_)
 ·
  replace h:=cK (LO hb) h;refine sr (mq ?_);refine cq ?_;refine aq (nt (rx ?_));cases h;exact aM () [_,_] 1 ⟨rfl,rfl,trivial⟩ rfl
 replace h:=bR (CN hb) h
 refine sk ?_
 refine sr ?_
 refine cq ?_
 refine nt ?_
 rw [Option.bind_assoc] at h
 refine ah ?_
 refine sr ?_
 refine mq ?_
 refine ol lP ?_
 refine eK rfl ?_
 refine cS (SE.nil 9 .str) ?_
 refine nt ?_
 refine aj ?_
 refine aE (fun v y=>[(7,.eq v),(19,.rep (.slice (.slice (.int .i64))) a1),(20,I (a1.length:Int)),(21,I y.1)]) (fun v y=>[.sl v 9 .str y.2,.inv 0 gJ]) (i9 k a1) k (.slice none 0 0) (0,[]) (fun _=>rfl) h (SE.fin [0,1] ⟨rfl,rfl,rfl,rfl,trivial⟩ rfl) (fun n v7 y h=>?_)
 unfold i9 at h
 refine sr ?_
 refine jb (bj rfl) ?_
 refine nt ?_
 refine ah ?_
 refine bC rfl (fun hb=>?_) (fun hb=>?_)
 ·
  replace h:=cK (od hb) h;refine sk (ah (aj ?_));obtain⟨xs,exs,h⟩:=ab h;refine sr (jb (aF (t:=.slice (.int .i64)) rfl lP Je exs) ?_);refine ja (ak (t:=.slice (.int .i64)) rfl Je rfl) ?_;refine aq (nt (sr ?_));refine aL rfl rfl rfl (bL rfl DI GA) trivial fun b=>?_;refine nt ?_;rw [Option.bind_assoc] at h;refine ah (sr (mq ?_));refine ol dW ?_;refine eK rfl ?_;refine cS (SE.nil 5 (.int .u8)) ?_;refine nt (aj ?_)
  refine aE (fun v q=>[(7,.eq v7),(10,.eq (bP b)),(19,.rep (.slice (.slice (.int .i64))) a1),(20,I (a1.length:Int)),(21,I y.1),(25,Ri xs),(26,I (xs.length:Int)),(27,I q.1)])
   (fun v q=>[.obj b 162 (bA (.pointer (LP b q.2)) (O4 q.2 v)),.sl (O4 q.2 v) 5 (.int .u8) q.2,.sl v7 9 .str y.2,.inv 0 gJ]) (kh xs) k undef (0,[]) (fun _=>rfl) h (SE.fin [1,0,2,3] ⟨rfl,rfl,rfl,rfl,rfl,rfl,rfl,rfl,trivial⟩ rfl) (fun n2 v q h=>?_)
  unfold kh at h;refine sr (jb (bj rfl) ?_);refine nt (ah (bC rfl (fun hb=>?_) (fun hb=>?_)))
  ·replace h:=cK (od hb) h;refine sk (ah (aj ?_));obtain⟨c,ec,h⟩:=ab h;refine sr (jb (aF (t:=.int .i64) rfl dW ME ec) ?_);refine ja (ak (t:=.int .i64) rfl ME rfl) ?_;refine aq (nt ?_)
   have hk:0≤kL c∧kL c≤127∧bS (q.2.length+1):=by
    apply Classical.byContradiction;intro hn;rw [if_neg hn] at h;cases h
   replace h:=cK hk h;refine uw 1 rfl fun hv=>?_;refine aa (mq ?_);refine ja (nJ rfl U3 QM) ?_;refine jb (zU rfl) ?_;refine bN (Δ:=[_,_]) (F:=_) (fun _ _ _=>av rfl _) rfl rfl (ap [.tmp 10,.tmp 33] rfl rfl K2 rfl (wa (b:=b) (p:=LP b q.2) (v:=O4 q.2 v) (l:=q.2) (r:=kL c) (Ld b q.2) hv hk.1 hk.2.1 hk.2.2)) ⟨rfl,rfl,trivial⟩ fun v2=>?_;refine ar (aN (tn (aa ?_)));obtain⟨z3,ez3,h⟩:=ab h;refine jb (a9 rfl ez3) ?_;refine mq (nl ?_);exact iE (v2,(z3,q.2++[kL c])) h (SE.fin [0,1,2,3] ⟨rfl,rfl,rfl,rfl,rfl,rfl,rfl,rfl,trivial⟩ (by simp only [Gx,Gw];rfl))
  replace h:=bR (nr hb) h;refine cZ (aJ (aJ (bH (tn ?_))));replace h:(if bS (y.2.length+1) then(ck (y.1+1)).bind fun z=>i9 k a1 n (z,y.2++[pA q.2]) else none).bind _=some r:=h
  have hk:bS (y.2.length+1):=by
   apply Classical.byContradiction;intro hn;rw [if_neg hn] at h;cases h
  replace h:=cK hk h;refine aa (mq ?_);refine bN (Δ:=[_,_]) (F:=_) (fun _ _ _=>av rfl _) rfl rfl (ap [.tmp 10] rfl rfl F8 rfl (vb (b:=b) (l:=q.2) (fun hn=>by rw [hn];rfl))) ⟨rfl,trivial⟩ fun _=>?_;refine ja (bz (t:=.str) [(.tmp 37,.eq (.string (pA q.2)))] [pA q.2] rfl rfl Jh (.cons rfl .str .nil) rfl rfl) ?_;refine dV rfl rfl rfl (bY rfl rfl Jh (by simpa using hk)) ⟨rfl,rfl,trivial⟩ fun v'=>?_;refine aq (ar (aN (tn (aa ?_))));obtain⟨z3,ez3,h⟩:=ab h;refine jb (a9 rfl ez3) ?_;refine mq (nl ?_);exact jz (v',(z3,y.2++[pA q.2])) h [0,1]
 replace h:=bR (nr hb) h
 refine cZ ?_
 refine aJ ?_
 refine aJ ?_
 refine bH ?_
 refine tn ?_
 replace h:((sV k y.2 ⟨#[47]⟩).bind fun r=>some (.string r,0)).bind some=some r:=h
 obtain⟨r1,j,h⟩:=ab h
 cases h
 have cj:=zB k y.2 _ r1 j
 refine sr ?_
 refine cS (gK [7] ⟨rfl,trivial⟩) ?_
 refine mq ?_
 refine jb (ap [.tmp 41,.const (.string ⟨#[47]⟩)] rfl rfl K1 rfl cj) ?_
 refine aq ?_
 refine cq ?_
 refine nt ?_
 refine aA ?_
 exact aM () [_,_] 1 ⟨rfl,rfl,trivial⟩ rfl
def jx(k:Nat):Option Bool:=
 (jP k ([]:(List Int))).bind fun r1=>
 (vu k).bind fun r2=>
 (oG k r1 r2 1).bind fun r3=>
 (jP k ([]:(List Int))).bind fun r4=>
 (vu k).bind fun r5=>
 (oD k r4 r5).bind fun r6=>
 (jP k ([]:(List Int))).bind fun r7=>
 (ti k r7).bind fun r8=>
 (jP k ([]:(List Int))).bind fun r9=>
 (FA k).bind fun E=>
 (tf k r9 E).bind fun c=>
 (jP k ([]:(List Int))).bind fun D=>
 (vu k).bind fun y=>
 (pz k D y 0 1).bind fun h=>
 (jP k ([]:(List Int))).bind fun x=>
 (vu k).bind fun u=>
 (rC k x u).bind fun e=>
 ((if r3.2.2=0 then(if r6.2=0 then(if r8.2.2=0 then(if c.2.2.2=0 then(if h.2.2=0 then(if e.2=0 then(if r6.1=3 then(if r8.2.1=0 then(if c.1=0 then(if c.2.1=2 then(if c.2.2.1=1 then(if h.2.1=2 then((d4 (Jr e.1=true)).bind fun _=>
 if F5 e.1 (⟨#[98,97,100,47,99]⟩:ByteArray)=true then((dA k r3.1 [0]).bind fun s=>
 if s=true then((jI k r3.2.1 [[0,1,3],[2]]).bind fun r=>
 if r=true then((jI k r8.1 [[2,0],[1,3]]).bind fun n=>
 if n=true then((dA k h.1 [0,1,3]).bind fun l=>
 some l) else(some false)) else(some false)) else(some false)) else(some false)) else(some false)) else(some false)) else(some false)) else(some false)) else(some false)) else(some false)) else(some false)) else(some false)) else(some false)) else(some false)) else(some false)) else(some false)):Option (Bool)).bind fun j=>
 some j
theorem pq(k:Nat)(r:Bool)(h:jx k=some r):
 dn (iD Tryz.prog) 25 [] [.inv 0 (gJ)] (fun _:Unit=>(bp [.eq (.bool r)],[.inv 0 (gJ)])):=by
 unfold jx at h
 replace h:=ba h
 refine dn.of 132 Tryz.func25 rfl Tryz.ntmps25 rfl fun S w0=>?_
 refine sr ?_
 refine cq ?_
 refine nt ?_
 refine sr ?_
 obtain⟨r1,Q9,h⟩:=ab h
 have Rn:=iU k ([]:(List Int)) r1 Q9
 refine ja (dJ (N:=[(.const (.slice none 0 0),.eq (.slice none 0 0))]) (ap [.const (.slice none 0 0)] rfl rfl C6 rfl Rn) fun _ _ _ hn=>⟨(jD (t:=(.slice (.int .i64))) (x:=([]:(List Int))) .nil rfl rfl hn.1),trivial⟩) ?_
 obtain⟨r2,Q8,h⟩:=ab h
 have Rm:=qM k r2 Q8
 refine aB rfl (ap [] rfl rfl Iy rfl Rm) trivial ?_
 obtain⟨r3,Q7,h⟩:=ab h
 have Rl:=tg k r1 r2 1 r3 Q7
 refine kc (ap [.tmp 19,.tmp 20,.const (.int .i64 (1))] rfl rfl NW rfl Rl) ?_
 refine mq ?_
 refine xr ?_
 refine xr ?_
 refine xr ?_
 refine aq ?_
 refine aq ?_
 refine aq ?_
 refine nt ?_
 refine sr ?_
 obtain⟨r4,Q6,h⟩:=ab h
 have Rk:=iU k ([]:(List Int)) r4 Q6
 refine ja (dJ (N:=[(.const (.slice none 0 0),.eq (.slice none 0 0))]) (ap [.const (.slice none 0 0)] rfl rfl C6 rfl Rk) fun _ _ _ hn=>⟨(jD (t:=(.slice (.int .i64))) (x:=([]:(List Int))) .nil rfl rfl hn.1),trivial⟩) ?_
 obtain⟨r5,Q5,h⟩:=ab h
 have Rj:=qM k r5 Q5
 refine aB rfl (ap [] rfl rfl Iy rfl Rj) trivial ?_
 obtain⟨r6,Q4,h⟩:=ab h
 have Rh:=qq k r4 r5 r6 Q4
 refine kb (gj [.tmp 26,.tmp 27] rfl rfl Qb rfl Rh) ?_
 refine mq ?_
 refine xr ?_
 refine xr ?_
 refine aq ?_
 refine aq ?_
 refine nt ?_
 refine sr ?_
 obtain⟨r7,Q3,h⟩:=ab h
 have Rf:=iU k ([]:(List Int)) r7 Q3
 refine ja (dJ (N:=[(.const (.slice none 0 0),.eq (.slice none 0 0))]) (ap [.const (.slice none 0 0)] rfl rfl C6 rfl Rf) fun _ _ _ hn=>⟨(jD (t:=(.slice (.int .i64))) (x:=([]:(List Int))) .nil rfl rfl hn.1),trivial⟩) ?_
 obtain⟨r8,Q2,h⟩:=ab h
 have Re:=xE k r7 r8 Q2
 refine ja (gj [.tmp 32] rfl rfl P9 rfl Re) ?_
 refine mq ?_
 refine xr ?_
 refine xr ?_
 refine xr ?_
 refine aq ?_
 refine aq ?_
 refine aq ?_
 refine nt ?_
 refine sr ?_
 obtain⟨r9,Q1,h⟩:=ab h
 have Rb:=iU k ([]:(List Int)) r9 Q1
 refine ja (dJ (N:=[(.const (.slice none 0 0),.eq (.slice none 0 0))]) (ap [.const (.slice none 0 0)] rfl rfl C6 rfl Rb) fun _ _ _ hn=>⟨(jD (t:=(.slice (.int .i64))) (x:=([]:(List Int))) .nil rfl rfl hn.1),trivial⟩) ?_
 obtain⟨E,qt,h⟩:=ab h
 have QV:=Fz k E qt
 refine aB rfl (ap [] rfl rfl P6 rfl QV) trivial ?_
 obtain⟨Q0,pp,h⟩:=ab h
 have QU:=xC k r9 E Q0 pp
 refine kb (gj [.tmp 38,.tmp 39] rfl rfl Qf rfl QU) ?_
 refine mq ?_
 refine xr ?_
 refine xr ?_
 refine xr ?_
 refine xr ?_
 refine aq ?_
 refine aq ?_
 refine aq ?_
 refine aq ?_
 refine nt ?_
 refine sr ?_
 obtain⟨D,mc,h⟩:=ab h
 have QT:=iU k ([]:(List Int)) D mc
 refine ja (dJ (N:=[(.const (.slice none 0 0),.eq (.slice none 0 0))]) (ap [.const (.slice none 0 0)] rfl rfl C6 rfl QT) fun _ _ _ hn=>⟨(jD (t:=(.slice (.int .i64))) (x:=([]:(List Int))) .nil rfl rfl hn.1),trivial⟩) ?_
 obtain⟨y,ac,h⟩:=ab h
 have QR:=qM k y ac
 refine aB rfl (ap [] rfl rfl Iy rfl QR) trivial ?_
 obtain⟨u,Y,h⟩:=ab h
 have QQ:=uG k D y 0 1 u Y
 refine bQ rfl rfl rfl (gj [.tmp 46,.tmp 47,.const (.int .i64 (0)),.const (.int .i64 (1))] rfl rfl Qe rfl QQ) ⟨rfl,rfl,rfl,rfl,trivial⟩ ?_
 refine mq ?_
 refine xr ?_
 refine xr ?_
 refine xr ?_
 refine aq ?_
 refine aq ?_
 refine aq ?_
 refine nt ?_
 refine sr ?_
 obtain⟨n,X,h⟩:=ab h
 have QP:=iU k ([]:(List Int)) n X
 refine ja (dJ (N:=[(.const (.slice none 0 0),.eq (.slice none 0 0))]) (ap [.const (.slice none 0 0)] rfl rfl C6 rfl QP) fun _ _ _ hn=>⟨(jD (t:=(.slice (.int .i64))) (x:=([]:(List Int))) .nil rfl rfl hn.1),trivial⟩) ?_
 obtain⟨l,U,h⟩:=ab h
 have QO:=qM k l U
 refine aB rfl (ap [] rfl rfl Iy rfl QO) trivial ?_
 obtain⟨QZ,Q,h⟩:=ab h
 have se:=vY k n l QZ Q
 refine kb (ap [.tmp 53,.tmp 54] rfl rfl P7 rfl se) ?_
 refine mq ?_
 refine xr ?_
 refine xr ?_
 refine aq ?_
 refine aq ?_
 refine nt ?_
 refine aP (Z:=Unit) (α:=Bool) (fun e c=>[(0,.eq (.bool c))]) (fun e c=>[.inv 0 (gJ)]) h (fun K h=>?_) (fun e c h=>?_)
 ·
  refine aa (mq ?_);refine jb (eY rfl) ?_;refine mq ?_;refine cd (s:=60) rfl (fun hb=>?_) (fun hb=>?_)
  ·replace h:=cK (od hb) h;refine gm ?_;refine gb (eY rfl) ?_;refine pt ?_;refine mq ?_;refine cd (s:=64) rfl (fun hb=>?_) (fun hb=>?_)
   ·replace h:=cK (od hb) h;refine gm ?_;refine gb (eY rfl) ?_;refine pt ?_;refine mq ?_;refine cd (s:=68) rfl (fun hb=>?_) (fun hb=>?_)
    ·replace h:=cK (od hb) h;refine gm ?_;refine gb (eY rfl) ?_;refine pt ?_;refine mq ?_;refine cd (s:=72) rfl (fun hb=>?_) (fun hb=>?_)
     ·replace h:=cK (od hb) h;refine gm ?_;refine gb (eY rfl) ?_;refine pt ?_;refine mq ?_;refine cd (s:=76) rfl (fun hb=>?_) (fun hb=>?_)
      ·replace h:=cK (od hb) h;refine gm ?_;refine gb (eY rfl) ?_;refine pt ?_;refine mq ?_;refine cd (s:=80) rfl (fun hb=>?_) (fun hb=>?_)
       ·replace h:=cK (od hb) h;refine gm ?_;refine gb (eY rfl) ?_;refine pt ?_;refine mq ?_;refine cd (s:=84) rfl (fun hb=>?_) (fun hb=>?_)
        ·replace h:=cK (od hb) h;refine gm ?_;refine gb (eY rfl) ?_;refine pt ?_;refine mq ?_;refine cd (s:=88) rfl (fun hb=>?_) (fun hb=>?_)
         ·replace h:=cK (od hb) h;refine gm ?_;refine gb (eY rfl) ?_;refine pt ?_;refine mq ?_;refine cd (s:=92) rfl (fun hb=>?_) (fun hb=>?_)
          ·replace h:=cK (od hb) h;refine gm ?_;refine gb (eY rfl) ?_;refine pt ?_;refine mq ?_;refine cd (s:=96) rfl (fun hb=>?_) (fun hb=>?_)
           ·replace h:=cK (od hb) h;refine gm ?_;refine gb (eY rfl) ?_;refine pt ?_;refine mq ?_;refine cd (s:=100) rfl (fun hb=>?_) (fun hb=>?_)
            ·replace h:=cK (od hb) h;refine gm ?_;refine gb (eY rfl) ?_;refine pt ?_;refine mq ?_;refine cd (s:=104) rfl (fun hb=>?_) (fun hb=>?_)
             ·replace h:=cK (od hb) h;refine gm ?_;obtain⟨Ro,F,h⟩:=ab h;refine gb (EQ rfl (aC F)) ?_;refine pt ?_;refine mq ?_;refine cd (s:=108) rfl (fun hb=>?_) (fun hb=>?_)
              ·replace h:=cK (BL hb) h;refine gm ?_;refine ga (bz (t:=(.int .i64)) [(.const (.int .i64 (0)),_)] [0] rfl rfl eh (.cons rfl .int .nil) rfl rfl) ?_;obtain⟨QY,O,h⟩:=ab h;refine gb (ap [.tmp 109,.tmp 110] rfl rfl Gf rfl (gw k r3.1 [0] QY O)) ?_;refine pt ?_;refine mq ?_;refine cd (s:=113) rfl (fun hb=>?_) (fun hb=>?_)
               ·replace h:=cK (BL hb) h;refine gm ?_;refine gc (bz (t:=(.int .i64)) [(.const (.int .i64 (0)),_),(.const (.int .i64 (1)),_),(.const (.int .i64 (3)),_)] [0,1,3] rfl rfl eh (.cons rfl .int (.cons rfl .int (.cons rfl .int .nil))) rfl rfl) ?_;refine ga (bz (t:=(.int .i64)) [(.const (.int .i64 (2)),_)] [2] rfl rfl eh (.cons rfl .int .nil) rfl rfl) ?_;refine gb (bz (t:=(.slice (.int .i64))) [(.tmp 115,_),(.tmp 116,_)] [[0,1,3],[2]] rfl rfl tw (.cons rfl .rep (.cons rfl .rep .nil)) rfl rfl) ?_;obtain⟨QX,M,h⟩:=ab h;refine gb (ap [.tmp 114,.tmp 117] rfl rfl NU rfl (mB k r3.2.1 [[0,1,3],[2]] QX M)) ?_;refine pt ?_;refine mq ?_;refine cd (s:=120) rfl (fun hb=>?_) (fun hb=>?_)
                ·replace h:=cK (BL hb) h;refine gm ?_;refine gb (bz (t:=(.int .i64)) [(.const (.int .i64 (2)),_),(.const (.int .i64 (0)),_)] [2,0] rfl rfl eh (.cons rfl .int (.cons rfl .int .nil)) rfl rfl) ?_;refine gb (bz (t:=(.int .i64)) [(.const (.int .i64 (1)),_),(.const (.int .i64 (3)),_)] [1,3] rfl rfl eh (.cons rfl .int (.cons rfl .int .nil)) rfl rfl) ?_;refine gb (bz (t:=(.slice (.int .i64))) [(.tmp 122,_),(.tmp 123,_)] [[2,0],[1,3]] rfl rfl tw (.cons rfl .rep (.cons rfl .rep .nil)) rfl rfl) ?_;obtain⟨QW,J,h⟩:=ab h;refine gb (ap [.tmp 121,.tmp 124] rfl rfl NU rfl (mB k r8.1 [[2,0],[1,3]] QW J)) ?_;refine pt ?_;refine mq ?_;refine cd (s:=127) rfl (fun hb=>?_) (fun hb=>?_)
                 ·replace h:=cK (BL hb) h;refine gm ?_;refine gc (bz (t:=(.int .i64)) [(.const (.int .i64 (0)),_),(.const (.int .i64 (1)),_),(.const (.int .i64 (3)),_)] [0,1,3] rfl rfl eh (.cons rfl .int (.cons rfl .int (.cons rfl .int .nil))) rfl rfl) ?_;obtain⟨j,I,h⟩:=ab h;refine gb (ap [.tmp 128,.tmp 129] rfl rfl Gf rfl (gw k u.1 [0,1,3] j I)) ?_;refine pt ?_;refine aq (nl ?_);exact jz ((),j) h [0]
                 ·replace h:=bR (BM hb) h;iterate 3 refine gn ?_
                  refine pf ?_;refine aq (nl ?_);exact jz ((),false) h [0]
                ·replace h:=bR (BM hb) h;iterate 5 refine gn ?_
                 refine pf ?_;refine mq ?_;iterate 3 refine gn ?_
                 refine pf ?_;refine aq (nl ?_);exact jz ((),false) h [0]
               ·replace h:=bR (BM hb) h;iterate 5 refine gn ?_
                refine pf ?_;refine mq ?_;iterate 5 refine gn ?_
                refine pf ?_;refine mq ?_;iterate 3 refine gn ?_
                refine pf ?_;refine aq (nl ?_);exact jz ((),false) h [0]
              ·replace h:=bR (BM hb) h;iterate 3 refine gn ?_
               refine pf ?_;refine mq ?_;iterate 5 refine gn ?_
               refine pf ?_;refine mq ?_;iterate 5 refine gn ?_
               refine pf ?_;refine mq ?_;iterate 3 refine gn ?_
               refine pf ?_;refine aq (nl ?_);exact jz ((),false) h [0]
             ·replace h:=bR (nr hb) h;iterate 2 refine gn ?_
              refine pf ?_;refine mq ?_;iterate 3 refine gn ?_
              refine pf ?_;refine mq ?_;iterate 5 refine gn ?_
              refine pf ?_;refine mq ?_;iterate 5 refine gn ?_
              refine pf ?_;refine mq ?_;iterate 3 refine gn ?_
              refine pf ?_;refine aq (nl ?_);exact jz ((),false) h [0]
            ·replace h:=bR (nr hb) h;iterate 2 refine gn ?_
             refine pf ?_;refine mq ?_;iterate 2 refine gn ?_
             refine pf ?_;refine mq ?_;iterate 3 refine gn ?_
             refine pf ?_;refine mq ?_;iterate 5 refine gn ?_
             refine pf ?_;refine mq ?_;iterate 5 refine gn ?_
             refine pf ?_;refine mq ?_;iterate 3 refine gn ?_
             refine pf ?_;refine aq (nl ?_);exact jz ((),false) h [0]
           ·replace h:=bR (nr hb) h;iterate 2 refine gn ?_
            refine pf ?_;refine mq ?_;iterate 2 refine gn ?_
            refine pf ?_;refine mq ?_;iterate 2 refine gn ?_
            refine pf ?_;refine mq ?_;iterate 3 refine gn ?_
            refine pf ?_;refine mq ?_;iterate 5 refine gn ?_
            refine pf ?_;refine mq ?_;iterate 5 refine gn ?_
            refine pf ?_;refine mq ?_;iterate 3 refine gn ?_
            refine pf ?_;refine aq (nl ?_);exact jz ((),false) h [0]
          ·replace h:=bR (nr hb) h;iterate 2 refine gn ?_
           refine pf ?_;refine mq ?_;iterate 2 refine gn ?_
           refine pf ?_;refine mq ?_;iterate 2 refine gn ?_
           refine pf ?_;refine mq ?_;iterate 2 refine gn ?_
           refine pf ?_;refine mq ?_;iterate 3 refine gn ?_
           refine pf ?_;refine mq ?_;iterate 5 refine gn ?_
           refine pf ?_;refine mq ?_;iterate 5 refine gn ?_
           refine pf ?_;refine mq ?_;iterate 3 refine gn ?_
           refine pf ?_;refine aq (nl ?_);exact jz ((),false) h [0]
         ·replace h:=bR (nr hb) h;iterate 2 refine gn ?_
          refine pf ?_;refine mq ?_;iterate 2 refine gn ?_
          refine pf ?_;refine mq ?_;iterate 2 refine gn ?_
          refine pf ?_;refine mq ?_;iterate 2 refine gn ?_
          refine pf ?_;refine mq ?_;iterate 2 refine gn ?_
          refine pf ?_;refine mq ?_;iterate 3 refine gn ?_
          refine pf ?_;refine mq ?_;iterate 5 refine gn ?_
          refine pf ?_;refine mq ?_;iterate 5 refine gn ?_
          refine pf ?_;refine mq ?_;iterate 3 refine gn ?_
          refine pf ?_;refine aq (nl ?_);exact jz ((),false) h [0]
        ·replace h:=bR (nr hb) h;iterate 2 refine gn ?_
         refine pf ?_;refine mq ?_;iterate 2 refine gn ?_
         refine pf ?_;refine mq ?_;iterate 2 refine gn ?_
         refine pf ?_;refine mq ?_;iterate 2 refine gn ?_
         refine pf ?_;refine mq ?_;iterate 2 refine gn ?_
         refine pf ?_;refine mq ?_;iterate 2 refine gn ?_
         refine pf ?_;refine mq ?_;iterate 3 refine gn ?_
         refine pf ?_;refine mq ?_;iterate 5 refine gn ?_
         refine pf ?_;refine mq ?_;iterate 5 refine gn ?_
         refine pf ?_;refine mq ?_;iterate 3 refine gn ?_
         refine pf ?_;refine aq (nl ?_);exact jz ((),false) h [0]
       ·replace h:=bR (nr hb) h;iterate 2 refine gn ?_
        refine pf ?_;refine mq ?_;iterate 2 refine gn ?_
        refine pf ?_;refine mq ?_;iterate 2 refine gn ?_
        refine pf ?_;refine mq ?_;iterate 2 refine gn ?_
        refine pf ?_;refine mq ?_;iterate 2 refine gn ?_
        refine pf ?_;refine mq ?_;iterate 2 refine gn ?_
        refine pf ?_;refine mq ?_;iterate 2 refine gn ?_
        refine pf ?_;refine mq ?_;iterate 3 refine gn ?_
        refine pf ?_;refine mq ?_;iterate 5 refine gn ?_
        refine pf ?_;refine mq ?_;iterate 5 refine gn ?_
        refine pf ?_;refine mq ?_;iterate 3 refine gn ?_
        refine pf ?_;refine aq (nl ?_);exact jz ((),false) h [0]
      ·replace h:=bR (nr hb) h;iterate 2 refine gn ?_
       refine pf ?_;refine mq ?_;iterate 2 refine gn ?_
       refine pf ?_;refine mq ?_;iterate 2 refine gn ?_
       refine pf ?_;refine mq ?_;iterate 2 refine gn ?_
       refine pf ?_;refine mq ?_;iterate 2 refine gn ?_
       refine pf ?_;refine mq ?_;iterate 2 refine gn ?_
       refine pf ?_;refine mq ?_;iterate 2 refine gn ?_
       refine pf ?_;refine mq ?_;iterate 2 refine gn ?_
       refine pf ?_;refine mq ?_;iterate 3 refine gn ?_
       refine pf ?_;refine mq ?_;iterate 5 refine gn ?_
       refine pf ?_;refine mq ?_;iterate 5 refine gn ?_
       refine pf ?_;refine mq ?_;iterate 3 refine gn ?_
       refine pf ?_;refine aq (nl ?_);exact jz ((),false) h [0]
     ·replace h:=bR (nr hb) h;iterate 2 refine gn ?_
      refine pf ?_;refine mq ?_;iterate 2 refine gn ?_
      refine pf ?_;refine mq ?_;iterate 2 refine gn ?_
      refine pf ?_;refine mq ?_;iterate 2 refine gn ?_
      refine pf ?_;refine mq ?_;iterate 2 refine gn ?_
      refine pf ?_;refine mq ?_;iterate 2 refine gn ?_
      refine pf ?_;refine mq ?_;iterate 2 refine gn ?_
      refine pf ?_;refine mq ?_;iterate 2 refine gn ?_
      refine pf ?_;refine mq ?_;iterate 2 refine gn ?_
      refine pf ?_;refine mq ?_;iterate 3 refine gn ?_
      refine pf ?_;refine mq ?_;iterate 5 refine gn ?_
      refine pf ?_;refine mq ?_;iterate 5 refine gn ?_
      refine pf ?_;refine mq ?_;iterate 3 refine gn ?_
      refine pf ?_;refine aq (nl ?_);exact jz ((),false) h [0]
    ·replace h:=bR (nr hb) h;iterate 2 refine gn ?_
     refine pf ?_;refine mq ?_;iterate 2 refine gn ?_
     refine pf ?_;refine mq ?_;iterate 2 refine gn ?_
     refine pf ?_;refine mq ?_;iterate 2 refine gn ?_
     refine pf ?_;refine mq ?_;iterate 2 refine gn ?_
     refine pf ?_;refine mq ?_;iterate 2 refine gn ?_
     refine pf ?_;refine mq ?_;iterate 2 refine gn ?_
     refine pf ?_;refine mq ?_;iterate 2 refine gn ?_
     refine pf ?_;refine mq ?_;iterate 2 refine gn ?_
     refine pf ?_;refine mq ?_;iterate 2 refine gn ?_
     refine pf ?_;refine mq ?_;iterate 3 refine gn ?_
     refine pf ?_;refine mq ?_;iterate 5 refine gn ?_
     refine pf ?_;refine mq ?_;iterate 5 refine gn ?_
     refine pf ?_;refine mq ?_;iterate 3 refine gn ?_
     refine pf ?_;refine aq (nl ?_);exact jz ((),false) h [0]
   ·replace h:=bR (nr hb) h;iterate 2 refine gn ?_
    refine pf ?_;refine mq ?_;iterate 2 refine gn ?_
    refine pf ?_;refine mq ?_;iterate 2 refine gn ?_
    refine pf ?_;refine mq ?_;iterate 2 refine gn ?_
    refine pf ?_;refine mq ?_;iterate 2 refine gn ?_
    refine pf ?_;refine mq ?_;iterate 2 refine gn ?_
    refine pf ?_;refine mq ?_;iterate 2 refine gn ?_
    refine pf ?_;refine mq ?_;iterate 2 refine gn ?_
    refine pf ?_;refine mq ?_;iterate 2 refine gn ?_
    refine pf ?_;refine mq ?_;iterate 2 refine gn ?_
    refine pf ?_;refine mq ?_;iterate 2 refine gn ?_
    refine pf ?_;refine mq ?_;iterate 3 refine gn ?_
    refine pf ?_;refine mq ?_;iterate 5 refine gn ?_
    refine pf ?_;refine mq ?_;iterate 5 refine gn ?_
    refine pf ?_;refine mq ?_;iterate 3 refine gn ?_
    refine pf ?_;refine aq (nl ?_);exact jz ((),false) h [0]
  ·replace h:=bR (nr hb) h;iterate 2 refine gn ?_
   refine pf ?_;refine mq ?_;iterate 2 refine gn ?_
   refine pf ?_;refine mq ?_;iterate 2 refine gn ?_
   refine pf ?_;refine mq ?_;iterate 2 refine gn ?_
   refine pf ?_;refine mq ?_;iterate 2 refine gn ?_
   refine pf ?_;refine mq ?_;iterate 2 refine gn ?_
   refine pf ?_;refine mq ?_;iterate 2 refine gn ?_
   refine pf ?_;refine mq ?_;iterate 2 refine gn ?_
   refine pf ?_;refine mq ?_;iterate 2 refine gn ?_
   refine pf ?_;refine mq ?_;iterate 2 refine gn ?_
   refine pf ?_;refine mq ?_;iterate 2 refine gn ?_
   refine pf ?_;refine mq ?_;iterate 2 refine gn ?_
   refine pf ?_;refine mq ?_;iterate 3 refine gn ?_
   refine pf ?_;refine mq ?_;iterate 5 refine gn ?_
   refine pf ?_;refine mq ?_;iterate 5 refine gn ?_
   refine pf ?_;refine mq ?_;iterate 3 refine gn ?_
   refine pf ?_;refine aq (nl ?_);exact jz ((),false) h [0]
 ·
  refine aA ?_;cases h;exact aM () [_] 1 ⟨rfl,trivial⟩ rfl
def bZ(k:Nat)(r3:aZ×(List (List Int))×Bool×bv)(h:Int)(e:(List Int)×Int)(j:Int):Nat→(Bool×Int)→Option Bool
 |0,_=>none
 |n+1,c=>
  if c.2 < j then(((if c.1=true then(some true) else((a8 r3.2.1 e.2).bind fun s=>
  (a8 s c.2).bind fun r=>
  (lh k r3.1 r h).bind fun x=>
  some x)):Option (Bool)).bind fun u=>
  (ck (c.2+1)).bind fun l=>
  bZ k r3 h e j n (u,l)) else(some c.1)
def cO(k:Nat)(r3:aZ×(List (List Int))×Bool×bv)(h:Int)(e:(List Int)×Int):Nat→((List Int)×Int)→Option (List Int)
 |0,_=>none
 |n+1,c=>
  if c.2 < (r3.2.1.length:Int) then((((a8 r3.2.1 c.2).bind fun u=>
  (rY k u e.2).bind fun j=>
  ((bZ k r3 h c j k (false,0)):Option (Bool)).bind fun s=>
  ((if 0≤j then(if s=true then((lh k r3.1 e.2 h).bind fun y=>
  some (!y)) else(some false)) else(some false)):Option (Bool)).bind fun r=>
  if r=true then((d4 (bS (List.length c.1+List.length [e.2]))).bind fun _=>
  some (c.1++[e.2])) else(some c.1)):Option ((List Int))).bind fun x=>
  (ck (c.2+1)).bind fun l=>
  cO k r3 h e n (x,l)) else(some c.1)
def dU(k:Nat)(r3:aZ×(List (List Int))×Bool×bv)(e:Int):Nat→((List Int)×Int)→Option (List Int)
 |0,_=>none
 |n+1,c=>
  if c.2 < (r3.1.2.1.length:Int) then(((cO k r3 e c k (c.1,0)):Option ((List Int))).bind fun j=>
  (ck (c.2+1)).bind fun h=>
  dU k r3 e n (j,h)) else(some c.1)
def dT(k:Nat)(r3:aZ×(List (List Int))×Bool×bv)(e:Int)(h:(List Int)×(List (List Int))×Int):Nat→Int→Option (Except Bool Unit)
 |0,_=>none
 |n+1,c=>
  if c < (r3.2.1.length:Int) then((a8 h.2.1 c).bind fun r=>
  (a8 r3.2.1 c).bind fun l=>
  (nQ k r3.1 l e).bind fun u=>
  (dA k r u).bind fun s=>
  if¬(s=true) then(some (.error false)) else((ck (c+1)).bind fun j=>
  dT k r3 e h n j)) else(some (.ok ()))
def fg(k:Nat)(r3:aZ×(List (List Int))×Bool×bv):Nat→Int→Option (Except Bool Unit)
 |0,_=>none
 |n+1,c=>
  if c < r3.1.1 then(bE (α:=Unit) ((oG k r3.1 r3.2.1 c).bind fun h=>
  ((if¬(h.2.2=0) then(some true) else(some (!decide ((h.2.1.length:Int)=(r3.2.1.length:Int))))):Option (Bool)).bind fun r=>
  if r=true then(some (.error false)) else(((dU k r3 c k (([]:(List Int)),0)):Option ((List Int))).bind fun l=>
  (dA k h.1 l).bind fun s=>
  if¬(s=true) then(some (.error false)) else(dT k r3 c h k 0))) (fun e=>some (.error e)) fun _=>
  (ck (c+1)).bind fun j=>
  fg k r3 n j) else(some (.ok ()))
def ko(k:Nat)(a0:(List Int)):Option Bool:=
 (lL k a0).bind fun r1=>
 (mz k (r1.1,r1.2.1,r1.2.2) 5).bind fun r3=>
 if¬(r3.2.2.1=true) then((((cg k r3.1 r3.2.1).bind fun r7=>
 if¬(r7=0) then((jx k).bind fun r8=>
 some r8) else(some false)):Option (Bool)).bind fun x5=>
 some x5) else(bE (α:=Unit) (fg k r3 k 0) (some) fun _=>
 (jx k).bind fun c=>
 some c)
theorem sQ(k:Nat)(a0:(List Int))(r:Bool)(h:ko k a0=some r):
 dn (iD Tryz.prog) 6 [Ri a0] [.inv 0 (gJ)] (fun _:Unit=>(bp [.eq (.bool r)],[.inv 0 (gJ)])):=by
 unfold ko at h
 replace h:=ba h
 refine dn.of 133 Tryz.func6 rfl Tryz.ntmps6 rfl fun S w0=>?_
 refine sr ?_
 refine cq ?_
 refine nt ?_
 refine sr ?_
 refine mq ?_
 obtain⟨r1,RI,h⟩:=ab h
 have RL:=t7 k a0 r1 RI
 refine aL rfl rfl rfl (ap [.tmp 18] rfl rfl Qi rfl RL) ⟨rfl,trivial⟩ fun b2=>?_
 obtain⟨r3,RH,h⟩:=ab h
 have RJ:=yA k (r1.1,r1.2.1,r1.2.2) b2 5 r3 RH
 refine kb (ap [.tmp 19,.const (.int .i64 (5))] rfl rfl Qd rfl RJ) ?_
 refine mq ?_
 refine xr ?_
 refine xr ?_
 refine xr ?_
 refine aL rfl rfl rfl (bL rfl xl Dj) trivial fun b4=>?_
 refine bg rfl rfl (bb rfl hH rfl rfl rfl) ⟨rfl,rfl,trivial⟩ ?_
 refine aq ?_
 refine aq ?_
 refine nt ?_
 refine ah ?_
 refine sr ?_
 refine mq ?_
 refine ja (dY rfl) ?_
 refine nt ?_
 refine cw h (fun h=>?_) (fun h=>?_)
 ·
  refine aP (Z:=Unit) (α:=Bool) (fun z6 x5=>[(2,.eq (.bool x5))]) (fun z6 x5=>[.inv 0 (gJ)]) h (fun K h=>?_) (fun z6 x5 h=>?_)
  ·refine aa (lo hH ?_);refine mq ?_;obtain⟨r7,RG,h⟩:=ab h;refine fr 2 ?_;refine kb (ap [.tmp 26,.tmp 27] rfl rfl Iz rfl (dX k r3.1 r3.2.1 r7 RG)) ?_;refine jb (iS rfl) ?_;refine mq ?_;refine cd (s:=30) rfl (fun hb=>?_) (fun hb=>?_)
   ·replace h:=cK (LO hb) h;obtain⟨r8,RF,h⟩:=ab h;refine l5 rfl rfl rfl rfl rfl rfl (gj [] rfl rfl NX rfl (pq k r8 RF)) trivial ?_;refine pt ?_;refine aq (nl ?_);exact jz ((),r8) h [0]
   ·replace h:=bR (CN hb) h;refine gn ?_;refine pf ?_;refine aq (nl ?_);exact jz ((),false) h [0]
  ·refine rx ?_;cases h;exact aM () [_] 1 ⟨rfl,trivial⟩ rfl
 ·
  refine sk (dC (Z:=Unit) (α:=Unit) (fun QV x9=>[]) (fun QV x9=>[.inv 0 (gJ)]) (fun e=>e=r) h (fun e h=>Option.some.inj h) (fun K hR h=>?_) (fun QV x9 h=>?_))
  ·refine sr (cq (nt (aj ?_)));refine aE (fun QU j=>[(3,Pt b4),(4,.rep (.slice (.slice (.int .i64))) r3.2.1),(6,I j)]) (fun QU j=>[.obj b4 25 (.rep aD r3.1),.inv 0 (gJ)]) (fg k r3) k () 0 (fun _=>rfl) h (SE.fin [0,2] ⟨rfl,rfl,rfl,trivial⟩ rfl) (fun n QU j h=>?_);unfold fg at h;refine ah (sr (mq ?_));refine fl lW ?_;refine lo cI ?_;refine jb (bj rfl) ?_;refine nt (ci h (fun h=>?_) (fun h=>?_))
   ·refine sk (dC (Z:=Unit) (α:=Unit) (fun QT QW=>[(3,Pt b4),(4,.rep (.slice (.slice (.int .i64))) r3.2.1),(6,I j)]) (fun QT QW=>[.obj b4 25 (.rep aD r3.1),.inv 0 (gJ)]) (fun e=>e=r) h (fun e h=>hR e h) (fun K hR h=>?_) (fun QT QW h=>?_))
    ·refine aj (sr (lo hH ?_));iterate 2 refine mq ?_
     obtain⟨c,Rn,h⟩:=ab h;refine fr 1 ?_;refine kc (ap [.tmp 40,.tmp 41,.tmp 42] rfl rfl NW rfl (tg k r3.1 r3.2.1 j c Rn)) ?_;refine mq ?_;refine xr ?_;refine xr ?_;refine xr ?_;refine aq ?_;refine aq ?_;refine aq (nt (ah ?_));refine aP (Z:=Unit) (α:=Bool) (fun QR pp=>[(3,Pt b4),(4,.rep (.slice (.slice (.int .i64))) r3.2.1),(6,I j),(7,Ri c.1),(8,.rep (.slice (.slice (.int .i64))) c.2.1),(55,.eq (.bool pp))]) (fun QR pp=>[.obj b4 25 (.rep aD r3.1),.inv 0 (gJ)]) h (fun K h=>?_) (fun QR pp h=>?_)
     ·refine aa (mq ?_);refine jb (iS rfl) ?_;refine mq ?_;refine cd (s:=49) rfl (fun hb=>?_) (fun hb=>?_)
      ·replace h:=cK (LO hb) h;iterate 5 refine gn ?_
       refine pt (nl ?_);exact jz ((),true) h [1,0]
      ·replace h:=bR (CN hb) h;refine gm ?_;refine ga (k7 rfl rfl lP) ?_;refine gm ?_;refine ga (k7 rfl rfl lP) ?_;refine gb (iS rfl) ?_;refine pf (nl ?_);exact jz ((), !decide ((c.2.1.length:Int)=(r3.2.1.length:Int))) h [1,0]
     ·refine cv h (fun h=>?_) (fun h=>?_)
      ·refine sr (cq (nt (rx (br (aY (aO ?_))))));refine bM (SE.fin (Γ':=[(2,_)]) [1,0] ⟨rfl,trivial⟩ rfl) ?_;obtain rfl:=hR _ h;exact aM () [_] 1 ⟨rfl,trivial⟩ rfl
      ·refine sk (sr (cq (nt ?_)));refine aP (Z:=Value) (α:=(List Int)) (fun J X=>[(3,Pt b4),(4,.rep (.slice (.slice (.int .i64))) r3.2.1),(6,I j),(7,Ri c.1),(8,.rep (.slice (.slice (.int .i64))) c.2.1),(10,.eq J)]) (fun J X=>[.obj b4 25 (.rep aD r3.1),.sl J 3 (.int .i64) X,.inv 0 (gJ)]) h (fun K h=>?_) (fun J X h=>?_)
       ·refine sr (cq (nt (aj ?_)));refine fG (SE.nil 3 (.int .i64)) ?_;refine aE (fun y l=>[(3,Pt b4),(4,.rep (.slice (.slice (.int .i64))) r3.2.1),(6,I j),(7,Ri c.1),(8,.rep (.slice (.slice (.int .i64))) c.2.1),(10,.eq y),(11,I l.2)]) (fun y l=>[.obj b4 25 (.rep aD r3.1),.sl y 3 (.int .i64) l.1,.inv 0 (gJ)]) (dU k r3 j) k (.slice none 0 0) (([]:(List Int)),0) (fun _=>rfl) h (SE.fin [1,0,2] ⟨rfl,rfl,rfl,rfl,rfl,rfl,rfl,trivial⟩ rfl) (fun n y l h=>?_);unfold dU at h;refine ah (sr (mq ?_));refine fl eA ?_;refine lo kj ?_;refine ol sH ?_;refine jb (bj rfl) ?_;refine nt (ci h (fun h=>?_) (fun h=>?_))
        ·refine sk (aP (Z:=Value) (α:=(List Int)) (fun F U=>[(3,Pt b4),(4,.rep (.slice (.slice (.int .i64))) r3.2.1),(6,I j),(7,Ri c.1),(8,.rep (.slice (.slice (.int .i64))) c.2.1),(10,.eq F),(11,I l.2)]) (fun F U=>[.obj b4 25 (.rep aD r3.1),.sl F 3 (.int .i64) U,.inv 0 (gJ)]) h (fun K h=>?_) (fun F U h=>?_))
         ·refine aj (sr (cq (nt (aj ?_))));refine aE (fun x u=>[(3,Pt b4),(4,.rep (.slice (.slice (.int .i64))) r3.2.1),(6,I j),(7,Ri c.1),(8,.rep (.slice (.slice (.int .i64))) c.2.1),(10,.eq x),(11,I l.2),(12,I u.2)]) (fun x u=>[.obj b4 25 (.rep aD r3.1),.sl x 3 (.int .i64) u.1,.inv 0 (gJ)]) (cO k r3 j l) k y (l.1,0) (fun _=>rfl) h (SE.fin [0,1,2] ⟨rfl,rfl,rfl,rfl,rfl,rfl,rfl,rfl,trivial⟩ rfl) (fun n x u h=>?_);unfold cO at h;refine ah (sr ?_);iterate 2 refine mq ?_
          refine ol lP ?_;refine jb (bj rfl) ?_;refine nt (ci h (fun h=>?_) (fun h=>?_))
          ·refine sk (aP (Z:=Value) (α:=(List Int)) (fun E Q=>[(3,Pt b4),(4,.rep (.slice (.slice (.int .i64))) r3.2.1),(6,I j),(7,Ri c.1),(8,.rep (.slice (.slice (.int .i64))) c.2.1),(10,.eq E),(11,I l.2),(12,I u.2)]) (fun E Q=>[.obj b4 25 (.rep aD r3.1),.sl E 3 (.int .i64) Q,.inv 0 (gJ)]) h (fun K h=>?_) (fun E Q h=>?_))
           ·refine aj (sr ?_);iterate 2 refine mq ?_
            obtain⟨Rz,Q9,h⟩:=ab h;refine jb (aF (t:=(.slice (.int .i64))) rfl lP cm Q9) ?_;refine ja (ak (t:=(.slice (.int .i64))) rfl cm rfl) ?_;refine mq ?_;obtain⟨M,Rm,h⟩:=ab h;refine jb (ap [.tmp 72,.tmp 73] rfl rfl NT rfl (vx k Rz l.2 M Rm)) ?_;refine aq ?_;refine cq (nt ?_);refine aP (Z:=Unit) (α:=Bool) (fun QQ mc=>[(3,Pt b4),(4,.rep (.slice (.slice (.int .i64))) r3.2.1),(6,I j),(7,Ri c.1),(8,.rep (.slice (.slice (.int .i64))) c.2.1),(10,.eq x),(11,I l.2),(12,I u.2),(13,I M),(14,.eq (.bool mc))]) (fun QQ mc=>[.obj b4 25 (.rep aD r3.1),.sl x 3 (.int .i64) u.1,.inv 0 (gJ)]) h (fun K h=>?_) (fun QQ mc h=>?_)
            ·refine sr (cq (nt (aj ?_)));refine aE (fun QP D=>[(3,Pt b4),(4,.rep (.slice (.slice (.int .i64))) r3.2.1),(6,I j),(7,Ri c.1),(8,.rep (.slice (.slice (.int .i64))) c.2.1),(10,.eq x),(11,I l.2),(12,I u.2),(13,I M),(14,.eq (.bool D.1)),(15,I D.2)]) (fun QP D=>[.obj b4 25 (.rep aD r3.1),.sl x 3 (.int .i64) u.1,.inv 0 (gJ)]) (bZ k r3 j u M) k () (false,0) (fun _=>rfl) h (SE.fin [0,1,2] ⟨rfl,rfl,rfl,rfl,rfl,rfl,rfl,rfl,rfl,rfl,rfl,trivial⟩ rfl) (fun n QP D h=>?_);unfold bZ at h;refine ah (sr ?_);iterate 2 refine mq ?_
             refine jb (bj rfl) ?_;refine nt (ci h (fun h=>?_) (fun h=>?_))
             ·refine sk (aP (Z:=Unit) (α:=Bool) (fun QO O=>[(3,Pt b4),(4,.rep (.slice (.slice (.int .i64))) r3.2.1),(6,I j),(7,Ri c.1),(8,.rep (.slice (.slice (.int .i64))) c.2.1),(10,.eq x),(11,I l.2),(12,I u.2),(13,I M),(14,.eq (.bool O)),(15,I D.2)]) (fun QO O=>[.obj b4 25 (.rep aD r3.1),.sl x 3 (.int .i64) u.1,.inv 0 (gJ)]) h (fun K h=>?_) (fun QO O h=>?_))
              ·refine aj (bX ?_);refine dm ?_;refine rf rfl rfl rfl (aQ rfl) ⟨rfl,trivial⟩ (fun hb=>?_) (fun hb=>?_)
               ·replace h:=cK (BL hb) h;iterate 9 refine dg ?_
                refine df d3 ?_;refine gn ?_;refine pt ?_;refine aq (ar (bn ?_));exact jz ((),true) h [0,1,2]
               ·replace h:=bR (BM hb) h;refine kx 0 rfl rfl rfl rfl rfl rfl (an rfl hH (uA) rfl) ⟨rfl,rfl,trivial⟩ ?_;refine bI rfl rfl rfl rfl rfl (aQ rfl) ⟨rfl,rfl,trivial⟩ ?_;refine bI rfl rfl rfl rfl rfl (aQ rfl) ⟨rfl,rfl,trivial⟩ ?_;obtain⟨RN,Q8,h⟩:=ab h;refine bI rfl rfl rfl rfl rfl (aF (t:=(.slice (.int .i64))) rfl lP cm Q8) ⟨rfl,rfl,rfl,trivial⟩ ?_;refine bI rfl rfl rfl rfl rfl (ak (t:=(.slice (.int .i64))) rfl cm rfl) ⟨rfl,rfl,trivial⟩ ?_;refine bI rfl rfl rfl rfl rfl (aQ rfl) ⟨rfl,rfl,trivial⟩ ?_;obtain⟨Ry,Q7,h⟩:=ab h;refine bI rfl rfl rfl rfl rfl (aF (t:=(.int .i64)) rfl dW cI Q7) ⟨rfl,rfl,rfl,trivial⟩ ?_;refine bI rfl rfl rfl rfl rfl (ak (t:=(.int .i64)) rfl cI rfl) ⟨rfl,rfl,trivial⟩ ?_;refine bI rfl rfl rfl rfl rfl (aQ rfl) ⟨rfl,rfl,trivial⟩ ?_;refine df d3 ?_;obtain⟨QZ,Rl,h⟩:=ab h;refine gc (ap [.tmp 82,.tmp 89,.tmp 90] rfl rfl K5 rfl (nP k r3.1 Ry j QZ Rl)) ?_;refine pf ?_;refine aq (ar (bn ?_));exact jz ((),QZ) h [0,1,2]
              ·refine aa (mq ?_);obtain⟨Rx,Q6,h⟩:=ab h;refine jb (a9 rfl Q6) ?_;refine aq (nl ?_);exact jz ((),(O,Rx)) h [0,1,2]
             ·refine xa ?_;exact jz ((),D.1) h [0,1,2]
            ·refine aP (Z:=Unit) (α:=Bool) (fun se ac=>[(3,Pt b4),(4,.rep (.slice (.slice (.int .i64))) r3.2.1),(6,I j),(7,Ri c.1),(8,.rep (.slice (.slice (.int .i64))) c.2.1),(10,.eq x),(11,I l.2),(12,I u.2),(104,.eq (.bool ac))]) (fun se ac=>[.obj b4 25 (.rep aD r3.1),.sl x 3 (.int .i64) u.1,.inv 0 (gJ)]) h (fun K h=>?_) (fun se ac h=>?_)
             ·refine aa (mq ?_);refine jb (ni rfl) ?_;refine mq ?_;refine cd (s:=95) rfl (fun hb=>?_) (fun hb=>?_)
              ·replace h:=cK (od hb) h;refine gm ?_;refine pt ?_;refine mq ?_;refine cd (s:=98) rfl (fun hb=>?_) (fun hb=>?_)
               ·replace h:=cK (BL hb) h;refine l5 rfl rfl rfl rfl rfl rfl (an rfl hH (uA) rfl) ⟨rfl,trivial⟩ ?_;refine gm ?_;refine gm ?_;obtain⟨QY,Rk,h⟩:=ab h;refine gc (ap [.tmp 99,.tmp 100,.tmp 101] rfl rfl K5 rfl (nP k r3.1 l.2 j QY Rk)) ?_;refine ga (dY rfl) ?_;refine pt (nl ?_);exact jz ((), !QY) h [0,1,2]
               ·replace h:=bR (BM hb) h;iterate 5 refine gn ?_
                refine pf (nl ?_);exact jz ((),false) h [0,1,2]
              ·replace h:=bR (nr hb) h;refine gn ?_;refine pf ?_;refine mq ?_;iterate 5 refine gn ?_
               refine pf (nl ?_);exact jz ((),false) h [0,1,2]
             ·refine cv h (fun h=>?_) (fun h=>?_)
              ·refine aa ?_;iterate 2 refine mq ?_
               refine ja (bz (t:=(.int .i64)) [(.tmp 106,_)] [l.2] rfl rfl eh (.cons rfl .int .nil) rfl rfl) ?_;obtain⟨RO,Rb,h⟩:=ab h;refine fr 1 ?_;refine dV rfl rfl rfl (bY rfl rfl eh (aC Rb)) ⟨rfl,rfl,trivial⟩ fun RA=>?_;refine aq (ar (bn ?_));exact jz (RA,u.1++[l.2]) h [1,0,2]
              ·refine aS (bn ?_);exact jz (x,u.1) h [0,1,2]
           ·refine aa (mq ?_);obtain⟨Rw,Q5,h⟩:=ab h;refine jb (a9 rfl Q5) ?_;refine aq (nl ?_);exact jz (E,(Q,Rw)) h [0,1,2]
          ·refine cZ (aJ (aJ (bH (bn ?_))));exact jz (x,u.1) h [0,1,2]
         ·refine aa (mq ?_);obtain⟨Ru,Q4,h⟩:=ab h;refine jb (a9 rfl Q4) ?_;refine aq (nl ?_);exact jz (F,(U,Ru)) h [0,1,2]
        ·refine xa ?_;exact jz (y,l.1) h [0,1,2]
       ·refine ah (sr ?_);iterate 2 refine mq ?_
        obtain⟨RE,Rj,h⟩:=ab h;refine fr 1 ?_;refine kb (qc (N:=[(.tmp 109,Ri c.1),(.tmp 110,.eq J)]) (ap [.tmp 109,.tmp 110] rfl rfl Gf rfl (gw k c.1 X RE Rj)) (fun _ _ _ hv hn=>⟨hn.1,(lend hn.2.1 hv),trivial⟩) (fun _=>⟨rfl,ue⟩)) ?_;refine ja (dY rfl) ?_;refine nt (cw h (fun h=>?_) (fun h=>?_))
        ·refine sr (cq (nt (rx (br (aY (aO ?_))))));refine bM (SE.fin (Γ':=[(2,_)]) [2,0,1] ⟨rfl,trivial⟩ rfl) ?_;obtain rfl:=hR _ h;exact aM () [_] 1 ⟨rfl,trivial⟩ rfl
        ·refine sk (sr (cq (nt (aj ?_))));refine aE (fun qt Y=>[(3,Pt b4),(4,.rep (.slice (.slice (.int .i64))) r3.2.1),(6,I j),(8,.rep (.slice (.slice (.int .i64))) c.2.1),(16,I Y)]) (fun qt Y=>[.obj b4 25 (.rep aD r3.1),.inv 0 (gJ)]) (dT k r3 j c) k () 0 (fun _=>rfl) h (SE.fin [1,2] ⟨rfl,rfl,rfl,rfl,rfl,trivial⟩ rfl) (fun n qt Y h=>?_);unfold dT at h;refine ah (sr ?_);iterate 2 refine mq ?_
         refine ol lP ?_;refine jb (bj rfl) ?_;refine nt (ci h (fun h=>?_) (fun h=>?_))
         ·refine sk (ah (aj (ah (bX ?_))));refine dm ?_;refine dm ?_;obtain⟨Rt,Q3,h⟩:=ab h;refine db (aF (t:=(.slice (.int .i64))) rfl lP cm Q3) ?_;refine da (ak (t:=(.slice (.int .i64))) rfl cm rfl) ?_;refine ea 0 (an rfl hH (uA) rfl) ?_;refine dm ?_;refine dm ?_;obtain⟨Rr,Q2,h⟩:=ab h;refine db (aF (t:=(.slice (.int .i64))) rfl lP cm Q2) ?_;refine da (ak (t:=(.slice (.int .i64))) rfl cm rfl) ?_;refine dm ?_;obtain⟨QX,Rh,h⟩:=ab h;refine dc (ap [.tmp 123,.tmp 127,.tmp 128] rfl rfl Qc rfl (yB k r3.1 Rr j QX Rh)) ?_;refine df d3 ?_;obtain⟨RD,Rf,h⟩:=ab h;refine jb (ap [.tmp 122,.tmp 129] rfl rfl Gf rfl (gw k Rt QX RD Rf)) ?_;refine ja (dY rfl) ?_;refine nt (cw h (fun h=>?_) (fun h=>?_))
          ·refine sr (cq (nt (aA (br (aY (br (aY (aO ?_))))))));refine bM (SE.fin (Γ':=[(2,_)]) [1,0] ⟨rfl,trivial⟩ rfl) ?_;obtain rfl:=hR _ h;exact aM () [_] 1 ⟨rfl,trivial⟩ rfl
          ·refine aS (aN (tn (aa (mq ?_))));obtain⟨Rq,Q1,h⟩:=ab h;refine jb (a9 rfl Q1) ?_;refine aq (nl ?_);exact jz ((),Rq) h [0,1]
         ·refine cZ (aJ (aJ (bH (bn ?_))));exact jz ((),()) h [0,1]
    ·refine aa (mq ?_);obtain⟨Ro,Q0,h⟩:=ab h;refine jb (a9 rfl Q0) ?_;refine aq (nl ?_);exact jz ((),Ro) h [0,1]
   ·refine xa ?_;exact jz ((),()) h [1]
  ·refine sr ?_;obtain⟨RB,Re,h⟩:=ab h;refine bQ rfl rfl rfl (gj [] rfl rfl NX rfl (pq k RB Re)) trivial ?_;refine aq (nt (aA ?_));cases h;exact aM () [_] 1 ⟨rfl,trivial⟩ rfl
end Go.Proofs.YtcnpijmfgfnpiaaGreatDoor
