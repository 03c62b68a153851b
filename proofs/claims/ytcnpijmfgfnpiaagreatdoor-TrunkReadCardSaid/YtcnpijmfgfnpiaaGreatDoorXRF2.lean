import Derived.Test.YtcnpijmfgfnpiaaGreatDoorXRB11
import Derived.Test.YtcnpijmfgfnpiaaGreatDoorXRB9
import Derived.Test.YtcnpijmfgfnpiaaGreatDoorXRB10
import Derived.Test.YtcnpijmfgfnpiaaGreatDoorXRB5
import Derived.Test.YtcnpijmfgfnpiaaGreatDoorXRB6
set_option linter.unusedSimpArgs false
set_option linter.unusedVariables false
set_option maxRecDepth 4000
set_option maxHeartbeats 1000000
namespace Go.Proofs.YtcnpijmfgfnpiaaGreatDoor
open K Go Go.Proofs
def bV(k:Nat)(a0:bj)(a1:(List (List Int))):Option Int:=
 (jq k a0).bind fun r2=>
 if¬(r2=0) then(some r2) else((kB k a0 a1).bind fun r4=>
 (O8 r4).bind fun q5=>
 if q5.isSome=true then(some (q5.getD 0)) else(some 0))
theorem dJ(k:Nat)(a0:bj)(a1:(List (List Int)))(r:Int)(h:bV k a0 a1=some r):
 bW Tryz.prog 35 [.rep aD a0,.rep (.slice (.slice (.int .i64))) a1] [.inv 0 (fP)] (fun _:Unit=>(bp [I r],[.inv 0 (fP)])):=by
 unfold bV at h
 replace h:=a9 h
 refine bW.of 19 Tryz.func35 rfl Tryz.ntmps35 rfl fun S w0=>?_
 refine sr ?_
 refine bx fun b1=>?_
 refine cq ?_
 refine nt ?_
 refine ah ?_
 refine sr ?_
 refine lo gW ?_
 obtain⟨r2,e,h⟩:=aa h
 have l:=mO k a0 r2 e
 refine ja (ap [.tmp 7] rfl rfl K9 rfl l) ?_
 refine aq ?_
 refine nt ?_
 refine sr ?_
 refine mq ?_
 refine jb (ip rfl) ?_
 refine nt ?_
 refine cn h (fun h=>?_) (fun h=>?_)
 ·
  refine sr (mq ?_);refine aq (nt (rx ?_));refine bz (SE.fin (Γ':=[(4,_)]) [1,0] ⟨rfl,trivial⟩ rfl) ?_;cases h;exact aF () [_] 1 ⟨rfl,trivial⟩ rfl
 ·
  refine sk (sr (aH rfl rfl rfl (bJ rfl s9 ON) trivial fun b3=>?_));refine nt (ah (sr (fr 1 ?_)));refine lo gW ?_;refine mq ?_;obtain⟨r4,c,h⟩:=aa h;refine jb (ap [.tmp 12,.tmp 13] rfl rfl P6 rfl (pZ k a0 a1 r4 c)) ?_;refine ja (EM rfl Qu) ?_;obtain⟨q5,j,h⟩:=aa h;refine fr 2 ?_;refine fr 2 ?_;refine bH (Δ:=[_,_]) (F:=_) (fun _ _ _=>av rfl _) rfl rfl (ap [.tmp 14,.tmp 15] rfl rfl NZ rfl (OG j)) ⟨rfl,rfl,trivial⟩ fun _=>?_;refine nt (cv h (fun h=>?_) (fun h=>?_))
  ·refine sr (fl Is ?_);refine lo PC ?_;refine aq (nt (rx ?_));refine bz (SE.fin (Γ':=[(4,_)]) [1,0,2] ⟨rfl,trivial⟩ rfl) ?_;cases h;exact aF () [_] 1 ⟨rfl,trivial⟩ rfl
  ·refine sk (sr (cq (nt (aA ?_))));refine bz (SE.fin (Γ':=[(4,_)]) [1,0,2] ⟨rfl,trivial⟩ rfl) ?_;cases h;exact aF () [_] 1 ⟨rfl,trivial⟩ rfl
def mN(k:Nat)(a0:bj)(r7:Int×(List (List Int))):Nat→((List Int)×Int)→Option (List Int)
 |0,_=>none
 |n+1,c=>
  if c.2 < (a0.2.1.length:Int) then((((dQ k r7.1 c.2).bind fun j=>
  if j=true then((dh (bO (List.length c.1+List.length [c.2]))).bind fun _=>
  some (c.1++[c.2])) else(some c.1)):Option ((List Int))).bind fun h=>
  (ck (c.2+1)).bind fun e=>
  mN k a0 r7 n (h,e)) else(some c.1)
def vV(k:Nat)(a0:bj)(a1:(List (List Int)))(a2:Int):Option ((List Int)×(List (List Int))×Int):=
 (bV k a0 a1).bind fun r2=>
 if¬(r2=0) then(some ([],[],r2)) else((ck (a0.1 - 1)).bind fun x3=>
 (dF k a2 0 x3).bind fun r4=>
 if¬(r4=true) then(some ([],[],3)) else((eS k a1).bind fun r6=>
 (kw k (a0,()) r6 a2).bind fun r7=>
 ((mN k a0 r7 k (([]:(List Int)),0)):Option ((List Int))).bind fun x9=>
 (gP k (a0,()) r7.2).bind fun c=>
 some (x9,c,0)))
theorem zw(k:Nat)(a0:bj)(a1:(List (List Int)))(a2:Int)(r:(List Int)×(List (List Int))×Int)(h:vV k a0 a1 a2=some r):
 bW Tryz.prog 31 [.rep aD a0,.rep (.slice (.slice (.int .i64))) a1,I a2] [.inv 0 (fP)] (fun _:Unit=>(bp [Ri r.1,.rep (.slice (.slice (.int .i64))) r.2.1,I r.2.2],[.inv 0 (fP)])):=by
 unfold vV at h
 replace h:=a9 h
 refine bW.of 55 Tryz.func31 rfl Tryz.ntmps31 rfl fun S w0=>?_
 refine sr ?_
 refine bx fun b1=>?_
 refine cq ?_
 refine cq ?_
 refine cq ?_
 refine nt ?_
 refine ah ?_
 refine sr ?_
 refine lo gW ?_
 refine mq ?_
 obtain⟨r2,ac,h⟩:=aa h
 have mc:=dJ k a0 a1 r2 ac
 refine fr 1 ?_
 refine kb (ap [.tmp 15,.tmp 16] rfl rfl IA rfl mc) ?_
 refine aq ?_
 refine nt ?_
 refine sr ?_
 refine mq ?_
 refine jb (ip rfl) ?_
 refine nt ?_
 refine cn h (fun h=>?_) (fun h=>?_)
 ·
  refine sr (mq ?_);refine cq ?_;refine cq ?_;refine aq (nt (rx ?_));refine bz (jF (t:=(.slice (.int .i64))) (x:=[]) 6 rfl .nil rfl rfl) ?_;refine bz (jF (t:=(.slice (.slice (.int .i64)))) (x:=[]) 7 rfl .nil rfl rfl) ?_;cases h;exact aF () [_,_,_] 1 ⟨rfl,rfl,rfl,trivial⟩ rfl
 ·
  refine sk (ah (sr (mq ?_)));refine fl m5 ?_;refine fr 1 ?_;refine lo cH ?_;obtain⟨x3,Q,h⟩:=aa h;refine jb (eJ rfl Q) ?_;obtain⟨r4,Y,h⟩:=aa h;refine jc (ap [.tmp 21,.const (.int .i64 (0)),.tmp 24] rfl rfl yJ rfl (dP k a2 0 x3 r4 Y)) ?_;refine ja (eK rfl) ?_;refine nt (cw h (fun h=>?_) (fun h=>?_))
  ·refine sr (cq ?_);refine cq ?_;refine cq (nt (rx ?_));refine bz (jF (t:=(.slice (.int .i64))) (x:=[]) 6 rfl .nil rfl rfl) ?_;refine bz (jF (t:=(.slice (.slice (.int .i64)))) (x:=[]) 7 rfl .nil rfl rfl) ?_;refine bz (SE.fin (Γ':=[(6,_),(7,_),(8,_)]) [1,0] ⟨rfl,rfl,rfl,trivial⟩ rfl) ?_;cases h;exact aF () [_,_,_] 1 ⟨rfl,rfl,rfl,trivial⟩ rfl
  ·refine sk (sr (lo gW ?_));refine aH rfl rfl rfl (ap [.tmp 27] rfl rfl Iy rfl (gR a0)) ⟨rfl,trivial⟩ fun z5=>?_;refine cd (kG (bF k a0) my) ?_;refine aq (nt (sr ?_));iterate 2 refine mq ?_
   obtain⟨r6,X,h⟩:=aa h;refine ja (ap [.tmp 31] rfl rfl C7 rfl (eu k a1 r6 X)) ?_;refine mq ?_;obtain⟨r7,U,h⟩:=aa h;refine jc (dz (N:=[(.tmp 30,.at au (a0,(.map (some z5)))),(.tmp 32,.rep (.arr 3 (.arr 5 (.int .i64))) r6),(.tmp 33,I a2)]) (ap [.tmp 30,.tmp 32,.tmp 33] rfl rfl N3 rfl (ng k (a0,()) r6 a2 r7 U)) fun _ _ _ hn=>⟨(sb hn.1),hn.2.1,hn.2.2.1,trivial⟩) ?_;refine mq ?_;refine xr ?_;refine xr ?_;refine aH rfl rfl rfl (bJ rfl l6 mF) trivial fun b8=>?_;refine aq ?_;refine be rfl rfl (a8 rfl cI rfl rfl rfl) ⟨rfl,rfl,trivial⟩ ?_;refine nt (sr (cq (nt ?_)));refine aX (Z:=Value) (α:=(List Int)) (fun l x9=>[(10,.at au (a0,(.map (some z5)))),(12,Pt b8),(13,.eq l)]) (fun l x9=>[.obj b8 107 (.rep (.arr 3 (.arr 5 (.int .i64))) r7.2),.sl l 3 (.int .i64) x9,.inv 0 (fP),.inv z5 (bF k a0)]) h (fun K h=>?_) (fun l x9 h=>?_)
   ·refine sr (fl eO ?_);refine fr 2 ?_;refine lo lp ?_;refine ol s4 ?_;refine dX rfl ?_;refine nt (aj (fN (SE.nil 3 (.int .i64)) ?_));refine aL (fun e c=>[(10,.at au (a0,(.map (some z5)))),(11,.eq (.int .u8 r7.1)),(12,Pt b8),(13,.eq e),(39,I (a0.2.1.length:Int)),(40,I c.2)]) (fun e c=>[.obj b8 107 (.rep (.arr 3 (.arr 5 (.int .i64))) r7.2),.sl e 3 (.int .i64) c.1,.inv 0 (fP),.inv z5 (bF k a0)]) (mN k a0 r7) k (.slice none 0 0) (([]:(List Int)),0) (fun _=>rfl) h (SE.fin [2,0,4,3] ⟨rfl,rfl,rfl,rfl,rfl,rfl,trivial⟩ rfl) (fun n e c h=>?_);unfold mN at h;refine sr (jb (bG rfl) ?_);refine nt (ah (ci h (fun h=>?_) (fun h=>?_)))
    ·refine sk (aX (Z:=Value) (α:=(List Int)) (fun j s=>[(10,.at au (a0,(.map (some z5)))),(11,.eq (.int .u8 r7.1)),(12,Pt b8),(13,.eq j),(39,I (a0.2.1.length:Int)),(40,I c.2)]) (fun j s=>[.obj b8 107 (.rep (.arr 3 (.arr 5 (.int .i64))) r7.2),.sl j 3 (.int .i64) s,.inv 0 (fP),.inv z5 (bF k a0)]) h (fun K h=>?_) (fun j s h=>?_))
     ·refine aj (sr (mq ?_));refine aq (nt (sr ?_));iterate 2 refine mq ?_
      obtain⟨O,E,h⟩:=aa h;refine jb (ap [.tmp 43,.tmp 44] rfl rfl Ix rfl (gQ k r7.1 c.2 O E)) ?_;refine nt (cv h (fun h=>?_) (fun h=>?_))
      ·refine ab ?_;iterate 2 refine mq ?_
       refine ja (bB (t:=(.int .i64)) [(.tmp 47,_)] [c.2] rfl rfl eB (.cons rfl .int .nil) rfl rfl) ?_;obtain⟨u16,y,h⟩:=aa h;refine fr 1 ?_;refine dI rfl rfl rfl (bY rfl rfl eB (aC y)) ⟨rfl,rfl,trivial⟩ fun J=>?_;refine aq (ar (bn ?_));exact jz (J,c.1++[c.2]) h [1,0,2,3]
      ·refine aS (bn ?_);exact jz (e,c.1) h [0,1,2,3]
     ·refine ab ?_;obtain⟨F,u,h⟩:=aa h;refine jb (bi rfl u) ?_;refine mq (nl ?_);exact jz (j,(s,F)) h [0,1,2,3]
    ·refine xa ?_;exact jz (e,c.1) h [0,1,2,3]
   ·refine sr ?_;iterate 2 refine mq ?_
    refine lo cI ?_;obtain⟨M,D,h⟩:=aa h;refine aH rfl rfl rfl (dz (N:=[(.tmp 52,.at au (a0,(.map (some z5)))),(.tmp 53,.rep (.arr 3 (.arr 5 (.int .i64))) r7.2)]) (ap [.tmp 52,.tmp 53] rfl rfl K4 rfl (iW k (a0,()) r7.2 M D)) fun _ _ _ hn=>⟨(sb hn.1),hn.2.1,trivial⟩) ⟨rfl,rfl,trivial⟩ fun pp=>?_;refine aq ?_;refine aq ?_;refine cq (nt (aA ?_));refine di 2 rfl ?_;refine bz (gr [6,13,51] ⟨rfl,rfl,rfl,trivial⟩) ?_;refine bz (gr [7,54] ⟨rfl,rfl,trivial⟩) ?_;refine bz (SE.fin (Γ':=[(6,_),(7,_),(8,_)]) [1,0,2] ⟨rfl,rfl,rfl,trivial⟩ rfl) ?_;cases h;exact aF () [_,_,_] 1 ⟨rfl,rfl,rfl,trivial⟩ rfl
theorem iY(k:Nat)(a0:bj)(z_a0:Nat)(a1:(List (List Int)))(r:Int)(h:cV k a0 a1=some r):
 cS (iw Tryz.prog) 111 [.at au (a0,(.map (some z_a0))),.rep (.arr 3 (.arr 5 (.int .i64))) a1] [.inv z_a0 (bF k a0)] (fun _:Unit=>(bp [I r],[.inv z_a0 (bF k a0)])):=by
 have h0:=h
 unfold cV at h
 replace h:=a9 h
 obtain⟨u1,eg,h⟩:=aa h
 have hg:=aC eg
 have gk:=FC hg
 refine cS.of 28 Tryz.func111 rfl Tryz.ntmps111 rfl fun S w0=>?_
 refine sr ?_
 refine bx fun b1=>?_
 refine cq ?_
 refine nt ?_
 refine ah ?_
 refine iy 1 rfl ?_
 refine AC fun ob hob=>?_
 obtain⟨lnn,lbb,hlR,hlk⟩:=wy (z:=z_a0) OS JJ yx gk CP hob
 refine cu ?_
 refine dm ?_
 refine da (dc rfl) ?_
 refine da (aI 1 false rfl A8 rfl) ?_
 refine da (ao (t:=.val) rfl Jf rfl) ?_
 refine ea 1 (an rfl cI (xe) rfl) ?_
 refine eb 0 (Cm (kv:=km a1) (vn _) (li.calm hob) rfl (fun _ _ _ hh=>t4 hh) hlk) ?_
 refine dm ?_
 refine da (gj rfl rfl) ?_
 refine da (gj rfl rfl) ?_
 refine da (hC rfl) ?_
 refine df fe ?_
 refine aq ?_
 refine nt ?_
 refine ah ?_
 refine sr ?_
 refine mq ?_
 refine ja (eK rfl) ?_
 refine nt ?_
 refine fN (kG (bF k a0) hob) ?_
 refine bm rfl (fun hb=>?_) (fun hb=>?_)
 ·
  refine sr (mq ?_);refine fr 1 ?_;refine lo cI ?_;obtain⟨r2,c,h⟩:=aa h;refine jc (dz (N:=[(.tmp 18,.at au (a0,(.map (some z_a0)))),(.tmp 19,.rep (.arr 3 (.arr 5 (.int .i64))) a1),(.const (.int .i64 (0)),I 0)]) (fy [.tmp 18,.tmp 19,.const (.int .i64 (0))] rfl rfl JB rfl (lz k (a0,()) a1 0 r2 c)) fun _ _ _ hn=>⟨(sb hn.1),hn.2.1,hn.2.2.1,trivial⟩) ?_;refine aq (nt ?_);refine cu ?_;refine dm ?_;refine da (dc rfl) ?_;refine da (aI 1 false rfl A8 rfl) ?_;refine da (ao (t:=.val) rfl Jf rfl) ?_;refine ea 0 (an rfl cI (xe) rfl) ?_;refine dm ?_;refine df fe ?_;refine fr 1 ?_;have hl:cV k a0 a1=some r2:=h0.trans (show some r=some r2 from h.symm);refine be rfl rfl (xU (kv:=km a1) (vn _) rfl OS yx (fun _ _ _ hh=>t4 hh) gk ⟨a1,hg,rfl,hl⟩) ⟨rfl,rfl,rfl,trivial⟩ ?_;refine nt (sr (mq ?_));refine aq (nt (aA ?_));cases h;exact aF () [_] 1 ⟨rfl,trivial⟩ rfl
 ·
  obtain⟨p,hp,he,hl⟩:=hlR (by simpa using hb);obtain rfl:=vo hg hp he;replace h:some lnn=some r:=hl.symm.trans h0;refine sk (sr (mq ?_));refine aq (nt (aA ?_));cases h;exact aF () [_] 1 ⟨rfl,trivial⟩ rfl
def ow(k:Nat)(a0:bj)(a1:(List (List Int))):Option (Int×Int):=
 (bV k a0 a1).bind fun r2=>
 if¬(r2=0) then(some (0,r2)) else((eS k a1).bind fun r4=>
 (cV k a0 r4).bind fun r5=>
 some (r5,0))
theorem qh(k:Nat)(a0:bj)(a1:(List (List Int)))(r:Int×Int)(h:ow k a0 a1=some r):
 cS (iw Tryz.prog) 48 [.rep aD a0,.rep (.slice (.slice (.int .i64))) a1] [.inv 0 (fP)] (fun _:Unit=>(bp [I r.1,I r.2],[.inv 0 (fP)])):=by
 unfold ow at h
 replace h:=a9 h
 refine cS.of 18 Tryz.func48 rfl Tryz.ntmps48 rfl fun S w0=>?_
 refine sr ?_
 refine bx fun b1=>?_
 refine cq ?_
 refine cq ?_
 refine nt ?_
 refine ah ?_
 refine sr ?_
 refine lo gW ?_
 refine mq ?_
 obtain⟨r2,j,h⟩:=aa h
 have l:=dJ k a0 a1 r2 j
 refine fr 1 ?_
 refine kb (ap [.tmp 7,.tmp 8] rfl rfl IA rfl l) ?_
 refine aq ?_
 refine nt ?_
 refine sr ?_
 refine mq ?_
 refine jb (ip rfl) ?_
 refine nt ?_
 refine cn h (fun h=>?_) (fun h=>?_)
 ·
  refine sr (mq ?_);refine cq ?_;refine aq (nt (rx ?_));cases h;exact aF () [_,_] 1 ⟨rfl,rfl,trivial⟩ rfl
 ·
  refine sk (sr (fr 1 ?_));refine lo gW ?_;refine aH rfl rfl rfl (ap [.tmp 13] rfl rfl Iy rfl (gR a0)) ⟨rfl,trivial⟩ fun z3=>?_;refine cd (kG (bF k a0) my) ?_;refine mq ?_;obtain⟨r4,e,h⟩:=aa h;refine ja (ap [.tmp 15] rfl rfl C7 rfl (eu k a1 r4 e)) ?_;obtain⟨r5,c,h⟩:=aa h;refine kb (fy [.tmp 14,.tmp 16] rfl rfl Jz rfl (iY k a0 z3 r4 r5 c)) ?_;refine aq ?_;refine cq (nt (aA ?_));refine bz (SE.fin (Γ':=[(4,_),(5,_)]) [2,0,1] ⟨rfl,rfl,trivial⟩ rfl) ?_;cases h;exact aF () [_,_] 1 ⟨rfl,rfl,trivial⟩ rfl
set_option maxRecDepth 20000
set_option maxHeartbeats 4000000
@[reducible] def eh:Ty:=.agg (.pair (.int .i64) (.int .i64))
def NQ(x:Int×Int):Value:=.agg #[.int .i64 x.1,.int .i64 x.2]
theorem Iu{S:FS}{w:World}{x:Int×Int}:(A.rep eh x).holds S w (NQ x):=⟨[_,_],⟨[_],[_],rfl,rfl,rfl⟩,rfl⟩
theorem F5{S:FS}{w:World}{x:Int×Int}{v:Value}(h:(A.rep eh x).holds S w v):(A.eq (NQ x)).holds S w v:=by
 obtain⟨cs,⟨c1,c2,rfl,h1,h2⟩,rfl⟩:=h;have h1:c1=_:=h1;have h2:c2=_:=h2;subst h1 h2;rfl
theorem fX:dj Tryz.prog 131 2 true:=⟨fun w=>by kernel_rfl,fun w=>by kernel_rfl⟩
theorem nh:dj Tryz.prog 28 1 false:=⟨fun w=>by kernel_rfl,fun w=>by kernel_rfl⟩
theorem AL:dj Tryz.prog 23 1 false:=⟨fun w=>by kernel_rfl,fun w=>by kernel_rfl⟩
theorem sL:dj Tryz.prog 3 1 false:=⟨fun w=>by kernel_rfl,fun w=>by kernel_rfl⟩
theorem Eb:dj Tryz.prog 102 1 false:=⟨fun w=>by kernel_rfl,fun w=>by kernel_rfl⟩
theorem KN:aQ Tryz.prog 131 0 0:=aQ.of (by kernel_rfl)
theorem KL:aQ Tryz.prog 131 1 1:=aQ.of (by kernel_rfl)
theorem NP:aQ Tryz.prog 128 0 0:=aQ.of (by kernel_rfl)
theorem sP:aQ Tryz.prog 128 1 1:=aQ.of (by kernel_rfl)
theorem wL:ag Tryz.prog 136:=ag.of Tryz.func136 (by kernel_rfl) (by kernel_rfl)
def iO(x:Int×Int)(m:Int):Nat→Int×List Int→Option (List Int)
 |0,_=>none
 |n+1,q=>if q.1 < m then((bb q.2 q.1).bind fun c=>if c=x.1 then(ck (q.1+1)).bind fun w=>iO x m n (w,q.2.set q.1.toNat x.2) else if c=x.2 then(ck (q.1+1)).bind fun w=>iO x m n (w,q.2.set q.1.toNat x.1) else(ck (q.1+1)).bind fun w=>iO x m n (w,q.2)) else some q.2
def jN(k:Nat)(x:Int×Int)(m:Int):Nat→Int×List (List Int)→Option (List (List Int))
 |0,_=>none
 |n+1,q=>if q.1 < m then((bb q.2 q.1).bind fun l=>(iO x (l.length:Int) k (0,l)).bind fun l2=>(ck (q.1+1)).bind fun w=>jN k x m n (w,q.2.set q.1.toNat l2)) else some q.2
def ma(k:Nat)(x:Int×Int)(ls:List (List Int)):Option (List (List Int)):=jN k x (ls.length:Int) k (0,ls)
theorem ly(k:Nat)(x:Int×Int)(ls r:List (List Int))(y:Nat)(d0:au.den)(z:Value×(Nat→Value))(h:ma k x ls=some r):
 bW Tryz.prog 136 [.eq (bP y),.rep eh x] ([.obj y 128 (.agg (.pair (.at au d0) (.eq z.1)))]++ek 23 z ls) (fun _:Unit=>(bp [],[.obj y 128 (.agg (.pair (.at au d0) (.eq z.1)))]++ek 23 z r)):=by
 unfold ma at h
 replace h:=a9 h
 refine bW.of 45 Tryz.func136 rfl Tryz.ntmps136 rfl fun S w0=>?_
 refine sr ?_
 refine bx fun b3=>?_
 refine nt ?_
 refine sr ?_
 refine mq ?_
 refine ja (aR rfl) ?_
 refine fl sP ?_
 refine fr 1 ?_
 refine lo nh ?_
 refine cd (wU (pre:=[.obj y 128 (.agg (.pair (.at au d0) (.eq z.1))),.obj b3 131 (.rep eh x)])) ?_
 refine ka (cN rfl rfl mH) ?_
 rw [fu]
 refine cd (Dm (pre:=[.obj y 128 (.agg (.pair (.at au d0) (.eq z.1))),.obj b3 131 (.rep eh x)])) ?_
 refine dX rfl ?_
 refine nt ?_
 refine aj ?_
 refine aL (Z:=Unit) (α:=Int×List (List Int)) (fun _ q=>[(3,.eq (bP b3)),(11,.eq z.1),(12,I (ls.length:Int)),(13,I q.1)]) (fun _ q=>[.obj y 128 (.agg (.pair (.at au d0) (.eq z.1))),.obj b3 131 (.rep eh x)]++ek 23 z q.2) (jN k x (ls.length:Int)) k () (0,ls) (fun _=>rfl) h (aV [.obj y 128 (.agg (.pair (.at au d0) (.eq z.1))),.obj b3 131 (.rep eh x)] (ek 23 z ls) [0,1] ⟨rfl,rfl,rfl,rfl,trivial⟩ rfl) (fun n u q h=>?_)
 unfold jN at h
 refine sr ?_
 refine jb (bG rfl) ?_
 refine nt ?_
 refine ah ?_
 refine bm rfl (fun hb=>?_) (fun hb=>?_)
 ·
  replace h:=cC (nr hb) h;refine sk (ah (aj ?_));obtain⟨l,el,h⟩:=aa h;refine fN (sd (pre:=[.obj y 128 (.agg (.pair (.at au d0) (.eq z.1))),.obj b3 131 (.rep eh x)]) (oL el).2) ?_;refine sr (fr 1 ?_);refine kb (bu (t:=.val) rfl mH AL (jH el)) ?_;refine ka (fD (i:=q.1.toNat) (off:=0) rfl AL (fun _=>rfl) rfl (cP (jH el)).2.2 rfl) ?_;refine aq (nt ?_);rw [Option.bind_assoc] at h;refine sr (mq ?_);refine fr 1 ?_;refine ka (cN rfl rfl ep) ?_;refine dX rfl ?_;refine nt (aj (aL (Z:=Unit) (α:=Int×List Int) (fun _ q2=>[(3,.eq (bP b3)),(5,.eq (z.2 q.1.toNat)),(11,.eq z.1),(12,I (ls.length:Int)),(13,I q.1),(17,.eq (z.2 q.1.toNat)),(18,I (l.length:Int)),(19,I q2.1)]) (fun _ q2=>[.sl (z.2 q.1.toNat) 3 (.int .i64) (q2.2),.sl z.1 23 .val (dY z.2 0 q.2),.obj y 128 (.agg (.pair (.at au d0) (.eq z.1))),.obj b3 131 (.rep eh x)]++((kD z.2 0 q.2).eraseIdx q.1.toNat)) (iO x (l.length:Int)) k () (0,l) (fun _=>rfl) h (aV [.sl (z.2 q.1.toNat) 3 (.int .i64) (l),.sl z.1 23 .val (dY z.2 0 q.2),.obj y 128 (.agg (.pair (.at au d0) (.eq z.1))),.obj b3 131 (.rep eh x)] ((kD z.2 0 q.2).eraseIdx q.1.toNat) [0,1,2,3] ⟨rfl,rfl,rfl,rfl,rfl,rfl,rfl,rfl,trivial⟩ rfl) (fun n2 u2 q2 h=>?_)));unfold iO at h;refine sr (jb (bG rfl) ?_);refine nt (ah (bm rfl (fun hb=>?_) (fun hb=>?_)))
  ·replace h:=cC (nr hb) h;refine sk (ah (aj ?_));obtain⟨c,ec,h⟩:=aa h;refine sr (mq ?_);refine kb (bu (t:=.int .i64) rfl ep sL ec) ?_;refine ka (fD (i:=q2.1.toNat) (off:=0) rfl sL (fun _=>rfl) rfl (cP ec).2.2 rfl) ?_;refine aq ?_;refine aq (nt (sr ?_));refine mq (nt (aj (sr ?_)));refine fl KN ?_;refine fr 3 ?_;refine lo sL ?_;refine jb (dS rfl) ?_;refine aq (nt ?_);refine ci h (fun h=>?_) (fun h=>?_)
   ·refine ab ?_;iterate 2 refine mq ?_
    refine fl KL ?_;refine lo sL ?_;refine fr 1 ?_;refine kb (bu (t:=.int .i64) rfl ep sL ec) ?_;refine be rfl rfl (cZ (i:=q2.1.toNat) rfl sL rfl (iG ec) rfl .int rfl) ⟨rfl,rfl,trivial⟩ ?_;refine ar (aK (aK (tn (ab ?_))));obtain⟨w,ew,h⟩:=aa h;refine jb (bi rfl ew) ?_;refine mq (nl ?_);exact gw ((),(w,q2.2.set q2.1.toNat x.2)) h (aV [.sl (z.2 q.1.toNat) 3 (.int .i64) (q2.2.set q2.1.toNat x.2),.obj b3 131 (.rep eh x),.sl z.1 23 .val (dY z.2 0 q.2),.obj y 128 (.agg (.pair (.at au d0) (.eq z.1)))] ((kD z.2 0 q.2).eraseIdx q.1.toNat) [0,2,3,1] ⟨rfl,rfl,rfl,rfl,rfl,rfl,rfl,rfl,trivial⟩ rfl)
   ·refine sr (fl KL ?_);refine lo sL ?_;refine jb (dS rfl) ?_;refine aq (nt ?_);refine ci h (fun h=>?_) (fun h=>?_)
    ·refine ab ?_;iterate 2 refine mq ?_
     refine fl KN ?_;refine lo sL ?_;refine fr 1 ?_;refine kb (bu (t:=.int .i64) rfl ep sL ec) ?_;refine be rfl rfl (cZ (i:=q2.1.toNat) rfl sL rfl (iG ec) rfl .int rfl) ⟨rfl,rfl,trivial⟩ ?_;refine ar (aK (aK (tn (ab ?_))));obtain⟨w,ew,h⟩:=aa h;refine jb (bi rfl ew) ?_;refine mq (nl ?_);exact gw ((),(w,q2.2.set q2.1.toNat x.1)) h (aV [.sl (z.2 q.1.toNat) 3 (.int .i64) (q2.2.set q2.1.toNat x.1),.obj b3 131 (.rep eh x),.sl z.1 23 .val (dY z.2 0 q.2),.obj y 128 (.agg (.pair (.at au d0) (.eq z.1)))] ((kD z.2 0 q.2).eraseIdx q.1.toNat) [0,2,3,1] ⟨rfl,rfl,rfl,rfl,rfl,rfl,rfl,rfl,trivial⟩ rfl)
    ·refine aS (aK (aK (tn (ab ?_))));obtain⟨w,ew,h⟩:=aa h;refine jb (bi rfl ew) ?_;refine mq (nl ?_);exact gw ((),(w,q2.2)) h (aV [.obj b3 131 (.rep eh x),.sl (z.2 q.1.toNat) 3 (.int .i64) (q2.2),.sl z.1 23 .val (dY z.2 0 q.2),.obj y 128 (.agg (.pair (.at au d0) (.eq z.1)))] ((kD z.2 0 q.2).eraseIdx q.1.toNat) [1,2,3,0] ⟨rfl,rfl,rfl,rfl,rfl,rfl,rfl,rfl,trivial⟩ rfl)
  replace h:=bL (m6 hb) h;refine dt (aP (aP (bQ (aK (tn (fN (zb (pre:=[.obj y 128 (.agg (.pair (.at au d0) (.eq z.1))),.obj b3 131 (.rep eh x)]) (l':=q2.2) (oL el).2) ?_))))));refine ab ?_;obtain⟨w,ew,h⟩:=aa (X:=ck (q.1+1)) (f:=fun w=>jN k x (ls.length:Int) n (w,q.2.set q.1.toNat q2.2)) (K:=some) (r:=r) (by simpa using h);refine jb (bi rfl ew) ?_;refine mq (nl ?_);exact gw ((),(w,q.2.set q.1.toNat q2.2)) h (aV [.obj y 128 (.agg (.pair (.at au d0) (.eq z.1))),.obj b3 131 (.rep eh x)] (ek 23 z (q.2.set q.1.toNat q2.2)) [0,1] ⟨rfl,rfl,rfl,rfl,trivial⟩ rfl)
 replace h:=bL (m6 hb) h
 refine dt ?_
 refine aP ?_
 refine aP ?_
 refine bQ ?_
 cases h
 refine ix ?_
 refine bz (aV (Γ':=[]) (pre':=[.obj y 128 (.agg (.pair (.at au d0) (.eq z.1)))]) [.obj y 128 (.agg (.pair (.at au d0) (.eq z.1))),.obj b3 131 (.rep eh x)] (ek 23 z q.2) [0] trivial rfl) ?_
 exact ii () [] trivial rfl
@[reducible] def Ho:Ty:=.agg (.pair (.ptr au) (.slice (.slice (.int .i64))))
theorem JR{S:FS}{w:World}{y:Nat}{d0:au.den}{z:Value×(Nat→Value)}{ls:List (List Int)}(h:∀d∈[D.obj y 128 (.agg (.pair (.at au d0) (.eq z.1)))]++ek 23 z ls,d.holds S w∧∀b,d.foot=some b→S b):(A.at Ho (d0,ls)).holds S w (bP y):=by
 obtain⟨⟨cs,h1,c1,c2,rfl,g1,rfl,g2⟩,h2⟩:=h _ (List.mem_cons_self ..);have h3:=Fq (fun d hd=>h d (List.mem_cons_of_mem _ hd));refine⟨y,0,_,128,(0,0),rfl,h2 y rfl,h1,c1,[z.1],?_,g1,?_⟩
 ·have l1:=aG (.ptr au) g1;simp only [Ty.cells] at l1;match c1,l1 with
  |[u],_=>rfl
 ·obtain⟨cs,h4,h5⟩:=h3;have l1:=aG (.slice (.slice (.int .i64))) h4;simp only [Ty.cells] at l1;match cs,l1 with
  |[u],_=>rw [h5];exact h4
theorem xu{S:FS}{w:World}{a:Act}{Γ:Ga}{y:Nat}{d0:au.den}{z:Value×(Nat→Value)}{ls:List (List Int)}(h:∀d∈[D.obj y 128 (.agg (.pair (.at au d0) (.eq z.1)))]++ek 23 z ls,d.holds S w∧∀b,d.foot=some b→S b)
 (hk:∀s r,lk Γ s=some r→r.holds S w (a.tmps.getD s undef)) (h0:lk Γ 0=some (.eq (bP y))):∀s r,lk [(0,A.at Ho (d0,ls))] s=some r→r.holds S w (a.tmps.getD s undef):=fun s r hl=>by
 simp only [lk] at hl
 split at hl
 ·
  rename_i e
  cases hl
  subst e
  have e1:a.tmps.getD 0 undef=bP y:=hk 0 _ h0
  rw [e1]
  exact JR h
 ·
  cases hl
theorem Ju{n:Nat}{r0:A}(h:r0.flat=true):∀s r,lk [(n,r0)] s=some r→r.flat=true:=fun s r hl=>by
 simp only [lk] at hl
 split at hl
 ·
  cases hl;exact h
 ·
  cases hl
theorem KP{d0:D}(h:d0.flat=true):∀d∈[d0],d.flat=true:=fun d hd=>by
 simp only [List.mem_cons,List.not_mem_nil,or_false] at hd
 subst hd;exact h
theorem It{d0 d1:D}(h:d0.flat=true)(h1:d1.flat=true):∀d∈[d0,d1],d.flat=true:=fun d hd=>by
 simp only [List.mem_cons,List.not_mem_nil,or_false] at hd
 rcases hd with rfl |rfl <;> assumption
theorem xw{y:Nat}{x:Int×Int}(S:FS)(w:World):fj S w [.eq (bP y),.rep eh x] [bP y,NQ x]:=⟨_,_,rfl,rfl,_,_,rfl,Iu,rfl⟩
theorem KJ:aQ Tryz.prog 173 0 0:=aQ.of (by kernel_rfl)
theorem Ea:dj Tryz.prog 25 3 true:=⟨fun w=>by kernel_rfl,fun w=>by kernel_rfl⟩
theorem NU:ag Tryz.prog 94:=ag.of Tryz.func94 (by kernel_rfl) (by kernel_rfl)
theorem NV:ag Tryz.prog 86:=ag.of Tryz.func86 (by kernel_rfl) (by kernel_rfl)
theorem KU:ag Tryz.prog 111:=ag.of Tryz.func111 (by kernel_rfl) (by kernel_rfl)
def lQ(k:Nat)(t:bj)(x:Int×Int)(ls:List (List Int)):Option (Bool×List (List Int)):=
 (ma k x ls).bind fun l1=>(kB k t l1).bind fun e=>if H8 e=true then(ma k x l1).bind fun l2=>some (!t6 e,l2) else none
theorem rh(k:Nat)(t:bj)(x:Int×Int)(ls:List (List Int))(r:Bool×List (List Int))(y m:Nat)(z:Value×(Nat→Value))(h:lQ k t x ls=some r):
 bW Tryz.prog 98 [.eq (bP y),.rep eh x] ([.obj y 128 (.agg (.pair (.at au (t,.map (some m))) (.eq z.1)))]++ek 23 z ls) (fun _:Unit=>(bp [.eq (.bool r.1)],[.obj y 128 (.agg (.pair (.at au (t,.map (some m))) (.eq z.1)))]++ek 23 z r.2)):=by
 unfold lQ at h
 replace h:=a9 h
 obtain⟨l1,e1,h⟩:=aa h
 obtain⟨e,e2,h⟩:=aa h
 have he:H8 e=true:=by
  apply Classical.byContradiction;intro hn;rw [if_neg hn] at h;cases h
 replace h:=cC he h
 obtain⟨l2,e3,h⟩:=aa h
 cases h
 have cv:=pZ k t l1 e e2
 refine I8 23 Tryz.func98 rfl Tryz.ntmps98 rfl fun S w0=>?_
 refine sr ?_
 refine bx fun b3=>?_
 refine cq ?_
 refine nt ?_
 refine sr ?_
 refine mq ?_
 refine ka (an rfl fX (xf) rfl) ?_
 refine cd (fK (Δ':=([.obj y 128 (.agg (.pair (.at au (t,.map (some m))) (.eq z.1)))]++ek 23 z ls)++[.obj b3 131 (.rep eh x)]) (List.perm_append_comm (l₁:=([.obj b3 131 (.rep eh x)]:List D)))) ?_
 refine bH (Δ:=_++_) (F:=[_]) (fun _ _ _=>av rfl _) rfl rfl (ap [.tmp 5,.tmp 6] rfl rfl wL rfl (ly k x ls l1 y (t,.map (some m)) z e1)) ⟨rfl,rfl,trivial⟩ fun _=>?_
 refine nt ?_
 refine sr ?_
 refine mq ?_
 refine cd (fK (Δ':=[.obj b3 131 (.rep eh x)]++([.obj y 128 (.agg (.pair (.at au (t,.map (some m))) (.eq z.1)))]++ek 23 z l1)) List.perm_append_comm) ?_
 refine ka (an rfl fX (xf) rfl) ?_
 refine cd (qX 9 rfl fun _ _ _ h=>F5 h) ?_
 refine vQ (vs:=[bP y,NQ x]) [.tmp 8,.tmp 9] rfl rfl rfl rfl rfl ⟨rfl,rfl,trivial⟩ ?_
 refine ar ?_
 refine ae ?_
 refine bz (fK (Δ':=([.obj y 128 (.agg (.pair (.at au (t,.map (some m))) (.eq z.1)))]++ek 23 z l1)++[.obj b3 131 (.rep eh x)]) (List.perm_append_comm (l₁:=([.obj b3 131 (.rep eh x)]:List D)))) ?_
 show JC _ _ _ _ _
 refine ah ?_
 refine Bt (L:=_++_) (Δ:=[_]) (Γ1:=[(0,.at Ho ((t,.map (some m)),l1))]) (Z:=Unit) (fun _=>[(4,.eq (.bool (!t6 e)))]) (fun _=>[.obj b3 131 (.rep eh x)]) (fun S w a hl hk=>xu hl hk rfl) (fun _=>⟨Ju rfl,KP rfl⟩) (fun S w=>?_) (fun _=>?_)
 ·
  refine cu ?_;refine dm ?_;refine da (dc rfl) ?_;refine da (aI 1 false rfl NP rfl) ?_;refine da (ao (t:=.ptr au) rfl Eb rfl) ?_;refine da (dc rfl) ?_;refine da (aI 3 true rfl KJ rfl) ?_;refine da (ao (t:=aD) rfl Ea rfl) ?_;refine dm ?_;refine da (dc rfl) ?_;refine da (aI 1 false rfl sP rfl) ?_;refine da (ao (t:=.slice (.slice (.int .i64))) rfl nh rfl) ?_;refine sj (by kernel_rfl) pJ ?_;refine jb (ap [.tmp 16,.tmp 20] rfl rfl NU rfl cv) ?_;refine jb (qz rfl Qv he) ?_;refine aq (ar ?_);exact fun a w st=>⟨rfl,(),(SE.fin (Γ':=[(4,.eq (.bool (!t6 e)))]) [0] ⟨rfl,trivial⟩ rfl) a w st⟩
 ·
  refine tn (aA (Bq (Δ1:=[.obj y 128 (.agg (.pair (.at au (t,.map (some m))) (.eq z.1)))]++ek 23 z l1) (F:=[.obj b3 131 (.rep eh x)]) wL (ly k x l1 l2 y (t,.map (some m)) z e3 _) xw (fun _=>?_)));refine bz (fK (Δ':=[.obj b3 131 (.rep eh x)]++([.obj y 128 (.agg (.pair (.at au (t,.map (some m))) (.eq z.1)))]++ek 23 z l2)) List.perm_append_comm) ?_;refine bz (aV (pre':=[.obj y 128 (.agg (.pair (.at au (t,.map (some m))) (.eq z.1)))]) (Γ':=[(4,.eq (.bool (!t6 e)))]) [.obj b3 131 (.rep eh x),.obj y 128 (.agg (.pair (.at au (t,.map (some m))) (.eq z.1)))] (ek 23 z l2) [1] ⟨rfl,trivial⟩ rfl) ?_;exact ii () [_] ⟨rfl,trivial⟩ rfl
def lR(k:Nat)(t:bj)(x:Int×Int)(ls:List (List Int)):Option (Int×List (List Int)):=
 (ma k x ls).bind fun l1=>(eS k l1).bind fun ld=>(cV k t ld).bind fun n=>(ma k x l1).bind fun l2=>some (n,l2)
theorem ri(k:Nat)(t:bj)(x:Int×Int)(ls:List (List Int))(r:Int×List (List Int))(y m:Nat)(z:Value×(Nat→Value))(h:lR k t x ls=some r):
 cS (iw Tryz.prog) 100 [.eq (bP y),.rep eh x] ([.inv m (bF k t)]++([.obj y 128 (.agg (.pair (.at au (t,.map (some m))) (.eq z.1)))]++ek 23 z ls)) (fun _:Unit=>(bp [I r.1],[.inv m (bF k t)]++([.obj y 128 (.agg (.pair (.at au (t,.map (some m))) (.eq z.1)))]++ek 23 z r.2))):=by
 unfold lR at h
 replace h:=a9 h
 obtain⟨l1,e1,h⟩:=aa h
 obtain⟨ld,e2,h⟩:=aa h
 obtain⟨n,e2',h⟩:=aa h
 obtain⟨l2,e3,h⟩:=aa h
 cases h
 have cv:=eu k l1 ld e2
 have cl:=iY k t m ld n e2'
 refine zh 20 Tryz.func100 rfl Tryz.ntmps100 rfl fun S w0=>?_
 refine sr ?_
 refine bx fun b3=>?_
 refine cq ?_
 refine nt ?_
 refine sr ?_
 refine mq ?_
 refine ka (an rfl fX (xf) rfl) ?_
 refine cd (fK (Δ':=([.obj y 128 (.agg (.pair (.at au (t,.map (some m))) (.eq z.1)))]++ek 23 z ls)++[.obj b3 131 (.rep eh x),.inv m (bF k t)]) (List.perm_append_comm (l₁:=([.obj b3 131 (.rep eh x),.inv m (bF k t)]:List D)))) ?_
 refine bH (Δ:=_++_) (F:=[_,_]) (fun _ _ _=>av rfl _) rfl rfl (ap [.tmp 5,.tmp 6] rfl rfl wL rfl (ly k x ls l1 y (t,.map (some m)) z e1)) ⟨rfl,rfl,trivial⟩ fun _=>?_
 refine nt ?_
 refine sr ?_
 refine mq ?_
 refine cd (fK (Δ':=[.obj b3 131 (.rep eh x),.inv m (bF k t)]++([.obj y 128 (.agg (.pair (.at au (t,.map (some m))) (.eq z.1)))]++ek 23 z l1)) List.perm_append_comm) ?_
 refine ka (an rfl fX (xf) rfl) ?_
 refine cd (qX 9 rfl fun _ _ _ h=>F5 h) ?_
 refine vQ (vs:=[bP y,NQ x]) [.tmp 8,.tmp 9] rfl rfl rfl rfl rfl ⟨rfl,rfl,trivial⟩ ?_
 refine ar ?_
 refine ae ?_
 refine bz (fK (Δ':=([.obj y 128 (.agg (.pair (.at au (t,.map (some m))) (.eq z.1)))]++ek 23 z l1)++[.obj b3 131 (.rep eh x),.inv m (bF k t)]) (List.perm_append_comm (l₁:=([.obj b3 131 (.rep eh x),.inv m (bF k t)]:List D)))) ?_
 show JC _ _ _ _ _
 refine ah ?_
 refine Bt (L:=_++_) (Δ:=[_,_]) (Γ1:=[(0,.at Ho ((t,.map (some m)),l1))]) (Z:=Unit) (fun _=>[(4,I n)]) (fun _=>[.obj b3 131 (.rep eh x),.inv m (bF k t)]) (fun S w a hl hk=>xu hl hk rfl) (fun _=>⟨Ju rfl,It rfl rfl⟩) (fun S w=>?_) (fun _=>?_)
 ·
  refine cu ?_;refine dm ?_;refine da (dc rfl) ?_;refine da (aI 1 false rfl NP rfl) ?_;refine da (ao (t:=.ptr au) rfl Eb rfl) ?_;refine dm ?_;refine da (dc rfl) ?_;refine da (aI 1 false rfl sP rfl) ?_;refine da (ao (t:=.slice (.slice (.int .i64))) rfl nh rfl) ?_;refine da (ap [.tmp 17] rfl rfl NV rfl cv) ?_;refine sj (by kernel_rfl) pJ ?_;refine fr 1 ?_;refine kb (fy [.tmp 13,.tmp 18] rfl rfl KU rfl cl) ?_;refine aq (ar ?_);exact fun a w st=>⟨rfl,(),(SE.fin (Γ':=[(4,I n)]) [1,0] ⟨rfl,trivial⟩ rfl) a w st⟩
 ·
  refine tn (aA (Bq (Δ1:=[.obj y 128 (.agg (.pair (.at au (t,.map (some m))) (.eq z.1)))]++ek 23 z l1) (F:=[.obj b3 131 (.rep eh x),.inv m (bF k t)]) wL (ly k x l1 l2 y (t,.map (some m)) z e3 _) xw (fun _=>?_)));refine bz (fK (Δ':=[.obj b3 131 (.rep eh x),.inv m (bF k t)]++([.obj y 128 (.agg (.pair (.at au (t,.map (some m))) (.eq z.1)))]++ek 23 z l2)) List.perm_append_comm) ?_;refine bz (aV (pre':=[.inv m (bF k t),.obj y 128 (.agg (.pair (.at au (t,.map (some m))) (.eq z.1)))]) (Γ':=[(4,I n)]) [.obj b3 131 (.rep eh x),.inv m (bF k t),.obj y 128 (.agg (.pair (.at au (t,.map (some m))) (.eq z.1)))] (ek 23 z l2) [1,2] ⟨rfl,trivial⟩ rfl) ?_;exact ii () [_] ⟨rfl,trivial⟩ rfl
theorem q8:∀w,(zeroValue 131).run Tryz.prog w= .ok (.agg #[.int .i64 0,.int .i64 0]) w:=fun w=>by kernel_rfl
theorem ug:∀S w,(A.cells S w (.rep eh (0,0)) (Value.cells (.agg #[.int .i64 0,.int .i64 0])).toList):=fun _ _=>⟨[_],[_],rfl,rfl,rfl⟩
theorem KV:ag Tryz.prog 100:=ag.of Tryz.func100 (by kernel_rfl) (by kernel_rfl)
abbrev JE:=Int×(Int×Int)×Int×Bool×List (List Int)
def gh(k:Nat)(t:bj)(xs:List (Int×Int)):Nat→JE→Option ((Int×Int)×Int×Bool×List (List Int))
 |0,_=>none
 |n+1,q=>if q.1 < (xs.length:Int) then((bb xs q.1).bind fun x=>(lR k t x q.2.2.2.2).bind fun r=>(ck (q.1+1)).bind fun w=>gh k t xs n (if(!q.2.2.2.1 || decide (r.1 < q.2.2.1))=true then(w,x,r.1,true,r.2) else(w,q.2.1,q.2.2.1,q.2.2.2.1,r.2))) else some q.2
def kM(k:Nat)(t:bj)(xs:List (Int×Int))(ls:List (List Int)):Option ((Int×Int)×Int×Bool×List (List Int)):=gh k t xs k (0,(0,0),0,false,ls)
theorem uC(k:Nat)(t:bj)(xs:List (Int×Int))(ls:List (List Int))(r:(Int×Int)×Int×Bool×List (List Int))(y m:Nat)(z:Value×(Nat→Value))(h:kM k t xs ls=some r):
 cS (iw Tryz.prog) 99 [.eq (.func (.func 100) #[bP y] #[]),Rs eh xs] ([.inv m (bF k t),.obj y 128 (.agg (.pair (.at au (t,.map (some m))) (.eq z.1)))]++ek 23 z ls) (fun _:Unit=>(bp [.rep eh r.1,I r.2.1,.eq (.bool r.2.2.1)],[.inv m (bF k t),.obj y 128 (.agg (.pair (.at au (t,.map (some m))) (.eq z.1)))]++ek 23 z r.2.2.2)):=by
 unfold kM at h
 replace h:=a9 h
 refine cS.of 35 Tryz.func99 rfl Tryz.ntmps99 rfl fun S w0=>?_
 refine sr ?_
 refine aH rfl rfl rfl (bJ rfl q8 ug) trivial fun b4=>?_
 refine cq ?_
 refine cq ?_
 refine nt ?_
 refine sr ?_
 refine aH rfl rfl rfl (bJ rfl q8 ug) trivial fun b7=>?_
 refine nt ?_
 refine sr ?_
 refine cq ?_
 refine cq ?_
 refine nt ?_
 refine ah ?_
 refine sr ?_
 refine mq ?_
 refine ol LC ?_
 refine dX rfl ?_
 refine nt ?_
 refine aj ?_
 refine aL (Z:=Unit) (α:=JE) (fun _ q=>[(0,.eq (.func (.func 100) #[bP y] #[])),(4,.eq (bP b4)),(7,.eq (bP b7)),(8,I q.2.2.1),(9,.eq (.bool q.2.2.2.1)),(13,Rs eh xs),(14,I (xs.length:Int)),(15,I q.1)]) (fun _ q=>[.obj b7 131 (.rep eh q.2.1),.obj b4 131 (.rep eh (0,0)),.inv m (bF k t),.obj y 128 (.agg (.pair (.at au (t,.map (some m))) (.eq z.1)))]++ek 23 z q.2.2.2.2) (gh k t xs) k () (0,(0,0),0,false,ls) (fun _=>rfl) h (aV [.obj b7 131 (.rep eh (0,0)),.obj b4 131 (.rep eh (0,0)),.inv m (bF k t),.obj y 128 (.agg (.pair (.at au (t,.map (some m))) (.eq z.1)))] (ek 23 z ls) [0,1,2,3] ⟨rfl,rfl,rfl,rfl,rfl,rfl,rfl,rfl,trivial⟩ rfl) (fun n u q h=>?_)
 unfold gh at h
 obtain⟨q1,q2,q3,q4,q5⟩:=q
 refine sr ?_
 refine jb (bG rfl) ?_
 refine nt ?_
 refine ah ?_
 refine bm rfl (fun hb=>?_) (fun hb=>?_)
 ·
  replace h:=cC (nr hb) h;obtain⟨x,ex,h⟩:=aa h;obtain⟨r1,e,h⟩:=aa h;obtain⟨w,ew,h⟩:=aa h;have cl:=ri k t x q5 r1 y m z e;refine sk (ah (aj (sr (jb (aN (t:=eh) rfl LC fX ex) ?_))));refine ja (ao (t:=eh) rfl fX rfl) ?_;refine aH rfl rfl rfl (bJ rfl q8 ug) trivial fun c=>?_;refine be rfl rfl (a8 rfl fX rfl rfl rfl) ⟨rfl,rfl,trivial⟩ ?_;refine nt (sr (mq ?_));refine ka (an rfl fX (xf) rfl) ?_;refine cd (fK (Δ':=([.inv m (bF k t)]++([.obj y 128 (.agg (.pair (.at au (t,.map (some m))) (.eq z.1)))]++ek 23 z q5))++[.obj c 131 (.rep eh x),.obj b7 131 (.rep eh q2),.obj b4 131 (.rep eh (0,0))]) (List.perm_append_comm (l₁:=([.obj c 131 (.rep eh x),.obj b7 131 (.rep eh q2),.obj b4 131 (.rep eh (0,0))]:List D)))) ?_;refine bH (Δ:=_++_) (F:=[_,_,_]) (fun _ _ _=>av rfl _) rfl rfl (nJ (fs:=[bP y]) (cs:=[]) (ags:=[.rep eh x]) [.tmp 20] rfl rfl KV rfl cl) ⟨rfl,rfl,trivial⟩ fun _=>?_;refine aq ?_;refine cd (fK (Δ':=[.obj c 131 (.rep eh x),.obj b7 131 (.rep eh q2),.obj b4 131 (.rep eh (0,0))]++([.inv m (bF k t)]++([.obj y 128 (.agg (.pair (.at au (t,.map (some m))) (.eq z.1)))]++ek 23 z r1.2))) List.perm_append_comm) ?_;refine nt ?_;cases q4 with
  |false=>
   refine sr (mq ?_);refine ja (eK rfl) ?_;refine mq ?_;iterate 3 refine gn ?_
   refine pt (nt ?_);refine bm rfl (fun hb=>?_) (fun hb=>(by cases hb));refine ab (ka (an rfl fX (xf) rfl) ?_);refine mq ?_;refine fr 1 ?_;refine be rfl rfl (a8 rfl fX rfl rfl rfl) ⟨rfl,rfl,trivial⟩ ?_;refine aq ?_;refine cq (ar (aK (tn (ab ?_))));refine jb (bi rfl ew) ?_;refine mq (nl ?_);exact gw ((),(w,x,r1.1,true,r1.2)) h (aV [.obj b7 131 (.rep eh x),.obj c 131 (.rep eh x),.obj b4 131 (.rep eh (0,0)),.inv m (bF k t),.obj y 128 (.agg (.pair (.at au (t,.map (some m))) (.eq z.1)))] (ek 23 z r1.2) [0,2,3,4] ⟨rfl,rfl,rfl,rfl,rfl,rfl,rfl,rfl,trivial⟩ rfl)
  |true=>
   refine sr (mq ?_);refine ja (eK rfl) ?_;refine mq ?_;refine gm ?_;refine gm ?_;refine gb (bG rfl) ?_;refine pf (nt ?_);refine bm rfl (fun hb=>?_) (fun hb=>?_)
   ·replace h:(gh k t xs n (w,x,r1.1,true,r1.2)).bind some=some r:=by
     have hd:r1.1 < q3:=of_decide_eq_true hb;simpa [hd] using h
    refine ab (ka (an rfl fX (xf) rfl) ?_);refine mq ?_;refine fr 1 ?_;refine be rfl rfl (a8 rfl fX rfl rfl rfl) ⟨rfl,rfl,trivial⟩ ?_;refine aq ?_;refine cq (ar (aK (tn (ab ?_))));refine jb (bi rfl ew) ?_;refine mq (nl ?_);exact gw ((),(w,x,r1.1,true,r1.2)) h (aV [.obj b7 131 (.rep eh x),.obj c 131 (.rep eh x),.obj b4 131 (.rep eh (0,0)),.inv m (bF k t),.obj y 128 (.agg (.pair (.at au (t,.map (some m))) (.eq z.1)))] (ek 23 z r1.2) [0,2,3,4] ⟨rfl,rfl,rfl,rfl,rfl,rfl,rfl,rfl,trivial⟩ rfl)
   ·replace h:(gh k t xs n (w,q2,q3,true,r1.2)).bind some=some r:=by
     have hd:¬r1.1 < q3:=of_decide_eq_false hb;simpa [hd] using h
    refine aS (aK (tn (ab (jb (bi rfl ew) ?_))));refine mq (nl ?_);exact gw ((),(w,q2,q3,true,r1.2)) h (aV [.obj c 131 (.rep eh x),.obj b7 131 (.rep eh q2),.obj b4 131 (.rep eh (0,0)),.inv m (bF k t),.obj y 128 (.agg (.pair (.at au (t,.map (some m))) (.eq z.1)))] (ek 23 z r1.2) [1,2,3,4] ⟨rfl,rfl,rfl,rfl,rfl,rfl,rfl,rfl,trivial⟩ rfl)
 replace h:=bL (m6 hb) h
 refine dt ?_
 refine aP ?_
 refine aP ?_
 refine bQ ?_
 refine tn ?_
 cases h
 refine sr ?_
 refine ka (an rfl fX (xf) rfl) ?_
 iterate 2 refine mq ?_
 refine fr 1 ?_
 refine be rfl rfl (a8 rfl fX rfl rfl rfl) ⟨rfl,rfl,trivial⟩ ?_
 refine aq ?_
 refine aq ?_
 refine nt ?_
 refine aA ?_
 refine bz (fK (Δ':=([.inv m (bF k t),.obj y 128 (.agg (.pair (.at au (t,.map (some m))) (.eq z.1)))]++ek 23 z q5)++[.obj b4 131 (.rep eh q2),.obj b7 131 (.rep eh q2)]) (List.perm_append_comm (l₁:=([.obj b4 131 (.rep eh q2),.obj b7 131 (.rep eh q2)]:List D)))) ?_
 exact aF () [_,_,_] ([.inv m (bF k t),.obj y 128 (.agg (.pair (.at au (t,.map (some m))) (.eq z.1)))]++ek 23 z q5:List D).length ⟨⟨b4,131,.rep eh q2,2,true,rfl,List.mem_append.2 (.inr (List.mem_cons_self ..)),fX,xf,rfl⟩,rfl,rfl,trivial⟩ (by rw [List.take_left])
theorem pm:ag Tryz.prog 97:=ag.of Tryz.func97 (by kernel_rfl) (by kernel_rfl)
theorem NX:ag Tryz.prog 48:=ag.of Tryz.func48 (by kernel_rfl) (by kernel_rfl)
theorem NW:ag Tryz.prog 84:=ag.of Tryz.func84 (by kernel_rfl) (by kernel_rfl)
theorem NT:ag Tryz.prog 98:=ag.of Tryz.func98 (by kernel_rfl) (by kernel_rfl)
theorem NS:ag Tryz.prog 99:=ag.of Tryz.func99 (by kernel_rfl) (by kernel_rfl)
theorem Jd:dj Tryz.prog 22 1 false:=⟨fun w=>by kernel_rfl,fun w=>by kernel_rfl⟩
theorem Jt:aQ Tryz.prog 25 1 1:=aQ.of (by kernel_rfl)
theorem ni:lW Tryz.prog 28 23 1 24:=.of (z:=(.slice none 0 0)) mH (by kernel_rfl) rfl rfl rfl
theorem Ee:lW Tryz.prog 129 131 2 16:=.of (z:=(.agg #[.int .i64 0,.int .i64 0])) LC (by kernel_rfl) rfl rfl rfl
theorem J3:xc Tryz.prog 128 #[(0,1),(1,1)]:=⟨_,Qs,fun _=>by kernel_rfl⟩
theorem JK:∀w,(zeroValue 128).run Tryz.prog w= .ok (.agg #[.pointer none,.slice none 0 0]) w:=fun w=>by kernel_rfl
theorem Ls:∀S w,(A.cells S w (.pair (.eq (.pointer none)) (.eq (.slice none 0 0))) (Value.cells (.agg #[.pointer none,.slice none 0 0])).toList):=fun _ _=>⟨[_],_,rfl,⟨rfl,rfl⟩,rfl,rfl⟩
theorem J2:xc Tryz.prog 131 #[(0,1),(1,1)]:=⟨_,Qq,fun _=>by kernel_rfl⟩
theorem IO:∀S w,(A.cells S w (.pair (I 0) (I 0)) (Value.cells (.agg #[.int .i64 0,.int .i64 0])).toList):=fun _ _=>⟨[_],_,rfl,⟨rfl,rfl⟩,rfl,rfl⟩
def eI:List Bool→Ga→Ga
 |true::l,e::g=>e::eI l g
 |false::l,_::g=>eI l g
 |_,_=>[]
def lB(y:Nat)(z1:Value)(l:List Int)(v v2:Value):Ga:=[(39,.eq (bP y)),(40,.eq (bP y)),(41,.eq (bP y)),(42,.eq (.pointer (some ⟨y,0+1,none⟩))),(43,.eq z1),(44,Ri l),(45,.eq v),(46,.rep (.slice .val) [v]),(47,.eq v2),(48,.eq (bP y)),(49,.eq (.pointer (some ⟨y,0+1,none⟩)))]
def kP(b2 y:Nat)(n i:Int)(l:List Int)(a1:List (List Int)):Ga:=[(2,.eq (bP b2)),(8,I n),(10,.eq (bP y)),(12,Ri l),(33,.rep (.slice (.slice (.int .i64))) a1),(34,I (a1.length:Int)),(35,I i)]
theorem OP{i j:Int}:AE (.agg (.pair (I i) (I j))) (.rep eh (i,j)):=fun S w cs h=>by
 obtain⟨c1,c2,e,h1,h2⟩:=h
 exact⟨c1,c2,e,h1.1,h2.1⟩
def lA(k:Nat)(a1:List (List Int)):Nat→Int×List (List Int)→Option (List (List Int))
 |0,_=>none
 |n+1,q=>if q.1 < (a1.length:Int) then((bb a1 q.1).bind fun l=>(jL k l).bind fun l2=>if bO (q.2.length+1) then(ck (q.1+1)).bind fun w=>lA k a1 n (w,q.2++[l2]) else none) else some q.2
def jP(k:Nat)(t:bj)(i:Int):Nat→Int×List (Int×Int)×List (List Int)→Option (List (Int×Int)×List (List Int))
 |0,_=>none
 |n+1,q=>if q.1 < (t.2.1.length:Int) then((lQ k t (i,q.1) q.2.2).bind fun r=>if r.1=true then(if bO (q.2.1.length+1) then(ck (q.1+1)).bind fun w=>jP k t i n (w,q.2.1++[(i,q.1)],r.2) else none) else(ck (q.1+1)).bind fun w=>jP k t i n (w,q.2.1,r.2)) else some q.2
def iP(k:Nat)(t:bj):Nat→Int×List (Int×Int)×List (List Int)→Option (List (Int×Int)×List (List Int))
 |0,_=>none
 |n+1,q=>if q.1 < (t.2.1.length:Int) then((ck (q.1+1)).bind fun w=>(jP k t q.1 k (w,q.2)).bind fun p=>iP k t n (w,p)) else some q.2
def tg(k:Nat)(a0:bj)(a1:(List (List Int))):Option (Int×Int×Int×Int):=
 (ow k a0 a1).bind fun L=>if¬(L.2=0) then some (0,0,0,L.2) else
 (lA k a1 k (0,[])).bind fun ls=>(iP k a0 k (0,[],ls)).bind fun p=>(kM k a0 p.1 p.2).bind fun b=>
 if(!b.2.2.1 || decide (L.1≤b.2.1))=true then some (0,0,0,11) else some (b.1.1,b.1.2,b.2.1,0)
theorem xz(k:Nat)(a0:bj)(a1:(List (List Int)))(r:Int×Int×Int×Int)(h:tg k a0 a1=some r):
 cS (iw Tryz.prog) 40 [.rep aD a0,.rep (.slice (.slice (.int .i64))) a1] [.inv 0 fP] (fun _:Unit=>(bp [.eq (.int .i64 r.1),.eq (.int .i64 r.2.1),.eq (.int .i64 r.2.2.1),.eq (.int .i64 r.2.2.2)],[.inv 0 fP])):=by
 unfold tg at h
 replace h:=a9 h
 refine cS.of 97 Tryz.func40 rfl Tryz.ntmps40 rfl fun S w0=>?_
 refine ah ?_
 refine ab ?_
 refine aH rfl rfl rfl (nj rfl rfl) ⟨rfl,trivial⟩ fun b2=>?_
 refine dn rfl ?_
 refine dn rfl ?_
 refine dn rfl ?_
 refine dn rfl ?_
 refine ar ?_
 refine ae ?_
 show JC _ _ _ _ _
 obtain⟨L,eL,h⟩:=aa h
 have cL:=qh k a0 a1 L eL
 refine ah ?_
 refine ab ?_
 refine bN rfl rfl rfl (an rfl Ea (xf) rfl) ⟨rfl,trivial⟩ ?_
 refine ax rfl rfl ?_
 refine bv 1 rfl ?_
 refine bN rfl rfl rfl (fy [.tmp 21,.tmp 22] rfl rfl NX rfl cL) ⟨rfl,rfl,trivial⟩ ?_
 refine ax rfl rfl ?_
 refine aB rfl (gj rfl rfl) ⟨rfl,trivial⟩ ?_
 refine aB rfl (gj rfl rfl) ⟨rfl,trivial⟩ ?_
 refine cU rfl rfl ?_
 refine cU rfl rfl ?_
 refine ar ?_
 refine ae ?_
 show JC _ _ _ _ _
 refine ah ?_
 refine ah ?_
 refine ab ?_
 refine ax rfl rfl ?_
 refine aB rfl (ip rfl) ⟨rfl,rfl,trivial⟩ ?_
 refine ar ?_
 refine ae ?_
 show JC _ _ _ _ _
 refine bm rfl (fun hb=>?_) (fun hb=>?_)
 ·
  replace h:=cC (LR hb) h
  refine ah ?_
  refine ab ?_
  refine ax rfl rfl ?_
  refine dn rfl ?_
  refine dn rfl ?_
  refine dn rfl ?_
  refine cU rfl rfl ?_
  refine ar ?_
  refine ae ?_
  show JC _ _ _ _ _
  refine aA ?_
  refine aM ?_
  obtain rfl:=Option.some.inj h
  exact aF () [_,_,_,_] 1 ⟨rfl,rfl,rfl,rfl,trivial⟩ rfl
 replace h:=bL (CN hb) h
 refine aS ?_
 refine ae ?_
 show JC _ _ _ _ _
 rw [Option.bind_assoc] at h
 refine ah ?_
 refine ab ?_
 refine bv 1 rfl ?_
 refine bN rfl rfl rfl (an rfl Ea (xf) rfl) ⟨rfl,trivial⟩ ?_
 refine aH rfl rfl rfl (ap [.tmp 29] rfl rfl NW rfl (gR a0)) ⟨rfl,trivial⟩ fun m=>?_
 refine cd (kG (bF k a0) my) ?_
 refine aB rfl (de [(0,.tmp 30,_)] rfl J3 JK Ls (jd ⟨trivial,trivial⟩) rfl) ⟨rfl,trivial⟩ ?_
 refine aH rfl rfl rfl (nj rfl trivial) ⟨rfl,trivial⟩ fun y=>?_
 refine cU rfl rfl ?_
 refine ar ?_
 refine ae ?_
 show JC _ _ _ _ _
 refine ah ?_
 refine ah ?_
 refine ab ?_
 refine ax rfl rfl ?_
 refine aB rfl (mm rfl rfl mH) ⟨rfl,trivial⟩ ?_
 refine dX rfl ?_
 refine cd (SE.nil 23 .val) ?_
 refine cd (fK (Δ':=[.obj y 128 (.agg (.pair (.at au (a0,.map (some m))) (.eq (.slice none 0 0)))),.inv m (bF k a0),.obj b2 25 (.rep aD a0),.inv 0 fP]++ek 23 (.slice none 0 0,fun _=>undef) []) (List.Perm.trans (List.perm_append_comm (l₁:=([.sl (.slice none 0 0) 23 .val []]:List D))) (List.Perm.refl _))) ?_
 refine ar ?_
 refine ae ?_
 show JC _ _ _ _ _
 refine aj ?_
 refine aL (Z:=Value×(Nat→Value)) (α:=Int×List (List Int)) (fun z q=>[(2,.eq (bP b2)),(8,.eq (.int .i64 L.1)),(10,.eq (bP y)),(33,.rep (.slice (.slice (.int .i64))) a1),(34,.eq (.int .i64 (a1.length:Int))),(35,.eq (.int .i64 q.1))]) (fun z q=>[.obj y 128 (.agg (.pair (.at au (a0,.map (some m))) (.eq z.1))),.inv m (bF k a0),.obj b2 25 (.rep aD a0),.inv 0 fP]++ek 23 z q.2) (lA k a1) k (.slice none 0 0,fun _=>undef) (0,[]) (fun _=>rfl) h (aV [.obj y 128 (.agg (.pair (.at au (a0,.map (some m))) (.eq (.slice none 0 0)))),.inv m (bF k a0),.obj b2 25 (.rep aD a0),.inv 0 fP] (ek 23 (.slice none 0 0,fun _=>undef) []) [0,1,2,3] ⟨rfl,rfl,rfl,rfl,rfl,rfl,trivial⟩ rfl) (fun n z q h=>?_)
 unfold lA at h
 refine ah ?_
 refine ab ?_
 refine aB rfl (bG rfl) ⟨rfl,rfl,trivial⟩ ?_
 refine ar ?_
 refine ae ?_
 show JC _ _ _ _ _
 refine ah ?_
 refine bm rfl (fun hb=>?_) (fun hb=>?_)
 ·
  replace h:=cC (nr hb) h
  obtain⟨q1,q2⟩:=q
  obtain⟨l,el,h⟩:=aa h
  obtain⟨l2,el2,h⟩:=aa h
  have hk:bO (q2.length+1):=by
   apply Classical.byContradiction
   intro hn
   rw [if_neg hn] at h
   cases h
  replace h:=cC hk h
  have cc:=mi k l l2 el2
  refine aS ?_
  refine ae ?_
  show JC _ _ _ _ _
  refine ah ?_
  refine aj ?_
  refine ah ?_
  refine ab ?_
  refine aB rfl (aN (t:=.slice (.int .i64)) rfl mH AL el) ⟨rfl,rfl,trivial⟩ ?_
  refine aB rfl (ao (t:=.slice (.int .i64)) rfl AL rfl) ⟨rfl,trivial⟩ ?_
  refine cU rfl rfl ?_
  refine ar ?_
  refine ae ?_
  show JC _ _ _ _ _
  refine fN (wU (pre:=[.obj y 128 (.agg (.pair (.at au (a0,.map (some m))) (.eq z.1))),.inv m (bF k a0),.obj b2 25 (.rep aD a0),.inv 0 fP])) ?_
  refine iy 1 rfl ?_
  refine fN (SE.sub (Γ':=kP b2 y L.1 q1 l a1) ⟨rfl,rfl,rfl,rfl,rfl,rfl,rfl,trivial⟩) ?_
  generalize hB:kP b2 y L.1 q1 l a1=B
  refine uv (Δ:=[.obj y 128 (.agg (.pair (.at au (a0,.map (some m))) (.eq z.1))),.sl z.1 23 .val (dY z.2 0 q2)]) (F:=[.inv m (bF k a0),.obj b2 25 (.rep aD a0),.inv 0 fP]++kD z.2 0 q2) (Z:=Value×Value) (fun p=>B) (fun p=>[.obj y 128 (.agg (.pair (.at au (a0,.map (some m))) (.eq p.2))),.sl p.2 23 .val (dY z.2 0 q2++[p.1]),.sl p.1 3 (.int .i64) l2]) (fun S w=>?_) (fun p=>?_)
  ·
   subst hB
   refine GY (I:=Value×Value) (Ge:=fun _=>kP b2 y L.1 q1 l a1) (De:=fun p=>[.obj y 128 (.agg (.pair (.at au (a0,.map (some m))) (.eq p.2))),.sl p.2 23 .val (dY z.2 0 q2++[p.1]),.sl p.1 3 (.int .i64) l2]) (L:=[true,true,true,true,true,true,true,true,true,true,true,true]) pJ rfl (fun J hJ hE=>?_) (by kernel_rfl) (fun p=>?_)
   ·
    have s2047:∀(v v2:Value),J 1 [true,true,true,true,true,true,true,true,true,true,true,false] (eI [true,true,true,true,true,true,true,true,true,true,true,false] (lB y z.1 l v v2)++kP b2 y L.1 q1 l a1) [.obj y 128 (.agg (.pair (.at au (a0,.map (some m))) (.eq z.1))),.sl v2 23 .val (dY z.2 0 q2++[v]),.sl v 3 (.int .i64) l2]:=fun v v2=>by
     subst hJ
     refine JD.step [11] (by kernel_rfl) rfl ?_
     refine eE.cons rfl ?_ ?_
     ·
      refine bv 1 rfl ?_
      refine fM fun hv=>?_
      refine bv 1 rfl ?_
      refine be rfl rfl (a8 rfl nh hv rfl rfl) ⟨rfl,rfl,trivial⟩ ?_
      exact aY (hE (v,v2)) [0,1,2] ⟨rfl,rfl,rfl,rfl,rfl,rfl,rfl,trivial⟩
     exact trivial
    have s1023:∀(v v2:Value),J 2 [true,true,true,true,true,true,true,true,true,true,false,false] (eI [true,true,true,true,true,true,true,true,true,true,false,false] (lB y z.1 l v v2)++kP b2 y L.1 q1 l a1) [.obj y 128 (.agg (.pair (.at au (a0,.map (some m))) (.eq z.1))),.sl v2 23 .val (dY z.2 0 q2++[v]),.sl v 3 (.int .i64) l2]:=fun v v2=>by
     subst hJ
     refine JD.step [10] (by kernel_rfl) rfl ?_
     refine eE.cons rfl ?_ ?_
     ·
      refine aB rfl (aw rfl sP) ⟨rfl,trivial⟩ ?_
      exact aY (s2047 v v2) [0,1,2] ⟨rfl,rfl,rfl,rfl,rfl,rfl,rfl,rfl,rfl,rfl,rfl,rfl,rfl,rfl,rfl,rfl,rfl,rfl,trivial⟩
     exact trivial
    have s511:∀(v v2:Value),J 3 [true,true,true,true,true,true,true,true,true,false,false,false] (eI [true,true,true,true,true,true,true,true,true,false,false,false] (lB y z.1 l v v2)++kP b2 y L.1 q1 l a1) [.obj y 128 (.agg (.pair (.at au (a0,.map (some m))) (.eq z.1))),.sl v2 23 .val (dY z.2 0 q2++[v]),.sl v 3 (.int .i64) l2]:=fun v v2=>by
     subst hJ
     refine JD.step [9] (by kernel_rfl) rfl ?_
     refine eE.cons rfl ?_ ?_
     ·
      refine aB rfl (aR rfl) ⟨rfl,trivial⟩ ?_
      exact aY (s1023 v v2) [0,1,2] ⟨rfl,rfl,rfl,rfl,rfl,rfl,rfl,rfl,rfl,rfl,rfl,rfl,rfl,rfl,rfl,rfl,rfl,trivial⟩
     exact trivial
    have s255:∀(v:Value),J 4 [true,true,true,true,true,true,true,true,false,false,false,false] (eI [true,true,true,true,true,true,true,true,false,false,false,false] (lB y z.1 l v undef)++kP b2 y L.1 q1 l a1) [.obj y 128 (.agg (.pair (.at au (a0,.map (some m))) (.eq z.1))),.sl z.1 23 .val (dY z.2 0 q2),.sl v 3 (.int .i64) l2]:=fun v=>by
     subst hJ
     refine JD.step [8] (by kernel_rfl) rfl ?_
     refine eE.cons rfl ?_ ?_
     ·
      refine bv 1 rfl ?_
      refine dI rfl rfl rfl (bY rfl rfl ni (by simpa [fu] using hk)) ⟨rfl,rfl,trivial⟩ fun v2=>?_
      exact aY (s511 v v2) [1,0,2] ⟨rfl,rfl,rfl,rfl,rfl,rfl,rfl,rfl,rfl,rfl,rfl,rfl,rfl,rfl,rfl,rfl,trivial⟩
     exact trivial
    have s510:∀(v v2:Value),J 4 [false,true,true,true,true,true,true,true,true,false,false,false] (eI [false,true,true,true,true,true,true,true,true,false,false,false] (lB y z.1 l v v2)++kP b2 y L.1 q1 l a1) [.obj y 128 (.agg (.pair (.at au (a0,.map (some m))) (.eq z.1))),.sl v2 23 .val (dY z.2 0 q2++[v]),.sl v 3 (.int .i64) l2]:=fun v v2=>by
     subst hJ
     refine JD.step [0] (by kernel_rfl) rfl ?_
     refine eE.cons rfl ?_ ?_
     ·
      refine ax rfl rfl ?_
      exact aY (s511 v v2) [0,1,2] ⟨rfl,rfl,rfl,rfl,rfl,rfl,rfl,rfl,rfl,rfl,rfl,rfl,rfl,rfl,rfl,rfl,trivial⟩
     exact trivial
    have s127:∀(v:Value),J 5 [true,true,true,true,true,true,true,false,false,false,false,false] (eI [true,true,true,true,true,true,true,false,false,false,false,false] (lB y z.1 l v undef)++kP b2 y L.1 q1 l a1) [.obj y 128 (.agg (.pair (.at au (a0,.map (some m))) (.eq z.1))),.sl z.1 23 .val (dY z.2 0 q2),.sl v 3 (.int .i64) l2]:=fun v=>by
     subst hJ
     refine JD.step [7] (by kernel_rfl) rfl ?_
     refine eE.cons rfl ?_ ?_
     ·
      refine bv 2 rfl ?_
      refine fM fun hv=>?_
      refine aB rfl (bB (t:=.val) [(.tmp 45,.eq v)] [v] rfl rfl ni (.cons hv (.val hv) .nil) rfl rfl) ⟨rfl,trivial⟩ ?_
      exact aY (s255 v) [1,2,0] ⟨rfl,rfl,rfl,rfl,rfl,rfl,rfl,rfl,rfl,rfl,rfl,rfl,rfl,rfl,rfl,trivial⟩
     exact trivial
    have s239:∀(v:Value),J 5 [true,true,true,true,false,true,true,true,false,false,false,false] (eI [true,true,true,true,false,true,true,true,false,false,false,false] (lB y z.1 l v undef)++kP b2 y L.1 q1 l a1) [.obj y 128 (.agg (.pair (.at au (a0,.map (some m))) (.eq z.1))),.sl z.1 23 .val (dY z.2 0 q2),.sl v 3 (.int .i64) l2]:=fun v=>by
     subst hJ
     refine JD.step [4] (by kernel_rfl) rfl ?_
     refine eE.cons rfl ?_ ?_
     ·
      refine bN rfl rfl rfl (an rfl nh mX rfl) ⟨rfl,trivial⟩ ?_
      exact aY (s255 v) [0,1,2] ⟨rfl,rfl,rfl,rfl,rfl,rfl,rfl,rfl,rfl,rfl,rfl,rfl,rfl,rfl,rfl,trivial⟩
     exact trivial
    have s254:∀(v:Value),J 5 [false,true,true,true,true,true,true,true,false,false,false,false] (eI [false,true,true,true,true,true,true,true,false,false,false,false] (lB y z.1 l v undef)++kP b2 y L.1 q1 l a1) [.obj y 128 (.agg (.pair (.at au (a0,.map (some m))) (.eq z.1))),.sl z.1 23 .val (dY z.2 0 q2),.sl v 3 (.int .i64) l2]:=fun v=>by
     subst hJ
     refine JD.step [0,8] (by kernel_rfl) rfl ?_
     refine eE.cons rfl ?_ ?_
     ·
      refine ax rfl rfl ?_
      exact aY (s255 v) [0,1,2] ⟨rfl,rfl,rfl,rfl,rfl,rfl,rfl,rfl,rfl,rfl,rfl,rfl,rfl,rfl,rfl,trivial⟩
     refine eE.cons rfl ?_ ?_
     ·
      refine bv 1 rfl ?_
      refine dI rfl rfl rfl (bY rfl rfl ni (by simpa [fu] using hk)) ⟨rfl,rfl,trivial⟩ fun v2=>?_
      exact aY (s510 v v2) [1,0,2] ⟨rfl,rfl,rfl,rfl,rfl,rfl,rfl,rfl,rfl,rfl,rfl,rfl,rfl,rfl,rfl,trivial⟩
     exact trivial
    have s63:J 6 [true,true,true,true,true,true,false,false,false,false,false,false] (eI [true,true,true,true,true,true,false,false,false,false,false,false] (lB y z.1 l undef undef)++kP b2 y L.1 q1 l a1) [.obj y 128 (.agg (.pair (.at au (a0,.map (some m))) (.eq z.1))),.sl z.1 23 .val (dY z.2 0 q2)]:=by
     subst hJ
     refine JD.step [6] (by kernel_rfl) rfl ?_
     refine eE.cons rfl ?_ ?_
     ·
      refine aH rfl rfl rfl (ap [.tmp 44] rfl rfl pm rfl cc) ⟨rfl,trivial⟩ fun v=>?_
      exact aY (s127 v) [1,2,0] ⟨rfl,rfl,rfl,rfl,rfl,rfl,rfl,rfl,rfl,rfl,rfl,rfl,rfl,rfl,trivial⟩
     exact trivial
    have s111:∀(v:Value),J 6 [true,true,true,true,false,true,true,false,false,false,false,false] (eI [true,true,true,true,false,true,true,false,false,false,false,false] (lB y z.1 l v undef)++kP b2 y L.1 q1 l a1) [.obj y 128 (.agg (.pair (.at au (a0,.map (some m))) (.eq z.1))),.sl z.1 23 .val (dY z.2 0 q2),.sl v 3 (.int .i64) l2]:=fun v=>by
     subst hJ
     refine JD.step [4,7] (by kernel_rfl) rfl ?_
     refine eE.cons rfl ?_ ?_
     ·
      refine bN rfl rfl rfl (an rfl nh mX rfl) ⟨rfl,trivial⟩ ?_
      exact aY (s127 v) [0,1,2] ⟨rfl,rfl,rfl,rfl,rfl,rfl,rfl,rfl,rfl,rfl,rfl,rfl,rfl,rfl,trivial⟩
     refine eE.cons rfl ?_ ?_
     ·
      refine bv 2 rfl ?_
      refine fM fun hv=>?_
      refine aB rfl (bB (t:=.val) [(.tmp 45,.eq v)] [v] rfl rfl ni (.cons hv (.val hv) .nil) rfl rfl) ⟨rfl,trivial⟩ ?_
      exact aY (s239 v) [1,2,0] ⟨rfl,rfl,rfl,rfl,rfl,rfl,rfl,rfl,rfl,rfl,rfl,rfl,rfl,rfl,trivial⟩
     exact trivial
    have s126:∀(v:Value),J 6 [false,true,true,true,true,true,true,false,false,false,false,false] (eI [false,true,true,true,true,true,true,false,false,false,false,false] (lB y z.1 l v undef)++kP b2 y L.1 q1 l a1) [.obj y 128 (.agg (.pair (.at au (a0,.map (some m))) (.eq z.1))),.sl z.1 23 .val (dY z.2 0 q2),.sl v 3 (.int .i64) l2]:=fun v=>by
     subst hJ
     refine JD.step [0,7] (by kernel_rfl) rfl ?_
     refine eE.cons rfl ?_ ?_
     ·
      refine ax rfl rfl ?_
      exact aY (s127 v) [0,1,2] ⟨rfl,rfl,rfl,rfl,rfl,rfl,rfl,rfl,rfl,rfl,rfl,rfl,rfl,rfl,trivial⟩
     refine eE.cons rfl ?_ ?_
     ·
      refine bv 2 rfl ?_
      refine fM fun hv=>?_
      refine aB rfl (bB (t:=.val) [(.tmp 45,.eq v)] [v] rfl rfl ni (.cons hv (.val hv) .nil) rfl rfl) ⟨rfl,trivial⟩ ?_
      exact aY (s254 v) [1,2,0] ⟨rfl,rfl,rfl,rfl,rfl,rfl,rfl,rfl,rfl,rfl,rfl,rfl,rfl,rfl,trivial⟩
     exact trivial
    have s231:∀(v:Value),J 6 [true,true,true,false,false,true,true,true,false,false,false,false] (eI [true,true,true,false,false,true,true,true,false,false,false,false] (lB y z.1 l v undef)++kP b2 y L.1 q1 l a1) [.obj y 128 (.agg (.pair (.at au (a0,.map (some m))) (.eq z.1))),.sl z.1 23 .val (dY z.2 0 q2),.sl v 3 (.int .i64) l2]:=fun v=>by
     subst hJ
     refine JD.step [3] (by kernel_rfl) rfl ?_
     refine eE.cons rfl ?_ ?_
     ·
      refine aB rfl (aw rfl sP) ⟨rfl,trivial⟩ ?_
      exact aY (s239 v) [0,1,2] ⟨rfl,rfl,rfl,rfl,rfl,rfl,rfl,rfl,rfl,rfl,rfl,rfl,rfl,rfl,trivial⟩
     exact trivial
    have s238:∀(v:Value),J 6 [false,true,true,true,false,true,true,true,false,false,false,false] (eI [false,true,true,true,false,true,true,true,false,false,false,false] (lB y z.1 l v undef)++kP b2 y L.1 q1 l a1) [.obj y 128 (.agg (.pair (.at au (a0,.map (some m))) (.eq z.1))),.sl z.1 23 .val (dY z.2 0 q2),.sl v 3 (.int .i64) l2]:=fun v=>by
     subst hJ
     refine JD.step [0,4] (by kernel_rfl) rfl ?_
     refine eE.cons rfl ?_ ?_
     ·
      refine ax rfl rfl ?_
      exact aY (s239 v) [0,1,2] ⟨rfl,rfl,rfl,rfl,rfl,rfl,rfl,rfl,rfl,rfl,rfl,rfl,rfl,rfl,trivial⟩
     refine eE.cons rfl ?_ ?_
     ·
      refine bN rfl rfl rfl (an rfl nh mX rfl) ⟨rfl,trivial⟩ ?_
      exact aY (s254 v) [0,1,2] ⟨rfl,rfl,rfl,rfl,rfl,rfl,rfl,rfl,rfl,rfl,rfl,rfl,rfl,rfl,trivial⟩
     exact trivial
    have s31:J 7 [true,true,true,true,true,false,false,false,false,false,false,false] (eI [true,true,true,true,true,false,false,false,false,false,false,false] (lB y z.1 l undef undef)++kP b2 y L.1 q1 l a1) [.obj y 128 (.agg (.pair (.at au (a0,.map (some m))) (.eq z.1))),.sl z.1 23 .val (dY z.2 0 q2)]:=by
     subst hJ
     refine JD.step [5] (by kernel_rfl) rfl ?_
     refine eE.cons rfl ?_ ?_
     ·
      refine ax rfl rfl ?_
      exact aY (s63) [0,1] ⟨rfl,rfl,rfl,rfl,rfl,rfl,rfl,rfl,rfl,rfl,rfl,rfl,rfl,trivial⟩
     exact trivial
    have s47:J 7 [true,true,true,true,false,true,false,false,false,false,false,false] (eI [true,true,true,true,false,true,false,false,false,false,false,false] (lB y z.1 l undef undef)++kP b2 y L.1 q1 l a1) [.obj y 128 (.agg (.pair (.at au (a0,.map (some m))) (.eq z.1))),.sl z.1 23 .val (dY z.2 0 q2)]:=by
     subst hJ
     refine JD.step [4,6] (by kernel_rfl) rfl ?_
     refine eE.cons rfl ?_ ?_
     ·
      refine bN rfl rfl rfl (an rfl nh mX rfl) ⟨rfl,trivial⟩ ?_
      exact aY (s63) [0,1] ⟨rfl,rfl,rfl,rfl,rfl,rfl,rfl,rfl,rfl,rfl,rfl,rfl,rfl,trivial⟩
     refine eE.cons rfl ?_ ?_
     ·
      refine aH rfl rfl rfl (ap [.tmp 44] rfl rfl pm rfl cc) ⟨rfl,trivial⟩ fun v=>?_
      exact aY (s111 v) [1,2,0] ⟨rfl,rfl,rfl,rfl,rfl,rfl,rfl,rfl,rfl,rfl,rfl,rfl,rfl,trivial⟩
     exact trivial
    have s62:J 7 [false,true,true,true,true,true,false,false,false,false,false,false] (eI [false,true,true,true,true,true,false,false,false,false,false,false] (lB y z.1 l undef undef)++kP b2 y L.1 q1 l a1) [.obj y 128 (.agg (.pair (.at au (a0,.map (some m))) (.eq z.1))),.sl z.1 23 .val (dY z.2 0 q2)]:=by
     subst hJ
     refine JD.step [0,6] (by kernel_rfl) rfl ?_
     refine eE.cons rfl ?_ ?_
     ·
      refine ax rfl rfl ?_
      exact aY (s63) [0,1] ⟨rfl,rfl,rfl,rfl,rfl,rfl,rfl,rfl,rfl,rfl,rfl,rfl,rfl,trivial⟩
     refine eE.cons rfl ?_ ?_
     ·
      refine aH rfl rfl rfl (ap [.tmp 44] rfl rfl pm rfl cc) ⟨rfl,trivial⟩ fun v=>?_
      exact aY (s126 v) [1,2,0] ⟨rfl,rfl,rfl,rfl,rfl,rfl,rfl,rfl,rfl,rfl,rfl,rfl,rfl,trivial⟩
     exact trivial
    have s103:∀(v:Value),J 7 [true,true,true,false,false,true,true,false,false,false,false,false] (eI [true,true,true,false,false,true,true,false,false,false,false,false] (lB y z.1 l v undef)++kP b2 y L.1 q1 l a1) [.obj y 128 (.agg (.pair (.at au (a0,.map (some m))) (.eq z.1))),.sl z.1 23 .val (dY z.2 0 q2),.sl v 3 (.int .i64) l2]:=fun v=>by
     subst hJ
     refine JD.step [3,7] (by kernel_rfl) rfl ?_
     refine eE.cons rfl ?_ ?_
     ·
      refine aB rfl (aw rfl sP) ⟨rfl,trivial⟩ ?_
      exact aY (s111 v) [0,1,2] ⟨rfl,rfl,rfl,rfl,rfl,rfl,rfl,rfl,rfl,rfl,rfl,rfl,rfl,trivial⟩
     refine eE.cons rfl ?_ ?_
     ·
      refine bv 2 rfl ?_
      refine fM fun hv=>?_
      refine aB rfl (bB (t:=.val) [(.tmp 45,.eq v)] [v] rfl rfl ni (.cons hv (.val hv) .nil) rfl rfl) ⟨rfl,trivial⟩ ?_
      exact aY (s231 v) [1,2,0] ⟨rfl,rfl,rfl,rfl,rfl,rfl,rfl,rfl,rfl,rfl,rfl,rfl,rfl,trivial⟩
     exact trivial
    have s110:∀(v:Value),J 7 [false,true,true,true,false,true,true,false,false,false,false,false] (eI [false,true,true,true,false,true,true,false,false,false,false,false] (lB y z.1 l v undef)++kP b2 y L.1 q1 l a1) [.obj y 128 (.agg (.pair (.at au (a0,.map (some m))) (.eq z.1))),.sl z.1 23 .val (dY z.2 0 q2),.sl v 3 (.int .i64) l2]:=fun v=>by
     subst hJ
     refine JD.step [0,4,7] (by kernel_rfl) rfl ?_
     refine eE.cons rfl ?_ ?_
     ·
      refine ax rfl rfl ?_
      exact aY (s111 v) [0,1,2] ⟨rfl,rfl,rfl,rfl,rfl,rfl,rfl,rfl,rfl,rfl,rfl,rfl,rfl,trivial⟩
     refine eE.cons rfl ?_ ?_
     ·
      refine bN rfl rfl rfl (an rfl nh mX rfl) ⟨rfl,trivial⟩ ?_
      exact aY (s126 v) [0,1,2] ⟨rfl,rfl,rfl,rfl,rfl,rfl,rfl,rfl,rfl,rfl,rfl,rfl,rfl,trivial⟩
     refine eE.cons rfl ?_ ?_
     ·
      refine bv 2 rfl ?_
      refine fM fun hv=>?_
      refine aB rfl (bB (t:=.val) [(.tmp 45,.eq v)] [v] rfl rfl ni (.cons hv (.val hv) .nil) rfl rfl) ⟨rfl,trivial⟩ ?_
      exact aY (s238 v) [1,2,0] ⟨rfl,rfl,rfl,rfl,rfl,rfl,rfl,rfl,rfl,rfl,rfl,rfl,rfl,trivial⟩
     exact trivial
    have s227:∀(v:Value),J 7 [true,true,false,false,false,true,true,true,false,false,false,false] (eI [true,true,false,false,false,true,true,true,false,false,false,false] (lB y z.1 l v undef)++kP b2 y L.1 q1 l a1) [.obj y 128 (.agg (.pair (.at au (a0,.map (some m))) (.eq z.1))),.sl z.1 23 .val (dY z.2 0 q2),.sl v 3 (.int .i64) l2]:=fun v=>by
     subst hJ
     refine JD.step [2] (by kernel_rfl) rfl ?_
     refine eE.cons rfl ?_ ?_
     ·
      refine aB rfl (aR rfl) ⟨rfl,trivial⟩ ?_
      exact aY (s231 v) [0,1,2] ⟨rfl,rfl,rfl,rfl,rfl,rfl,rfl,rfl,rfl,rfl,rfl,rfl,rfl,trivial⟩
     exact trivial
    have s230:∀(v:Value),J 7 [false,true,true,false,false,true,true,true,false,false,false,false] (eI [false,true,true,false,false,true,true,true,false,false,false,false] (lB y z.1 l v undef)++kP b2 y L.1 q1 l a1) [.obj y 128 (.agg (.pair (.at au (a0,.map (some m))) (.eq z.1))),.sl z.1 23 .val (dY z.2 0 q2),.sl v 3 (.int .i64) l2]:=fun v=>by
     subst hJ
     refine JD.step [0,3] (by kernel_rfl) rfl ?_
     refine eE.cons rfl ?_ ?_
     ·
      refine ax rfl rfl ?_
      exact aY (s231 v) [0,1,2] ⟨rfl,rfl,rfl,rfl,rfl,rfl,rfl,rfl,rfl,rfl,rfl,rfl,rfl,trivial⟩
     refine eE.cons rfl ?_ ?_
     ·
      refine aB rfl (aw rfl sP) ⟨rfl,trivial⟩ ?_
      exact aY (s238 v) [0,1,2] ⟨rfl,rfl,rfl,rfl,rfl,rfl,rfl,rfl,rfl,rfl,rfl,rfl,rfl,trivial⟩
     exact trivial
    have s15:J 8 [true,true,true,true,false,false,false,false,false,false,false,false] (eI [true,true,true,true,false,false,false,false,false,false,false,false] (lB y z.1 l undef undef)++kP b2 y L.1 q1 l a1) [.obj y 128 (.agg (.pair (.at au (a0,.map (some m))) (.eq z.1))),.sl z.1 23 .val (dY z.2 0 q2)]:=by
     subst hJ
     refine JD.step [4,5] (by kernel_rfl) rfl ?_
     refine eE.cons rfl ?_ ?_
     ·
      refine bN rfl rfl rfl (an rfl nh mX rfl) ⟨rfl,trivial⟩ ?_
      exact aY (s31) [0,1] ⟨rfl,rfl,rfl,rfl,rfl,rfl,rfl,rfl,rfl,rfl,rfl,rfl,trivial⟩
     refine eE.cons rfl ?_ ?_
     ·
      refine ax rfl rfl ?_
      exact aY (s47) [0,1] ⟨rfl,rfl,rfl,rfl,rfl,rfl,rfl,rfl,rfl,rfl,rfl,rfl,trivial⟩
     exact trivial
    have s30:J 8 [false,true,true,true,true,false,false,false,false,false,false,false] (eI [false,true,true,true,true,false,false,false,false,false,false,false] (lB y z.1 l undef undef)++kP b2 y L.1 q1 l a1) [.obj y 128 (.agg (.pair (.at au (a0,.map (some m))) (.eq z.1))),.sl z.1 23 .val (dY z.2 0 q2)]:=by
     subst hJ
     refine JD.step [0,5] (by kernel_rfl) rfl ?_
     refine eE.cons rfl ?_ ?_
     ·
      refine ax rfl rfl ?_
      exact aY (s31) [0,1] ⟨rfl,rfl,rfl,rfl,rfl,rfl,rfl,rfl,rfl,rfl,rfl,rfl,trivial⟩
     refine eE.cons rfl ?_ ?_
     ·
      refine ax rfl rfl ?_
      exact aY (s62) [0,1] ⟨rfl,rfl,rfl,rfl,rfl,rfl,rfl,rfl,rfl,rfl,rfl,rfl,trivial⟩
     exact trivial
    have s39:J 8 [true,true,true,false,false,true,false,false,false,false,false,false] (eI [true,true,true,false,false,true,false,false,false,false,false,false] (lB y z.1 l undef undef)++kP b2 y L.1 q1 l a1) [.obj y 128 (.agg (.pair (.at au (a0,.map (some m))) (.eq z.1))),.sl z.1 23 .val (dY z.2 0 q2)]:=by
     subst hJ
     refine JD.step [3,6] (by kernel_rfl) rfl ?_
     refine eE.cons rfl ?_ ?_
     ·
      refine aB rfl (aw rfl sP) ⟨rfl,trivial⟩ ?_
      exact aY (s47) [0,1] ⟨rfl,rfl,rfl,rfl,rfl,rfl,rfl,rfl,rfl,rfl,rfl,rfl,trivial⟩
     refine eE.cons rfl ?_ ?_
     ·
      refine aH rfl rfl rfl (ap [.tmp 44] rfl rfl pm rfl cc) ⟨rfl,trivial⟩ fun v=>?_
      exact aY (s103 v) [1,2,0] ⟨rfl,rfl,rfl,rfl,rfl,rfl,rfl,rfl,rfl,rfl,rfl,rfl,trivial⟩
     exact trivial
    have s46:J 8 [false,true,true,true,false,true,false,false,false,false,false,false] (eI [false,true,true,true,false,true,false,false,false,false,false,false] (lB y z.1 l undef undef)++kP b2 y L.1 q1 l a1) [.obj y 128 (.agg (.pair (.at au (a0,.map (some m))) (.eq z.1))),.sl z.1 23 .val (dY z.2 0 q2)]:=by
     subst hJ
     refine JD.step [0,4,6] (by kernel_rfl) rfl ?_
     refine eE.cons rfl ?_ ?_
     ·
      refine ax rfl rfl ?_
      exact aY (s47) [0,1] ⟨rfl,rfl,rfl,rfl,rfl,rfl,rfl,rfl,rfl,rfl,rfl,rfl,trivial⟩
     refine eE.cons rfl ?_ ?_
     ·
      refine bN rfl rfl rfl (an rfl nh mX rfl) ⟨rfl,trivial⟩ ?_
      exact aY (s62) [0,1] ⟨rfl,rfl,rfl,rfl,rfl,rfl,rfl,rfl,rfl,rfl,rfl,rfl,trivial⟩
     refine eE.cons rfl ?_ ?_
     ·
      refine aH rfl rfl rfl (ap [.tmp 44] rfl rfl pm rfl cc) ⟨rfl,trivial⟩ fun v=>?_
      exact aY (s110 v) [1,2,0] ⟨rfl,rfl,rfl,rfl,rfl,rfl,rfl,rfl,rfl,rfl,rfl,rfl,trivial⟩
     exact trivial
    have s99:∀(v:Value),J 8 [true,true,false,false,false,true,true,false,false,false,false,false] (eI [true,true,false,false,false,true,true,false,false,false,false,false] (lB y z.1 l v undef)++kP b2 y L.1 q1 l a1) [.obj y 128 (.agg (.pair (.at au (a0,.map (some m))) (.eq z.1))),.sl z.1 23 .val (dY z.2 0 q2),.sl v 3 (.int .i64) l2]:=fun v=>by
     subst hJ
     refine JD.step [2,7] (by kernel_rfl) rfl ?_
     refine eE.cons rfl ?_ ?_
     ·
      refine aB rfl (aR rfl) ⟨rfl,trivial⟩ ?_
      exact aY (s103 v) [0,1,2] ⟨rfl,rfl,rfl,rfl,rfl,rfl,rfl,rfl,rfl,rfl,rfl,rfl,trivial⟩
     refine eE.cons rfl ?_ ?_
     ·
      refine bv 2 rfl ?_
      refine fM fun hv=>?_
      refine aB rfl (bB (t:=.val) [(.tmp 45,.eq v)] [v] rfl rfl ni (.cons hv (.val hv) .nil) rfl rfl) ⟨rfl,trivial⟩ ?_
      exact aY (s227 v) [1,2,0] ⟨rfl,rfl,rfl,rfl,rfl,rfl,rfl,rfl,rfl,rfl,rfl,rfl,trivial⟩
     exact trivial
    have s102:∀(v:Value),J 8 [false,true,true,false,false,true,true,false,false,false,false,false] (eI [false,true,true,false,false,true,true,false,false,false,false,false] (lB y z.1 l v undef)++kP b2 y L.1 q1 l a1) [.obj y 128 (.agg (.pair (.at au (a0,.map (some m))) (.eq z.1))),.sl z.1 23 .val (dY z.2 0 q2),.sl v 3 (.int .i64) l2]:=fun v=>by
     subst hJ
     refine JD.step [0,3,7] (by kernel_rfl) rfl ?_
     refine eE.cons rfl ?_ ?_
     ·
      refine ax rfl rfl ?_
      exact aY (s103 v) [0,1,2] ⟨rfl,rfl,rfl,rfl,rfl,rfl,rfl,rfl,rfl,rfl,rfl,rfl,trivial⟩
     refine eE.cons rfl ?_ ?_
     ·
      refine aB rfl (aw rfl sP) ⟨rfl,trivial⟩ ?_
      exact aY (s110 v) [0,1,2] ⟨rfl,rfl,rfl,rfl,rfl,rfl,rfl,rfl,rfl,rfl,rfl,rfl,trivial⟩
     refine eE.cons rfl ?_ ?_
     ·
      refine bv 2 rfl ?_
      refine fM fun hv=>?_
      refine aB rfl (bB (t:=.val) [(.tmp 45,.eq v)] [v] rfl rfl ni (.cons hv (.val hv) .nil) rfl rfl) ⟨rfl,trivial⟩ ?_
      exact aY (s230 v) [1,2,0] ⟨rfl,rfl,rfl,rfl,rfl,rfl,rfl,rfl,rfl,rfl,rfl,rfl,trivial⟩
     exact trivial
    have s225:∀(v:Value),J 8 [true,false,false,false,false,true,true,true,false,false,false,false] (eI [true,false,false,false,false,true,true,true,false,false,false,false] (lB y z.1 l v undef)++kP b2 y L.1 q1 l a1) [.obj y 128 (.agg (.pair (.at au (a0,.map (some m))) (.eq z.1))),.sl z.1 23 .val (dY z.2 0 q2),.sl v 3 (.int .i64) l2]:=fun v=>by
     subst hJ
     refine JD.step [1] (by kernel_rfl) rfl ?_
     refine eE.cons rfl ?_ ?_
     ·
      refine ax rfl rfl ?_
      exact aY (s227 v) [0,1,2] ⟨rfl,rfl,rfl,rfl,rfl,rfl,rfl,rfl,rfl,rfl,rfl,rfl,trivial⟩
     exact trivial
    have s226:∀(v:Value),J 8 [false,true,false,false,false,true,true,true,false,false,false,false] (eI [false,true,false,false,false,true,true,true,false,false,false,false] (lB y z.1 l v undef)++kP b2 y L.1 q1 l a1) [.obj y 128 (.agg (.pair (.at au (a0,.map (some m))) (.eq z.1))),.sl z.1 23 .val (dY z.2 0 q2),.sl v 3 (.int .i64) l2]:=fun v=>by
     subst hJ
     refine JD.step [0,2] (by kernel_rfl) rfl ?_
     refine eE.cons rfl ?_ ?_
     ·
      refine ax rfl rfl ?_
      exact aY (s227 v) [0,1,2] ⟨rfl,rfl,rfl,rfl,rfl,rfl,rfl,rfl,rfl,rfl,rfl,rfl,trivial⟩
     refine eE.cons rfl ?_ ?_
     ·
      refine aB rfl (aR rfl) ⟨rfl,trivial⟩ ?_
      exact aY (s230 v) [0,1,2] ⟨rfl,rfl,rfl,rfl,rfl,rfl,rfl,rfl,rfl,rfl,rfl,rfl,trivial⟩
     exact trivial
    have s7:J 9 [true,true,true,false,false,false,false,false,false,false,false,false] (eI [true,true,true,false,false,false,false,false,false,false,false,false] (lB y z.1 l undef undef)++kP b2 y L.1 q1 l a1) [.obj y 128 (.agg (.pair (.at au (a0,.map (some m))) (.eq z.1))),.sl z.1 23 .val (dY z.2 0 q2)]:=by
     subst hJ
     refine JD.step [3,5] (by kernel_rfl) rfl ?_
     refine eE.cons rfl ?_ ?_
     ·
      refine aB rfl (aw rfl sP) ⟨rfl,trivial⟩ ?_
      exact aY (s15) [0,1] ⟨rfl,rfl,rfl,rfl,rfl,rfl,rfl,rfl,rfl,rfl,rfl,trivial⟩
     refine eE.cons rfl ?_ ?_
     ·
      refine ax rfl rfl ?_
      exact aY (s39) [0,1] ⟨rfl,rfl,rfl,rfl,rfl,rfl,rfl,rfl,rfl,rfl,rfl,trivial⟩
     exact trivial
    have s14:J 9 [false,true,true,true,false,false,false,false,false,false,false,false] (eI [false,true,true,true,false,false,false,false,false,false,false,false] (lB y z.1 l undef undef)++kP b2 y L.1 q1 l a1) [.obj y 128 (.agg (.pair (.at au (a0,.map (some m))) (.eq z.1))),.sl z.1 23 .val (dY z.2 0 q2)]:=by
     subst hJ
     refine JD.step [0,4,5] (by kernel_rfl) rfl ?_
     refine eE.cons rfl ?_ ?_
     ·
      refine ax rfl rfl ?_
      exact aY (s15) [0,1] ⟨rfl,rfl,rfl,rfl,rfl,rfl,rfl,rfl,rfl,rfl,rfl,trivial⟩
     refine eE.cons rfl ?_ ?_
     ·
      refine bN rfl rfl rfl (an rfl nh mX rfl) ⟨rfl,trivial⟩ ?_
      exact aY (s30) [0,1] ⟨rfl,rfl,rfl,rfl,rfl,rfl,rfl,rfl,rfl,rfl,rfl,trivial⟩
     refine eE.cons rfl ?_ ?_
     ·
      refine ax rfl rfl ?_
      exact aY (s46) [0,1] ⟨rfl,rfl,rfl,rfl,rfl,rfl,rfl,rfl,rfl,rfl,rfl,trivial⟩
     exact trivial
    have s35:J 9 [true,true,false,false,false,true,false,false,false,false,false,false] (eI [true,true,false,false,false,true,false,false,false,false,false,false] (lB y z.1 l undef undef)++kP b2 y L.1 q1 l a1) [.obj y 128 (.agg (.pair (.at au (a0,.map (some m))) (.eq z.1))),.sl z.1 23 .val (dY z.2 0 q2)]:=by
     subst hJ
     refine JD.step [2,6] (by kernel_rfl) rfl ?_
     refine eE.cons rfl ?_ ?_
     ·
      refine aB rfl (aR rfl) ⟨rfl,trivial⟩ ?_
      exact aY (s39) [0,1] ⟨rfl,rfl,rfl,rfl,rfl,rfl,rfl,rfl,rfl,rfl,rfl,trivial⟩
     refine eE.cons rfl ?_ ?_
     ·
      refine aH rfl rfl rfl (ap [.tmp 44] rfl rfl pm rfl cc) ⟨rfl,trivial⟩ fun v=>?_
      exact aY (s99 v) [1,2,0] ⟨rfl,rfl,rfl,rfl,rfl,rfl,rfl,rfl,rfl,rfl,rfl,trivial⟩
     exact trivial
    have s38:J 9 [false,true,true,false,false,true,false,false,false,false,false,false] (eI [false,true,true,false,false,true,false,false,false,false,false,false] (lB y z.1 l undef undef)++kP b2 y L.1 q1 l a1) [.obj y 128 (.agg (.pair (.at au (a0,.map (some m))) (.eq z.1))),.sl z.1 23 .val (dY z.2 0 q2)]:=by
     subst hJ
     refine JD.step [0,3,6] (by kernel_rfl) rfl ?_
     refine eE.cons rfl ?_ ?_
     ·
      refine ax rfl rfl ?_
      exact aY (s39) [0,1] ⟨rfl,rfl,rfl,rfl,rfl,rfl,rfl,rfl,rfl,rfl,rfl,trivial⟩
     refine eE.cons rfl ?_ ?_
     ·
      refine aB rfl (aw rfl sP) ⟨rfl,trivial⟩ ?_
      exact aY (s46) [0,1] ⟨rfl,rfl,rfl,rfl,rfl,rfl,rfl,rfl,rfl,rfl,rfl,trivial⟩
     refine eE.cons rfl ?_ ?_
     ·
      refine aH rfl rfl rfl (ap [.tmp 44] rfl rfl pm rfl cc) ⟨rfl,trivial⟩ fun v=>?_
      exact aY (s102 v) [1,2,0] ⟨rfl,rfl,rfl,rfl,rfl,rfl,rfl,rfl,rfl,rfl,rfl,trivial⟩
     exact trivial
    have s97:∀(v:Value),J 9 [true,false,false,false,false,true,true,false,false,false,false,false] (eI [true,false,false,false,false,true,true,false,false,false,false,false] (lB y z.1 l v undef)++kP b2 y L.1 q1 l a1) [.obj y 128 (.agg (.pair (.at au (a0,.map (some m))) (.eq z.1))),.sl z.1 23 .val (dY z.2 0 q2),.sl v 3 (.int .i64) l2]:=fun v=>by
     subst hJ
     refine JD.step [1,7] (by kernel_rfl) rfl ?_
     refine eE.cons rfl ?_ ?_
     ·
      refine ax rfl rfl ?_
      exact aY (s99 v) [0,1,2] ⟨rfl,rfl,rfl,rfl,rfl,rfl,rfl,rfl,rfl,rfl,rfl,trivial⟩
     refine eE.cons rfl ?_ ?_
     ·
      refine bv 2 rfl ?_
      refine fM fun hv=>?_
      refine aB rfl (bB (t:=.val) [(.tmp 45,.eq v)] [v] rfl rfl ni (.cons hv (.val hv) .nil) rfl rfl) ⟨rfl,trivial⟩ ?_
      exact aY (s225 v) [1,2,0] ⟨rfl,rfl,rfl,rfl,rfl,rfl,rfl,rfl,rfl,rfl,rfl,trivial⟩
     exact trivial
    have s98:∀(v:Value),J 9 [false,true,false,false,false,true,true,false,false,false,false,false] (eI [false,true,false,false,false,true,true,false,false,false,false,false] (lB y z.1 l v undef)++kP b2 y L.1 q1 l a1) [.obj y 128 (.agg (.pair (.at au (a0,.map (some m))) (.eq z.1))),.sl z.1 23 .val (dY z.2 0 q2),.sl v 3 (.int .i64) l2]:=fun v=>by
     subst hJ
     refine JD.step [0,2,7] (by kernel_rfl) rfl ?_
     refine eE.cons rfl ?_ ?_
     ·
      refine ax rfl rfl ?_
      exact aY (s99 v) [0,1,2] ⟨rfl,rfl,rfl,rfl,rfl,rfl,rfl,rfl,rfl,rfl,rfl,trivial⟩
     refine eE.cons rfl ?_ ?_
     ·
      refine aB rfl (aR rfl) ⟨rfl,trivial⟩ ?_
      exact aY (s102 v) [0,1,2] ⟨rfl,rfl,rfl,rfl,rfl,rfl,rfl,rfl,rfl,rfl,rfl,trivial⟩
     refine eE.cons rfl ?_ ?_
     ·
      refine bv 2 rfl ?_
      refine fM fun hv=>?_
      refine aB rfl (bB (t:=.val) [(.tmp 45,.eq v)] [v] rfl rfl ni (.cons hv (.val hv) .nil) rfl rfl) ⟨rfl,trivial⟩ ?_
      exact aY (s226 v) [1,2,0] ⟨rfl,rfl,rfl,rfl,rfl,rfl,rfl,rfl,rfl,rfl,rfl,trivial⟩
     exact trivial
    have s224:∀(v:Value),J 9 [false,false,false,false,false,true,true,true,false,false,false,false] (eI [false,false,false,false,false,true,true,true,false,false,false,false] (lB y z.1 l v undef)++kP b2 y L.1 q1 l a1) [.obj y 128 (.agg (.pair (.at au (a0,.map (some m))) (.eq z.1))),.sl z.1 23 .val (dY z.2 0 q2),.sl v 3 (.int .i64) l2]:=fun v=>by
     subst hJ
     refine JD.step [0,1] (by kernel_rfl) rfl ?_
     refine eE.cons rfl ?_ ?_
     ·
      refine ax rfl rfl ?_
      exact aY (s225 v) [0,1,2] ⟨rfl,rfl,rfl,rfl,rfl,rfl,rfl,rfl,rfl,rfl,rfl,trivial⟩
     refine eE.cons rfl ?_ ?_
     ·
      refine ax rfl rfl ?_
      exact aY (s226 v) [0,1,2] ⟨rfl,rfl,rfl,rfl,rfl,rfl,rfl,rfl,rfl,rfl,rfl,trivial⟩
     exact trivial
    have s3:J 10 [true,true,false,false,false,false,false,false,false,false,false,false] (eI [true,true,false,false,false,false,false,false,false,false,false,false] (lB y z.1 l undef undef)++kP b2 y L.1 q1 l a1) [.obj y 128 (.agg (.pair (.at au (a0,.map (some m))) (.eq z.1))),.sl z.1 23 .val (dY z.2 0 q2)]:=by
     subst hJ
     refine JD.step [2,5] (by kernel_rfl) rfl ?_
     refine eE.cons rfl ?_ ?_
     ·
      refine aB rfl (aR rfl) ⟨rfl,trivial⟩ ?_
      exact aY (s7) [0,1] ⟨rfl,rfl,rfl,rfl,rfl,rfl,rfl,rfl,rfl,rfl,trivial⟩
     refine eE.cons rfl ?_ ?_
     ·
      refine ax rfl rfl ?_
      exact aY (s35) [0,1] ⟨rfl,rfl,rfl,rfl,rfl,rfl,rfl,rfl,rfl,rfl,trivial⟩
     exact trivial
    have s6:J 10 [false,true,true,false,false,false,false,false,false,false,false,false] (eI [false,true,true,false,false,false,false,false,false,false,false,false] (lB y z.1 l undef undef)++kP b2 y L.1 q1 l a1) [.obj y 128 (.agg (.pair (.at au (a0,.map (some m))) (.eq z.1))),.sl z.1 23 .val (dY z.2 0 q2)]:=by
     subst hJ
     refine JD.step [0,3,5] (by kernel_rfl) rfl ?_
     refine eE.cons rfl ?_ ?_
     ·
      refine ax rfl rfl ?_
      exact aY (s7) [0,1] ⟨rfl,rfl,rfl,rfl,rfl,rfl,rfl,rfl,rfl,rfl,trivial⟩
     refine eE.cons rfl ?_ ?_
     ·
      refine aB rfl (aw rfl sP) ⟨rfl,trivial⟩ ?_
      exact aY (s14) [0,1] ⟨rfl,rfl,rfl,rfl,rfl,rfl,rfl,rfl,rfl,rfl,trivial⟩
     refine eE.cons rfl ?_ ?_
     ·
      refine ax rfl rfl ?_
      exact aY (s38) [0,1] ⟨rfl,rfl,rfl,rfl,rfl,rfl,rfl,rfl,rfl,rfl,trivial⟩
     exact trivial
    have s33:J 10 [true,false,false,false,false,true,false,false,false,false,false,false] (eI [true,false,false,false,false,true,false,false,false,false,false,false] (lB y z.1 l undef undef)++kP b2 y L.1 q1 l a1) [.obj y 128 (.agg (.pair (.at au (a0,.map (some m))) (.eq z.1))),.sl z.1 23 .val (dY z.2 0 q2)]:=by
     subst hJ
     refine JD.step [1,6] (by kernel_rfl) rfl ?_
     refine eE.cons rfl ?_ ?_
     ·
      refine ax rfl rfl ?_
      exact aY (s35) [0,1] ⟨rfl,rfl,rfl,rfl,rfl,rfl,rfl,rfl,rfl,rfl,trivial⟩
     refine eE.cons rfl ?_ ?_
     ·
      refine aH rfl rfl rfl (ap [.tmp 44] rfl rfl pm rfl cc) ⟨rfl,trivial⟩ fun v=>?_
      exact aY (s97 v) [1,2,0] ⟨rfl,rfl,rfl,rfl,rfl,rfl,rfl,rfl,rfl,rfl,trivial⟩
     exact trivial
    have s34:J 10 [false,true,false,false,false,true,false,false,false,false,false,false] (eI [false,true,false,false,false,true,false,false,false,false,false,false] (lB y z.1 l undef undef)++kP b2 y L.1 q1 l a1) [.obj y 128 (.agg (.pair (.at au (a0,.map (some m))) (.eq z.1))),.sl z.1 23 .val (dY z.2 0 q2)]:=by
     subst hJ
     refine JD.step [0,2,6] (by kernel_rfl) rfl ?_
     refine eE.cons rfl ?_ ?_
     ·
      refine ax rfl rfl ?_
      exact aY (s35) [0,1] ⟨rfl,rfl,rfl,rfl,rfl,rfl,rfl,rfl,rfl,rfl,trivial⟩
     refine eE.cons rfl ?_ ?_
     ·
      refine aB rfl (aR rfl) ⟨rfl,trivial⟩ ?_
      exact aY (s38) [0,1] ⟨rfl,rfl,rfl,rfl,rfl,rfl,rfl,rfl,rfl,rfl,trivial⟩
     refine eE.cons rfl ?_ ?_
     ·
      refine aH rfl rfl rfl (ap [.tmp 44] rfl rfl pm rfl cc) ⟨rfl,trivial⟩ fun v=>?_
      exact aY (s98 v) [1,2,0] ⟨rfl,rfl,rfl,rfl,rfl,rfl,rfl,rfl,rfl,rfl,trivial⟩
     exact trivial
    have s96:∀(v:Value),J 10 [false,false,false,false,false,true,true,false,false,false,false,false] (eI [false,false,false,false,false,true,true,false,false,false,false,false] (lB y z.1 l v undef)++kP b2 y L.1 q1 l a1) [.obj y 128 (.agg (.pair (.at au (a0,.map (some m))) (.eq z.1))),.sl z.1 23 .val (dY z.2 0 q2),.sl v 3 (.int .i64) l2]:=fun v=>by
     subst hJ
     refine JD.step [0,1,7] (by kernel_rfl) rfl ?_
     refine eE.cons rfl ?_ ?_
     ·
      refine ax rfl rfl ?_
      exact aY (s97 v) [0,1,2] ⟨rfl,rfl,rfl,rfl,rfl,rfl,rfl,rfl,rfl,rfl,trivial⟩
     refine eE.cons rfl ?_ ?_
     ·
      refine ax rfl rfl ?_
      exact aY (s98 v) [0,1,2] ⟨rfl,rfl,rfl,rfl,rfl,rfl,rfl,rfl,rfl,rfl,trivial⟩
     refine eE.cons rfl ?_ ?_
     ·
      refine bv 2 rfl ?_
      refine fM fun hv=>?_
      refine aB rfl (bB (t:=.val) [(.tmp 45,.eq v)] [v] rfl rfl ni (.cons hv (.val hv) .nil) rfl rfl) ⟨rfl,trivial⟩ ?_
      exact aY (s224 v) [1,2,0] ⟨rfl,rfl,rfl,rfl,rfl,rfl,rfl,rfl,rfl,rfl,trivial⟩
     exact trivial
    have s1:J 11 [true,false,false,false,false,false,false,false,false,false,false,false] (eI [true,false,false,false,false,false,false,false,false,false,false,false] (lB y z.1 l undef undef)++kP b2 y L.1 q1 l a1) [.obj y 128 (.agg (.pair (.at au (a0,.map (some m))) (.eq z.1))),.sl z.1 23 .val (dY z.2 0 q2)]:=by
     subst hJ
     refine JD.step [1,5] (by kernel_rfl) rfl ?_
     refine eE.cons rfl ?_ ?_
     ·
      refine ax rfl rfl ?_
      exact aY (s3) [0,1] ⟨rfl,rfl,rfl,rfl,rfl,rfl,rfl,rfl,rfl,trivial⟩
     refine eE.cons rfl ?_ ?_
     ·
      refine ax rfl rfl ?_
      exact aY (s33) [0,1] ⟨rfl,rfl,rfl,rfl,rfl,rfl,rfl,rfl,rfl,trivial⟩
     exact trivial
    have s2:J 11 [false,true,false,false,false,false,false,false,false,false,false,false] (eI [false,true,false,false,false,false,false,false,false,false,false,false] (lB y z.1 l undef undef)++kP b2 y L.1 q1 l a1) [.obj y 128 (.agg (.pair (.at au (a0,.map (some m))) (.eq z.1))),.sl z.1 23 .val (dY z.2 0 q2)]:=by
     subst hJ
     refine JD.step [0,2,5] (by kernel_rfl) rfl ?_
     refine eE.cons rfl ?_ ?_
     ·
      refine ax rfl rfl ?_
      exact aY (s3) [0,1] ⟨rfl,rfl,rfl,rfl,rfl,rfl,rfl,rfl,rfl,trivial⟩
     refine eE.cons rfl ?_ ?_
     ·
      refine aB rfl (aR rfl) ⟨rfl,trivial⟩ ?_
      exact aY (s6) [0,1] ⟨rfl,rfl,rfl,rfl,rfl,rfl,rfl,rfl,rfl,trivial⟩
     refine eE.cons rfl ?_ ?_
     ·
      refine ax rfl rfl ?_
      exact aY (s34) [0,1] ⟨rfl,rfl,rfl,rfl,rfl,rfl,rfl,rfl,rfl,trivial⟩
     exact trivial
    have s32:J 11 [false,false,false,false,false,true,false,false,false,false,false,false] (eI [false,false,false,false,false,true,false,false,false,false,false,false] (lB y z.1 l undef undef)++kP b2 y L.1 q1 l a1) [.obj y 128 (.agg (.pair (.at au (a0,.map (some m))) (.eq z.1))),.sl z.1 23 .val (dY z.2 0 q2)]:=by
     subst hJ
     refine JD.step [0,1,6] (by kernel_rfl) rfl ?_
     refine eE.cons rfl ?_ ?_
     ·
      refine ax rfl rfl ?_
      exact aY (s33) [0,1] ⟨rfl,rfl,rfl,rfl,rfl,rfl,rfl,rfl,rfl,trivial⟩
     refine eE.cons rfl ?_ ?_
     ·
      refine ax rfl rfl ?_
      exact aY (s34) [0,1] ⟨rfl,rfl,rfl,rfl,rfl,rfl,rfl,rfl,rfl,trivial⟩
     refine eE.cons rfl ?_ ?_
     ·
      refine aH rfl rfl rfl (ap [.tmp 44] rfl rfl pm rfl cc) ⟨rfl,trivial⟩ fun v=>?_
      exact aY (s96 v) [1,2,0] ⟨rfl,rfl,rfl,rfl,rfl,rfl,rfl,rfl,rfl,trivial⟩
     exact trivial
    have s0:J 12 [false,false,false,false,false,false,false,false,false,false,false,false] (eI [false,false,false,false,false,false,false,false,false,false,false,false] (lB y z.1 l undef undef)++kP b2 y L.1 q1 l a1) [.obj y 128 (.agg (.pair (.at au (a0,.map (some m))) (.eq z.1))),.sl z.1 23 .val (dY z.2 0 q2)]:=by
     subst hJ
     refine JD.step [0,1,5] (by kernel_rfl) rfl ?_
     refine eE.cons rfl ?_ ?_
     ·
      refine ax rfl rfl ?_
      exact aY (s1) [0,1] ⟨rfl,rfl,rfl,rfl,rfl,rfl,rfl,rfl,trivial⟩
     refine eE.cons rfl ?_ ?_
     ·
      refine ax rfl rfl ?_
      exact aY (s2) [0,1] ⟨rfl,rfl,rfl,rfl,rfl,rfl,rfl,rfl,trivial⟩
     refine eE.cons rfl ?_ ?_
     ·
      refine ax rfl rfl ?_
      exact aY (s32) [0,1] ⟨rfl,rfl,rfl,rfl,rfl,rfl,rfl,rfl,trivial⟩
     exact trivial
    exact s0
   ·
    exact fun a w st=>⟨rfl,p,st⟩
  ·
   subst hB
   refine aK ?_
   refine ae ?_
   refine bz (fK (Δ':=.sl p.1 3 (.int .i64) l2:: .sl p.2 23 .val (dY z.2 0 q2++[p.1])::([.obj y 128 (.agg (.pair (.at au (a0,.map (some m))) (.eq p.2))),.inv m (bF k a0),.obj b2 25 (.rep aD a0),.inv 0 fP]++kD z.2 0 q2)) ?_) ?_
   ·
    exact List.Perm.trans (List.Perm.swap _ _ _) (List.Perm.trans (List.Perm.cons _ (List.Perm.swap _ _ _)) (List.Perm.swap _ _ _))
   refine bz (vM (pre:=[.obj y 128 (.agg (.pair (.at au (a0,.map (some m))) (.eq p.2))),.inv m (bF k a0),.obj b2 25 (.rep aD a0),.inv 0 fP])) ?_
   show JC _ _ _ _ _
   refine ab ?_
   obtain⟨w3,ew,h⟩:=aa h
   refine aB rfl (bi rfl ew) ⟨rfl,rfl,trivial⟩ ?_
   refine ax rfl rfl ?_
   refine ar ?_
   refine ae ?_
   exact gw ((p.2,lr z.2 q2.length p.1),(w3,q2++[l2])) h (aV [.obj y 128 (.agg (.pair (.at au (a0,.map (some m))) (.eq p.2))),.inv m (bF k a0),.obj b2 25 (.rep aD a0),.inv 0 fP] (ek 23 (p.2,lr z.2 q2.length p.1) (q2++[l2])) [0,1,2,3] ⟨rfl,rfl,rfl,rfl,rfl,rfl,trivial⟩ rfl)
 replace h:=bL (m6 hb) h
 refine dt ?_
 refine aP ?_
 refine aP ?_
 refine bQ ?_
 refine ae ?_
 show JC _ _ _ _ _
 replace h:((iP k a0 k (0,[],q.2)).bind fun p=>(kM k a0 p.1 p.2).bind fun b=>if(!b.2.2.1 || decide (L.1≤b.2.1))=true then some (0,0,0,11) else some (b.1.1,b.1.2,b.2.1,0)).bind some=some r:=h
 rw [Option.bind_assoc] at h
 generalize q.2=ls at h⊢
 refine ah ?_
 refine ab ?_
 refine dn rfl ?_
 refine cd (SE.nil 131 eh) ?_
 refine ar ?_
 refine ae ?_
 show JC _ _ _ _ _
 refine fN (aV (Γ':=[(2,.eq (bP b2)),(8,.eq (.int .i64 L.1)),(10,.eq (bP y)),(13,.eq (.slice none 0 0))]) (pre':=[.inv m (bF k a0),.obj b2 25 (.rep aD a0),.inv 0 fP,.sl (.slice none 0 0) 131 eh [],.obj y 128 (.agg (.pair (.at au (a0,.map (some m))) (.eq z.1)))]) [.sl (.slice none 0 0) 131 eh [],.obj y 128 (.agg (.pair (.at au (a0,.map (some m))) (.eq z.1))),.inv m (bF k a0),.obj b2 25 (.rep aD a0),.inv 0 fP] (ek 23 z ls) [2,3,4,0,1] ⟨rfl,rfl,rfl,rfl,trivial⟩ rfl) ?_
 refine ah ?_
 refine ah ?_
 refine ab ?_
 refine aB rfl (aw rfl Jt) ⟨rfl,trivial⟩ ?_
 refine bv 1 rfl ?_
 refine bN rfl rfl rfl (an rfl Jd mX rfl) ⟨rfl,trivial⟩ ?_
 refine aB rfl (mm rfl rfl s4) ⟨rfl,trivial⟩ ?_
 refine dX rfl ?_
 refine ar ?_
 refine ae ?_
 show JC _ _ _ _ _
 refine aj ?_
 refine aL (Z:=Value) (α:=Int×List (Int×Int)×List (List Int)) (fun c q=>[(2,.eq (bP b2)),(8,.eq (.int .i64 L.1)),(10,.eq (bP y)),(13,.eq c),(53,.eq (.int .i64 (a0.2.1.length:Int))),(54,.eq (.int .i64 q.1))]) (fun c q=>[.obj b2 25 (.rep aD a0),.inv m (bF k a0),.inv 0 fP,.sl c 131 eh q.2.1,.obj y 128 (.agg (.pair (.at au (a0,.map (some m))) (.eq z.1)))]++ek 23 z q.2.2) (iP k a0) k (.slice none 0 0) (0,[],ls) (fun _=>rfl) h (aV [.obj b2 25 (.rep aD a0),.inv m (bF k a0),.inv 0 fP,.sl (.slice none 0 0) 131 eh [],.obj y 128 (.agg (.pair (.at au (a0,.map (some m))) (.eq z.1)))] (ek 23 z ls) [0,1,2,3,4] ⟨rfl,rfl,rfl,rfl,rfl,rfl,trivial⟩ rfl) (fun n c q h=>?_)
 obtain⟨q1,qp,ql⟩:=q
 unfold iP at h
 refine ah ?_
 refine ab ?_
 refine aB rfl (bG rfl) ⟨rfl,rfl,trivial⟩ ?_
 refine ar ?_
 refine ae ?_
 show JC _ _ _ _ _
 refine ah ?_
 refine bm rfl (fun hb=>?_) (fun hb=>?_)
 ·
  replace h:=cC (nr hb) h
  obtain⟨w,ew,h⟩:=aa h
  rw [Option.bind_assoc] at h
  refine aS ?_
  refine ae ?_
  show JC _ _ _ _ _
  refine ah ?_
  refine aj ?_
  refine ah ?_
  refine ab ?_
  refine ax rfl rfl ?_
  refine cU rfl rfl ?_
  refine ar ?_
  refine ae ?_
  show JC _ _ _ _ _
  refine ah ?_
  refine ab ?_
  refine ax rfl rfl ?_
  refine aB rfl (bi rfl ew) ⟨rfl,rfl,trivial⟩ ?_
  refine cU rfl rfl ?_
  refine ar ?_
  refine ae ?_
  show JC _ _ _ _ _
  refine aj ?_
  refine aL (Z:=Value) (α:=Int×List (Int×Int)×List (List Int)) (fun c q=>[(2,.eq (bP b2)),(8,.eq (.int .i64 L.1)),(10,.eq (bP y)),(13,.eq c),(14,.eq (.int .i64 q1)),(15,.eq (.int .i64 q.1)),(53,.eq (.int .i64 (a0.2.1.length:Int))),(54,.eq (.int .i64 q1))]) (fun c q=>[.obj b2 25 (.rep aD a0),.inv m (bF k a0),.inv 0 fP,.sl c 131 eh q.2.1,.obj y 128 (.agg (.pair (.at au (a0,.map (some m))) (.eq z.1)))]++ek 23 z q.2.2) (jP k a0 q1) k c (w,qp,ql) (fun _=>rfl) h (aV [.obj b2 25 (.rep aD a0),.inv m (bF k a0),.inv 0 fP,.sl c 131 eh qp,.obj y 128 (.agg (.pair (.at au (a0,.map (some m))) (.eq z.1)))] (ek 23 z ql) [0,1,2,3,4] ⟨rfl,rfl,rfl,rfl,rfl,rfl,rfl,rfl,trivial⟩ rfl) (fun n3 c q h=>?_)
  obtain⟨j,rp,rl⟩:=q
  unfold jP at h
  refine ah ?_
  refine ah ?_
  refine ab ?_
  refine ax rfl rfl ?_
  refine aB rfl (aw rfl Jt) ⟨rfl,trivial⟩ ?_
  refine bN rfl rfl rfl (an rfl Jd mX rfl) ⟨rfl,trivial⟩ ?_
  refine aB rfl (mm rfl rfl s4) ⟨rfl,trivial⟩ ?_
  refine aB rfl (bG rfl) ⟨rfl,rfl,trivial⟩ ?_
  refine ar ?_
  refine ae ?_
  show JC _ _ _ _ _
  refine bm rfl (fun hb=>?_) (fun hb=>?_)
  ·
   replace h:=cC (nr hb) h
   obtain⟨r1,Q,h⟩:=aa h
   have cv:=rh k a0 (q1,j) rl r1 y m z Q
   refine aS ?_
   refine ae ?_
   show JC _ _ _ _ _
   refine ah ?_
   refine aj ?_
   refine ah ?_
   refine ab ?_
   refine ax rfl rfl ?_
   refine ax rfl rfl ?_
   refine aB rfl (de [(0,.tmp 66,_),(1,.tmp 67,_)] rfl J2 q8 IO (jd ⟨rfl,rfl,trivial⟩) rfl) ⟨rfl,rfl,trivial⟩ ?_
   refine aH rfl rfl rfl (bJ rfl q8 ug) trivial fun e=>?_
   refine be rfl rfl (a8 rfl fX trivial rfl rfl) ⟨rfl,rfl,trivial⟩ ?_
   refine cd (oR (a':=.rep eh (q1,j)) OP) ?_
   refine ar ?_
   refine ae ?_
   show JC _ _ _ _ _
   refine ah ?_
   refine ab ?_
   refine ax rfl rfl ?_
   refine bN rfl rfl rfl (an rfl fX (xf) rfl) ⟨rfl,trivial⟩ ?_
   refine cd (fK (Δ':=([.obj y 128 (.agg (.pair (.at au (a0,.map (some m))) (.eq z.1)))]++ek 23 z rl)++[.obj e 131 (.rep eh (q1,j)),.obj b2 25 (.rep aD a0),.inv m (bF k a0),.inv 0 fP,.sl c 131 eh rp]) (List.perm_append_comm (l₁:=([.obj e 131 (.rep eh (q1,j)),.obj b2 25 (.rep aD a0),.inv m (bF k a0),.inv 0 fP,.sl c 131 eh rp]:List D)))) ?_
   refine bH (Δ:=_++_) (F:=[_,_,_,_,_]) (fun _ _ _=>av rfl _) rfl rfl (ap [.tmp 69,.tmp 70] rfl rfl NT rfl cv) ⟨rfl,rfl,trivial⟩ fun _=>?_
   refine cd (fK (Δ':=[.obj e 131 (.rep eh (q1,j)),.obj b2 25 (.rep aD a0),.inv m (bF k a0),.inv 0 fP,.sl c 131 eh rp]++([.obj y 128 (.agg (.pair (.at au (a0,.map (some m))) (.eq z.1)))]++ek 23 z r1.2)) List.perm_append_comm) ?_
   refine ar ?_
   refine ae ?_
   show JC _ _ _ _ _
   refine bm rfl (fun hb=>?_) (fun hb=>?_)
   ·
    replace h:=cC (BJ hb) h
    have hk:bO (rp.length+1):=by
     apply Classical.byContradiction
     intro hn
     rw [if_neg hn] at h
     cases h
    replace h:=cC hk h
    refine ab ?_
    refine ax rfl rfl ?_
    refine bN rfl rfl rfl (an rfl fX (xf) rfl) ⟨rfl,trivial⟩ ?_
    refine aB rfl (bB (t:=eh) [(.tmp 73,_)] [(q1,j)] rfl rfl Ee (.cons rfl .rep .nil) rfl rfl) ⟨rfl,trivial⟩ ?_
    refine bv 4 rfl ?_
    refine dI rfl rfl rfl (bY rfl rfl Ee (by simpa using hk)) ⟨rfl,rfl,trivial⟩ fun v'=>?_
    refine cU rfl rfl ?_
    refine ar ?_
    refine aK ?_
    refine ae ?_
    show JC _ _ _ _ _
    refine ab ?_
    refine ax rfl rfl ?_
    obtain⟨w2,ew2,h⟩:=aa h
    refine aB rfl (bi rfl ew2) ⟨rfl,rfl,trivial⟩ ?_
    refine cU rfl rfl ?_
    refine ar ?_
    refine ae ?_
    exact gw (v',(w2,rp++[(q1,j)],r1.2)) h (aV [.sl v' 131 eh (rp++[(q1,j)]),.obj e 131 (.rep eh (q1,j)),.obj b2 25 (.rep aD a0),.inv m (bF k a0),.inv 0 fP,.obj y 128 (.agg (.pair (.at au (a0,.map (some m))) (.eq z.1)))] (ek 23 z r1.2) [2,3,4,0,5] ⟨rfl,rfl,rfl,rfl,rfl,rfl,rfl,rfl,trivial⟩ rfl)
   ·
    replace h:=bL (BK hb) h
    refine aS ?_
    refine aK ?_
    refine ae ?_
    show JC _ _ _ _ _
    refine ab ?_
    refine ax rfl rfl ?_
    obtain⟨w2,ew2,h⟩:=aa h
    refine aB rfl (bi rfl ew2) ⟨rfl,rfl,trivial⟩ ?_
    refine cU rfl rfl ?_
    refine ar ?_
    refine ae ?_
    exact gw (c,(w2,rp,r1.2)) h (aV [.obj e 131 (.rep eh (q1,j)),.obj b2 25 (.rep aD a0),.inv m (bF k a0),.inv 0 fP,.sl c 131 eh rp,.obj y 128 (.agg (.pair (.at au (a0,.map (some m))) (.eq z.1)))] (ek 23 z r1.2) [1,2,3,4,5] ⟨rfl,rfl,rfl,rfl,rfl,rfl,rfl,rfl,trivial⟩ rfl)
  replace h:=bL (m6 hb) h
  refine dt ?_
  refine aP ?_
  refine aP ?_
  refine bQ ?_
  refine aK ?_
  refine ae ?_
  show JC _ _ _ _ _
  replace h:(iP k a0 n (w,rp,rl)).bind _=some r:=h
  refine ab ?_
  refine aB rfl (bi rfl ew) ⟨rfl,rfl,trivial⟩ ?_
  refine ax rfl rfl ?_
  refine ar ?_
  refine ae ?_
  exact gw (c,(w,rp,rl)) h (aV [.obj b2 25 (.rep aD a0),.inv m (bF k a0),.inv 0 fP,.sl c 131 eh rp,.obj y 128 (.agg (.pair (.at au (a0,.map (some m))) (.eq z.1)))] (ek 23 z rl) [0,1,2,3,4] ⟨rfl,rfl,rfl,rfl,rfl,rfl,trivial⟩ rfl)
 replace h:=bL (m6 hb) h
 refine dt ?_
 refine aP ?_
 refine aP ?_
 refine bQ ?_
 refine ae ?_
 show JC _ _ _ _ _
 replace h:((kM k a0 qp ql).bind fun b=>if(!b.2.2.1 || decide (L.1≤b.2.1))=true then some (0,0,0,11) else some (b.1.1,b.1.2,b.2.1,0)).bind some=some r:=h
 obtain⟨b,eb,h⟩:=aa h
 have cx:=uC k a0 qp ql b y m z eb
 refine ah ?_
 refine ab ?_
 refine ax rfl rfl ?_
 refine aB rfl (rG [.tmp 78] [] [bP y] [] rfl rfl rfl) ⟨rfl,trivial⟩ ?_
 refine bv 3 rfl ?_
 refine cd (gr [13] ⟨rfl,trivial⟩) ?_
 refine ax rfl rfl ?_
 refine cd (aV (Γ':=[(8,.eq (.int .i64 L.1)),(79,.eq (.func (.func 100) #[bP y] #[])),(80,Rs eh qp)]) (pre':=[.inv 0 fP,.obj b2 25 (.rep aD a0),.inv m (bF k a0),.obj y 128 (.agg (.pair (.at au (a0,.map (some m))) (.eq z.1)))]) [.obj b2 25 (.rep aD a0),.inv m (bF k a0),.inv 0 fP,.obj y 128 (.agg (.pair (.at au (a0,.map (some m))) (.eq z.1)))] (ek 23 z ql) [2,0,1,3] ⟨rfl,rfl,rfl,trivial⟩ rfl) ?_
 refine cd (fK (Δ':=([.inv m (bF k a0),.obj y 128 (.agg (.pair (.at au (a0,.map (some m))) (.eq z.1)))]++ek 23 z ql)++[.inv 0 fP,.obj b2 25 (.rep aD a0)]) (List.perm_append_comm (l₁:=([.inv 0 fP,.obj b2 25 (.rep aD a0)]:List D)))) ?_
 refine bH (Δ:=_++_) (F:=[_,_]) (fun _ _ _=>av rfl _) rfl rfl (fy [.tmp 79,.tmp 80] rfl rfl NS rfl cx) ⟨rfl,rfl,trivial⟩ fun _=>?_
 refine cd (fK (Δ':=[.inv 0 fP,.obj b2 25 (.rep aD a0)]++([.inv m (bF k a0),.obj y 128 (.agg (.pair (.at au (a0,.map (some m))) (.eq z.1)))]++ek 23 z b.2.2.2)) List.perm_append_comm) ?_
 refine ax rfl rfl ?_
 refine aB rfl (gj rfl rfl) ⟨rfl,trivial⟩ ?_
 refine aB rfl (gj rfl rfl) ⟨rfl,trivial⟩ ?_
 refine aB rfl (gj rfl rfl) ⟨rfl,trivial⟩ ?_
 refine aH rfl rfl rfl (bJ rfl q8 ug) trivial fun s=>?_
 refine be rfl rfl (a8 rfl fX rfl rfl rfl) ⟨rfl,rfl,trivial⟩ ?_
 refine cU rfl rfl ?_
 refine cU rfl rfl ?_
 refine ar ?_
 refine ae ?_
 show JC _ _ _ _ _
 obtain⟨bx,bn,bo,bl⟩:=b
 cases bo with
 |false=>
  replace h:some (0,0,0,11)=some r:=by simpa using h
  obtain rfl:=Option.some.inj h
  refine ah ?_
  refine ah ?_
  refine ab ?_
  refine ax rfl rfl ?_
  refine aB rfl (eK rfl) ⟨rfl,trivial⟩ ?_
  refine ax rfl rfl ?_
  refine wX rfl rfl rfl rfl rfl rfl rfl ?_
  refine wX rfl rfl rfl rfl rfl rfl rfl ?_
  refine wX rfl rfl rfl rfl rfl rfl rfl ?_
  refine aB rfl (tR rfl) ⟨rfl,rfl,trivial⟩ ?_
  refine ar ?_
  refine ae ?_
  show JC _ _ _ _ _
  refine bm rfl (fun hb=>?_) (fun hb=>(by cases hb))
  refine ah ?_
  refine ab ?_
  refine dn rfl ?_
  refine dn rfl ?_
  refine dn rfl ?_
  refine dn rfl ?_
  refine ar ?_
  refine ae ?_
  show JC _ _ _ _ _
  refine aA ?_
  refine aM ?_
  refine di 1 rfl ?_
  exact aF () [_,_,_,_] 1 ⟨rfl,rfl,rfl,rfl,trivial⟩ rfl
 |true=>
  refine ah ?_
  refine ah ?_
  refine ab ?_
  refine ax rfl rfl ?_
  refine aB rfl (eK rfl) ⟨rfl,trivial⟩ ?_
  refine ax rfl rfl ?_
  refine lY rfl rfl rfl rfl rfl rfl (aU rfl) ⟨rfl,trivial⟩ ?_
  refine lY rfl rfl rfl rfl rfl rfl (aU rfl) ⟨rfl,trivial⟩ ?_
  refine lY rfl rfl rfl rfl rfl rfl (nH rfl) ⟨rfl,rfl,trivial⟩ ?_
  refine aB rfl (tU rfl) ⟨rfl,rfl,trivial⟩ ?_
  refine ar ?_
  refine ae ?_
  show JC _ _ _ _ _
  refine bm rfl (fun hb=>?_) (fun hb=>?_)
  ·
   have hd:L.1≤bn:=of_decide_eq_true hb
   replace h:some (0,0,0,11)=some r:=by simpa [hd] using h
   obtain rfl:=Option.some.inj h
   refine ah ?_
   refine ab ?_
   refine dn rfl ?_
   refine dn rfl ?_
   refine dn rfl ?_
   refine dn rfl ?_
   refine ar ?_
   refine ae ?_
   show JC _ _ _ _ _
   refine aA ?_
   refine aM ?_
   refine di 1 rfl ?_
   exact aF () [_,_,_,_] 1 ⟨rfl,rfl,rfl,rfl,trivial⟩ rfl
  ·
   have hd:¬L.1≤bn:=of_decide_eq_false hb
   replace h:some (bx.1,bx.2,bn,0)=some r:=by simpa [hd] using h
   refine aS ?_
   refine ae ?_
   obtain rfl:=Option.some.inj h
   show JC _ _ _ _ _
   refine ah ?_
   refine uv (Δ:=[.obj s 131 (.rep eh bx)]) (F:=[.inv 0 fP,.obj b2 25 (.rep aD a0),.inv m (bF k a0),.obj y 128 (.agg (.pair (.at au (a0,.map (some m))) (.eq z.1)))]++ek 23 z bl) (Z:=Unit) (fun _=>[(4,.eq (.int .i64 bx.1)),(5,.eq (.int .i64 bx.2)),(6,.eq (.int .i64 bn)),(7,.eq (.int .i64 0))]) (fun _=>[.obj s 131 (.rep eh bx)]) (fun S w=>?_) (fun _=>?_)
   ·
    refine fN (SE.sub (Γ':=[(17,.eq (bP s)),(18,.eq (.int .i64 bn))]) ⟨rfl,rfl,trivial⟩) ?_
    refine j8 ?_
    refine aJ rfl rfl rfl (aw rfl KN) ⟨rfl,trivial⟩ ?_
    refine eF 0 rfl rfl rfl rfl (an rfl sL mX rfl) ⟨rfl,trivial⟩ ?_
    refine aJ rfl rfl rfl (aw rfl KL) ⟨rfl,trivial⟩ ?_
    refine eF 0 rfl rfl rfl rfl (an rfl sL mX rfl) ⟨rfl,trivial⟩ ?_
    refine aJ rfl rfl rfl (aU rfl) ⟨rfl,trivial⟩ ?_
    refine om 5 [true,true,false,false,false] [4,5,6,7] [0] [.obj s 131 (.rep eh bx)] rfl (by kernel_rfl) (by kernel_rfl) (by kernel_rfl) pJ (fun vs hv hB=>?_)
    obtain⟨u0,mc,rfl,O⟩:=ak hv
    obtain⟨u1,ac,rfl,M⟩:=ak O
    obtain⟨u2,Y,rfl,E⟩:=ak M
    obtain⟨u3,X,rfl,x⟩:=ak E
    obtain⟨u4,U,rfl,u⟩:=ak x
    obtain rfl:=lH u
    refine⟨[0],[],by kernel_rfl,by decide,?_⟩
    refine m8 rfl rfl rfl rfl (hC rfl) ⟨rfl,trivial⟩ (by kernel_rfl) ?_
    refine m8 rfl rfl rfl rfl (hC rfl) ⟨rfl,trivial⟩ (by kernel_rfl) ?_
    refine m8 rfl rfl rfl rfl (hC rfl) ⟨rfl,trivial⟩ (by kernel_rfl) ?_
    refine m8 rfl rfl rfl rfl (hC rfl) ⟨rfl,trivial⟩ (by kernel_rfl) ?_
    refine sf ?_
    exact fun a w st=>⟨rfl,(),(SE.fin (Γ':=[(4,.eq (.int .i64 bx.1)),(5,.eq (.int .i64 bx.2)),(6,.eq (.int .i64 bn)),(7,.eq (.int .i64 0))]) [0] ⟨rfl,rfl,rfl,rfl,trivial⟩ rfl) a w st⟩
   ·
    refine ae ?_
    show JC _ _ _ _ _
    refine aA ?_
    refine di 1 rfl ?_
    exact aF () [_,_,_,_] 1 ⟨rfl,rfl,rfl,rfl,trivial⟩ rfl
def mM(k:Nat)(a0:(List Int))(a1:cK)(a2:(List (List Int)))(a3:Int)(a4:Int):Option Int:=
 (gP k a1 a2).bind fun r1=>
 (bb r1 a3).bind fun x3=>
 (eS k (List.set r1 (Int.toNat a3) a0)).bind fun r4=>
 (im k a1 r4 a4).bind fun r5=>
 some r5
theorem sK(k:Nat)(a0:(List Int))(a1:cK)(l:Nat)(a2:(List (List Int)))(j:Nat)(a3:Int)(e:Nat)(a4:Int)(c:Nat)(r:Int)(h:mM k a0 a1 a2 a3 a4=some r):
 cS (iw Tryz.prog) 104 [Ri a0,Pt l,Pt j,Pt e,Pt c] [.obj l 102 (.at bC a1),.obj j 107 (.rep (.arr 3 (.arr 5 (.int .i64))) a2),.obj e 3 (I a3),.obj c 3 (I a4)] (fun _:Unit=>(bp [I r],[.obj l 102 (.at bC a1),.obj j 107 (.rep (.arr 3 (.arr 5 (.int .i64))) a2),.obj e 3 (I a3),.obj c 3 (I a4)])):=by
 unfold mM at h
 replace h:=a9 h
 refine cS.of 20 Tryz.func104 rfl Tryz.ntmps104 rfl fun S w0=>?_
 refine sr ?_
 refine cq ?_
 refine nt ?_
 refine sr ?_
 refine lo qi ?_
 refine fr 1 ?_
 refine lo cI ?_
 obtain⟨r1,x,h⟩:=aa h
 have E:=iW k a1 a2 r1 x
 refine aH rfl rfl rfl (ap [.tmp 8,.tmp 9] rfl rfl K4 rfl E) ⟨rfl,rfl,trivial⟩ fun v2=>?_
 refine aq ?_
 refine nt ?_
 refine sr ?_
 refine mq ?_
 refine fr 3 ?_
 refine lo cH ?_
 refine mq ?_
 obtain⟨x3,n,h⟩:=aa h
 refine fr 1 ?_
 refine kb (bu (t:=(.slice (.int .i64))) rfl mH cp n) ?_
 refine be rfl rfl (cZ (i:=Int.toNat a3) rfl cp rfl (iG n) rfl .rep rfl) ⟨rfl,rfl,trivial⟩ ?_
 refine nt ?_
 refine ah ?_
 refine fN (gr [7,10,11] ⟨rfl,rfl,rfl,trivial⟩) ?_
 refine cu ?_
 refine ea 2 (an rfl qi mX rfl) ?_
 refine dm ?_
 obtain⟨r4,u,h⟩:=aa h
 have D:=eu k (List.set r1 (Int.toNat a3) a0) r4 u
 refine da (ap [.tmp 16] rfl rfl C7 rfl D) ?_
 refine ea 3 (an rfl cH mX rfl) ?_
 refine df fe ?_
 obtain⟨r5,s,h⟩:=aa h
 have y:=lz k a1 r4 a4 r5 s
 refine jc (fy [.tmp 15,.tmp 17,.tmp 18] rfl rfl JB rfl y) ?_
 refine aq ?_
 refine nt ?_
 refine aA ?_
 refine bz (SE.fin (Γ':=[(6,_)]) [2,1,0,3] ⟨rfl,trivial⟩ rfl) ?_
 cases h
 exact aF () [_] 4 ⟨rfl,trivial⟩ rfl
def gB(k:Nat)(a0_0:cK)(a0_1:(List (List Int)))(a0_2:Int)(a0_3:Int)(a1:(List (List Int))):Nat→((List Int)×Int×Bool×Int)→Option ((List Int)×Int×Bool)
 |0,_=>none
 |n+1,y3=>
  if y3.2.2.2 < (a1.length:Int) then((((bb a1 y3.2.2.2).bind fun x7=>
  (mM k x7 a0_0 a0_1 a0_2 a0_3).bind fun r8=>
  ((if¬(y3.2.2.1=true) then(some true) else(some (decide (r8 < y3.2.1)))):Option (Bool)).bind fun x9=>
  if x9=true then(some (x7,r8,true)) else(some (y3.1,y3.2.1,y3.2.2.1))):Option ((List Int)×Int×Bool)).bind fun x5=>
  (ck (y3.2.2.2+1)).bind fun c=>
  gB k a0_0 a0_1 a0_2 a0_3 a1 n (x5.1,x5.2.1,x5.2.2,c)) else(some (y3.1,y3.2.1,y3.2.2.1))
def kN(k:Nat)(a0_0:cK)(a0_1:(List (List Int)))(a0_2:Int)(a0_3:Int)(a1:(List (List Int))):Option ((List Int)×Int×Bool):=
 ((gB k a0_0 a0_1 a0_2 a0_3 a1 k ([],0,false,0)):Option ((List Int)×Int×Bool)).bind fun x1=>
 some (x1.1,x1.2.1,x1.2.2)
theorem qe(k:Nat)(a0_0:cK)(c_a0_0:Nat)(a0_1:(List (List Int)))(c_a0_1:Nat)(a0_2:Int)(c_a0_2:Nat)(a0_3:Int)(c_a0_3:Nat)(a1:(List (List Int)))(r:(List Int)×Int×Bool)(h:kN k a0_0 a0_1 a0_2 a0_3 a1=some r):
 cS (iw Tryz.prog) 106 [.eq (.func (.func 104) #[] #[(Pv c_a0_0),(Pv c_a0_1),(Pv c_a0_2),(Pv c_a0_3)]),.rep (.slice (.slice (.int .i64))) a1] [.obj c_a0_0 102 (.at bC a0_0),.obj c_a0_1 107 (.rep (.arr 3 (.arr 5 (.int .i64))) a0_1),.obj c_a0_2 3 (I a0_2),.obj c_a0_3 3 (I a0_3)] (fun _:Unit=>(bp [Ri r.1,I r.2.1,.eq (.bool r.2.2)],[.obj c_a0_0 102 (.at bC a0_0),.obj c_a0_1 107 (.rep (.arr 3 (.arr 5 (.int .i64))) a0_1),.obj c_a0_2 3 (I a0_2),.obj c_a0_3 3 (I a0_3)])):=by
 unfold kN at h
 replace h:=a9 h
 refine cS.of 35 Tryz.func106 rfl Tryz.ntmps106 rfl fun S w0=>?_
 refine sr ?_
 refine cq ?_
 refine cq ?_
 refine cq ?_
 refine nt ?_
 refine sr ?_
 refine cq ?_
 refine nt ?_
 refine sr ?_
 refine cq ?_
 refine cq ?_
 refine nt ?_
 refine aX (Z:=Unit) (α:=(List Int)×Int×Bool) (fun z2 x1=>[(7,Ri x1.1),(8,I x1.2.1),(9,.eq (.bool x1.2.2))]) (fun z2 x1=>[.obj c_a0_0 102 (.at bC a0_0),.obj c_a0_1 107 (.rep (.arr 3 (.arr 5 (.int .i64))) a0_1),.obj c_a0_2 3 (I a0_2),.obj c_a0_3 3 (I a0_3)]) h (fun K h=>?_) (fun z2 x1 h=>?_)
 ·
  refine sr (mq ?_);refine ol mH ?_;refine dX rfl ?_;refine nt (aj (fN (jF (t:=(.slice (.int .i64))) (x:=[]) 7 rfl .nil rfl rfl) ?_));refine aL (fun z4 y3=>[(0,.eq (.func (.func 104) #[] #[(Pv c_a0_0),(Pv c_a0_1),(Pv c_a0_2),(Pv c_a0_3)])),(7,Ri y3.1),(8,I y3.2.1),(9,.eq (.bool y3.2.2.1)),(13,.rep (.slice (.slice (.int .i64))) a1),(14,I (a1.length:Int)),(15,I y3.2.2.2)]) (fun z4 y3=>[.obj c_a0_0 102 (.at bC a0_0),.obj c_a0_1 107 (.rep (.arr 3 (.arr 5 (.int .i64))) a0_1),.obj c_a0_2 3 (I a0_2),.obj c_a0_3 3 (I a0_3)]) (gB k a0_0 a0_1 a0_2 a0_3 a1) k () ([],0,false,0) (fun _=>rfl) h (SE.fin [0,1,2,3] ⟨rfl,rfl,rfl,rfl,rfl,rfl,rfl,trivial⟩ rfl) (fun n z4 y3 h=>?_);unfold gB at h;refine sr (jb (bG rfl) ?_);refine nt (ah (ci h (fun h=>?_) (fun h=>?_)))
  ·refine sk (aX (Z:=Unit) (α:=(List Int)×Int×Bool) (fun z6 x5=>[(0,.eq (.func (.func 104) #[] #[(Pv c_a0_0),(Pv c_a0_1),(Pv c_a0_2),(Pv c_a0_3)])),(7,Ri x5.1),(8,I x5.2.1),(9,.eq (.bool x5.2.2)),(13,.rep (.slice (.slice (.int .i64))) a1),(14,I (a1.length:Int)),(15,I y3.2.2.2)]) (fun z6 x5=>[.obj c_a0_0 102 (.at bC a0_0),.obj c_a0_1 107 (.rep (.arr 3 (.arr 5 (.int .i64))) a0_1),.obj c_a0_2 3 (I a0_2),.obj c_a0_3 3 (I a0_3)]) h (fun K h=>?_) (fun z6 x5 h=>?_))
   ·refine aj (sr ?_);obtain⟨x7,l,h⟩:=aa h;refine jb (aN (t:=(.slice (.int .i64))) rfl mH cp l) ?_;refine ja (ao (t:=(.slice (.int .i64))) rfl cp rfl) ?_;refine aq (nt (sr ?_));iterate 2 refine mq ?_
    obtain⟨r8,u,h⟩:=aa h;refine fr 3 ?_;refine fr 3 ?_;refine fr 3 ?_;refine fr 3 ?_;refine bH (Δ:=[_,_,_,_]) (F:=_) (fun _ _ _=>av rfl _) rfl rfl (nJ (fs:=[]) (cs:=[(Pv c_a0_0),(Pv c_a0_1),(Pv c_a0_2),(Pv c_a0_3)]) (ags:=[Ri x7]) [.tmp 20] rfl rfl OC rfl (sK k x7 a0_0 c_a0_0 a0_1 c_a0_1 a0_2 c_a0_2 a0_3 c_a0_3 r8 u)) ⟨rfl,rfl,trivial⟩ fun _=>?_;refine aq (nt ?_);refine aX (Z:=Unit) (α:=Bool) (fun c x9=>[(0,.eq (.func (.func 104) #[] #[(Pv c_a0_0),(Pv c_a0_1),(Pv c_a0_2),(Pv c_a0_3)])),(7,Ri y3.1),(8,I y3.2.1),(9,.eq (.bool y3.2.2.1)),(11,Ri x7),(12,I r8),(13,.rep (.slice (.slice (.int .i64))) a1),(14,I (a1.length:Int)),(15,I y3.2.2.2),(28,.eq (.bool x9))]) (fun c x9=>[.obj c_a0_0 102 (.at bC a0_0),.obj c_a0_1 107 (.rep (.arr 3 (.arr 5 (.int .i64))) a0_1),.obj c_a0_2 3 (I a0_2),.obj c_a0_3 3 (I a0_3)]) h (fun K h=>?_) (fun c x9 h=>?_)
    ·refine ab (mq ?_);refine ja (eK rfl) ?_;refine mq ?_;refine bT (s:=24) rfl (fun hb=>?_) (fun hb=>?_)
     ·replace h:=cC (ET hb) h;iterate 3 refine gn ?_
      refine pt (nl ?_);exact jz ((),true) h [0,1,2,3]
     ·replace h:=bL (yc hb) h;refine gm ?_;refine gm ?_;refine gb (bG rfl) ?_;refine pf (nl ?_);exact jz ((),decide (r8 < y3.2.1)) h [0,1,2,3]
    ·refine cv h (fun h=>?_) (fun h=>?_)
     ·refine ab ?_;iterate 2 refine mq ?_
      refine aq ?_;refine aq ?_;refine cq (ar (bn ?_));exact jz ((),(x7,r8,true)) h [0,1,2,3]
     ·refine aS (bn ?_);exact jz ((),(y3.1,y3.2.1,y3.2.2.1)) h [0,1,2,3]
   ·refine ab ?_;obtain⟨j,e,h⟩:=aa h;refine jb (bi rfl e) ?_;refine mq (nl ?_);exact jz ((),(x5.1,x5.2.1,x5.2.2,j)) h [0,1,2,3]
  ·refine xa ?_;exact jz ((),(y3.1,y3.2.1,y3.2.2.1)) h [0,1,2,3]
 ·
  refine sr ?_;iterate 3 refine mq ?_
  refine aq ?_;refine aq ?_;refine aq (nt (aA ?_));cases h;exact aF () [_,_,_] 4 ⟨rfl,rfl,rfl,trivial⟩ rfl
def pu(k:Nat)(a0:bj)(a1:(List (List Int)))(a2:Int)(a3:Int):Option ((List Int)×Int×Int):=
 (bV k a0 a1).bind fun r4=>
 if¬(r4=0) then(some ([],0,r4)) else((((ck ((a0.2.2.length:Int) - 1)).bind fun x7=>
 (dF k a2 0 x7).bind fun r8=>
 if¬(r8=true) then(some true) else((dF k a3 0 a0.1).bind fun r9=>
 some (!r9))):Option (Bool)).bind fun x5=>
 if x5=true then(some ([],0,3)) else((eS k a1).bind fun n=>
 (kK k (a0,()) n a3).bind fun e=>
 (fk k e a2).bind fun l=>
 (kR k l).bind fun j=>
 (kL k k j).bind fun h=>
 (kN k (a0,()) e a2 a3 h).bind fun c=>
 some (c.1,c.2.1,0)))
theorem uD(k:Nat)(a0:bj)(a1:(List (List Int)))(a2:Int)(a3:Int)(r:(List Int)×Int×Int)(h:pu k a0 a1 a2 a3=some r):
 cS (iw Tryz.prog) 42 [.rep aD a0,.rep (.slice (.slice (.int .i64))) a1,I a2,I a3] [.inv 0 (fP)] (fun _:Unit=>(bp [Ri r.1,I r.2.1,I r.2.2],[.inv 0 (fP)])):=by
 unfold pu at h
 replace h:=a9 h
 refine cS.of 60 Tryz.func42 rfl Tryz.ntmps42 rfl fun S w0=>?_
 refine sr ?_
 refine bx fun b1=>?_
 refine bx fun b2=>?_
 refine bx fun b3=>?_
 refine cq ?_
 refine cq ?_
 refine cq ?_
 refine nt ?_
 refine ah ?_
 refine sr ?_
 refine fr 2 ?_
 refine lo gW ?_
 refine mq ?_
 obtain⟨r4,QY,h⟩:=aa h
 have QZ:=dJ k a0 a1 r4 QY
 refine fr 3 ?_
 refine kb (ap [.tmp 18,.tmp 19] rfl rfl IA rfl QZ) ?_
 refine aq ?_
 refine nt ?_
 refine sr ?_
 refine mq ?_
 refine jb (ip rfl) ?_
 refine nt ?_
 refine cn h (fun h=>?_) (fun h=>?_)
 ·
  refine sr (mq ?_);refine cq ?_;refine cq ?_;refine aq (nt (rx ?_));refine bz (jF (t:=(.slice (.int .i64))) (x:=[]) 8 rfl .nil rfl rfl) ?_;cases h;exact aF () [_,_,_] 1 ⟨rfl,rfl,rfl,trivial⟩ rfl
 ·
  refine sk (ah (aX (Z:=Unit) (α:=Bool) (fun z6 x5=>[(1,.rep (.slice (.slice (.int .i64))) a1),(4,Pt b1),(6,Pt b2),(7,Pt b3),(37,.eq (.bool x5))]) (fun z6 x5=>[.obj b1 25 (.rep aD a0),.obj b2 3 (I a2),.obj b3 3 (I a3),.inv 0 (fP)]) h (fun K h=>?_) (fun z6 x5 h=>?_)))
  ·refine ab (fr 3 ?_);refine lo cH ?_;refine fl fq ?_;refine fr 2 ?_;refine lo cp ?_;refine ol ep ?_;obtain⟨x7,QV,h⟩:=aa h;refine jb (eJ rfl QV) ?_;obtain⟨r8,QX,h⟩:=aa h;refine jc (ap [.tmp 24,.const (.int .i64 (0)),.tmp 28] rfl rfl yJ rfl (dP k a2 0 x7 r8 QX)) ?_;refine ja (eK rfl) ?_;refine mq ?_;refine bT (s:=31) rfl (fun hb=>?_) (fun hb=>?_)
   ·replace h:=cC (ET hb) h;iterate 5 refine gn ?_
    refine pt (nl ?_);exact jz ((),true) h [0,1,3,2]
   ·replace h:=bL (yc hb) h;refine fr 3 ?_;refine lX rfl rfl rfl rfl rfl rfl (an rfl cH mX rfl) ⟨rfl,trivial⟩ ?_;refine ga (aw rfl m5) ?_;refine fr 1 ?_;refine lX rfl rfl rfl rfl rfl rfl (an rfl cH mX rfl) ⟨rfl,trivial⟩ ?_;obtain⟨r9,QW,h⟩:=aa h;refine gc (ap [.tmp 32,.const (.int .i64 (0)),.tmp 34] rfl rfl yJ rfl (dP k a3 0 a0.1 r9 QW)) ?_;refine ga (eK rfl) ?_;refine pf (nl ?_);exact jz ((), !r9) h [0,2,1,3]
  ·refine cv h (fun h=>?_) (fun h=>?_)
   ·refine sr (cq ?_);refine cq ?_;refine cq (nt (rx ?_));refine bz (jF (t:=(.slice (.int .i64))) (x:=[]) 8 rfl .nil rfl rfl) ?_;refine bz (SE.fin (Γ':=[(8,_),(9,_),(10,_)]) [3,0,1,2] ⟨rfl,rfl,rfl,trivial⟩ rfl) ?_;cases h;exact aF () [_,_,_] 1 ⟨rfl,rfl,rfl,trivial⟩ rfl
   ·refine sk (sr (lo gW ?_));refine aH rfl rfl rfl (ap [.tmp 38] rfl rfl Iy rfl (gR a0)) ⟨rfl,trivial⟩ fun c=>?_;refine cd (kG (bF k a0) my) ?_;refine aH rfl rfl rfl (bJ rfl L8 OO) trivial fun j=>?_;refine be rfl rfl (a8 rfl qi trivial rfl rfl) ⟨rfl,rfl,trivial⟩ ?_;refine nt (ah (j8 ?_));refine eF 0 rfl rfl rfl rfl (an rfl qi mX rfl) ⟨rfl,trivial⟩ ?_;refine aJ rfl rfl rfl (aU rfl) ⟨rfl,trivial⟩ ?_;obtain⟨u,U,h⟩:=aa h;refine aJ rfl rfl rfl (ap [.tmp 41] rfl rfl C7 rfl (eu k a1 u U)) ⟨rfl,trivial⟩ ?_;refine eF 4 rfl rfl rfl rfl (an rfl cH mX rfl) ⟨rfl,trivial⟩ ?_;obtain⟨l,Q,h⟩:=aa h;refine aJ rfl rfl rfl (dz (N:=[(.tmp 40,.at au (a0,(.map (some c)))),(.tmp 42,.rep (.arr 3 (.arr 5 (.int .i64))) u),(.tmp 43,I a3)]) (ap [.tmp 40,.tmp 42,.tmp 43] rfl rfl OD rfl (qc k (a0,()) u a3 l Q)) fun _ _ _ hn=>⟨(sb hn.1),hn.2.1,hn.2.2.1,trivial⟩) ⟨rfl,rfl,rfl,trivial⟩ ?_;refine By (J1 107 (.rep (.arr 3 (.arr 5 (.int .i64))) [[0,0,0,0,0],[0,0,0,0,0],[0,0,0,0,0]])) (fun _=>rfl) rfl rfl rfl (bJ rfl l6 mF) trivial ?_;refine om 6 [true,true,true,true,true,true] [] [] [] rfl (by kernel_rfl) (by kernel_rfl) (by kernel_rfl) fe (fun vs hv hB=>?_);obtain⟨w0,Q6,rfl,se⟩:=ak hv;obtain⟨w1,Q5,rfl,qt⟩:=ak se;obtain⟨w2,Q4,rfl,pp⟩:=ak qt;obtain⟨w3,Q3,rfl,mc⟩:=ak pp;obtain⟨w4,Q2,rfl,ac⟩:=ak mc;obtain⟨w5,Q1,rfl,Y⟩:=ak ac;obtain rfl:=lH Y;obtain⟨e,rfl⟩:=J0 hB.2.2.2.2.2.1;refine⟨[0,1,2,3,4,5,6],[.obj j 102 (.at au (a0,(.map (some c)))),.inv c (bF k a0),.obj b1 25 (.rep aD a0),.obj b2 3 (I a2),.obj b3 3 (I a3),.inv 0 (fP),.obj e 107 (.rep (.arr 3 (.arr 5 (.int .i64))) [[0,0,0,0,0],[0,0,0,0,0],[0,0,0,0,0]])],by kernel_rfl,by decide,?_⟩;refine lj 6 rfl ?_;refine pU rfl rfl (a8 rfl cI rfl rfl rfl) ⟨rfl,rfl,trivial⟩ (by kernel_rfl) ?_;refine sf ?_;refine bz (SE.fin (Γ':=[(6,Pt b2),(7,Pt b3),(12,Pt j),(13,Pt e)]) (Δ':=[.obj e 107 (.rep (.arr 3 (.arr 5 (.int .i64))) l),.obj j 102 (.at au (a0,(.map (some c)))),.inv c (bF k a0),.obj b1 25 (.rep aD a0),.obj b2 3 (I a2),.obj b3 3 (I a3),.inv 0 (fP)]) [0,1,2,3,4,5,6] ⟨rfl,rfl,rfl,rfl,trivial⟩ rfl) ?_;refine tn (sr (aB rfl (rG [] [.tmp 12,.tmp 13,.tmp 6,.tmp 7] [] [(Pv j),(Pv e),(Pv b2),(Pv b3)] rfl rfl rfl) ⟨rfl,rfl,rfl,rfl,trivial⟩ ?_));refine aq (nt (sr ?_));refine mq ?_;refine lo cI ?_;refine fr 4 ?_;refine lo cH ?_;obtain⟨n,O,h⟩:=aa h;refine jb (ap [.tmp 48,.tmp 49] rfl rfl Be rfl (fB k l a2 n O)) ?_;refine aH rfl rfl rfl (ap [.tmp 50] rfl rfl Oz rfl (qk n)) ⟨rfl,trivial⟩ fun Q0=>?_;obtain⟨D,M,h⟩:=aa h;refine ka (ap [.tmp 51] rfl rfl OA rfl (qm k n Q0 D M)) ?_;obtain⟨y,J,h⟩:=aa h;refine ja (ap [.tmp 52] rfl rfl JA rfl (uB k k D y J)) ?_;refine fr 3 ?_;refine cd (oR (a:=.at au (a0,(.map (some c)))) (a':=.at bC (a0,())) Ly) ?_
    obtain⟨X,E,h⟩:=aa h;refine fr 6 ?_;refine fr 3 ?_;refine fr 4 ?_;refine fr 3 ?_;refine bH (Δ:=[_,_,_,_]) (F:=_) (fun _ _ _=>av rfl _) rfl rfl (fy [.tmp 47,.tmp 53] rfl rfl OB rfl (qe k (a0,()) j l e a2 b2 a3 b3 y X E)) ⟨rfl,rfl,trivial⟩ fun _=>?_;refine mq ?_;refine xr ?_;refine xr ?_;refine xr ?_;refine aq ?_;refine aq ?_;refine aq (nt (sr ?_));iterate 2 refine mq ?_
    refine aq ?_;refine aq ?_;refine cq (nt (aA ?_));refine bz (SE.fin (Γ':=[(8,_),(9,_),(10,_)]) [7,0,1,2,3,4,5,6] ⟨rfl,rfl,rfl,trivial⟩ rfl) ?_;cases h;exact aF () [_,_,_] 1 ⟨rfl,rfl,rfl,trivial⟩ rfl
def gC(k:Nat)(a0:bj)(a1:(List (List (List Int)))):Nat→((List (List Int))×Int×Bool×Int)→Option ((List (List Int))×Int×Bool)
 |0,_=>none
 |n+1,y5=>
  if y5.2.2.2 < (a1.length:Int) then((((bb a1 y5.2.2.2).bind fun x9=>
  (cV k a0 x9).bind fun c=>
  ((if¬(y5.2.2.1=true) then(some true) else(some (decide (c < y5.2.1)))):Option (Bool)).bind fun h=>
  if h=true then(some (x9,c,true)) else(some (y5.1,y5.2.1,y5.2.2.1))):Option ((List (List Int))×Int×Bool)).bind fun x7=>
  (ck (y5.2.2.2+1)).bind fun e=>
  gC k a0 a1 n (x7.1,x7.2.1,x7.2.2,e)) else(some (y5.1,y5.2.1,y5.2.2.1))
def kO(k:Nat)(a0:bj)(a1:(List (List (List Int)))):Option ((List (List Int))×Int×Bool):=
 ((gC k a0 a1 k ([[0,0,0,0,0],[0,0,0,0,0],[0,0,0,0,0]],0,false,0)):Option ((List (List Int))×Int×Bool)).bind fun x3=>
 some (x3.1,x3.2.1,x3.2.2)
theorem qf(k:Nat)(a0:bj)(z_a0:Nat)(a1:(List (List (List Int))))(r:(List (List Int))×Int×Bool)(h:kO k a0 a1=some r):
 cS (iw Tryz.prog) 114 [.fn 111 (td [.at au (a0,(.map (some z_a0)))]),.rep (.slice (.arr 3 (.arr 5 (.int .i64)))) a1] [.inv z_a0 (bF k a0)] (fun _:Unit=>(bp [.rep (.arr 3 (.arr 5 (.int .i64))) r.1,I r.2.1,.eq (.bool r.2.2)],[.inv z_a0 (bF k a0)])):=by
 unfold kO at h
 replace h:=a9 h
 refine cS.of 35 Tryz.func114 rfl Tryz.ntmps114 rfl fun S w0=>?_
 refine sr ?_
 refine aH rfl rfl rfl (bJ rfl l6 mF) trivial fun b1=>?_
 refine cq ?_
 refine cq ?_
 refine nt ?_
 refine sr ?_
 refine aH rfl rfl rfl (bJ rfl l6 mF) trivial fun b2=>?_
 refine nt ?_
 refine sr ?_
 refine cq ?_
 refine cq ?_
 refine nt ?_
 refine aX (Z:=Unit) (α:=(List (List Int))×Int×Bool) (fun z4 x3=>[(4,Pt b1),(7,Pt b2),(8,I x3.2.1),(9,.eq (.bool x3.2.2))]) (fun z4 x3=>[.obj b1 107 (.rep (.arr 3 (.arr 5 (.int .i64))) [[0,0,0,0,0],[0,0,0,0,0],[0,0,0,0,0]]),.obj b2 107 (.rep (.arr 3 (.arr 5 (.int .i64))) x3.1),.inv z_a0 (bF k a0)]) h (fun K h=>?_) (fun z4 x3 h=>?_)
 ·
  refine sr (mq ?_);refine ol OT ?_;refine dX rfl ?_;refine nt (aj (aL (fun z6 y5=>[(0,.fn 111 (td [.at au (a0,(.map (some z_a0)))])),(4,Pt b1),(7,Pt b2),(8,I y5.2.1),(9,.eq (.bool y5.2.2.1)),(13,.rep (.slice (.arr 3 (.arr 5 (.int .i64)))) a1),(14,I (a1.length:Int)),(15,I y5.2.2.2)]) (fun z6 y5=>[.obj b1 107 (.rep (.arr 3 (.arr 5 (.int .i64))) [[0,0,0,0,0],[0,0,0,0,0],[0,0,0,0,0]]),.obj b2 107 (.rep (.arr 3 (.arr 5 (.int .i64))) y5.1),.inv z_a0 (bF k a0)]) (gC k a0 a1) k () ([[0,0,0,0,0],[0,0,0,0,0],[0,0,0,0,0]],0,false,0) (fun _=>rfl) h (SE.fin [1,0,2] ⟨rfl,rfl,rfl,rfl,rfl,rfl,rfl,rfl,trivial⟩ rfl) (fun n z6 y5 h=>?_)));unfold gC at h;refine sr (jb (bG rfl) ?_);refine nt (ah (ci h (fun h=>?_) (fun h=>?_)))
  ·refine sk (aX (Z:=Unit) (α:=(List (List Int))×Int×Bool) (fun z8 x7=>[(0,.fn 111 (td [.at au (a0,(.map (some z_a0)))])),(4,Pt b1),(7,Pt b2),(8,I x7.2.1),(9,.eq (.bool x7.2.2)),(13,.rep (.slice (.arr 3 (.arr 5 (.int .i64)))) a1),(14,I (a1.length:Int)),(15,I y5.2.2.2)]) (fun z8 x7=>[.obj b1 107 (.rep (.arr 3 (.arr 5 (.int .i64))) [[0,0,0,0,0],[0,0,0,0,0],[0,0,0,0,0]]),.obj b2 107 (.rep (.arr 3 (.arr 5 (.int .i64))) x7.1),.inv z_a0 (bF k a0)]) h (fun K h=>?_) (fun z8 x7 h=>?_))
   ·refine aj (sr ?_);obtain⟨x9,D,h⟩:=aa h;refine jb (aN (t:=(.arr 3 (.arr 5 (.int .i64)))) rfl OT cI D) ?_;refine ja (ao (t:=(.arr 3 (.arr 5 (.int .i64)))) rfl cI rfl) ?_;refine aH rfl rfl rfl (bJ rfl l6 mF) trivial fun x=>?_;refine be rfl rfl (a8 rfl cI rfl rfl rfl) ⟨rfl,rfl,trivial⟩ ?_;refine nt (sr (mq ?_));refine lo cI ?_;obtain⟨c,u,h⟩:=aa h;refine fr 3 ?_;refine kb (ES (fs:=[.at au (a0,(.map (some z_a0)))]) (ags:=[.rep (.arr 3 (.arr 5 (.int .i64))) x9]) [.tmp 20] rfl rfl Jz rfl (iY k a0 z_a0 x9 c u)) ?_;refine aq (nt ?_);refine aX (Z:=Unit) (α:=Bool) (fun j e=>[(0,.fn 111 (td [.at au (a0,(.map (some z_a0)))])),(4,Pt b1),(7,Pt b2),(8,I y5.2.1),(9,.eq (.bool y5.2.2.1)),(11,Pt x),(12,I c),(13,.rep (.slice (.arr 3 (.arr 5 (.int .i64)))) a1),(14,I (a1.length:Int)),(15,I y5.2.2.2),(28,.eq (.bool e))]) (fun j e=>[.obj b1 107 (.rep (.arr 3 (.arr 5 (.int .i64))) [[0,0,0,0,0],[0,0,0,0,0],[0,0,0,0,0]]),.obj b2 107 (.rep (.arr 3 (.arr 5 (.int .i64))) y5.1),.obj x 107 (.rep (.arr 3 (.arr 5 (.int .i64))) x9),.inv z_a0 (bF k a0)]) h (fun K h=>?_) (fun j e h=>?_)
    ·refine ab (mq ?_);refine ja (eK rfl) ?_;refine mq ?_;refine bT (s:=24) rfl (fun hb=>?_) (fun hb=>?_)
     ·replace h:=cC (ET hb) h;iterate 3 refine gn ?_
      refine pt (nl ?_);exact jz ((),true) h [2,3,1,0]
     ·replace h:=bL (yc hb) h;refine gm ?_;refine gm ?_;refine gb (bG rfl) ?_;refine pf (nl ?_);exact jz ((),decide (c < y5.2.1)) h [2,3,1,0]
    ·refine cv h (fun h=>?_) (fun h=>?_)
     ·refine ab (fr 2 ?_);refine lo cI ?_;refine mq ?_;refine fr 2 ?_;refine be rfl rfl (a8 rfl cI rfl rfl rfl) ⟨rfl,rfl,trivial⟩ ?_;refine aq ?_;refine cq (ar (bn ?_));exact jz ((),(x9,c,true)) h [2,0,3]
     ·refine aS (bn ?_);exact jz ((),(y5.1,y5.2.1,y5.2.2.1)) h [0,1,3]
   ·refine ab ?_;obtain⟨y,l,h⟩:=aa h;refine jb (bi rfl l) ?_;refine mq (nl ?_);exact jz ((),(x7.1,x7.2.1,x7.2.2,y)) h [0,1,2]
  ·refine xa ?_;exact jz ((),(y5.1,y5.2.1,y5.2.2.1)) h [0,1,2]
 ·
  refine sr (fr 1 ?_);refine lo cI ?_;iterate 2 refine mq ?_
  refine fr 1 ?_;refine be rfl rfl (a8 rfl cI rfl rfl rfl) ⟨rfl,rfl,trivial⟩ ?_;refine aq ?_;refine aq (nt (aA ?_));refine bz (SE.fin (Γ':=[(4,_),(5,_),(6,_)]) [2,0,1] ⟨rfl,rfl,rfl,trivial⟩ rfl) ?_;cases h;exact aF () [.rep (.arr 3 (.arr 5 (.int .i64))) x3.1,_,_] 1 ⟨⟨_,_,_,_,_,rfl,(.tail _ (.head _)),cI,(xe),rfl⟩,rfl,rfl,trivial⟩ rfl
def ti(k:Nat)(a0:bj):Option ((List (List Int))×Int×Int):=
 (jq k a0).bind fun r2=>
 if¬(r2=0) then(some ([],0,r2)) else((ju k (a0,())).bind fun r5=>
 (kO k a0 r5).bind fun r6=>
 if¬(r6.2.2=true) then(some ([],0,11)) else((gP k (a0,()) r6.1).bind fun r8=>
 some (r8,r6.2.1,0)))
theorem xB(k:Nat)(a0:bj)(r:(List (List Int))×Int×Int)(h:ti k a0=some r):
 cS (iw Tryz.prog) 56 [.rep aD a0] [] (fun _:Unit=>(bp [.rep (.slice (.slice (.int .i64))) r.1,I r.2.1,I r.2.2],[])):=by
 unfold ti at h
 replace h:=a9 h
 refine cS.of 33 Tryz.func56 rfl Tryz.ntmps56 rfl fun S w0=>?_
 refine sr ?_
 refine bx fun b1=>?_
 refine cq ?_
 refine cq ?_
 refine cq ?_
 refine nt ?_
 refine ah ?_
 refine sr ?_
 refine lo gW ?_
 obtain⟨r2,l,h⟩:=aa h
 have n:=mO k a0 r2 l
 refine ja (ap [.tmp 10] rfl rfl K9 rfl n) ?_
 refine aq ?_
 refine nt ?_
 refine sr ?_
 refine mq ?_
 refine jb (ip rfl) ?_
 refine nt ?_
 refine cn h (fun h=>?_) (fun h=>?_)
 ·
  refine sr (mq ?_);refine cq ?_;refine cq ?_;refine aq (nt (rx ?_));refine bz (jF (t:=(.slice (.slice (.int .i64)))) (x:=[]) 2 rfl .nil rfl rfl) ?_;cases h;exact aF () [_,_,_] 0 ⟨rfl,rfl,rfl,trivial⟩ rfl
 ·
  refine sk (sr (lo gW ?_));refine aH rfl rfl rfl (ap [.tmp 15] rfl rfl Iy rfl (gR a0)) ⟨rfl,trivial⟩ fun z3=>?_;refine cd (kG (bF k a0) my) ?_;refine aq (nt (sr ?_));refine mq ?_;refine ja (HG [.tmp 18] [.at au (a0,(.map (some z3)))] rfl rfl) ?_;refine mq ?_;refine aH rfl rfl rfl (dz (N:=[(.tmp 20,.at au (a0,(.map (some z3))))]) (ap [.tmp 20] rfl rfl Ov rfl (nB (a0,()))) fun _ _ _ hn=>⟨sb hn.1,trivial⟩) ⟨rfl,trivial⟩ fun b4=>?_;obtain⟨r5,j,h⟩:=aa h;refine ka (ap [.tmp 21] rfl rfl Ox rfl (oY k (a0,()) b4 r5 j)) ?_;obtain⟨r6,e,h⟩:=aa h;refine fr 1 ?_;refine kb (fy [.tmp 19,.tmp 22] rfl rfl Oy rfl (qf k a0 z3 r5 r6 e)) ?_;refine mq ?_;refine xr ?_;refine xr ?_;refine xr ?_;refine aH rfl rfl rfl (bJ rfl l6 mF) trivial fun b7=>?_;refine be rfl rfl (a8 rfl cI rfl rfl rfl) ⟨rfl,rfl,trivial⟩ ?_;refine aq ?_;refine aq (nt (ah (sr ?_)));refine mq ?_;refine ja (eK rfl) ?_;refine nt (cw h (fun h=>?_) (fun h=>?_))
  ·refine sr (cq ?_);refine cq ?_;refine cq (nt (rx ?_));refine bz (jF (t:=(.slice (.slice (.int .i64)))) (x:=[]) 2 rfl .nil rfl rfl) ?_;cases h;exact aF () [_,_,_] 0 ⟨rfl,rfl,rfl,trivial⟩ rfl
  ·refine sk (sr (mq ?_));refine lo cI ?_;obtain⟨r8,c,h⟩:=aa h;refine aH rfl rfl rfl (dz (N:=[(.tmp 29,.at au (a0,(.map (some z3)))),(.tmp 30,.rep (.arr 3 (.arr 5 (.int .i64))) r6.1)]) (ap [.tmp 29,.tmp 30] rfl rfl K4 rfl (iW k (a0,()) r6.1 r8 c)) fun _ _ _ hn=>⟨(sb hn.1),hn.2.1,trivial⟩) ⟨rfl,rfl,trivial⟩ fun v9=>?_;refine mq ?_;refine aq ?_;refine aq ?_;refine cq (nt (aA ?_));refine bz (gr [2,31] ⟨rfl,rfl,trivial⟩) ?_;cases h;exact aF () [_,_,_] 0 ⟨rfl,rfl,rfl,trivial⟩ rfl
set_option maxRecDepth 20000
set_option maxHeartbeats 4000000
def LS(b:Nat):List Int→Option Addr
 |[]=>none
 |_::_=>some ⟨b,0,none⟩
def O7:List Int→Value→Value
 |[],_=>.slice none 0 0
 |_::_,v=>v
theorem Lm(b:Nat)(l:List Int):LS b l=none∨LS b l=some ⟨b,0,none⟩:=by cases l <;> simp [LS]
theorem Gx(b:Nat)(l:List Int)(c:Int):LS b (l++[c])=some ⟨b,0,none⟩:=by cases l <;> rfl
theorem Gw(l:List Int)(c:Int)(v:Value):O7 (l++[c]) v=v:=by cases l <;> rfl
theorem Jh:lW Tryz.prog 86 9 1 16:=.of (z:=(.string .empty)) QT (by kernel_rfl) rfl rfl rfl
theorem K2:ag Tryz.prog 121:=ag.of Tryz.func121 (by kernel_rfl) (by kernel_rfl)
theorem NY:ag Tryz.prog 35:=ag.of Tryz.func35 (by kernel_rfl) (by kernel_rfl)
theorem MJ:dj Tryz.prog 25 3 true:=⟨fun w=>by kernel_rfl,fun w=>by kernel_rfl⟩
theorem Je:dj Tryz.prog 23 1 false:=⟨fun w=>by kernel_rfl,fun w=>by kernel_rfl⟩
theorem MI:dj Tryz.prog 3 1 false:=⟨fun w=>by kernel_rfl,fun w=>by kernel_rfl⟩
def iZ(c:Int):Int:=IntKind.i32.wrap (97+IntKind.i32.wrap c)
def fW(xs:List Int):Nat→Int×List Int→Option (List Int)
 |0,_=>none
 |n+1,y=>if y.1 < (xs.length:Int) then((bb xs y.1).bind fun c=>if 0≤iZ c∧iZ c≤127∧bO (y.2.length+1) then(ck (y.1+1)).bind fun z=>fW xs n (z,y.2++[iZ c]) else none) else some y.2
def eT(k:Nat)(a1:List (List Int)):Nat→Int×List ByteArray→Option (List ByteArray)
 |0,_=>none
 |n+1,y=>if y.1 < (a1.length:Int) then((bb a1 y.1).bind fun xs=>(fW xs k (0,[])).bind fun l=>if bO (y.2.length+1) then(ck (y.1+1)).bind fun z=>eT k a1 n (z,y.2++[fY l]) else none) else some y.2
def gi(k:Nat)(a0:bj)(a1:(List (List Int))):Option (Value×Int):=
 (bV k a0 a1).bind fun e=>if¬(e=0) then some (.string .empty,e) else(eT k a1 k (0,[])).bind fun ss=>(ox k ss ⟨#[47]⟩).bind fun r=>some (.string r,0)
theorem mL(k:Nat)(a0:bj)(a1:(List (List Int)))(r:Value×Int)(h:gi k a0 a1=some r):
 bW Tryz.prog 67 [.rep aD a0,.rep (.slice (.slice (.int .i64))) a1] [.inv 0 fP] (fun _:Unit=>(bp [.eq r.1,I r.2],[.inv 0 fP])):=by
 unfold gi at h
 replace h:=a9 h
 refine bW.of 43 Tryz.func67 rfl Tryz.ntmps67 rfl fun S w0=>?_
 refine sr ?_
 refine bx fun b2=>?_
 refine cq ?_
 refine cq ?_
 refine nt ?_
 refine ah ?_
 refine sr ?_
 obtain⟨e,ee,h⟩:=aa h
 have ce:=dJ k a0 a1 e ee
 refine ka (an rfl MJ (xf) rfl) ?_
 refine mq ?_
 refine fr 1 ?_
 refine kb (ap [.tmp 13,.tmp 14] rfl rfl NY rfl ce) ?_
 refine aq ?_
 refine nt ?_
 refine sr ?_
 refine mq ?_
 refine jb (ip rfl) ?_
 refine nt ?_
 refine bm rfl (fun hb=>?_) (fun hb=>?_)
 ·
  replace h:=cC (LR hb) h;refine sr (mq ?_);refine cq ?_;refine aq (nt (rx ?_));cases h;exact aF () [_,_] 1 ⟨rfl,rfl,trivial⟩ rfl
 replace h:=bL (CN hb) h
 refine sk ?_
 refine sr ?_
 refine cq ?_
 refine nt ?_
 rw [Option.bind_assoc] at h
 refine ah ?_
 refine sr ?_
 refine mq ?_
 refine ol mH ?_
 refine dX rfl ?_
 refine cd (SE.nil 9 .str) ?_
 refine nt ?_
 refine aj ?_
 refine aL (fun v y=>[(7,.eq v),(19,.rep (.slice (.slice (.int .i64))) a1),(20,I (a1.length:Int)),(21,I y.1)]) (fun v y=>[.sl v 9 .str y.2,.inv 0 fP]) (eT k a1) k (.slice none 0 0) (0,[]) (fun _=>rfl) h (SE.fin [0,1] ⟨rfl,rfl,rfl,rfl,trivial⟩ rfl) (fun n v7 y h=>?_)
 unfold eT at h
 refine sr ?_
 refine jb (bG rfl) ?_
 refine nt ?_
 refine ah ?_
 refine bm rfl (fun hb=>?_) (fun hb=>?_)
 ·
  replace h:=cC (nr hb) h;refine sk (ah (aj ?_));obtain⟨xs,exs,h⟩:=aa h;refine sr (jb (aN (t:=.slice (.int .i64)) rfl mH Je exs) ?_);refine ja (ao (t:=.slice (.int .i64)) rfl Je rfl) ?_;refine aq (nt (sr ?_));refine aH rfl rfl rfl (bJ rfl DJ GA) trivial fun b=>?_;refine nt ?_;rw [Option.bind_assoc] at h;refine ah (sr (mq ?_));refine ol ep ?_;refine dX rfl ?_;refine cd (SE.nil 5 (.int .u8)) ?_;refine nt (aj ?_)
  refine aL (fun v q=>[(7,.eq v7),(10,.eq (bP b)),(19,.rep (.slice (.slice (.int .i64))) a1),(20,I (a1.length:Int)),(21,I y.1),(25,Ri xs),(26,I (xs.length:Int)),(27,I q.1)])
   (fun v q=>[.obj b 162 (bA (.pointer (LS b q.2)) (O7 q.2 v)),.sl (O7 q.2 v) 5 (.int .u8) q.2,.sl v7 9 .str y.2,.inv 0 fP]) (fW xs) k undef (0,[]) (fun _=>rfl) h (SE.fin [1,0,2,3] ⟨rfl,rfl,rfl,rfl,rfl,rfl,rfl,rfl,trivial⟩ rfl) (fun n2 v q h=>?_)
  unfold fW at h;refine sr (jb (bG rfl) ?_);refine nt (ah (bm rfl (fun hb=>?_) (fun hb=>?_)))
  ·replace h:=cC (nr hb) h;refine sk (ah (aj ?_));obtain⟨c,ec,h⟩:=aa h;refine sr (jb (aN (t:=.int .i64) rfl ep MI ec) ?_);refine ja (ao (t:=.int .i64) rfl MI rfl) ?_;refine aq (nt ?_)
   have hk:0≤iZ c∧iZ c≤127∧bO (q.2.length+1):=by
    apply Classical.byContradiction;intro hn;rw [if_neg hn] at h;cases h
   replace h:=cC hk h;refine uu 1 rfl fun hv=>?_;refine ab (mq ?_);refine ja (nI rfl U3 QI) ?_;refine jb (zV rfl) ?_;refine bH (Δ:=[_,_]) (F:=_) (fun _ _ _=>av rfl _) rfl rfl (ap [.tmp 10,.tmp 33] rfl rfl K3 rfl (vX (b:=b) (p:=LS b q.2) (v:=O7 q.2 v) (l:=q.2) (r:=iZ c) (Lm b q.2) hv hk.1 hk.2.1 hk.2.2)) ⟨rfl,rfl,trivial⟩ fun v2=>?_;refine ar (aK (tn (ab ?_)));obtain⟨z3,ez3,h⟩:=aa h;refine jb (bi rfl ez3) ?_;refine mq (nl ?_);exact gw (v2,(z3,q.2++[iZ c])) h (SE.fin [0,1,2,3] ⟨rfl,rfl,rfl,rfl,rfl,rfl,rfl,rfl,trivial⟩ (by simp only [Gx,Gw];rfl))
  replace h:=bL (m6 hb) h;refine dt (aP (aP (bQ (tn ?_))));replace h:(if bO (y.2.length+1) then(ck (y.1+1)).bind fun z=>eT k a1 n (z,y.2++[fY q.2]) else none).bind _=some r:=h
  have hk:bO (y.2.length+1):=by
   apply Classical.byContradiction;intro hn;rw [if_neg hn] at h;cases h
  replace h:=cC hk h;refine ab (mq ?_);refine bH (Δ:=[_,_]) (F:=_) (fun _ _ _=>av rfl _) rfl rfl (ap [.tmp 10] rfl rfl F9 rfl (va (b:=b) (l:=q.2) (fun hn=>by rw [hn];rfl))) ⟨rfl,trivial⟩ fun _=>?_;refine ja (bB (t:=.str) [(.tmp 37,.eq (.string (fY q.2)))] [fY q.2] rfl rfl Jh (.cons rfl .str .nil) rfl rfl) ?_;refine dI rfl rfl rfl (bY rfl rfl Jh (by simpa using hk)) ⟨rfl,rfl,trivial⟩ fun v'=>?_;refine aq (ar (aK (tn (ab ?_))));obtain⟨z3,ez3,h⟩:=aa h;refine jb (bi rfl ez3) ?_;refine mq (nl ?_);exact jz (v',(z3,y.2++[fY q.2])) h [0,1]
 replace h:=bL (m6 hb) h
 refine dt ?_
 refine aP ?_
 refine aP ?_
 refine bQ ?_
 refine tn ?_
 replace h:((ox k y.2 ⟨#[47]⟩).bind fun r=>some (.string r,0)).bind some=some r:=h
 obtain⟨r1,j,h⟩:=aa h
 cases h
 have cj:=zA k y.2 _ r1 j
 refine sr ?_
 refine cd (gr [7] ⟨rfl,trivial⟩) ?_
 refine mq ?_
 refine jb (ap [.tmp 41,.const (.string ⟨#[47]⟩)] rfl rfl K2 rfl cj) ?_
 refine aq ?_
 refine cq ?_
 refine nt ?_
 refine aA ?_
 exact aF () [_,_] 1 ⟨rfl,rfl,trivial⟩ rfl
def iN(k:Nat):Option Bool:=
 (jT k ([]:(List Int))).bind fun r1=>
 (vr k).bind fun r2=>
 (vV k r1 r2 1).bind fun r3=>
 (jT k ([]:(List Int))).bind fun r4=>
 (vr k).bind fun r5=>
 (ow k r4 r5).bind fun r6=>
 (jT k ([]:(List Int))).bind fun r7=>
 (ti k r7).bind fun r8=>
 (jT k ([]:(List Int))).bind fun r9=>
 (Fz k).bind fun E=>
 (tg k r9 E).bind fun c=>
 (jT k ([]:(List Int))).bind fun D=>
 (vr k).bind fun y=>
 (pu k D y 0 1).bind fun h=>
 (jT k ([]:(List Int))).bind fun x=>
 (vr k).bind fun u=>
 (gi k x u).bind fun e=>
 ((if r3.2.2=0 then(if r6.2=0 then(if r8.2.2=0 then(if c.2.2.2=0 then(if h.2.2=0 then(if e.2=0 then(if r6.1=3 then(if r8.2.1=0 then(if c.1=0 then(if c.2.1=2 then(if c.2.2.1=1 then(if h.2.1=2 then((dh (ir e.1=true)).bind fun _=>
 if F6 e.1 (⟨#[98,97,100,47,99]⟩:ByteArray)=true then((ff k r3.1 [0]).bind fun s=>
 if s=true then((fo k r3.2.1 [[0,1,3],[2]]).bind fun r=>
 if r=true then((fo k r8.1 [[2,0],[1,3]]).bind fun n=>
 if n=true then((ff k h.1 [0,1,3]).bind fun l=>
 some l) else(some false)) else(some false)) else(some false)) else(some false)) else(some false)) else(some false)) else(some false)) else(some false)) else(some false)) else(some false)) else(some false)) else(some false)) else(some false)) else(some false)) else(some false)) else(some false)):Option (Bool)).bind fun j=>
 some j
theorem lU(k:Nat)(r:Bool)(h:iN k=some r):
 cS (iw Tryz.prog) 25 [] [.inv 0 (fP)] (fun _:Unit=>(bp [.eq (.bool r)],[.inv 0 (fP)])):=by
 unfold iN at h
 replace h:=a9 h
 refine cS.of 132 Tryz.func25 rfl Tryz.ntmps25 rfl fun S w0=>?_
 refine sr ?_
 refine cq ?_
 refine nt ?_
 refine sr ?_
 obtain⟨r1,Rk,h⟩:=aa h
 have Rw:=iQ k ([]:(List Int)) r1 Rk
 refine ja (dz (N:=[(.const (.slice none 0 0),.eq (.slice none 0 0))]) (ap [.const (.slice none 0 0)] rfl rfl C9 rfl Rw) fun _ _ _ hn=>⟨(jD (t:=(.slice (.int .i64))) (x:=([]:(List Int))) .nil rfl rfl hn.1),trivial⟩) ?_
 obtain⟨r2,Rj,h⟩:=aa h
 have Ru:=qG k r2 Rj
 refine aB rfl (ap [] rfl rfl Iz rfl Ru) trivial ?_
 obtain⟨r3,Rh,h⟩:=aa h
 have Rt:=zw k r1 r2 1 r3 Rh
 refine kc (ap [.tmp 19,.tmp 20,.const (.int .i64 (1))] rfl rfl Qk rfl Rt) ?_
 refine mq ?_
 refine xr ?_
 refine xr ?_
 refine xr ?_
 refine aq ?_
 refine aq ?_
 refine aq ?_
 refine nt ?_
 refine sr ?_
 obtain⟨r4,Rf,h⟩:=aa h
 have Rr:=iQ k ([]:(List Int)) r4 Rf
 refine ja (dz (N:=[(.const (.slice none 0 0),.eq (.slice none 0 0))]) (ap [.const (.slice none 0 0)] rfl rfl C9 rfl Rr) fun _ _ _ hn=>⟨(jD (t:=(.slice (.int .i64))) (x:=([]:(List Int))) .nil rfl rfl hn.1),trivial⟩) ?_
 obtain⟨r5,Re,h⟩:=aa h
 have Rq:=qG k r5 Re
 refine aB rfl (ap [] rfl rfl Iz rfl Rq) trivial ?_
 obtain⟨r6,Rb,h⟩:=aa h
 have Ro:=qh k r4 r5 r6 Rb
 refine kb (fy [.tmp 26,.tmp 27] rfl rfl Qe rfl Ro) ?_
 refine mq ?_
 refine xr ?_
 refine xr ?_
 refine aq ?_
 refine aq ?_
 refine nt ?_
 refine sr ?_
 obtain⟨r7,Q9,h⟩:=aa h
 have Rn:=iQ k ([]:(List Int)) r7 Q9
 refine ja (dz (N:=[(.const (.slice none 0 0),.eq (.slice none 0 0))]) (ap [.const (.slice none 0 0)] rfl rfl C9 rfl Rn) fun _ _ _ hn=>⟨(jD (t:=(.slice (.int .i64))) (x:=([]:(List Int))) .nil rfl rfl hn.1),trivial⟩) ?_
 obtain⟨r8,Q8,h⟩:=aa h
 have Rm:=xB k r7 r8 Q8
 refine ja (fy [.tmp 32] rfl rfl Qc rfl Rm) ?_
 refine mq ?_
 refine xr ?_
 refine xr ?_
 refine xr ?_
 refine aq ?_
 refine aq ?_
 refine aq ?_
 refine nt ?_
 refine sr ?_
 obtain⟨r9,Q7,h⟩:=aa h
 have Rl:=iQ k ([]:(List Int)) r9 Q7
 refine ja (dz (N:=[(.const (.slice none 0 0),.eq (.slice none 0 0))]) (ap [.const (.slice none 0 0)] rfl rfl C9 rfl Rl) fun _ _ _ hn=>⟨(jD (t:=(.slice (.int .i64))) (x:=([]:(List Int))) .nil rfl rfl hn.1),trivial⟩) ?_
 obtain⟨E,qt,h⟩:=aa h
 have Q1:=Fv k E qt
 refine aB rfl (ap [] rfl rfl Qa rfl Q1) trivial ?_
 obtain⟨Q6,pp,h⟩:=aa h
 have Q0:=xz k r9 E Q6 pp
 refine kb (fy [.tmp 38,.tmp 39] rfl rfl Qh rfl Q0) ?_
 refine mq ?_
 refine xr ?_
 refine xr ?_
 refine xr ?_
 refine xr ?_
 refine aq ?_
 refine aq ?_
 refine aq ?_
 refine aq ?_
 refine nt ?_
 refine sr ?_
 obtain⟨D,mc,h⟩:=aa h
 have QZ:=iQ k ([]:(List Int)) D mc
 refine ja (dz (N:=[(.const (.slice none 0 0),.eq (.slice none 0 0))]) (ap [.const (.slice none 0 0)] rfl rfl C9 rfl QZ) fun _ _ _ hn=>⟨(jD (t:=(.slice (.int .i64))) (x:=([]:(List Int))) .nil rfl rfl hn.1),trivial⟩) ?_
 obtain⟨y,ac,h⟩:=aa h
 have QY:=qG k y ac
 refine aB rfl (ap [] rfl rfl Iz rfl QY) trivial ?_
 obtain⟨u,Y,h⟩:=aa h
 have QX:=uD k D y 0 1 u Y
 refine bN rfl rfl rfl (fy [.tmp 46,.tmp 47,.const (.int .i64 (0)),.const (.int .i64 (1))] rfl rfl Qg rfl QX) ⟨rfl,rfl,rfl,rfl,trivial⟩ ?_
 refine mq ?_
 refine xr ?_
 refine xr ?_
 refine xr ?_
 refine aq ?_
 refine aq ?_
 refine aq ?_
 refine nt ?_
 refine sr ?_
 obtain⟨n,X,h⟩:=aa h
 have QW:=iQ k ([]:(List Int)) n X
 refine ja (dz (N:=[(.const (.slice none 0 0),.eq (.slice none 0 0))]) (ap [.const (.slice none 0 0)] rfl rfl C9 rfl QW) fun _ _ _ hn=>⟨(jD (t:=(.slice (.int .i64))) (x:=([]:(List Int))) .nil rfl rfl hn.1),trivial⟩) ?_
 obtain⟨l,U,h⟩:=aa h
 have QV:=qG k l U
 refine aB rfl (ap [] rfl rfl Iz rfl QV) trivial ?_
 obtain⟨Q5,Q,h⟩:=aa h
 have se:=mL k n l Q5 Q
 refine kb (ap [.tmp 53,.tmp 54] rfl rfl K5 rfl se) ?_
 refine mq ?_
 refine xr ?_
 refine xr ?_
 refine aq ?_
 refine aq ?_
 refine nt ?_
 refine aX (Z:=Unit) (α:=Bool) (fun e c=>[(0,.eq (.bool c))]) (fun e c=>[.inv 0 (fP)]) h (fun K h=>?_) (fun e c h=>?_)
 ·
  refine ab (mq ?_);refine jb (dS rfl) ?_;refine mq ?_;refine bT (s:=60) rfl (fun hb=>?_) (fun hb=>?_)
  ·replace h:=cC (nr hb) h;refine gm ?_;refine gb (dS rfl) ?_;refine pt ?_;refine mq ?_;refine bT (s:=64) rfl (fun hb=>?_) (fun hb=>?_)
   ·replace h:=cC (nr hb) h;refine gm ?_;refine gb (dS rfl) ?_;refine pt ?_;refine mq ?_;refine bT (s:=68) rfl (fun hb=>?_) (fun hb=>?_)
    ·replace h:=cC (nr hb) h;refine gm ?_;refine gb (dS rfl) ?_;refine pt ?_;refine mq ?_;refine bT (s:=72) rfl (fun hb=>?_) (fun hb=>?_)
     ·replace h:=cC (nr hb) h;refine gm ?_;refine gb (dS rfl) ?_;refine pt ?_;refine mq ?_;refine bT (s:=76) rfl (fun hb=>?_) (fun hb=>?_)
      ·replace h:=cC (nr hb) h;refine gm ?_;refine gb (dS rfl) ?_;refine pt ?_;refine mq ?_;refine bT (s:=80) rfl (fun hb=>?_) (fun hb=>?_)
       ·replace h:=cC (nr hb) h;refine gm ?_;refine gb (dS rfl) ?_;refine pt ?_;refine mq ?_;refine bT (s:=84) rfl (fun hb=>?_) (fun hb=>?_)
        ·replace h:=cC (nr hb) h;refine gm ?_;refine gb (dS rfl) ?_;refine pt ?_;refine mq ?_;refine bT (s:=88) rfl (fun hb=>?_) (fun hb=>?_)
         ·replace h:=cC (nr hb) h;refine gm ?_;refine gb (dS rfl) ?_;refine pt ?_;refine mq ?_;refine bT (s:=92) rfl (fun hb=>?_) (fun hb=>?_)
          ·replace h:=cC (nr hb) h;refine gm ?_;refine gb (dS rfl) ?_;refine pt ?_;refine mq ?_;refine bT (s:=96) rfl (fun hb=>?_) (fun hb=>?_)
           ·replace h:=cC (nr hb) h;refine gm ?_;refine gb (dS rfl) ?_;refine pt ?_;refine mq ?_;refine bT (s:=100) rfl (fun hb=>?_) (fun hb=>?_)
            ·replace h:=cC (nr hb) h;refine gm ?_;refine gb (dS rfl) ?_;refine pt ?_;refine mq ?_;refine bT (s:=104) rfl (fun hb=>?_) (fun hb=>?_)
             ·replace h:=cC (nr hb) h;refine gm ?_;obtain⟨Rx,F,h⟩:=aa h;refine gb (EQ rfl (aC F)) ?_;refine pt ?_;refine mq ?_;refine bT (s:=108) rfl (fun hb=>?_) (fun hb=>?_)
              ·replace h:=cC (BJ hb) h;refine gm ?_;refine ga (bB (t:=(.int .i64)) [(.const (.int .i64 (0)),_)] [0] rfl rfl eB (.cons rfl .int .nil) rfl rfl) ?_;obtain⟨Q4,O,h⟩:=aa h;refine gb (ap [.tmp 109,.tmp 110] rfl rfl K8 rfl (kg k r3.1 [0] Q4 O)) ?_;refine pt ?_;refine mq ?_;refine bT (s:=113) rfl (fun hb=>?_) (fun hb=>?_)
               ·replace h:=cC (BJ hb) h;refine gm ?_;refine gc (bB (t:=(.int .i64)) [(.const (.int .i64 (0)),_),(.const (.int .i64 (1)),_),(.const (.int .i64 (3)),_)] [0,1,3] rfl rfl eB (.cons rfl .int (.cons rfl .int (.cons rfl .int .nil))) rfl rfl) ?_;refine ga (bB (t:=(.int .i64)) [(.const (.int .i64 (2)),_)] [2] rfl rfl eB (.cons rfl .int .nil) rfl rfl) ?_;refine gb (bB (t:=(.slice (.int .i64))) [(.tmp 115,_),(.tmp 116,_)] [[0,1,3],[2]] rfl rfl qo (.cons rfl .rep (.cons rfl .rep .nil)) rfl rfl) ?_;obtain⟨Q3,M,h⟩:=aa h;refine gb (ap [.tmp 114,.tmp 117] rfl rfl K7 rfl (jy k r3.2.1 [[0,1,3],[2]] Q3 M)) ?_;refine pt ?_;refine mq ?_;refine bT (s:=120) rfl (fun hb=>?_) (fun hb=>?_)
                ·replace h:=cC (BJ hb) h;refine gm ?_;refine gb (bB (t:=(.int .i64)) [(.const (.int .i64 (2)),_),(.const (.int .i64 (0)),_)] [2,0] rfl rfl eB (.cons rfl .int (.cons rfl .int .nil)) rfl rfl) ?_;refine gb (bB (t:=(.int .i64)) [(.const (.int .i64 (1)),_),(.const (.int .i64 (3)),_)] [1,3] rfl rfl eB (.cons rfl .int (.cons rfl .int .nil)) rfl rfl) ?_;refine gb (bB (t:=(.slice (.int .i64))) [(.tmp 122,_),(.tmp 123,_)] [[2,0],[1,3]] rfl rfl qo (.cons rfl .rep (.cons rfl .rep .nil)) rfl rfl) ?_;obtain⟨Q2,J,h⟩:=aa h;refine gb (ap [.tmp 121,.tmp 124] rfl rfl K7 rfl (jy k r8.1 [[2,0],[1,3]] Q2 J)) ?_;refine pt ?_;refine mq ?_;refine bT (s:=127) rfl (fun hb=>?_) (fun hb=>?_)
                 ·replace h:=cC (BJ hb) h;refine gm ?_;refine gc (bB (t:=(.int .i64)) [(.const (.int .i64 (0)),_),(.const (.int .i64 (1)),_),(.const (.int .i64 (3)),_)] [0,1,3] rfl rfl eB (.cons rfl .int (.cons rfl .int (.cons rfl .int .nil))) rfl rfl) ?_;obtain⟨j,I,h⟩:=aa h;refine gb (ap [.tmp 128,.tmp 129] rfl rfl K8 rfl (kg k u.1 [0,1,3] j I)) ?_;refine pt ?_;refine aq (nl ?_);exact jz ((),j) h [0]
                 ·replace h:=bL (BK hb) h;iterate 3 refine gn ?_
                  refine pf ?_;refine aq (nl ?_);exact jz ((),false) h [0]
                ·replace h:=bL (BK hb) h;iterate 5 refine gn ?_
                 refine pf ?_;refine mq ?_;iterate 3 refine gn ?_
                 refine pf ?_;refine aq (nl ?_);exact jz ((),false) h [0]
               ·replace h:=bL (BK hb) h;iterate 5 refine gn ?_
                refine pf ?_;refine mq ?_;iterate 5 refine gn ?_
                refine pf ?_;refine mq ?_;iterate 3 refine gn ?_
                refine pf ?_;refine aq (nl ?_);exact jz ((),false) h [0]
              ·replace h:=bL (BK hb) h;iterate 3 refine gn ?_
               refine pf ?_;refine mq ?_;iterate 5 refine gn ?_
               refine pf ?_;refine mq ?_;iterate 5 refine gn ?_
               refine pf ?_;refine mq ?_;iterate 3 refine gn ?_
               refine pf ?_;refine aq (nl ?_);exact jz ((),false) h [0]
             ·replace h:=bL (m6 hb) h;iterate 2 refine gn ?_
              refine pf ?_;refine mq ?_;iterate 3 refine gn ?_
              refine pf ?_;refine mq ?_;iterate 5 refine gn ?_
              refine pf ?_;refine mq ?_;iterate 5 refine gn ?_
              refine pf ?_;refine mq ?_;iterate 3 refine gn ?_
              refine pf ?_;refine aq (nl ?_);exact jz ((),false) h [0]
            ·replace h:=bL (m6 hb) h;iterate 2 refine gn ?_
             refine pf ?_;refine mq ?_;iterate 2 refine gn ?_
             refine pf ?_;refine mq ?_;iterate 3 refine gn ?_
             refine pf ?_;refine mq ?_;iterate 5 refine gn ?_
             refine pf ?_;refine mq ?_;iterate 5 refine gn ?_
             refine pf ?_;refine mq ?_;iterate 3 refine gn ?_
             refine pf ?_;refine aq (nl ?_);exact jz ((),false) h [0]
           ·replace h:=bL (m6 hb) h;iterate 2 refine gn ?_
            refine pf ?_;refine mq ?_;iterate 2 refine gn ?_
            refine pf ?_;refine mq ?_;iterate 2 refine gn ?_
            refine pf ?_;refine mq ?_;iterate 3 refine gn ?_
            refine pf ?_;refine mq ?_;iterate 5 refine gn ?_
            refine pf ?_;refine mq ?_;iterate 5 refine gn ?_
            refine pf ?_;refine mq ?_;iterate 3 refine gn ?_
            refine pf ?_;refine aq (nl ?_);exact jz ((),false) h [0]
          ·replace h:=bL (m6 hb) h;iterate 2 refine gn ?_
           refine pf ?_;refine mq ?_;iterate 2 refine gn ?_
           refine pf ?_;refine mq ?_;iterate 2 refine gn ?_
           refine pf ?_;refine mq ?_;iterate 2 refine gn ?_
           refine pf ?_;refine mq ?_;iterate 3 refine gn ?_
           refine pf ?_;refine mq ?_;iterate 5 refine gn ?_
           refine pf ?_;refine mq ?_;iterate 5 refine gn ?_
           refine pf ?_;refine mq ?_;iterate 3 refine gn ?_
           refine pf ?_;refine aq (nl ?_);exact jz ((),false) h [0]
         ·replace h:=bL (m6 hb) h;iterate 2 refine gn ?_
          refine pf ?_;refine mq ?_;iterate 2 refine gn ?_
          refine pf ?_;refine mq ?_;iterate 2 refine gn ?_
          refine pf ?_;refine mq ?_;iterate 2 refine gn ?_
          refine pf ?_;refine mq ?_;iterate 2 refine gn ?_
          refine pf ?_;refine mq ?_;iterate 3 refine gn ?_
          refine pf ?_;refine mq ?_;iterate 5 refine gn ?_
          refine pf ?_;refine mq ?_;iterate 5 refine gn ?_
          refine pf ?_;refine mq ?_;iterate 3 refine gn ?_
          refine pf ?_;refine aq (nl ?_);exact jz ((),false) h [0]
        ·replace h:=bL (m6 hb) h;iterate 2 refine gn ?_
         refine pf ?_;refine mq ?_;iterate 2 refine gn ?_
         refine pf ?_;refine mq ?_;iterate 2 refine gn ?_
         refine pf ?_;refine mq ?_;iterate 2 refine gn ?_
         refine pf ?_;refine mq ?_;iterate 2 refine gn ?_
         refine pf ?_;refine mq ?_;iterate 2 refine gn ?_
         refine pf ?_;refine mq ?_;iterate 3 refine gn ?_
         refine pf ?_;refine mq ?_;iterate 5 refine gn ?_
         refine pf ?_;refine mq ?_;iterate 5 refine gn ?_
         refine pf ?_;refine mq ?_;iterate 3 refine gn ?_
         refine pf ?_;refine aq (nl ?_);exact jz ((),false) h [0]
       ·replace h:=bL (m6 hb) h;iterate 2 refine gn ?_
        refine pf ?_;refine mq ?_;iterate 2 refine gn ?_
        refine pf ?_;refine mq ?_;iterate 2 refine gn ?_
        refine pf ?_;refine mq ?_;iterate 2 refine gn ?_
        refine pf ?_;refine mq ?_;iterate 2 refine gn ?_
        refine pf ?_;refine mq ?_;iterate 2 refine gn ?_
        refine pf ?_;refine mq ?_;iterate 2 refine gn ?_
        refine pf ?_;refine mq ?_;iterate 3 refine gn ?_
        refine pf ?_;refine mq ?_;iterate 5 refine gn ?_
        refine pf ?_;refine mq ?_;iterate 5 refine gn ?_
        refine pf ?_;refine mq ?_;iterate 3 refine gn ?_
        refine pf ?_;refine aq (nl ?_);exact jz ((),false) h [0]
      ·replace h:=bL (m6 hb) h;iterate 2 refine gn ?_
       refine pf ?_;refine mq ?_;iterate 2 refine gn ?_
       refine pf ?_;refine mq ?_;iterate 2 refine gn ?_
       refine pf ?_;refine mq ?_;iterate 2 refine gn ?_
       refine pf ?_;refine mq ?_;iterate 2 refine gn ?_
       refine pf ?_;refine mq ?_;iterate 2 refine gn ?_
       refine pf ?_;refine mq ?_;iterate 2 refine gn ?_
       refine pf ?_;refine mq ?_;iterate 2 refine gn ?_
       refine pf ?_;refine mq ?_;iterate 3 refine gn ?_
       refine pf ?_;refine mq ?_;iterate 5 refine gn ?_
       refine pf ?_;refine mq ?_;iterate 5 refine gn ?_
       refine pf ?_;refine mq ?_;iterate 3 refine gn ?_
       refine pf ?_;refine aq (nl ?_);exact jz ((),false) h [0]
     ·replace h:=bL (m6 hb) h;iterate 2 refine gn ?_
      refine pf ?_;refine mq ?_;iterate 2 refine gn ?_
      refine pf ?_;refine mq ?_;iterate 2 refine gn ?_
      refine pf ?_;refine mq ?_;iterate 2 refine gn ?_
      refine pf ?_;refine mq ?_;iterate 2 refine gn ?_
      refine pf ?_;refine mq ?_;iterate 2 refine gn ?_
      refine pf ?_;refine mq ?_;iterate 2 refine gn ?_
      refine pf ?_;refine mq ?_;iterate 2 refine gn ?_
      refine pf ?_;refine mq ?_;iterate 2 refine gn ?_
      refine pf ?_;refine mq ?_;iterate 3 refine gn ?_
      refine pf ?_;refine mq ?_;iterate 5 refine gn ?_
      refine pf ?_;refine mq ?_;iterate 5 refine gn ?_
      refine pf ?_;refine mq ?_;iterate 3 refine gn ?_
      refine pf ?_;refine aq (nl ?_);exact jz ((),false) h [0]
    ·replace h:=bL (m6 hb) h;iterate 2 refine gn ?_
     refine pf ?_;refine mq ?_;iterate 2 refine gn ?_
     refine pf ?_;refine mq ?_;iterate 2 refine gn ?_
     refine pf ?_;refine mq ?_;iterate 2 refine gn ?_
     refine pf ?_;refine mq ?_;iterate 2 refine gn ?_
     refine pf ?_;refine mq ?_;iterate 2 refine gn ?_
     refine pf ?_;refine mq ?_;iterate 2 refine gn ?_
     refine pf ?_;refine mq ?_;iterate 2 refine gn ?_
     refine pf ?_;refine mq ?_;iterate 2 refine gn ?_
     refine pf ?_;refine mq ?_;iterate 2 refine gn ?_
     refine pf ?_;refine mq ?_;iterate 3 refine gn ?_
     refine pf ?_;refine mq ?_;iterate 5 refine gn ?_
     refine pf ?_;refine mq ?_;iterate 5 refine gn ?_
     refine pf ?_;refine mq ?_;iterate 3 refine gn ?_
     refine pf ?_;refine aq (nl ?_);exact jz ((),false) h [0]
   ·replace h:=bL (m6 hb) h;iterate 2 refine gn ?_
    refine pf ?_;refine mq ?_;iterate 2 refine gn ?_
    refine pf ?_;refine mq ?_;iterate 2 refine gn ?_
    refine pf ?_;refine mq ?_;iterate 2 refine gn ?_
    refine pf ?_;refine mq ?_;iterate 2 refine gn ?_
    refine pf ?_;refine mq ?_;iterate 2 refine gn ?_
    refine pf ?_;refine mq ?_;iterate 2 refine gn ?_
    refine pf ?_;refine mq ?_;iterate 2 refine gn ?_
    refine pf ?_;refine mq ?_;iterate 2 refine gn ?_
    refine pf ?_;refine mq ?_;iterate 2 refine gn ?_
    refine pf ?_;refine mq ?_;iterate 2 refine gn ?_
    refine pf ?_;refine mq ?_;iterate 3 refine gn ?_
    refine pf ?_;refine mq ?_;iterate 5 refine gn ?_
    refine pf ?_;refine mq ?_;iterate 5 refine gn ?_
    refine pf ?_;refine mq ?_;iterate 3 refine gn ?_
    refine pf ?_;refine aq (nl ?_);exact jz ((),false) h [0]
  ·replace h:=bL (m6 hb) h;iterate 2 refine gn ?_
   refine pf ?_;refine mq ?_;iterate 2 refine gn ?_
   refine pf ?_;refine mq ?_;iterate 2 refine gn ?_
   refine pf ?_;refine mq ?_;iterate 2 refine gn ?_
   refine pf ?_;refine mq ?_;iterate 2 refine gn ?_
   refine pf ?_;refine mq ?_;iterate 2 refine gn ?_
   refine pf ?_;refine mq ?_;iterate 2 refine gn ?_
   refine pf ?_;refine mq ?_;iterate 2 refine gn ?_
   refine pf ?_;refine mq ?_;iterate 2 refine gn ?_
   refine pf ?_;refine mq ?_;iterate 2 refine gn ?_
   refine pf ?_;refine mq ?_;iterate 2 refine gn ?_
   refine pf ?_;refine mq ?_;iterate 2 refine gn ?_
   refine pf ?_;refine mq ?_;iterate 3 refine gn ?_
   refine pf ?_;refine mq ?_;iterate 5 refine gn ?_
   refine pf ?_;refine mq ?_;iterate 5 refine gn ?_
   refine pf ?_;refine mq ?_;iterate 3 refine gn ?_
   refine pf ?_;refine aq (nl ?_);exact jz ((),false) h [0]
 ·
  refine aA ?_;cases h;exact aF () [_] 1 ⟨rfl,trivial⟩ rfl
def gV(k:Nat)(a1:Value):Nat→(Nat×(List (List Int)))→Option (Except ((List (List Int))×Int) (Nat×(List (List Int))))
 |0,_=>none
 |n+1,y9=>
  if y9.1 < (j9 a1).size then(if((Utf8.decode (j9 a1) y9.1).1:Int)=47 then((dh (bO (List.length y9.2+List.length [([]:(List Int))]))).bind fun _=>
  gV k a1 n (y9.1+(Utf8.decode (j9 a1) y9.1).2,y9.2++[([]:(List Int))])) else(((if 97≤((Utf8.decode (j9 a1) y9.1).1:Int) then(some (decide (((Utf8.decode (j9 a1) y9.1).1:Int)≤122),y9.2)) else(some (false,y9.2))):Option (Bool×(List (List Int)))).bind fun c=>
  if c.1=true then((ck ((c.2.length:Int) - 1)).bind fun j=>
  (bb c.2 j).bind fun h=>
  (ck (IntKind.i32.wrap (((Utf8.decode (j9 a1) y9.1).1:Int) - 97))).bind fun e=>
  (dh (bO (List.length h+List.length [e]))).bind fun _=>
  gV k a1 n (y9.1+(Utf8.decode (j9 a1) y9.1).2,List.set c.2 (Int.toNat j) (h++[e]))) else(some (.error ([],2))))) else(some (.ok (y9.1,y9.2)))
def mf(k:Nat)(a0:bj)(a1:Value):Option ((List (List Int))×Int):=
 (jq k a0).bind fun r2=>
 if¬(r2=0) then(some ([],r2)) else((dh (ir a1=true)).bind fun _=>
 if 20 < ((j9 a1).size:Int) then(some ([],10)) else(bE (α:=Nat×(List (List Int))) ((dh (ir a1=true)).bind fun _=>
 gV k a1 k (0,[([]:(List Int))])) (some) fun x5=>
 (bV k a0 x5.2).bind fun c=>
 if¬(c=0) then(some ([],c)) else(some (x5.2,0))))
theorem sq(k:Nat)(a0:bj)(a1:Value)(r:(List (List Int))×Int)(h:mf k a0 a1=some r):
 bW Tryz.prog 70 [.rep aD a0,.eq a1] [.inv 0 (fP)] (fun _:Unit=>(bp [.rep (.slice (.slice (.int .i64))) r.1,I r.2],[.inv 0 (fP)])):=by
 unfold mf at h
 replace h:=a9 h
 refine bW.of 61 Tryz.func70 rfl Tryz.ntmps70 rfl fun S w0=>?_
 refine sr ?_
 refine bx fun b1=>?_
 refine cq ?_
 refine cq ?_
 refine nt ?_
 refine ah ?_
 refine sr ?_
 refine lo gW ?_
 obtain⟨r2,se,h⟩:=aa h
 have QV:=mO k a0 r2 se
 refine ja (ap [.tmp 11] rfl rfl K9 rfl QV) ?_
 refine aq ?_
 refine nt ?_
 refine sr ?_
 refine mq ?_
 refine jb (ip rfl) ?_
 refine nt ?_
 refine cn h (fun h=>?_) (fun h=>?_)
 ·
  refine sr (mq ?_);refine cq ?_;refine aq (nt (rx ?_));refine bz (jF (t:=(.slice (.slice (.int .i64)))) (x:=[]) 4 rfl .nil rfl rfl) ?_;refine bz (SE.fin (Γ':=[(4,_),(5,_)]) [1,0] ⟨rfl,rfl,trivial⟩ rfl) ?_;cases h;exact aF () [_,_] 1 ⟨rfl,rfl,trivial⟩ rfl
 ·
  refine sk (ah (sr (mq ?_)));obtain⟨u3,qt,h⟩:=aa h;refine ja (AW rfl rfl U9 (aC qt)) ?_;refine jb (ji rfl) ?_;refine nt (ci h (fun h=>?_) (fun h=>?_))
  ·refine sr (cq ?_);refine cq (nt (rx ?_));refine bz (jF (t:=(.slice (.slice (.int .i64)))) (x:=[]) 4 rfl .nil rfl rfl) ?_;refine bz (SE.fin (Γ':=[(4,_),(5,_)]) [1,0] ⟨rfl,rfl,trivial⟩ rfl) ?_;cases h;exact aF () [_,_] 1 ⟨rfl,rfl,trivial⟩ rfl
  ·refine sk (sr (aH rfl rfl rfl (mU (t:=.val) [(.const (.slice none 0 0),_)] [.slice none 0 0] rfl rfl qo (.cons rfl (.val rfl) .nil) rfl rfl) ⟨rfl,trivial⟩ fun v4=>?_));refine cd (y8 (n:=1) (F:=[.obj b1 25 (.rep aD a0),.inv 0 (fP)])) ?_;refine aq (nt ?_);refine dE (Z:=Nat×(Value×(Nat→Value))) (α:=Nat×(List (List Int))) (fun z6 x5=>[(2,Pt b1),(7,.eq z6.2.1)]) (fun z6 x5=>[.obj b1 25 (.rep aD a0),.inv 0 (fP),.raw z6.1 (.stringIter (j9 a1) x5.1)]++ek 23 z6.2 x5.2) (fun e=>e=r) h (fun e h=>Option.some.inj h) (fun K hR h=>?_) (fun z6 x5 h=>?_)
   ·refine sr (mq ?_);obtain⟨u7,pp,h⟩:=aa h;refine aH rfl rfl rfl (Ce rfl U9 (aC pp)) ⟨rfl,trivial⟩ fun z8=>?_;refine nt (aj (aL (Z:=(Value×(Nat→Value))) (α:=Nat×(List (List Int))) (fun c y9=>[(2,Pt b1),(7,.eq c.1),(21,Pt z8)]) (fun c y9=>[.obj b1 25 (.rep aD a0),.raw z8 (.stringIter (j9 a1) y9.1),.inv 0 (fP)]++ek 23 c y9.2) (gV k a1) k (v4,fun _=>.slice none 0 0) (0,[([]:(List Int))]) (fun _=>rfl) h (aV [.raw z8 (.stringIter (j9 a1) 0),.obj b1 25 (.rep aD a0),.inv 0 (fP)] (ek 23 (v4,fun _=>.slice none 0 0) [([]:(List Int))]) [1,0,2] ⟨rfl,rfl,rfl,trivial⟩ rfl) (fun n c y9 h=>?_)));unfold gV at h;refine sr ?_;rcases Nat.lt_or_ge y9.1 (j9 a1).size with hb |hb
    ·replace h:=cC hb h;refine fr 1 ?_;refine ka (EC rfl hb) ?_;refine xr ?_;refine nt (ah (bm rfl (fun hb=>?_) (fun hb=>(by cases hb))));refine sk (aj (sr (xr ?_)));refine aq (nt (aj (sr ?_)));refine mq ?_;refine jb (dS rfl) ?_;refine aq (nt ?_);refine ci h (fun h=>?_) (fun h=>?_)
     ·refine ab (mq ?_);refine ja (bB (t:=.val) [(.const (.slice none 0 0),_)] [.slice none 0 0] rfl rfl qo (.cons rfl (.val rfl) .nil) rfl rfl) ?_;obtain⟨QX,Y,h⟩:=aa h;refine cd (wU (pre:=[.raw z8 (.stringIter (j9 a1) (y9.1+(Utf8.decode (j9 a1) y9.1).2)),.obj b1 25 (.rep aD a0),.inv 0 (fP)])) ?_;refine dI rfl rfl rfl (bY rfl rfl qo (Ft (aC Y))) ⟨rfl,rfl,trivial⟩ fun O=>?_;refine cd (SE.nil 3 (.int .i64)) ?_;refine cd (vM (pre:=[.raw z8 (.stringIter (j9 a1) (y9.1+(Utf8.decode (j9 a1) y9.1).2)),.obj b1 25 (.rep aD a0),.inv 0 (fP)])) ?_;refine aq (ar (aK (bn ?_)));exact gw ((O,lr c.2 (List.length y9.2) (.slice none 0 0)),(y9.1+(Utf8.decode (j9 a1) y9.1).2,y9.2++[([]:(List Int))])) h (aV [.raw z8 (.stringIter (j9 a1) (y9.1+(Utf8.decode (j9 a1) y9.1).2)),.obj b1 25 (.rep aD a0),.inv 0 (fP)] (ek 23 (O,lr c.2 (List.length y9.2) (.slice none 0 0)) (y9.2++[([]:(List Int))])) [1,0,2] ⟨rfl,rfl,rfl,trivial⟩ rfl)
     ·refine aX (Z:=(Value×(Nat→Value))) (α:=Bool×(List (List Int))) (fun l y=>[(2,Pt b1),(7,.eq l.1),(9,.eq (.int .i32 ((Utf8.decode (j9 a1) y9.1).1:Int))),(21,Pt z8),(31,.eq (.bool y.1))]) (fun l y=>[.obj b1 25 (.rep aD a0),.raw z8 (.stringIter (j9 a1) (y9.1+(Utf8.decode (j9 a1) y9.1).2)),.inv 0 (fP)]++ek 23 l y.2) h (fun K h=>?_) (fun l y h=>?_)
      ·refine ab (mq ?_);refine jb (nH rfl) ?_;refine mq ?_;refine bT (s:=34) rfl (fun hb=>?_) (fun hb=>?_)
       ·replace h:=cC (nr hb) h;refine gm ?_;refine gb (sA rfl) ?_;refine pt ?_;refine aq (nl ?_);exact gw (c,(decide (((Utf8.decode (j9 a1) y9.1).1:Int)≤122),y9.2)) h (aV [.raw z8 (.stringIter (j9 a1) (y9.1+(Utf8.decode (j9 a1) y9.1).2)),.obj b1 25 (.rep aD a0),.inv 0 (fP)] (ek 23 c y9.2) [1,0,2] ⟨rfl,rfl,rfl,rfl,rfl,trivial⟩ rfl)
       ·replace h:=bL (m6 hb) h;iterate 2 refine gn ?_
        refine pf ?_;refine aq (nl ?_);exact gw (c,(false,y9.2)) h (aV [.raw z8 (.stringIter (j9 a1) (y9.1+(Utf8.decode (j9 a1) y9.1).2)),.obj b1 25 (.rep aD a0),.inv 0 (fP)] (ek 23 c y9.2) [1,0,2] ⟨rfl,rfl,rfl,rfl,rfl,trivial⟩ rfl)
      ·refine cv h (fun h=>?_) (fun h=>?_)
       ·obtain⟨u,D,h⟩:=aa h;obtain⟨J,j,h⟩:=aa h;refine fN (sd (pre:=[.obj b1 25 (.rep aD a0),.raw z8 (.stringIter (j9 a1) (y9.1+(Utf8.decode (j9 a1) y9.1).2)),.inv 0 (fP)]) (oL j).2) ?_;refine ab ?_;iterate 2 refine mq ?_
        refine fr 1 ?_;refine ka (xW rfl rfl mH) ?_;refine jb (eJ rfl D) ?_;iterate 2 refine mq ?_
        refine ka (xW rfl rfl mH) ?_;refine jb (eJ rfl D) ?_;refine kb (bu (t:=.val) rfl mH cp (jH j)) ?_;refine ka (fD (i:=Int.toNat u) (off:=0) rfl cp (fun _=>rfl) rfl (cP (jH j)).2.2 rfl) ?_;refine mq ?_;refine jb (zQ rfl) ?_;obtain⟨E,Q,h⟩:=aa h;refine ja (tV rfl QI U3 Q) ?_;refine ja (bB (t:=(.int .i64)) [(.tmp 50,_)] [E] rfl rfl eB (.cons rfl .int .nil) rfl rfl) ?_;obtain⟨QW,U,h⟩:=aa h;refine fr 1 ?_;refine dI rfl rfl rfl (bY rfl rfl eB (aC U)) ⟨rfl,rfl,trivial⟩ fun M=>?_;refine fr 1 ?_;refine kb (bu (t:=.val) rfl mH cp (jH j)) ?_;refine fr 1 ?_;refine uq fun o20=>?_;refine fr 1 ?_;refine be rfl rfl (cZ (i:=Int.toNat u) rfl cp rfl (iG (jH j)) rfl (.val o20) o20) ⟨rfl,rfl,trivial⟩ ?_;refine ar (di 1 rfl ?_);refine bz (uk (pre:=[.obj b1 25 (.rep aD a0),.raw z8 (.stringIter (j9 a1) (y9.1+(Utf8.decode (j9 a1) y9.1).2)),.inv 0 (fP)]) (z:=l) (i:=Int.toNat u) (oL j).2) ?_;refine aK (bn ?_);exact gw ((l.1,lr l.2 (Int.toNat u) M),(y9.1+(Utf8.decode (j9 a1) y9.1).2,List.set y.2 (Int.toNat u) (J++[E]))) h (aV [.obj b1 25 (.rep aD a0),.raw z8 (.stringIter (j9 a1) (y9.1+(Utf8.decode (j9 a1) y9.1).2)),.inv 0 (fP)] (ek 23 (l.1,lr l.2 (Int.toNat u) M) (List.set y.2 (Int.toNat u) (J++[E]))) [0,1,2] ⟨rfl,rfl,rfl,trivial⟩ rfl)
       ·refine sr (cq ?_);refine cq (nt (aA (aZ (aZ (aM (aZ (aM ?_)))))));refine bz (jF (t:=(.slice (.slice (.int .i64)))) (x:=[]) 4 rfl .nil rfl rfl) ?_;refine bz (SE.fin (Γ':=[(4,_),(5,_)]) [2,0,1] ⟨rfl,rfl,trivial⟩ rfl) ?_;obtain rfl:=hR _ h;exact aF () [_,_] 1 ⟨rfl,rfl,trivial⟩ rfl
    ·replace h:=bL (Nat.not_lt.2 hb) h;refine fr 1 ?_;refine ka (Cf rfl (Nat.not_lt.2 hb)) ?_;refine xr ?_;refine nt (ah (bm rfl (fun hb=>(by cases hb)) (fun hb=>?_)));refine xa ?_;exact gw ((z8,c),(y9.1,y9.2)) h (aV [.raw z8 (.stringIter (j9 a1) y9.1),.obj b1 25 (.rep aD a0),.inv 0 (fP)] (ek 23 c y9.2) [1,2,0] ⟨rfl,rfl,trivial⟩ rfl)
   ·refine ah (sr (lo gW ?_));refine mq ?_;obtain⟨mc,ac,h⟩:=aa h;refine fr 1 ?_;refine Du (R0:=[_]) (X:=[_,_]) (N:=[(.tmp 54,.rep aD a0),(.tmp 55,.eq z6.2.1)]) rfl rfl rfl (ap [.tmp 54,.tmp 55] rfl rfl IA rfl (dJ k a0 x5.2 mc ac)) (fun _ _ _ hl hn=>⟨hn.1,(HZ hn.2.1 hl),trivial⟩) rfl (F4 rfl) ⟨rfl,rfl,trivial⟩ ?_;refine aq (nt (sr ?_));refine mq ?_;refine jb (ip rfl) ?_;refine nt (cn h (fun h=>?_) (fun h=>?_))
    ·refine sr (mq ?_);refine cq ?_;refine aq (nt (rx ?_));refine bz (jF (t:=(.slice (.slice (.int .i64)))) (x:=[]) 4 rfl .nil rfl rfl) ?_;cases h;exact aF () [_,_] 1 ⟨rfl,rfl,trivial⟩ rfl
    ·refine sk (sr (mq ?_));refine aq ?_;refine cq (nt (aA ?_));refine bz (za (pre:=[.inv 0 (fP),.obj b1 25 (.rep aD a0),.raw z6.1 (.stringIter (j9 a1) x5.1)])) ?_;refine bz (gr [4,7,55,60] ⟨rfl,rfl,rfl,rfl,trivial⟩) ?_;cases h;exact aF () [_,_] 1 ⟨rfl,rfl,trivial⟩ rfl
def jM(k:Nat)(a0:(List Int))(a1:Value):Option Bool:=
 (dh (ir a1=true)).bind fun _=>
 if 40 < ((j9 a1).size:Int) then((iN k).bind fun r2=>
 some r2) else((lI k a0).bind fun r3=>
 (mt k (r3.1,r3.2.1,r3.2.2) 5).bind fun r5=>
 (mf k r5.1 a1).bind fun r7=>
 bE (α:=Unit) (if r7.2=0 then((gi k r5.1 r7.1).bind fun e=>
 ((if¬(e.2=0) then(some true) else((dh (ir e.1=true∧ir a1=true)).bind fun _=>
 some (!(tl e.1 a1)))):Option (Bool)).bind fun n=>
 if n=true then(some (.error false)) else(some (.ok ()))) else(some (.ok ()))) (some) fun _=>
 (gi k r5.1 r5.2.1).bind fun c=>
 if¬(r5.2.2.1=true) then(((if¬(c.2=0) then((dh (ir c.1=true∧ir (.string ⟨#[]⟩)=true)).bind fun _=>
 if tl c.1 (.string ⟨#[]⟩)=true then((iN k).bind fun u=>
 some u) else(some false)) else(some false)):Option (Bool)).bind fun l=>
 some l) else((mf k r5.1 c.1).bind fun h=>
 ((if c.2=0 then(if h.2=0 then((fo k h.1 r5.2.1).bind fun s=>
 if s=true then((iN k).bind fun r=>
 some r) else(some false)) else(some false)) else(some false)):Option (Bool)).bind fun j=>
 some j))
theorem rP(k:Nat)(a0:(List Int))(a1:Value)(r:Bool)(h:jM k a0 a1=some r):
 cS (iw Tryz.prog) 17 [Ri a0,.eq a1] [.inv 0 (fP)] (fun _:Unit=>(bp [.eq (.bool r)],[.inv 0 (fP)])):=by
 unfold jM at h
 replace h:=a9 h
 refine cS.of 85 Tryz.func17 rfl Tryz.ntmps17 rfl fun S w0=>?_
 refine sr ?_
 refine cq ?_
 refine nt ?_
 refine ah ?_
 refine sr ?_
 refine mq ?_
 obtain⟨u1,pp,h⟩:=aa h
 refine ja (AW rfl rfl U9 (aC pp)) ?_
 refine jb (ji rfl) ?_
 refine nt ?_
 refine ci h (fun h=>?_) (fun h=>?_)
 ·
  refine sr ?_;obtain⟨r2,QW,h⟩:=aa h;refine bN rfl rfl rfl (fy [] rfl rfl La rfl (lU k r2 QW)) trivial ?_;refine aq (nt (rx ?_));cases h;exact aF () [_] 1 ⟨rfl,trivial⟩ rfl
 ·
  refine sk (sr (mq ?_));obtain⟨r3,QV,h⟩:=aa h;refine aH rfl rfl rfl (ap [.tmp 21] rfl rfl Ql rfl (t5 k a0 r3 QV)) ⟨rfl,trivial⟩ fun b4=>?_;obtain⟨r5,se,h⟩:=aa h;refine kb (ap [.tmp 22,.const (.int .i64 (5))] rfl rfl Qf rfl (yv k (r3.1,r3.2.1,r3.2.2) b4 5 r5 se)) ?_;refine mq ?_;refine xr ?_;refine xr ?_;refine xr ?_;refine aH rfl rfl rfl (bJ rfl xi Dj) trivial fun b6=>?_;refine be rfl rfl (a8 rfl gW rfl rfl rfl) ⟨rfl,rfl,trivial⟩ ?_;refine aq ?_;refine aq (nt (sr ?_));refine lo gW ?_;refine mq ?_;obtain⟨r7,qt,h⟩:=aa h;refine fr 2 ?_;refine kb (ap [.tmp 28,.tmp 29] rfl rfl N4 rfl (sq k r5.1 a1 r7 qt)) ?_;refine mq ?_;refine xr ?_;refine xr ?_;refine aq ?_;refine aq (nt ?_);refine dE (Z:=Unit) (α:=Unit) (fun z9 x8=>[(5,Pt b6),(6,.rep (.slice (.slice (.int .i64))) r5.2.1),(7,.eq (.bool r5.2.2.1))]) (fun z9 x8=>[.obj b6 25 (.rep aD r5.1),.inv 0 (fP)]) (fun e=>e=r) h (fun e h=>Option.some.inj h) (fun K hR h=>?_) (fun z9 x8 h=>?_)
  ·refine sr (mq ?_);refine jb (dS rfl) ?_;refine nt (ci h (fun h=>?_) (fun h=>?_))
   ·refine sr (fr 1 ?_);refine lo gW ?_;refine mq ?_;obtain⟨I,ac,h⟩:=aa h;refine fr 1 ?_;refine kb (ap [.tmp 36,.tmp 37] rfl rfl K5 rfl (mL k r5.1 r7.1 I ac)) ?_;refine mq ?_;refine xr ?_;refine xr ?_;refine aq ?_;refine aq (nt ?_);refine aX (Z:=Unit) (α:=Bool) (fun x l=>[(5,Pt b6),(6,.rep (.slice (.slice (.int .i64))) r5.2.1),(7,.eq (.bool r5.2.2.1)),(47,.eq (.bool l))]) (fun x l=>[.obj b6 25 (.rep aD r5.1),.inv 0 (fP)]) h (fun K h=>?_) (fun x l h=>?_)
    ·refine ab (mq ?_);refine jb (ip rfl) ?_;refine mq ?_;refine bT (s:=43) rfl (fun hb=>?_) (fun hb=>?_)
     ·replace h:=cC (LR hb) h;iterate 3 refine gn ?_
      refine pt (nl ?_);exact jz ((),true) h [1,0]
     ·replace h:=bL (CN hb) h;refine gm ?_;refine gm ?_;obtain⟨QY,M,h⟩:=aa h;refine gb (HF rfl (aC M)) ?_;refine pf (nl ?_);exact jz ((), !(tl I.1 a1)) h [1,0]
    ·refine cv h (fun h=>?_) (fun h=>?_)
     ·refine sr (cq (nt (rx ?_)));refine bz (SE.fin (Γ':=[(4,_)]) [1,0] ⟨rfl,trivial⟩ rfl) ?_;obtain rfl:=hR _ h;exact aF () [_] 1 ⟨rfl,trivial⟩ rfl
     ·refine aS (ae ?_);exact jz ((),()) h [0,1]
   ·refine aS (ae ?_);exact jz ((),()) h [1,0]
  ·refine sr (lo gW ?_);refine mq ?_;obtain⟨F,Y,h⟩:=aa h;refine fr 1 ?_;refine kb (ap [.tmp 49,.tmp 50] rfl rfl K5 rfl (mL k r5.1 r5.2.1 F Y)) ?_;refine mq ?_;refine xr ?_;refine xr ?_;refine aq ?_;refine aq (nt (ah (sr ?_)));refine mq ?_;refine ja (eK rfl) ?_;refine nt (cw h (fun h=>?_) (fun h=>?_))
   ·refine aX (Z:=Unit) (α:=Bool) (fun u j=>[(4,.eq (.bool j))]) (fun u j=>[.inv 0 (fP)]) h (fun K h=>?_) (fun u j h=>?_)
    ·refine ab (mq ?_);refine jb (ip rfl) ?_;refine mq ?_;refine bT (s:=58) rfl (fun hb=>?_) (fun hb=>?_)
     ·replace h:=cC (LR hb) h;refine gm ?_;obtain⟨QX,J,h⟩:=aa h;refine gb (J6 rfl (aC J)) ?_;refine pt ?_;refine mq ?_;refine bT (s:=62) rfl (fun hb=>?_) (fun hb=>?_)
      ·replace h:=cC (BJ hb) h;obtain⟨E,X,h⟩:=aa h;refine lX rfl rfl rfl rfl rfl rfl (fy [] rfl rfl La rfl (lU k E X)) trivial ?_;refine pt ?_;refine aq (nl ?_);exact jz ((),E) h [0]
      ·replace h:=bL (BK hb) h;refine gn ?_;refine pf ?_;refine aq (nl ?_);exact jz ((),false) h [0]
     ·replace h:=bL (CN hb) h;iterate 2 refine gn ?_
      refine pf ?_;refine mq ?_;refine gn ?_;refine pf ?_;refine aq (nl ?_);exact jz ((),false) h [0]
    ·refine rx ?_;cases h;exact aF () [_] 1 ⟨rfl,trivial⟩ rfl
   ·refine sk (sr (fr 1 ?_));refine lo gW ?_;refine mq ?_;obtain⟨D,U,h⟩:=aa h;refine fr 1 ?_;refine kb (ap [.tmp 66,.tmp 67] rfl rfl N4 rfl (sq k r5.1 F.1 D U)) ?_;refine mq ?_;refine xr ?_;refine xr ?_;refine aq ?_;refine aq (nt ?_);refine aX (Z:=Unit) (α:=Bool) (fun n c=>[(4,.eq (.bool c))]) (fun n c=>[.inv 0 (fP)]) h (fun K h=>?_) (fun n c h=>?_)
    ·refine ab (mq ?_);refine jb (dS rfl) ?_;refine mq ?_;refine bT (s:=73) rfl (fun hb=>?_) (fun hb=>?_)
     ·replace h:=cC (nr hb) h;refine gm ?_;refine gb (dS rfl) ?_;refine pt ?_;refine mq ?_;refine bT (s:=77) rfl (fun hb=>?_) (fun hb=>?_)
      ·replace h:=cC (nr hb) h;refine gm ?_;refine gm ?_;obtain⟨mc,Q,h⟩:=aa h;refine gb (ap [.tmp 78,.tmp 79] rfl rfl K7 rfl (jy k D.1 r5.2.1 mc Q)) ?_;refine pt ?_;refine mq ?_;refine bT (s:=82) rfl (fun hb=>?_) (fun hb=>?_)
       ·replace h:=cC (BJ hb) h;obtain⟨y,O,h⟩:=aa h;refine lX rfl rfl rfl rfl rfl rfl (fy [] rfl rfl La rfl (lU k y O)) trivial ?_;refine pt ?_;refine aq (nl ?_);exact jz ((),y) h [0]
       ·replace h:=bL (BK hb) h;refine gn ?_;refine pf ?_;refine aq (nl ?_);exact jz ((),false) h [0]
      ·replace h:=bL (m6 hb) h;iterate 3 refine gn ?_
       refine pf ?_;refine mq ?_;refine gn ?_;refine pf ?_;refine aq (nl ?_);exact jz ((),false) h [0]
     ·replace h:=bL (m6 hb) h;iterate 2 refine gn ?_
      refine pf ?_;refine mq ?_;iterate 3 refine gn ?_
      refine pf ?_;refine mq ?_;refine gn ?_;refine pf ?_;refine aq (nl ?_);exact jz ((),false) h [0]
    ·refine aA ?_;cases h;exact aF () [_] 1 ⟨rfl,trivial⟩ rfl
end Go.Proofs.YtcnpijmfgfnpiaaGreatDoor
