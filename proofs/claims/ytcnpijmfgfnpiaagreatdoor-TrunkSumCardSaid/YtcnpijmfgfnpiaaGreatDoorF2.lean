import Derived.Test.YtcnpijmfgfnpiaaGreatDoorB8
import Derived.Test.YtcnpijmfgfnpiaaGreatDoorB7
import Derived.Test.YtcnpijmfgfnpiaaGreatDoorB5
set_option linter.unusedSimpArgs false
set_option linter.unusedVariables false
set_option maxRecDepth 4000
set_option maxHeartbeats 1000000
namespace Go.Proofs.YtcnpijmfgfnpiaaGreatDoor
open K Go Go.Proofs
def bF(k:Nat)(a0:a8)(a1:(List (List Int))):Option Int:=
 (kV k a0).bind fun r2=>
 if¬(r2=0) then(some r2) else((kU k a0 a1).bind fun r4=>
 (PV r4).bind fun q5=>
 if q5.isSome=true then(some (q5.getD 0)) else(some 0))
theorem co(k:Nat)(a0:a8)(a1:(List (List Int)))(r:Int)(h:bF k a0 a1=some r):
 bX Tryz.prog 35 [.rep aF a0,.rep (.slice (.slice (.int .i64))) a1] [.inv 0 (fH)] (fun _:Unit=>(bp [I r],[.inv 0 (fH)])):=by
 unfold bF at h
 replace h:=be h
 refine bX.of 19 Tryz.func35 rfl Tryz.ntmps35 rfl fun S w0=>?_
 refine sr ?_
 refine bx fun b1=>?_
 refine cq ?_
 refine nt ?_
 refine ae ?_
 refine sr ?_
 refine lo fV ?_
 obtain⟨r2,e,h⟩:=aa h
 have l:=qI k a0 r2 e
 refine ja (ak [.tmp 7] rfl rfl OE rfl l) ?_
 refine aq ?_
 refine nt ?_
 refine sr ?_
 refine mq ?_
 refine jb (eZ rfl) ?_
 refine nt ?_
 refine cn h (fun h=>?_) (fun h=>?_)
 ·
  refine sr (mq ?_);refine aq (nt (rx ?_));refine bv (SE.fin (Γ':=[(4,_)]) [1,0] ⟨rfl,trivial⟩ rfl) ?_;cases h;exact aD () [_] 1 ⟨rfl,trivial⟩ rfl
 ·
  refine sk (sr (aE rfl rfl rfl (bJ rfl tG Px) trivial fun b3=>?_));refine nt (ae (sr (fr 1 ?_)));refine lo fV ?_;refine mq ?_;obtain⟨r4,c,h⟩:=aa h;refine jb (ak [.tmp 12,.tmp 13] rfl rfl Qz rfl (qE k a0 a1 r4 c)) ?_;refine ja (FA rfl QZ) ?_;obtain⟨q5,j,h⟩:=aa h;refine fr 2 ?_;refine fr 2 ?_;refine bN (Δ:=[_,_]) (F:=_) (fun _ _ _=>av rfl _) rfl rfl (ak [.tmp 14,.tmp 15] rfl rfl QA rfl (Pg j)) ⟨rfl,rfl,trivial⟩ fun _=>?_;refine nt (cv h (fun h=>?_) (fun h=>?_))
  ·refine sr (fl I5 ?_);refine lo P8 ?_;refine aq (nt (rx ?_));refine bv (SE.fin (Γ':=[(4,_)]) [1,0,2] ⟨rfl,trivial⟩ rfl) ?_;cases h;exact aD () [_] 1 ⟨rfl,trivial⟩ rfl
  ·refine sk (sr (cq (nt (aA ?_))));refine bv (SE.fin (Γ':=[(4,_)]) [1,0,2] ⟨rfl,trivial⟩ rfl) ?_;cases h;exact aD () [_] 1 ⟨rfl,trivial⟩ rfl
def iW(k:Nat)(a0:a8)(r7:Int×(List (List Int))):Nat→((List Int)×Int)→Option (List Int)
 |0,_=>none
 |n+1,c=>
  if c.2 < (a0.2.1.length:Int) then((((dy k r7.1 c.2).bind fun j=>
  if j=true then((dT (bV (List.length c.1+List.length [c.2]))).bind fun _=>
  some (c.1++[c.2])) else(some c.1)):Option ((List Int))).bind fun h=>
  (ck (c.2+1)).bind fun e=>
  iW k a0 r7 n (h,e)) else(some c.1)
def oZ(k:Nat)(a0:a8)(a1:(List (List Int)))(a2:Int):Option ((List Int)×(List (List Int))×Int):=
 (bF k a0 a1).bind fun r2=>
 if¬(r2=0) then(some ([],[],r2)) else((ck (a0.1 - 1)).bind fun x3=>
 (dp k a2 0 x3).bind fun r4=>
 if¬(r4=true) then(some ([],[],3)) else((cV k a1).bind fun r6=>
 (gB k (a0,()) r6 a2).bind fun r7=>
 ((iW k a0 r7 k (([]:(List Int)),0)):Option ((List Int))).bind fun x9=>
 (dM k (a0,()) r7.2).bind fun c=>
 some (x9,c,0)))
theorem tK(k:Nat)(a0:a8)(a1:(List (List Int)))(a2:Int)(r:(List Int)×(List (List Int))×Int)(h:oZ k a0 a1 a2=some r):
 bX Tryz.prog 31 [.rep aF a0,.rep (.slice (.slice (.int .i64))) a1,I a2] [.inv 0 (fH)] (fun _:Unit=>(bp [Ri r.1,.rep (.slice (.slice (.int .i64))) r.2.1,I r.2.2],[.inv 0 (fH)])):=by
 unfold oZ at h
 replace h:=be h
 refine bX.of 55 Tryz.func31 rfl Tryz.ntmps31 rfl fun S w0=>?_
 refine sr ?_
 refine bx fun b1=>?_
 refine cq ?_
 refine cq ?_
 refine cq ?_
 refine nt ?_
 refine ae ?_
 refine sr ?_
 refine lo fV ?_
 refine mq ?_
 obtain⟨r2,ac,h⟩:=aa h
 have mc:=co k a0 a1 r2 ac
 refine fr 1 ?_
 refine kb (ak [.tmp 15,.tmp 16] rfl rfl A9 rfl mc) ?_
 refine aq ?_
 refine nt ?_
 refine sr ?_
 refine mq ?_
 refine jb (eZ rfl) ?_
 refine nt ?_
 refine cn h (fun h=>?_) (fun h=>?_)
 ·
  refine sr (mq ?_);refine cq ?_;refine cq ?_;refine aq (nt (rx ?_));refine bv (kD (t:=(.slice (.int .i64))) (x:=[]) 6 rfl .nil rfl rfl) ?_;refine bv (kD (t:=(.slice (.slice (.int .i64)))) (x:=[]) 7 rfl .nil rfl rfl) ?_;cases h;exact aD () [_,_,_] 1 ⟨rfl,rfl,rfl,trivial⟩ rfl
 ·
  refine sk (ae (sr (mq ?_)));refine fl jP ?_;refine fr 1 ?_;refine lo cu ?_;obtain⟨x3,Q,h⟩:=aa h;refine jb (eA rfl Q) ?_;obtain⟨r4,Y,h⟩:=aa h;refine jc (ak [.tmp 21,.const (.int .i64 (0)),.tmp 24] rfl rfl vr rfl (dn k a2 0 x3 r4 Y)) ?_;refine ja (eB rfl) ?_;refine nt (cw h (fun h=>?_) (fun h=>?_))
  ·refine sr (cq ?_);refine cq ?_;refine cq (nt (rx ?_));refine bv (kD (t:=(.slice (.int .i64))) (x:=[]) 6 rfl .nil rfl rfl) ?_;refine bv (kD (t:=(.slice (.slice (.int .i64)))) (x:=[]) 7 rfl .nil rfl rfl) ?_;refine bv (SE.fin (Γ':=[(6,_),(7,_),(8,_)]) [1,0] ⟨rfl,rfl,rfl,trivial⟩ rfl) ?_;cases h;exact aD () [_,_,_] 1 ⟨rfl,rfl,rfl,trivial⟩ rfl
  ·refine sk (sr (lo fV ?_));refine aE rfl rfl rfl (ak [.tmp 27] rfl rfl DZ rfl (eX a0)) ⟨rfl,trivial⟩ fun z5=>?_;refine cJ (ji (bi k a0) jK) ?_;refine aq (nt (sr ?_));iterate 2 refine mq ?_
   obtain⟨r6,X,h⟩:=aa h;refine ja (ak [.tmp 31] rfl rfl zq rfl (dq k a1 r6 X)) ?_;refine mq ?_;obtain⟨r7,U,h⟩:=aa h;refine jc (dh (N:=[(.tmp 30,.at au (a0,(.map (some z5)))),(.tmp 32,.rep (.arr 3 (.arr 5 (.int .i64))) r6),(.tmp 33,I a2)]) (ak [.tmp 30,.tmp 32,.tmp 33] rfl rfl LP rfl (kz k (a0,()) r6 a2 r7 U)) fun _ _ _ hn=>⟨(nz hn.1),hn.2.1,hn.2.2.1,trivial⟩) ?_;refine mq ?_;refine xr ?_;refine xr ?_;refine aE rfl rfl rfl (bJ rfl lg lK) trivial fun b8=>?_;refine aq ?_;refine bf rfl rfl (a9 rfl cF rfl rfl rfl) ⟨rfl,rfl,trivial⟩ ?_;refine nt (sr (cq (nt ?_)));refine aP (Z:=Value) (α:=(List Int)) (fun l x9=>[(10,.at au (a0,(.map (some z5)))),(12,Pt b8),(13,.eq l)]) (fun l x9=>[.obj b8 107 (.rep (.arr 3 (.arr 5 (.int .i64))) r7.2),.sl l 3 (.int .i64) x9,.inv 0 (fH),.inv z5 (bi k a0)]) h (fun K h=>?_) (fun l x9 h=>?_)
   ·refine sr (fl dB ?_);refine fr 2 ?_;refine lo jA ?_;refine ol qy ?_;refine dQ rfl ?_;refine nt (aj (fU (SE.nil 3 (.int .i64)) ?_));refine aG (fun e c=>[(10,.at au (a0,(.map (some z5)))),(11,.eq (.int .u8 r7.1)),(12,Pt b8),(13,.eq e),(39,I (a0.2.1.length:Int)),(40,I c.2)]) (fun e c=>[.obj b8 107 (.rep (.arr 3 (.arr 5 (.int .i64))) r7.2),.sl e 3 (.int .i64) c.1,.inv 0 (fH),.inv z5 (bi k a0)]) (iW k a0 r7) k (.slice none 0 0) (([]:(List Int)),0) (fun _=>rfl) h (SE.fin [2,0,4,3] ⟨rfl,rfl,rfl,rfl,rfl,rfl,trivial⟩ rfl) (fun n e c h=>?_);unfold iW at h;refine sr (jb (bq rfl) ?_);refine nt (ae (ci h (fun h=>?_) (fun h=>?_)))
    ·refine sk (aP (Z:=Value) (α:=(List Int)) (fun j s=>[(10,.at au (a0,(.map (some z5)))),(11,.eq (.int .u8 r7.1)),(12,Pt b8),(13,.eq j),(39,I (a0.2.1.length:Int)),(40,I c.2)]) (fun j s=>[.obj b8 107 (.rep (.arr 3 (.arr 5 (.int .i64))) r7.2),.sl j 3 (.int .i64) s,.inv 0 (fH),.inv z5 (bi k a0)]) h (fun K h=>?_) (fun j s h=>?_))
     ·refine aj (sr (mq ?_));refine aq (nt (sr ?_));iterate 2 refine mq ?_
      obtain⟨O,E,h⟩:=aa h;refine jb (ak [.tmp 43,.tmp 44] rfl rfl G1 rfl (f5 k r7.1 c.2 O E)) ?_;refine nt (cv h (fun h=>?_) (fun h=>?_))
      ·refine ab ?_;iterate 2 refine mq ?_
       refine ja (bH (t:=(.int .i64)) [(.tmp 47,_)] [c.2] rfl rfl eF (.cons rfl .int .nil) rfl rfl) ?_;obtain⟨u16,y,h⟩:=aa h;refine fr 1 ?_;refine ek rfl rfl rfl (cg rfl rfl eF (aC y)) ⟨rfl,rfl,trivial⟩ fun J=>?_;refine aq (ar (bn ?_));exact jz (J,c.1++[c.2]) h [1,0,2,3]
      ·refine aS (bn ?_);exact jz (e,c.1) h [0,1,2,3]
     ·refine ab ?_;obtain⟨F,u,h⟩:=aa h;refine jb (ba rfl u) ?_;refine mq (nl ?_);exact jz (j,(s,F)) h [0,1,2,3]
    ·refine xa ?_;exact jz (e,c.1) h [0,1,2,3]
   ·refine sr ?_;iterate 2 refine mq ?_
    refine lo cF ?_;obtain⟨M,D,h⟩:=aa h;refine aE rfl rfl rfl (dh (N:=[(.tmp 52,.at au (a0,(.map (some z5)))),(.tmp 53,.rep (.arr 3 (.arr 5 (.int .i64))) r7.2)]) (ak [.tmp 52,.tmp 53] rfl rfl I9 rfl (hP k (a0,()) r7.2 M D)) fun _ _ _ hn=>⟨(nz hn.1),hn.2.1,trivial⟩) ⟨rfl,rfl,trivial⟩ fun pp=>?_;refine aq ?_;refine aq ?_;refine cq (nt (aA ?_));refine dR 2 rfl ?_;refine bv (fp [6,13,51] ⟨rfl,rfl,rfl,trivial⟩) ?_;refine bv (fp [7,54] ⟨rfl,rfl,trivial⟩) ?_;refine bv (SE.fin (Γ':=[(6,_),(7,_),(8,_)]) [1,0,2] ⟨rfl,rfl,rfl,trivial⟩ rfl) ?_;cases h;exact aD () [_,_,_] 1 ⟨rfl,rfl,rfl,trivial⟩ rfl
theorem jj(k:Nat)(a0:a8)(z_a0:Nat)(a1:(List (List Int)))(r:Int)(h:cR k a0 a1=some r):
 dx (iL Tryz.prog) 111 [.at au (a0,(.map (some z_a0))),.rep (.arr 3 (.arr 5 (.int .i64))) a1] [.inv z_a0 (bi k a0)] (fun _:Unit=>(bp [I r],[.inv z_a0 (bi k a0)])):=by
 have h0:=h
 unfold cR at h
 replace h:=be h
 obtain⟨u1,eg,h⟩:=aa h
 have hg:=aC eg
 have gk:=Gu hg
 refine dx.of 28 Tryz.func111 rfl Tryz.ntmps111 rfl fun S w0=>?_
 refine sr ?_
 refine bx fun b1=>?_
 refine cq ?_
 refine nt ?_
 refine ae ?_
 refine iO 1 rfl ?_
 refine Bh fun ob hob=>?_
 obtain⟨lnn,lbb,hlR,hlk⟩:=xc (z:=z_a0) PE KE ze gk DC hob
 refine cm ?_
 refine dm ?_
 refine da (dC rfl) ?_
 refine da (aN 1 false rfl BS rfl) ?_
 refine da (an (t:=.val) rfl JV rfl) ?_
 refine ea 1 (ao rfl cF (vL) rfl) ?_
 refine eb 0 (Dq (kv:=kH a1) (vQ _) (lM.calm hob) rfl (fun _ _ _ hh=>uo hh) hlk) ?_
 refine dm ?_
 refine da (eS rfl rfl) ?_
 refine da (eS rfl rfl) ?_
 refine da (f8 rfl) ?_
 refine df eM ?_
 refine aq ?_
 refine nt ?_
 refine ae ?_
 refine sr ?_
 refine mq ?_
 refine ja (eB rfl) ?_
 refine nt ?_
 refine fU (ji (bi k a0) hob) ?_
 refine bG rfl (fun hb=>?_) (fun hb=>?_)
 ·
  refine sr (mq ?_);refine fr 1 ?_;refine lo cF ?_;obtain⟨r2,c,h⟩:=aa h;refine jc (dh (N:=[(.tmp 18,.at au (a0,(.map (some z_a0)))),(.tmp 19,.rep (.arr 3 (.arr 5 (.int .i64))) a1),(.const (.int .i64 (0)),I 0)]) (fY [.tmp 18,.tmp 19,.const (.int .i64 (0))] rfl rfl Kw rfl (lW k (a0,()) a1 0 r2 c)) fun _ _ _ hn=>⟨(nz hn.1),hn.2.1,hn.2.2.1,trivial⟩) ?_;refine aq (nt ?_);refine cm ?_;refine dm ?_;refine da (dC rfl) ?_;refine da (aN 1 false rfl BS rfl) ?_;refine da (an (t:=.val) rfl JV rfl) ?_;refine ea 0 (ao rfl cF (vL) rfl) ?_;refine dm ?_;refine df eM ?_;refine fr 1 ?_;have hl:cR k a0 a1=some r2:=h0.trans (show some r=some r2 from h.symm);refine bf rfl rfl (yB (kv:=kH a1) (vQ _) rfl PE ze (fun _ _ _ hh=>uo hh) gk ⟨a1,hg,rfl,hl⟩) ⟨rfl,rfl,rfl,trivial⟩ ?_;refine nt (sr (mq ?_));refine aq (nt (aA ?_));cases h;exact aD () [_] 1 ⟨rfl,trivial⟩ rfl
 ·
  obtain⟨p,hp,he,hl⟩:=hlR (by simpa using hb);obtain rfl:=vR hg hp he;replace h:some lnn=some r:=hl.symm.trans h0;refine sk (sr (mq ?_));refine aq (nt (aA ?_));cases h;exact aD () [_] 1 ⟨rfl,trivial⟩ rfl
def jE(k:Nat)(a0:a8)(a1:(List (List Int))):Option (Int×Int):=
 (bF k a0 a1).bind fun r2=>
 if¬(r2=0) then(some (0,r2)) else((cV k a1).bind fun r4=>
 (cR k a0 r4).bind fun r5=>
 some (r5,0))
theorem na(k:Nat)(a0:a8)(a1:(List (List Int)))(r:Int×Int)(h:jE k a0 a1=some r):
 dx (iL Tryz.prog) 48 [.rep aF a0,.rep (.slice (.slice (.int .i64))) a1] [.inv 0 (fH)] (fun _:Unit=>(bp [I r.1,I r.2],[.inv 0 (fH)])):=by
 unfold jE at h
 replace h:=be h
 refine dx.of 18 Tryz.func48 rfl Tryz.ntmps48 rfl fun S w0=>?_
 refine sr ?_
 refine bx fun b1=>?_
 refine cq ?_
 refine cq ?_
 refine nt ?_
 refine ae ?_
 refine sr ?_
 refine lo fV ?_
 refine mq ?_
 obtain⟨r2,j,h⟩:=aa h
 have l:=co k a0 a1 r2 j
 refine fr 1 ?_
 refine kb (ak [.tmp 7,.tmp 8] rfl rfl A9 rfl l) ?_
 refine aq ?_
 refine nt ?_
 refine sr ?_
 refine mq ?_
 refine jb (eZ rfl) ?_
 refine nt ?_
 refine cn h (fun h=>?_) (fun h=>?_)
 ·
  refine sr (mq ?_);refine cq ?_;refine aq (nt (rx ?_));cases h;exact aD () [_,_] 1 ⟨rfl,rfl,trivial⟩ rfl
 ·
  refine sk (sr (fr 1 ?_));refine lo fV ?_;refine aE rfl rfl rfl (ak [.tmp 13] rfl rfl DZ rfl (eX a0)) ⟨rfl,trivial⟩ fun z3=>?_;refine cJ (ji (bi k a0) jK) ?_;refine mq ?_;obtain⟨r4,e,h⟩:=aa h;refine ja (ak [.tmp 15] rfl rfl zq rfl (dq k a1 r4 e)) ?_;obtain⟨r5,c,h⟩:=aa h;refine kb (fY [.tmp 14,.tmp 16] rfl rfl Ku rfl (jj k a0 z3 r4 r5 c)) ?_;refine aq ?_;refine cq (nt (aA ?_));refine bv (SE.fin (Γ':=[(4,_),(5,_)]) [2,0,1] ⟨rfl,rfl,trivial⟩ rfl) ?_;cases h;exact aD () [_,_] 1 ⟨rfl,rfl,trivial⟩ rfl
set_option maxRecDepth 20000
set_option maxHeartbeats 4000000
@[reducible] def eW:Ty:=.agg (.pair (.int .i64) (.int .i64))
def Oo(x:Int×Int):Value:=.agg #[.int .i64 x.1,.int .i64 x.2]
theorem I7{S:FS}{w:World}{x:Int×Int}:(A.rep eW x).holds S w (Oo x):=⟨[_,_],⟨[_],[_],rfl,rfl,rfl⟩,rfl⟩
theorem GV{S:FS}{w:World}{x:Int×Int}{v:Value}(h:(A.rep eW x).holds S w v):(A.eq (Oo x)).holds S w v:=by
 obtain⟨cs,⟨c1,c2,rfl,h1,h2⟩,rfl⟩:=h;have h1:c1=_:=h1;have h2:c2=_:=h2;subst h1 h2;rfl
theorem gG:dF Tryz.prog 131 2 true:=⟨fun w=>by kernel_rfl,fun w=>by kernel_rfl⟩
theorem nG:dF Tryz.prog 28 1 false:=⟨fun w=>by kernel_rfl,fun w=>by kernel_rfl⟩
theorem Bq:dF Tryz.prog 23 1 false:=⟨fun w=>by kernel_rfl,fun w=>by kernel_rfl⟩
theorem s8:dF Tryz.prog 3 1 false:=⟨fun w=>by kernel_rfl,fun w=>by kernel_rfl⟩
theorem ER:dF Tryz.prog 102 1 false:=⟨fun w=>by kernel_rfl,fun w=>by kernel_rfl⟩
theorem Lx:aU Tryz.prog 131 0 0:=aU.of (by kernel_rfl)
theorem Lu:aU Tryz.prog 131 1 1:=aU.of (by kernel_rfl)
theorem On:aU Tryz.prog 128 0 0:=aU.of (by kernel_rfl)
theorem tf:aU Tryz.prog 128 1 1:=aU.of (by kernel_rfl)
theorem xt:ah Tryz.prog 136:=ah.of Tryz.func136 (by kernel_rfl) (by kernel_rfl)
def i9(x:Int×Int)(m:Int):Nat→Int×List Int→Option (List Int)
 |0,_=>none
 |n+1,q=>if q.1 < m then((aZ q.2 q.1).bind fun c=>if c=x.1 then(ck (q.1+1)).bind fun w=>i9 x m n (w,q.2.set q.1.toNat x.2) else if c=x.2 then(ck (q.1+1)).bind fun w=>i9 x m n (w,q.2.set q.1.toNat x.1) else(ck (q.1+1)).bind fun w=>i9 x m n (w,q.2)) else some q.2
def jZ(k:Nat)(x:Int×Int)(m:Int):Nat→Int×List (List Int)→Option (List (List Int))
 |0,_=>none
 |n+1,q=>if q.1 < m then((aZ q.2 q.1).bind fun l=>(i9 x (l.length:Int) k (0,l)).bind fun l2=>(ck (q.1+1)).bind fun w=>jZ k x m n (w,q.2.set q.1.toNat l2)) else some q.2
def mD(k:Nat)(x:Int×Int)(ls:List (List Int)):Option (List (List Int)):=jZ k x (ls.length:Int) k (0,ls)
theorem lV(k:Nat)(x:Int×Int)(ls r:List (List Int))(y:Nat)(d0:au.den)(z:Value×(Nat→Value))(h:mD k x ls=some r):
 bX Tryz.prog 136 [.eq (bP y),.rep eW x] ([.obj y 128 (.agg (.pair (.at au d0) (.eq z.1)))]++gl 23 z ls) (fun _:Unit=>(bp [],[.obj y 128 (.agg (.pair (.at au d0) (.eq z.1)))]++gl 23 z r)):=by
 unfold mD at h
 replace h:=be h
 refine bX.of 45 Tryz.func136 rfl Tryz.ntmps136 rfl fun S w0=>?_
 refine sr ?_
 refine bx fun b3=>?_
 refine nt ?_
 refine sr ?_
 refine mq ?_
 refine ja (aW rfl) ?_
 refine fl tf ?_
 refine fr 1 ?_
 refine lo nG ?_
 refine cJ (Ce (pre:=[.obj y 128 (.agg (.pair (.at au d0) (.eq z.1))),.obj b3 131 (.rep eW x)])) ?_
 refine ka (c9 rfl rfl mf) ?_
 rw [gy]
 refine cJ (Ee (pre:=[.obj y 128 (.agg (.pair (.at au d0) (.eq z.1))),.obj b3 131 (.rep eW x)])) ?_
 refine dQ rfl ?_
 refine nt ?_
 refine aj ?_
 refine aG (Z:=Unit) (α:=Int×List (List Int)) (fun _ q=>[(3,.eq (bP b3)),(11,.eq z.1),(12,I (ls.length:Int)),(13,I q.1)]) (fun _ q=>[.obj y 128 (.agg (.pair (.at au d0) (.eq z.1))),.obj b3 131 (.rep eW x)]++gl 23 z q.2) (jZ k x (ls.length:Int)) k () (0,ls) (fun _=>rfl) h (bg [.obj y 128 (.agg (.pair (.at au d0) (.eq z.1))),.obj b3 131 (.rep eW x)] (gl 23 z ls) [0,1] ⟨rfl,rfl,rfl,rfl,trivial⟩ rfl) (fun n u q h=>?_)
 unfold jZ at h
 refine sr ?_
 refine jb (bq rfl) ?_
 refine nt ?_
 refine ae ?_
 refine bG rfl (fun hb=>?_) (fun hb=>?_)
 ·
  replace h:=cy (nS hb) h;refine sk (ae (aj ?_));obtain⟨l,el,h⟩:=aa h;refine fU (wx (pre:=[.obj y 128 (.agg (.pair (.at au d0) (.eq z.1))),.obj b3 131 (.rep eW x)]) (tA el).2) ?_;refine sr (fr 1 ?_);refine kb (bh (t:=.val) rfl mf Bq (oY el)) ?_;refine ka (fq (i:=q.1.toNat) (off:=0) rfl Bq (fun _=>rfl) rfl (cQ (oY el)).2.2 rfl) ?_;refine aq (nt ?_);rw [Option.bind_assoc] at h;refine sr (mq ?_);refine fr 1 ?_;refine ka (c9 rfl rfl dE) ?_;refine dQ rfl ?_;refine nt (aj (aG (Z:=Unit) (α:=Int×List Int) (fun _ q2=>[(3,.eq (bP b3)),(5,.eq (z.2 q.1.toNat)),(11,.eq z.1),(12,I (ls.length:Int)),(13,I q.1),(17,.eq (z.2 q.1.toNat)),(18,I (l.length:Int)),(19,I q2.1)]) (fun _ q2=>[.sl (z.2 q.1.toNat) 3 (.int .i64) (q2.2),.sl z.1 23 .val (fk z.2 0 q.2),.obj y 128 (.agg (.pair (.at au d0) (.eq z.1))),.obj b3 131 (.rep eW x)]++((kY z.2 0 q.2).eraseIdx q.1.toNat)) (i9 x (l.length:Int)) k () (0,l) (fun _=>rfl) h (bg [.sl (z.2 q.1.toNat) 3 (.int .i64) (l),.sl z.1 23 .val (fk z.2 0 q.2),.obj y 128 (.agg (.pair (.at au d0) (.eq z.1))),.obj b3 131 (.rep eW x)] ((kY z.2 0 q.2).eraseIdx q.1.toNat) [0,1,2,3] ⟨rfl,rfl,rfl,rfl,rfl,rfl,rfl,rfl,trivial⟩ rfl) (fun n2 u2 q2 h=>?_)));unfold i9 at h;refine sr (jb (bq rfl) ?_);refine nt (ae (bG rfl (fun hb=>?_) (fun hb=>?_)))
  ·replace h:=cy (nS hb) h;refine sk (ae (aj ?_));obtain⟨c,ec,h⟩:=aa h;refine sr (mq ?_);refine kb (bh (t:=.int .i64) rfl dE s8 ec) ?_;refine ka (fq (i:=q2.1.toNat) (off:=0) rfl s8 (fun _=>rfl) rfl (cQ ec).2.2 rfl) ?_;refine aq ?_;refine aq (nt (sr ?_));refine mq (nt (aj (sr ?_)));refine fl Lx ?_;refine fr 3 ?_;refine lo s8 ?_;refine jb (fj rfl) ?_;refine aq (nt ?_);refine ci h (fun h=>?_) (fun h=>?_)
   ·refine ab ?_;iterate 2 refine mq ?_
    refine fl Lu ?_;refine lo s8 ?_;refine fr 1 ?_;refine kb (bh (t:=.int .i64) rfl dE s8 ec) ?_;refine bf rfl rfl (c6 (i:=q2.1.toNat) rfl s8 rfl (ix ec) rfl .int rfl) ⟨rfl,rfl,trivial⟩ ?_;refine ar (aL (aL (tn (ab ?_))));obtain⟨w,ew,h⟩:=aa h;refine jb (ba rfl ew) ?_;refine mq (nl ?_);exact iM ((),(w,q2.2.set q2.1.toNat x.2)) h (bg [.sl (z.2 q.1.toNat) 3 (.int .i64) (q2.2.set q2.1.toNat x.2),.obj b3 131 (.rep eW x),.sl z.1 23 .val (fk z.2 0 q.2),.obj y 128 (.agg (.pair (.at au d0) (.eq z.1)))] ((kY z.2 0 q.2).eraseIdx q.1.toNat) [0,2,3,1] ⟨rfl,rfl,rfl,rfl,rfl,rfl,rfl,rfl,trivial⟩ rfl)
   ·refine sr (fl Lu ?_);refine lo s8 ?_;refine jb (fj rfl) ?_;refine aq (nt ?_);refine ci h (fun h=>?_) (fun h=>?_)
    ·refine ab ?_;iterate 2 refine mq ?_
     refine fl Lx ?_;refine lo s8 ?_;refine fr 1 ?_;refine kb (bh (t:=.int .i64) rfl dE s8 ec) ?_;refine bf rfl rfl (c6 (i:=q2.1.toNat) rfl s8 rfl (ix ec) rfl .int rfl) ⟨rfl,rfl,trivial⟩ ?_;refine ar (aL (aL (tn (ab ?_))));obtain⟨w,ew,h⟩:=aa h;refine jb (ba rfl ew) ?_;refine mq (nl ?_);exact iM ((),(w,q2.2.set q2.1.toNat x.1)) h (bg [.sl (z.2 q.1.toNat) 3 (.int .i64) (q2.2.set q2.1.toNat x.1),.obj b3 131 (.rep eW x),.sl z.1 23 .val (fk z.2 0 q.2),.obj y 128 (.agg (.pair (.at au d0) (.eq z.1)))] ((kY z.2 0 q.2).eraseIdx q.1.toNat) [0,2,3,1] ⟨rfl,rfl,rfl,rfl,rfl,rfl,rfl,rfl,trivial⟩ rfl)
    ·refine aS (aL (aL (tn (ab ?_))));obtain⟨w,ew,h⟩:=aa h;refine jb (ba rfl ew) ?_;refine mq (nl ?_);exact iM ((),(w,q2.2)) h (bg [.obj b3 131 (.rep eW x),.sl (z.2 q.1.toNat) 3 (.int .i64) (q2.2),.sl z.1 23 .val (fk z.2 0 q.2),.obj y 128 (.agg (.pair (.at au d0) (.eq z.1)))] ((kY z.2 0 q.2).eraseIdx q.1.toNat) [1,2,3,0] ⟨rfl,rfl,rfl,rfl,rfl,rfl,rfl,rfl,trivial⟩ rfl)
  replace h:=bM (nv hb) h;refine dt (aM (aM (bO (aL (tn (fU (zM (pre:=[.obj y 128 (.agg (.pair (.at au d0) (.eq z.1))),.obj b3 131 (.rep eW x)]) (l':=q2.2) (tA el).2) ?_))))));refine ab ?_;obtain⟨w,ew,h⟩:=aa (X:=ck (q.1+1)) (f:=fun w=>jZ k x (ls.length:Int) n (w,q.2.set q.1.toNat q2.2)) (K:=some) (r:=r) (by simpa using h);refine jb (ba rfl ew) ?_;refine mq (nl ?_);exact iM ((),(w,q.2.set q.1.toNat q2.2)) h (bg [.obj y 128 (.agg (.pair (.at au d0) (.eq z.1))),.obj b3 131 (.rep eW x)] (gl 23 z (q.2.set q.1.toNat q2.2)) [0,1] ⟨rfl,rfl,rfl,rfl,trivial⟩ rfl)
 replace h:=bM (nv hb) h
 refine dt ?_
 refine aM ?_
 refine aM ?_
 refine bO ?_
 cases h
 refine iN ?_
 refine bv (bg (Γ':=[]) (pre':=[.obj y 128 (.agg (.pair (.at au d0) (.eq z.1)))]) [.obj y 128 (.agg (.pair (.at au d0) (.eq z.1))),.obj b3 131 (.rep eW x)] (gl 23 z q.2) [0] trivial rfl) ?_
 exact iz () [] trivial rfl
@[reducible] def Ie:Ty:=.agg (.pair (.ptr au) (.slice (.slice (.int .i64))))
theorem KL{S:FS}{w:World}{y:Nat}{d0:au.den}{z:Value×(Nat→Value)}{ls:List (List Int)}(h:∀d∈[D.obj y 128 (.agg (.pair (.at au d0) (.eq z.1)))]++gl 23 z ls,d.holds S w∧∀b,d.foot=some b→S b):(A.at Ie (d0,ls)).holds S w (bP y):=by
 obtain⟨⟨cs,h1,c1,c2,rfl,g1,rfl,g2⟩,h2⟩:=h _ (List.mem_cons_self ..);have h3:=La (fun d hd=>h d (List.mem_cons_of_mem _ hd));refine⟨y,0,_,128,(0,0),rfl,h2 y rfl,h1,c1,[z.1],?_,g1,?_⟩
 ·have l1:=aJ (.ptr au) g1;simp only [Ty.cells] at l1;match c1,l1 with
  |[u],_=>rfl
 ·obtain⟨cs,h4,h5⟩:=h3;have l1:=aJ (.slice (.slice (.int .i64))) h4;simp only [Ty.cells] at l1;match cs,l1 with
  |[u],_=>rw [h5];exact h4
theorem yf{S:FS}{w:World}{a:Act}{Γ:Ga}{y:Nat}{d0:au.den}{z:Value×(Nat→Value)}{ls:List (List Int)}(h:∀d∈[D.obj y 128 (.agg (.pair (.at au d0) (.eq z.1)))]++gl 23 z ls,d.holds S w∧∀b,d.foot=some b→S b)
 (hk:∀s r,lk Γ s=some r→r.holds S w (a.tmps.getD s undef)) (h0:lk Γ 0=some (.eq (bP y))):∀s r,lk [(0,A.at Ie (d0,ls))] s=some r→r.holds S w (a.tmps.getD s undef):=fun s r hl=>by
 simp only [lk] at hl
 split at hl
 ·
  rename_i e
  cases hl
  subst e
  have e1:a.tmps.getD 0 undef=bP y:=hk 0 _ h0
  rw [e1]
  exact KL h
 ·
  cases hl
theorem J9{n:Nat}{r0:A}(h:r0.flat=true):∀s r,lk [(n,r0)] s=some r→r.flat=true:=fun s r hl=>by
 simp only [lk] at hl
 split at hl
 ·
  cases hl;exact h
 ·
  cases hl
theorem LA{d0:D}(h:d0.flat=true):∀d∈[d0],d.flat=true:=fun d hd=>by
 simp only [List.mem_cons,List.not_mem_nil,or_false] at hd
 subst hd;exact h
theorem I6{d0 d1:D}(h:d0.flat=true)(h1:d1.flat=true):∀d∈[d0,d1],d.flat=true:=fun d hd=>by
 simp only [List.mem_cons,List.not_mem_nil,or_false] at hd
 rcases hd with rfl |rfl <;> assumption
theorem yg{y:Nat}{x:Int×Int}(S:FS)(w:World):fW S w [.eq (bP y),.rep eW x] [bP y,Oo x]:=⟨_,_,rfl,rfl,_,_,rfl,I7,rfl⟩
theorem Lt:aU Tryz.prog 173 0 0:=aU.of (by kernel_rfl)
theorem EQ:dF Tryz.prog 25 3 true:=⟨fun w=>by kernel_rfl,fun w=>by kernel_rfl⟩
theorem Ov:ah Tryz.prog 94:=ah.of Tryz.func94 (by kernel_rfl) (by kernel_rfl)
theorem Ox:ah Tryz.prog 86:=ah.of Tryz.func86 (by kernel_rfl) (by kernel_rfl)
theorem LF:ah Tryz.prog 111:=ah.of Tryz.func111 (by kernel_rfl) (by kernel_rfl)
def mj(k:Nat)(t:a8)(x:Int×Int)(ls:List (List Int)):Option (Bool×List (List Int)):=
 (mD k x ls).bind fun l1=>(kU k t l1).bind fun e=>if IM e=true then(mD k x l1).bind fun l2=>some (!uu e,l2) else none
theorem rO(k:Nat)(t:a8)(x:Int×Int)(ls:List (List Int))(r:Bool×List (List Int))(y m:Nat)(z:Value×(Nat→Value))(h:mj k t x ls=some r):
 bX Tryz.prog 98 [.eq (bP y),.rep eW x] ([.obj y 128 (.agg (.pair (.at au (t,.map (some m))) (.eq z.1)))]++gl 23 z ls) (fun _:Unit=>(bp [.eq (.bool r.1)],[.obj y 128 (.agg (.pair (.at au (t,.map (some m))) (.eq z.1)))]++gl 23 z r.2)):=by
 unfold mj at h
 replace h:=be h
 obtain⟨l1,e1,h⟩:=aa h
 obtain⟨e,e2,h⟩:=aa h
 have he:IM e=true:=by
  apply Classical.byContradiction;intro hn;rw [if_neg hn] at h;cases h
 replace h:=cy he h
 obtain⟨l2,e3,h⟩:=aa h
 cases h
 have cv:=qE k t l1 e e2
 refine JM 23 Tryz.func98 rfl Tryz.ntmps98 rfl fun S w0=>?_
 refine sr ?_
 refine bx fun b3=>?_
 refine cq ?_
 refine nt ?_
 refine sr ?_
 refine mq ?_
 refine ka (ao rfl gG (xQ) rfl) ?_
 refine cJ (gX (Δ':=([.obj y 128 (.agg (.pair (.at au (t,.map (some m))) (.eq z.1)))]++gl 23 z ls)++[.obj b3 131 (.rep eW x)]) (List.perm_append_comm (l₁:=([.obj b3 131 (.rep eW x)]:List D)))) ?_
 refine bN (Δ:=_++_) (F:=[_]) (fun _ _ _=>av rfl _) rfl rfl (ak [.tmp 5,.tmp 6] rfl rfl xt rfl (lV k x ls l1 y (t,.map (some m)) z e1)) ⟨rfl,rfl,trivial⟩ fun _=>?_
 refine nt ?_
 refine sr ?_
 refine mq ?_
 refine cJ (gX (Δ':=[.obj b3 131 (.rep eW x)]++([.obj y 128 (.agg (.pair (.at au (t,.map (some m))) (.eq z.1)))]++gl 23 z l1)) List.perm_append_comm) ?_
 refine ka (ao rfl gG (xQ) rfl) ?_
 refine cJ (rF 9 rfl fun _ _ _ h=>GV h) ?_
 refine wA (vs:=[bP y,Oo x]) [.tmp 8,.tmp 9] rfl rfl rfl rfl rfl ⟨rfl,rfl,trivial⟩ ?_
 refine ar ?_
 refine ag ?_
 refine bv (gX (Δ':=([.obj y 128 (.agg (.pair (.at au (t,.map (some m))) (.eq z.1)))]++gl 23 z l1)++[.obj b3 131 (.rep eW x)]) (List.perm_append_comm (l₁:=([.obj b3 131 (.rep eW x)]:List D)))) ?_
 show JC _ _ _ _ _
 refine ae ?_
 refine CC (L:=_++_) (Δ:=[_]) (Γ1:=[(0,.at Ie ((t,.map (some m)),l1))]) (Z:=Unit) (fun _=>[(4,.eq (.bool (!uu e)))]) (fun _=>[.obj b3 131 (.rep eW x)]) (fun S w a hl hk=>yf hl hk rfl) (fun _=>⟨J9 rfl,LA rfl⟩) (fun S w=>?_) (fun _=>?_)
 ·
  refine cm ?_;refine dm ?_;refine da (dC rfl) ?_;refine da (aN 1 false rfl On rfl) ?_;refine da (an (t:=.ptr au) rfl ER rfl) ?_;refine da (dC rfl) ?_;refine da (aN 3 true rfl Lt rfl) ?_;refine da (an (t:=aF) rfl EQ rfl) ?_;refine dm ?_;refine da (dC rfl) ?_;refine da (aN 1 false rfl tf rfl) ?_;refine da (an (t:=.slice (.slice (.int .i64))) rfl nG rfl) ?_;refine sN (by kernel_rfl) qg ?_;refine jb (ak [.tmp 16,.tmp 20] rfl rfl Ov rfl cv) ?_;refine jb (qV rfl Q0 he) ?_;refine aq (ar ?_);exact fun a w st=>⟨rfl,(),(SE.fin (Γ':=[(4,.eq (.bool (!uu e)))]) [0] ⟨rfl,trivial⟩ rfl) a w st⟩
 ·
  refine tn (aA (Cm (Δ1:=[.obj y 128 (.agg (.pair (.at au (t,.map (some m))) (.eq z.1)))]++gl 23 z l1) (F:=[.obj b3 131 (.rep eW x)]) xt (lV k x l1 l2 y (t,.map (some m)) z e3 _) yg (fun _=>?_)));refine bv (gX (Δ':=[.obj b3 131 (.rep eW x)]++([.obj y 128 (.agg (.pair (.at au (t,.map (some m))) (.eq z.1)))]++gl 23 z l2)) List.perm_append_comm) ?_;refine bv (bg (pre':=[.obj y 128 (.agg (.pair (.at au (t,.map (some m))) (.eq z.1)))]) (Γ':=[(4,.eq (.bool (!uu e)))]) [.obj b3 131 (.rep eW x),.obj y 128 (.agg (.pair (.at au (t,.map (some m))) (.eq z.1)))] (gl 23 z l2) [1] ⟨rfl,trivial⟩ rfl) ?_;exact iz () [_] ⟨rfl,trivial⟩ rfl
def ml(k:Nat)(t:a8)(x:Int×Int)(ls:List (List Int)):Option (Int×List (List Int)):=
 (mD k x ls).bind fun l1=>(cV k l1).bind fun ld=>(cR k t ld).bind fun n=>(mD k x l1).bind fun l2=>some (n,l2)
theorem rP(k:Nat)(t:a8)(x:Int×Int)(ls:List (List Int))(r:Int×List (List Int))(y m:Nat)(z:Value×(Nat→Value))(h:ml k t x ls=some r):
 dx (iL Tryz.prog) 100 [.eq (bP y),.rep eW x] ([.inv m (bi k t)]++([.obj y 128 (.agg (.pair (.at au (t,.map (some m))) (.eq z.1)))]++gl 23 z ls)) (fun _:Unit=>(bp [I r.1],[.inv m (bi k t)]++([.obj y 128 (.agg (.pair (.at au (t,.map (some m))) (.eq z.1)))]++gl 23 z r.2))):=by
 unfold ml at h
 replace h:=be h
 obtain⟨l1,e1,h⟩:=aa h
 obtain⟨ld,e2,h⟩:=aa h
 obtain⟨n,e2',h⟩:=aa h
 obtain⟨l2,e3,h⟩:=aa h
 cases h
 have cv:=dq k l1 ld e2
 have cl:=jj k t m ld n e2'
 refine zR 20 Tryz.func100 rfl Tryz.ntmps100 rfl fun S w0=>?_
 refine sr ?_
 refine bx fun b3=>?_
 refine cq ?_
 refine nt ?_
 refine sr ?_
 refine mq ?_
 refine ka (ao rfl gG (xQ) rfl) ?_
 refine cJ (gX (Δ':=([.obj y 128 (.agg (.pair (.at au (t,.map (some m))) (.eq z.1)))]++gl 23 z ls)++[.obj b3 131 (.rep eW x),.inv m (bi k t)]) (List.perm_append_comm (l₁:=([.obj b3 131 (.rep eW x),.inv m (bi k t)]:List D)))) ?_
 refine bN (Δ:=_++_) (F:=[_,_]) (fun _ _ _=>av rfl _) rfl rfl (ak [.tmp 5,.tmp 6] rfl rfl xt rfl (lV k x ls l1 y (t,.map (some m)) z e1)) ⟨rfl,rfl,trivial⟩ fun _=>?_
 refine nt ?_
 refine sr ?_
 refine mq ?_
 refine cJ (gX (Δ':=[.obj b3 131 (.rep eW x),.inv m (bi k t)]++([.obj y 128 (.agg (.pair (.at au (t,.map (some m))) (.eq z.1)))]++gl 23 z l1)) List.perm_append_comm) ?_
 refine ka (ao rfl gG (xQ) rfl) ?_
 refine cJ (rF 9 rfl fun _ _ _ h=>GV h) ?_
 refine wA (vs:=[bP y,Oo x]) [.tmp 8,.tmp 9] rfl rfl rfl rfl rfl ⟨rfl,rfl,trivial⟩ ?_
 refine ar ?_
 refine ag ?_
 refine bv (gX (Δ':=([.obj y 128 (.agg (.pair (.at au (t,.map (some m))) (.eq z.1)))]++gl 23 z l1)++[.obj b3 131 (.rep eW x),.inv m (bi k t)]) (List.perm_append_comm (l₁:=([.obj b3 131 (.rep eW x),.inv m (bi k t)]:List D)))) ?_
 show JC _ _ _ _ _
 refine ae ?_
 refine CC (L:=_++_) (Δ:=[_,_]) (Γ1:=[(0,.at Ie ((t,.map (some m)),l1))]) (Z:=Unit) (fun _=>[(4,I n)]) (fun _=>[.obj b3 131 (.rep eW x),.inv m (bi k t)]) (fun S w a hl hk=>yf hl hk rfl) (fun _=>⟨J9 rfl,I6 rfl rfl⟩) (fun S w=>?_) (fun _=>?_)
 ·
  refine cm ?_;refine dm ?_;refine da (dC rfl) ?_;refine da (aN 1 false rfl On rfl) ?_;refine da (an (t:=.ptr au) rfl ER rfl) ?_;refine dm ?_;refine da (dC rfl) ?_;refine da (aN 1 false rfl tf rfl) ?_;refine da (an (t:=.slice (.slice (.int .i64))) rfl nG rfl) ?_;refine da (ak [.tmp 17] rfl rfl Ox rfl cv) ?_;refine sN (by kernel_rfl) qg ?_;refine fr 1 ?_;refine kb (fY [.tmp 13,.tmp 18] rfl rfl LF rfl cl) ?_;refine aq (ar ?_);exact fun a w st=>⟨rfl,(),(SE.fin (Γ':=[(4,I n)]) [1,0] ⟨rfl,trivial⟩ rfl) a w st⟩
 ·
  refine tn (aA (Cm (Δ1:=[.obj y 128 (.agg (.pair (.at au (t,.map (some m))) (.eq z.1)))]++gl 23 z l1) (F:=[.obj b3 131 (.rep eW x),.inv m (bi k t)]) xt (lV k x l1 l2 y (t,.map (some m)) z e3 _) yg (fun _=>?_)));refine bv (gX (Δ':=[.obj b3 131 (.rep eW x),.inv m (bi k t)]++([.obj y 128 (.agg (.pair (.at au (t,.map (some m))) (.eq z.1)))]++gl 23 z l2)) List.perm_append_comm) ?_;refine bv (bg (pre':=[.inv m (bi k t),.obj y 128 (.agg (.pair (.at au (t,.map (some m))) (.eq z.1)))]) (Γ':=[(4,I n)]) [.obj b3 131 (.rep eW x),.inv m (bi k t),.obj y 128 (.agg (.pair (.at au (t,.map (some m))) (.eq z.1)))] (gl 23 z l2) [1,2] ⟨rfl,trivial⟩ rfl) ?_;exact iz () [_] ⟨rfl,trivial⟩ rfl
theorem rK:∀w,(zeroValue 131).run Tryz.prog w= .ok (.agg #[.int .i64 0,.int .i64 0]) w:=fun w=>by kernel_rfl
theorem uK:∀S w,(A.cells S w (.rep eW (0,0)) (Value.cells (.agg #[.int .i64 0,.int .i64 0])).toList):=fun _ _=>⟨[_],[_],rfl,rfl,rfl⟩
theorem LG:ah Tryz.prog 100:=ah.of Tryz.func100 (by kernel_rfl) (by kernel_rfl)
abbrev Ky:=Int×(Int×Int)×Int×Bool×List (List Int)
def gZ(k:Nat)(t:a8)(xs:List (Int×Int)):Nat→Ky→Option ((Int×Int)×Int×Bool×List (List Int))
 |0,_=>none
 |n+1,q=>if q.1 < (xs.length:Int) then((aZ xs q.1).bind fun x=>(ml k t x q.2.2.2.2).bind fun r=>(ck (q.1+1)).bind fun w=>gZ k t xs n (if(!q.2.2.2.1 || decide (r.1 < q.2.2.1))=true then(w,x,r.1,true,r.2) else(w,q.2.1,q.2.2.1,q.2.2.2.1,r.2))) else some q.2
def lj(k:Nat)(t:a8)(xs:List (Int×Int))(ls:List (List Int)):Option ((Int×Int)×Int×Bool×List (List Int)):=gZ k t xs k (0,(0,0),0,false,ls)
theorem uZ(k:Nat)(t:a8)(xs:List (Int×Int))(ls:List (List Int))(r:(Int×Int)×Int×Bool×List (List Int))(y m:Nat)(z:Value×(Nat→Value))(h:lj k t xs ls=some r):
 dx (iL Tryz.prog) 99 [.eq (.func (.func 100) #[bP y] #[]),Rs eW xs] ([.inv m (bi k t),.obj y 128 (.agg (.pair (.at au (t,.map (some m))) (.eq z.1)))]++gl 23 z ls) (fun _:Unit=>(bp [.rep eW r.1,I r.2.1,.eq (.bool r.2.2.1)],[.inv m (bi k t),.obj y 128 (.agg (.pair (.at au (t,.map (some m))) (.eq z.1)))]++gl 23 z r.2.2.2)):=by
 unfold lj at h
 replace h:=be h
 refine dx.of 35 Tryz.func99 rfl Tryz.ntmps99 rfl fun S w0=>?_
 refine sr ?_
 refine aE rfl rfl rfl (bJ rfl rK uK) trivial fun b4=>?_
 refine cq ?_
 refine cq ?_
 refine nt ?_
 refine sr ?_
 refine aE rfl rfl rfl (bJ rfl rK uK) trivial fun b7=>?_
 refine nt ?_
 refine sr ?_
 refine cq ?_
 refine cq ?_
 refine nt ?_
 refine ae ?_
 refine sr ?_
 refine mq ?_
 refine ol MA ?_
 refine dQ rfl ?_
 refine nt ?_
 refine aj ?_
 refine aG (Z:=Unit) (α:=Ky) (fun _ q=>[(0,.eq (.func (.func 100) #[bP y] #[])),(4,.eq (bP b4)),(7,.eq (bP b7)),(8,I q.2.2.1),(9,.eq (.bool q.2.2.2.1)),(13,Rs eW xs),(14,I (xs.length:Int)),(15,I q.1)]) (fun _ q=>[.obj b7 131 (.rep eW q.2.1),.obj b4 131 (.rep eW (0,0)),.inv m (bi k t),.obj y 128 (.agg (.pair (.at au (t,.map (some m))) (.eq z.1)))]++gl 23 z q.2.2.2.2) (gZ k t xs) k () (0,(0,0),0,false,ls) (fun _=>rfl) h (bg [.obj b7 131 (.rep eW (0,0)),.obj b4 131 (.rep eW (0,0)),.inv m (bi k t),.obj y 128 (.agg (.pair (.at au (t,.map (some m))) (.eq z.1)))] (gl 23 z ls) [0,1,2,3] ⟨rfl,rfl,rfl,rfl,rfl,rfl,rfl,rfl,trivial⟩ rfl) (fun n u q h=>?_)
 unfold gZ at h
 obtain⟨q1,q2,q3,q4,q5⟩:=q
 refine sr ?_
 refine jb (bq rfl) ?_
 refine nt ?_
 refine ae ?_
 refine bG rfl (fun hb=>?_) (fun hb=>?_)
 ·
  replace h:=cy (nS hb) h;obtain⟨x,ex,h⟩:=aa h;obtain⟨r1,e,h⟩:=aa h;obtain⟨w,ew,h⟩:=aa h;have cl:=rP k t x q5 r1 y m z e;refine sk (ae (aj (sr (jb (aH (t:=eW) rfl MA gG ex) ?_))));refine ja (an (t:=eW) rfl gG rfl) ?_;refine aE rfl rfl rfl (bJ rfl rK uK) trivial fun c=>?_;refine bf rfl rfl (a9 rfl gG rfl rfl rfl) ⟨rfl,rfl,trivial⟩ ?_;refine nt (sr (mq ?_));refine ka (ao rfl gG (xQ) rfl) ?_;refine cJ (gX (Δ':=([.inv m (bi k t)]++([.obj y 128 (.agg (.pair (.at au (t,.map (some m))) (.eq z.1)))]++gl 23 z q5))++[.obj c 131 (.rep eW x),.obj b7 131 (.rep eW q2),.obj b4 131 (.rep eW (0,0))]) (List.perm_append_comm (l₁:=([.obj c 131 (.rep eW x),.obj b7 131 (.rep eW q2),.obj b4 131 (.rep eW (0,0))]:List D)))) ?_;refine bN (Δ:=_++_) (F:=[_,_,_]) (fun _ _ _=>av rfl _) rfl rfl (oq (fs:=[bP y]) (cs:=[]) (ags:=[.rep eW x]) [.tmp 20] rfl rfl LG rfl cl) ⟨rfl,rfl,trivial⟩ fun _=>?_;refine aq ?_;refine cJ (gX (Δ':=[.obj c 131 (.rep eW x),.obj b7 131 (.rep eW q2),.obj b4 131 (.rep eW (0,0))]++([.inv m (bi k t)]++([.obj y 128 (.agg (.pair (.at au (t,.map (some m))) (.eq z.1)))]++gl 23 z r1.2))) List.perm_append_comm) ?_;refine nt ?_;cases q4 with
  |false=>
   refine sr (mq ?_);refine ja (eB rfl) ?_;refine mq ?_;iterate 3 refine gn ?_
   refine pt (nt ?_);refine bG rfl (fun hb=>?_) (fun hb=>(by cases hb));refine ab (ka (ao rfl gG (xQ) rfl) ?_);refine mq ?_;refine fr 1 ?_;refine bf rfl rfl (a9 rfl gG rfl rfl rfl) ⟨rfl,rfl,trivial⟩ ?_;refine aq ?_;refine cq (ar (aL (tn (ab ?_))));refine jb (ba rfl ew) ?_;refine mq (nl ?_);exact iM ((),(w,x,r1.1,true,r1.2)) h (bg [.obj b7 131 (.rep eW x),.obj c 131 (.rep eW x),.obj b4 131 (.rep eW (0,0)),.inv m (bi k t),.obj y 128 (.agg (.pair (.at au (t,.map (some m))) (.eq z.1)))] (gl 23 z r1.2) [0,2,3,4] ⟨rfl,rfl,rfl,rfl,rfl,rfl,rfl,rfl,trivial⟩ rfl)
  |true=>
   refine sr (mq ?_);refine ja (eB rfl) ?_;refine mq ?_;refine gm ?_;refine gm ?_;refine gb (bq rfl) ?_;refine pf (nt ?_);refine bG rfl (fun hb=>?_) (fun hb=>?_)
   ·replace h:(gZ k t xs n (w,x,r1.1,true,r1.2)).bind some=some r:=by
     have hd:r1.1 < q3:=of_decide_eq_true hb;simpa [hd] using h
    refine ab (ka (ao rfl gG (xQ) rfl) ?_);refine mq ?_;refine fr 1 ?_;refine bf rfl rfl (a9 rfl gG rfl rfl rfl) ⟨rfl,rfl,trivial⟩ ?_;refine aq ?_;refine cq (ar (aL (tn (ab ?_))));refine jb (ba rfl ew) ?_;refine mq (nl ?_);exact iM ((),(w,x,r1.1,true,r1.2)) h (bg [.obj b7 131 (.rep eW x),.obj c 131 (.rep eW x),.obj b4 131 (.rep eW (0,0)),.inv m (bi k t),.obj y 128 (.agg (.pair (.at au (t,.map (some m))) (.eq z.1)))] (gl 23 z r1.2) [0,2,3,4] ⟨rfl,rfl,rfl,rfl,rfl,rfl,rfl,rfl,trivial⟩ rfl)
   ·replace h:(gZ k t xs n (w,q2,q3,true,r1.2)).bind some=some r:=by
     have hd:¬r1.1 < q3:=of_decide_eq_false hb;simpa [hd] using h
    refine aS (aL (tn (ab (jb (ba rfl ew) ?_))));refine mq (nl ?_);exact iM ((),(w,q2,q3,true,r1.2)) h (bg [.obj c 131 (.rep eW x),.obj b7 131 (.rep eW q2),.obj b4 131 (.rep eW (0,0)),.inv m (bi k t),.obj y 128 (.agg (.pair (.at au (t,.map (some m))) (.eq z.1)))] (gl 23 z r1.2) [1,2,3,4] ⟨rfl,rfl,rfl,rfl,rfl,rfl,rfl,rfl,trivial⟩ rfl)
 replace h:=bM (nv hb) h
 refine dt ?_
 refine aM ?_
 refine aM ?_
 refine bO ?_
 refine tn ?_
 cases h
 refine sr ?_
 refine ka (ao rfl gG (xQ) rfl) ?_
 iterate 2 refine mq ?_
 refine fr 1 ?_
 refine bf rfl rfl (a9 rfl gG rfl rfl rfl) ⟨rfl,rfl,trivial⟩ ?_
 refine aq ?_
 refine aq ?_
 refine nt ?_
 refine aA ?_
 refine bv (gX (Δ':=([.inv m (bi k t),.obj y 128 (.agg (.pair (.at au (t,.map (some m))) (.eq z.1)))]++gl 23 z q5)++[.obj b4 131 (.rep eW q2),.obj b7 131 (.rep eW q2)]) (List.perm_append_comm (l₁:=([.obj b4 131 (.rep eW q2),.obj b7 131 (.rep eW q2)]:List D)))) ?_
 exact aD () [_,_,_] ([.inv m (bi k t),.obj y 128 (.agg (.pair (.at au (t,.map (some m))) (.eq z.1)))]++gl 23 z q5:List D).length ⟨⟨b4,131,.rep eW q2,2,true,rfl,List.mem_append.2 (.inr (List.mem_cons_self ..)),gG,xQ,rfl⟩,rfl,rfl,trivial⟩ (by rw [List.take_left])
theorem pL:ah Tryz.prog 97:=ah.of Tryz.func97 (by kernel_rfl) (by kernel_rfl)
theorem Oz:ah Tryz.prog 48:=ah.of Tryz.func48 (by kernel_rfl) (by kernel_rfl)
theorem Oy:ah Tryz.prog 84:=ah.of Tryz.func84 (by kernel_rfl) (by kernel_rfl)
theorem Ou:ah Tryz.prog 98:=ah.of Tryz.func98 (by kernel_rfl) (by kernel_rfl)
theorem Ot:ah Tryz.prog 99:=ah.of Tryz.func99 (by kernel_rfl) (by kernel_rfl)
theorem JS:dF Tryz.prog 22 1 false:=⟨fun w=>by kernel_rfl,fun w=>by kernel_rfl⟩
theorem J8:aU Tryz.prog 25 1 1:=aU.of (by kernel_rfl)
theorem nH:mo Tryz.prog 28 23 1 24:=.of (z:=(.slice none 0 0)) mf (by kernel_rfl) rfl rfl rfl
theorem EU:mo Tryz.prog 129 131 2 16:=.of (z:=(.agg #[.int .i64 0,.int .i64 0])) MA (by kernel_rfl) rfl rfl rfl
theorem KZ:xN Tryz.prog 128 #[(0,1),(1,1)]:=⟨_,QY,fun _=>by kernel_rfl⟩
theorem KF:∀w,(zeroValue 128).run Tryz.prog w= .ok (.agg #[.pointer none,.slice none 0 0]) w:=fun w=>by kernel_rfl
theorem L6:∀S w,(A.cells S w (.pair (.eq (.pointer none)) (.eq (.slice none 0 0))) (Value.cells (.agg #[.pointer none,.slice none 0 0])).toList):=fun _ _=>⟨[_],_,rfl,⟨rfl,rfl⟩,rfl,rfl⟩
theorem KY:xN Tryz.prog 131 #[(0,1),(1,1)]:=⟨_,QX,fun _=>by kernel_rfl⟩
theorem Jq:∀S w,(A.cells S w (.pair (I 0) (I 0)) (Value.cells (.agg #[.int .i64 0,.int .i64 0])).toList):=fun _ _=>⟨[_],_,rfl,⟨rfl,rfl⟩,rfl,rfl⟩
def fi:List Bool→Ga→Ga
 |true::l,e::g=>e::fi l g
 |false::l,_::g=>fi l g
 |_,_=>[]
def lZ(y:Nat)(z1:Value)(l:List Int)(v v2:Value):Ga:=[(39,.eq (bP y)),(40,.eq (bP y)),(41,.eq (bP y)),(42,.eq (.pointer (some ⟨y,0+1,none⟩))),(43,.eq z1),(44,Ri l),(45,.eq v),(46,.rep (.slice .val) [v]),(47,.eq v2),(48,.eq (bP y)),(49,.eq (.pointer (some ⟨y,0+1,none⟩)))]
def ln(b2 y:Nat)(n i:Int)(l:List Int)(a1:List (List Int)):Ga:=[(2,.eq (bP b2)),(8,I n),(10,.eq (bP y)),(12,Ri l),(33,.rep (.slice (.slice (.int .i64))) a1),(34,I (a1.length:Int)),(35,I i)]
theorem Pz{i j:Int}:AE (.agg (.pair (I i) (I j))) (.rep eW (i,j)):=fun S w cs h=>by
 obtain⟨c1,c2,e,h1,h2⟩:=h
 exact⟨c1,c2,e,h1.1,h2.1⟩
def lY(k:Nat)(a1:List (List Int)):Nat→Int×List (List Int)→Option (List (List Int))
 |0,_=>none
 |n+1,q=>if q.1 < (a1.length:Int) then((aZ a1 q.1).bind fun l=>(jY k l).bind fun l2=>if bV (q.2.length+1) then(ck (q.1+1)).bind fun w=>lY k a1 n (w,q.2++[l2]) else none) else some q.2
def j0(k:Nat)(t:a8)(i:Int):Nat→Int×List (Int×Int)×List (List Int)→Option (List (Int×Int)×List (List Int))
 |0,_=>none
 |n+1,q=>if q.1 < (t.2.1.length:Int) then((mj k t (i,q.1) q.2.2).bind fun r=>if r.1=true then(if bV (q.2.1.length+1) then(ck (q.1+1)).bind fun w=>j0 k t i n (w,q.2.1++[(i,q.1)],r.2) else none) else(ck (q.1+1)).bind fun w=>j0 k t i n (w,q.2.1,r.2)) else some q.2
def jd(k:Nat)(t:a8):Nat→Int×List (Int×Int)×List (List Int)→Option (List (Int×Int)×List (List Int))
 |0,_=>none
 |n+1,q=>if q.1 < (t.2.1.length:Int) then((ck (q.1+1)).bind fun w=>(j0 k t q.1 k (w,q.2)).bind fun p=>jd k t n (w,p)) else some q.2
def tJ(k:Nat)(a0:a8)(a1:(List (List Int))):Option (Int×Int×Int×Int):=
 (jE k a0 a1).bind fun L=>if¬(L.2=0) then some (0,0,0,L.2) else
 (lY k a1 k (0,[])).bind fun ls=>(jd k a0 k (0,[],ls)).bind fun p=>(lj k a0 p.1 p.2).bind fun b=>
 if(!b.2.2.1 || decide (L.1≤b.2.1))=true then some (0,0,0,11) else some (b.1.1,b.1.2,b.2.1,0)
theorem yj(k:Nat)(a0:a8)(a1:(List (List Int)))(r:Int×Int×Int×Int)(h:tJ k a0 a1=some r):
 dx (iL Tryz.prog) 40 [.rep aF a0,.rep (.slice (.slice (.int .i64))) a1] [.inv 0 fH] (fun _:Unit=>(bp [.eq (.int .i64 r.1),.eq (.int .i64 r.2.1),.eq (.int .i64 r.2.2.1),.eq (.int .i64 r.2.2.2)],[.inv 0 fH])):=by
 unfold tJ at h
 replace h:=be h
 refine dx.of 97 Tryz.func40 rfl Tryz.ntmps40 rfl fun S w0=>?_
 refine ae ?_
 refine ab ?_
 refine aE rfl rfl rfl (nJ rfl rfl) ⟨rfl,trivial⟩ fun b2=>?_
 refine dH rfl ?_
 refine dH rfl ?_
 refine dH rfl ?_
 refine dH rfl ?_
 refine ar ?_
 refine ag ?_
 show JC _ _ _ _ _
 obtain⟨L,eL,h⟩:=aa h
 have cL:=na k a0 a1 L eL
 refine ae ?_
 refine ab ?_
 refine bU rfl rfl rfl (ao rfl EQ (xQ) rfl) ⟨rfl,trivial⟩ ?_
 refine ax rfl rfl ?_
 refine bC 1 rfl ?_
 refine bU rfl rfl rfl (fY [.tmp 21,.tmp 22] rfl rfl Oz rfl cL) ⟨rfl,rfl,trivial⟩ ?_
 refine ax rfl rfl ?_
 refine aB rfl (eS rfl rfl) ⟨rfl,trivial⟩ ?_
 refine aB rfl (eS rfl rfl) ⟨rfl,trivial⟩ ?_
 refine dk rfl rfl ?_
 refine dk rfl rfl ?_
 refine ar ?_
 refine ag ?_
 show JC _ _ _ _ _
 refine ae ?_
 refine ae ?_
 refine ab ?_
 refine ax rfl rfl ?_
 refine aB rfl (eZ rfl) ⟨rfl,rfl,trivial⟩ ?_
 refine ar ?_
 refine ag ?_
 show JC _ _ _ _ _
 refine bG rfl (fun hb=>?_) (fun hb=>?_)
 ·
  replace h:=cy (F8 hb) h
  refine ae ?_
  refine ab ?_
  refine ax rfl rfl ?_
  refine dH rfl ?_
  refine dH rfl ?_
  refine dH rfl ?_
  refine dk rfl rfl ?_
  refine ar ?_
  refine ag ?_
  show JC _ _ _ _ _
  refine aA ?_
  refine aK ?_
  obtain rfl:=Option.some.inj h
  exact aD () [_,_,_,_] 1 ⟨rfl,rfl,rfl,rfl,trivial⟩ rfl
 replace h:=bM (uk hb) h
 refine aS ?_
 refine ag ?_
 show JC _ _ _ _ _
 rw [Option.bind_assoc] at h
 refine ae ?_
 refine ab ?_
 refine bC 1 rfl ?_
 refine bU rfl rfl rfl (ao rfl EQ (xQ) rfl) ⟨rfl,trivial⟩ ?_
 refine aE rfl rfl rfl (ak [.tmp 29] rfl rfl Oy rfl (eX a0)) ⟨rfl,trivial⟩ fun m=>?_
 refine cJ (ji (bi k a0) jK) ?_
 refine aB rfl (dD [(0,.tmp 30,_)] rfl KZ KF L6 (jm ⟨trivial,trivial⟩) rfl) ⟨rfl,trivial⟩ ?_
 refine aE rfl rfl rfl (nJ rfl trivial) ⟨rfl,trivial⟩ fun y=>?_
 refine dk rfl rfl ?_
 refine ar ?_
 refine ag ?_
 show JC _ _ _ _ _
 refine ae ?_
 refine ae ?_
 refine ab ?_
 refine ax rfl rfl ?_
 refine aB rfl (jt rfl rfl mf) ⟨rfl,trivial⟩ ?_
 refine dQ rfl ?_
 refine cJ (SE.nil 23 .val) ?_
 refine cJ (gX (Δ':=[.obj y 128 (.agg (.pair (.at au (a0,.map (some m))) (.eq (.slice none 0 0)))),.inv m (bi k a0),.obj b2 25 (.rep aF a0),.inv 0 fH]++gl 23 (.slice none 0 0,fun _=>undef) []) (List.Perm.trans (List.perm_append_comm (l₁:=([.sl (.slice none 0 0) 23 .val []]:List D))) (List.Perm.refl _))) ?_
 refine ar ?_
 refine ag ?_
 show JC _ _ _ _ _
 refine aj ?_
 refine aG (Z:=Value×(Nat→Value)) (α:=Int×List (List Int)) (fun z q=>[(2,.eq (bP b2)),(8,.eq (.int .i64 L.1)),(10,.eq (bP y)),(33,.rep (.slice (.slice (.int .i64))) a1),(34,.eq (.int .i64 (a1.length:Int))),(35,.eq (.int .i64 q.1))]) (fun z q=>[.obj y 128 (.agg (.pair (.at au (a0,.map (some m))) (.eq z.1))),.inv m (bi k a0),.obj b2 25 (.rep aF a0),.inv 0 fH]++gl 23 z q.2) (lY k a1) k (.slice none 0 0,fun _=>undef) (0,[]) (fun _=>rfl) h (bg [.obj y 128 (.agg (.pair (.at au (a0,.map (some m))) (.eq (.slice none 0 0)))),.inv m (bi k a0),.obj b2 25 (.rep aF a0),.inv 0 fH] (gl 23 (.slice none 0 0,fun _=>undef) []) [0,1,2,3] ⟨rfl,rfl,rfl,rfl,rfl,rfl,trivial⟩ rfl) (fun n z q h=>?_)
 unfold lY at h
 refine ae ?_
 refine ab ?_
 refine aB rfl (bq rfl) ⟨rfl,rfl,trivial⟩ ?_
 refine ar ?_
 refine ag ?_
 show JC _ _ _ _ _
 refine ae ?_
 refine bG rfl (fun hb=>?_) (fun hb=>?_)
 ·
  replace h:=cy (nS hb) h
  obtain⟨q1,q2⟩:=q
  obtain⟨l,el,h⟩:=aa h
  obtain⟨l2,el2,h⟩:=aa h
  have hk:bV (q2.length+1):=by
   apply Classical.byContradiction
   intro hn
   rw [if_neg hn] at h
   cases h
  replace h:=cy hk h
  have cc:=mM k l l2 el2
  refine aS ?_
  refine ag ?_
  show JC _ _ _ _ _
  refine ae ?_
  refine aj ?_
  refine ae ?_
  refine ab ?_
  refine aB rfl (aH (t:=.slice (.int .i64)) rfl mf Bq el) ⟨rfl,rfl,trivial⟩ ?_
  refine aB rfl (an (t:=.slice (.int .i64)) rfl Bq rfl) ⟨rfl,trivial⟩ ?_
  refine dk rfl rfl ?_
  refine ar ?_
  refine ag ?_
  show JC _ _ _ _ _
  refine fU (Ce (pre:=[.obj y 128 (.agg (.pair (.at au (a0,.map (some m))) (.eq z.1))),.inv m (bi k a0),.obj b2 25 (.rep aF a0),.inv 0 fH])) ?_
  refine iO 1 rfl ?_
  refine fU (SE.sub (Γ':=ln b2 y L.1 q1 l a1) ⟨rfl,rfl,rfl,rfl,rfl,rfl,rfl,trivial⟩) ?_
  generalize hB:ln b2 y L.1 q1 l a1=B
  refine uS (Δ:=[.obj y 128 (.agg (.pair (.at au (a0,.map (some m))) (.eq z.1))),.sl z.1 23 .val (fk z.2 0 q2)]) (F:=[.inv m (bi k a0),.obj b2 25 (.rep aF a0),.inv 0 fH]++kY z.2 0 q2) (Z:=Value×Value) (fun p=>B) (fun p=>[.obj y 128 (.agg (.pair (.at au (a0,.map (some m))) (.eq p.2))),.sl p.2 23 .val (fk z.2 0 q2++[p.1]),.sl p.1 3 (.int .i64) l2]) (fun S w=>?_) (fun p=>?_)
  ·
   subst hB
   refine HJ (I:=Value×Value) (Ge:=fun _=>ln b2 y L.1 q1 l a1) (De:=fun p=>[.obj y 128 (.agg (.pair (.at au (a0,.map (some m))) (.eq p.2))),.sl p.2 23 .val (fk z.2 0 q2++[p.1]),.sl p.1 3 (.int .i64) l2]) (L:=[true,true,true,true,true,true,true,true,true,true,true,true]) qg rfl (fun J hJ hE=>?_) (by kernel_rfl) (fun p=>?_)
   ·
    have s2047:∀(v v2:Value),J 1 [true,true,true,true,true,true,true,true,true,true,true,false] (fi [true,true,true,true,true,true,true,true,true,true,true,false] (lZ y z.1 l v v2)++ln b2 y L.1 q1 l a1) [.obj y 128 (.agg (.pair (.at au (a0,.map (some m))) (.eq z.1))),.sl v2 23 .val (fk z.2 0 q2++[v]),.sl v 3 (.int .i64) l2]:=fun v v2=>by
     subst hJ
     refine JD.step [11] (by kernel_rfl) rfl ?_
     refine ff.cons rfl ?_ ?_
     ·
      refine bC 1 rfl ?_
      refine gj fun hv=>?_
      refine bC 1 rfl ?_
      refine bf rfl rfl (a9 rfl nG hv rfl rfl) ⟨rfl,rfl,trivial⟩ ?_
      exact aY (hE (v,v2)) [0,1,2] ⟨rfl,rfl,rfl,rfl,rfl,rfl,rfl,trivial⟩
     exact trivial
    have s1023:∀(v v2:Value),J 2 [true,true,true,true,true,true,true,true,true,true,false,false] (fi [true,true,true,true,true,true,true,true,true,true,false,false] (lZ y z.1 l v v2)++ln b2 y L.1 q1 l a1) [.obj y 128 (.agg (.pair (.at au (a0,.map (some m))) (.eq z.1))),.sl v2 23 .val (fk z.2 0 q2++[v]),.sl v 3 (.int .i64) l2]:=fun v v2=>by
     subst hJ
     refine JD.step [10] (by kernel_rfl) rfl ?_
     refine ff.cons rfl ?_ ?_
     ·
      refine aB rfl (aw rfl tf) ⟨rfl,trivial⟩ ?_
      exact aY (s2047 v v2) [0,1,2] ⟨rfl,rfl,rfl,rfl,rfl,rfl,rfl,rfl,rfl,rfl,rfl,rfl,rfl,rfl,rfl,rfl,rfl,rfl,trivial⟩
     exact trivial
    have s511:∀(v v2:Value),J 3 [true,true,true,true,true,true,true,true,true,false,false,false] (fi [true,true,true,true,true,true,true,true,true,false,false,false] (lZ y z.1 l v v2)++ln b2 y L.1 q1 l a1) [.obj y 128 (.agg (.pair (.at au (a0,.map (some m))) (.eq z.1))),.sl v2 23 .val (fk z.2 0 q2++[v]),.sl v 3 (.int .i64) l2]:=fun v v2=>by
     subst hJ
     refine JD.step [9] (by kernel_rfl) rfl ?_
     refine ff.cons rfl ?_ ?_
     ·
      refine aB rfl (aW rfl) ⟨rfl,trivial⟩ ?_
      exact aY (s1023 v v2) [0,1,2] ⟨rfl,rfl,rfl,rfl,rfl,rfl,rfl,rfl,rfl,rfl,rfl,rfl,rfl,rfl,rfl,rfl,rfl,trivial⟩
     exact trivial
    have s255:∀(v:Value),J 4 [true,true,true,true,true,true,true,true,false,false,false,false] (fi [true,true,true,true,true,true,true,true,false,false,false,false] (lZ y z.1 l v undef)++ln b2 y L.1 q1 l a1) [.obj y 128 (.agg (.pair (.at au (a0,.map (some m))) (.eq z.1))),.sl z.1 23 .val (fk z.2 0 q2),.sl v 3 (.int .i64) l2]:=fun v=>by
     subst hJ
     refine JD.step [8] (by kernel_rfl) rfl ?_
     refine ff.cons rfl ?_ ?_
     ·
      refine bC 1 rfl ?_
      refine ek rfl rfl rfl (cg rfl rfl nH (by simpa [gy] using hk)) ⟨rfl,rfl,trivial⟩ fun v2=>?_
      exact aY (s511 v v2) [1,0,2] ⟨rfl,rfl,rfl,rfl,rfl,rfl,rfl,rfl,rfl,rfl,rfl,rfl,rfl,rfl,rfl,rfl,trivial⟩
     exact trivial
    have s510:∀(v v2:Value),J 4 [false,true,true,true,true,true,true,true,true,false,false,false] (fi [false,true,true,true,true,true,true,true,true,false,false,false] (lZ y z.1 l v v2)++ln b2 y L.1 q1 l a1) [.obj y 128 (.agg (.pair (.at au (a0,.map (some m))) (.eq z.1))),.sl v2 23 .val (fk z.2 0 q2++[v]),.sl v 3 (.int .i64) l2]:=fun v v2=>by
     subst hJ
     refine JD.step [0] (by kernel_rfl) rfl ?_
     refine ff.cons rfl ?_ ?_
     ·
      refine ax rfl rfl ?_
      exact aY (s511 v v2) [0,1,2] ⟨rfl,rfl,rfl,rfl,rfl,rfl,rfl,rfl,rfl,rfl,rfl,rfl,rfl,rfl,rfl,rfl,trivial⟩
     exact trivial
    have s127:∀(v:Value),J 5 [true,true,true,true,true,true,true,false,false,false,false,false] (fi [true,true,true,true,true,true,true,false,false,false,false,false] (lZ y z.1 l v undef)++ln b2 y L.1 q1 l a1) [.obj y 128 (.agg (.pair (.at au (a0,.map (some m))) (.eq z.1))),.sl z.1 23 .val (fk z.2 0 q2),.sl v 3 (.int .i64) l2]:=fun v=>by
     subst hJ
     refine JD.step [7] (by kernel_rfl) rfl ?_
     refine ff.cons rfl ?_ ?_
     ·
      refine bC 2 rfl ?_
      refine gj fun hv=>?_
      refine aB rfl (bH (t:=.val) [(.tmp 45,.eq v)] [v] rfl rfl nH (.cons hv (.val hv) .nil) rfl rfl) ⟨rfl,trivial⟩ ?_
      exact aY (s255 v) [1,2,0] ⟨rfl,rfl,rfl,rfl,rfl,rfl,rfl,rfl,rfl,rfl,rfl,rfl,rfl,rfl,rfl,trivial⟩
     exact trivial
    have s239:∀(v:Value),J 5 [true,true,true,true,false,true,true,true,false,false,false,false] (fi [true,true,true,true,false,true,true,true,false,false,false,false] (lZ y z.1 l v undef)++ln b2 y L.1 q1 l a1) [.obj y 128 (.agg (.pair (.at au (a0,.map (some m))) (.eq z.1))),.sl z.1 23 .val (fk z.2 0 q2),.sl v 3 (.int .i64) l2]:=fun v=>by
     subst hJ
     refine JD.step [4] (by kernel_rfl) rfl ?_
     refine ff.cons rfl ?_ ?_
     ·
      refine bU rfl rfl rfl (ao rfl nG mA rfl) ⟨rfl,trivial⟩ ?_
      exact aY (s255 v) [0,1,2] ⟨rfl,rfl,rfl,rfl,rfl,rfl,rfl,rfl,rfl,rfl,rfl,rfl,rfl,rfl,rfl,trivial⟩
     exact trivial
    have s254:∀(v:Value),J 5 [false,true,true,true,true,true,true,true,false,false,false,false] (fi [false,true,true,true,true,true,true,true,false,false,false,false] (lZ y z.1 l v undef)++ln b2 y L.1 q1 l a1) [.obj y 128 (.agg (.pair (.at au (a0,.map (some m))) (.eq z.1))),.sl z.1 23 .val (fk z.2 0 q2),.sl v 3 (.int .i64) l2]:=fun v=>by
     subst hJ
     refine JD.step [0,8] (by kernel_rfl) rfl ?_
     refine ff.cons rfl ?_ ?_
     ·
      refine ax rfl rfl ?_
      exact aY (s255 v) [0,1,2] ⟨rfl,rfl,rfl,rfl,rfl,rfl,rfl,rfl,rfl,rfl,rfl,rfl,rfl,rfl,rfl,trivial⟩
     refine ff.cons rfl ?_ ?_
     ·
      refine bC 1 rfl ?_
      refine ek rfl rfl rfl (cg rfl rfl nH (by simpa [gy] using hk)) ⟨rfl,rfl,trivial⟩ fun v2=>?_
      exact aY (s510 v v2) [1,0,2] ⟨rfl,rfl,rfl,rfl,rfl,rfl,rfl,rfl,rfl,rfl,rfl,rfl,rfl,rfl,rfl,trivial⟩
     exact trivial
    have s63:J 6 [true,true,true,true,true,true,false,false,false,false,false,false] (fi [true,true,true,true,true,true,false,false,false,false,false,false] (lZ y z.1 l undef undef)++ln b2 y L.1 q1 l a1) [.obj y 128 (.agg (.pair (.at au (a0,.map (some m))) (.eq z.1))),.sl z.1 23 .val (fk z.2 0 q2)]:=by
     subst hJ
     refine JD.step [6] (by kernel_rfl) rfl ?_
     refine ff.cons rfl ?_ ?_
     ·
      refine aE rfl rfl rfl (ak [.tmp 44] rfl rfl pL rfl cc) ⟨rfl,trivial⟩ fun v=>?_
      exact aY (s127 v) [1,2,0] ⟨rfl,rfl,rfl,rfl,rfl,rfl,rfl,rfl,rfl,rfl,rfl,rfl,rfl,rfl,trivial⟩
     exact trivial
    have s111:∀(v:Value),J 6 [true,true,true,true,false,true,true,false,false,false,false,false] (fi [true,true,true,true,false,true,true,false,false,false,false,false] (lZ y z.1 l v undef)++ln b2 y L.1 q1 l a1) [.obj y 128 (.agg (.pair (.at au (a0,.map (some m))) (.eq z.1))),.sl z.1 23 .val (fk z.2 0 q2),.sl v 3 (.int .i64) l2]:=fun v=>by
     subst hJ
     refine JD.step [4,7] (by kernel_rfl) rfl ?_
     refine ff.cons rfl ?_ ?_
     ·
      refine bU rfl rfl rfl (ao rfl nG mA rfl) ⟨rfl,trivial⟩ ?_
      exact aY (s127 v) [0,1,2] ⟨rfl,rfl,rfl,rfl,rfl,rfl,rfl,rfl,rfl,rfl,rfl,rfl,rfl,rfl,trivial⟩
     refine ff.cons rfl ?_ ?_
     ·
      refine bC 2 rfl ?_
      refine gj fun hv=>?_
      refine aB rfl (bH (t:=.val) [(.tmp 45,.eq v)] [v] rfl rfl nH (.cons hv (.val hv) .nil) rfl rfl) ⟨rfl,trivial⟩ ?_
      exact aY (s239 v) [1,2,0] ⟨rfl,rfl,rfl,rfl,rfl,rfl,rfl,rfl,rfl,rfl,rfl,rfl,rfl,rfl,trivial⟩
     exact trivial
    have s126:∀(v:Value),J 6 [false,true,true,true,true,true,true,false,false,false,false,false] (fi [false,true,true,true,true,true,true,false,false,false,false,false] (lZ y z.1 l v undef)++ln b2 y L.1 q1 l a1) [.obj y 128 (.agg (.pair (.at au (a0,.map (some m))) (.eq z.1))),.sl z.1 23 .val (fk z.2 0 q2),.sl v 3 (.int .i64) l2]:=fun v=>by
     subst hJ
     refine JD.step [0,7] (by kernel_rfl) rfl ?_
     refine ff.cons rfl ?_ ?_
     ·
      refine ax rfl rfl ?_
      exact aY (s127 v) [0,1,2] ⟨rfl,rfl,rfl,rfl,rfl,rfl,rfl,rfl,rfl,rfl,rfl,rfl,rfl,rfl,trivial⟩
     refine ff.cons rfl ?_ ?_
     ·
      refine bC 2 rfl ?_
      refine gj fun hv=>?_
      refine aB rfl (bH (t:=.val) [(.tmp 45,.eq v)] [v] rfl rfl nH (.cons hv (.val hv) .nil) rfl rfl) ⟨rfl,trivial⟩ ?_
      exact aY (s254 v) [1,2,0] ⟨rfl,rfl,rfl,rfl,rfl,rfl,rfl,rfl,rfl,rfl,rfl,rfl,rfl,rfl,trivial⟩
     exact trivial
    have s231:∀(v:Value),J 6 [true,true,true,false,false,true,true,true,false,false,false,false] (fi [true,true,true,false,false,true,true,true,false,false,false,false] (lZ y z.1 l v undef)++ln b2 y L.1 q1 l a1) [.obj y 128 (.agg (.pair (.at au (a0,.map (some m))) (.eq z.1))),.sl z.1 23 .val (fk z.2 0 q2),.sl v 3 (.int .i64) l2]:=fun v=>by
     subst hJ
     refine JD.step [3] (by kernel_rfl) rfl ?_
     refine ff.cons rfl ?_ ?_
     ·
      refine aB rfl (aw rfl tf) ⟨rfl,trivial⟩ ?_
      exact aY (s239 v) [0,1,2] ⟨rfl,rfl,rfl,rfl,rfl,rfl,rfl,rfl,rfl,rfl,rfl,rfl,rfl,rfl,trivial⟩
     exact trivial
    have s238:∀(v:Value),J 6 [false,true,true,true,false,true,true,true,false,false,false,false] (fi [false,true,true,true,false,true,true,true,false,false,false,false] (lZ y z.1 l v undef)++ln b2 y L.1 q1 l a1) [.obj y 128 (.agg (.pair (.at au (a0,.map (some m))) (.eq z.1))),.sl z.1 23 .val (fk z.2 0 q2),.sl v 3 (.int .i64) l2]:=fun v=>by
     subst hJ
     refine JD.step [0,4] (by kernel_rfl) rfl ?_
     refine ff.cons rfl ?_ ?_
     ·
      refine ax rfl rfl ?_
      exact aY (s239 v) [0,1,2] ⟨rfl,rfl,rfl,rfl,rfl,rfl,rfl,rfl,rfl,rfl,rfl,rfl,rfl,rfl,trivial⟩
     refine ff.cons rfl ?_ ?_
     ·
      refine bU rfl rfl rfl (ao rfl nG mA rfl) ⟨rfl,trivial⟩ ?_
      exact aY (s254 v) [0,1,2] ⟨rfl,rfl,rfl,rfl,rfl,rfl,rfl,rfl,rfl,rfl,rfl,rfl,rfl,rfl,trivial⟩
     exact trivial
    have s31:J 7 [true,true,true,true,true,false,false,false,false,false,false,false] (fi [true,true,true,true,true,false,false,false,false,false,false,false] (lZ y z.1 l undef undef)++ln b2 y L.1 q1 l a1) [.obj y 128 (.agg (.pair (.at au (a0,.map (some m))) (.eq z.1))),.sl z.1 23 .val (fk z.2 0 q2)]:=by
     subst hJ
     refine JD.step [5] (by kernel_rfl) rfl ?_
     refine ff.cons rfl ?_ ?_
     ·
      refine ax rfl rfl ?_
      exact aY (s63) [0,1] ⟨rfl,rfl,rfl,rfl,rfl,rfl,rfl,rfl,rfl,rfl,rfl,rfl,rfl,trivial⟩
     exact trivial
    have s47:J 7 [true,true,true,true,false,true,false,false,false,false,false,false] (fi [true,true,true,true,false,true,false,false,false,false,false,false] (lZ y z.1 l undef undef)++ln b2 y L.1 q1 l a1) [.obj y 128 (.agg (.pair (.at au (a0,.map (some m))) (.eq z.1))),.sl z.1 23 .val (fk z.2 0 q2)]:=by
     subst hJ
     refine JD.step [4,6] (by kernel_rfl) rfl ?_
     refine ff.cons rfl ?_ ?_
     ·
      refine bU rfl rfl rfl (ao rfl nG mA rfl) ⟨rfl,trivial⟩ ?_
      exact aY (s63) [0,1] ⟨rfl,rfl,rfl,rfl,rfl,rfl,rfl,rfl,rfl,rfl,rfl,rfl,rfl,trivial⟩
     refine ff.cons rfl ?_ ?_
     ·
      refine aE rfl rfl rfl (ak [.tmp 44] rfl rfl pL rfl cc) ⟨rfl,trivial⟩ fun v=>?_
      exact aY (s111 v) [1,2,0] ⟨rfl,rfl,rfl,rfl,rfl,rfl,rfl,rfl,rfl,rfl,rfl,rfl,rfl,trivial⟩
     exact trivial
    have s62:J 7 [false,true,true,true,true,true,false,false,false,false,false,false] (fi [false,true,true,true,true,true,false,false,false,false,false,false] (lZ y z.1 l undef undef)++ln b2 y L.1 q1 l a1) [.obj y 128 (.agg (.pair (.at au (a0,.map (some m))) (.eq z.1))),.sl z.1 23 .val (fk z.2 0 q2)]:=by
     subst hJ
     refine JD.step [0,6] (by kernel_rfl) rfl ?_
     refine ff.cons rfl ?_ ?_
     ·
      refine ax rfl rfl ?_
      exact aY (s63) [0,1] ⟨rfl,rfl,rfl,rfl,rfl,rfl,rfl,rfl,rfl,rfl,rfl,rfl,rfl,trivial⟩
     refine ff.cons rfl ?_ ?_
     ·
      refine aE rfl rfl rfl (ak [.tmp 44] rfl rfl pL rfl cc) ⟨rfl,trivial⟩ fun v=>?_
      exact aY (s126 v) [1,2,0] ⟨rfl,rfl,rfl,rfl,rfl,rfl,rfl,rfl,rfl,rfl,rfl,rfl,rfl,trivial⟩
     exact trivial
    have s103:∀(v:Value),J 7 [true,true,true,false,false,true,true,false,false,false,false,false] (fi [true,true,true,false,false,true,true,false,false,false,false,false] (lZ y z.1 l v undef)++ln b2 y L.1 q1 l a1) [.obj y 128 (.agg (.pair (.at au (a0,.map (some m))) (.eq z.1))),.sl z.1 23 .val (fk z.2 0 q2),.sl v 3 (.int .i64) l2]:=fun v=>by
     subst hJ
     refine JD.step [3,7] (by kernel_rfl) rfl ?_
     refine ff.cons rfl ?_ ?_
     ·
      refine aB rfl (aw rfl tf) ⟨rfl,trivial⟩ ?_
      exact aY (s111 v) [0,1,2] ⟨rfl,rfl,rfl,rfl,rfl,rfl,rfl,rfl,rfl,rfl,rfl,rfl,rfl,trivial⟩
     refine ff.cons rfl ?_ ?_
     ·
      refine bC 2 rfl ?_
      refine gj fun hv=>?_
      refine aB rfl (bH (t:=.val) [(.tmp 45,.eq v)] [v] rfl rfl nH (.cons hv (.val hv) .nil) rfl rfl) ⟨rfl,trivial⟩ ?_
      exact aY (s231 v) [1,2,0] ⟨rfl,rfl,rfl,rfl,rfl,rfl,rfl,rfl,rfl,rfl,rfl,rfl,rfl,trivial⟩
     exact trivial
    have s110:∀(v:Value),J 7 [false,true,true,true,false,true,true,false,false,false,false,false] (fi [false,true,true,true,false,true,true,false,false,false,false,false] (lZ y z.1 l v undef)++ln b2 y L.1 q1 l a1) [.obj y 128 (.agg (.pair (.at au (a0,.map (some m))) (.eq z.1))),.sl z.1 23 .val (fk z.2 0 q2),.sl v 3 (.int .i64) l2]:=fun v=>by
     subst hJ
     refine JD.step [0,4,7] (by kernel_rfl) rfl ?_
     refine ff.cons rfl ?_ ?_
     ·
      refine ax rfl rfl ?_
      exact aY (s111 v) [0,1,2] ⟨rfl,rfl,rfl,rfl,rfl,rfl,rfl,rfl,rfl,rfl,rfl,rfl,rfl,trivial⟩
     refine ff.cons rfl ?_ ?_
     ·
      refine bU rfl rfl rfl (ao rfl nG mA rfl) ⟨rfl,trivial⟩ ?_
      exact aY (s126 v) [0,1,2] ⟨rfl,rfl,rfl,rfl,rfl,rfl,rfl,rfl,rfl,rfl,rfl,rfl,rfl,trivial⟩
     refine ff.cons rfl ?_ ?_
     ·
      refine bC 2 rfl ?_
      refine gj fun hv=>?_
      refine aB rfl (bH (t:=.val) [(.tmp 45,.eq v)] [v] rfl rfl nH (.cons hv (.val hv) .nil) rfl rfl) ⟨rfl,trivial⟩ ?_
      exact aY (s238 v) [1,2,0] ⟨rfl,rfl,rfl,rfl,rfl,rfl,rfl,rfl,rfl,rfl,rfl,rfl,rfl,trivial⟩
     exact trivial
    have s227:∀(v:Value),J 7 [true,true,false,false,false,true,true,true,false,false,false,false] (fi [true,true,false,false,false,true,true,true,false,false,false,false] (lZ y z.1 l v undef)++ln b2 y L.1 q1 l a1) [.obj y 128 (.agg (.pair (.at au (a0,.map (some m))) (.eq z.1))),.sl z.1 23 .val (fk z.2 0 q2),.sl v 3 (.int .i64) l2]:=fun v=>by
     subst hJ
     refine JD.step [2] (by kernel_rfl) rfl ?_
     refine ff.cons rfl ?_ ?_
     ·
      refine aB rfl (aW rfl) ⟨rfl,trivial⟩ ?_
      exact aY (s231 v) [0,1,2] ⟨rfl,rfl,rfl,rfl,rfl,rfl,rfl,rfl,rfl,rfl,rfl,rfl,rfl,trivial⟩
     exact trivial
    have s230:∀(v:Value),J 7 [false,true,true,false,false,true,true,true,false,false,false,false] (fi [false,true,true,false,false,true,true,true,false,false,false,false] (lZ y z.1 l v undef)++ln b2 y L.1 q1 l a1) [.obj y 128 (.agg (.pair (.at au (a0,.map (some m))) (.eq z.1))),.sl z.1 23 .val (fk z.2 0 q2),.sl v 3 (.int .i64) l2]:=fun v=>by
     subst hJ
     refine JD.step [0,3] (by kernel_rfl) rfl ?_
     refine ff.cons rfl ?_ ?_
     ·
      refine ax rfl rfl ?_
      exact aY (s231 v) [0,1,2] ⟨rfl,rfl,rfl,rfl,rfl,rfl,rfl,rfl,rfl,rfl,rfl,rfl,rfl,trivial⟩
     refine ff.cons rfl ?_ ?_
     ·
      refine aB rfl (aw rfl tf) ⟨rfl,trivial⟩ ?_
      exact aY (s238 v) [0,1,2] ⟨rfl,rfl,rfl,rfl,rfl,rfl,rfl,rfl,rfl,rfl,rfl,rfl,rfl,trivial⟩
     exact trivial
    have s15:J 8 [true,true,true,true,false,false,false,false,false,false,false,false] (fi [true,true,true,true,false,false,false,false,false,false,false,false] (lZ y z.1 l undef undef)++ln b2 y L.1 q1 l a1) [.obj y 128 (.agg (.pair (.at au (a0,.map (some m))) (.eq z.1))),.sl z.1 23 .val (fk z.2 0 q2)]:=by
     subst hJ
     refine JD.step [4,5] (by kernel_rfl) rfl ?_
     refine ff.cons rfl ?_ ?_
     ·
      refine bU rfl rfl rfl (ao rfl nG mA rfl) ⟨rfl,trivial⟩ ?_
      exact aY (s31) [0,1] ⟨rfl,rfl,rfl,rfl,rfl,rfl,rfl,rfl,rfl,rfl,rfl,rfl,trivial⟩
     refine ff.cons rfl ?_ ?_
     ·
      refine ax rfl rfl ?_
      exact aY (s47) [0,1] ⟨rfl,rfl,rfl,rfl,rfl,rfl,rfl,rfl,rfl,rfl,rfl,rfl,trivial⟩
     exact trivial
    have s30:J 8 [false,true,true,true,true,false,false,false,false,false,false,false] (fi [false,true,true,true,true,false,false,false,false,false,false,false] (lZ y z.1 l undef undef)++ln b2 y L.1 q1 l a1) [.obj y 128 (.agg (.pair (.at au (a0,.map (some m))) (.eq z.1))),.sl z.1 23 .val (fk z.2 0 q2)]:=by
     subst hJ
     refine JD.step [0,5] (by kernel_rfl) rfl ?_
     refine ff.cons rfl ?_ ?_
     ·
      refine ax rfl rfl ?_
      exact aY (s31) [0,1] ⟨rfl,rfl,rfl,rfl,rfl,rfl,rfl,rfl,rfl,rfl,rfl,rfl,trivial⟩
     refine ff.cons rfl ?_ ?_
     ·
      refine ax rfl rfl ?_
      exact aY (s62) [0,1] ⟨rfl,rfl,rfl,rfl,rfl,rfl,rfl,rfl,rfl,rfl,rfl,rfl,trivial⟩
     exact trivial
    have s39:J 8 [true,true,true,false,false,true,false,false,false,false,false,false] (fi [true,true,true,false,false,true,false,false,false,false,false,false] (lZ y z.1 l undef undef)++ln b2 y L.1 q1 l a1) [.obj y 128 (.agg (.pair (.at au (a0,.map (some m))) (.eq z.1))),.sl z.1 23 .val (fk z.2 0 q2)]:=by
     subst hJ
     refine JD.step [3,6] (by kernel_rfl) rfl ?_
     refine ff.cons rfl ?_ ?_
     ·
      refine aB rfl (aw rfl tf) ⟨rfl,trivial⟩ ?_
      exact aY (s47) [0,1] ⟨rfl,rfl,rfl,rfl,rfl,rfl,rfl,rfl,rfl,rfl,rfl,rfl,trivial⟩
     refine ff.cons rfl ?_ ?_
     ·
      refine aE rfl rfl rfl (ak [.tmp 44] rfl rfl pL rfl cc) ⟨rfl,trivial⟩ fun v=>?_
      exact aY (s103 v) [1,2,0] ⟨rfl,rfl,rfl,rfl,rfl,rfl,rfl,rfl,rfl,rfl,rfl,rfl,trivial⟩
     exact trivial
    have s46:J 8 [false,true,true,true,false,true,false,false,false,false,false,false] (fi [false,true,true,true,false,true,false,false,false,false,false,false] (lZ y z.1 l undef undef)++ln b2 y L.1 q1 l a1) [.obj y 128 (.agg (.pair (.at au (a0,.map (some m))) (.eq z.1))),.sl z.1 23 .val (fk z.2 0 q2)]:=by
     subst hJ
     refine JD.step [0,4,6] (by kernel_rfl) rfl ?_
     refine ff.cons rfl ?_ ?_
     ·
      refine ax rfl rfl ?_
      exact aY (s47) [0,1] ⟨rfl,rfl,rfl,rfl,rfl,rfl,rfl,rfl,rfl,rfl,rfl,rfl,trivial⟩
     refine ff.cons rfl ?_ ?_
     ·
      refine bU rfl rfl rfl (ao rfl nG mA rfl) ⟨rfl,trivial⟩ ?_
      exact aY (s62) [0,1] ⟨rfl,rfl,rfl,rfl,rfl,rfl,rfl,rfl,rfl,rfl,rfl,rfl,trivial⟩
     refine ff.cons rfl ?_ ?_
     ·
      refine aE rfl rfl rfl (ak [.tmp 44] rfl rfl pL rfl cc) ⟨rfl,trivial⟩ fun v=>?_
      exact aY (s110 v) [1,2,0] ⟨rfl,rfl,rfl,rfl,rfl,rfl,rfl,rfl,rfl,rfl,rfl,rfl,trivial⟩
     exact trivial
    have s99:∀(v:Value),J 8 [true,true,false,false,false,true,true,false,false,false,false,false] (fi [true,true,false,false,false,true,true,false,false,false,false,false] (lZ y z.1 l v undef)++ln b2 y L.1 q1 l a1) [.obj y 128 (.agg (.pair (.at au (a0,.map (some m))) (.eq z.1))),.sl z.1 23 .val (fk z.2 0 q2),.sl v 3 (.int .i64) l2]:=fun v=>by
     subst hJ
     refine JD.step [2,7] (by kernel_rfl) rfl ?_
     refine ff.cons rfl ?_ ?_
     ·
      refine aB rfl (aW rfl) ⟨rfl,trivial⟩ ?_
      exact aY (s103 v) [0,1,2] ⟨rfl,rfl,rfl,rfl,rfl,rfl,rfl,rfl,rfl,rfl,rfl,rfl,trivial⟩
     refine ff.cons rfl ?_ ?_
     ·
      refine bC 2 rfl ?_
      refine gj fun hv=>?_
      refine aB rfl (bH (t:=.val) [(.tmp 45,.eq v)] [v] rfl rfl nH (.cons hv (.val hv) .nil) rfl rfl) ⟨rfl,trivial⟩ ?_
      exact aY (s227 v) [1,2,0] ⟨rfl,rfl,rfl,rfl,rfl,rfl,rfl,rfl,rfl,rfl,rfl,rfl,trivial⟩
     exact trivial
    have s102:∀(v:Value),J 8 [false,true,true,false,false,true,true,false,false,false,false,false] (fi [false,true,true,false,false,true,true,false,false,false,false,false] (lZ y z.1 l v undef)++ln b2 y L.1 q1 l a1) [.obj y 128 (.agg (.pair (.at au (a0,.map (some m))) (.eq z.1))),.sl z.1 23 .val (fk z.2 0 q2),.sl v 3 (.int .i64) l2]:=fun v=>by
     subst hJ
     refine JD.step [0,3,7] (by kernel_rfl) rfl ?_
     refine ff.cons rfl ?_ ?_
     ·
      refine ax rfl rfl ?_
      exact aY (s103 v) [0,1,2] ⟨rfl,rfl,rfl,rfl,rfl,rfl,rfl,rfl,rfl,rfl,rfl,rfl,trivial⟩
     refine ff.cons rfl ?_ ?_
     ·
      refine aB rfl (aw rfl tf) ⟨rfl,trivial⟩ ?_
      exact aY (s110 v) [0,1,2] ⟨rfl,rfl,rfl,rfl,rfl,rfl,rfl,rfl,rfl,rfl,rfl,rfl,trivial⟩
     refine ff.cons rfl ?_ ?_
     ·
      refine bC 2 rfl ?_
      refine gj fun hv=>?_
      refine aB rfl (bH (t:=.val) [(.tmp 45,.eq v)] [v] rfl rfl nH (.cons hv (.val hv) .nil) rfl rfl) ⟨rfl,trivial⟩ ?_
      exact aY (s230 v) [1,2,0] ⟨rfl,rfl,rfl,rfl,rfl,rfl,rfl,rfl,rfl,rfl,rfl,rfl,trivial⟩
     exact trivial
    have s225:∀(v:Value),J 8 [true,false,false,false,false,true,true,true,false,false,false,false] (fi [true,false,false,false,false,true,true,true,false,false,false,false] (lZ y z.1 l v undef)++ln b2 y L.1 q1 l a1) [.obj y 128 (.agg (.pair (.at au (a0,.map (some m))) (.eq z.1))),.sl z.1 23 .val (fk z.2 0 q2),.sl v 3 (.int .i64) l2]:=fun v=>by
     subst hJ
     refine JD.step [1] (by kernel_rfl) rfl ?_
     refine ff.cons rfl ?_ ?_
     ·
      refine ax rfl rfl ?_
      exact aY (s227 v) [0,1,2] ⟨rfl,rfl,rfl,rfl,rfl,rfl,rfl,rfl,rfl,rfl,rfl,rfl,trivial⟩
     exact trivial
    have s226:∀(v:Value),J 8 [false,true,false,false,false,true,true,true,false,false,false,false] (fi [false,true,false,false,false,true,true,true,false,false,false,false] (lZ y z.1 l v undef)++ln b2 y L.1 q1 l a1) [.obj y 128 (.agg (.pair (.at au (a0,.map (some m))) (.eq z.1))),.sl z.1 23 .val (fk z.2 0 q2),.sl v 3 (.int .i64) l2]:=fun v=>by
     subst hJ
     refine JD.step [0,2] (by kernel_rfl) rfl ?_
     refine ff.cons rfl ?_ ?_
     ·
      refine ax rfl rfl ?_
      exact aY (s227 v) [0,1,2] ⟨rfl,rfl,rfl,rfl,rfl,rfl,rfl,rfl,rfl,rfl,rfl,rfl,trivial⟩
     refine ff.cons rfl ?_ ?_
     ·
      refine aB rfl (aW rfl) ⟨rfl,trivial⟩ ?_
      exact aY (s230 v) [0,1,2] ⟨rfl,rfl,rfl,rfl,rfl,rfl,rfl,rfl,rfl,rfl,rfl,rfl,trivial⟩
     exact trivial
    have s7:J 9 [true,true,true,false,false,false,false,false,false,false,false,false] (fi [true,true,true,false,false,false,false,false,false,false,false,false] (lZ y z.1 l undef undef)++ln b2 y L.1 q1 l a1) [.obj y 128 (.agg (.pair (.at au (a0,.map (some m))) (.eq z.1))),.sl z.1 23 .val (fk z.2 0 q2)]:=by
     subst hJ
     refine JD.step [3,5] (by kernel_rfl) rfl ?_
     refine ff.cons rfl ?_ ?_
     ·
      refine aB rfl (aw rfl tf) ⟨rfl,trivial⟩ ?_
      exact aY (s15) [0,1] ⟨rfl,rfl,rfl,rfl,rfl,rfl,rfl,rfl,rfl,rfl,rfl,trivial⟩
     refine ff.cons rfl ?_ ?_
     ·
      refine ax rfl rfl ?_
      exact aY (s39) [0,1] ⟨rfl,rfl,rfl,rfl,rfl,rfl,rfl,rfl,rfl,rfl,rfl,trivial⟩
     exact trivial
    have s14:J 9 [false,true,true,true,false,false,false,false,false,false,false,false] (fi [false,true,true,true,false,false,false,false,false,false,false,false] (lZ y z.1 l undef undef)++ln b2 y L.1 q1 l a1) [.obj y 128 (.agg (.pair (.at au (a0,.map (some m))) (.eq z.1))),.sl z.1 23 .val (fk z.2 0 q2)]:=by
     subst hJ
     refine JD.step [0,4,5] (by kernel_rfl) rfl ?_
     refine ff.cons rfl ?_ ?_
     ·
      refine ax rfl rfl ?_
      exact aY (s15) [0,1] ⟨rfl,rfl,rfl,rfl,rfl,rfl,rfl,rfl,rfl,rfl,rfl,trivial⟩
     refine ff.cons rfl ?_ ?_
     ·
      refine bU rfl rfl rfl (ao rfl nG mA rfl) ⟨rfl,trivial⟩ ?_
      exact aY (s30) [0,1] ⟨rfl,rfl,rfl,rfl,rfl,rfl,rfl,rfl,rfl,rfl,rfl,trivial⟩
     refine ff.cons rfl ?_ ?_
     ·
      refine ax rfl rfl ?_
      exact aY (s46) [0,1] ⟨rfl,rfl,rfl,rfl,rfl,rfl,rfl,rfl,rfl,rfl,rfl,trivial⟩
     exact trivial
    have s35:J 9 [true,true,false,false,false,true,false,false,false,false,false,false] (fi [true,true,false,false,false,true,false,false,false,false,false,false] (lZ y z.1 l undef undef)++ln b2 y L.1 q1 l a1) [.obj y 128 (.agg (.pair (.at au (a0,.map (some m))) (.eq z.1))),.sl z.1 23 .val (fk z.2 0 q2)]:=by
     subst hJ
     refine JD.step [2,6] (by kernel_rfl) rfl ?_
     refine ff.cons rfl ?_ ?_
     ·
      refine aB rfl (aW rfl) ⟨rfl,trivial⟩ ?_
      exact aY (s39) [0,1] ⟨rfl,rfl,rfl,rfl,rfl,rfl,rfl,rfl,rfl,rfl,rfl,trivial⟩
     refine ff.cons rfl ?_ ?_
     ·
      refine aE rfl rfl rfl (ak [.tmp 44] rfl rfl pL rfl cc) ⟨rfl,trivial⟩ fun v=>?_
      exact aY (s99 v) [1,2,0] ⟨rfl,rfl,rfl,rfl,rfl,rfl,rfl,rfl,rfl,rfl,rfl,trivial⟩
     exact trivial
    have s38:J 9 [false,true,true,false,false,true,false,false,false,false,false,false] (fi [false,true,true,false,false,true,false,false,false,false,false,false] (lZ y z.1 l undef undef)++ln b2 y L.1 q1 l a1) [.obj y 128 (.agg (.pair (.at au (a0,.map (some m))) (.eq z.1))),.sl z.1 23 .val (fk z.2 0 q2)]:=by
     subst hJ
     refine JD.step [0,3,6] (by kernel_rfl) rfl ?_
     refine ff.cons rfl ?_ ?_
     ·
      refine ax rfl rfl ?_
      exact aY (s39) [0,1] ⟨rfl,rfl,rfl,rfl,rfl,rfl,rfl,rfl,rfl,rfl,rfl,trivial⟩
     refine ff.cons rfl ?_ ?_
     ·
      refine aB rfl (aw rfl tf) ⟨rfl,trivial⟩ ?_
      exact aY (s46) [0,1] ⟨rfl,rfl,rfl,rfl,rfl,rfl,rfl,rfl,rfl,rfl,rfl,trivial⟩
     refine ff.cons rfl ?_ ?_
     ·
      refine aE rfl rfl rfl (ak [.tmp 44] rfl rfl pL rfl cc) ⟨rfl,trivial⟩ fun v=>?_
      exact aY (s102 v) [1,2,0] ⟨rfl,rfl,rfl,rfl,rfl,rfl,rfl,rfl,rfl,rfl,rfl,trivial⟩
     exact trivial
    have s97:∀(v:Value),J 9 [true,false,false,false,false,true,true,false,false,false,false,false] (fi [true,false,false,false,false,true,true,false,false,false,false,false] (lZ y z.1 l v undef)++ln b2 y L.1 q1 l a1) [.obj y 128 (.agg (.pair (.at au (a0,.map (some m))) (.eq z.1))),.sl z.1 23 .val (fk z.2 0 q2),.sl v 3 (.int .i64) l2]:=fun v=>by
     subst hJ
     refine JD.step [1,7] (by kernel_rfl) rfl ?_
     refine ff.cons rfl ?_ ?_
     ·
      refine ax rfl rfl ?_
      exact aY (s99 v) [0,1,2] ⟨rfl,rfl,rfl,rfl,rfl,rfl,rfl,rfl,rfl,rfl,rfl,trivial⟩
     refine ff.cons rfl ?_ ?_
     ·
      refine bC 2 rfl ?_
      refine gj fun hv=>?_
      refine aB rfl (bH (t:=.val) [(.tmp 45,.eq v)] [v] rfl rfl nH (.cons hv (.val hv) .nil) rfl rfl) ⟨rfl,trivial⟩ ?_
      exact aY (s225 v) [1,2,0] ⟨rfl,rfl,rfl,rfl,rfl,rfl,rfl,rfl,rfl,rfl,rfl,trivial⟩
     exact trivial
    have s98:∀(v:Value),J 9 [false,true,false,false,false,true,true,false,false,false,false,false] (fi [false,true,false,false,false,true,true,false,false,false,false,false] (lZ y z.1 l v undef)++ln b2 y L.1 q1 l a1) [.obj y 128 (.agg (.pair (.at au (a0,.map (some m))) (.eq z.1))),.sl z.1 23 .val (fk z.2 0 q2),.sl v 3 (.int .i64) l2]:=fun v=>by
     subst hJ
     refine JD.step [0,2,7] (by kernel_rfl) rfl ?_
     refine ff.cons rfl ?_ ?_
     ·
      refine ax rfl rfl ?_
      exact aY (s99 v) [0,1,2] ⟨rfl,rfl,rfl,rfl,rfl,rfl,rfl,rfl,rfl,rfl,rfl,trivial⟩
     refine ff.cons rfl ?_ ?_
     ·
      refine aB rfl (aW rfl) ⟨rfl,trivial⟩ ?_
      exact aY (s102 v) [0,1,2] ⟨rfl,rfl,rfl,rfl,rfl,rfl,rfl,rfl,rfl,rfl,rfl,trivial⟩
     refine ff.cons rfl ?_ ?_
     ·
      refine bC 2 rfl ?_
      refine gj fun hv=>?_
      refine aB rfl (bH (t:=.val) [(.tmp 45,.eq v)] [v] rfl rfl nH (.cons hv (.val hv) .nil) rfl rfl) ⟨rfl,trivial⟩ ?_
      exact aY (s226 v) [1,2,0] ⟨rfl,rfl,rfl,rfl,rfl,rfl,rfl,rfl,rfl,rfl,rfl,trivial⟩
     exact trivial
    have s224:∀(v:Value),J 9 [false,false,false,false,false,true,true,true,false,false,false,false] (fi [false,false,false,false,false,true,true,true,false,false,false,false] (lZ y z.1 l v undef)++ln b2 y L.1 q1 l a1) [.obj y 128 (.agg (.pair (.at au (a0,.map (some m))) (.eq z.1))),.sl z.1 23 .val (fk z.2 0 q2),.sl v 3 (.int .i64) l2]:=fun v=>by
     subst hJ
     refine JD.step [0,1] (by kernel_rfl) rfl ?_
     refine ff.cons rfl ?_ ?_
     ·
      refine ax rfl rfl ?_
      exact aY (s225 v) [0,1,2] ⟨rfl,rfl,rfl,rfl,rfl,rfl,rfl,rfl,rfl,rfl,rfl,trivial⟩
     refine ff.cons rfl ?_ ?_
     ·
      refine ax rfl rfl ?_
      exact aY (s226 v) [0,1,2] ⟨rfl,rfl,rfl,rfl,rfl,rfl,rfl,rfl,rfl,rfl,rfl,trivial⟩
     exact trivial
    have s3:J 10 [true,true,false,false,false,false,false,false,false,false,false,false] (fi [true,true,false,false,false,false,false,false,false,false,false,false] (lZ y z.1 l undef undef)++ln b2 y L.1 q1 l a1) [.obj y 128 (.agg (.pair (.at au (a0,.map (some m))) (.eq z.1))),.sl z.1 23 .val (fk z.2 0 q2)]:=by
     subst hJ
     refine JD.step [2,5] (by kernel_rfl) rfl ?_
     refine ff.cons rfl ?_ ?_
     ·
      refine aB rfl (aW rfl) ⟨rfl,trivial⟩ ?_
      exact aY (s7) [0,1] ⟨rfl,rfl,rfl,rfl,rfl,rfl,rfl,rfl,rfl,rfl,trivial⟩
     refine ff.cons rfl ?_ ?_
     ·
      refine ax rfl rfl ?_
      exact aY (s35) [0,1] ⟨rfl,rfl,rfl,rfl,rfl,rfl,rfl,rfl,rfl,rfl,trivial⟩
     exact trivial
    have s6:J 10 [false,true,true,false,false,false,false,false,false,false,false,false] (fi [false,true,true,false,false,false,false,false,false,false,false,false] (lZ y z.1 l undef undef)++ln b2 y L.1 q1 l a1) [.obj y 128 (.agg (.pair (.at au (a0,.map (some m))) (.eq z.1))),.sl z.1 23 .val (fk z.2 0 q2)]:=by
     subst hJ
     refine JD.step [0,3,5] (by kernel_rfl) rfl ?_
     refine ff.cons rfl ?_ ?_
     ·
      refine ax rfl rfl ?_
      exact aY (s7) [0,1] ⟨rfl,rfl,rfl,rfl,rfl,rfl,rfl,rfl,rfl,rfl,trivial⟩
     refine ff.cons rfl ?_ ?_
     ·
      refine aB rfl (aw rfl tf) ⟨rfl,trivial⟩ ?_
      exact aY (s14) [0,1] ⟨rfl,rfl,rfl,rfl,rfl,rfl,rfl,rfl,rfl,rfl,trivial⟩
     refine ff.cons rfl ?_ ?_
     ·
      refine ax rfl rfl ?_
      exact aY (s38) [0,1] ⟨rfl,rfl,rfl,rfl,rfl,rfl,rfl,rfl,rfl,rfl,trivial⟩
     exact trivial
    have s33:J 10 [true,false,false,false,false,true,false,false,false,false,false,false] (fi [true,false,false,false,false,true,false,false,false,false,false,false] (lZ y z.1 l undef undef)++ln b2 y L.1 q1 l a1) [.obj y 128 (.agg (.pair (.at au (a0,.map (some m))) (.eq z.1))),.sl z.1 23 .val (fk z.2 0 q2)]:=by
     subst hJ
     refine JD.step [1,6] (by kernel_rfl) rfl ?_
     refine ff.cons rfl ?_ ?_
     ·
      refine ax rfl rfl ?_
      exact aY (s35) [0,1] ⟨rfl,rfl,rfl,rfl,rfl,rfl,rfl,rfl,rfl,rfl,trivial⟩
     refine ff.cons rfl ?_ ?_
     ·
      refine aE rfl rfl rfl (ak [.tmp 44] rfl rfl pL rfl cc) ⟨rfl,trivial⟩ fun v=>?_
      exact aY (s97 v) [1,2,0] ⟨rfl,rfl,rfl,rfl,rfl,rfl,rfl,rfl,rfl,rfl,trivial⟩
     exact trivial
    have s34:J 10 [false,true,false,false,false,true,false,false,false,false,false,false] (fi [false,true,false,false,false,true,false,false,false,false,false,false] (lZ y z.1 l undef undef)++ln b2 y L.1 q1 l a1) [.obj y 128 (.agg (.pair (.at au (a0,.map (some m))) (.eq z.1))),.sl z.1 23 .val (fk z.2 0 q2)]:=by
     subst hJ
     refine JD.step [0,2,6] (by kernel_rfl) rfl ?_
     refine ff.cons rfl ?_ ?_
     ·
      refine ax rfl rfl ?_
      exact aY (s35) [0,1] ⟨rfl,rfl,rfl,rfl,rfl,rfl,rfl,rfl,rfl,rfl,trivial⟩
     refine ff.cons rfl ?_ ?_
     ·
      refine aB rfl (aW rfl) ⟨rfl,trivial⟩ ?_
      exact aY (s38) [0,1] ⟨rfl,rfl,rfl,rfl,rfl,rfl,rfl,rfl,rfl,rfl,trivial⟩
     refine ff.cons rfl ?_ ?_
     ·
      refine aE rfl rfl rfl (ak [.tmp 44] rfl rfl pL rfl cc) ⟨rfl,trivial⟩ fun v=>?_
      exact aY (s98 v) [1,2,0] ⟨rfl,rfl,rfl,rfl,rfl,rfl,rfl,rfl,rfl,rfl,trivial⟩
     exact trivial
    have s96:∀(v:Value),J 10 [false,false,false,false,false,true,true,false,false,false,false,false] (fi [false,false,false,false,false,true,true,false,false,false,false,false] (lZ y z.1 l v undef)++ln b2 y L.1 q1 l a1) [.obj y 128 (.agg (.pair (.at au (a0,.map (some m))) (.eq z.1))),.sl z.1 23 .val (fk z.2 0 q2),.sl v 3 (.int .i64) l2]:=fun v=>by
     subst hJ
     refine JD.step [0,1,7] (by kernel_rfl) rfl ?_
     refine ff.cons rfl ?_ ?_
     ·
      refine ax rfl rfl ?_
      exact aY (s97 v) [0,1,2] ⟨rfl,rfl,rfl,rfl,rfl,rfl,rfl,rfl,rfl,rfl,trivial⟩
     refine ff.cons rfl ?_ ?_
     ·
      refine ax rfl rfl ?_
      exact aY (s98 v) [0,1,2] ⟨rfl,rfl,rfl,rfl,rfl,rfl,rfl,rfl,rfl,rfl,trivial⟩
     refine ff.cons rfl ?_ ?_
     ·
      refine bC 2 rfl ?_
      refine gj fun hv=>?_
      refine aB rfl (bH (t:=.val) [(.tmp 45,.eq v)] [v] rfl rfl nH (.cons hv (.val hv) .nil) rfl rfl) ⟨rfl,trivial⟩ ?_
      exact aY (s224 v) [1,2,0] ⟨rfl,rfl,rfl,rfl,rfl,rfl,rfl,rfl,rfl,rfl,trivial⟩
     exact trivial
    have s1:J 11 [true,false,false,false,false,false,false,false,false,false,false,false] (fi [true,false,false,false,false,false,false,false,false,false,false,false] (lZ y z.1 l undef undef)++ln b2 y L.1 q1 l a1) [.obj y 128 (.agg (.pair (.at au (a0,.map (some m))) (.eq z.1))),.sl z.1 23 .val (fk z.2 0 q2)]:=by
     subst hJ
     refine JD.step [1,5] (by kernel_rfl) rfl ?_
     refine ff.cons rfl ?_ ?_
     ·
      refine ax rfl rfl ?_
      exact aY (s3) [0,1] ⟨rfl,rfl,rfl,rfl,rfl,rfl,rfl,rfl,rfl,trivial⟩
     refine ff.cons rfl ?_ ?_
     ·
      refine ax rfl rfl ?_
      exact aY (s33) [0,1] ⟨rfl,rfl,rfl,rfl,rfl,rfl,rfl,rfl,rfl,trivial⟩
     exact trivial
    have s2:J 11 [false,true,false,false,false,false,false,false,false,false,false,false] (fi [false,true,false,false,false,false,false,false,false,false,false,false] (lZ y z.1 l undef undef)++ln b2 y L.1 q1 l a1) [.obj y 128 (.agg (.pair (.at au (a0,.map (some m))) (.eq z.1))),.sl z.1 23 .val (fk z.2 0 q2)]:=by
     subst hJ
     refine JD.step [0,2,5] (by kernel_rfl) rfl ?_
     refine ff.cons rfl ?_ ?_
     ·
      refine ax rfl rfl ?_
      exact aY (s3) [0,1] ⟨rfl,rfl,rfl,rfl,rfl,rfl,rfl,rfl,rfl,trivial⟩
     refine ff.cons rfl ?_ ?_
     ·
      refine aB rfl (aW rfl) ⟨rfl,trivial⟩ ?_
      exact aY (s6) [0,1] ⟨rfl,rfl,rfl,rfl,rfl,rfl,rfl,rfl,rfl,trivial⟩
     refine ff.cons rfl ?_ ?_
     ·
      refine ax rfl rfl ?_
      exact aY (s34) [0,1] ⟨rfl,rfl,rfl,rfl,rfl,rfl,rfl,rfl,rfl,trivial⟩
     exact trivial
    have s32:J 11 [false,false,false,false,false,true,false,false,false,false,false,false] (fi [false,false,false,false,false,true,false,false,false,false,false,false] (lZ y z.1 l undef undef)++ln b2 y L.1 q1 l a1) [.obj y 128 (.agg (.pair (.at au (a0,.map (some m))) (.eq z.1))),.sl z.1 23 .val (fk z.2 0 q2)]:=by
     subst hJ
     refine JD.step [0,1,6] (by kernel_rfl) rfl ?_
     refine ff.cons rfl ?_ ?_
     ·
      refine ax rfl rfl ?_
      exact aY (s33) [0,1] ⟨rfl,rfl,rfl,rfl,rfl,rfl,rfl,rfl,rfl,trivial⟩
     refine ff.cons rfl ?_ ?_
     ·
      refine ax rfl rfl ?_
      exact aY (s34) [0,1] ⟨rfl,rfl,rfl,rfl,rfl,rfl,rfl,rfl,rfl,trivial⟩
     refine ff.cons rfl ?_ ?_
     ·
      refine aE rfl rfl rfl (ak [.tmp 44] rfl rfl pL rfl cc) ⟨rfl,trivial⟩ fun v=>?_
      exact aY (s96 v) [1,2,0] ⟨rfl,rfl,rfl,rfl,rfl,rfl,rfl,rfl,rfl,trivial⟩
     exact trivial
    have s0:J 12 [false,false,false,false,false,false,false,false,false,false,false,false] (fi [false,false,false,false,false,false,false,false,false,false,false,false] (lZ y z.1 l undef undef)++ln b2 y L.1 q1 l a1) [.obj y 128 (.agg (.pair (.at au (a0,.map (some m))) (.eq z.1))),.sl z.1 23 .val (fk z.2 0 q2)]:=by
     subst hJ
     refine JD.step [0,1,5] (by kernel_rfl) rfl ?_
     refine ff.cons rfl ?_ ?_
     ·
      refine ax rfl rfl ?_
      exact aY (s1) [0,1] ⟨rfl,rfl,rfl,rfl,rfl,rfl,rfl,rfl,trivial⟩
     refine ff.cons rfl ?_ ?_
     ·
      refine ax rfl rfl ?_
      exact aY (s2) [0,1] ⟨rfl,rfl,rfl,rfl,rfl,rfl,rfl,rfl,trivial⟩
     refine ff.cons rfl ?_ ?_
     ·
      refine ax rfl rfl ?_
      exact aY (s32) [0,1] ⟨rfl,rfl,rfl,rfl,rfl,rfl,rfl,rfl,trivial⟩
     exact trivial
    exact s0
   ·
    exact fun a w st=>⟨rfl,p,st⟩
  ·
   subst hB
   refine aL ?_
   refine ag ?_
   refine bv (gX (Δ':=.sl p.1 3 (.int .i64) l2:: .sl p.2 23 .val (fk z.2 0 q2++[p.1])::([.obj y 128 (.agg (.pair (.at au (a0,.map (some m))) (.eq p.2))),.inv m (bi k a0),.obj b2 25 (.rep aF a0),.inv 0 fH]++kY z.2 0 q2)) ?_) ?_
   ·
    exact List.Perm.trans (List.Perm.swap _ _ _) (List.Perm.trans (List.Perm.cons _ (List.Perm.swap _ _ _)) (List.Perm.swap _ _ _))
   refine bv (Ed (pre:=[.obj y 128 (.agg (.pair (.at au (a0,.map (some m))) (.eq p.2))),.inv m (bi k a0),.obj b2 25 (.rep aF a0),.inv 0 fH])) ?_
   show JC _ _ _ _ _
   refine ab ?_
   obtain⟨w3,ew,h⟩:=aa h
   refine aB rfl (ba rfl ew) ⟨rfl,rfl,trivial⟩ ?_
   refine ax rfl rfl ?_
   refine ar ?_
   refine ag ?_
   exact iM ((p.2,nQ z.2 q2.length p.1),(w3,q2++[l2])) h (bg [.obj y 128 (.agg (.pair (.at au (a0,.map (some m))) (.eq p.2))),.inv m (bi k a0),.obj b2 25 (.rep aF a0),.inv 0 fH] (gl 23 (p.2,nQ z.2 q2.length p.1) (q2++[l2])) [0,1,2,3] ⟨rfl,rfl,rfl,rfl,rfl,rfl,trivial⟩ rfl)
 replace h:=bM (nv hb) h
 refine dt ?_
 refine aM ?_
 refine aM ?_
 refine bO ?_
 refine ag ?_
 show JC _ _ _ _ _
 replace h:((jd k a0 k (0,[],q.2)).bind fun p=>(lj k a0 p.1 p.2).bind fun b=>if(!b.2.2.1 || decide (L.1≤b.2.1))=true then some (0,0,0,11) else some (b.1.1,b.1.2,b.2.1,0)).bind some=some r:=h
 rw [Option.bind_assoc] at h
 generalize q.2=ls at h⊢
 refine ae ?_
 refine ab ?_
 refine dH rfl ?_
 refine cJ (SE.nil 131 eW) ?_
 refine ar ?_
 refine ag ?_
 show JC _ _ _ _ _
 refine fU (bg (Γ':=[(2,.eq (bP b2)),(8,.eq (.int .i64 L.1)),(10,.eq (bP y)),(13,.eq (.slice none 0 0))]) (pre':=[.inv m (bi k a0),.obj b2 25 (.rep aF a0),.inv 0 fH,.sl (.slice none 0 0) 131 eW [],.obj y 128 (.agg (.pair (.at au (a0,.map (some m))) (.eq z.1)))]) [.sl (.slice none 0 0) 131 eW [],.obj y 128 (.agg (.pair (.at au (a0,.map (some m))) (.eq z.1))),.inv m (bi k a0),.obj b2 25 (.rep aF a0),.inv 0 fH] (gl 23 z ls) [2,3,4,0,1] ⟨rfl,rfl,rfl,rfl,trivial⟩ rfl) ?_
 refine ae ?_
 refine ae ?_
 refine ab ?_
 refine aB rfl (aw rfl J8) ⟨rfl,trivial⟩ ?_
 refine bC 1 rfl ?_
 refine bU rfl rfl rfl (ao rfl JS mA rfl) ⟨rfl,trivial⟩ ?_
 refine aB rfl (jt rfl rfl qy) ⟨rfl,trivial⟩ ?_
 refine dQ rfl ?_
 refine ar ?_
 refine ag ?_
 show JC _ _ _ _ _
 refine aj ?_
 refine aG (Z:=Value) (α:=Int×List (Int×Int)×List (List Int)) (fun c q=>[(2,.eq (bP b2)),(8,.eq (.int .i64 L.1)),(10,.eq (bP y)),(13,.eq c),(53,.eq (.int .i64 (a0.2.1.length:Int))),(54,.eq (.int .i64 q.1))]) (fun c q=>[.obj b2 25 (.rep aF a0),.inv m (bi k a0),.inv 0 fH,.sl c 131 eW q.2.1,.obj y 128 (.agg (.pair (.at au (a0,.map (some m))) (.eq z.1)))]++gl 23 z q.2.2) (jd k a0) k (.slice none 0 0) (0,[],ls) (fun _=>rfl) h (bg [.obj b2 25 (.rep aF a0),.inv m (bi k a0),.inv 0 fH,.sl (.slice none 0 0) 131 eW [],.obj y 128 (.agg (.pair (.at au (a0,.map (some m))) (.eq z.1)))] (gl 23 z ls) [0,1,2,3,4] ⟨rfl,rfl,rfl,rfl,rfl,rfl,trivial⟩ rfl) (fun n c q h=>?_)
 obtain⟨q1,qp,ql⟩:=q
 unfold jd at h
 refine ae ?_
 refine ab ?_
 refine aB rfl (bq rfl) ⟨rfl,rfl,trivial⟩ ?_
 refine ar ?_
 refine ag ?_
 show JC _ _ _ _ _
 refine ae ?_
 refine bG rfl (fun hb=>?_) (fun hb=>?_)
 ·
  replace h:=cy (nS hb) h
  obtain⟨w,ew,h⟩:=aa h
  rw [Option.bind_assoc] at h
  refine aS ?_
  refine ag ?_
  show JC _ _ _ _ _
  refine ae ?_
  refine aj ?_
  refine ae ?_
  refine ab ?_
  refine ax rfl rfl ?_
  refine dk rfl rfl ?_
  refine ar ?_
  refine ag ?_
  show JC _ _ _ _ _
  refine ae ?_
  refine ab ?_
  refine ax rfl rfl ?_
  refine aB rfl (ba rfl ew) ⟨rfl,rfl,trivial⟩ ?_
  refine dk rfl rfl ?_
  refine ar ?_
  refine ag ?_
  show JC _ _ _ _ _
  refine aj ?_
  refine aG (Z:=Value) (α:=Int×List (Int×Int)×List (List Int)) (fun c q=>[(2,.eq (bP b2)),(8,.eq (.int .i64 L.1)),(10,.eq (bP y)),(13,.eq c),(14,.eq (.int .i64 q1)),(15,.eq (.int .i64 q.1)),(53,.eq (.int .i64 (a0.2.1.length:Int))),(54,.eq (.int .i64 q1))]) (fun c q=>[.obj b2 25 (.rep aF a0),.inv m (bi k a0),.inv 0 fH,.sl c 131 eW q.2.1,.obj y 128 (.agg (.pair (.at au (a0,.map (some m))) (.eq z.1)))]++gl 23 z q.2.2) (j0 k a0 q1) k c (w,qp,ql) (fun _=>rfl) h (bg [.obj b2 25 (.rep aF a0),.inv m (bi k a0),.inv 0 fH,.sl c 131 eW qp,.obj y 128 (.agg (.pair (.at au (a0,.map (some m))) (.eq z.1)))] (gl 23 z ql) [0,1,2,3,4] ⟨rfl,rfl,rfl,rfl,rfl,rfl,rfl,rfl,trivial⟩ rfl) (fun n3 c q h=>?_)
  obtain⟨j,rp,rl⟩:=q
  unfold j0 at h
  refine ae ?_
  refine ae ?_
  refine ab ?_
  refine ax rfl rfl ?_
  refine aB rfl (aw rfl J8) ⟨rfl,trivial⟩ ?_
  refine bU rfl rfl rfl (ao rfl JS mA rfl) ⟨rfl,trivial⟩ ?_
  refine aB rfl (jt rfl rfl qy) ⟨rfl,trivial⟩ ?_
  refine aB rfl (bq rfl) ⟨rfl,rfl,trivial⟩ ?_
  refine ar ?_
  refine ag ?_
  show JC _ _ _ _ _
  refine bG rfl (fun hb=>?_) (fun hb=>?_)
  ·
   replace h:=cy (nS hb) h
   obtain⟨r1,Q,h⟩:=aa h
   have cv:=rO k a0 (q1,j) rl r1 y m z Q
   refine aS ?_
   refine ag ?_
   show JC _ _ _ _ _
   refine ae ?_
   refine aj ?_
   refine ae ?_
   refine ab ?_
   refine ax rfl rfl ?_
   refine ax rfl rfl ?_
   refine aB rfl (dD [(0,.tmp 66,_),(1,.tmp 67,_)] rfl KY rK Jq (jm ⟨rfl,rfl,trivial⟩) rfl) ⟨rfl,rfl,trivial⟩ ?_
   refine aE rfl rfl rfl (bJ rfl rK uK) trivial fun e=>?_
   refine bf rfl rfl (a9 rfl gG trivial rfl rfl) ⟨rfl,rfl,trivial⟩ ?_
   refine cJ (pu (a':=.rep eW (q1,j)) Pz) ?_
   refine ar ?_
   refine ag ?_
   show JC _ _ _ _ _
   refine ae ?_
   refine ab ?_
   refine ax rfl rfl ?_
   refine bU rfl rfl rfl (ao rfl gG (xQ) rfl) ⟨rfl,trivial⟩ ?_
   refine cJ (gX (Δ':=([.obj y 128 (.agg (.pair (.at au (a0,.map (some m))) (.eq z.1)))]++gl 23 z rl)++[.obj e 131 (.rep eW (q1,j)),.obj b2 25 (.rep aF a0),.inv m (bi k a0),.inv 0 fH,.sl c 131 eW rp]) (List.perm_append_comm (l₁:=([.obj e 131 (.rep eW (q1,j)),.obj b2 25 (.rep aF a0),.inv m (bi k a0),.inv 0 fH,.sl c 131 eW rp]:List D)))) ?_
   refine bN (Δ:=_++_) (F:=[_,_,_,_,_]) (fun _ _ _=>av rfl _) rfl rfl (ak [.tmp 69,.tmp 70] rfl rfl Ou rfl cv) ⟨rfl,rfl,trivial⟩ fun _=>?_
   refine cJ (gX (Δ':=[.obj e 131 (.rep eW (q1,j)),.obj b2 25 (.rep aF a0),.inv m (bi k a0),.inv 0 fH,.sl c 131 eW rp]++([.obj y 128 (.agg (.pair (.at au (a0,.map (some m))) (.eq z.1)))]++gl 23 z r1.2)) List.perm_append_comm) ?_
   refine ar ?_
   refine ag ?_
   show JC _ _ _ _ _
   refine bG rfl (fun hb=>?_) (fun hb=>?_)
   ·
    replace h:=cy (Eu hb) h
    have hk:bV (rp.length+1):=by
     apply Classical.byContradiction
     intro hn
     rw [if_neg hn] at h
     cases h
    replace h:=cy hk h
    refine ab ?_
    refine ax rfl rfl ?_
    refine bU rfl rfl rfl (ao rfl gG (xQ) rfl) ⟨rfl,trivial⟩ ?_
    refine aB rfl (bH (t:=eW) [(.tmp 73,_)] [(q1,j)] rfl rfl EU (.cons rfl .rep .nil) rfl rfl) ⟨rfl,trivial⟩ ?_
    refine bC 4 rfl ?_
    refine ek rfl rfl rfl (cg rfl rfl EU (by simpa using hk)) ⟨rfl,rfl,trivial⟩ fun v'=>?_
    refine dk rfl rfl ?_
    refine ar ?_
    refine aL ?_
    refine ag ?_
    show JC _ _ _ _ _
    refine ab ?_
    refine ax rfl rfl ?_
    obtain⟨w2,ew2,h⟩:=aa h
    refine aB rfl (ba rfl ew2) ⟨rfl,rfl,trivial⟩ ?_
    refine dk rfl rfl ?_
    refine ar ?_
    refine ag ?_
    exact iM (v',(w2,rp++[(q1,j)],r1.2)) h (bg [.sl v' 131 eW (rp++[(q1,j)]),.obj e 131 (.rep eW (q1,j)),.obj b2 25 (.rep aF a0),.inv m (bi k a0),.inv 0 fH,.obj y 128 (.agg (.pair (.at au (a0,.map (some m))) (.eq z.1)))] (gl 23 z r1.2) [2,3,4,0,5] ⟨rfl,rfl,rfl,rfl,rfl,rfl,rfl,rfl,trivial⟩ rfl)
   ·
    replace h:=bM (Ew hb) h
    refine aS ?_
    refine aL ?_
    refine ag ?_
    show JC _ _ _ _ _
    refine ab ?_
    refine ax rfl rfl ?_
    obtain⟨w2,ew2,h⟩:=aa h
    refine aB rfl (ba rfl ew2) ⟨rfl,rfl,trivial⟩ ?_
    refine dk rfl rfl ?_
    refine ar ?_
    refine ag ?_
    exact iM (c,(w2,rp,r1.2)) h (bg [.obj e 131 (.rep eW (q1,j)),.obj b2 25 (.rep aF a0),.inv m (bi k a0),.inv 0 fH,.sl c 131 eW rp,.obj y 128 (.agg (.pair (.at au (a0,.map (some m))) (.eq z.1)))] (gl 23 z r1.2) [1,2,3,4,5] ⟨rfl,rfl,rfl,rfl,rfl,rfl,rfl,rfl,trivial⟩ rfl)
  replace h:=bM (nv hb) h
  refine dt ?_
  refine aM ?_
  refine aM ?_
  refine bO ?_
  refine aL ?_
  refine ag ?_
  show JC _ _ _ _ _
  replace h:(jd k a0 n (w,rp,rl)).bind _=some r:=h
  refine ab ?_
  refine aB rfl (ba rfl ew) ⟨rfl,rfl,trivial⟩ ?_
  refine ax rfl rfl ?_
  refine ar ?_
  refine ag ?_
  exact iM (c,(w,rp,rl)) h (bg [.obj b2 25 (.rep aF a0),.inv m (bi k a0),.inv 0 fH,.sl c 131 eW rp,.obj y 128 (.agg (.pair (.at au (a0,.map (some m))) (.eq z.1)))] (gl 23 z rl) [0,1,2,3,4] ⟨rfl,rfl,rfl,rfl,rfl,rfl,trivial⟩ rfl)
 replace h:=bM (nv hb) h
 refine dt ?_
 refine aM ?_
 refine aM ?_
 refine bO ?_
 refine ag ?_
 show JC _ _ _ _ _
 replace h:((lj k a0 qp ql).bind fun b=>if(!b.2.2.1 || decide (L.1≤b.2.1))=true then some (0,0,0,11) else some (b.1.1,b.1.2,b.2.1,0)).bind some=some r:=h
 obtain⟨b,eb,h⟩:=aa h
 have cx:=uZ k a0 qp ql b y m z eb
 refine ae ?_
 refine ab ?_
 refine ax rfl rfl ?_
 refine aB rfl (sa [.tmp 78] [] [bP y] [] rfl rfl rfl) ⟨rfl,trivial⟩ ?_
 refine bC 3 rfl ?_
 refine cJ (fp [13] ⟨rfl,trivial⟩) ?_
 refine ax rfl rfl ?_
 refine cJ (bg (Γ':=[(8,.eq (.int .i64 L.1)),(79,.eq (.func (.func 100) #[bP y] #[])),(80,Rs eW qp)]) (pre':=[.inv 0 fH,.obj b2 25 (.rep aF a0),.inv m (bi k a0),.obj y 128 (.agg (.pair (.at au (a0,.map (some m))) (.eq z.1)))]) [.obj b2 25 (.rep aF a0),.inv m (bi k a0),.inv 0 fH,.obj y 128 (.agg (.pair (.at au (a0,.map (some m))) (.eq z.1)))] (gl 23 z ql) [2,0,1,3] ⟨rfl,rfl,rfl,trivial⟩ rfl) ?_
 refine cJ (gX (Δ':=([.inv m (bi k a0),.obj y 128 (.agg (.pair (.at au (a0,.map (some m))) (.eq z.1)))]++gl 23 z ql)++[.inv 0 fH,.obj b2 25 (.rep aF a0)]) (List.perm_append_comm (l₁:=([.inv 0 fH,.obj b2 25 (.rep aF a0)]:List D)))) ?_
 refine bN (Δ:=_++_) (F:=[_,_]) (fun _ _ _=>av rfl _) rfl rfl (fY [.tmp 79,.tmp 80] rfl rfl Ot rfl cx) ⟨rfl,rfl,trivial⟩ fun _=>?_
 refine cJ (gX (Δ':=[.inv 0 fH,.obj b2 25 (.rep aF a0)]++([.inv m (bi k a0),.obj y 128 (.agg (.pair (.at au (a0,.map (some m))) (.eq z.1)))]++gl 23 z b.2.2.2)) List.perm_append_comm) ?_
 refine ax rfl rfl ?_
 refine aB rfl (eS rfl rfl) ⟨rfl,trivial⟩ ?_
 refine aB rfl (eS rfl rfl) ⟨rfl,trivial⟩ ?_
 refine aB rfl (eS rfl rfl) ⟨rfl,trivial⟩ ?_
 refine aE rfl rfl rfl (bJ rfl rK uK) trivial fun s=>?_
 refine bf rfl rfl (a9 rfl gG rfl rfl rfl) ⟨rfl,rfl,trivial⟩ ?_
 refine dk rfl rfl ?_
 refine dk rfl rfl ?_
 refine ar ?_
 refine ag ?_
 show JC _ _ _ _ _
 obtain⟨bx,bn,bo,bl⟩:=b
 cases bo with
 |false=>
  replace h:some (0,0,0,11)=some r:=by simpa using h
  obtain rfl:=Option.some.inj h
  refine ae ?_
  refine ae ?_
  refine ab ?_
  refine ax rfl rfl ?_
  refine aB rfl (eB rfl) ⟨rfl,trivial⟩ ?_
  refine ax rfl rfl ?_
  refine xI rfl rfl rfl rfl rfl rfl rfl ?_
  refine xI rfl rfl rfl rfl rfl rfl rfl ?_
  refine xI rfl rfl rfl rfl rfl rfl rfl ?_
  refine aB rfl (uf rfl) ⟨rfl,rfl,trivial⟩ ?_
  refine ar ?_
  refine ag ?_
  show JC _ _ _ _ _
  refine bG rfl (fun hb=>?_) (fun hb=>(by cases hb))
  refine ae ?_
  refine ab ?_
  refine dH rfl ?_
  refine dH rfl ?_
  refine dH rfl ?_
  refine dH rfl ?_
  refine ar ?_
  refine ag ?_
  show JC _ _ _ _ _
  refine aA ?_
  refine aK ?_
  refine dR 1 rfl ?_
  exact aD () [_,_,_,_] 1 ⟨rfl,rfl,rfl,rfl,trivial⟩ rfl
 |true=>
  refine ae ?_
  refine ae ?_
  refine ab ?_
  refine ax rfl rfl ?_
  refine aB rfl (eB rfl) ⟨rfl,trivial⟩ ?_
  refine ax rfl rfl ?_
  refine mr rfl rfl rfl rfl rfl rfl (aR rfl) ⟨rfl,trivial⟩ ?_
  refine mr rfl rfl rfl rfl rfl rfl (aR rfl) ⟨rfl,trivial⟩ ?_
  refine mr rfl rfl rfl rfl rfl rfl (nI rfl) ⟨rfl,rfl,trivial⟩ ?_
  refine aB rfl (ug rfl) ⟨rfl,rfl,trivial⟩ ?_
  refine ar ?_
  refine ag ?_
  show JC _ _ _ _ _
  refine bG rfl (fun hb=>?_) (fun hb=>?_)
  ·
   have hd:L.1≤bn:=of_decide_eq_true hb
   replace h:some (0,0,0,11)=some r:=by simpa [hd] using h
   obtain rfl:=Option.some.inj h
   refine ae ?_
   refine ab ?_
   refine dH rfl ?_
   refine dH rfl ?_
   refine dH rfl ?_
   refine dH rfl ?_
   refine ar ?_
   refine ag ?_
   show JC _ _ _ _ _
   refine aA ?_
   refine aK ?_
   refine dR 1 rfl ?_
   exact aD () [_,_,_,_] 1 ⟨rfl,rfl,rfl,rfl,trivial⟩ rfl
  ·
   have hd:¬L.1≤bn:=of_decide_eq_false hb
   replace h:some (bx.1,bx.2,bn,0)=some r:=by simpa [hd] using h
   refine aS ?_
   refine ag ?_
   obtain rfl:=Option.some.inj h
   show JC _ _ _ _ _
   refine ae ?_
   refine uS (Δ:=[.obj s 131 (.rep eW bx)]) (F:=[.inv 0 fH,.obj b2 25 (.rep aF a0),.inv m (bi k a0),.obj y 128 (.agg (.pair (.at au (a0,.map (some m))) (.eq z.1)))]++gl 23 z bl) (Z:=Unit) (fun _=>[(4,.eq (.int .i64 bx.1)),(5,.eq (.int .i64 bx.2)),(6,.eq (.int .i64 bn)),(7,.eq (.int .i64 0))]) (fun _=>[.obj s 131 (.rep eW bx)]) (fun S w=>?_) (fun _=>?_)
   ·
    refine fU (SE.sub (Γ':=[(17,.eq (bP s)),(18,.eq (.int .i64 bn))]) ⟨rfl,rfl,trivial⟩) ?_
    refine kx ?_
    refine aO rfl rfl rfl (aw rfl Lx) ⟨rfl,trivial⟩ ?_
    refine fg 0 rfl rfl rfl rfl (ao rfl s8 mA rfl) ⟨rfl,trivial⟩ ?_
    refine aO rfl rfl rfl (aw rfl Lu) ⟨rfl,trivial⟩ ?_
    refine fg 0 rfl rfl rfl rfl (ao rfl s8 mA rfl) ⟨rfl,trivial⟩ ?_
    refine aO rfl rfl rfl (aR rfl) ⟨rfl,trivial⟩ ?_
    refine oR 5 [true,true,false,false,false] [4,5,6,7] [0] [.obj s 131 (.rep eW bx)] rfl (by kernel_rfl) (by kernel_rfl) (by kernel_rfl) qg (fun vs hv hB=>?_)
    obtain⟨u0,mc,rfl,O⟩:=ap hv
    obtain⟨u1,ac,rfl,M⟩:=ap O
    obtain⟨u2,Y,rfl,E⟩:=ap M
    obtain⟨u3,X,rfl,x⟩:=ap E
    obtain⟨u4,U,rfl,u⟩:=ap x
    obtain rfl:=l9 u
    refine⟨[0],[],by kernel_rfl,by decide,?_⟩
    refine nB rfl rfl rfl rfl (f8 rfl) ⟨rfl,trivial⟩ (by kernel_rfl) ?_
    refine nB rfl rfl rfl rfl (f8 rfl) ⟨rfl,trivial⟩ (by kernel_rfl) ?_
    refine nB rfl rfl rfl rfl (f8 rfl) ⟨rfl,trivial⟩ (by kernel_rfl) ?_
    refine nB rfl rfl rfl rfl (f8 rfl) ⟨rfl,trivial⟩ (by kernel_rfl) ?_
    refine sL ?_
    exact fun a w st=>⟨rfl,(),(SE.fin (Γ':=[(4,.eq (.int .i64 bx.1)),(5,.eq (.int .i64 bx.2)),(6,.eq (.int .i64 bn)),(7,.eq (.int .i64 0))]) [0] ⟨rfl,rfl,rfl,rfl,trivial⟩ rfl) a w st⟩
   ·
    refine ag ?_
    show JC _ _ _ _ _
    refine aA ?_
    refine dR 1 rfl ?_
    exact aD () [_,_,_,_] 1 ⟨rfl,rfl,rfl,rfl,trivial⟩ rfl
def m9(k:Nat)(a0:(List Int))(a1:cU)(a2:(List (List Int)))(a3:Int)(a4:Int):Option Int:=
 (dM k a1 a2).bind fun r1=>
 (aZ r1 a3).bind fun x3=>
 (cV k (List.set r1 (Int.toNat a3) a0)).bind fun r4=>
 (fM k a1 r4 a4).bind fun r5=>
 some r5
theorem s5(k:Nat)(a0:(List Int))(a1:cU)(l:Nat)(a2:(List (List Int)))(j:Nat)(a3:Int)(e:Nat)(a4:Int)(c:Nat)(r:Int)(h:m9 k a0 a1 a2 a3 a4=some r):
 dx (iL Tryz.prog) 104 [Ri a0,Pt l,Pt j,Pt e,Pt c] [.obj l 102 (.at bD a1),.obj j 107 (.rep (.arr 3 (.arr 5 (.int .i64))) a2),.obj e 3 (I a3),.obj c 3 (I a4)] (fun _:Unit=>(bp [I r],[.obj l 102 (.at bD a1),.obj j 107 (.rep (.arr 3 (.arr 5 (.int .i64))) a2),.obj e 3 (I a3),.obj c 3 (I a4)])):=by
 unfold m9 at h
 replace h:=be h
 refine dx.of 20 Tryz.func104 rfl Tryz.ntmps104 rfl fun S w0=>?_
 refine sr ?_
 refine cq ?_
 refine nt ?_
 refine sr ?_
 refine lo qK ?_
 refine fr 1 ?_
 refine lo cF ?_
 obtain⟨r1,x,h⟩:=aa h
 have E:=hP k a1 a2 r1 x
 refine aE rfl rfl rfl (ak [.tmp 8,.tmp 9] rfl rfl I9 rfl E) ⟨rfl,rfl,trivial⟩ fun v2=>?_
 refine aq ?_
 refine nt ?_
 refine sr ?_
 refine mq ?_
 refine fr 3 ?_
 refine lo cu ?_
 refine mq ?_
 obtain⟨x3,n,h⟩:=aa h
 refine fr 1 ?_
 refine kb (bh (t:=(.slice (.int .i64))) rfl mf cd n) ?_
 refine bf rfl rfl (c6 (i:=Int.toNat a3) rfl cd rfl (ix n) rfl .rep rfl) ⟨rfl,rfl,trivial⟩ ?_
 refine nt ?_
 refine ae ?_
 refine fU (fp [7,10,11] ⟨rfl,rfl,rfl,trivial⟩) ?_
 refine cm ?_
 refine ea 2 (ao rfl qK mA rfl) ?_
 refine dm ?_
 obtain⟨r4,u,h⟩:=aa h
 have D:=dq k (List.set r1 (Int.toNat a3) a0) r4 u
 refine da (ak [.tmp 16] rfl rfl zq rfl D) ?_
 refine ea 3 (ao rfl cu mA rfl) ?_
 refine df eM ?_
 obtain⟨r5,s,h⟩:=aa h
 have y:=lW k a1 r4 a4 r5 s
 refine jc (fY [.tmp 15,.tmp 17,.tmp 18] rfl rfl Kw rfl y) ?_
 refine aq ?_
 refine nt ?_
 refine aA ?_
 refine bv (SE.fin (Γ':=[(6,_)]) [2,1,0,3] ⟨rfl,trivial⟩ rfl) ?_
 cases h
 exact aD () [_] 4 ⟨rfl,trivial⟩ rfl
def hQ(k:Nat)(a0_0:cU)(a0_1:(List (List Int)))(a0_2:Int)(a0_3:Int)(a1:(List (List Int))):Nat→((List Int)×Int×Bool×Int)→Option ((List Int)×Int×Bool)
 |0,_=>none
 |n+1,y3=>
  if y3.2.2.2 < (a1.length:Int) then((((aZ a1 y3.2.2.2).bind fun x7=>
  (m9 k x7 a0_0 a0_1 a0_2 a0_3).bind fun r8=>
  ((if¬(y3.2.2.1=true) then(some true) else(some (decide (r8 < y3.2.1)))):Option (Bool)).bind fun x9=>
  if x9=true then(some (x7,r8,true)) else(some (y3.1,y3.2.1,y3.2.2.1))):Option ((List Int)×Int×Bool)).bind fun x5=>
  (ck (y3.2.2.2+1)).bind fun c=>
  hQ k a0_0 a0_1 a0_2 a0_3 a1 n (x5.1,x5.2.1,x5.2.2,c)) else(some (y3.1,y3.2.1,y3.2.2.1))
def ll(k:Nat)(a0_0:cU)(a0_1:(List (List Int)))(a0_2:Int)(a0_3:Int)(a1:(List (List Int))):Option ((List Int)×Int×Bool):=
 ((hQ k a0_0 a0_1 a0_2 a0_3 a1 k ([],0,false,0)):Option ((List Int)×Int×Bool)).bind fun x1=>
 some (x1.1,x1.2.1,x1.2.2)
theorem qF(k:Nat)(a0_0:cU)(c_a0_0:Nat)(a0_1:(List (List Int)))(c_a0_1:Nat)(a0_2:Int)(c_a0_2:Nat)(a0_3:Int)(c_a0_3:Nat)(a1:(List (List Int)))(r:(List Int)×Int×Bool)(h:ll k a0_0 a0_1 a0_2 a0_3 a1=some r):
 dx (iL Tryz.prog) 106 [.eq (.func (.func 104) #[] #[(Pv c_a0_0),(Pv c_a0_1),(Pv c_a0_2),(Pv c_a0_3)]),.rep (.slice (.slice (.int .i64))) a1] [.obj c_a0_0 102 (.at bD a0_0),.obj c_a0_1 107 (.rep (.arr 3 (.arr 5 (.int .i64))) a0_1),.obj c_a0_2 3 (I a0_2),.obj c_a0_3 3 (I a0_3)] (fun _:Unit=>(bp [Ri r.1,I r.2.1,.eq (.bool r.2.2)],[.obj c_a0_0 102 (.at bD a0_0),.obj c_a0_1 107 (.rep (.arr 3 (.arr 5 (.int .i64))) a0_1),.obj c_a0_2 3 (I a0_2),.obj c_a0_3 3 (I a0_3)])):=by
 unfold ll at h
 replace h:=be h
 refine dx.of 35 Tryz.func106 rfl Tryz.ntmps106 rfl fun S w0=>?_
 refine sr ?_
 refine cq ?_
 refine cq ?_
 refine cq ?_
 refine nt ?_
 refine sr ?_
 refine cq ?_
 refine nt ?_
 refine sr ?_
 refine cq ?_
 refine cq ?_
 refine nt ?_
 refine aP (Z:=Unit) (α:=(List Int)×Int×Bool) (fun z2 x1=>[(7,Ri x1.1),(8,I x1.2.1),(9,.eq (.bool x1.2.2))]) (fun z2 x1=>[.obj c_a0_0 102 (.at bD a0_0),.obj c_a0_1 107 (.rep (.arr 3 (.arr 5 (.int .i64))) a0_1),.obj c_a0_2 3 (I a0_2),.obj c_a0_3 3 (I a0_3)]) h (fun K h=>?_) (fun z2 x1 h=>?_)
 ·
  refine sr (mq ?_);refine ol mf ?_;refine dQ rfl ?_;refine nt (aj (fU (kD (t:=(.slice (.int .i64))) (x:=[]) 7 rfl .nil rfl rfl) ?_));refine aG (fun z4 y3=>[(0,.eq (.func (.func 104) #[] #[(Pv c_a0_0),(Pv c_a0_1),(Pv c_a0_2),(Pv c_a0_3)])),(7,Ri y3.1),(8,I y3.2.1),(9,.eq (.bool y3.2.2.1)),(13,.rep (.slice (.slice (.int .i64))) a1),(14,I (a1.length:Int)),(15,I y3.2.2.2)]) (fun z4 y3=>[.obj c_a0_0 102 (.at bD a0_0),.obj c_a0_1 107 (.rep (.arr 3 (.arr 5 (.int .i64))) a0_1),.obj c_a0_2 3 (I a0_2),.obj c_a0_3 3 (I a0_3)]) (hQ k a0_0 a0_1 a0_2 a0_3 a1) k () ([],0,false,0) (fun _=>rfl) h (SE.fin [0,1,2,3] ⟨rfl,rfl,rfl,rfl,rfl,rfl,rfl,trivial⟩ rfl) (fun n z4 y3 h=>?_);unfold hQ at h;refine sr (jb (bq rfl) ?_);refine nt (ae (ci h (fun h=>?_) (fun h=>?_)))
  ·refine sk (aP (Z:=Unit) (α:=(List Int)×Int×Bool) (fun z6 x5=>[(0,.eq (.func (.func 104) #[] #[(Pv c_a0_0),(Pv c_a0_1),(Pv c_a0_2),(Pv c_a0_3)])),(7,Ri x5.1),(8,I x5.2.1),(9,.eq (.bool x5.2.2)),(13,.rep (.slice (.slice (.int .i64))) a1),(14,I (a1.length:Int)),(15,I y3.2.2.2)]) (fun z6 x5=>[.obj c_a0_0 102 (.at bD a0_0),.obj c_a0_1 107 (.rep (.arr 3 (.arr 5 (.int .i64))) a0_1),.obj c_a0_2 3 (I a0_2),.obj c_a0_3 3 (I a0_3)]) h (fun K h=>?_) (fun z6 x5 h=>?_))
   ·refine aj (sr ?_);obtain⟨x7,l,h⟩:=aa h;refine jb (aH (t:=(.slice (.int .i64))) rfl mf cd l) ?_;refine ja (an (t:=(.slice (.int .i64))) rfl cd rfl) ?_;refine aq (nt (sr ?_));iterate 2 refine mq ?_
    obtain⟨r8,u,h⟩:=aa h;refine fr 3 ?_;refine fr 3 ?_;refine fr 3 ?_;refine fr 3 ?_;refine bN (Δ:=[_,_,_,_]) (F:=_) (fun _ _ _=>av rfl _) rfl rfl (oq (fs:=[]) (cs:=[(Pv c_a0_0),(Pv c_a0_1),(Pv c_a0_2),(Pv c_a0_3)]) (ags:=[Ri x7]) [.tmp 20] rfl rfl O8 rfl (s5 k x7 a0_0 c_a0_0 a0_1 c_a0_1 a0_2 c_a0_2 a0_3 c_a0_3 r8 u)) ⟨rfl,rfl,trivial⟩ fun _=>?_;refine aq (nt ?_);refine aP (Z:=Unit) (α:=Bool) (fun c x9=>[(0,.eq (.func (.func 104) #[] #[(Pv c_a0_0),(Pv c_a0_1),(Pv c_a0_2),(Pv c_a0_3)])),(7,Ri y3.1),(8,I y3.2.1),(9,.eq (.bool y3.2.2.1)),(11,Ri x7),(12,I r8),(13,.rep (.slice (.slice (.int .i64))) a1),(14,I (a1.length:Int)),(15,I y3.2.2.2),(28,.eq (.bool x9))]) (fun c x9=>[.obj c_a0_0 102 (.at bD a0_0),.obj c_a0_1 107 (.rep (.arr 3 (.arr 5 (.int .i64))) a0_1),.obj c_a0_2 3 (I a0_2),.obj c_a0_3 3 (I a0_3)]) h (fun K h=>?_) (fun c x9 h=>?_)
    ·refine ab (mq ?_);refine ja (eB rfl) ?_;refine mq ?_;refine bT (s:=24) rfl (fun hb=>?_) (fun hb=>?_)
     ·replace h:=cy (FK hb) h;iterate 3 refine gn ?_
      refine pt (nl ?_);exact jz ((),true) h [0,1,2,3]
     ·replace h:=bM (yI hb) h;refine gm ?_;refine gm ?_;refine gb (bq rfl) ?_;refine pf (nl ?_);exact jz ((),decide (r8 < y3.2.1)) h [0,1,2,3]
    ·refine cv h (fun h=>?_) (fun h=>?_)
     ·refine ab ?_;iterate 2 refine mq ?_
      refine aq ?_;refine aq ?_;refine cq (ar (bn ?_));exact jz ((),(x7,r8,true)) h [0,1,2,3]
     ·refine aS (bn ?_);exact jz ((),(y3.1,y3.2.1,y3.2.2.1)) h [0,1,2,3]
   ·refine ab ?_;obtain⟨j,e,h⟩:=aa h;refine jb (ba rfl e) ?_;refine mq (nl ?_);exact jz ((),(x5.1,x5.2.1,x5.2.2,j)) h [0,1,2,3]
  ·refine xa ?_;exact jz ((),(y3.1,y3.2.1,y3.2.2.1)) h [0,1,2,3]
 ·
  refine sr ?_;iterate 3 refine mq ?_
  refine aq ?_;refine aq ?_;refine aq (nt (aA ?_));cases h;exact aD () [_,_,_] 4 ⟨rfl,rfl,rfl,trivial⟩ rfl
def pQ(k:Nat)(a0:a8)(a1:(List (List Int)))(a2:Int)(a3:Int):Option ((List Int)×Int×Int):=
 (bF k a0 a1).bind fun r4=>
 if¬(r4=0) then(some ([],0,r4)) else((((ck ((a0.2.2.length:Int) - 1)).bind fun x7=>
 (dp k a2 0 x7).bind fun r8=>
 if¬(r8=true) then(some true) else((dp k a3 0 a0.1).bind fun r9=>
 some (!r9))):Option (Bool)).bind fun x5=>
 if x5=true then(some ([],0,3)) else((cV k a1).bind fun n=>
 (f4 k (a0,()) n a3).bind fun e=>
 (dJ k e a2).bind fun l=>
 (lq k l).bind fun j=>
 (li k k j).bind fun h=>
 (ll k (a0,()) e a2 a3 h).bind fun c=>
 some (c.1,c.2.1,0)))
theorem va(k:Nat)(a0:a8)(a1:(List (List Int)))(a2:Int)(a3:Int)(r:(List Int)×Int×Int)(h:pQ k a0 a1 a2 a3=some r):
 dx (iL Tryz.prog) 42 [.rep aF a0,.rep (.slice (.slice (.int .i64))) a1,I a2,I a3] [.inv 0 (fH)] (fun _:Unit=>(bp [Ri r.1,I r.2.1,I r.2.2],[.inv 0 (fH)])):=by
 unfold pQ at h
 replace h:=be h
 refine dx.of 60 Tryz.func42 rfl Tryz.ntmps42 rfl fun S w0=>?_
 refine sr ?_
 refine bx fun b1=>?_
 refine bx fun b2=>?_
 refine bx fun b3=>?_
 refine cq ?_
 refine cq ?_
 refine cq ?_
 refine nt ?_
 refine ae ?_
 refine sr ?_
 refine fr 2 ?_
 refine lo fV ?_
 refine mq ?_
 obtain⟨r4,Ry,h⟩:=aa h
 have Rz:=co k a0 a1 r4 Ry
 refine fr 3 ?_
 refine kb (ak [.tmp 18,.tmp 19] rfl rfl A9 rfl Rz) ?_
 refine aq ?_
 refine nt ?_
 refine sr ?_
 refine mq ?_
 refine jb (eZ rfl) ?_
 refine nt ?_
 refine cn h (fun h=>?_) (fun h=>?_)
 ·
  refine sr (mq ?_);refine cq ?_;refine cq ?_;refine aq (nt (rx ?_));refine bv (kD (t:=(.slice (.int .i64))) (x:=[]) 8 rfl .nil rfl rfl) ?_;cases h;exact aD () [_,_,_] 1 ⟨rfl,rfl,rfl,trivial⟩ rfl
 ·
  refine sk (ae (aP (Z:=Unit) (α:=Bool) (fun z6 x5=>[(1,.rep (.slice (.slice (.int .i64))) a1),(4,Pt b1),(6,Pt b2),(7,Pt b3),(37,.eq (.bool x5))]) (fun z6 x5=>[.obj b1 25 (.rep aF a0),.obj b2 3 (I a2),.obj b3 3 (I a3),.inv 0 (fH)]) h (fun K h=>?_) (fun z6 x5 h=>?_)))
  ·refine ab (fr 3 ?_);refine lo cu ?_;refine fl fR ?_;refine fr 2 ?_;refine lo cd ?_;refine ol dE ?_;obtain⟨x7,Ru,h⟩:=aa h;refine jb (eA rfl Ru) ?_;obtain⟨r8,Rx,h⟩:=aa h;refine jc (ak [.tmp 24,.const (.int .i64 (0)),.tmp 28] rfl rfl vr rfl (dn k a2 0 x7 r8 Rx)) ?_;refine ja (eB rfl) ?_;refine mq ?_;refine bT (s:=31) rfl (fun hb=>?_) (fun hb=>?_)
   ·replace h:=cy (FK hb) h;iterate 5 refine gn ?_
    refine pt (nl ?_);exact jz ((),true) h [0,1,3,2]
   ·replace h:=bM (yI hb) h;refine fr 3 ?_;refine jU rfl rfl rfl rfl rfl rfl (ao rfl cu mA rfl) ⟨rfl,trivial⟩ ?_;refine ga (aw rfl jP) ?_;refine fr 1 ?_;refine jU rfl rfl rfl rfl rfl rfl (ao rfl cu mA rfl) ⟨rfl,trivial⟩ ?_;obtain⟨r9,Rw,h⟩:=aa h;refine gc (ak [.tmp 32,.const (.int .i64 (0)),.tmp 34] rfl rfl vr rfl (dn k a3 0 a0.1 r9 Rw)) ?_;refine ga (eB rfl) ?_;refine pf (nl ?_);exact jz ((), !r9) h [0,2,1,3]
  ·refine cv h (fun h=>?_) (fun h=>?_)
   ·refine sr (cq ?_);refine cq ?_;refine cq (nt (rx ?_));refine bv (kD (t:=(.slice (.int .i64))) (x:=[]) 8 rfl .nil rfl rfl) ?_;refine bv (SE.fin (Γ':=[(8,_),(9,_),(10,_)]) [3,0,1,2] ⟨rfl,rfl,rfl,trivial⟩ rfl) ?_;cases h;exact aD () [_,_,_] 1 ⟨rfl,rfl,rfl,trivial⟩ rfl
   ·refine sk (sr (lo fV ?_));refine aE rfl rfl rfl (ak [.tmp 38] rfl rfl DZ rfl (eX a0)) ⟨rfl,trivial⟩ fun c=>?_;refine cJ (ji (bi k a0) jK) ?_;refine aE rfl rfl rfl (bJ rfl M7 Py) trivial fun j=>?_;refine bf rfl rfl (a9 rfl qK trivial rfl rfl) ⟨rfl,rfl,trivial⟩ ?_;refine nt (ae (kx ?_));refine fg 0 rfl rfl rfl rfl (ao rfl qK mA rfl) ⟨rfl,trivial⟩ ?_;refine aO rfl rfl rfl (aR rfl) ⟨rfl,trivial⟩ ?_;obtain⟨u,U,h⟩:=aa h;refine aO rfl rfl rfl (ak [.tmp 41] rfl rfl zq rfl (dq k a1 u U)) ⟨rfl,trivial⟩ ?_;refine fg 4 rfl rfl rfl rfl (ao rfl cu mA rfl) ⟨rfl,trivial⟩ ?_;obtain⟨l,Q,h⟩:=aa h;refine aO rfl rfl rfl (dh (N:=[(.tmp 40,.at au (a0,(.map (some c)))),(.tmp 42,.rep (.arr 3 (.arr 5 (.int .i64))) u),(.tmp 43,I a3)]) (ak [.tmp 40,.tmp 42,.tmp 43] rfl rfl Kx rfl (lX k (a0,()) u a3 l Q)) fun _ _ _ hn=>⟨(nz hn.1),hn.2.1,hn.2.2.1,trivial⟩) ⟨rfl,rfl,rfl,trivial⟩ ?_;refine CH (KX 107 (.rep (.arr 3 (.arr 5 (.int .i64))) [[0,0,0,0,0],[0,0,0,0,0],[0,0,0,0,0]])) (fun _=>rfl) rfl rfl rfl (bJ rfl lg lK) trivial ?_;refine oR 6 [true,true,true,true,true,true] [] [] [] rfl (by kernel_rfl) (by kernel_rfl) (by kernel_rfl) eM (fun vs hv hB=>?_);obtain⟨w0,RH,rfl,se⟩:=ap hv;obtain⟨w1,RG,rfl,qt⟩:=ap se;obtain⟨w2,RF,rfl,pp⟩:=ap qt;obtain⟨w3,RE,rfl,mc⟩:=ap pp;obtain⟨w4,RD,rfl,ac⟩:=ap mc;obtain⟨w5,RB,rfl,Y⟩:=ap ac;obtain rfl:=l9 Y;obtain⟨e,rfl⟩:=KW hB.2.2.2.2.2.1;refine⟨[0,1,2,3,4,5,6],[.obj j 102 (.at au (a0,(.map (some c)))),.inv c (bi k a0),.obj b1 25 (.rep aF a0),.obj b2 3 (I a2),.obj b3 3 (I a3),.inv 0 (fH),.obj e 107 (.rep (.arr 3 (.arr 5 (.int .i64))) [[0,0,0,0,0],[0,0,0,0,0],[0,0,0,0,0]])],by kernel_rfl,by decide,?_⟩;refine lN 6 rfl ?_;refine qx rfl rfl (a9 rfl cF rfl rfl rfl) ⟨rfl,rfl,trivial⟩ (by kernel_rfl) ?_;refine sL ?_;refine bv (SE.fin (Γ':=[(6,Pt b2),(7,Pt b3),(12,Pt j),(13,Pt e)]) (Δ':=[.obj e 107 (.rep (.arr 3 (.arr 5 (.int .i64))) l),.obj j 102 (.at au (a0,(.map (some c)))),.inv c (bi k a0),.obj b1 25 (.rep aF a0),.obj b2 3 (I a2),.obj b3 3 (I a3),.inv 0 (fH)]) [0,1,2,3,4,5,6] ⟨rfl,rfl,rfl,rfl,trivial⟩ rfl) ?_;refine tn (sr (aB rfl (sa [] [.tmp 12,.tmp 13,.tmp 6,.tmp 7] [] [(Pv j),(Pv e),(Pv b2),(Pv b3)] rfl rfl rfl) ⟨rfl,rfl,rfl,rfl,trivial⟩ ?_));refine aq (nt (sr ?_));refine mq ?_;refine lo cF ?_;refine fr 4 ?_;refine lo cu ?_;obtain⟨n,O,h⟩:=aa h;refine jb (ak [.tmp 48,.tmp 49] rfl rfl BY rfl (f6 k l a2 n O)) ?_;refine aE rfl rfl rfl (ak [.tmp 50] rfl rfl O5 rfl (qM n)) ⟨rfl,trivial⟩ fun RA=>?_;obtain⟨D,M,h⟩:=aa h;refine ka (ak [.tmp 51] rfl rfl O6 rfl (qN k n RA D M)) ?_;obtain⟨y,J,h⟩:=aa h;refine ja (ak [.tmp 52] rfl rfl Kv rfl (uY k k D y J)) ?_;refine fr 3 ?_;refine cJ (pu (a:=.at au (a0,(.map (some c)))) (a':=.at bD (a0,())) Mc) ?_
    obtain⟨X,E,h⟩:=aa h;refine fr 6 ?_;refine fr 3 ?_;refine fr 4 ?_;refine fr 3 ?_;refine bN (Δ:=[_,_,_,_]) (F:=_) (fun _ _ _=>av rfl _) rfl rfl (fY [.tmp 47,.tmp 53] rfl rfl O7 rfl (qF k (a0,()) j l e a2 b2 a3 b3 y X E)) ⟨rfl,rfl,trivial⟩ fun _=>?_;refine mq ?_;refine xr ?_;refine xr ?_;refine xr ?_;refine aq ?_;refine aq ?_;refine aq (nt (sr ?_));iterate 2 refine mq ?_
    refine aq ?_;refine aq ?_;refine cq (nt (aA ?_));refine bv (SE.fin (Γ':=[(8,_),(9,_),(10,_)]) [7,0,1,2,3,4,5,6] ⟨rfl,rfl,rfl,trivial⟩ rfl) ?_;cases h;exact aD () [_,_,_] 1 ⟨rfl,rfl,rfl,trivial⟩ rfl
def ia(k:Nat)(a0:a8)(a1:(List (List (List Int)))):Nat→((List (List Int))×Int×Bool×Int)→Option ((List (List Int))×Int×Bool)
 |0,_=>none
 |n+1,y5=>
  if y5.2.2.2 < (a1.length:Int) then((((aZ a1 y5.2.2.2).bind fun x9=>
  (cR k a0 x9).bind fun c=>
  ((if¬(y5.2.2.1=true) then(some true) else(some (decide (c < y5.2.1)))):Option (Bool)).bind fun h=>
  if h=true then(some (x9,c,true)) else(some (y5.1,y5.2.1,y5.2.2.1))):Option ((List (List Int))×Int×Bool)).bind fun x7=>
  (ck (y5.2.2.2+1)).bind fun e=>
  ia k a0 a1 n (x7.1,x7.2.1,x7.2.2,e)) else(some (y5.1,y5.2.1,y5.2.2.1))
def lm(k:Nat)(a0:a8)(a1:(List (List (List Int)))):Option ((List (List Int))×Int×Bool):=
 ((ia k a0 a1 k ([[0,0,0,0,0],[0,0,0,0,0],[0,0,0,0,0]],0,false,0)):Option ((List (List Int))×Int×Bool)).bind fun x3=>
 some (x3.1,x3.2.1,x3.2.2)
theorem qG(k:Nat)(a0:a8)(z_a0:Nat)(a1:(List (List (List Int))))(r:(List (List Int))×Int×Bool)(h:lm k a0 a1=some r):
 dx (iL Tryz.prog) 114 [.fn 111 (tI [.at au (a0,(.map (some z_a0)))]),.rep (.slice (.arr 3 (.arr 5 (.int .i64)))) a1] [.inv z_a0 (bi k a0)] (fun _:Unit=>(bp [.rep (.arr 3 (.arr 5 (.int .i64))) r.1,I r.2.1,.eq (.bool r.2.2)],[.inv z_a0 (bi k a0)])):=by
 unfold lm at h
 replace h:=be h
 refine dx.of 35 Tryz.func114 rfl Tryz.ntmps114 rfl fun S w0=>?_
 refine sr ?_
 refine aE rfl rfl rfl (bJ rfl lg lK) trivial fun b1=>?_
 refine cq ?_
 refine cq ?_
 refine nt ?_
 refine sr ?_
 refine aE rfl rfl rfl (bJ rfl lg lK) trivial fun b2=>?_
 refine nt ?_
 refine sr ?_
 refine cq ?_
 refine cq ?_
 refine nt ?_
 refine aP (Z:=Unit) (α:=(List (List Int))×Int×Bool) (fun z4 x3=>[(4,Pt b1),(7,Pt b2),(8,I x3.2.1),(9,.eq (.bool x3.2.2))]) (fun z4 x3=>[.obj b1 107 (.rep (.arr 3 (.arr 5 (.int .i64))) [[0,0,0,0,0],[0,0,0,0,0],[0,0,0,0,0]]),.obj b2 107 (.rep (.arr 3 (.arr 5 (.int .i64))) x3.1),.inv z_a0 (bi k a0)]) h (fun K h=>?_) (fun z4 x3 h=>?_)
 ·
  refine sr (mq ?_);refine ol PG ?_;refine dQ rfl ?_;refine nt (aj (aG (fun z6 y5=>[(0,.fn 111 (tI [.at au (a0,(.map (some z_a0)))])),(4,Pt b1),(7,Pt b2),(8,I y5.2.1),(9,.eq (.bool y5.2.2.1)),(13,.rep (.slice (.arr 3 (.arr 5 (.int .i64)))) a1),(14,I (a1.length:Int)),(15,I y5.2.2.2)]) (fun z6 y5=>[.obj b1 107 (.rep (.arr 3 (.arr 5 (.int .i64))) [[0,0,0,0,0],[0,0,0,0,0],[0,0,0,0,0]]),.obj b2 107 (.rep (.arr 3 (.arr 5 (.int .i64))) y5.1),.inv z_a0 (bi k a0)]) (ia k a0 a1) k () ([[0,0,0,0,0],[0,0,0,0,0],[0,0,0,0,0]],0,false,0) (fun _=>rfl) h (SE.fin [1,0,2] ⟨rfl,rfl,rfl,rfl,rfl,rfl,rfl,rfl,trivial⟩ rfl) (fun n z6 y5 h=>?_)));unfold ia at h;refine sr (jb (bq rfl) ?_);refine nt (ae (ci h (fun h=>?_) (fun h=>?_)))
  ·refine sk (aP (Z:=Unit) (α:=(List (List Int))×Int×Bool) (fun z8 x7=>[(0,.fn 111 (tI [.at au (a0,(.map (some z_a0)))])),(4,Pt b1),(7,Pt b2),(8,I x7.2.1),(9,.eq (.bool x7.2.2)),(13,.rep (.slice (.arr 3 (.arr 5 (.int .i64)))) a1),(14,I (a1.length:Int)),(15,I y5.2.2.2)]) (fun z8 x7=>[.obj b1 107 (.rep (.arr 3 (.arr 5 (.int .i64))) [[0,0,0,0,0],[0,0,0,0,0],[0,0,0,0,0]]),.obj b2 107 (.rep (.arr 3 (.arr 5 (.int .i64))) x7.1),.inv z_a0 (bi k a0)]) h (fun K h=>?_) (fun z8 x7 h=>?_))
   ·refine aj (sr ?_);obtain⟨x9,D,h⟩:=aa h;refine jb (aH (t:=(.arr 3 (.arr 5 (.int .i64)))) rfl PG cF D) ?_;refine ja (an (t:=(.arr 3 (.arr 5 (.int .i64)))) rfl cF rfl) ?_;refine aE rfl rfl rfl (bJ rfl lg lK) trivial fun x=>?_;refine bf rfl rfl (a9 rfl cF rfl rfl rfl) ⟨rfl,rfl,trivial⟩ ?_;refine nt (sr (mq ?_));refine lo cF ?_;obtain⟨c,u,h⟩:=aa h;refine fr 3 ?_;refine kb (FI (fs:=[.at au (a0,(.map (some z_a0)))]) (ags:=[.rep (.arr 3 (.arr 5 (.int .i64))) x9]) [.tmp 20] rfl rfl Ku rfl (jj k a0 z_a0 x9 c u)) ?_;refine aq (nt ?_);refine aP (Z:=Unit) (α:=Bool) (fun j e=>[(0,.fn 111 (tI [.at au (a0,(.map (some z_a0)))])),(4,Pt b1),(7,Pt b2),(8,I y5.2.1),(9,.eq (.bool y5.2.2.1)),(11,Pt x),(12,I c),(13,.rep (.slice (.arr 3 (.arr 5 (.int .i64)))) a1),(14,I (a1.length:Int)),(15,I y5.2.2.2),(28,.eq (.bool e))]) (fun j e=>[.obj b1 107 (.rep (.arr 3 (.arr 5 (.int .i64))) [[0,0,0,0,0],[0,0,0,0,0],[0,0,0,0,0]]),.obj b2 107 (.rep (.arr 3 (.arr 5 (.int .i64))) y5.1),.obj x 107 (.rep (.arr 3 (.arr 5 (.int .i64))) x9),.inv z_a0 (bi k a0)]) h (fun K h=>?_) (fun j e h=>?_)
    ·refine ab (mq ?_);refine ja (eB rfl) ?_;refine mq ?_;refine bT (s:=24) rfl (fun hb=>?_) (fun hb=>?_)
     ·replace h:=cy (FK hb) h;iterate 3 refine gn ?_
      refine pt (nl ?_);exact jz ((),true) h [2,3,1,0]
     ·replace h:=bM (yI hb) h;refine gm ?_;refine gm ?_;refine gb (bq rfl) ?_;refine pf (nl ?_);exact jz ((),decide (c < y5.2.1)) h [2,3,1,0]
    ·refine cv h (fun h=>?_) (fun h=>?_)
     ·refine ab (fr 2 ?_);refine lo cF ?_;refine mq ?_;refine fr 2 ?_;refine bf rfl rfl (a9 rfl cF rfl rfl rfl) ⟨rfl,rfl,trivial⟩ ?_;refine aq ?_;refine cq (ar (bn ?_));exact jz ((),(x9,c,true)) h [2,0,3]
     ·refine aS (bn ?_);exact jz ((),(y5.1,y5.2.1,y5.2.2.1)) h [0,1,3]
   ·refine ab ?_;obtain⟨y,l,h⟩:=aa h;refine jb (ba rfl l) ?_;refine mq (nl ?_);exact jz ((),(x7.1,x7.2.1,x7.2.2,y)) h [0,1,2]
  ·refine xa ?_;exact jz ((),(y5.1,y5.2.1,y5.2.2.1)) h [0,1,2]
 ·
  refine sr (fr 1 ?_);refine lo cF ?_;iterate 2 refine mq ?_
  refine fr 1 ?_;refine bf rfl rfl (a9 rfl cF rfl rfl rfl) ⟨rfl,rfl,trivial⟩ ?_;refine aq ?_;refine aq (nt (aA ?_));refine bv (SE.fin (Γ':=[(4,_),(5,_),(6,_)]) [2,0,1] ⟨rfl,rfl,rfl,trivial⟩ rfl) ?_;cases h;exact aD () [.rep (.arr 3 (.arr 5 (.int .i64))) x3.1,_,_] 1 ⟨⟨_,_,_,_,_,rfl,(.tail _ (.head _)),cF,(vL),rfl⟩,rfl,rfl,trivial⟩ rfl
def tL(k:Nat)(a0:a8):Option ((List (List Int))×Int×Int):=
 (kV k a0).bind fun r2=>
 if¬(r2=0) then(some ([],0,r2)) else((jG k (a0,())).bind fun r5=>
 (lm k a0 r5).bind fun r6=>
 if¬(r6.2.2=true) then(some ([],0,11)) else((dM k (a0,()) r6.1).bind fun r8=>
 some (r8,r6.2.1,0)))
theorem yk(k:Nat)(a0:a8)(r:(List (List Int))×Int×Int)(h:tL k a0=some r):
 dx (iL Tryz.prog) 56 [.rep aF a0] [] (fun _:Unit=>(bp [.rep (.slice (.slice (.int .i64))) r.1,I r.2.1,I r.2.2],[])):=by
 unfold tL at h
 replace h:=be h
 refine dx.of 33 Tryz.func56 rfl Tryz.ntmps56 rfl fun S w0=>?_
 refine sr ?_
 refine bx fun b1=>?_
 refine cq ?_
 refine cq ?_
 refine cq ?_
 refine nt ?_
 refine ae ?_
 refine sr ?_
 refine lo fV ?_
 obtain⟨r2,l,h⟩:=aa h
 have n:=qI k a0 r2 l
 refine ja (ak [.tmp 10] rfl rfl OE rfl n) ?_
 refine aq ?_
 refine nt ?_
 refine sr ?_
 refine mq ?_
 refine jb (eZ rfl) ?_
 refine nt ?_
 refine cn h (fun h=>?_) (fun h=>?_)
 ·
  refine sr (mq ?_);refine cq ?_;refine cq ?_;refine aq (nt (rx ?_));refine bv (kD (t:=(.slice (.slice (.int .i64)))) (x:=[]) 2 rfl .nil rfl rfl) ?_;cases h;exact aD () [_,_,_] 0 ⟨rfl,rfl,rfl,trivial⟩ rfl
 ·
  refine sk (sr (lo fV ?_));refine aE rfl rfl rfl (ak [.tmp 15] rfl rfl DZ rfl (eX a0)) ⟨rfl,trivial⟩ fun z3=>?_;refine cJ (ji (bi k a0) jK) ?_;refine aq (nt (sr ?_));refine mq ?_;refine ja (Ir [.tmp 18] [.at au (a0,(.map (some z3)))] rfl rfl) ?_;refine mq ?_;refine aE rfl rfl rfl (dh (N:=[(.tmp 20,.at au (a0,(.map (some z3))))]) (ak [.tmp 20] rfl rfl O2 rfl (oa (a0,()))) fun _ _ _ hn=>⟨nz hn.1,trivial⟩) ⟨rfl,trivial⟩ fun b4=>?_;obtain⟨r5,j,h⟩:=aa h;refine ka (ak [.tmp 21] rfl rfl O3 rfl (pA k (a0,()) b4 r5 j)) ?_;obtain⟨r6,e,h⟩:=aa h;refine fr 1 ?_;refine kb (fY [.tmp 19,.tmp 22] rfl rfl O4 rfl (qG k a0 z3 r5 r6 e)) ?_;refine mq ?_;refine xr ?_;refine xr ?_;refine xr ?_;refine aE rfl rfl rfl (bJ rfl lg lK) trivial fun b7=>?_;refine bf rfl rfl (a9 rfl cF rfl rfl rfl) ⟨rfl,rfl,trivial⟩ ?_;refine aq ?_;refine aq (nt (ae (sr ?_)));refine mq ?_;refine ja (eB rfl) ?_;refine nt (cw h (fun h=>?_) (fun h=>?_))
  ·refine sr (cq ?_);refine cq ?_;refine cq (nt (rx ?_));refine bv (kD (t:=(.slice (.slice (.int .i64)))) (x:=[]) 2 rfl .nil rfl rfl) ?_;cases h;exact aD () [_,_,_] 0 ⟨rfl,rfl,rfl,trivial⟩ rfl
  ·refine sk (sr (mq ?_));refine lo cF ?_;obtain⟨r8,c,h⟩:=aa h;refine aE rfl rfl rfl (dh (N:=[(.tmp 29,.at au (a0,(.map (some z3)))),(.tmp 30,.rep (.arr 3 (.arr 5 (.int .i64))) r6.1)]) (ak [.tmp 29,.tmp 30] rfl rfl I9 rfl (hP k (a0,()) r6.1 r8 c)) fun _ _ _ hn=>⟨(nz hn.1),hn.2.1,trivial⟩) ⟨rfl,rfl,trivial⟩ fun v9=>?_;refine mq ?_;refine aq ?_;refine aq ?_;refine cq (nt (aA ?_));refine bv (fp [2,31] ⟨rfl,rfl,trivial⟩) ?_;cases h;exact aD () [_,_,_] 0 ⟨rfl,rfl,rfl,trivial⟩ rfl
set_option maxRecDepth 20000
set_option maxHeartbeats 4000000
def MS(b:Nat):List Int→Option Addr
 |[]=>none
 |_::_=>some ⟨b,0,none⟩
def PU:List Int→Value→Value
 |[],_=>.slice none 0 0
 |_::_,v=>v
theorem LY(b:Nat)(l:List Int):MS b l=none∨MS b l=some ⟨b,0,none⟩:=by cases l <;> simp [MS]
theorem Hg(b:Nat)(l:List Int)(c:Int):MS b (l++[c])=some ⟨b,0,none⟩:=by cases l <;> rfl
theorem Hf(l:List Int)(c:Int)(v:Value):PU (l++[c]) v=v:=by cases l <;> rfl
theorem JX:mo Tryz.prog 86 9 1 16:=.of (z:=(.string .empty)) Rq (by kernel_rfl) rfl rfl rfl
theorem LN:ah Tryz.prog 121:=ah.of Tryz.func121 (by kernel_rfl) (by kernel_rfl)
theorem OA:ah Tryz.prog 35:=ah.of Tryz.func35 (by kernel_rfl) (by kernel_rfl)
theorem Nq:dF Tryz.prog 25 3 true:=⟨fun w=>by kernel_rfl,fun w=>by kernel_rfl⟩
theorem JU:dF Tryz.prog 23 1 false:=⟨fun w=>by kernel_rfl,fun w=>by kernel_rfl⟩
theorem Np:dF Tryz.prog 3 1 false:=⟨fun w=>by kernel_rfl,fun w=>by kernel_rfl⟩
def lh(c:Int):Int:=IntKind.i32.wrap (97+IntKind.i32.wrap c)
def kM(xs:List Int):Nat→Int×List Int→Option (List Int)
 |0,_=>none
 |n+1,y=>if y.1 < (xs.length:Int) then((aZ xs y.1).bind fun c=>if 0≤lh c∧lh c≤127∧bV (y.2.length+1) then(ck (y.1+1)).bind fun z=>kM xs n (z,y.2++[lh c]) else none) else some y.2
def jk(k:Nat)(a1:List (List Int)):Nat→Int×List ByteArray→Option (List ByteArray)
 |0,_=>none
 |n+1,y=>if y.1 < (a1.length:Int) then((aZ a1 y.1).bind fun xs=>(kM xs k (0,[])).bind fun l=>if bV (y.2.length+1) then(ck (y.1+1)).bind fun z=>jk k a1 n (z,y.2++[pR l]) else none) else some y.2
def rR(k:Nat)(a0:a8)(a1:(List (List Int))):Option (Value×Int):=
 (bF k a0 a1).bind fun e=>if¬(e=0) then some (.string .empty,e) else(jk k a1 k (0,[])).bind fun ss=>(tj k ss ⟨#[47]⟩).bind fun r=>some (.string r,0)
theorem wG(k:Nat)(a0:a8)(a1:(List (List Int)))(r:Value×Int)(h:rR k a0 a1=some r):
 bX Tryz.prog 67 [.rep aF a0,.rep (.slice (.slice (.int .i64))) a1] [.inv 0 fH] (fun _:Unit=>(bp [.eq r.1,I r.2],[.inv 0 fH])):=by
 unfold rR at h
 replace h:=be h
 refine bX.of 43 Tryz.func67 rfl Tryz.ntmps67 rfl fun S w0=>?_
 refine sr ?_
 refine bx fun b2=>?_
 refine cq ?_
 refine cq ?_
 refine nt ?_
 refine ae ?_
 refine sr ?_
 obtain⟨e,ee,h⟩:=aa h
 have ce:=co k a0 a1 e ee
 refine ka (ao rfl Nq (xQ) rfl) ?_
 refine mq ?_
 refine fr 1 ?_
 refine kb (ak [.tmp 13,.tmp 14] rfl rfl OA rfl ce) ?_
 refine aq ?_
 refine nt ?_
 refine sr ?_
 refine mq ?_
 refine jb (eZ rfl) ?_
 refine nt ?_
 refine bG rfl (fun hb=>?_) (fun hb=>?_)
 ·
  replace h:=cy (F8 hb) h;refine sr (mq ?_);refine cq ?_;refine aq (nt (rx ?_));cases h;exact aD () [_,_] 1 ⟨rfl,rfl,trivial⟩ rfl
 replace h:=bM (uk hb) h
 refine sk ?_
 refine sr ?_
 refine cq ?_
 refine nt ?_
 rw [Option.bind_assoc] at h
 refine ae ?_
 refine sr ?_
 refine mq ?_
 refine ol mf ?_
 refine dQ rfl ?_
 refine cJ (SE.nil 9 .str) ?_
 refine nt ?_
 refine aj ?_
 refine aG (fun v y=>[(7,.eq v),(19,.rep (.slice (.slice (.int .i64))) a1),(20,I (a1.length:Int)),(21,I y.1)]) (fun v y=>[.sl v 9 .str y.2,.inv 0 fH]) (jk k a1) k (.slice none 0 0) (0,[]) (fun _=>rfl) h (SE.fin [0,1] ⟨rfl,rfl,rfl,rfl,trivial⟩ rfl) (fun n v7 y h=>?_)
 unfold jk at h
 refine sr ?_
 refine jb (bq rfl) ?_
 refine nt ?_
 refine ae ?_
 refine bG rfl (fun hb=>?_) (fun hb=>?_)
 ·
  replace h:=cy (nS hb) h;refine sk (ae (aj ?_));obtain⟨xs,exs,h⟩:=aa h;refine sr (jb (aH (t:=.slice (.int .i64)) rfl mf JU exs) ?_);refine ja (an (t:=.slice (.int .i64)) rfl JU rfl) ?_;refine aq (nt (sr ?_));refine aE rfl rfl rfl (bJ rfl EA Hj) trivial fun b=>?_;refine nt ?_;rw [Option.bind_assoc] at h;refine ae (sr (mq ?_));refine ol dE ?_;refine dQ rfl ?_;refine cJ (SE.nil 5 (.int .u8)) ?_;refine nt (aj ?_)
  refine aG (fun v q=>[(7,.eq v7),(10,.eq (bP b)),(19,.rep (.slice (.slice (.int .i64))) a1),(20,I (a1.length:Int)),(21,I y.1),(25,Ri xs),(26,I (xs.length:Int)),(27,I q.1)])
   (fun v q=>[.obj b 162 (bA (.pointer (MS b q.2)) (PU q.2 v)),.sl (PU q.2 v) 5 (.int .u8) q.2,.sl v7 9 .str y.2,.inv 0 fH]) (kM xs) k undef (0,[]) (fun _=>rfl) h (SE.fin [1,0,2,3] ⟨rfl,rfl,rfl,rfl,rfl,rfl,rfl,rfl,trivial⟩ rfl) (fun n2 v q h=>?_)
  unfold kM at h;refine sr (jb (bq rfl) ?_);refine nt (ae (bG rfl (fun hb=>?_) (fun hb=>?_)))
  ·replace h:=cy (nS hb) h;refine sk (ae (aj ?_));obtain⟨c,ec,h⟩:=aa h;refine sr (jb (aH (t:=.int .i64) rfl dE Np ec) ?_);refine ja (an (t:=.int .i64) rfl Np rfl) ?_;refine aq (nt ?_)
   have hk:0≤lh c∧lh c≤127∧bV (q.2.length+1):=by
    apply Classical.byContradiction;intro hn;rw [if_neg hn] at h;cases h
   replace h:=cy hk h;refine uR 1 rfl fun hv=>?_;refine ab (mq ?_);refine ja (om rfl U3 Rr) ?_;refine jb (AH rfl) ?_;refine bN (Δ:=[_,_]) (F:=_) (fun _ _ _=>av rfl _) rfl rfl (ak [.tmp 10,.tmp 33] rfl rfl LO rfl (wK (b:=b) (p:=MS b q.2) (v:=PU q.2 v) (l:=q.2) (r:=lh c) (LY b q.2) hv hk.1 hk.2.1 hk.2.2)) ⟨rfl,rfl,trivial⟩ fun v2=>?_;refine ar (aL (tn (ab ?_)));obtain⟨z3,ez3,h⟩:=aa h;refine jb (ba rfl ez3) ?_;refine mq (nl ?_);exact iM (v2,(z3,q.2++[lh c])) h (SE.fin [0,1,2,3] ⟨rfl,rfl,rfl,rfl,rfl,rfl,rfl,rfl,trivial⟩ (by simp only [Hg,Hf];rfl))
  replace h:=bM (nv hb) h;refine dt (aM (aM (bO (tn ?_))));replace h:(if bV (y.2.length+1) then(ck (y.1+1)).bind fun z=>jk k a1 n (z,y.2++[pR q.2]) else none).bind _=some r:=h
  have hk:bV (y.2.length+1):=by
   apply Classical.byContradiction;intro hn;rw [if_neg hn] at h;cases h
  replace h:=cy hk h;refine ab (mq ?_);refine bN (Δ:=[_,_]) (F:=_) (fun _ _ _=>av rfl _) rfl rfl (ak [.tmp 10] rfl rfl GZ rfl (vE (b:=b) (l:=q.2) (fun hn=>by rw [hn];rfl))) ⟨rfl,trivial⟩ fun _=>?_;refine ja (bH (t:=.str) [(.tmp 37,.eq (.string (pR q.2)))] [pR q.2] rfl rfl JX (.cons rfl .str .nil) rfl rfl) ?_;refine ek rfl rfl rfl (cg rfl rfl JX (by simpa using hk)) ⟨rfl,rfl,trivial⟩ fun v'=>?_;refine aq (ar (aL (tn (ab ?_))));obtain⟨z3,ez3,h⟩:=aa h;refine jb (ba rfl ez3) ?_;refine mq (nl ?_);exact jz (v',(z3,y.2++[pR q.2])) h [0,1]
 replace h:=bM (nv hb) h
 refine dt ?_
 refine aM ?_
 refine aM ?_
 refine bO ?_
 refine tn ?_
 replace h:((tj k y.2 ⟨#[47]⟩).bind fun r=>some (.string r,0)).bind some=some r:=h
 obtain⟨r1,j,h⟩:=aa h
 cases h
 have cj:=Ai k y.2 _ r1 j
 refine sr ?_
 refine cJ (fp [7] ⟨rfl,trivial⟩) ?_
 refine mq ?_
 refine jb (ak [.tmp 41,.const (.string ⟨#[47]⟩)] rfl rfl LN rfl cj) ?_
 refine aq ?_
 refine cq ?_
 refine nt ?_
 refine aA ?_
 exact aD () [_,_] 1 ⟨rfl,rfl,trivial⟩ rfl
def jJ(k:Nat):Option Bool:=
 (kf k ([]:(List Int))).bind fun r1=>
 (vU k).bind fun r2=>
 (oZ k r1 r2 1).bind fun r3=>
 (kf k ([]:(List Int))).bind fun r4=>
 (vU k).bind fun r5=>
 (jE k r4 r5).bind fun r6=>
 (kf k ([]:(List Int))).bind fun r7=>
 (tL k r7).bind fun r8=>
 (kf k ([]:(List Int))).bind fun r9=>
 (Gs k).bind fun E=>
 (tJ k r9 E).bind fun c=>
 (kf k ([]:(List Int))).bind fun D=>
 (vU k).bind fun y=>
 (pQ k D y 0 1).bind fun h=>
 (kf k ([]:(List Int))).bind fun x=>
 (vU k).bind fun u=>
 (rR k x u).bind fun e=>
 ((if r3.2.2=0 then(if r6.2=0 then(if r8.2.2=0 then(if c.2.2.2=0 then(if h.2.2=0 then(if e.2=0 then(if r6.1=3 then(if r8.2.1=0 then(if c.1=0 then(if c.2.1=2 then(if c.2.2.1=1 then(if h.2.1=2 then((dT (J6 e.1=true)).bind fun _=>
 if GW e.1 (⟨#[98,97,100,47,99]⟩:ByteArray)=true then((eI k r3.1 [0]).bind fun s=>
 if s=true then((fP k r3.2.1 [[0,1,3],[2]]).bind fun r=>
 if r=true then((fP k r8.1 [[2,0],[1,3]]).bind fun n=>
 if n=true then((eI k h.1 [0,1,3]).bind fun l=>
 some l) else(some false)) else(some false)) else(some false)) else(some false)) else(some false)) else(some false)) else(some false)) else(some false)) else(some false)) else(some false)) else(some false)) else(some false)) else(some false)) else(some false)) else(some false)) else(some false)):Option (Bool)).bind fun j=>
 some j
theorem pK(k:Nat)(r:Bool)(h:jJ k=some r):
 dx (iL Tryz.prog) 25 [] [.inv 0 (fH)] (fun _:Unit=>(bp [.eq (.bool r)],[.inv 0 (fH)])):=by
 unfold jJ at h
 replace h:=be h
 refine dx.of 132 Tryz.func25 rfl Tryz.ntmps25 rfl fun S w0=>?_
 refine sr ?_
 refine cq ?_
 refine nt ?_
 refine sr ?_
 obtain⟨r1,RS,h⟩:=aa h
 have Si:=je k ([]:(List Int)) r1 RS
 refine ja (dh (N:=[(.const (.slice none 0 0),.eq (.slice none 0 0))]) (ak [.const (.slice none 0 0)] rfl rfl D1 rfl Si) fun _ _ _ hn=>⟨(jR (t:=(.slice (.int .i64))) (x:=([]:(List Int))) .nil rfl rfl hn.1),trivial⟩) ?_
 obtain⟨r2,RR,h⟩:=aa h
 have R9:=q8 k r2 RR
 refine aB rfl (ak [] rfl rfl Jb rfl R9) trivial ?_
 obtain⟨r3,RQ,h⟩:=aa h
 have R7:=tK k r1 r2 1 r3 RQ
 refine kc (ak [.tmp 19,.tmp 20,.const (.int .i64 (1))] rfl rfl OF rfl R7) ?_
 refine mq ?_
 refine xr ?_
 refine xr ?_
 refine xr ?_
 refine aq ?_
 refine aq ?_
 refine aq ?_
 refine nt ?_
 refine sr ?_
 obtain⟨r4,RP,h⟩:=aa h
 have R2:=je k ([]:(List Int)) r4 RP
 refine ja (dh (N:=[(.const (.slice none 0 0),.eq (.slice none 0 0))]) (ak [.const (.slice none 0 0)] rfl rfl D1 rfl R2) fun _ _ _ hn=>⟨(jR (t:=(.slice (.int .i64))) (x:=([]:(List Int))) .nil rfl rfl hn.1),trivial⟩) ?_
 obtain⟨r5,RO,h⟩:=aa h
 have RZ:=q8 k r5 RO
 refine aB rfl (ak [] rfl rfl Jb rfl RZ) trivial ?_
 obtain⟨r6,RN,h⟩:=aa h
 have RY:=na k r4 r5 r6 RN
 refine kb (fY [.tmp 26,.tmp 27] rfl rfl OC rfl RY) ?_
 refine mq ?_
 refine xr ?_
 refine xr ?_
 refine aq ?_
 refine aq ?_
 refine nt ?_
 refine sr ?_
 obtain⟨r7,RL,h⟩:=aa h
 have RX:=je k ([]:(List Int)) r7 RL
 refine ja (dh (N:=[(.const (.slice none 0 0),.eq (.slice none 0 0))]) (ak [.const (.slice none 0 0)] rfl rfl D1 rfl RX) fun _ _ _ hn=>⟨(jR (t:=(.slice (.int .i64))) (x:=([]:(List Int))) .nil rfl rfl hn.1),trivial⟩) ?_
 obtain⟨r8,RJ,h⟩:=aa h
 have RV:=yk k r7 r8 RJ
 refine ja (fY [.tmp 32] rfl rfl QJ rfl RV) ?_
 refine mq ?_
 refine xr ?_
 refine xr ?_
 refine xr ?_
 refine aq ?_
 refine aq ?_
 refine aq ?_
 refine nt ?_
 refine sr ?_
 obtain⟨r9,RI,h⟩:=aa h
 have RU:=je k ([]:(List Int)) r9 RI
 refine ja (dh (N:=[(.const (.slice none 0 0),.eq (.slice none 0 0))]) (ak [.const (.slice none 0 0)] rfl rfl D1 rfl RU) fun _ _ _ hn=>⟨(jR (t:=(.slice (.int .i64))) (x:=([]:(List Int))) .nil rfl rfl hn.1),trivial⟩) ?_
 obtain⟨E,qt,h⟩:=aa h
 have RB:=Gq k E qt
 refine aB rfl (ak [] rfl rfl QE rfl RB) trivial ?_
 obtain⟨RH,pp,h⟩:=aa h
 have RA:=yj k r9 E RH pp
 refine kb (fY [.tmp 38,.tmp 39] rfl rfl QO rfl RA) ?_
 refine mq ?_
 refine xr ?_
 refine xr ?_
 refine xr ?_
 refine xr ?_
 refine aq ?_
 refine aq ?_
 refine aq ?_
 refine aq ?_
 refine nt ?_
 refine sr ?_
 obtain⟨D,mc,h⟩:=aa h
 have Rz:=je k ([]:(List Int)) D mc
 refine ja (dh (N:=[(.const (.slice none 0 0),.eq (.slice none 0 0))]) (ak [.const (.slice none 0 0)] rfl rfl D1 rfl Rz) fun _ _ _ hn=>⟨(jR (t:=(.slice (.int .i64))) (x:=([]:(List Int))) .nil rfl rfl hn.1),trivial⟩) ?_
 obtain⟨y,ac,h⟩:=aa h
 have Ry:=q8 k y ac
 refine aB rfl (ak [] rfl rfl Jb rfl Ry) trivial ?_
 obtain⟨u,Y,h⟩:=aa h
 have Rx:=va k D y 0 1 u Y
 refine bU rfl rfl rfl (fY [.tmp 46,.tmp 47,.const (.int .i64 (0)),.const (.int .i64 (1))] rfl rfl QN rfl Rx) ⟨rfl,rfl,rfl,rfl,trivial⟩ ?_
 refine mq ?_
 refine xr ?_
 refine xr ?_
 refine xr ?_
 refine aq ?_
 refine aq ?_
 refine aq ?_
 refine nt ?_
 refine sr ?_
 obtain⟨n,X,h⟩:=aa h
 have Rw:=je k ([]:(List Int)) n X
 refine ja (dh (N:=[(.const (.slice none 0 0),.eq (.slice none 0 0))]) (ak [.const (.slice none 0 0)] rfl rfl D1 rfl Rw) fun _ _ _ hn=>⟨(jR (t:=(.slice (.int .i64))) (x:=([]:(List Int))) .nil rfl rfl hn.1),trivial⟩) ?_
 obtain⟨l,U,h⟩:=aa h
 have Ru:=q8 k l U
 refine aB rfl (ak [] rfl rfl Jb rfl Ru) trivial ?_
 obtain⟨RG,Q,h⟩:=aa h
 have se:=wG k n l RG Q
 refine kb (ak [.tmp 53,.tmp 54] rfl rfl QG rfl se) ?_
 refine mq ?_
 refine xr ?_
 refine xr ?_
 refine aq ?_
 refine aq ?_
 refine nt ?_
 refine aP (Z:=Unit) (α:=Bool) (fun e c=>[(0,.eq (.bool c))]) (fun e c=>[.inv 0 (fH)]) h (fun K h=>?_) (fun e c h=>?_)
 ·
  refine ab (mq ?_);refine jb (fj rfl) ?_;refine mq ?_;refine bT (s:=60) rfl (fun hb=>?_) (fun hb=>?_)
  ·replace h:=cy (nS hb) h;refine gm ?_;refine gb (fj rfl) ?_;refine pt ?_;refine mq ?_;refine bT (s:=64) rfl (fun hb=>?_) (fun hb=>?_)
   ·replace h:=cy (nS hb) h;refine gm ?_;refine gb (fj rfl) ?_;refine pt ?_;refine mq ?_;refine bT (s:=68) rfl (fun hb=>?_) (fun hb=>?_)
    ·replace h:=cy (nS hb) h;refine gm ?_;refine gb (fj rfl) ?_;refine pt ?_;refine mq ?_;refine bT (s:=72) rfl (fun hb=>?_) (fun hb=>?_)
     ·replace h:=cy (nS hb) h;refine gm ?_;refine gb (fj rfl) ?_;refine pt ?_;refine mq ?_;refine bT (s:=76) rfl (fun hb=>?_) (fun hb=>?_)
      ·replace h:=cy (nS hb) h;refine gm ?_;refine gb (fj rfl) ?_;refine pt ?_;refine mq ?_;refine bT (s:=80) rfl (fun hb=>?_) (fun hb=>?_)
       ·replace h:=cy (nS hb) h;refine gm ?_;refine gb (fj rfl) ?_;refine pt ?_;refine mq ?_;refine bT (s:=84) rfl (fun hb=>?_) (fun hb=>?_)
        ·replace h:=cy (nS hb) h;refine gm ?_;refine gb (fj rfl) ?_;refine pt ?_;refine mq ?_;refine bT (s:=88) rfl (fun hb=>?_) (fun hb=>?_)
         ·replace h:=cy (nS hb) h;refine gm ?_;refine gb (fj rfl) ?_;refine pt ?_;refine mq ?_;refine bT (s:=92) rfl (fun hb=>?_) (fun hb=>?_)
          ·replace h:=cy (nS hb) h;refine gm ?_;refine gb (fj rfl) ?_;refine pt ?_;refine mq ?_;refine bT (s:=96) rfl (fun hb=>?_) (fun hb=>?_)
           ·replace h:=cy (nS hb) h;refine gm ?_;refine gb (fj rfl) ?_;refine pt ?_;refine mq ?_;refine bT (s:=100) rfl (fun hb=>?_) (fun hb=>?_)
            ·replace h:=cy (nS hb) h;refine gm ?_;refine gb (fj rfl) ?_;refine pt ?_;refine mq ?_;refine bT (s:=104) rfl (fun hb=>?_) (fun hb=>?_)
             ·replace h:=cy (nS hb) h;refine gm ?_;obtain⟨Sj,F,h⟩:=aa h;refine gb (FG rfl (aC F)) ?_;refine pt ?_;refine mq ?_;refine bT (s:=108) rfl (fun hb=>?_) (fun hb=>?_)
              ·replace h:=cy (Eu hb) h;refine gm ?_;refine ga (bH (t:=(.int .i64)) [(.const (.int .i64 (0)),_)] [0] rfl rfl eF (.cons rfl .int .nil) rfl rfl) ?_;obtain⟨RF,O,h⟩:=aa h;refine gb (ak [.tmp 109,.tmp 110] rfl rfl Jc rfl (iU k r3.1 [0] RF O)) ?_;refine pt ?_;refine mq ?_;refine bT (s:=113) rfl (fun hb=>?_) (fun hb=>?_)
               ·replace h:=cy (Eu hb) h;refine gm ?_;refine gc (bH (t:=(.int .i64)) [(.const (.int .i64 (0)),_),(.const (.int .i64 (1)),_),(.const (.int .i64 (3)),_)] [0,1,3] rfl rfl eF (.cons rfl .int (.cons rfl .int (.cons rfl .int .nil))) rfl rfl) ?_;refine ga (bH (t:=(.int .i64)) [(.const (.int .i64 (2)),_)] [2] rfl rfl eF (.cons rfl .int .nil) rfl rfl) ?_;refine gb (bH (t:=(.slice (.int .i64))) [(.tmp 115,_),(.tmp 116,_)] [[0,1,3],[2]] rfl rfl rT (.cons rfl .rep (.cons rfl .rep .nil)) rfl rfl) ?_;obtain⟨RE,M,h⟩:=aa h;refine gb (ak [.tmp 114,.tmp 117] rfl rfl LR rfl (jM k r3.2.1 [[0,1,3],[2]] RE M)) ?_;refine pt ?_;refine mq ?_;refine bT (s:=120) rfl (fun hb=>?_) (fun hb=>?_)
                ·replace h:=cy (Eu hb) h;refine gm ?_;refine gb (bH (t:=(.int .i64)) [(.const (.int .i64 (2)),_),(.const (.int .i64 (0)),_)] [2,0] rfl rfl eF (.cons rfl .int (.cons rfl .int .nil)) rfl rfl) ?_;refine gb (bH (t:=(.int .i64)) [(.const (.int .i64 (1)),_),(.const (.int .i64 (3)),_)] [1,3] rfl rfl eF (.cons rfl .int (.cons rfl .int .nil)) rfl rfl) ?_;refine gb (bH (t:=(.slice (.int .i64))) [(.tmp 122,_),(.tmp 123,_)] [[2,0],[1,3]] rfl rfl rT (.cons rfl .rep (.cons rfl .rep .nil)) rfl rfl) ?_;obtain⟨RD,J,h⟩:=aa h;refine gb (ak [.tmp 121,.tmp 124] rfl rfl LR rfl (jM k r8.1 [[2,0],[1,3]] RD J)) ?_;refine pt ?_;refine mq ?_;refine bT (s:=127) rfl (fun hb=>?_) (fun hb=>?_)
                 ·replace h:=cy (Eu hb) h;refine gm ?_;refine gc (bH (t:=(.int .i64)) [(.const (.int .i64 (0)),_),(.const (.int .i64 (1)),_),(.const (.int .i64 (3)),_)] [0,1,3] rfl rfl eF (.cons rfl .int (.cons rfl .int (.cons rfl .int .nil))) rfl rfl) ?_;obtain⟨j,I,h⟩:=aa h;refine gb (ak [.tmp 128,.tmp 129] rfl rfl Jc rfl (iU k u.1 [0,1,3] j I)) ?_;refine pt ?_;refine aq (nl ?_);exact jz ((),j) h [0]
                 ·replace h:=bM (Ew hb) h;iterate 3 refine gn ?_
                  refine pf ?_;refine aq (nl ?_);exact jz ((),false) h [0]
                ·replace h:=bM (Ew hb) h;iterate 5 refine gn ?_
                 refine pf ?_;refine mq ?_;iterate 3 refine gn ?_
                 refine pf ?_;refine aq (nl ?_);exact jz ((),false) h [0]
               ·replace h:=bM (Ew hb) h;iterate 5 refine gn ?_
                refine pf ?_;refine mq ?_;iterate 5 refine gn ?_
                refine pf ?_;refine mq ?_;iterate 3 refine gn ?_
                refine pf ?_;refine aq (nl ?_);exact jz ((),false) h [0]
              ·replace h:=bM (Ew hb) h;iterate 3 refine gn ?_
               refine pf ?_;refine mq ?_;iterate 5 refine gn ?_
               refine pf ?_;refine mq ?_;iterate 5 refine gn ?_
               refine pf ?_;refine mq ?_;iterate 3 refine gn ?_
               refine pf ?_;refine aq (nl ?_);exact jz ((),false) h [0]
             ·replace h:=bM (nv hb) h;iterate 2 refine gn ?_
              refine pf ?_;refine mq ?_;iterate 3 refine gn ?_
              refine pf ?_;refine mq ?_;iterate 5 refine gn ?_
              refine pf ?_;refine mq ?_;iterate 5 refine gn ?_
              refine pf ?_;refine mq ?_;iterate 3 refine gn ?_
              refine pf ?_;refine aq (nl ?_);exact jz ((),false) h [0]
            ·replace h:=bM (nv hb) h;iterate 2 refine gn ?_
             refine pf ?_;refine mq ?_;iterate 2 refine gn ?_
             refine pf ?_;refine mq ?_;iterate 3 refine gn ?_
             refine pf ?_;refine mq ?_;iterate 5 refine gn ?_
             refine pf ?_;refine mq ?_;iterate 5 refine gn ?_
             refine pf ?_;refine mq ?_;iterate 3 refine gn ?_
             refine pf ?_;refine aq (nl ?_);exact jz ((),false) h [0]
           ·replace h:=bM (nv hb) h;iterate 2 refine gn ?_
            refine pf ?_;refine mq ?_;iterate 2 refine gn ?_
            refine pf ?_;refine mq ?_;iterate 2 refine gn ?_
            refine pf ?_;refine mq ?_;iterate 3 refine gn ?_
            refine pf ?_;refine mq ?_;iterate 5 refine gn ?_
            refine pf ?_;refine mq ?_;iterate 5 refine gn ?_
            refine pf ?_;refine mq ?_;iterate 3 refine gn ?_
            refine pf ?_;refine aq (nl ?_);exact jz ((),false) h [0]
          ·replace h:=bM (nv hb) h;iterate 2 refine gn ?_
           refine pf ?_;refine mq ?_;iterate 2 refine gn ?_
           refine pf ?_;refine mq ?_;iterate 2 refine gn ?_
           refine pf ?_;refine mq ?_;iterate 2 refine gn ?_
           refine pf ?_;refine mq ?_;iterate 3 refine gn ?_
           refine pf ?_;refine mq ?_;iterate 5 refine gn ?_
           refine pf ?_;refine mq ?_;iterate 5 refine gn ?_
           refine pf ?_;refine mq ?_;iterate 3 refine gn ?_
           refine pf ?_;refine aq (nl ?_);exact jz ((),false) h [0]
         ·replace h:=bM (nv hb) h;iterate 2 refine gn ?_
          refine pf ?_;refine mq ?_;iterate 2 refine gn ?_
          refine pf ?_;refine mq ?_;iterate 2 refine gn ?_
          refine pf ?_;refine mq ?_;iterate 2 refine gn ?_
          refine pf ?_;refine mq ?_;iterate 2 refine gn ?_
          refine pf ?_;refine mq ?_;iterate 3 refine gn ?_
          refine pf ?_;refine mq ?_;iterate 5 refine gn ?_
          refine pf ?_;refine mq ?_;iterate 5 refine gn ?_
          refine pf ?_;refine mq ?_;iterate 3 refine gn ?_
          refine pf ?_;refine aq (nl ?_);exact jz ((),false) h [0]
        ·replace h:=bM (nv hb) h;iterate 2 refine gn ?_
         refine pf ?_;refine mq ?_;iterate 2 refine gn ?_
         refine pf ?_;refine mq ?_;iterate 2 refine gn ?_
         refine pf ?_;refine mq ?_;iterate 2 refine gn ?_
         refine pf ?_;refine mq ?_;iterate 2 refine gn ?_
         refine pf ?_;refine mq ?_;iterate 2 refine gn ?_
         refine pf ?_;refine mq ?_;iterate 3 refine gn ?_
         refine pf ?_;refine mq ?_;iterate 5 refine gn ?_
         refine pf ?_;refine mq ?_;iterate 5 refine gn ?_
         refine pf ?_;refine mq ?_;iterate 3 refine gn ?_
         refine pf ?_;refine aq (nl ?_);exact jz ((),false) h [0]
       ·replace h:=bM (nv hb) h;iterate 2 refine gn ?_
        refine pf ?_;refine mq ?_;iterate 2 refine gn ?_
        refine pf ?_;refine mq ?_;iterate 2 refine gn ?_
        refine pf ?_;refine mq ?_;iterate 2 refine gn ?_
        refine pf ?_;refine mq ?_;iterate 2 refine gn ?_
        refine pf ?_;refine mq ?_;iterate 2 refine gn ?_
        refine pf ?_;refine mq ?_;iterate 2 refine gn ?_
        refine pf ?_;refine mq ?_;iterate 3 refine gn ?_
        refine pf ?_;refine mq ?_;iterate 5 refine gn ?_
        refine pf ?_;refine mq ?_;iterate 5 refine gn ?_
        refine pf ?_;refine mq ?_;iterate 3 refine gn ?_
        refine pf ?_;refine aq (nl ?_);exact jz ((),false) h [0]
      ·replace h:=bM (nv hb) h;iterate 2 refine gn ?_
       refine pf ?_;refine mq ?_;iterate 2 refine gn ?_
       refine pf ?_;refine mq ?_;iterate 2 refine gn ?_
       refine pf ?_;refine mq ?_;iterate 2 refine gn ?_
       refine pf ?_;refine mq ?_;iterate 2 refine gn ?_
       refine pf ?_;refine mq ?_;iterate 2 refine gn ?_
       refine pf ?_;refine mq ?_;iterate 2 refine gn ?_
       refine pf ?_;refine mq ?_;iterate 2 refine gn ?_
       refine pf ?_;refine mq ?_;iterate 3 refine gn ?_
       refine pf ?_;refine mq ?_;iterate 5 refine gn ?_
       refine pf ?_;refine mq ?_;iterate 5 refine gn ?_
       refine pf ?_;refine mq ?_;iterate 3 refine gn ?_
       refine pf ?_;refine aq (nl ?_);exact jz ((),false) h [0]
     ·replace h:=bM (nv hb) h;iterate 2 refine gn ?_
      refine pf ?_;refine mq ?_;iterate 2 refine gn ?_
      refine pf ?_;refine mq ?_;iterate 2 refine gn ?_
      refine pf ?_;refine mq ?_;iterate 2 refine gn ?_
      refine pf ?_;refine mq ?_;iterate 2 refine gn ?_
      refine pf ?_;refine mq ?_;iterate 2 refine gn ?_
      refine pf ?_;refine mq ?_;iterate 2 refine gn ?_
      refine pf ?_;refine mq ?_;iterate 2 refine gn ?_
      refine pf ?_;refine mq ?_;iterate 2 refine gn ?_
      refine pf ?_;refine mq ?_;iterate 3 refine gn ?_
      refine pf ?_;refine mq ?_;iterate 5 refine gn ?_
      refine pf ?_;refine mq ?_;iterate 5 refine gn ?_
      refine pf ?_;refine mq ?_;iterate 3 refine gn ?_
      refine pf ?_;refine aq (nl ?_);exact jz ((),false) h [0]
    ·replace h:=bM (nv hb) h;iterate 2 refine gn ?_
     refine pf ?_;refine mq ?_;iterate 2 refine gn ?_
     refine pf ?_;refine mq ?_;iterate 2 refine gn ?_
     refine pf ?_;refine mq ?_;iterate 2 refine gn ?_
     refine pf ?_;refine mq ?_;iterate 2 refine gn ?_
     refine pf ?_;refine mq ?_;iterate 2 refine gn ?_
     refine pf ?_;refine mq ?_;iterate 2 refine gn ?_
     refine pf ?_;refine mq ?_;iterate 2 refine gn ?_
     refine pf ?_;refine mq ?_;iterate 2 refine gn ?_
     refine pf ?_;refine mq ?_;iterate 2 refine gn ?_
     refine pf ?_;refine mq ?_;iterate 3 refine gn ?_
     refine pf ?_;refine mq ?_;iterate 5 refine gn ?_
     refine pf ?_;refine mq ?_;iterate 5 refine gn ?_
     refine pf ?_;refine mq ?_;iterate 3 refine gn ?_
     refine pf ?_;refine aq (nl ?_);exact jz ((),false) h [0]
   ·replace h:=bM (nv hb) h;iterate 2 refine gn ?_
    refine pf ?_;refine mq ?_;iterate 2 refine gn ?_
    refine pf ?_;refine mq ?_;iterate 2 refine gn ?_
    refine pf ?_;refine mq ?_;iterate 2 refine gn ?_
    refine pf ?_;refine mq ?_;iterate 2 refine gn ?_
    refine pf ?_;refine mq ?_;iterate 2 refine gn ?_
    refine pf ?_;refine mq ?_;iterate 2 refine gn ?_
    refine pf ?_;refine mq ?_;iterate 2 refine gn ?_
    refine pf ?_;refine mq ?_;iterate 2 refine gn ?_
    refine pf ?_;refine mq ?_;iterate 2 refine gn ?_
    refine pf ?_;refine mq ?_;iterate 2 refine gn ?_
    refine pf ?_;refine mq ?_;iterate 3 refine gn ?_
    refine pf ?_;refine mq ?_;iterate 5 refine gn ?_
    refine pf ?_;refine mq ?_;iterate 5 refine gn ?_
    refine pf ?_;refine mq ?_;iterate 3 refine gn ?_
    refine pf ?_;refine aq (nl ?_);exact jz ((),false) h [0]
  ·replace h:=bM (nv hb) h;iterate 2 refine gn ?_
   refine pf ?_;refine mq ?_;iterate 2 refine gn ?_
   refine pf ?_;refine mq ?_;iterate 2 refine gn ?_
   refine pf ?_;refine mq ?_;iterate 2 refine gn ?_
   refine pf ?_;refine mq ?_;iterate 2 refine gn ?_
   refine pf ?_;refine mq ?_;iterate 2 refine gn ?_
   refine pf ?_;refine mq ?_;iterate 2 refine gn ?_
   refine pf ?_;refine mq ?_;iterate 2 refine gn ?_
   refine pf ?_;refine mq ?_;iterate 2 refine gn ?_
   refine pf ?_;refine mq ?_;iterate 2 refine gn ?_
   refine pf ?_;refine mq ?_;iterate 2 refine gn ?_
   refine pf ?_;refine mq ?_;iterate 2 refine gn ?_
   refine pf ?_;refine mq ?_;iterate 3 refine gn ?_
   refine pf ?_;refine mq ?_;iterate 5 refine gn ?_
   refine pf ?_;refine mq ?_;iterate 5 refine gn ?_
   refine pf ?_;refine mq ?_;iterate 3 refine gn ?_
   refine pf ?_;refine aq (nl ?_);exact jz ((),false) h [0]
 ·
  refine aA ?_;cases h;exact aD () [_] 1 ⟨rfl,trivial⟩ rfl
def kW(k:Nat)(a0:a8)(a1:(List (List Int)))(a2:Int):Option ((List (List Int))×Int):=
 (bF k a0 a1).bind fun r2=>
 if¬(r2=0) then(some ([],r2)) else((dp k a2 0 a0.1).bind fun r3=>
 if¬(r3=true) then(some ([],3)) else((cV k a1).bind fun r5=>
 (f4 k (a0,()) r5 a2).bind fun r6=>
 (dM k (a0,()) r6).bind fun r7=>
 some (r7,0)))
theorem qJ(k:Nat)(a0:a8)(a1:(List (List Int)))(a2:Int)(r:(List (List Int))×Int)(h:kW k a0 a1 a2=some r):
 bX Tryz.prog 52 [.rep aF a0,.rep (.slice (.slice (.int .i64))) a1,I a2] [.inv 0 (fH)] (fun _:Unit=>(bp [.rep (.slice (.slice (.int .i64))) r.1,I r.2],[.inv 0 (fH)])):=by
 unfold kW at h
 replace h:=be h
 refine bX.of 30 Tryz.func52 rfl Tryz.ntmps52 rfl fun S w0=>?_
 refine sr ?_
 refine bx fun b1=>?_
 refine cq ?_
 refine cq ?_
 refine nt ?_
 refine ae ?_
 refine sr ?_
 refine lo fV ?_
 refine mq ?_
 obtain⟨r2,n,h⟩:=aa h
 have s:=co k a0 a1 r2 n
 refine fr 1 ?_
 refine kb (ak [.tmp 10,.tmp 11] rfl rfl A9 rfl s) ?_
 refine aq ?_
 refine nt ?_
 refine sr ?_
 refine mq ?_
 refine jb (eZ rfl) ?_
 refine nt ?_
 refine cn h (fun h=>?_) (fun h=>?_)
 ·
  refine sr (mq ?_);refine cq ?_;refine aq (nt (rx ?_));refine bv (kD (t:=(.slice (.slice (.int .i64)))) (x:=[]) 6 rfl .nil rfl rfl) ?_;cases h;exact aD () [_,_] 1 ⟨rfl,rfl,trivial⟩ rfl
 ·
  refine sk (ae (sr (mq ?_)));refine fl jP ?_;refine fr 1 ?_;refine lo cu ?_;obtain⟨r3,l,h⟩:=aa h;refine jc (ak [.tmp 16,.const (.int .i64 (0)),.tmp 18] rfl rfl vr rfl (dn k a2 0 a0.1 r3 l)) ?_;refine ja (eB rfl) ?_;refine nt (cw h (fun h=>?_) (fun h=>?_))
  ·refine sr (cq ?_);refine cq (nt (rx ?_));refine bv (kD (t:=(.slice (.slice (.int .i64)))) (x:=[]) 6 rfl .nil rfl rfl) ?_;refine bv (SE.fin (Γ':=[(6,_),(7,_)]) [1,0] ⟨rfl,rfl,trivial⟩ rfl) ?_;cases h;exact aD () [_,_] 1 ⟨rfl,rfl,trivial⟩ rfl
  ·refine sk (sr (lo fV ?_));refine aE rfl rfl rfl (ak [.tmp 21] rfl rfl DZ rfl (eX a0)) ⟨rfl,trivial⟩ fun z4=>?_;refine cJ (ji (bi k a0) jK) ?_;refine aq (nt (sr ?_));iterate 3 refine mq ?_
   obtain⟨r5,j,h⟩:=aa h;refine ja (ak [.tmp 25] rfl rfl zq rfl (dq k a1 r5 j)) ?_;refine mq ?_;obtain⟨r6,e,h⟩:=aa h;refine jc (dh (N:=[(.tmp 24,.at au (a0,(.map (some z4)))),(.tmp 26,.rep (.arr 3 (.arr 5 (.int .i64))) r5),(.tmp 27,I a2)]) (ak [.tmp 24,.tmp 26,.tmp 27] rfl rfl Kx rfl (lX k (a0,()) r5 a2 r6 e)) fun _ _ _ hn=>⟨(nz hn.1),hn.2.1,hn.2.2.1,trivial⟩) ?_;obtain⟨r7,c,h⟩:=aa h;refine aE rfl rfl rfl (dh (N:=[(.tmp 23,.at au (a0,(.map (some z4)))),(.tmp 28,.rep (.arr 3 (.arr 5 (.int .i64))) r6)]) (ak [.tmp 23,.tmp 28] rfl rfl I9 rfl (hP k (a0,()) r6 r7 c)) fun _ _ _ hn=>⟨(nz hn.1),hn.2.1,trivial⟩) ⟨rfl,rfl,trivial⟩ fun v8=>?_;refine aq ?_;refine cq (nt (aA ?_));refine bv (fp [6,29] ⟨rfl,rfl,trivial⟩) ?_;refine bv (SE.fin (Γ':=[(6,_),(7,_)]) [2,0,1] ⟨rfl,rfl,trivial⟩ rfl) ?_;cases h;exact aD () [_,_] 1 ⟨rfl,rfl,trivial⟩ rfl
def gC(k:Nat)(e:(List (List Int))×(List Int)×Int)(h:Int×(List (List Int))):Nat→((List Int)×Int)→Option (List Int)
 |0,_=>none
 |n+1,c=>
  if c.2 < (e.2.1.length:Int) then((((dy k h.1 c.2).bind fun u=>
  if u=true then((aZ c.1 c.2).bind fun r=>
  (ck (r+1)).bind fun l=>
  (aZ c.1 c.2).bind fun x=>
  some (List.set c.1 (Int.toNat c.2) l)) else(some c.1)):Option ((List Int))).bind fun s=>
  (ck (c.2+1)).bind fun j=>
  gC k e h n (s,j)) else(some c.1)
def iw(k:Nat)(a0:a8):Nat→((List (List Int))×(List Int)×Int)→Option (List Int)
 |0,_=>none
 |n+1,c=>
  if c.2.2 < a0.1 then((((gB k (a0,()) c.1 c.2.2).bind fun h=>
  ((gC k c h k (c.2.1,0)):Option ((List Int))).bind fun l=>
  some (h.2,l)):Option ((List (List Int))×(List Int))).bind fun e=>
  (ck (c.2.2+1)).bind fun j=>
  iw k a0 n (e.1,e.2,j)) else(some c.2.1)
def mI(k:Nat)(a0:a8)(a1:(List (List Int))):Option ((List Int)×Int):=
 (bF k a0 a1).bind fun r2=>
 if¬(r2=0) then(some ([],r2)) else((cV k a1).bind fun r4=>
 (dT (0≤(a0.2.1.length:Int)∧bV (Int.toNat (a0.2.1.length:Int)))).bind fun _=>
 ((iw k a0 k (r4,List.replicate (Int.toNat (a0.2.1.length:Int)) 0,0)):Option ((List Int))).bind fun x8=>
 some (x8,0))
theorem wI(k:Nat)(a0:a8)(a1:(List (List Int)))(r:(List Int)×Int)(h:mI k a0 a1=some r):
 bX Tryz.prog 65 [.rep aF a0,.rep (.slice (.slice (.int .i64))) a1] [.inv 0 (fH)] (fun _:Unit=>(bp [Ri r.1,I r.2],[.inv 0 (fH)])):=by
 unfold mI at h
 replace h:=be h
 refine bX.of 58 Tryz.func65 rfl Tryz.ntmps65 rfl fun S w0=>?_
 refine sr ?_
 refine bx fun b1=>?_
 refine cq ?_
 refine cq ?_
 refine nt ?_
 refine ae ?_
 refine sr ?_
 refine lo fV ?_
 refine mq ?_
 obtain⟨r2,Ry,h⟩:=aa h
 have Rz:=co k a0 a1 r2 Ry
 refine fr 1 ?_
 refine kb (ak [.tmp 14,.tmp 15] rfl rfl A9 rfl Rz) ?_
 refine aq ?_
 refine nt ?_
 refine sr ?_
 refine mq ?_
 refine jb (eZ rfl) ?_
 refine nt ?_
 refine cn h (fun h=>?_) (fun h=>?_)
 ·
  refine sr (mq ?_);refine cq ?_;refine aq (nt (rx ?_));refine bv (kD (t:=(.slice (.int .i64))) (x:=[]) 4 rfl .nil rfl rfl) ?_;cases h;exact aD () [_,_] 1 ⟨rfl,rfl,trivial⟩ rfl
 ·
  refine sk (sr (fr 1 ?_));refine lo fV ?_;refine aE rfl rfl rfl (ak [.tmp 20] rfl rfl DZ rfl (eX a0)) ⟨rfl,trivial⟩ fun z3=>?_;refine cJ (ji (bi k a0) jK) ?_;refine mq ?_;obtain⟨r4,Rx,h⟩:=aa h;refine ja (ak [.tmp 22] rfl rfl zq rfl (dq k a1 r4 Rx)) ?_;refine aE rfl rfl rfl (bJ rfl lg lK) trivial fun b5=>?_;refine aq ?_;refine bf rfl rfl (a9 rfl cF rfl rfl rfl) ⟨rfl,rfl,trivial⟩ ?_;refine nt (sr (fl dB ?_));refine fr 2 ?_;refine lo jA ?_;refine ol qy ?_;obtain⟨u6,ac,h⟩:=aa h;refine aE rfl rfl rfl (wS (t:=(.int .i64)) (d:=0) rfl eF Q3 (aC ac).1 (aC ac).2) ⟨rfl,rfl,trivial⟩ fun v7=>?_;refine aq (nt ?_);refine aP (Z:=Unit) (α:=(List Int)) (fun z9 x8=>[(9,.eq v7)]) (fun z9 x8=>[.sl v7 3 (.int .i64) x8,.inv 0 (fH),.inv z3 (bi k a0)]) h (fun K h=>?_) (fun z9 x8 h=>?_)
  ·refine sr (fl jP ?_);refine fr 1 ?_;refine lo cu ?_;refine dQ rfl ?_;refine nt (aj (aG (fun Q c=>[(7,.at au (a0,(.map (some z3)))),(8,Pt b5),(9,.eq v7),(29,I a0.1),(30,I c.2.2)]) (fun Q c=>[.obj b5 107 (.rep (.arr 3 (.arr 5 (.int .i64))) c.1),.sl v7 3 (.int .i64) c.2.1,.inv 0 (fH),.inv z3 (bi k a0)]) (iw k a0) k () (r4,List.replicate (Int.toNat (a0.2.1.length:Int)) 0,0) (fun _=>rfl) h (SE.fin [2,1,4,3] ⟨rfl,rfl,rfl,rfl,rfl,trivial⟩ rfl) (fun n Q c h=>?_)));unfold iw at h;refine sr (jb (bq rfl) ?_);refine nt (ae (ci h (fun h=>?_) (fun h=>?_)))
   ·refine sk (aP (Z:=Unit) (α:=(List (List Int))×(List Int)) (fun O l=>[(7,.at au (a0,(.map (some z3)))),(8,Pt b5),(9,.eq v7),(29,I a0.1),(30,I c.2.2)]) (fun O l=>[.obj b5 107 (.rep (.arr 3 (.arr 5 (.int .i64))) l.1),.sl v7 3 (.int .i64) l.2,.inv 0 (fH),.inv z3 (bi k a0)]) h (fun K h=>?_) (fun O l h=>?_))
    ·refine aj (sr (mq ?_));refine aq (nt (sr ?_));refine mq ?_;refine lo cF ?_;refine mq ?_;obtain⟨j,pp,h⟩:=aa h;refine jc (dh (N:=[(.tmp 34,.at au (a0,(.map (some z3)))),(.tmp 35,.rep (.arr 3 (.arr 5 (.int .i64))) c.1),(.tmp 36,I c.2.2)]) (ak [.tmp 34,.tmp 35,.tmp 36] rfl rfl LP rfl (kz k (a0,()) c.1 c.2.2 j pp)) fun _ _ _ hn=>⟨(nz hn.1),hn.2.1,hn.2.2.1,trivial⟩) ?_;refine mq ?_;refine xr ?_;refine xr ?_;refine aE rfl rfl rfl (bJ rfl lg lK) trivial fun s=>?_;refine aq ?_;refine bf rfl rfl (a9 rfl cF rfl rfl rfl) ⟨rfl,rfl,trivial⟩ ?_;refine nt (aP (Z:=Unit) (α:=(List Int)) (fun M y=>[(7,.at au (a0,(.map (some z3)))),(8,Pt b5),(9,.eq v7),(12,Pt s),(29,I a0.1),(30,I c.2.2)]) (fun M y=>[.obj b5 107 (.rep (.arr 3 (.arr 5 (.int .i64))) c.1),.sl v7 3 (.int .i64) y,.obj s 107 (.rep (.arr 3 (.arr 5 (.int .i64))) j.2),.inv 0 (fH),.inv z3 (bi k a0)]) h (fun K h=>?_) (fun M y h=>?_))
     ·refine sr (mq ?_);refine fr 2 ?_;refine ka (c9 rfl rfl dE) ?_;refine dQ rfl ?_;refine nt (aj (aG (fun J e=>[(7,.at au (a0,(.map (some z3)))),(8,Pt b5),(9,.eq v7),(11,.eq (.int .u8 j.1)),(12,Pt s),(29,I a0.1),(30,I c.2.2),(41,I (c.2.1.length:Int)),(42,I e.2)]) (fun J e=>[.obj b5 107 (.rep (.arr 3 (.arr 5 (.int .i64))) c.1),.sl v7 3 (.int .i64) e.1,.obj s 107 (.rep (.arr 3 (.arr 5 (.int .i64))) j.2),.inv 0 (fH),.inv z3 (bi k a0)]) (gC k c j) k () (c.2.1,0) (fun _=>rfl) h (SE.fin [2,0,1,3,4] ⟨rfl,rfl,rfl,rfl,rfl,rfl,rfl,rfl,rfl,trivial⟩ rfl) (fun n J e h=>?_)));unfold gC at h;refine sr (jb (bq rfl) ?_);refine nt (ae (ci h (fun h=>?_) (fun h=>?_)))
      ·refine sk (aP (Z:=Unit) (α:=(List Int)) (fun F u=>[(7,.at au (a0,(.map (some z3)))),(8,Pt b5),(9,.eq v7),(11,.eq (.int .u8 j.1)),(12,Pt s),(29,I a0.1),(30,I c.2.2),(41,I (c.2.1.length:Int)),(42,I e.2)]) (fun F u=>[.obj b5 107 (.rep (.arr 3 (.arr 5 (.int .i64))) c.1),.sl v7 3 (.int .i64) u,.obj s 107 (.rep (.arr 3 (.arr 5 (.int .i64))) j.2),.inv 0 (fH),.inv z3 (bi k a0)]) h (fun K h=>?_) (fun F u h=>?_))
       ·refine aj (sr (mq ?_));refine aq (nt (sr ?_));iterate 2 refine mq ?_
        obtain⟨Rw,mc,h⟩:=aa h;refine jb (ak [.tmp 45,.tmp 46] rfl rfl G1 rfl (f5 k j.1 e.2 Rw mc)) ?_;refine nt (cv h (fun h=>?_) (fun h=>?_))
        ·refine ab ?_;iterate 2 refine mq ?_
         obtain⟨RB,E,h⟩:=aa h;refine fr 1 ?_;refine kb (bh (t:=(.int .i64)) rfl dE cu E) ?_;refine ka (fq (i:=Int.toNat e.2) (off:=0) rfl cu (fun _=>rfl) rfl (cQ E).2.2 rfl) ?_;obtain⟨Ru,Y,h⟩:=aa h;refine jb (ba rfl Y) ?_;obtain⟨RA,D,h⟩:=aa h;refine kb (bh (t:=(.int .i64)) rfl dE cu D) ?_;refine bf rfl rfl (c6 (i:=Int.toNat e.2) rfl cu rfl (ix D) rfl .int rfl) ⟨rfl,rfl,trivial⟩ ?_;refine ar (bn ?_);exact jz ((),List.set e.1 (Int.toNat e.2) Ru) h [1,0,2,3,4]
        ·refine aS (bn ?_);exact jz ((),e.1) h [0,1,2,3,4]
       ·refine ab ?_;obtain⟨se,X,h⟩:=aa h;refine jb (ba rfl X) ?_;refine mq (nl ?_);exact jz ((),(u,se)) h [0,1,2,3,4]
      ·refine xa ?_;exact jz ((),e.1) h [0,1,2,3,4]
     ·refine ab (fr 2 ?_);refine lo cF ?_;refine fr 1 ?_;refine bf rfl rfl (a9 rfl cF rfl rfl rfl) ⟨rfl,rfl,trivial⟩ ?_;refine ar (bn ?_);exact jz ((),(j.2,y)) h [0,2,3,4]
    ·refine ab ?_;obtain⟨qt,U,h⟩:=aa h;refine jb (ba rfl U) ?_;refine mq (nl ?_);exact jz ((),(l.1,l.2,qt)) h [0,1,2,3]
   ·refine xa ?_;exact jz ((),c.2.1) h [1,2,3]
  ·refine sr (mq ?_);refine aq ?_;refine cq (nt (aA ?_));refine bv (fp [4,9,57] ⟨rfl,rfl,rfl,trivial⟩) ?_;cases h;exact aD () [_,_] 1 ⟨rfl,rfl,trivial⟩ rfl
def fy(k:Nat)(a2:Int)(r5:(List (List Int))×Int):Nat→Int→Option (Except (Int×Int×Int) Unit)
 |0,_=>none
 |n+1,y8=>
  if y8 < (r5.1.length:Int) then((aZ r5.1 y8).bind fun c=>
  (g7 k c a2).bind fun e=>
  if 0≤e then((ck ((c.length:Int) - 1)).bind fun l=>
  (ck (l - e)).bind fun j=>
  some (.error (y8,j,0))) else((ck (y8+1)).bind fun h=>
  fy k a2 r5 n h)) else(some (.ok ()))
def mH(k:Nat)(a0:a8)(a1:(List (List Int)))(a2:Int)(a3:Int):Option (Int×Int×Int):=
 (bF k a0 a1).bind fun r2=>
 if¬(r2=0) then(some (0,0,r2)) else((ck ((a0.2.1.length:Int) - 1)).bind fun x3=>
 (dp k a2 0 x3).bind fun r4=>
 if¬(r4=true) then(some (0,0,3)) else((kW k a0 a1 a3).bind fun r5=>
 if¬(r5.2=0) then(some (0,0,r5.2)) else(bE (α:=Unit) (fy k a2 r5 k 0) (some) fun _=>
 some (0,0,0))))
theorem wH(k:Nat)(a0:a8)(a1:(List (List Int)))(a2:Int)(a3:Int)(r:Int×Int×Int)(h:mH k a0 a1 a2 a3=some r):
 bX Tryz.prog 73 [.rep aF a0,.rep (.slice (.slice (.int .i64))) a1,I a2,I a3] [.inv 0 (fH)] (fun _:Unit=>(bp [I r.1,I r.2.1,I r.2.2],[.inv 0 (fH)])):=by
 unfold mH at h
 replace h:=be h
 refine bX.of 59 Tryz.func73 rfl Tryz.ntmps73 rfl fun S w0=>?_
 refine sr ?_
 refine bx fun b1=>?_
 refine cq ?_
 refine cq ?_
 refine cq ?_
 refine nt ?_
 refine ae ?_
 refine sr ?_
 refine lo fV ?_
 refine mq ?_
 obtain⟨r2,M,h⟩:=aa h
 have O:=co k a0 a1 r2 M
 refine fr 1 ?_
 refine kb (ak [.tmp 17,.tmp 18] rfl rfl A9 rfl O) ?_
 refine aq ?_
 refine nt ?_
 refine sr ?_
 refine mq ?_
 refine jb (eZ rfl) ?_
 refine nt ?_
 refine cn h (fun h=>?_) (fun h=>?_)
 ·
  refine sr (mq ?_);refine cq ?_;refine cq ?_;refine aq (nt (rx ?_));cases h;exact aD () [_,_,_] 1 ⟨rfl,rfl,rfl,trivial⟩ rfl
 ·
  refine sk (ae (sr (mq ?_)));refine fl dB ?_;refine fr 1 ?_;refine lo jA ?_;refine ol qy ?_;obtain⟨x3,E,h⟩:=aa h;refine jb (eA rfl E) ?_;obtain⟨r4,J,h⟩:=aa h;refine jc (ak [.tmp 23,.const (.int .i64 (0)),.tmp 27] rfl rfl vr rfl (dn k a2 0 x3 r4 J)) ?_;refine ja (eB rfl) ?_;refine nt (cw h (fun h=>?_) (fun h=>?_))
  ·refine sr (cq ?_);refine cq ?_;refine cq (nt (rx ?_));refine bv (SE.fin (Γ':=[(8,_),(9,_),(10,_)]) [1,0] ⟨rfl,rfl,rfl,trivial⟩ rfl) ?_;cases h;exact aD () [_,_,_] 1 ⟨rfl,rfl,rfl,trivial⟩ rfl
  ·refine sk (sr (lo fV ?_));iterate 2 refine mq ?_
   obtain⟨r5,F,h⟩:=aa h;refine fr 1 ?_;refine kc (ak [.tmp 31,.tmp 32,.tmp 33] rfl rfl OB rfl (qJ k a0 a1 a3 r5 F)) ?_;refine mq ?_;refine xr ?_;refine xr ?_;refine aq ?_;refine aq (nt (ae (sr ?_)));refine mq ?_;refine jb (eZ rfl) ?_;refine nt (cn h (fun h=>?_) (fun h=>?_))
   ·refine sr (mq ?_);refine cq ?_;refine cq ?_;refine aq (nt (rx ?_));cases h;exact aD () [_,_,_] 1 ⟨rfl,rfl,rfl,trivial⟩ rfl
   ·refine sk (du (Z:=Unit) (α:=Unit) (fun z7 x6=>[]) (fun z7 x6=>[.inv 0 (fH)]) (fun e=>e=r) h (fun e h=>Option.some.inj h) (fun K hR h=>?_) (fun z7 x6 h=>?_))
    ·refine sr (mq ?_);refine ol mf ?_;refine dQ rfl ?_;refine nt (aj (aG (fun z9 y8=>[(2,I a2),(40,.rep (.slice (.slice (.int .i64))) r5.1),(41,I (r5.1.length:Int)),(42,I y8)]) (fun z9 y8=>[.inv 0 (fH)]) (fy k a2 r5) k () 0 (fun _=>rfl) h (SE.fin [0] ⟨rfl,rfl,rfl,rfl,trivial⟩ rfl) (fun n z9 y8 h=>?_)));unfold fy at h;refine sr (jb (bq rfl) ?_);refine nt (ae (ci h (fun h=>?_) (fun h=>?_)))
     ·refine sk (ae (aj (sr (mq ?_))));obtain⟨y,s,h⟩:=aa h;refine jb (aH (t:=(.slice (.int .i64))) rfl mf cd s) ?_;refine ja (an (t:=(.slice (.int .i64))) rfl cd rfl) ?_;refine aq ?_;refine aq (nt (sr ?_));iterate 2 refine mq ?_
      obtain⟨D,u,h⟩:=aa h;refine jb (ak [.tmp 47,.tmp 48] rfl rfl Kr rfl (mL k y a2 D u)) ?_;refine aq (nt (sr ?_));refine mq ?_;refine jb (nI rfl) ?_;refine nt (ci h (fun h=>?_) (fun h=>?_))
      ·refine sr ?_;iterate 2 refine mq ?_
       refine ol dE ?_;obtain⟨U,l,h⟩:=aa h;refine jb (eA rfl l) ?_;refine mq ?_;obtain⟨Q,j,h⟩:=aa h;refine jb (eA rfl j) ?_;refine aq ?_;refine aq ?_;refine cq (nt (aA (br (aV (aK ?_)))));obtain rfl:=hR _ h;exact aD () [_,_,_] 1 ⟨rfl,rfl,rfl,trivial⟩ rfl
      ·refine aS (aL (tn (ab ?_)));obtain⟨x,c,h⟩:=aa h;refine jb (ba rfl c) ?_;refine mq (nl ?_);exact jz ((),x) h [0]
     ·refine xa ?_;exact jz ((),()) h [0]
    ·refine sr (cq ?_);refine cq ?_;refine cq (nt (aA ?_));cases h;exact aD () [_,_,_] 1 ⟨rfl,rfl,rfl,trivial⟩ rfl
def d5(k:Nat)(r3:a8×(List (List Int))×Bool×bI)(e:(List Int)×Int×(List (List Int))×Int)(c:Int):Nat→Int→Option (Except Bool Unit)
 |0,_=>none
 |n+1,h=>
  (aZ e.2.2.1 c).bind fun E=>
  if h < (E.length:Int) then((aZ e.2.2.1 c).bind fun D=>
  (aZ D h).bind fun y=>
  (mH k r3.1 r3.2.1 y e.2.2.2).bind fun j=>
  ((if¬(j.2.2=0) then(some true) else(if¬(j.1=c) then(some true) else((aZ e.2.2.1 c).bind fun u=>
  (ck ((u.length:Int) - 1)).bind fun s=>
  (ck (s - h)).bind fun r=>
  some (!decide (j.2.1=r))))):Option (Bool)).bind fun x=>
  if x=true then(some (.error false)) else((ck (h+1)).bind fun l=>
  d5 k r3 e c n l)) else(some (.ok ()))
def d6(k:Nat)(r3:a8×(List (List Int))×Bool×bI)(h:(List Int)×Int×(List (List Int))×Int):Nat→Int→Option (Except Bool Unit)
 |0,_=>none
 |n+1,c=>
  if c < (h.2.2.1.length:Int) then(bE (α:=Unit) (d5 k r3 h c k 0) (fun e=>some (.error e)) fun _=>
  (ck (c+1)).bind fun j=>
  d6 k r3 h n j) else(some (.ok ()))
def d4(k:Nat)(r3:a8×(List (List Int))×Bool×bI)(e:(List Int)×(List (List Int))×Int):Nat→((List Int)×Int)→Option (Except Bool (List Int))
 |0,_=>none
 |n+1,c=>
  if c.2 < (e.1.length:Int) then((((aZ e.1 c.2).bind fun u=>
  if u < 0 then(some true) else((aZ e.1 c.2).bind fun s=>
  some (decide ((r3.1.2.1.length:Int)≤s)))):Option (Bool)).bind fun x=>
  if x=true then(some (.error false)) else((aZ e.1 c.2).bind fun h=>
  (aZ c.1 h).bind fun r=>
  (ck (r+1)).bind fun l=>
  (aZ c.1 h).bind fun y=>
  (ck (c.2+1)).bind fun j=>
  d4 k r3 e n (List.set c.1 (Int.toNat h) l,j))) else(some (.ok c.1))
def eh(k:Nat)(r3:a8×(List (List Int))×Bool×bI):Nat→((List Int)×Int×(List (List Int))×Int)→Option (Except Bool ((List Int)×Int))
 |0,_=>none
 |n+1,c=>
  if c.2.2.2≤r3.1.1 then((kW k r3.1 r3.2.1 c.2.2.2).bind fun j=>
  ((if¬(j.2=0) then(some true) else((fP k j.1 c.2.2.1).bind fun D=>
  some (!D))):Option (Bool)).bind fun x=>
  if x=true then(some (.error false)) else(bE (α:=Unit) (d6 k r3 c k 0) (fun e=>some (.error e)) fun _=>
  if c.2.2.2=r3.1.1 then(some (.ok (c.1,c.2.1))) else((oZ k r3.1 c.2.2.1 c.2.2.2).bind fun h=>
  ((if¬(h.2.2=0) then(some true) else(if(r3.1.2.1.length:Int) < (h.1.length:Int) then(some true) else((cY k r3.1 h.2.1).bind fun y=>
  some (!decide (y=0))))):Option (Bool)).bind fun u=>
  if u=true then(some (.error false)) else(bE (α:=(List Int)) (d4 k r3 h k (c.1,0)) (fun e=>some (.error e)) fun s=>
  (ck (c.2.1+(h.1.length:Int))).bind fun r=>
  (ck (c.2.2.2+1)).bind fun l=>
  eh k r3 n (s,r,h.2.1,l))))) else(some (.ok (c.1,c.2.1)))
def kP(k:Nat)(a0:(List Int)):Option Bool:=
 (ma k a0).bind fun r1=>
 (mT k (r1.1,r1.2.1,r1.2.2) 5).bind fun r3=>
 if¬(r3.2.2.1=true) then((((bF k r3.1 r3.2.1).bind fun r7=>
 if¬(r7=0) then((jJ k).bind fun r8=>
 some r8) else(some false)):Option (Bool)).bind fun x5=>
 some x5) else((jE k r3.1 r3.2.1).bind fun r9=>
 (mI k r3.1 r3.2.1).bind fun c=>
 ((if¬(r9.2=0) then(some true) else(if¬(c.2=0) then(some true) else(some (!decide ((c.1.length:Int)=(r3.1.2.1.length:Int)))))):Option (Bool)).bind fun j=>
 if j=true then(some false) else((dT (0≤(r3.1.2.1.length:Int)∧bV (Int.toNat (r3.1.2.1.length:Int)))).bind fun _=>
 (iK k r3.2.1).bind fun r=>
 bE (α:=(List Int)×Int) (eh k r3 k (List.replicate (Int.toNat (r3.1.2.1.length:Int)) 0,0,r,0)) (some) fun e=>
 ((if r9.1=e.2 then((eI k c.1 e.1).bind fun n=>
 if n=true then((jJ k).bind fun l=>
 some l) else(some false)) else(some false)):Option (Bool)).bind fun h=>
 some h))
theorem td(k:Nat)(a0:(List Int))(r:Bool)(h:kP k a0=some r):
 dx (iL Tryz.prog) 19 [Ri a0] [.inv 0 (fH)] (fun _:Unit=>(bp [.eq (.bool r)],[.inv 0 (fH)])):=by
 unfold kP at h
 replace h:=be h
 refine dx.of 217 Tryz.func19 rfl Tryz.ntmps19 rfl fun S w0=>?_
 refine sr ?_
 refine cq ?_
 refine nt ?_
 refine sr ?_
 refine mq ?_
 obtain⟨r1,S5,h⟩:=aa h
 have S8:=ut k a0 r1 S5
 refine aE rfl rfl rfl (ak [.tmp 26] rfl rfl QR rfl S8) ⟨rfl,trivial⟩ fun b2=>?_
 obtain⟨r3,SZ,h⟩:=aa h
 have S7:=zc k (r1.1,r1.2.1,r1.2.2) b2 5 r3 SZ
 refine kb (ak [.tmp 27,.const (.int .i64 (5))] rfl rfl QM rfl S7) ?_
 refine mq ?_
 refine xr ?_
 refine xr ?_
 refine xr ?_
 refine aE rfl rfl rfl (bJ rfl xU Eb) trivial fun b4=>?_
 refine bf rfl rfl (a9 rfl fV rfl rfl rfl) ⟨rfl,rfl,trivial⟩ ?_
 refine aq ?_
 refine aq ?_
 refine nt ?_
 refine ae ?_
 refine sr ?_
 refine mq ?_
 refine ja (eB rfl) ?_
 refine nt ?_
 refine cw h (fun h=>?_) (fun h=>?_)
 ·
  refine aP (Z:=Unit) (α:=Bool) (fun z6 x5=>[(2,.eq (.bool x5))]) (fun z6 x5=>[.inv 0 (fH)]) h (fun K h=>?_) (fun z6 x5 h=>?_)
  ·refine ab (lo fV ?_);refine mq ?_;obtain⟨r7,SY,h⟩:=aa h;refine fr 2 ?_;refine kb (ak [.tmp 34,.tmp 35] rfl rfl A9 rfl (co k r3.1 r3.2.1 r7 SY)) ?_;refine jb (eZ rfl) ?_;refine mq ?_;refine bT (s:=38) rfl (fun hb=>?_) (fun hb=>?_)
   ·replace h:=cy (F8 hb) h;obtain⟨r8,SX,h⟩:=aa h;refine jU rfl rfl rfl rfl rfl rfl (fY [] rfl rfl OG rfl (pK k r8 SX)) trivial ?_;refine pt ?_;refine aq (nl ?_);exact jz ((),r8) h [0]
   ·replace h:=bM (uk hb) h;refine gn ?_;refine pf ?_;refine aq (nl ?_);exact jz ((),false) h [0]
  ·refine rx ?_;cases h;exact aD () [_] 1 ⟨rfl,trivial⟩ rfl
 ·
  refine sk (sr (lo fV ?_));refine mq ?_;obtain⟨r9,SV,h⟩:=aa h;refine fr 2 ?_;refine kb (fY [.tmp 42,.tmp 43] rfl rfl OC rfl (na k r3.1 r3.2.1 r9 SV)) ?_;refine mq ?_;refine xr ?_;refine xr ?_;refine aq ?_;refine aq (nt (sr ?_));refine fr 1 ?_;refine lo fV ?_;refine mq ?_;obtain⟨l,SH,h⟩:=aa h;refine fr 1 ?_;refine kb (ak [.tmp 48,.tmp 49] rfl rfl QH rfl (wI k r3.1 r3.2.1 l SH)) ?_;refine mq ?_;refine xr ?_;refine xr ?_;refine aq ?_;refine aq (nt (ae ?_));refine aP (Z:=Unit) (α:=Bool) (fun RH pp=>[(3,Pt b4),(4,.rep (.slice (.slice (.int .i64))) r3.2.1),(6,I r9.1),(8,Ri l.1),(66,.eq (.bool pp))]) (fun RH pp=>[.obj b4 25 (.rep aF r3.1),.inv 0 (fH)]) h (fun K h=>?_) (fun RH pp h=>?_)
  ·refine ab (mq ?_);refine jb (eZ rfl) ?_;refine mq ?_;refine bT (s:=55) rfl (fun hb=>?_) (fun hb=>?_)
   ·replace h:=cy (F8 hb) h;iterate 2 refine gn ?_
    refine pt ?_;refine mq ?_;iterate 6 refine gn ?_
    refine pt (nl ?_);exact jz ((),true) h [1,0]
   ·replace h:=bM (uk hb) h;refine gm ?_;refine gb (eZ rfl) ?_;refine pf ?_;refine mq ?_;refine bT (s:=59) rfl (fun hb=>?_) (fun hb=>?_)
    ·replace h:=cy (F8 hb) h;iterate 6 refine gn ?_
     refine pt (nl ?_);exact jz ((),true) h [1,0]
    ·replace h:=bM (uk hb) h;refine gm ?_;refine ga (jt rfl rfl dE) ?_;refine ga (aw rfl dB) ?_;refine fr 1 ?_;refine jU rfl rfl rfl rfl rfl rfl (ao rfl jA mA rfl) ⟨rfl,trivial⟩ ?_;refine ga (jt rfl rfl qy) ?_;refine gb (eZ rfl) ?_;refine pf (nl ?_);exact jz ((), !decide ((l.1.length:Int)=(r3.1.2.1.length:Int))) h [0,1]
  ·refine cv h (fun h=>?_) (fun h=>?_)
   ·refine sr (cq (nt (rx ?_)));refine bv (SE.fin (Γ':=[(2,_)]) [1,0] ⟨rfl,trivial⟩ rfl) ?_;cases h;exact aD () [_] 1 ⟨rfl,trivial⟩ rfl
   ·refine sk (sr (fl dB ?_));refine lo jA ?_;refine ol qy ?_;obtain⟨To,O,h⟩:=aa h;refine aE rfl rfl rfl (wS (t:=(.int .i64)) (d:=0) rfl eF Q3 (aC O).1 (aC O).2) ⟨rfl,rfl,trivial⟩ fun j=>?_;refine aq (nt (sr ?_));refine mq ?_;obtain⟨RR,SG,h⟩:=aa h;refine aE rfl rfl rfl (ak [.tmp 71] rfl rfl QQ rfl (sx k r3.2.1 RR SG)) ⟨rfl,trivial⟩ fun Tn=>?_;refine cq ?_;refine aq (nt ?_);refine du (Z:=Unit) (α:=(List Int)×Int) (fun RG D=>[(6,I r9.1),(8,Ri l.1),(10,.eq j),(11,I D.2)]) (fun RG D=>[.sl j 3 (.int .i64) D.1,.inv 0 (fH)]) (fun e=>e=r) h (fun e h=>Option.some.inj h) (fun K hR h=>?_) (fun RG D h=>?_)
    ·refine sr (cq (nt (aj ?_)));refine fU (fp [12,72] ⟨rfl,rfl,trivial⟩) ?_;refine aG (fun RF c=>[(3,Pt b4),(4,.rep (.slice (.slice (.int .i64))) r3.2.1),(6,I r9.1),(8,Ri l.1),(10,.eq j),(11,I c.2.1),(12,.rep (.slice (.slice (.int .i64))) c.2.2.1),(13,I c.2.2.2)]) (fun RF c=>[.obj b4 25 (.rep aF r3.1),.sl j 3 (.int .i64) c.1,.inv 0 (fH)]) (eh k r3) k () (List.replicate (Int.toNat (r3.1.2.1.length:Int)) 0,0,RR,0) (fun _=>rfl) h (SE.fin [1,0,2] ⟨rfl,rfl,rfl,rfl,rfl,rfl,rfl,rfl,trivial⟩ rfl) (fun n RF c h=>?_);unfold eh at h;refine ae (sr (mq ?_));refine fl jP ?_;refine lo cu ?_;refine jb (sS rfl) ?_;refine nt (ci h (fun h=>?_) (fun h=>?_))
     ·refine sk (ae (aj (sr (lo fV ?_))));iterate 2 refine mq ?_
      obtain⟨RQ,SD,h⟩:=aa h;refine fr 2 ?_;refine kc (ak [.tmp 80,.tmp 81,.tmp 82] rfl rfl OB rfl (qJ k r3.1 r3.2.1 c.2.2.2 RQ SD)) ?_;refine mq ?_;refine xr ?_;refine xr ?_;refine aq ?_;refine aq (nt (ae ?_));refine aP (Z:=Unit) (α:=Bool) (fun RE mc=>[(3,Pt b4),(4,.rep (.slice (.slice (.int .i64))) r3.2.1),(6,I r9.1),(8,Ri l.1),(10,.eq j),(11,I c.2.1),(12,.rep (.slice (.slice (.int .i64))) c.2.2.1),(13,I c.2.2.2),(93,.eq (.bool mc))]) (fun RE mc=>[.obj b4 25 (.rep aF r3.1),.sl j 3 (.int .i64) c.1,.inv 0 (fH)]) h (fun K h=>?_) (fun RE mc h=>?_)
      ·refine ab (mq ?_);refine jb (eZ rfl) ?_;refine mq ?_;refine bT (s:=88) rfl (fun hb=>?_) (fun hb=>?_)
       ·replace h:=cy (F8 hb) h;iterate 4 refine gn ?_
        refine pt (nl ?_);exact jz ((),true) h [1,2,0]
       ·replace h:=bM (uk hb) h;refine gm ?_;refine gm ?_;obtain⟨RP,SC,h⟩:=aa h;refine gb (ak [.tmp 89,.tmp 90] rfl rfl LR rfl (jM k RQ.1 c.2.2.1 RP SC)) ?_;refine ga (eB rfl) ?_;refine pf (nl ?_);exact jz ((), !RP) h [1,2,0]
      ·refine cv h (fun h=>?_) (fun h=>?_)
       ·refine sr (cq (nt (rx (br (aV (aK ?_))))));refine bv (SE.fin (Γ':=[(2,_)]) [2,0,1] ⟨rfl,trivial⟩ rfl) ?_;obtain rfl:=hR _ h;exact aD () [_] 1 ⟨rfl,trivial⟩ rfl
       ·refine sk (du (Z:=Unit) (α:=Unit) (fun RD RJ=>[(3,Pt b4),(4,.rep (.slice (.slice (.int .i64))) r3.2.1),(6,I r9.1),(8,Ri l.1),(10,.eq j),(11,I c.2.1),(12,.rep (.slice (.slice (.int .i64))) c.2.2.1),(13,I c.2.2.2)]) (fun RD RJ=>[.obj b4 25 (.rep aF r3.1),.sl j 3 (.int .i64) c.1,.inv 0 (fH)]) (fun e=>e=r) h (fun e h=>hR e h) (fun K hR h=>?_) (fun RD RJ h=>?_))
        ·refine sr (cq (nt (aj ?_)));refine aG (fun RB y=>[(3,Pt b4),(4,.rep (.slice (.slice (.int .i64))) r3.2.1),(6,I r9.1),(8,Ri l.1),(10,.eq j),(11,I c.2.1),(12,.rep (.slice (.slice (.int .i64))) c.2.2.1),(13,I c.2.2.2),(16,I y)]) (fun RB y=>[.obj b4 25 (.rep aF r3.1),.sl j 3 (.int .i64) c.1,.inv 0 (fH)]) (d6 k r3 c) k () 0 (fun _=>rfl) h (SE.fin [0,1,2] ⟨rfl,rfl,rfl,rfl,rfl,rfl,rfl,rfl,rfl,trivial⟩ rfl) (fun n RB y h=>?_);unfold d6 at h;refine ae (sr ?_);iterate 2 refine mq ?_
         refine ol mf ?_;refine jb (bq rfl) ?_;refine nt (ci h (fun h=>?_) (fun h=>?_))
         ·refine sk (du (Z:=Unit) (α:=Unit) (fun RA RI=>[(3,Pt b4),(4,.rep (.slice (.slice (.int .i64))) r3.2.1),(6,I r9.1),(8,Ri l.1),(10,.eq j),(11,I c.2.1),(12,.rep (.slice (.slice (.int .i64))) c.2.2.1),(13,I c.2.2.2),(16,I y)]) (fun RA RI=>[.obj b4 25 (.rep aF r3.1),.sl j 3 (.int .i64) c.1,.inv 0 (fH)]) (fun e=>e=r) h (fun e h=>hR e h) (fun K hR h=>?_) (fun RA RI h=>?_))
          ·refine aj (sr (cq (nt (aj ?_))));refine aG (fun Rz E=>[(3,Pt b4),(4,.rep (.slice (.slice (.int .i64))) r3.2.1),(6,I r9.1),(8,Ri l.1),(10,.eq j),(11,I c.2.1),(12,.rep (.slice (.slice (.int .i64))) c.2.2.1),(13,I c.2.2.2),(16,I y),(17,I E)]) (fun Rz E=>[.obj b4 25 (.rep aF r3.1),.sl j 3 (.int .i64) c.1,.inv 0 (fH)]) (d5 k r3 c y) k () 0 (fun _=>rfl) h (SE.fin [0,1,2] ⟨rfl,rfl,rfl,rfl,rfl,rfl,rfl,rfl,rfl,rfl,trivial⟩ rfl) (fun n Rz E h=>?_);unfold d5 at h;refine ae (sr ?_);iterate 3 refine mq ?_
           obtain⟨Tm,Ss,h⟩:=aa h;refine jb (aH (t:=(.slice (.int .i64))) rfl mf cd Ss) ?_;refine ja (an (t:=(.slice (.int .i64))) rfl cd rfl) ?_;refine ol dE ?_;refine jb (bq rfl) ?_;refine nt (ci h (fun h=>?_) (fun h=>?_))
           ·refine sk (ae (aj (ae (cm ?_))));refine ea 0 (ao rfl fV (vL) rfl) ?_;refine dm ?_;refine dm ?_;refine dm ?_;obtain⟨Tj,Sr,h⟩:=aa h;refine db (aH (t:=(.slice (.int .i64))) rfl mf cd Sr) ?_;refine da (an (t:=(.slice (.int .i64))) rfl cd rfl) ?_;refine dm ?_;obtain⟨SS,Sm,h⟩:=aa h;refine db (aH (t:=(.int .i64)) rfl dE cu Sm) ?_;refine da (an (t:=(.int .i64)) rfl cu rfl) ?_;refine dm ?_;obtain⟨RO,SB,h⟩:=aa h;refine my 2 rfl rfl rfl rfl (ak [.tmp 110,.tmp 111,.tmp 118,.tmp 119] rfl rfl QF rfl (wH k r3.1 r3.2.1 SS c.2.2.2 RO SB)) ⟨rfl,rfl,rfl,rfl,trivial⟩ ?_;refine dm ?_;refine da (eS rfl rfl) ?_;refine da (eS rfl rfl) ?_;refine da (eS rfl rfl) ?_;refine da (f8 rfl) ?_;refine da (f8 rfl) ?_;refine df eM ?_;refine aq (nt ?_);refine aP (Z:=Unit) (α:=Bool) (fun Ry ac=>[(3,Pt b4),(4,.rep (.slice (.slice (.int .i64))) r3.2.1),(6,I r9.1),(8,Ri l.1),(10,.eq j),(11,I c.2.1),(12,.rep (.slice (.slice (.int .i64))) c.2.2.1),(13,I c.2.2.2),(16,I y),(17,I E),(142,.eq (.bool ac))]) (fun Ry ac=>[.obj b4 25 (.rep aF r3.1),.sl j 3 (.int .i64) c.1,.inv 0 (fH)]) h (fun K h=>?_) (fun Ry ac h=>?_)
            ·refine ab (mq ?_);refine jb (eZ rfl) ?_;refine mq ?_;refine bT (s:=126) rfl (fun hb=>?_) (fun hb=>?_)
             ·replace h:=cy (F8 hb) h;iterate 3 refine gn ?_
              refine pt ?_;refine mq ?_;iterate 10 refine gn ?_
              refine pt (nl ?_);exact jz ((),true) h [0,1,2]
             ·replace h:=bM (uk hb) h;refine gm ?_;refine gm ?_;refine gb (eZ rfl) ?_;refine pf ?_;refine mq ?_;refine bT (s:=131) rfl (fun hb=>?_) (fun hb=>?_)
              ·replace h:=cy (F8 hb) h;iterate 10 refine gn ?_
               refine pt (nl ?_);exact jz ((),true) h [0,1,2]
              ·replace h:=bM (uk hb) h;refine gm ?_;refine gm ?_;refine gm ?_;obtain⟨Ti,Sl,h⟩:=aa h;refine gb (aH (t:=(.slice (.int .i64))) rfl mf cd Sl) ?_;refine ga (an (t:=(.slice (.int .i64))) rfl cd rfl) ?_;refine ga (jt rfl rfl dE) ?_;obtain⟨Tf,Sj,h⟩:=aa h;refine gb (eA rfl Sj) ?_;refine gm ?_;obtain⟨SR,Si,h⟩:=aa h;refine gb (eA rfl Si) ?_;refine gb (eZ rfl) ?_;refine pf (nl ?_);exact jz ((), !decide (RO.2.1=SR)) h [0,1,2]
            ·refine cv h (fun h=>?_) (fun h=>?_)
             ·refine sr (cq (nt (aA (br (aV (br (aV (aK (br (aV (aK ?_)))))))))));refine bv (SE.fin (Γ':=[(2,_)]) [2,0,1] ⟨rfl,trivial⟩ rfl) ?_;obtain rfl:=hR _ h;exact aD () [_] 1 ⟨rfl,trivial⟩ rfl
             ·refine aS (aL (tn (ab (mq ?_))));obtain⟨SQ,R9,h⟩:=aa h;refine jb (ba rfl R9) ?_;refine aq (nl ?_);exact jz ((),SQ) h [0,1,2]
           ·refine dt (aM (aM (bO (bn ?_))));exact jz ((),()) h [0,1,2]
          ·refine ab (mq ?_);obtain⟨SO,R7,h⟩:=aa h;refine jb (ba rfl R7) ?_;refine aq (nl ?_);exact jz ((),SO) h [0,1,2]
         ·refine xa ?_;exact jz ((),()) h [0,1,2]
        ·refine ae (sr (mq ?_));refine fl jP ?_;refine lo cu ?_;refine jb (fj rfl) ?_;refine nt (ci h (fun h=>?_) (fun h=>?_))
         ·refine dt (aM (sZ (eq_false (by decide)) ?_));refine aM (aM (bO (ag ?_)));exact jz ((),(c.1,c.2.1)) h [1,2]
         ·refine sk (sr (lo fV ?_));iterate 2 refine mq ?_
          obtain⟨u,SA,h⟩:=aa h;refine fr 2 ?_;refine kc (ak [.tmp 148,.tmp 149,.tmp 150] rfl rfl OF rfl (tK k r3.1 c.2.2.1 c.2.2.2 u SA)) ?_;refine mq ?_;refine xr ?_;refine xr ?_;refine xr ?_;refine aq ?_;refine aq ?_;refine aq (nt (ae ?_));refine aP (Z:=Unit) (α:=Bool) (fun Rx Y=>[(3,Pt b4),(4,.rep (.slice (.slice (.int .i64))) r3.2.1),(6,I r9.1),(8,Ri l.1),(10,.eq j),(11,I c.2.1),(13,I c.2.2.2),(21,Ri u.1),(22,.rep (.slice (.slice (.int .i64))) u.2.1),(170,.eq (.bool Y))]) (fun Rx Y=>[.obj b4 25 (.rep aF r3.1),.sl j 3 (.int .i64) c.1,.inv 0 (fH)]) h (fun K h=>?_) (fun Rx Y h=>?_)
          ·refine ab (mq ?_);refine jb (eZ rfl) ?_;refine mq ?_;refine bT (s:=157) rfl (fun hb=>?_) (fun hb=>?_)
           ·replace h:=cy (F8 hb) h;iterate 6 refine gn ?_
            refine pt ?_;refine mq ?_;iterate 4 refine gn ?_
            refine pt (nl ?_);exact jz ((),true) h [1,2,0]
           ·replace h:=bM (uk hb) h;refine gm ?_;refine ga (jt rfl rfl dE) ?_;refine ga (aw rfl dB) ?_;refine fr 1 ?_;refine jU rfl rfl rfl rfl rfl rfl (ao rfl jA mA rfl) ⟨rfl,trivial⟩ ?_;refine ga (jt rfl rfl qy) ?_;refine gb (jC rfl) ?_;refine pf ?_;refine mq ?_;refine bT (s:=165) rfl (fun hb=>?_) (fun hb=>?_)
            ·replace h:=cy (nS hb) h;iterate 4 refine gn ?_
             refine pt (nl ?_);exact jz ((),true) h [0,2,1]
            ·replace h:=bM (nv hb) h;refine jU rfl rfl rfl rfl rfl rfl (ao rfl fV (vL) rfl) ⟨rfl,trivial⟩ ?_;refine gm ?_;obtain⟨RN,Sz,h⟩:=aa h;refine gb (ak [.tmp 166,.tmp 167] rfl rfl OD rfl (kG k r3.1 u.2.1 RN Sz)) ?_;refine gb (eZ rfl) ?_;refine pf (nl ?_);exact jz ((), !decide (RN=0)) h [0,2,1]
          ·refine cv h (fun h=>?_) (fun h=>?_)
           ·refine sr (cq (nt (rx (br (aV (aK ?_))))));refine bv (SE.fin (Γ':=[(2,_)]) [2,0,1] ⟨rfl,trivial⟩ rfl) ?_;obtain rfl:=hR _ h;exact aD () [_] 1 ⟨rfl,trivial⟩ rfl
           ·refine sk (du (Z:=Unit) (α:=(List Int)) (fun Rw F=>[(3,Pt b4),(4,.rep (.slice (.slice (.int .i64))) r3.2.1),(6,I r9.1),(8,Ri l.1),(10,.eq j),(11,I c.2.1),(13,I c.2.2.2),(21,Ri u.1),(22,.rep (.slice (.slice (.int .i64))) u.2.1)]) (fun Rw F=>[.obj b4 25 (.rep aF r3.1),.sl j 3 (.int .i64) F,.inv 0 (fH)]) (fun e=>e=r) h (fun e h=>hR e h) (fun K hR h=>?_) (fun Rw F h=>?_))
            ·refine sr (cq (nt (aj ?_)));refine aG (fun Ru x=>[(3,Pt b4),(4,.rep (.slice (.slice (.int .i64))) r3.2.1),(6,I r9.1),(8,Ri l.1),(10,.eq j),(11,I c.2.1),(13,I c.2.2.2),(21,Ri u.1),(22,.rep (.slice (.slice (.int .i64))) u.2.1),(24,I x.2)]) (fun Ru x=>[.obj b4 25 (.rep aF r3.1),.sl j 3 (.int .i64) x.1,.inv 0 (fH)]) (d4 k r3 u) k () (c.1,0) (fun _=>rfl) h (SE.fin [0,1,2] ⟨rfl,rfl,rfl,rfl,rfl,rfl,rfl,rfl,rfl,rfl,trivial⟩ rfl) (fun n Ru x h=>?_);unfold d4 at h;refine ae (sr ?_);iterate 2 refine mq ?_
             refine ol dE ?_;refine jb (bq rfl) ?_;refine nt (ci h (fun h=>?_) (fun h=>?_))
             ·refine sk (ae (aj (ae (aP (Z:=Unit) (α:=Bool) (fun se X=>[(3,Pt b4),(4,.rep (.slice (.slice (.int .i64))) r3.2.1),(6,I r9.1),(8,Ri l.1),(10,.eq j),(11,I c.2.1),(13,I c.2.2.2),(21,Ri u.1),(22,.rep (.slice (.slice (.int .i64))) u.2.1),(24,I x.2),(191,.eq (.bool X))]) (fun se X=>[.obj b4 25 (.rep aF r3.1),.sl j 3 (.int .i64) x.1,.inv 0 (fH)]) h (fun K h=>?_) (fun se X h=>?_)))))
              ·refine cm ?_;refine dm ?_;refine dm ?_;obtain⟨Td,R2,h⟩:=aa h;refine db (aH (t:=(.int .i64)) rfl dE cu R2) ?_;refine da (an (t:=(.int .i64)) rfl cu rfl) ?_;refine db (bq rfl) ?_;refine rH rfl rfl rfl (aR rfl) ⟨rfl,trivial⟩ (fun hb=>?_) (fun hb=>?_)
               ·replace h:=cy (nS hb) h;iterate 7 refine dg ?_
                refine df eM ?_;refine gn ?_;refine pt (nl ?_);exact jz ((),true) h [0,1,2]
               ·replace h:=bM (nv hb) h;refine bQ rfl rfl rfl rfl rfl (aR rfl) ⟨rfl,rfl,trivial⟩ ?_;refine bQ rfl rfl rfl rfl rfl (aR rfl) ⟨rfl,rfl,trivial⟩ ?_;obtain⟨SN,RZ,h⟩:=aa h;refine bQ rfl rfl rfl rfl rfl (aH (t:=(.int .i64)) rfl dE cu RZ) ⟨rfl,rfl,rfl,trivial⟩ ?_;refine bQ rfl rfl rfl rfl rfl (an (t:=(.int .i64)) rfl cu rfl) ⟨rfl,rfl,trivial⟩ ?_;refine bQ rfl rfl rfl rfl rfl (aw rfl dB) ⟨rfl,rfl,trivial⟩ ?_;refine kS 0 rfl rfl rfl rfl rfl rfl (ao rfl jA mA rfl) ⟨rfl,rfl,trivial⟩ ?_;refine bQ rfl rfl rfl rfl rfl (jt rfl rfl qy) ⟨rfl,rfl,trivial⟩ ?_;refine df eM ?_;refine gb (nI rfl) ?_;refine pf (nl ?_);exact jz ((),decide ((r3.1.2.1.length:Int)≤SN)) h [0,1,2]
              ·refine cv h (fun h=>?_) (fun h=>?_)
               ·refine sr (cq (nt (rx (br (aV (aK (br (aV (aK ?_)))))))));refine bv (SE.fin (Γ':=[(2,_)]) [2,0,1] ⟨rfl,trivial⟩ rfl) ?_;obtain rfl:=hR _ h;exact aD () [_] 1 ⟨rfl,trivial⟩ rfl
               ·refine sk (ab ?_);iterate 3 refine mq ?_
                obtain⟨U,RY,h⟩:=aa h;refine jb (aH (t:=(.int .i64)) rfl dE cu RY) ?_;refine ja (an (t:=(.int .i64)) rfl cu rfl) ?_;obtain⟨Ta,M,h⟩:=aa h;refine fr 1 ?_;refine kb (bh (t:=(.int .i64)) rfl dE cu M) ?_;refine ka (fq (i:=Int.toNat U) (off:=0) rfl cu (fun _=>rfl) rfl (cQ M).2.2 rfl) ?_;obtain⟨SL,RX,h⟩:=aa h;refine jb (ba rfl RX) ?_;obtain⟨S9,J,h⟩:=aa h;refine kb (bh (t:=(.int .i64)) rfl dE cu J) ?_;refine bf rfl rfl (c6 (i:=Int.toNat U) rfl cu rfl (ix J) rfl .int rfl) ⟨rfl,rfl,trivial⟩ ?_;refine ar (aL (tn (ab (mq ?_))));obtain⟨SK,RV,h⟩:=aa h;refine jb (ba rfl RV) ?_;refine aq (nl ?_);exact jz ((),(List.set x.1 (Int.toNat U) SL,SK)) h [1,0,2]
             ·refine xa ?_;exact jz ((),x.1) h [0,1,2]
            ·refine ab ?_;iterate 2 refine mq ?_
             refine ol dE ?_;obtain⟨SJ,RU,h⟩:=aa h;refine jb (ba rfl RU) ?_;refine mq ?_;refine aq ?_;refine aq (ar (aL (tn (ab ?_))));refine mq ?_;obtain⟨SI,RS,h⟩:=aa h;refine jb (ba rfl RS) ?_;refine aq (nl ?_);exact jz ((),(F,SJ,u.2.1,SI)) h [0,1,2]
     ·refine xa ?_;exact jz ((),(c.1,c.2.1)) h [1,2]
    ·refine aP (Z:=Unit) (α:=Bool) (fun qt Q=>[(2,.eq (.bool Q))]) (fun qt Q=>[.inv 0 (fH)]) h (fun K h=>?_) (fun qt Q h=>?_)
     ·refine ab ?_;iterate 2 refine mq ?_
      refine jb (fj rfl) ?_;refine mq ?_;refine bT (s:=209) rfl (fun hb=>?_) (fun hb=>?_)
      ·replace h:=cy (nS hb) h;refine gm ?_;refine gm ?_;refine cJ (fp [10,211] ⟨rfl,rfl,trivial⟩) ?_;obtain⟨SU,Sv,h⟩:=aa h;refine gb (ak [.tmp 210,.tmp 211] rfl rfl Jc rfl (iU k l.1 D.1 SU Sv)) ?_;refine pt ?_;refine mq ?_;refine bT (s:=214) rfl (fun hb=>?_) (fun hb=>?_)
       ·replace h:=cy (Eu hb) h;obtain⟨RL,Su,h⟩:=aa h;refine jU rfl rfl rfl rfl rfl rfl (fY [] rfl rfl OG rfl (pK k RL Su)) trivial ?_;refine pt ?_;refine aq (nl ?_);exact jz ((),RL) h [0]
       ·replace h:=bM (Ew hb) h;refine gn ?_;refine pf ?_;refine aq (nl ?_);exact jz ((),false) h [0]
      ·replace h:=bM (nv hb) h;iterate 3 refine gn ?_
       refine pf ?_;refine mq ?_;refine gn ?_;refine pf ?_;refine aq (nl ?_);exact jz ((),false) h [1]
     ·refine aA ?_;cases h;exact aD () [_] 1 ⟨rfl,trivial⟩ rfl
end Go.Proofs.YtcnpijmfgfnpiaaGreatDoor
