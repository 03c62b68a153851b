import Derived.Test.YtcnpijmfgfnpiaaGreatDoorXKB11
import Derived.Test.YtcnpijmfgfnpiaaGreatDoorXKB9
import Derived.Test.YtcnpijmfgfnpiaaGreatDoorXKB10
import Derived.Test.YtcnpijmfgfnpiaaGreatDoorXKB5
import Derived.Test.YtcnpijmfgfnpiaaGreatDoorXKB6
set_option linter.unusedSimpArgs false
set_option linter.unusedVariables false
set_option maxRecDepth 4000
set_option maxHeartbeats 1000000
namespace Go.Proofs.YtcnpijmfgfnpiaaGreatDoor
open K Go Go.Proofs
def bV(k:Nat)(a0:bC)(a1:(List (List Int))):Option Int:=
 (eQ k a0).bind fun r2=>
 if¬(r2=0) then(some r2) else((na k a0 a1).bind fun r4=>
 (K2 r4).bind fun q5=>
 if q5.isSome=true then(some (q5.getD 0)) else(some 0))
theorem bS(k:Nat)(a0:bC)(a1:(List (List Int)))(r:Int)(h:bV k a0 a1=some r):
 cy Tryz.prog 35 [.rep aL a0,.rep (.slice (.slice (.int .i64))) a1] [.inv 0 (dP)] (fun _:Unit=>(bG [I r],[.inv 0 (dP)])):=by
 unfold bV at h
 replace h:=bq h
 refine cy.of 19 Tryz.func35 rfl Tryz.ntmps35 rfl fun S w0=>?_
 refine sr ?_
 refine bx fun b1=>?_
 refine cq ?_
 refine nt ?_
 refine ag ?_
 refine sr ?_
 refine lo fB ?_
 obtain⟨r2,e,h⟩:=aa h
 have l:=dI k a0 r2 e
 refine ja (aj [.tmp 7] rfl rfl uT rfl l) ?_
 refine aq ?_
 refine nt ?_
 refine sr ?_
 refine mq ?_
 refine jb (cm rfl) ?_
 refine nt ?_
 refine cn h (fun h=>?_) (fun h=>?_)
 ·
  refine sr (mq ?_);refine aq (nt (rx ?_));refine bf (SE.fin (Γ':=[(4,_)]) [1,0] ⟨rfl,trivial⟩ rfl) ?_;cases h;exact aC () [_] 1 ⟨rfl,trivial⟩ rfl
 ·
  refine sk (sr (ay rfl rfl rfl (ba rfl rF KF) trivial fun b3=>?_));refine nt (ag (sr (fr 1 ?_)));refine lo fB ?_;refine mq ?_;obtain⟨r4,c,h⟩:=aa h;refine jb (aj [.tmp 12,.tmp 13] rfl rfl LK rfl (oJ k a0 a1 r4 c)) ?_;refine ja (BD rfl LY) ?_;obtain⟨q5,j,h⟩:=aa h;refine fr 2 ?_;refine fr 2 ?_;refine bI (Δ:=[_,_]) (F:=_) (fun _ _ _=>ar rfl _) rfl rfl (aj [.tmp 14,.tmp 15] rfl rfl JG rfl (Ky j)) ⟨rfl,rfl,trivial⟩ fun _=>?_;refine nt (cv h (fun h=>?_) (fun h=>?_))
  ·refine sr (fl E4 ?_);refine lo GL ?_;refine aq (nt (rx ?_));refine bf (SE.fin (Γ':=[(4,_)]) [1,0,2] ⟨rfl,trivial⟩ rfl) ?_;cases h;exact aC () [_] 1 ⟨rfl,trivial⟩ rfl
  ·refine sk (sr (cq (nt (aA ?_))));refine bf (SE.fin (Γ':=[(4,_)]) [1,0,2] ⟨rfl,trivial⟩ rfl) ?_;cases h;exact aC () [_] 1 ⟨rfl,trivial⟩ rfl
def lS(k:Nat)(a0:bC)(r7:Int×(List (List Int))):Nat→((List Int)×Int)→Option (List Int)
 |0,_=>none
 |n+1,c=>
  if c.2 < (a0.2.1.length:Int) then((((eA k r7.1 c.2).bind fun j=>
  if j=true then((fu (cg (List.length c.1+List.length [c.2]))).bind fun _=>
  some (c.1++[c.2])) else(some c.1)):Option ((List Int))).bind fun h=>
  (ck (c.2+1)).bind fun e=>
  lS k a0 r7 n (h,e)) else(some c.1)
def ri(k:Nat)(a0:bC)(a1:(List (List Int)))(a2:Int):Option ((List Int)×(List (List Int))×Int):=
 (bV k a0 a1).bind fun r2=>
 if¬(r2=0) then(some ([],[],r2)) else((ck (a0.1 - 1)).bind fun x3=>
 (dC k a2 0 x3).bind fun r4=>
 if¬(r4=true) then(some ([],[],3)) else((cY k a1).bind fun r6=>
 (hH k (a0,()) r6 a2).bind fun r7=>
 ((lS k a0 r7 k (([]:(List Int)),0)):Option ((List Int))).bind fun x9=>
 (dR k (a0,()) r7.2).bind fun c=>
 some (x9,c,0)))
theorem rK(k:Nat)(a0:bC)(a1:(List (List Int)))(a2:Int)(r:(List Int)×(List (List Int))×Int)(h:ri k a0 a1 a2=some r):
 cy Tryz.prog 31 [.rep aL a0,.rep (.slice (.slice (.int .i64))) a1,I a2] [.inv 0 (dP)] (fun _:Unit=>(bG [Ri r.1,.rep (.slice (.slice (.int .i64))) r.2.1,I r.2.2],[.inv 0 (dP)])):=by
 unfold ri at h
 replace h:=bq h
 refine cy.of 55 Tryz.func31 rfl Tryz.ntmps31 rfl fun S w0=>?_
 refine sr ?_
 refine bx fun b1=>?_
 refine cq ?_
 refine cq ?_
 refine cq ?_
 refine nt ?_
 refine ag ?_
 refine sr ?_
 refine lo fB ?_
 refine mq ?_
 obtain⟨r2,ac,h⟩:=aa h
 have mc:=bS k a0 a1 r2 ac
 refine fr 1 ?_
 refine kb (aj [.tmp 15,.tmp 16] rfl rfl wR rfl mc) ?_
 refine aq ?_
 refine nt ?_
 refine sr ?_
 refine mq ?_
 refine jb (cm rfl) ?_
 refine nt ?_
 refine cn h (fun h=>?_) (fun h=>?_)
 ·
  refine sr (mq ?_);refine cq ?_;refine cq ?_;refine aq (nt (rx ?_));refine bf (eW (t:=(.slice (.int .i64))) (x:=[]) 6 rfl .nil rfl rfl) ?_;refine bf (eW (t:=(.slice (.slice (.int .i64)))) (x:=[]) 7 rfl .nil rfl rfl) ?_;cases h;exact aC () [_,_,_] 1 ⟨rfl,rfl,rfl,trivial⟩ rfl
 ·
  refine sk (ag (sr (mq ?_)));refine fl mb ?_;refine fr 1 ?_;refine lo d4 ?_;obtain⟨x3,Q,h⟩:=aa h;refine jb (gl rfl Q) ?_;obtain⟨r4,Y,h⟩:=aa h;refine jc (aj [.tmp 21,.const (.int .i64 (0)),.tmp 24] rfl rfl tf rfl (cT k a2 0 x3 r4 Y)) ?_;refine ja (dA rfl) ?_;refine nt (cw h (fun h=>?_) (fun h=>?_))
  ·refine sr (cq ?_);refine cq ?_;refine cq (nt (rx ?_));refine bf (eW (t:=(.slice (.int .i64))) (x:=[]) 6 rfl .nil rfl rfl) ?_;refine bf (eW (t:=(.slice (.slice (.int .i64)))) (x:=[]) 7 rfl .nil rfl rfl) ?_;refine bf (SE.fin (Γ':=[(6,_),(7,_),(8,_)]) [1,0] ⟨rfl,rfl,rfl,trivial⟩ rfl) ?_;cases h;exact aC () [_,_,_] 1 ⟨rfl,rfl,rfl,trivial⟩ rfl
  ·refine sk (sr (lo fB ?_));refine ay rfl rfl rfl (aj [.tmp 27] rfl rfl wQ rfl (cU a0)) ⟨rfl,trivial⟩ fun z5=>?_;refine bX (fH (aQ k a0) gf) ?_;refine aq (nt (sr ?_));iterate 2 refine mq ?_
   obtain⟨r6,X,h⟩:=aa h;refine ja (aj [.tmp 31] rfl rfl uS rfl (cE k a1 r6 X)) ?_;refine mq ?_;obtain⟨r7,U,h⟩:=aa h;refine jc (aK (N:=[(.tmp 30,.at ak (a0,(.map (some z5)))),(.tmp 32,.rep (.arr 3 (.arr 5 (.int .i64))) r6),(.tmp 33,I a2)]) (aj [.tmp 30,.tmp 32,.tmp 33] rfl rfl HF rfl (jh k (a0,()) r6 a2 r7 U)) fun _ _ _ hn=>⟨(jk hn.1),hn.2.1,hn.2.2.1,trivial⟩) ?_;refine mq ?_;refine xr ?_;refine xr ?_;refine ay rfl rfl rfl (ba rfl iu ix) trivial fun b8=>?_;refine aq ?_;refine aX rfl rfl (aO rfl bW rfl rfl rfl) ⟨rfl,rfl,trivial⟩ ?_;refine nt (sr (cq (nt ?_)));refine a9 (Z:=Value) (α:=(List Int)) (fun l x9=>[(10,.at ak (a0,(.map (some z5)))),(12,Pt b8),(13,.eq l)]) (fun l x9=>[.obj b8 107 (.rep (.arr 3 (.arr 5 (.int .i64))) r7.2),.sl l 3 (.int .i64) x9,.inv 0 (dP),.inv z5 (aQ k a0)]) h (fun K h=>?_) (fun l x9 h=>?_)
   ·refine sr (fl ik ?_);refine fr 2 ?_;refine lo oS ?_;refine ol vt ?_;refine de rfl ?_;refine nt (ao (gr (SE.nil 3 (.int .i64)) ?_));refine aR (fun e c=>[(10,.at ak (a0,(.map (some z5)))),(11,.eq (.int .u8 r7.1)),(12,Pt b8),(13,.eq e),(39,I (a0.2.1.length:Int)),(40,I c.2)]) (fun e c=>[.obj b8 107 (.rep (.arr 3 (.arr 5 (.int .i64))) r7.2),.sl e 3 (.int .i64) c.1,.inv 0 (dP),.inv z5 (aQ k a0)]) (lS k a0 r7) k (.slice none 0 0) (([]:(List Int)),0) (fun _=>rfl) h (SE.fin [2,0,4,3] ⟨rfl,rfl,rfl,rfl,rfl,rfl,trivial⟩ rfl) (fun n e c h=>?_);unfold lS at h;refine sr (jb (bO rfl) ?_);refine nt (ag (ci h (fun h=>?_) (fun h=>?_)))
    ·refine sk (a9 (Z:=Value) (α:=(List Int)) (fun j s=>[(10,.at ak (a0,(.map (some z5)))),(11,.eq (.int .u8 r7.1)),(12,Pt b8),(13,.eq j),(39,I (a0.2.1.length:Int)),(40,I c.2)]) (fun j s=>[.obj b8 107 (.rep (.arr 3 (.arr 5 (.int .i64))) r7.2),.sl j 3 (.int .i64) s,.inv 0 (dP),.inv z5 (aQ k a0)]) h (fun K h=>?_) (fun j s h=>?_))
     ·refine ao (sr (mq ?_));refine aq (nt (sr ?_));iterate 2 refine mq ?_
      obtain⟨O,E,h⟩:=aa h;refine jb (aj [.tmp 43,.tmp 44] rfl rfl Db rfl (eO k r7.1 c.2 O E)) ?_;refine nt (cv h (fun h=>?_) (fun h=>?_))
      ·refine ab ?_;iterate 2 refine mq ?_
       refine ja (aJ (t:=(.int .i64)) [(.tmp 47,_)] [c.2] rfl rfl cR (.cons rfl .int .nil) rfl rfl) ?_;obtain⟨u16,y,h⟩:=aa h;refine fr 1 ?_;refine eh rfl rfl rfl (cV rfl rfl cR (aB y)) ⟨rfl,rfl,trivial⟩ fun J=>?_;refine aq (an (bn ?_));exact jz (J,c.1++[c.2]) h [1,0,2,3]
      ·refine aU (bn ?_);exact jz (e,c.1) h [0,1,2,3]
     ·refine ab ?_;obtain⟨F,u,h⟩:=aa h;refine jb (bM rfl u) ?_;refine mq (nl ?_);exact jz (j,(s,F)) h [0,1,2,3]
    ·refine xa ?_;exact jz (e,c.1) h [0,1,2,3]
   ·refine sr ?_;iterate 2 refine mq ?_
    refine lo bW ?_;obtain⟨M,D,h⟩:=aa h;refine ay rfl rfl rfl (aK (N:=[(.tmp 52,.at ak (a0,(.map (some z5)))),(.tmp 53,.rep (.arr 3 (.arr 5 (.int .i64))) r7.2)]) (aj [.tmp 52,.tmp 53] rfl rfl Da rfl (er k (a0,()) r7.2 M D)) fun _ _ _ hn=>⟨(jk hn.1),hn.2.1,trivial⟩) ⟨rfl,rfl,trivial⟩ fun pp=>?_;refine aq ?_;refine aq ?_;refine cq (nt (aA ?_));refine aE 2 rfl ?_;refine bf (d6 [6,13,51] ⟨rfl,rfl,rfl,trivial⟩) ?_;refine bf (d6 [7,54] ⟨rfl,rfl,trivial⟩) ?_;refine bf (SE.fin (Γ':=[(6,_),(7,_),(8,_)]) [1,0,2] ⟨rfl,rfl,rfl,trivial⟩ rfl) ?_;cases h;exact aC () [_,_,_] 1 ⟨rfl,rfl,rfl,trivial⟩ rfl
theorem eu(k:Nat)(a0:bC)(z_a0:Nat)(a1:(List (List Int)))(r:Int)(h:bU k a0 a1=some r):
 cH (fD Tryz.prog) 111 [.at ak (a0,(.map (some z_a0))),.rep (.arr 3 (.arr 5 (.int .i64))) a1] [.inv z_a0 (aQ k a0)] (fun _:Unit=>(bG [I r],[.inv z_a0 (aQ k a0)])):=by
 have h0:=h
 unfold bU at h
 replace h:=bq h
 obtain⟨u1,eg,h⟩:=aa h
 have hg:=aB eg
 have gk:=CC hg
 refine cH.of 28 Tryz.func111 rfl Tryz.ntmps111 rfl fun S w0=>?_
 refine sr ?_
 refine bx fun b1=>?_
 refine cq ?_
 refine nt ?_
 refine ag ?_
 refine cC 1 rfl ?_
 refine yC fun ob hob=>?_
 obtain⟨lnn,lbb,hlR,hlk⟩:=uH (z:=z_a0) KL GE wG gk Ac hob
 refine cX ?_
 refine dm ?_
 refine da (c9 rfl) ?_
 refine da (aN 1 false rfl zb rfl) ?_
 refine da (au (t:=.val) rfl F3 rfl) ?_
 refine ea 1 (ap rfl bW (sS) rfl) ?_
 refine eb 0 (zT (kv:=jo a1) (tK _) (ky.calm hob) rfl (fun _ _ _ hh=>sw hh) hlk) ?_
 refine dm ?_
 refine da (fF rfl rfl) ?_
 refine da (fF rfl rfl) ?_
 refine da (iV rfl) ?_
 refine df gz ?_
 refine aq ?_
 refine nt ?_
 refine ag ?_
 refine sr ?_
 refine mq ?_
 refine ja (dA rfl) ?_
 refine nt ?_
 refine gr (fH (aQ k a0) hob) ?_
 refine bu rfl (fun hb=>?_) (fun hb=>?_)
 ·
  refine sr (mq ?_);refine fr 1 ?_;refine lo bW ?_;obtain⟨r2,c,h⟩:=aa h;refine jc (aK (N:=[(.tmp 18,.at ak (a0,(.map (some z_a0)))),(.tmp 19,.rep (.arr 3 (.arr 5 (.int .i64))) a1),(.const (.int .i64 (0)),I 0)]) (cP [.tmp 18,.tmp 19,.const (.int .i64 (0))] rfl rfl Gs rfl (kG k (a0,()) a1 0 r2 c)) fun _ _ _ hn=>⟨(jk hn.1),hn.2.1,hn.2.2.1,trivial⟩) ?_;refine aq (nt ?_);refine cX ?_;refine dm ?_;refine da (c9 rfl) ?_;refine da (aN 1 false rfl zb rfl) ?_;refine da (au (t:=.val) rfl F3 rfl) ?_;refine ea 0 (ap rfl bW (sS) rfl) ?_;refine dm ?_;refine df gz ?_;refine fr 1 ?_;have hl:bU k a0 a1=some r2:=h0.trans (show some r=some r2 from h.symm);refine aX rfl rfl (vW (kv:=jo a1) (tK _) rfl KL wG (fun _ _ _ hh=>sw hh) gk ⟨a1,hg,rfl,hl⟩) ⟨rfl,rfl,rfl,trivial⟩ ?_;refine nt (sr (mq ?_));refine aq (nt (aA ?_));cases h;exact aC () [_] 1 ⟨rfl,trivial⟩ rfl
 ·
  obtain⟨p,hp,he,hl⟩:=hlR (by simpa using hb);obtain rfl:=tL hg hp he;replace h:some lnn=some r:=hl.symm.trans h0;refine sk (sr (mq ?_));refine aq (nt (aA ?_));cases h;exact aC () [_] 1 ⟨rfl,trivial⟩ rfl
def jH(k:Nat)(a0:bC)(a1:(List (List Int))):Option (Int×Int):=
 (bV k a0 a1).bind fun r2=>
 if¬(r2=0) then(some (0,r2)) else((cY k a1).bind fun r4=>
 (bU k a0 r4).bind fun r5=>
 some (r5,0))
theorem jy(k:Nat)(a0:bC)(a1:(List (List Int)))(r:Int×Int)(h:jH k a0 a1=some r):
 cH (fD Tryz.prog) 48 [.rep aL a0,.rep (.slice (.slice (.int .i64))) a1] [.inv 0 (dP)] (fun _:Unit=>(bG [I r.1,I r.2],[.inv 0 (dP)])):=by
 unfold jH at h
 replace h:=bq h
 refine cH.of 18 Tryz.func48 rfl Tryz.ntmps48 rfl fun S w0=>?_
 refine sr ?_
 refine bx fun b1=>?_
 refine cq ?_
 refine cq ?_
 refine nt ?_
 refine ag ?_
 refine sr ?_
 refine lo fB ?_
 refine mq ?_
 obtain⟨r2,j,h⟩:=aa h
 have l:=bS k a0 a1 r2 j
 refine fr 1 ?_
 refine kb (aj [.tmp 7,.tmp 8] rfl rfl wR rfl l) ?_
 refine aq ?_
 refine nt ?_
 refine sr ?_
 refine mq ?_
 refine jb (cm rfl) ?_
 refine nt ?_
 refine cn h (fun h=>?_) (fun h=>?_)
 ·
  refine sr (mq ?_);refine cq ?_;refine aq (nt (rx ?_));cases h;exact aC () [_,_] 1 ⟨rfl,rfl,trivial⟩ rfl
 ·
  refine sk (sr (fr 1 ?_));refine lo fB ?_;refine ay rfl rfl rfl (aj [.tmp 13] rfl rfl wQ rfl (cU a0)) ⟨rfl,trivial⟩ fun z3=>?_;refine bX (fH (aQ k a0) gf) ?_;refine mq ?_;obtain⟨r4,e,h⟩:=aa h;refine ja (aj [.tmp 15] rfl rfl uS rfl (cE k a1 r4 e)) ?_;obtain⟨r5,c,h⟩:=aa h;refine kb (cP [.tmp 14,.tmp 16] rfl rfl zf rfl (eu k a0 z3 r4 r5 c)) ?_;refine aq ?_;refine cq (nt (aA ?_));refine bf (SE.fin (Γ':=[(4,_),(5,_)]) [2,0,1] ⟨rfl,rfl,trivial⟩ rfl) ?_;cases h;exact aC () [_,_] 1 ⟨rfl,rfl,trivial⟩ rfl
set_option maxRecDepth 20000
set_option maxHeartbeats 4000000
@[reducible] def dQ:Ty:=.agg (.pair (.int .i64) (.int .i64))
def Jv(x:Int×Int):Value:=.agg #[.int .i64 x.1,.int .i64 x.2]
theorem E6{S:FS}{w:World}{x:Int×Int}:(A.rep dQ x).holds S w (Jv x):=⟨[_,_],⟨[_],[_],rfl,rfl,rfl⟩,rfl⟩
theorem C4{S:FS}{w:World}{x:Int×Int}{v:Value}(h:(A.rep dQ x).holds S w v):(A.eq (Jv x)).holds S w v:=by
 obtain⟨cs,⟨c1,c2,rfl,h1,h2⟩,rfl⟩:=h;have h1:c1=_:=h1;have h2:c2=_:=h2;subst h1 h2;rfl
theorem fj:dc Tryz.prog 131 2 true:=⟨fun w=>by kernel_rfl,fun w=>by kernel_rfl⟩
theorem mm:dc Tryz.prog 28 1 false:=⟨fun w=>by kernel_rfl,fun w=>by kernel_rfl⟩
theorem yI:dc Tryz.prog 23 1 false:=⟨fun w=>by kernel_rfl,fun w=>by kernel_rfl⟩
theorem qY:dc Tryz.prog 3 1 false:=⟨fun w=>by kernel_rfl,fun w=>by kernel_rfl⟩
theorem A7:dc Tryz.prog 102 1 false:=⟨fun w=>by kernel_rfl,fun w=>by kernel_rfl⟩
theorem Ho:aY Tryz.prog 131 0 0:=aY.of (by kernel_rfl)
theorem Hn:aY Tryz.prog 131 1 1:=aY.of (by kernel_rfl)
theorem Ju:aY Tryz.prog 128 0 0:=aY.of (by kernel_rfl)
theorem rc:aY Tryz.prog 128 1 1:=aY.of (by kernel_rfl)
theorem uR:ah Tryz.prog 136:=ah.of Tryz.func136 (by kernel_rfl) (by kernel_rfl)
def gW(x:Int×Int)(m:Int):Nat→Int×List Int→Option (List Int)
 |0,_=>none
 |n+1,q=>if q.1 < m then((cd q.2 q.1).bind fun c=>if c=x.1 then(ck (q.1+1)).bind fun w=>gW x m n (w,q.2.set q.1.toNat x.2) else if c=x.2 then(ck (q.1+1)).bind fun w=>gW x m n (w,q.2.set q.1.toNat x.1) else(ck (q.1+1)).bind fun w=>gW x m n (w,q.2)) else some q.2
def iQ(k:Nat)(x:Int×Int)(m:Int):Nat→Int×List (List Int)→Option (List (List Int))
 |0,_=>none
 |n+1,q=>if q.1 < m then((cd q.2 q.1).bind fun l=>(gW x (l.length:Int) k (0,l)).bind fun l2=>(ck (q.1+1)).bind fun w=>iQ k x m n (w,q.2.set q.1.toNat l2)) else some q.2
def lu(k:Nat)(x:Int×Int)(ls:List (List Int)):Option (List (List Int)):=iQ k x (ls.length:Int) k (0,ls)
theorem kF(k:Nat)(x:Int×Int)(ls r:List (List Int))(y:Nat)(d0:ak.den)(z:Value×(Nat→Value))(h:lu k x ls=some r):
 cy Tryz.prog 136 [.eq (bP y),.rep dQ x] ([.obj y 128 (.agg (.pair (.at ak d0) (.eq z.1)))]++eZ 23 z ls) (fun _:Unit=>(bG [],[.obj y 128 (.agg (.pair (.at ak d0) (.eq z.1)))]++eZ 23 z r)):=by
 unfold lu at h
 replace h:=bq h
 refine cy.of 45 Tryz.func136 rfl Tryz.ntmps136 rfl fun S w0=>?_
 refine sr ?_
 refine bx fun b3=>?_
 refine nt ?_
 refine sr ?_
 refine mq ?_
 refine ja (bK rfl) ?_
 refine fl rc ?_
 refine fr 1 ?_
 refine lo mm ?_
 refine bX (vc (pre:=[.obj y 128 (.agg (.pair (.at ak d0) (.eq z.1))),.obj b3 131 (.rep dQ x)])) ?_
 refine ka (dh rfl rfl nS) ?_
 rw [eK]
 refine bX (Ax (pre:=[.obj y 128 (.agg (.pair (.at ak d0) (.eq z.1))),.obj b3 131 (.rep dQ x)])) ?_
 refine de rfl ?_
 refine nt ?_
 refine ao ?_
 refine aR (Z:=Unit) (α:=Int×List (List Int)) (fun _ q=>[(3,.eq (bP b3)),(11,.eq z.1),(12,I (ls.length:Int)),(13,I q.1)]) (fun _ q=>[.obj y 128 (.agg (.pair (.at ak d0) (.eq z.1))),.obj b3 131 (.rep dQ x)]++eZ 23 z q.2) (iQ k x (ls.length:Int)) k () (0,ls) (fun _=>rfl) h (bi [.obj y 128 (.agg (.pair (.at ak d0) (.eq z.1))),.obj b3 131 (.rep dQ x)] (eZ 23 z ls) [0,1] ⟨rfl,rfl,rfl,rfl,trivial⟩ rfl) (fun n u q h=>?_)
 unfold iQ at h
 refine sr ?_
 refine jb (bO rfl) ?_
 refine nt ?_
 refine ag ?_
 refine bu rfl (fun hb=>?_) (fun hb=>?_)
 ·
  replace h:=bD (ln hb) h;refine sk (ag (ao ?_));obtain⟨l,el,h⟩:=aa h;refine gr (ub (pre:=[.obj y 128 (.agg (.pair (.at ak d0) (.eq z.1))),.obj b3 131 (.rep dQ x)]) (rA el).2) ?_;refine sr (fr 1 ?_);refine kb (bR (t:=.val) rfl nS yI (m9 el)) ?_;refine ka (gY (i:=q.1.toNat) (off:=0) rfl yI (fun _=>rfl) rfl (cM (m9 el)).2.2 rfl) ?_;refine aq (nt ?_);rw [Option.bind_assoc] at h;refine sr (mq ?_);refine fr 1 ?_;refine ka (dh rfl rfl fU) ?_;refine de rfl ?_;refine nt (ao (aR (Z:=Unit) (α:=Int×List Int) (fun _ q2=>[(3,.eq (bP b3)),(5,.eq (z.2 q.1.toNat)),(11,.eq z.1),(12,I (ls.length:Int)),(13,I q.1),(17,.eq (z.2 q.1.toNat)),(18,I (l.length:Int)),(19,I q2.1)]) (fun _ q2=>[.sl (z.2 q.1.toNat) 3 (.int .i64) (q2.2),.sl z.1 23 .val (d3 z.2 0 q.2),.obj y 128 (.agg (.pair (.at ak d0) (.eq z.1))),.obj b3 131 (.rep dQ x)]++((kA z.2 0 q.2).eraseIdx q.1.toNat)) (gW x (l.length:Int)) k () (0,l) (fun _=>rfl) h (bi [.sl (z.2 q.1.toNat) 3 (.int .i64) (l),.sl z.1 23 .val (d3 z.2 0 q.2),.obj y 128 (.agg (.pair (.at ak d0) (.eq z.1))),.obj b3 131 (.rep dQ x)] ((kA z.2 0 q.2).eraseIdx q.1.toNat) [0,1,2,3] ⟨rfl,rfl,rfl,rfl,rfl,rfl,rfl,rfl,trivial⟩ rfl) (fun n2 u2 q2 h=>?_)));unfold gW at h;refine sr (jb (bO rfl) ?_);refine nt (ag (bu rfl (fun hb=>?_) (fun hb=>?_)))
  ·replace h:=bD (ln hb) h;refine sk (ag (ao ?_));obtain⟨c,ec,h⟩:=aa h;refine sr (mq ?_);refine kb (bR (t:=.int .i64) rfl fU qY ec) ?_;refine ka (gY (i:=q2.1.toNat) (off:=0) rfl qY (fun _=>rfl) rfl (cM ec).2.2 rfl) ?_;refine aq ?_;refine aq (nt (sr ?_));refine mq (nt (ao (sr ?_)));refine fl Ho ?_;refine fr 3 ?_;refine lo qY ?_;refine jb (du rfl) ?_;refine aq (nt ?_);refine ci h (fun h=>?_) (fun h=>?_)
   ·refine ab ?_;iterate 2 refine mq ?_
    refine fl Hn ?_;refine lo qY ?_;refine fr 1 ?_;refine kb (bR (t:=.int .i64) rfl fU qY ec) ?_;refine aX rfl rfl (ff (i:=q2.1.toNat) rfl qY rfl (kS ec) rfl .int rfl) ⟨rfl,rfl,trivial⟩ ?_;refine an (aI (aI (tn (ab ?_))));obtain⟨w,ew,h⟩:=aa h;refine jb (bM rfl ew) ?_;refine mq (nl ?_);exact g9 ((),(w,q2.2.set q2.1.toNat x.2)) h (bi [.sl (z.2 q.1.toNat) 3 (.int .i64) (q2.2.set q2.1.toNat x.2),.obj b3 131 (.rep dQ x),.sl z.1 23 .val (d3 z.2 0 q.2),.obj y 128 (.agg (.pair (.at ak d0) (.eq z.1)))] ((kA z.2 0 q.2).eraseIdx q.1.toNat) [0,2,3,1] ⟨rfl,rfl,rfl,rfl,rfl,rfl,rfl,rfl,trivial⟩ rfl)
   ·refine sr (fl Hn ?_);refine lo qY ?_;refine jb (du rfl) ?_;refine aq (nt ?_);refine ci h (fun h=>?_) (fun h=>?_)
    ·refine ab ?_;iterate 2 refine mq ?_
     refine fl Ho ?_;refine lo qY ?_;refine fr 1 ?_;refine kb (bR (t:=.int .i64) rfl fU qY ec) ?_;refine aX rfl rfl (ff (i:=q2.1.toNat) rfl qY rfl (kS ec) rfl .int rfl) ⟨rfl,rfl,trivial⟩ ?_;refine an (aI (aI (tn (ab ?_))));obtain⟨w,ew,h⟩:=aa h;refine jb (bM rfl ew) ?_;refine mq (nl ?_);exact g9 ((),(w,q2.2.set q2.1.toNat x.1)) h (bi [.sl (z.2 q.1.toNat) 3 (.int .i64) (q2.2.set q2.1.toNat x.1),.obj b3 131 (.rep dQ x),.sl z.1 23 .val (d3 z.2 0 q.2),.obj y 128 (.agg (.pair (.at ak d0) (.eq z.1)))] ((kA z.2 0 q.2).eraseIdx q.1.toNat) [0,2,3,1] ⟨rfl,rfl,rfl,rfl,rfl,rfl,rfl,rfl,trivial⟩ rfl)
    ·refine aU (aI (aI (tn (ab ?_))));obtain⟨w,ew,h⟩:=aa h;refine jb (bM rfl ew) ?_;refine mq (nl ?_);exact g9 ((),(w,q2.2)) h (bi [.obj b3 131 (.rep dQ x),.sl (z.2 q.1.toNat) 3 (.int .i64) (q2.2),.sl z.1 23 .val (d3 z.2 0 q.2),.obj y 128 (.agg (.pair (.at ak d0) (.eq z.1)))] ((kA z.2 0 q.2).eraseIdx q.1.toNat) [1,2,3,0] ⟨rfl,rfl,rfl,rfl,rfl,rfl,rfl,rfl,trivial⟩ rfl)
  replace h:=aP (kV hb) h;refine dM (aZ (aZ (bY (aI (tn (gr (xf (pre:=[.obj y 128 (.agg (.pair (.at ak d0) (.eq z.1))),.obj b3 131 (.rep dQ x)]) (l':=q2.2) (rA el).2) ?_))))));refine ab ?_;obtain⟨w,ew,h⟩:=aa (X:=ck (q.1+1)) (f:=fun w=>iQ k x (ls.length:Int) n (w,q.2.set q.1.toNat q2.2)) (K:=some) (r:=r) (by simpa using h);refine jb (bM rfl ew) ?_;refine mq (nl ?_);exact g9 ((),(w,q.2.set q.1.toNat q2.2)) h (bi [.obj y 128 (.agg (.pair (.at ak d0) (.eq z.1))),.obj b3 131 (.rep dQ x)] (eZ 23 z (q.2.set q.1.toNat q2.2)) [0,1] ⟨rfl,rfl,rfl,rfl,trivial⟩ rfl)
 replace h:=aP (kV hb) h
 refine dM ?_
 refine aZ ?_
 refine aZ ?_
 refine bY ?_
 cases h
 refine gB ?_
 refine bf (bi (Γ':=[]) (pre':=[.obj y 128 (.agg (.pair (.at ak d0) (.eq z.1)))]) [.obj y 128 (.agg (.pair (.at ak d0) (.eq z.1))),.obj b3 131 (.rep dQ x)] (eZ 23 z q.2) [0] trivial rfl) ?_
 exact gj () [] trivial rfl
@[reducible] def Ef:Ty:=.agg (.pair (.ptr ak) (.slice (.slice (.int .i64))))
theorem GK{S:FS}{w:World}{y:Nat}{d0:ak.den}{z:Value×(Nat→Value)}{ls:List (List Int)}(h:∀d∈[D.obj y 128 (.agg (.pair (.at ak d0) (.eq z.1)))]++eZ 23 z ls,d.holds S w∧∀b,d.foot=some b→S b):(A.at Ef (d0,ls)).holds S w (bP y):=by
 obtain⟨⟨cs,h1,c1,c2,rfl,g1,rfl,g2⟩,h2⟩:=h _ (List.mem_cons_self ..);have h3:=Cj (fun d hd=>h d (List.mem_cons_of_mem _ hd));refine⟨y,0,_,128,(0,0),rfl,h2 y rfl,h1,c1,[z.1],?_,g1,?_⟩
 ·have l1:=aG (.ptr ak) g1;simp only [Ty.cells] at l1;match c1,l1 with
  |[u],_=>rfl
 ·obtain⟨cs,h4,h5⟩:=h3;have l1:=aG (.slice (.slice (.int .i64))) h4;simp only [Ty.cells] at l1;match cs,l1 with
  |[u],_=>rw [h5];exact h4
theorem vF{S:FS}{w:World}{a:Act}{Γ:Ga}{y:Nat}{d0:ak.den}{z:Value×(Nat→Value)}{ls:List (List Int)}(h:∀d∈[D.obj y 128 (.agg (.pair (.at ak d0) (.eq z.1)))]++eZ 23 z ls,d.holds S w∧∀b,d.foot=some b→S b)
 (hk:∀s r,lk Γ s=some r→r.holds S w (a.tmps.getD s undef)) (h0:lk Γ 0=some (.eq (bP y))):∀s r,lk [(0,A.at Ef (d0,ls))] s=some r→r.holds S w (a.tmps.getD s undef):=fun s r hl=>by
 simp only [lk] at hl
 split at hl
 ·
  rename_i e
  cases hl
  subst e
  have e1:a.tmps.getD 0 undef=bP y:=hk 0 _ h0
  rw [e1]
  exact GK h
 ·
  cases hl
theorem Gk{n:Nat}{r0:A}(h:r0.flat=true):∀s r,lk [(n,r0)] s=some r→r.flat=true:=fun s r hl=>by
 simp only [lk] at hl
 split at hl
 ·
  cases hl;exact h
 ·
  cases hl
theorem Hr{d0:D}(h:d0.flat=true):∀d∈[d0],d.flat=true:=fun d hd=>by
 simp only [List.mem_cons,List.not_mem_nil,or_false] at hd
 subst hd;exact h
theorem E5{d0 d1:D}(h:d0.flat=true)(h1:d1.flat=true):∀d∈[d0,d1],d.flat=true:=fun d hd=>by
 simp only [List.mem_cons,List.not_mem_nil,or_false] at hd
 rcases hd with rfl |rfl <;> assumption
theorem vG{y:Nat}{x:Int×Int}(S:FS)(w:World):eJ S w [.eq (bP y),.rep dQ x] [bP y,Jv x]:=⟨_,_,rfl,rfl,_,_,rfl,E6,rfl⟩
theorem Hm:aY Tryz.prog 173 0 0:=aY.of (by kernel_rfl)
theorem A6:dc Tryz.prog 25 3 true:=⟨fun w=>by kernel_rfl,fun w=>by kernel_rfl⟩
theorem Jz:ah Tryz.prog 94:=ah.of Tryz.func94 (by kernel_rfl) (by kernel_rfl)
theorem JA:ah Tryz.prog 86:=ah.of Tryz.func86 (by kernel_rfl) (by kernel_rfl)
theorem Hu:ah Tryz.prog 111:=ah.of Tryz.func111 (by kernel_rfl) (by kernel_rfl)
def k7(k:Nat)(t:bC)(x:Int×Int)(ls:List (List Int)):Option (Bool×List (List Int)):=
 (lu k x ls).bind fun l1=>(na k t l1).bind fun e=>if EN e=true then(lu k x l1).bind fun l2=>some (!sA e,l2) else none
theorem pR(k:Nat)(t:bC)(x:Int×Int)(ls:List (List Int))(r:Bool×List (List Int))(y m:Nat)(z:Value×(Nat→Value))(h:k7 k t x ls=some r):
 cy Tryz.prog 98 [.eq (bP y),.rep dQ x] ([.obj y 128 (.agg (.pair (.at ak (t,.map (some m))) (.eq z.1)))]++eZ 23 z ls) (fun _:Unit=>(bG [.eq (.bool r.1)],[.obj y 128 (.agg (.pair (.at ak (t,.map (some m))) (.eq z.1)))]++eZ 23 z r.2)):=by
 unfold k7 at h
 replace h:=bq h
 obtain⟨l1,e1,h⟩:=aa h
 obtain⟨e,e2,h⟩:=aa h
 have he:EN e=true:=by
  apply Classical.byContradiction;intro hn;rw [if_neg hn] at h;cases h
 replace h:=bD he h
 obtain⟨l2,e3,h⟩:=aa h
 cases h
 have cv:=oJ k t l1 e e2
 refine FU 23 Tryz.func98 rfl Tryz.ntmps98 rfl fun S w0=>?_
 refine sr ?_
 refine bx fun b3=>?_
 refine cq ?_
 refine nt ?_
 refine sr ?_
 refine mq ?_
 refine ka (ap rfl fj (vq) rfl) ?_
 refine bX (eV (Δ':=([.obj y 128 (.agg (.pair (.at ak (t,.map (some m))) (.eq z.1)))]++eZ 23 z ls)++[.obj b3 131 (.rep dQ x)]) (List.perm_append_comm (l₁:=([.obj b3 131 (.rep dQ x)]:List D)))) ?_
 refine bI (Δ:=_++_) (F:=[_]) (fun _ _ _=>ar rfl _) rfl rfl (aj [.tmp 5,.tmp 6] rfl rfl uR rfl (kF k x ls l1 y (t,.map (some m)) z e1)) ⟨rfl,rfl,trivial⟩ fun _=>?_
 refine nt ?_
 refine sr ?_
 refine mq ?_
 refine bX (eV (Δ':=[.obj b3 131 (.rep dQ x)]++([.obj y 128 (.agg (.pair (.at ak (t,.map (some m))) (.eq z.1)))]++eZ 23 z l1)) List.perm_append_comm) ?_
 refine ka (ap rfl fj (vq) rfl) ?_
 refine bX (pH 9 rfl fun _ _ _ h=>C4 h) ?_
 refine ue (vs:=[bP y,Jv x]) [.tmp 8,.tmp 9] rfl rfl rfl rfl rfl ⟨rfl,rfl,trivial⟩ ?_
 refine an ?_
 refine ae ?_
 refine bf (eV (Δ':=([.obj y 128 (.agg (.pair (.at ak (t,.map (some m))) (.eq z.1)))]++eZ 23 z l1)++[.obj b3 131 (.rep dQ x)]) (List.perm_append_comm (l₁:=([.obj b3 131 (.rep dQ x)]:List D)))) ?_
 show JC _ _ _ _ _
 refine ag ?_
 refine zt (L:=_++_) (Δ:=[_]) (Γ1:=[(0,.at Ef ((t,.map (some m)),l1))]) (Z:=Unit) (fun _=>[(4,.eq (.bool (!sA e)))]) (fun _=>[.obj b3 131 (.rep dQ x)]) (fun S w a hl hk=>vF hl hk rfl) (fun _=>⟨Gk rfl,Hr rfl⟩) (fun S w=>?_) (fun _=>?_)
 ·
  refine cX ?_;refine dm ?_;refine da (c9 rfl) ?_;refine da (aN 1 false rfl Ju rfl) ?_;refine da (au (t:=.ptr ak) rfl A7 rfl) ?_;refine da (c9 rfl) ?_;refine da (aN 3 true rfl Hm rfl) ?_;refine da (au (t:=aL) rfl A6 rfl) ?_;refine dm ?_;refine da (c9 rfl) ?_;refine da (aN 1 false rfl rc rfl) ?_;refine da (au (t:=.slice (.slice (.int .i64))) rfl mm rfl) ?_;refine qG (by kernel_rfl) oq ?_;refine jb (aj [.tmp 16,.tmp 20] rfl rfl Jz rfl cv) ?_;refine jb (pg rfl LZ he) ?_;refine aq (an ?_);exact fun a w st=>⟨rfl,(),(SE.fin (Γ':=[(4,.eq (.bool (!sA e)))]) [0] ⟨rfl,trivial⟩ rfl) a w st⟩
 ·
  refine tn (aA (zq (Δ1:=[.obj y 128 (.agg (.pair (.at ak (t,.map (some m))) (.eq z.1)))]++eZ 23 z l1) (F:=[.obj b3 131 (.rep dQ x)]) uR (kF k x l1 l2 y (t,.map (some m)) z e3 _) vG (fun _=>?_)));refine bf (eV (Δ':=[.obj b3 131 (.rep dQ x)]++([.obj y 128 (.agg (.pair (.at ak (t,.map (some m))) (.eq z.1)))]++eZ 23 z l2)) List.perm_append_comm) ?_;refine bf (bi (pre':=[.obj y 128 (.agg (.pair (.at ak (t,.map (some m))) (.eq z.1)))]) (Γ':=[(4,.eq (.bool (!sA e)))]) [.obj b3 131 (.rep dQ x),.obj y 128 (.agg (.pair (.at ak (t,.map (some m))) (.eq z.1)))] (eZ 23 z l2) [1] ⟨rfl,trivial⟩ rfl) ?_;exact gj () [_] ⟨rfl,trivial⟩ rfl
def k9(k:Nat)(t:bC)(x:Int×Int)(ls:List (List Int)):Option (Int×List (List Int)):=
 (lu k x ls).bind fun l1=>(cY k l1).bind fun ld=>(bU k t ld).bind fun n=>(lu k x l1).bind fun l2=>some (n,l2)
theorem pS(k:Nat)(t:bC)(x:Int×Int)(ls:List (List Int))(r:Int×List (List Int))(y m:Nat)(z:Value×(Nat→Value))(h:k9 k t x ls=some r):
 cH (fD Tryz.prog) 100 [.eq (bP y),.rep dQ x] ([.inv m (aQ k t)]++([.obj y 128 (.agg (.pair (.at ak (t,.map (some m))) (.eq z.1)))]++eZ 23 z ls)) (fun _:Unit=>(bG [I r.1],[.inv m (aQ k t)]++([.obj y 128 (.agg (.pair (.at ak (t,.map (some m))) (.eq z.1)))]++eZ 23 z r.2))):=by
 unfold k9 at h
 replace h:=bq h
 obtain⟨l1,e1,h⟩:=aa h
 obtain⟨ld,e2,h⟩:=aa h
 obtain⟨n,e2',h⟩:=aa h
 obtain⟨l2,e3,h⟩:=aa h
 cases h
 have cv:=cE k l1 ld e2
 have cl:=eu k t m ld n e2'
 refine xn 20 Tryz.func100 rfl Tryz.ntmps100 rfl fun S w0=>?_
 refine sr ?_
 refine bx fun b3=>?_
 refine cq ?_
 refine nt ?_
 refine sr ?_
 refine mq ?_
 refine ka (ap rfl fj (vq) rfl) ?_
 refine bX (eV (Δ':=([.obj y 128 (.agg (.pair (.at ak (t,.map (some m))) (.eq z.1)))]++eZ 23 z ls)++[.obj b3 131 (.rep dQ x),.inv m (aQ k t)]) (List.perm_append_comm (l₁:=([.obj b3 131 (.rep dQ x),.inv m (aQ k t)]:List D)))) ?_
 refine bI (Δ:=_++_) (F:=[_,_]) (fun _ _ _=>ar rfl _) rfl rfl (aj [.tmp 5,.tmp 6] rfl rfl uR rfl (kF k x ls l1 y (t,.map (some m)) z e1)) ⟨rfl,rfl,trivial⟩ fun _=>?_
 refine nt ?_
 refine sr ?_
 refine mq ?_
 refine bX (eV (Δ':=[.obj b3 131 (.rep dQ x),.inv m (aQ k t)]++([.obj y 128 (.agg (.pair (.at ak (t,.map (some m))) (.eq z.1)))]++eZ 23 z l1)) List.perm_append_comm) ?_
 refine ka (ap rfl fj (vq) rfl) ?_
 refine bX (pH 9 rfl fun _ _ _ h=>C4 h) ?_
 refine ue (vs:=[bP y,Jv x]) [.tmp 8,.tmp 9] rfl rfl rfl rfl rfl ⟨rfl,rfl,trivial⟩ ?_
 refine an ?_
 refine ae ?_
 refine bf (eV (Δ':=([.obj y 128 (.agg (.pair (.at ak (t,.map (some m))) (.eq z.1)))]++eZ 23 z l1)++[.obj b3 131 (.rep dQ x),.inv m (aQ k t)]) (List.perm_append_comm (l₁:=([.obj b3 131 (.rep dQ x),.inv m (aQ k t)]:List D)))) ?_
 show JC _ _ _ _ _
 refine ag ?_
 refine zt (L:=_++_) (Δ:=[_,_]) (Γ1:=[(0,.at Ef ((t,.map (some m)),l1))]) (Z:=Unit) (fun _=>[(4,I n)]) (fun _=>[.obj b3 131 (.rep dQ x),.inv m (aQ k t)]) (fun S w a hl hk=>vF hl hk rfl) (fun _=>⟨Gk rfl,E5 rfl rfl⟩) (fun S w=>?_) (fun _=>?_)
 ·
  refine cX ?_;refine dm ?_;refine da (c9 rfl) ?_;refine da (aN 1 false rfl Ju rfl) ?_;refine da (au (t:=.ptr ak) rfl A7 rfl) ?_;refine dm ?_;refine da (c9 rfl) ?_;refine da (aN 1 false rfl rc rfl) ?_;refine da (au (t:=.slice (.slice (.int .i64))) rfl mm rfl) ?_;refine da (aj [.tmp 17] rfl rfl JA rfl cv) ?_;refine qG (by kernel_rfl) oq ?_;refine fr 1 ?_;refine kb (cP [.tmp 13,.tmp 18] rfl rfl Hu rfl cl) ?_;refine aq (an ?_);exact fun a w st=>⟨rfl,(),(SE.fin (Γ':=[(4,I n)]) [1,0] ⟨rfl,trivial⟩ rfl) a w st⟩
 ·
  refine tn (aA (zq (Δ1:=[.obj y 128 (.agg (.pair (.at ak (t,.map (some m))) (.eq z.1)))]++eZ 23 z l1) (F:=[.obj b3 131 (.rep dQ x),.inv m (aQ k t)]) uR (kF k x l1 l2 y (t,.map (some m)) z e3 _) vG (fun _=>?_)));refine bf (eV (Δ':=[.obj b3 131 (.rep dQ x),.inv m (aQ k t)]++([.obj y 128 (.agg (.pair (.at ak (t,.map (some m))) (.eq z.1)))]++eZ 23 z l2)) List.perm_append_comm) ?_;refine bf (bi (pre':=[.inv m (aQ k t),.obj y 128 (.agg (.pair (.at ak (t,.map (some m))) (.eq z.1)))]) (Γ':=[(4,I n)]) [.obj b3 131 (.rep dQ x),.inv m (aQ k t),.obj y 128 (.agg (.pair (.at ak (t,.map (some m))) (.eq z.1)))] (eZ 23 z l2) [1,2] ⟨rfl,trivial⟩ rfl) ?_;exact gj () [_] ⟨rfl,trivial⟩ rfl
theorem pN:∀w,(zeroValue 131).run Tryz.prog w= .ok (.agg #[.int .i64 0,.int .i64 0]) w:=fun w=>by kernel_rfl
theorem sM:∀S w,(A.cells S w (.rep dQ (0,0)) (Value.cells (.agg #[.int .i64 0,.int .i64 0])).toList):=fun _ _=>⟨[_],[_],rfl,rfl,rfl⟩
theorem Hv:ah Tryz.prog 100:=ah.of Tryz.func100 (by kernel_rfl) (by kernel_rfl)
abbrev Gu:=Int×(Int×Int)×Int×Bool×List (List Int)
def fE(k:Nat)(t:bC)(xs:List (Int×Int)):Nat→Gu→Option ((Int×Int)×Int×Bool×List (List Int))
 |0,_=>none
 |n+1,q=>if q.1 < (xs.length:Int) then((cd xs q.1).bind fun x=>(k9 k t x q.2.2.2.2).bind fun r=>(ck (q.1+1)).bind fun w=>fE k t xs n (if(!q.2.2.2.1 || decide (r.1 < q.2.2.1))=true then(w,x,r.1,true,r.2) else(w,q.2.1,q.2.2.1,q.2.2.2.1,r.2))) else some q.2
def jQ(k:Nat)(t:bC)(xs:List (Int×Int))(ls:List (List Int)):Option ((Int×Int)×Int×Bool×List (List Int)):=fE k t xs k (0,(0,0),0,false,ls)
theorem sW(k:Nat)(t:bC)(xs:List (Int×Int))(ls:List (List Int))(r:(Int×Int)×Int×Bool×List (List Int))(y m:Nat)(z:Value×(Nat→Value))(h:jQ k t xs ls=some r):
 cH (fD Tryz.prog) 99 [.eq (.func (.func 100) #[bP y] #[]),Rs dQ xs] ([.inv m (aQ k t),.obj y 128 (.agg (.pair (.at ak (t,.map (some m))) (.eq z.1)))]++eZ 23 z ls) (fun _:Unit=>(bG [.rep dQ r.1,I r.2.1,.eq (.bool r.2.2.1)],[.inv m (aQ k t),.obj y 128 (.agg (.pair (.at ak (t,.map (some m))) (.eq z.1)))]++eZ 23 z r.2.2.2)):=by
 unfold jQ at h
 replace h:=bq h
 refine cH.of 35 Tryz.func99 rfl Tryz.ntmps99 rfl fun S w0=>?_
 refine sr ?_
 refine ay rfl rfl rfl (ba rfl pN sM) trivial fun b4=>?_
 refine cq ?_
 refine cq ?_
 refine nt ?_
 refine sr ?_
 refine ay rfl rfl rfl (ba rfl pN sM) trivial fun b7=>?_
 refine nt ?_
 refine sr ?_
 refine cq ?_
 refine cq ?_
 refine nt ?_
 refine ag ?_
 refine sr ?_
 refine mq ?_
 refine ol H2 ?_
 refine de rfl ?_
 refine nt ?_
 refine ao ?_
 refine aR (Z:=Unit) (α:=Gu) (fun _ q=>[(0,.eq (.func (.func 100) #[bP y] #[])),(4,.eq (bP b4)),(7,.eq (bP b7)),(8,I q.2.2.1),(9,.eq (.bool q.2.2.2.1)),(13,Rs dQ xs),(14,I (xs.length:Int)),(15,I q.1)]) (fun _ q=>[.obj b7 131 (.rep dQ q.2.1),.obj b4 131 (.rep dQ (0,0)),.inv m (aQ k t),.obj y 128 (.agg (.pair (.at ak (t,.map (some m))) (.eq z.1)))]++eZ 23 z q.2.2.2.2) (fE k t xs) k () (0,(0,0),0,false,ls) (fun _=>rfl) h (bi [.obj b7 131 (.rep dQ (0,0)),.obj b4 131 (.rep dQ (0,0)),.inv m (aQ k t),.obj y 128 (.agg (.pair (.at ak (t,.map (some m))) (.eq z.1)))] (eZ 23 z ls) [0,1,2,3] ⟨rfl,rfl,rfl,rfl,rfl,rfl,rfl,rfl,trivial⟩ rfl) (fun n u q h=>?_)
 unfold fE at h
 obtain⟨q1,q2,q3,q4,q5⟩:=q
 refine sr ?_
 refine jb (bO rfl) ?_
 refine nt ?_
 refine ag ?_
 refine bu rfl (fun hb=>?_) (fun hb=>?_)
 ·
  replace h:=bD (ln hb) h;obtain⟨x,ex,h⟩:=aa h;obtain⟨r1,e,h⟩:=aa h;obtain⟨w,ew,h⟩:=aa h;have cl:=pS k t x q5 r1 y m z e;refine sk (ag (ao (sr (jb (bH (t:=dQ) rfl H2 fj ex) ?_))));refine ja (au (t:=dQ) rfl fj rfl) ?_;refine ay rfl rfl rfl (ba rfl pN sM) trivial fun c=>?_;refine aX rfl rfl (aO rfl fj rfl rfl rfl) ⟨rfl,rfl,trivial⟩ ?_;refine nt (sr (mq ?_));refine ka (ap rfl fj (vq) rfl) ?_;refine bX (eV (Δ':=([.inv m (aQ k t)]++([.obj y 128 (.agg (.pair (.at ak (t,.map (some m))) (.eq z.1)))]++eZ 23 z q5))++[.obj c 131 (.rep dQ x),.obj b7 131 (.rep dQ q2),.obj b4 131 (.rep dQ (0,0))]) (List.perm_append_comm (l₁:=([.obj c 131 (.rep dQ x),.obj b7 131 (.rep dQ q2),.obj b4 131 (.rep dQ (0,0))]:List D)))) ?_;refine bI (Δ:=_++_) (F:=[_,_,_]) (fun _ _ _=>ar rfl _) rfl rfl (mK (fs:=[bP y]) (cs:=[]) (ags:=[.rep dQ x]) [.tmp 20] rfl rfl Hv rfl cl) ⟨rfl,rfl,trivial⟩ fun _=>?_;refine aq ?_;refine bX (eV (Δ':=[.obj c 131 (.rep dQ x),.obj b7 131 (.rep dQ q2),.obj b4 131 (.rep dQ (0,0))]++([.inv m (aQ k t)]++([.obj y 128 (.agg (.pair (.at ak (t,.map (some m))) (.eq z.1)))]++eZ 23 z r1.2))) List.perm_append_comm) ?_;refine nt ?_;cases q4 with
  |false=>
   refine sr (mq ?_);refine ja (dA rfl) ?_;refine mq ?_;iterate 3 refine gn ?_
   refine pt (nt ?_);refine bu rfl (fun hb=>?_) (fun hb=>(by cases hb));refine ab (ka (ap rfl fj (vq) rfl) ?_);refine mq ?_;refine fr 1 ?_;refine aX rfl rfl (aO rfl fj rfl rfl rfl) ⟨rfl,rfl,trivial⟩ ?_;refine aq ?_;refine cq (an (aI (tn (ab ?_))));refine jb (bM rfl ew) ?_;refine mq (nl ?_);exact g9 ((),(w,x,r1.1,true,r1.2)) h (bi [.obj b7 131 (.rep dQ x),.obj c 131 (.rep dQ x),.obj b4 131 (.rep dQ (0,0)),.inv m (aQ k t),.obj y 128 (.agg (.pair (.at ak (t,.map (some m))) (.eq z.1)))] (eZ 23 z r1.2) [0,2,3,4] ⟨rfl,rfl,rfl,rfl,rfl,rfl,rfl,rfl,trivial⟩ rfl)
  |true=>
   refine sr (mq ?_);refine ja (dA rfl) ?_;refine mq ?_;refine gm ?_;refine gm ?_;refine gb (bO rfl) ?_;refine pf (nt ?_);refine bu rfl (fun hb=>?_) (fun hb=>?_)
   ·replace h:(fE k t xs n (w,x,r1.1,true,r1.2)).bind some=some r:=by
     have hd:r1.1 < q3:=of_decide_eq_true hb;simpa [hd] using h
    refine ab (ka (ap rfl fj (vq) rfl) ?_);refine mq ?_;refine fr 1 ?_;refine aX rfl rfl (aO rfl fj rfl rfl rfl) ⟨rfl,rfl,trivial⟩ ?_;refine aq ?_;refine cq (an (aI (tn (ab ?_))));refine jb (bM rfl ew) ?_;refine mq (nl ?_);exact g9 ((),(w,x,r1.1,true,r1.2)) h (bi [.obj b7 131 (.rep dQ x),.obj c 131 (.rep dQ x),.obj b4 131 (.rep dQ (0,0)),.inv m (aQ k t),.obj y 128 (.agg (.pair (.at ak (t,.map (some m))) (.eq z.1)))] (eZ 23 z r1.2) [0,2,3,4] ⟨rfl,rfl,rfl,rfl,rfl,rfl,rfl,rfl,trivial⟩ rfl)
   ·replace h:(fE k t xs n (w,q2,q3,true,r1.2)).bind some=some r:=by
     have hd:¬r1.1 < q3:=of_decide_eq_false hb;simpa [hd] using h
    refine aU (aI (tn (ab (jb (bM rfl ew) ?_))));refine mq (nl ?_);exact g9 ((),(w,q2,q3,true,r1.2)) h (bi [.obj c 131 (.rep dQ x),.obj b7 131 (.rep dQ q2),.obj b4 131 (.rep dQ (0,0)),.inv m (aQ k t),.obj y 128 (.agg (.pair (.at ak (t,.map (some m))) (.eq z.1)))] (eZ 23 z r1.2) [1,2,3,4] ⟨rfl,rfl,rfl,rfl,rfl,rfl,rfl,rfl,trivial⟩ rfl)
 replace h:=aP (kV hb) h
 refine dM ?_
 refine aZ ?_
 refine aZ ?_
 refine bY ?_
 refine tn ?_
 cases h
 refine sr ?_
 refine ka (ap rfl fj (vq) rfl) ?_
 iterate 2 refine mq ?_
 refine fr 1 ?_
 refine aX rfl rfl (aO rfl fj rfl rfl rfl) ⟨rfl,rfl,trivial⟩ ?_
 refine aq ?_
 refine aq ?_
 refine nt ?_
 refine aA ?_
 refine bf (eV (Δ':=([.inv m (aQ k t),.obj y 128 (.agg (.pair (.at ak (t,.map (some m))) (.eq z.1)))]++eZ 23 z q5)++[.obj b4 131 (.rep dQ q2),.obj b7 131 (.rep dQ q2)]) (List.perm_append_comm (l₁:=([.obj b4 131 (.rep dQ q2),.obj b7 131 (.rep dQ q2)]:List D)))) ?_
 exact aC () [_,_,_] ([.inv m (aQ k t),.obj y 128 (.agg (.pair (.at ak (t,.map (some m))) (.eq z.1)))]++eZ 23 z q5:List D).length ⟨⟨b4,131,.rep dQ q2,2,true,rfl,List.mem_append.2 (.inr (List.mem_cons_self ..)),fj,vq,rfl⟩,rfl,rfl,trivial⟩ (by rw [List.take_left])
theorem nR:ah Tryz.prog 97:=ah.of Tryz.func97 (by kernel_rfl) (by kernel_rfl)
theorem JE:ah Tryz.prog 48:=ah.of Tryz.func48 (by kernel_rfl) (by kernel_rfl)
theorem JB:ah Tryz.prog 84:=ah.of Tryz.func84 (by kernel_rfl) (by kernel_rfl)
theorem Jy:ah Tryz.prog 98:=ah.of Tryz.func98 (by kernel_rfl) (by kernel_rfl)
theorem Jx:ah Tryz.prog 99:=ah.of Tryz.func99 (by kernel_rfl) (by kernel_rfl)
theorem FY:dc Tryz.prog 22 1 false:=⟨fun w=>by kernel_rfl,fun w=>by kernel_rfl⟩
theorem Gj:aY Tryz.prog 25 1 1:=aY.of (by kernel_rfl)
theorem mo:kx Tryz.prog 28 23 1 24:=.of (z:=(.slice none 0 0)) nS (by kernel_rfl) rfl rfl rfl
theorem Ba:kx Tryz.prog 129 131 2 16:=.of (z:=(.agg #[.int .i64 0,.int .i64 0])) H2 (by kernel_rfl) rfl rfl rfl
theorem GX:xp Tryz.prog 128 #[(0,1),(1,1)]:=⟨_,LX,fun _=>by kernel_rfl⟩
theorem GF:∀w,(zeroValue 128).run Tryz.prog w= .ok (.agg #[.pointer none,.slice none 0 0]) w:=fun w=>by kernel_rfl
theorem HT:∀S w,(A.cells S w (.pair (.eq (.pointer none)) (.eq (.slice none 0 0))) (Value.cells (.agg #[.pointer none,.slice none 0 0])).toList):=fun _ _=>⟨[_],_,rfl,⟨rfl,rfl⟩,rfl,rfl⟩
theorem GW:xp Tryz.prog 131 #[(0,1),(1,1)]:=⟨_,LW,fun _=>by kernel_rfl⟩
theorem Ft:∀S w,(A.cells S w (.pair (I 0) (I 0)) (Value.cells (.agg #[.int .i64 0,.int .i64 0])).toList):=fun _ _=>⟨[_],_,rfl,⟨rfl,rfl⟩,rfl,rfl⟩
def dZ:List Bool→Ga→Ga
 |true::l,e::g=>e::dZ l g
 |false::l,_::g=>dZ l g
 |_,_=>[]
def kM(y:Nat)(z1:Value)(l:List Int)(v v2:Value):Ga:=[(39,.eq (bP y)),(40,.eq (bP y)),(41,.eq (bP y)),(42,.eq (.pointer (some ⟨y,0+1,none⟩))),(43,.eq z1),(44,Ri l),(45,.eq v),(46,.rep (.slice .val) [v]),(47,.eq v2),(48,.eq (bP y)),(49,.eq (.pointer (some ⟨y,0+1,none⟩)))]
def jV(b2 y:Nat)(n i:Int)(l:List Int)(a1:List (List Int)):Ga:=[(2,.eq (bP b2)),(8,I n),(10,.eq (bP y)),(12,Ri l),(33,.rep (.slice (.slice (.int .i64))) a1),(34,I (a1.length:Int)),(35,I i)]
theorem KG{i j:Int}:AE (.agg (.pair (I i) (I j))) (.rep dQ (i,j)):=fun S w cs h=>by
 obtain⟨c1,c2,e,h1,h2⟩:=h
 exact⟨c1,c2,e,h1.1,h2.1⟩
def kK(k:Nat)(a1:List (List Int)):Nat→Int×List (List Int)→Option (List (List Int))
 |0,_=>none
 |n+1,q=>if q.1 < (a1.length:Int) then((cd a1 q.1).bind fun l=>(iP k l).bind fun l2=>if cg (q.2.length+1) then(ck (q.1+1)).bind fun w=>kK k a1 n (w,q.2++[l2]) else none) else some q.2
def iS(k:Nat)(t:bC)(i:Int):Nat→Int×List (Int×Int)×List (List Int)→Option (List (Int×Int)×List (List Int))
 |0,_=>none
 |n+1,q=>if q.1 < (t.2.1.length:Int) then((k7 k t (i,q.1) q.2.2).bind fun r=>if r.1=true then(if cg (q.2.1.length+1) then(ck (q.1+1)).bind fun w=>iS k t i n (w,q.2.1++[(i,q.1)],r.2) else none) else(ck (q.1+1)).bind fun w=>iS k t i n (w,q.2.1,r.2)) else some q.2
def gX(k:Nat)(t:bC):Nat→Int×List (Int×Int)×List (List Int)→Option (List (Int×Int)×List (List Int))
 |0,_=>none
 |n+1,q=>if q.1 < (t.2.1.length:Int) then((ck (q.1+1)).bind fun w=>(iS k t q.1 k (w,q.2)).bind fun p=>gX k t n (w,p)) else some q.2
def oQ(k:Nat)(a0:bC)(a1:(List (List Int))):Option (Int×Int×Int×Int):=
 (jH k a0 a1).bind fun L=>if¬(L.2=0) then some (0,0,0,L.2) else
 (kK k a1 k (0,[])).bind fun ls=>(gX k a0 k (0,[],ls)).bind fun p=>(jQ k a0 p.1 p.2).bind fun b=>
 if(!b.2.2.1 || decide (L.1≤b.2.1))=true then some (0,0,0,11) else some (b.1.1,b.1.2,b.2.1,0)
theorem qJ(k:Nat)(a0:bC)(a1:(List (List Int)))(r:Int×Int×Int×Int)(h:oQ k a0 a1=some r):
 cH (fD Tryz.prog) 40 [.rep aL a0,.rep (.slice (.slice (.int .i64))) a1] [.inv 0 dP] (fun _:Unit=>(bG [.eq (.int .i64 r.1),.eq (.int .i64 r.2.1),.eq (.int .i64 r.2.2.1),.eq (.int .i64 r.2.2.2)],[.inv 0 dP])):=by
 unfold oQ at h
 replace h:=bq h
 refine cH.of 97 Tryz.func40 rfl Tryz.ntmps40 rfl fun S w0=>?_
 refine ag ?_
 refine ab ?_
 refine ay rfl rfl rfl (mL rfl rfl) ⟨rfl,trivial⟩ fun b2=>?_
 refine dn rfl ?_
 refine dn rfl ?_
 refine dn rfl ?_
 refine dn rfl ?_
 refine an ?_
 refine ae ?_
 show JC _ _ _ _ _
 obtain⟨L,eL,h⟩:=aa h
 have cL:=jy k a0 a1 L eL
 refine ag ?_
 refine ab ?_
 refine bL rfl rfl rfl (ap rfl A6 (vq) rfl) ⟨rfl,trivial⟩ ?_
 refine av rfl rfl ?_
 refine bz 1 rfl ?_
 refine bL rfl rfl rfl (cP [.tmp 21,.tmp 22] rfl rfl JE rfl cL) ⟨rfl,rfl,trivial⟩ ?_
 refine av rfl rfl ?_
 refine ax rfl (fF rfl rfl) ⟨rfl,trivial⟩ ?_
 refine ax rfl (fF rfl rfl) ⟨rfl,trivial⟩ ?_
 refine cS rfl rfl ?_
 refine cS rfl rfl ?_
 refine an ?_
 refine ae ?_
 show JC _ _ _ _ _
 refine ag ?_
 refine ag ?_
 refine ab ?_
 refine av rfl rfl ?_
 refine ax rfl (cm rfl) ⟨rfl,rfl,trivial⟩ ?_
 refine an ?_
 refine ae ?_
 show JC _ _ _ _ _
 refine bu rfl (fun hb=>?_) (fun hb=>?_)
 ·
  replace h:=bD (qR hb) h
  refine ag ?_
  refine ab ?_
  refine av rfl rfl ?_
  refine dn rfl ?_
  refine dn rfl ?_
  refine dn rfl ?_
  refine cS rfl rfl ?_
  refine an ?_
  refine ae ?_
  show JC _ _ _ _ _
  refine aA ?_
  refine aW ?_
  obtain rfl:=Option.some.inj h
  exact aC () [_,_,_,_] 1 ⟨rfl,rfl,rfl,rfl,trivial⟩ rfl
 replace h:=aP (iY hb) h
 refine aU ?_
 refine ae ?_
 show JC _ _ _ _ _
 rw [Option.bind_assoc] at h
 refine ag ?_
 refine ab ?_
 refine bz 1 rfl ?_
 refine bL rfl rfl rfl (ap rfl A6 (vq) rfl) ⟨rfl,trivial⟩ ?_
 refine ay rfl rfl rfl (aj [.tmp 29] rfl rfl JB rfl (cU a0)) ⟨rfl,trivial⟩ fun m=>?_
 refine bX (fH (aQ k a0) gf) ?_
 refine ax rfl (cK [(0,.tmp 30,_)] rfl GX GF HT (gy ⟨trivial,trivial⟩) rfl) ⟨rfl,trivial⟩ ?_
 refine ay rfl rfl rfl (mL rfl trivial) ⟨rfl,trivial⟩ fun y=>?_
 refine cS rfl rfl ?_
 refine an ?_
 refine ae ?_
 show JC _ _ _ _ _
 refine ag ?_
 refine ag ?_
 refine ab ?_
 refine av rfl rfl ?_
 refine ax rfl (kg rfl rfl nS) ⟨rfl,trivial⟩ ?_
 refine de rfl ?_
 refine bX (SE.nil 23 .val) ?_
 refine bX (eV (Δ':=[.obj y 128 (.agg (.pair (.at ak (a0,.map (some m))) (.eq (.slice none 0 0)))),.inv m (aQ k a0),.obj b2 25 (.rep aL a0),.inv 0 dP]++eZ 23 (.slice none 0 0,fun _=>undef) []) (List.Perm.trans (List.perm_append_comm (l₁:=([.sl (.slice none 0 0) 23 .val []]:List D))) (List.Perm.refl _))) ?_
 refine an ?_
 refine ae ?_
 show JC _ _ _ _ _
 refine ao ?_
 refine aR (Z:=Value×(Nat→Value)) (α:=Int×List (List Int)) (fun z q=>[(2,.eq (bP b2)),(8,.eq (.int .i64 L.1)),(10,.eq (bP y)),(33,.rep (.slice (.slice (.int .i64))) a1),(34,.eq (.int .i64 (a1.length:Int))),(35,.eq (.int .i64 q.1))]) (fun z q=>[.obj y 128 (.agg (.pair (.at ak (a0,.map (some m))) (.eq z.1))),.inv m (aQ k a0),.obj b2 25 (.rep aL a0),.inv 0 dP]++eZ 23 z q.2) (kK k a1) k (.slice none 0 0,fun _=>undef) (0,[]) (fun _=>rfl) h (bi [.obj y 128 (.agg (.pair (.at ak (a0,.map (some m))) (.eq (.slice none 0 0)))),.inv m (aQ k a0),.obj b2 25 (.rep aL a0),.inv 0 dP] (eZ 23 (.slice none 0 0,fun _=>undef) []) [0,1,2,3] ⟨rfl,rfl,rfl,rfl,rfl,rfl,trivial⟩ rfl) (fun n z q h=>?_)
 unfold kK at h
 refine ag ?_
 refine ab ?_
 refine ax rfl (bO rfl) ⟨rfl,rfl,trivial⟩ ?_
 refine an ?_
 refine ae ?_
 show JC _ _ _ _ _
 refine ag ?_
 refine bu rfl (fun hb=>?_) (fun hb=>?_)
 ·
  replace h:=bD (ln hb) h
  obtain⟨q1,q2⟩:=q
  obtain⟨l,el,h⟩:=aa h
  obtain⟨l2,el2,h⟩:=aa h
  have hk:cg (q2.length+1):=by
   apply Classical.byContradiction
   intro hn
   rw [if_neg hn] at h
   cases h
  replace h:=bD hk h
  have cc:=lC k l l2 el2
  refine aU ?_
  refine ae ?_
  show JC _ _ _ _ _
  refine ag ?_
  refine ao ?_
  refine ag ?_
  refine ab ?_
  refine ax rfl (bH (t:=.slice (.int .i64)) rfl nS yI el) ⟨rfl,rfl,trivial⟩ ?_
  refine ax rfl (au (t:=.slice (.int .i64)) rfl yI rfl) ⟨rfl,trivial⟩ ?_
  refine cS rfl rfl ?_
  refine an ?_
  refine ae ?_
  show JC _ _ _ _ _
  refine gr (vc (pre:=[.obj y 128 (.agg (.pair (.at ak (a0,.map (some m))) (.eq z.1))),.inv m (aQ k a0),.obj b2 25 (.rep aL a0),.inv 0 dP])) ?_
  refine cC 1 rfl ?_
  refine gr (SE.sub (Γ':=jV b2 y L.1 q1 l a1) ⟨rfl,rfl,rfl,rfl,rfl,rfl,rfl,trivial⟩) ?_
  generalize hB:jV b2 y L.1 q1 l a1=B
  refine xl (Δ:=[.obj y 128 (.agg (.pair (.at ak (a0,.map (some m))) (.eq z.1))),.sl z.1 23 .val (d3 z.2 0 q2)]) (F:=[.inv m (aQ k a0),.obj b2 25 (.rep aL a0),.inv 0 dP]++kA z.2 0 q2) (Z:=Value×Value) (fun p=>B) (fun p=>[.obj y 128 (.agg (.pair (.at ak (a0,.map (some m))) (.eq p.2))),.sl p.2 23 .val (d3 z.2 0 q2++[p.1]),.sl p.1 3 (.int .i64) l2]) (fun S w=>?_) (fun p=>?_)
  ·
   subst hB
   refine DX (I:=Value×Value) (Ge:=fun _=>jV b2 y L.1 q1 l a1) (De:=fun p=>[.obj y 128 (.agg (.pair (.at ak (a0,.map (some m))) (.eq p.2))),.sl p.2 23 .val (d3 z.2 0 q2++[p.1]),.sl p.1 3 (.int .i64) l2]) (L:=[true,true,true,true,true,true,true,true,true,true,true,true]) oq rfl (fun J hJ hE=>?_) (by kernel_rfl) (fun p=>?_)
   ·
    have s2047:∀(v v2:Value),J 1 [true,true,true,true,true,true,true,true,true,true,true,false] (dZ [true,true,true,true,true,true,true,true,true,true,true,false] (kM y z.1 l v v2)++jV b2 y L.1 q1 l a1) [.obj y 128 (.agg (.pair (.at ak (a0,.map (some m))) (.eq z.1))),.sl v2 23 .val (d3 z.2 0 q2++[v]),.sl v 3 (.int .i64) l2]:=fun v v2=>by
     subst hJ
     refine JD.step [11] (by kernel_rfl) rfl ?_
     refine dW.cons rfl ?_ ?_
     ·
      refine bz 1 rfl ?_
      refine eY fun hv=>?_
      refine bz 1 rfl ?_
      refine aX rfl rfl (aO rfl mm hv rfl rfl) ⟨rfl,rfl,trivial⟩ ?_
      exact aV (hE (v,v2)) [0,1,2] ⟨rfl,rfl,rfl,rfl,rfl,rfl,rfl,trivial⟩
     exact trivial
    have s1023:∀(v v2:Value),J 2 [true,true,true,true,true,true,true,true,true,true,false,false] (dZ [true,true,true,true,true,true,true,true,true,true,false,false] (kM y z.1 l v v2)++jV b2 y L.1 q1 l a1) [.obj y 128 (.agg (.pair (.at ak (a0,.map (some m))) (.eq z.1))),.sl v2 23 .val (d3 z.2 0 q2++[v]),.sl v 3 (.int .i64) l2]:=fun v v2=>by
     subst hJ
     refine JD.step [10] (by kernel_rfl) rfl ?_
     refine dW.cons rfl ?_ ?_
     ·
      refine ax rfl (aD rfl rc) ⟨rfl,trivial⟩ ?_
      exact aV (s2047 v v2) [0,1,2] ⟨rfl,rfl,rfl,rfl,rfl,rfl,rfl,rfl,rfl,rfl,rfl,rfl,rfl,rfl,rfl,rfl,rfl,rfl,trivial⟩
     exact trivial
    have s511:∀(v v2:Value),J 3 [true,true,true,true,true,true,true,true,true,false,false,false] (dZ [true,true,true,true,true,true,true,true,true,false,false,false] (kM y z.1 l v v2)++jV b2 y L.1 q1 l a1) [.obj y 128 (.agg (.pair (.at ak (a0,.map (some m))) (.eq z.1))),.sl v2 23 .val (d3 z.2 0 q2++[v]),.sl v 3 (.int .i64) l2]:=fun v v2=>by
     subst hJ
     refine JD.step [9] (by kernel_rfl) rfl ?_
     refine dW.cons rfl ?_ ?_
     ·
      refine ax rfl (bK rfl) ⟨rfl,trivial⟩ ?_
      exact aV (s1023 v v2) [0,1,2] ⟨rfl,rfl,rfl,rfl,rfl,rfl,rfl,rfl,rfl,rfl,rfl,rfl,rfl,rfl,rfl,rfl,rfl,trivial⟩
     exact trivial
    have s255:∀(v:Value),J 4 [true,true,true,true,true,true,true,true,false,false,false,false] (dZ [true,true,true,true,true,true,true,true,false,false,false,false] (kM y z.1 l v undef)++jV b2 y L.1 q1 l a1) [.obj y 128 (.agg (.pair (.at ak (a0,.map (some m))) (.eq z.1))),.sl z.1 23 .val (d3 z.2 0 q2),.sl v 3 (.int .i64) l2]:=fun v=>by
     subst hJ
     refine JD.step [8] (by kernel_rfl) rfl ?_
     refine dW.cons rfl ?_ ?_
     ·
      refine bz 1 rfl ?_
      refine eh rfl rfl rfl (cV rfl rfl mo (by simpa [eK] using hk)) ⟨rfl,rfl,trivial⟩ fun v2=>?_
      exact aV (s511 v v2) [1,0,2] ⟨rfl,rfl,rfl,rfl,rfl,rfl,rfl,rfl,rfl,rfl,rfl,rfl,rfl,rfl,rfl,rfl,trivial⟩
     exact trivial
    have s510:∀(v v2:Value),J 4 [false,true,true,true,true,true,true,true,true,false,false,false] (dZ [false,true,true,true,true,true,true,true,true,false,false,false] (kM y z.1 l v v2)++jV b2 y L.1 q1 l a1) [.obj y 128 (.agg (.pair (.at ak (a0,.map (some m))) (.eq z.1))),.sl v2 23 .val (d3 z.2 0 q2++[v]),.sl v 3 (.int .i64) l2]:=fun v v2=>by
     subst hJ
     refine JD.step [0] (by kernel_rfl) rfl ?_
     refine dW.cons rfl ?_ ?_
     ·
      refine av rfl rfl ?_
      exact aV (s511 v v2) [0,1,2] ⟨rfl,rfl,rfl,rfl,rfl,rfl,rfl,rfl,rfl,rfl,rfl,rfl,rfl,rfl,rfl,rfl,trivial⟩
     exact trivial
    have s127:∀(v:Value),J 5 [true,true,true,true,true,true,true,false,false,false,false,false] (dZ [true,true,true,true,true,true,true,false,false,false,false,false] (kM y z.1 l v undef)++jV b2 y L.1 q1 l a1) [.obj y 128 (.agg (.pair (.at ak (a0,.map (some m))) (.eq z.1))),.sl z.1 23 .val (d3 z.2 0 q2),.sl v 3 (.int .i64) l2]:=fun v=>by
     subst hJ
     refine JD.step [7] (by kernel_rfl) rfl ?_
     refine dW.cons rfl ?_ ?_
     ·
      refine bz 2 rfl ?_
      refine eY fun hv=>?_
      refine ax rfl (aJ (t:=.val) [(.tmp 45,.eq v)] [v] rfl rfl mo (.cons hv (.val hv) .nil) rfl rfl) ⟨rfl,trivial⟩ ?_
      exact aV (s255 v) [1,2,0] ⟨rfl,rfl,rfl,rfl,rfl,rfl,rfl,rfl,rfl,rfl,rfl,rfl,rfl,rfl,rfl,trivial⟩
     exact trivial
    have s239:∀(v:Value),J 5 [true,true,true,true,false,true,true,true,false,false,false,false] (dZ [true,true,true,true,false,true,true,true,false,false,false,false] (kM y z.1 l v undef)++jV b2 y L.1 q1 l a1) [.obj y 128 (.agg (.pair (.at ak (a0,.map (some m))) (.eq z.1))),.sl z.1 23 .val (d3 z.2 0 q2),.sl v 3 (.int .i64) l2]:=fun v=>by
     subst hJ
     refine JD.step [4] (by kernel_rfl) rfl ?_
     refine dW.cons rfl ?_ ?_
     ·
      refine bL rfl rfl rfl (ap rfl mm np rfl) ⟨rfl,trivial⟩ ?_
      exact aV (s255 v) [0,1,2] ⟨rfl,rfl,rfl,rfl,rfl,rfl,rfl,rfl,rfl,rfl,rfl,rfl,rfl,rfl,rfl,trivial⟩
     exact trivial
    have s254:∀(v:Value),J 5 [false,true,true,true,true,true,true,true,false,false,false,false] (dZ [false,true,true,true,true,true,true,true,false,false,false,false] (kM y z.1 l v undef)++jV b2 y L.1 q1 l a1) [.obj y 128 (.agg (.pair (.at ak (a0,.map (some m))) (.eq z.1))),.sl z.1 23 .val (d3 z.2 0 q2),.sl v 3 (.int .i64) l2]:=fun v=>by
     subst hJ
     refine JD.step [0,8] (by kernel_rfl) rfl ?_
     refine dW.cons rfl ?_ ?_
     ·
      refine av rfl rfl ?_
      exact aV (s255 v) [0,1,2] ⟨rfl,rfl,rfl,rfl,rfl,rfl,rfl,rfl,rfl,rfl,rfl,rfl,rfl,rfl,rfl,trivial⟩
     refine dW.cons rfl ?_ ?_
     ·
      refine bz 1 rfl ?_
      refine eh rfl rfl rfl (cV rfl rfl mo (by simpa [eK] using hk)) ⟨rfl,rfl,trivial⟩ fun v2=>?_
      exact aV (s510 v v2) [1,0,2] ⟨rfl,rfl,rfl,rfl,rfl,rfl,rfl,rfl,rfl,rfl,rfl,rfl,rfl,rfl,rfl,trivial⟩
     exact trivial
    have s63:J 6 [true,true,true,true,true,true,false,false,false,false,false,false] (dZ [true,true,true,true,true,true,false,false,false,false,false,false] (kM y z.1 l undef undef)++jV b2 y L.1 q1 l a1) [.obj y 128 (.agg (.pair (.at ak (a0,.map (some m))) (.eq z.1))),.sl z.1 23 .val (d3 z.2 0 q2)]:=by
     subst hJ
     refine JD.step [6] (by kernel_rfl) rfl ?_
     refine dW.cons rfl ?_ ?_
     ·
      refine ay rfl rfl rfl (aj [.tmp 44] rfl rfl nR rfl cc) ⟨rfl,trivial⟩ fun v=>?_
      exact aV (s127 v) [1,2,0] ⟨rfl,rfl,rfl,rfl,rfl,rfl,rfl,rfl,rfl,rfl,rfl,rfl,rfl,rfl,trivial⟩
     exact trivial
    have s111:∀(v:Value),J 6 [true,true,true,true,false,true,true,false,false,false,false,false] (dZ [true,true,true,true,false,true,true,false,false,false,false,false] (kM y z.1 l v undef)++jV b2 y L.1 q1 l a1) [.obj y 128 (.agg (.pair (.at ak (a0,.map (some m))) (.eq z.1))),.sl z.1 23 .val (d3 z.2 0 q2),.sl v 3 (.int .i64) l2]:=fun v=>by
     subst hJ
     refine JD.step [4,7] (by kernel_rfl) rfl ?_
     refine dW.cons rfl ?_ ?_
     ·
      refine bL rfl rfl rfl (ap rfl mm np rfl) ⟨rfl,trivial⟩ ?_
      exact aV (s127 v) [0,1,2] ⟨rfl,rfl,rfl,rfl,rfl,rfl,rfl,rfl,rfl,rfl,rfl,rfl,rfl,rfl,trivial⟩
     refine dW.cons rfl ?_ ?_
     ·
      refine bz 2 rfl ?_
      refine eY fun hv=>?_
      refine ax rfl (aJ (t:=.val) [(.tmp 45,.eq v)] [v] rfl rfl mo (.cons hv (.val hv) .nil) rfl rfl) ⟨rfl,trivial⟩ ?_
      exact aV (s239 v) [1,2,0] ⟨rfl,rfl,rfl,rfl,rfl,rfl,rfl,rfl,rfl,rfl,rfl,rfl,rfl,rfl,trivial⟩
     exact trivial
    have s126:∀(v:Value),J 6 [false,true,true,true,true,true,true,false,false,false,false,false] (dZ [false,true,true,true,true,true,true,false,false,false,false,false] (kM y z.1 l v undef)++jV b2 y L.1 q1 l a1) [.obj y 128 (.agg (.pair (.at ak (a0,.map (some m))) (.eq z.1))),.sl z.1 23 .val (d3 z.2 0 q2),.sl v 3 (.int .i64) l2]:=fun v=>by
     subst hJ
     refine JD.step [0,7] (by kernel_rfl) rfl ?_
     refine dW.cons rfl ?_ ?_
     ·
      refine av rfl rfl ?_
      exact aV (s127 v) [0,1,2] ⟨rfl,rfl,rfl,rfl,rfl,rfl,rfl,rfl,rfl,rfl,rfl,rfl,rfl,rfl,trivial⟩
     refine dW.cons rfl ?_ ?_
     ·
      refine bz 2 rfl ?_
      refine eY fun hv=>?_
      refine ax rfl (aJ (t:=.val) [(.tmp 45,.eq v)] [v] rfl rfl mo (.cons hv (.val hv) .nil) rfl rfl) ⟨rfl,trivial⟩ ?_
      exact aV (s254 v) [1,2,0] ⟨rfl,rfl,rfl,rfl,rfl,rfl,rfl,rfl,rfl,rfl,rfl,rfl,rfl,rfl,trivial⟩
     exact trivial
    have s231:∀(v:Value),J 6 [true,true,true,false,false,true,true,true,false,false,false,false] (dZ [true,true,true,false,false,true,true,true,false,false,false,false] (kM y z.1 l v undef)++jV b2 y L.1 q1 l a1) [.obj y 128 (.agg (.pair (.at ak (a0,.map (some m))) (.eq z.1))),.sl z.1 23 .val (d3 z.2 0 q2),.sl v 3 (.int .i64) l2]:=fun v=>by
     subst hJ
     refine JD.step [3] (by kernel_rfl) rfl ?_
     refine dW.cons rfl ?_ ?_
     ·
      refine ax rfl (aD rfl rc) ⟨rfl,trivial⟩ ?_
      exact aV (s239 v) [0,1,2] ⟨rfl,rfl,rfl,rfl,rfl,rfl,rfl,rfl,rfl,rfl,rfl,rfl,rfl,rfl,trivial⟩
     exact trivial
    have s238:∀(v:Value),J 6 [false,true,true,true,false,true,true,true,false,false,false,false] (dZ [false,true,true,true,false,true,true,true,false,false,false,false] (kM y z.1 l v undef)++jV b2 y L.1 q1 l a1) [.obj y 128 (.agg (.pair (.at ak (a0,.map (some m))) (.eq z.1))),.sl z.1 23 .val (d3 z.2 0 q2),.sl v 3 (.int .i64) l2]:=fun v=>by
     subst hJ
     refine JD.step [0,4] (by kernel_rfl) rfl ?_
     refine dW.cons rfl ?_ ?_
     ·
      refine av rfl rfl ?_
      exact aV (s239 v) [0,1,2] ⟨rfl,rfl,rfl,rfl,rfl,rfl,rfl,rfl,rfl,rfl,rfl,rfl,rfl,rfl,trivial⟩
     refine dW.cons rfl ?_ ?_
     ·
      refine bL rfl rfl rfl (ap rfl mm np rfl) ⟨rfl,trivial⟩ ?_
      exact aV (s254 v) [0,1,2] ⟨rfl,rfl,rfl,rfl,rfl,rfl,rfl,rfl,rfl,rfl,rfl,rfl,rfl,rfl,trivial⟩
     exact trivial
    have s31:J 7 [true,true,true,true,true,false,false,false,false,false,false,false] (dZ [true,true,true,true,true,false,false,false,false,false,false,false] (kM y z.1 l undef undef)++jV b2 y L.1 q1 l a1) [.obj y 128 (.agg (.pair (.at ak (a0,.map (some m))) (.eq z.1))),.sl z.1 23 .val (d3 z.2 0 q2)]:=by
     subst hJ
     refine JD.step [5] (by kernel_rfl) rfl ?_
     refine dW.cons rfl ?_ ?_
     ·
      refine av rfl rfl ?_
      exact aV (s63) [0,1] ⟨rfl,rfl,rfl,rfl,rfl,rfl,rfl,rfl,rfl,rfl,rfl,rfl,rfl,trivial⟩
     exact trivial
    have s47:J 7 [true,true,true,true,false,true,false,false,false,false,false,false] (dZ [true,true,true,true,false,true,false,false,false,false,false,false] (kM y z.1 l undef undef)++jV b2 y L.1 q1 l a1) [.obj y 128 (.agg (.pair (.at ak (a0,.map (some m))) (.eq z.1))),.sl z.1 23 .val (d3 z.2 0 q2)]:=by
     subst hJ
     refine JD.step [4,6] (by kernel_rfl) rfl ?_
     refine dW.cons rfl ?_ ?_
     ·
      refine bL rfl rfl rfl (ap rfl mm np rfl) ⟨rfl,trivial⟩ ?_
      exact aV (s63) [0,1] ⟨rfl,rfl,rfl,rfl,rfl,rfl,rfl,rfl,rfl,rfl,rfl,rfl,rfl,trivial⟩
     refine dW.cons rfl ?_ ?_
     ·
      refine ay rfl rfl rfl (aj [.tmp 44] rfl rfl nR rfl cc) ⟨rfl,trivial⟩ fun v=>?_
      exact aV (s111 v) [1,2,0] ⟨rfl,rfl,rfl,rfl,rfl,rfl,rfl,rfl,rfl,rfl,rfl,rfl,rfl,trivial⟩
     exact trivial
    have s62:J 7 [false,true,true,true,true,true,false,false,false,false,false,false] (dZ [false,true,true,true,true,true,false,false,false,false,false,false] (kM y z.1 l undef undef)++jV b2 y L.1 q1 l a1) [.obj y 128 (.agg (.pair (.at ak (a0,.map (some m))) (.eq z.1))),.sl z.1 23 .val (d3 z.2 0 q2)]:=by
     subst hJ
     refine JD.step [0,6] (by kernel_rfl) rfl ?_
     refine dW.cons rfl ?_ ?_
     ·
      refine av rfl rfl ?_
      exact aV (s63) [0,1] ⟨rfl,rfl,rfl,rfl,rfl,rfl,rfl,rfl,rfl,rfl,rfl,rfl,rfl,trivial⟩
     refine dW.cons rfl ?_ ?_
     ·
      refine ay rfl rfl rfl (aj [.tmp 44] rfl rfl nR rfl cc) ⟨rfl,trivial⟩ fun v=>?_
      exact aV (s126 v) [1,2,0] ⟨rfl,rfl,rfl,rfl,rfl,rfl,rfl,rfl,rfl,rfl,rfl,rfl,rfl,trivial⟩
     exact trivial
    have s103:∀(v:Value),J 7 [true,true,true,false,false,true,true,false,false,false,false,false] (dZ [true,true,true,false,false,true,true,false,false,false,false,false] (kM y z.1 l v undef)++jV b2 y L.1 q1 l a1) [.obj y 128 (.agg (.pair (.at ak (a0,.map (some m))) (.eq z.1))),.sl z.1 23 .val (d3 z.2 0 q2),.sl v 3 (.int .i64) l2]:=fun v=>by
     subst hJ
     refine JD.step [3,7] (by kernel_rfl) rfl ?_
     refine dW.cons rfl ?_ ?_
     ·
      refine ax rfl (aD rfl rc) ⟨rfl,trivial⟩ ?_
      exact aV (s111 v) [0,1,2] ⟨rfl,rfl,rfl,rfl,rfl,rfl,rfl,rfl,rfl,rfl,rfl,rfl,rfl,trivial⟩
     refine dW.cons rfl ?_ ?_
     ·
      refine bz 2 rfl ?_
      refine eY fun hv=>?_
      refine ax rfl (aJ (t:=.val) [(.tmp 45,.eq v)] [v] rfl rfl mo (.cons hv (.val hv) .nil) rfl rfl) ⟨rfl,trivial⟩ ?_
      exact aV (s231 v) [1,2,0] ⟨rfl,rfl,rfl,rfl,rfl,rfl,rfl,rfl,rfl,rfl,rfl,rfl,rfl,trivial⟩
     exact trivial
    have s110:∀(v:Value),J 7 [false,true,true,true,false,true,true,false,false,false,false,false] (dZ [false,true,true,true,false,true,true,false,false,false,false,false] (kM y z.1 l v undef)++jV b2 y L.1 q1 l a1) [.obj y 128 (.agg (.pair (.at ak (a0,.map (some m))) (.eq z.1))),.sl z.1 23 .val (d3 z.2 0 q2),.sl v 3 (.int .i64) l2]:=fun v=>by
     subst hJ
     refine JD.step [0,4,7] (by kernel_rfl) rfl ?_
     refine dW.cons rfl ?_ ?_
     ·
      refine av rfl rfl ?_
      exact aV (s111 v) [0,1,2] ⟨rfl,rfl,rfl,rfl,rfl,rfl,rfl,rfl,rfl,rfl,rfl,rfl,rfl,trivial⟩
     refine dW.cons rfl ?_ ?_
     ·
      refine bL rfl rfl rfl (ap rfl mm np rfl) ⟨rfl,trivial⟩ ?_
      exact aV (s126 v) [0,1,2] ⟨rfl,rfl,rfl,rfl,rfl,rfl,rfl,rfl,rfl,rfl,rfl,rfl,rfl,trivial⟩
     refine dW.cons rfl ?_ ?_
     ·
      refine bz 2 rfl ?_
      refine eY fun hv=>?_
      refine ax rfl (aJ (t:=.val) [(.tmp 45,.eq v)] [v] rfl rfl mo (.cons hv (.val hv) .nil) rfl rfl) ⟨rfl,trivial⟩ ?_
      exact aV (s238 v) [1,2,0] ⟨rfl,rfl,rfl,rfl,rfl,rfl,rfl,rfl,rfl,rfl,rfl,rfl,rfl,trivial⟩
     exact trivial
    have s227:∀(v:Value),J 7 [true,true,false,false,false,true,true,true,false,false,false,false] (dZ [true,true,false,false,false,true,true,true,false,false,false,false] (kM y z.1 l v undef)++jV b2 y L.1 q1 l a1) [.obj y 128 (.agg (.pair (.at ak (a0,.map (some m))) (.eq z.1))),.sl z.1 23 .val (d3 z.2 0 q2),.sl v 3 (.int .i64) l2]:=fun v=>by
     subst hJ
     refine JD.step [2] (by kernel_rfl) rfl ?_
     refine dW.cons rfl ?_ ?_
     ·
      refine ax rfl (bK rfl) ⟨rfl,trivial⟩ ?_
      exact aV (s231 v) [0,1,2] ⟨rfl,rfl,rfl,rfl,rfl,rfl,rfl,rfl,rfl,rfl,rfl,rfl,rfl,trivial⟩
     exact trivial
    have s230:∀(v:Value),J 7 [false,true,true,false,false,true,true,true,false,false,false,false] (dZ [false,true,true,false,false,true,true,true,false,false,false,false] (kM y z.1 l v undef)++jV b2 y L.1 q1 l a1) [.obj y 128 (.agg (.pair (.at ak (a0,.map (some m))) (.eq z.1))),.sl z.1 23 .val (d3 z.2 0 q2),.sl v 3 (.int .i64) l2]:=fun v=>by
     subst hJ
     refine JD.step [0,3] (by kernel_rfl) rfl ?_
     refine dW.cons rfl ?_ ?_
     ·
      refine av rfl rfl ?_
      exact aV (s231 v) [0,1,2] ⟨rfl,rfl,rfl,rfl,rfl,rfl,rfl,rfl,rfl,rfl,rfl,rfl,rfl,trivial⟩
     refine dW.cons rfl ?_ ?_
     ·
      refine ax rfl (aD rfl rc) ⟨rfl,trivial⟩ ?_
      exact aV (s238 v) [0,1,2] ⟨rfl,rfl,rfl,rfl,rfl,rfl,rfl,rfl,rfl,rfl,rfl,rfl,rfl,trivial⟩
     exact trivial
    have s15:J 8 [true,true,true,true,false,false,false,false,false,false,false,false] (dZ [true,true,true,true,false,false,false,false,false,false,false,false] (kM y z.1 l undef undef)++jV b2 y L.1 q1 l a1) [.obj y 128 (.agg (.pair (.at ak (a0,.map (some m))) (.eq z.1))),.sl z.1 23 .val (d3 z.2 0 q2)]:=by
     subst hJ
     refine JD.step [4,5] (by kernel_rfl) rfl ?_
     refine dW.cons rfl ?_ ?_
     ·
      refine bL rfl rfl rfl (ap rfl mm np rfl) ⟨rfl,trivial⟩ ?_
      exact aV (s31) [0,1] ⟨rfl,rfl,rfl,rfl,rfl,rfl,rfl,rfl,rfl,rfl,rfl,rfl,trivial⟩
     refine dW.cons rfl ?_ ?_
     ·
      refine av rfl rfl ?_
      exact aV (s47) [0,1] ⟨rfl,rfl,rfl,rfl,rfl,rfl,rfl,rfl,rfl,rfl,rfl,rfl,trivial⟩
     exact trivial
    have s30:J 8 [false,true,true,true,true,false,false,false,false,false,false,false] (dZ [false,true,true,true,true,false,false,false,false,false,false,false] (kM y z.1 l undef undef)++jV b2 y L.1 q1 l a1) [.obj y 128 (.agg (.pair (.at ak (a0,.map (some m))) (.eq z.1))),.sl z.1 23 .val (d3 z.2 0 q2)]:=by
     subst hJ
     refine JD.step [0,5] (by kernel_rfl) rfl ?_
     refine dW.cons rfl ?_ ?_
     ·
      refine av rfl rfl ?_
      exact aV (s31) [0,1] ⟨rfl,rfl,rfl,rfl,rfl,rfl,rfl,rfl,rfl,rfl,rfl,rfl,trivial⟩
     refine dW.cons rfl ?_ ?_
     ·
      refine av rfl rfl ?_
      exact aV (s62) [0,1] ⟨rfl,rfl,rfl,rfl,rfl,rfl,rfl,rfl,rfl,rfl,rfl,rfl,trivial⟩
     exact trivial
    have s39:J 8 [true,true,true,false,false,true,false,false,false,false,false,false] (dZ [true,true,true,false,false,true,false,false,false,false,false,false] (kM y z.1 l undef undef)++jV b2 y L.1 q1 l a1) [.obj y 128 (.agg (.pair (.at ak (a0,.map (some m))) (.eq z.1))),.sl z.1 23 .val (d3 z.2 0 q2)]:=by
     subst hJ
     refine JD.step [3,6] (by kernel_rfl) rfl ?_
     refine dW.cons rfl ?_ ?_
     ·
      refine ax rfl (aD rfl rc) ⟨rfl,trivial⟩ ?_
      exact aV (s47) [0,1] ⟨rfl,rfl,rfl,rfl,rfl,rfl,rfl,rfl,rfl,rfl,rfl,rfl,trivial⟩
     refine dW.cons rfl ?_ ?_
     ·
      refine ay rfl rfl rfl (aj [.tmp 44] rfl rfl nR rfl cc) ⟨rfl,trivial⟩ fun v=>?_
      exact aV (s103 v) [1,2,0] ⟨rfl,rfl,rfl,rfl,rfl,rfl,rfl,rfl,rfl,rfl,rfl,rfl,trivial⟩
     exact trivial
    have s46:J 8 [false,true,true,true,false,true,false,false,false,false,false,false] (dZ [false,true,true,true,false,true,false,false,false,false,false,false] (kM y z.1 l undef undef)++jV b2 y L.1 q1 l a1) [.obj y 128 (.agg (.pair (.at ak (a0,.map (some m))) (.eq z.1))),.sl z.1 23 .val (d3 z.2 0 q2)]:=by
     subst hJ
     refine JD.step [0,4,6] (by kernel_rfl) rfl ?_
     refine dW.cons rfl ?_ ?_
     ·
      refine av rfl rfl ?_
      exact aV (s47) [0,1] ⟨rfl,rfl,rfl,rfl,rfl,rfl,rfl,rfl,rfl,rfl,rfl,rfl,trivial⟩
     refine dW.cons rfl ?_ ?_
     ·
      refine bL rfl rfl rfl (ap rfl mm np rfl) ⟨rfl,trivial⟩ ?_
      exact aV (s62) [0,1] ⟨rfl,rfl,rfl,rfl,rfl,rfl,rfl,rfl,rfl,rfl,rfl,rfl,trivial⟩
     refine dW.cons rfl ?_ ?_
     ·
      refine ay rfl rfl rfl (aj [.tmp 44] rfl rfl nR rfl cc) ⟨rfl,trivial⟩ fun v=>?_
      exact aV (s110 v) [1,2,0] ⟨rfl,rfl,rfl,rfl,rfl,rfl,rfl,rfl,rfl,rfl,rfl,rfl,trivial⟩
     exact trivial
    have s99:∀(v:Value),J 8 [true,true,false,false,false,true,true,false,false,false,false,false] (dZ [true,true,false,false,false,true,true,false,false,false,false,false] (kM y z.1 l v undef)++jV b2 y L.1 q1 l a1) [.obj y 128 (.agg (.pair (.at ak (a0,.map (some m))) (.eq z.1))),.sl z.1 23 .val (d3 z.2 0 q2),.sl v 3 (.int .i64) l2]:=fun v=>by
     subst hJ
     refine JD.step [2,7] (by kernel_rfl) rfl ?_
     refine dW.cons rfl ?_ ?_
     ·
      refine ax rfl (bK rfl) ⟨rfl,trivial⟩ ?_
      exact aV (s103 v) [0,1,2] ⟨rfl,rfl,rfl,rfl,rfl,rfl,rfl,rfl,rfl,rfl,rfl,rfl,trivial⟩
     refine dW.cons rfl ?_ ?_
     ·
      refine bz 2 rfl ?_
      refine eY fun hv=>?_
      refine ax rfl (aJ (t:=.val) [(.tmp 45,.eq v)] [v] rfl rfl mo (.cons hv (.val hv) .nil) rfl rfl) ⟨rfl,trivial⟩ ?_
      exact aV (s227 v) [1,2,0] ⟨rfl,rfl,rfl,rfl,rfl,rfl,rfl,rfl,rfl,rfl,rfl,rfl,trivial⟩
     exact trivial
    have s102:∀(v:Value),J 8 [false,true,true,false,false,true,true,false,false,false,false,false] (dZ [false,true,true,false,false,true,true,false,false,false,false,false] (kM y z.1 l v undef)++jV b2 y L.1 q1 l a1) [.obj y 128 (.agg (.pair (.at ak (a0,.map (some m))) (.eq z.1))),.sl z.1 23 .val (d3 z.2 0 q2),.sl v 3 (.int .i64) l2]:=fun v=>by
     subst hJ
     refine JD.step [0,3,7] (by kernel_rfl) rfl ?_
     refine dW.cons rfl ?_ ?_
     ·
      refine av rfl rfl ?_
      exact aV (s103 v) [0,1,2] ⟨rfl,rfl,rfl,rfl,rfl,rfl,rfl,rfl,rfl,rfl,rfl,rfl,trivial⟩
     refine dW.cons rfl ?_ ?_
     ·
      refine ax rfl (aD rfl rc) ⟨rfl,trivial⟩ ?_
      exact aV (s110 v) [0,1,2] ⟨rfl,rfl,rfl,rfl,rfl,rfl,rfl,rfl,rfl,rfl,rfl,rfl,trivial⟩
     refine dW.cons rfl ?_ ?_
     ·
      refine bz 2 rfl ?_
      refine eY fun hv=>?_
      refine ax rfl (aJ (t:=.val) [(.tmp 45,.eq v)] [v] rfl rfl mo (.cons hv (.val hv) .nil) rfl rfl) ⟨rfl,trivial⟩ ?_
      exact aV (s230 v) [1,2,0] ⟨rfl,rfl,rfl,rfl,rfl,rfl,rfl,rfl,rfl,rfl,rfl,rfl,trivial⟩
     exact trivial
    have s225:∀(v:Value),J 8 [true,false,false,false,false,true,true,true,false,false,false,false] (dZ [true,false,false,false,false,true,true,true,false,false,false,false] (kM y z.1 l v undef)++jV b2 y L.1 q1 l a1) [.obj y 128 (.agg (.pair (.at ak (a0,.map (some m))) (.eq z.1))),.sl z.1 23 .val (d3 z.2 0 q2),.sl v 3 (.int .i64) l2]:=fun v=>by
     subst hJ
     refine JD.step [1] (by kernel_rfl) rfl ?_
     refine dW.cons rfl ?_ ?_
     ·
      refine av rfl rfl ?_
      exact aV (s227 v) [0,1,2] ⟨rfl,rfl,rfl,rfl,rfl,rfl,rfl,rfl,rfl,rfl,rfl,rfl,trivial⟩
     exact trivial
    have s226:∀(v:Value),J 8 [false,true,false,false,false,true,true,true,false,false,false,false] (dZ [false,true,false,false,false,true,true,true,false,false,false,false] (kM y z.1 l v undef)++jV b2 y L.1 q1 l a1) [.obj y 128 (.agg (.pair (.at ak (a0,.map (some m))) (.eq z.1))),.sl z.1 23 .val (d3 z.2 0 q2),.sl v 3 (.int .i64) l2]:=fun v=>by
     subst hJ
     refine JD.step [0,2] (by kernel_rfl) rfl ?_
     refine dW.cons rfl ?_ ?_
     ·
      refine av rfl rfl ?_
      exact aV (s227 v) [0,1,2] ⟨rfl,rfl,rfl,rfl,rfl,rfl,rfl,rfl,rfl,rfl,rfl,rfl,trivial⟩
     refine dW.cons rfl ?_ ?_
     ·
      refine ax rfl (bK rfl) ⟨rfl,trivial⟩ ?_
      exact aV (s230 v) [0,1,2] ⟨rfl,rfl,rfl,rfl,rfl,rfl,rfl,rfl,rfl,rfl,rfl,rfl,trivial⟩
     exact trivial
    have s7:J 9 [true,true,true,false,false,false,false,false,false,false,false,false] (dZ [true,true,true,false,false,false,false,false,false,false,false,false] (kM y z.1 l undef undef)++jV b2 y L.1 q1 l a1) [.obj y 128 (.agg (.pair (.at ak (a0,.map (some m))) (.eq z.1))),.sl z.1 23 .val (d3 z.2 0 q2)]:=by
     subst hJ
     refine JD.step [3,5] (by kernel_rfl) rfl ?_
     refine dW.cons rfl ?_ ?_
     ·
      refine ax rfl (aD rfl rc) ⟨rfl,trivial⟩ ?_
      exact aV (s15) [0,1] ⟨rfl,rfl,rfl,rfl,rfl,rfl,rfl,rfl,rfl,rfl,rfl,trivial⟩
     refine dW.cons rfl ?_ ?_
     ·
      refine av rfl rfl ?_
      exact aV (s39) [0,1] ⟨rfl,rfl,rfl,rfl,rfl,rfl,rfl,rfl,rfl,rfl,rfl,trivial⟩
     exact trivial
    have s14:J 9 [false,true,true,true,false,false,false,false,false,false,false,false] (dZ [false,true,true,true,false,false,false,false,false,false,false,false] (kM y z.1 l undef undef)++jV b2 y L.1 q1 l a1) [.obj y 128 (.agg (.pair (.at ak (a0,.map (some m))) (.eq z.1))),.sl z.1 23 .val (d3 z.2 0 q2)]:=by
     subst hJ
     refine JD.step [0,4,5] (by kernel_rfl) rfl ?_
     refine dW.cons rfl ?_ ?_
     ·
      refine av rfl rfl ?_
      exact aV (s15) [0,1] ⟨rfl,rfl,rfl,rfl,rfl,rfl,rfl,rfl,rfl,rfl,rfl,trivial⟩
     refine dW.cons rfl ?_ ?_
     ·
      refine bL rfl rfl rfl (ap rfl mm np rfl) ⟨rfl,trivial⟩ ?_
      exact aV (s30) [0,1] ⟨rfl,rfl,rfl,rfl,rfl,rfl,rfl,rfl,rfl,rfl,rfl,trivial⟩
     refine dW.cons rfl ?_ ?_
     ·
      refine av rfl rfl ?_
      exact aV (s46) [0,1] ⟨rfl,rfl,rfl,rfl,rfl,rfl,rfl,rfl,rfl,rfl,rfl,trivial⟩
     exact trivial
    have s35:J 9 [true,true,false,false,false,true,false,false,false,false,false,false] (dZ [true,true,false,false,false,true,false,false,false,false,false,false] (kM y z.1 l undef undef)++jV b2 y L.1 q1 l a1) [.obj y 128 (.agg (.pair (.at ak (a0,.map (some m))) (.eq z.1))),.sl z.1 23 .val (d3 z.2 0 q2)]:=by
     subst hJ
     refine JD.step [2,6] (by kernel_rfl) rfl ?_
     refine dW.cons rfl ?_ ?_
     ·
      refine ax rfl (bK rfl) ⟨rfl,trivial⟩ ?_
      exact aV (s39) [0,1] ⟨rfl,rfl,rfl,rfl,rfl,rfl,rfl,rfl,rfl,rfl,rfl,trivial⟩
     refine dW.cons rfl ?_ ?_
     ·
      refine ay rfl rfl rfl (aj [.tmp 44] rfl rfl nR rfl cc) ⟨rfl,trivial⟩ fun v=>?_
      exact aV (s99 v) [1,2,0] ⟨rfl,rfl,rfl,rfl,rfl,rfl,rfl,rfl,rfl,rfl,rfl,trivial⟩
     exact trivial
    have s38:J 9 [false,true,true,false,false,true,false,false,false,false,false,false] (dZ [false,true,true,false,false,true,false,false,false,false,false,false] (kM y z.1 l undef undef)++jV b2 y L.1 q1 l a1) [.obj y 128 (.agg (.pair (.at ak (a0,.map (some m))) (.eq z.1))),.sl z.1 23 .val (d3 z.2 0 q2)]:=by
     subst hJ
     refine JD.step [0,3,6] (by kernel_rfl) rfl ?_
     refine dW.cons rfl ?_ ?_
     ·
      refine av rfl rfl ?_
      exact aV (s39) [0,1] ⟨rfl,rfl,rfl,rfl,rfl,rfl,rfl,rfl,rfl,rfl,rfl,trivial⟩
     refine dW.cons rfl ?_ ?_
     ·
      refine ax rfl (aD rfl rc) ⟨rfl,trivial⟩ ?_
      exact aV (s46) [0,1] ⟨rfl,rfl,rfl,rfl,rfl,rfl,rfl,rfl,rfl,rfl,rfl,trivial⟩
     refine dW.cons rfl ?_ ?_
     ·
      refine ay rfl rfl rfl (aj [.tmp 44] rfl rfl nR rfl cc) ⟨rfl,trivial⟩ fun v=>?_
      exact aV (s102 v) [1,2,0] ⟨rfl,rfl,rfl,rfl,rfl,rfl,rfl,rfl,rfl,rfl,rfl,trivial⟩
     exact trivial
    have s97:∀(v:Value),J 9 [true,false,false,false,false,true,true,false,false,false,false,false] (dZ [true,false,false,false,false,true,true,false,false,false,false,false] (kM y z.1 l v undef)++jV b2 y L.1 q1 l a1) [.obj y 128 (.agg (.pair (.at ak (a0,.map (some m))) (.eq z.1))),.sl z.1 23 .val (d3 z.2 0 q2),.sl v 3 (.int .i64) l2]:=fun v=>by
     subst hJ
     refine JD.step [1,7] (by kernel_rfl) rfl ?_
     refine dW.cons rfl ?_ ?_
     ·
      refine av rfl rfl ?_
      exact aV (s99 v) [0,1,2] ⟨rfl,rfl,rfl,rfl,rfl,rfl,rfl,rfl,rfl,rfl,rfl,trivial⟩
     refine dW.cons rfl ?_ ?_
     ·
      refine bz 2 rfl ?_
      refine eY fun hv=>?_
      refine ax rfl (aJ (t:=.val) [(.tmp 45,.eq v)] [v] rfl rfl mo (.cons hv (.val hv) .nil) rfl rfl) ⟨rfl,trivial⟩ ?_
      exact aV (s225 v) [1,2,0] ⟨rfl,rfl,rfl,rfl,rfl,rfl,rfl,rfl,rfl,rfl,rfl,trivial⟩
     exact trivial
    have s98:∀(v:Value),J 9 [false,true,false,false,false,true,true,false,false,false,false,false] (dZ [false,true,false,false,false,true,true,false,false,false,false,false] (kM y z.1 l v undef)++jV b2 y L.1 q1 l a1) [.obj y 128 (.agg (.pair (.at ak (a0,.map (some m))) (.eq z.1))),.sl z.1 23 .val (d3 z.2 0 q2),.sl v 3 (.int .i64) l2]:=fun v=>by
     subst hJ
     refine JD.step [0,2,7] (by kernel_rfl) rfl ?_
     refine dW.cons rfl ?_ ?_
     ·
      refine av rfl rfl ?_
      exact aV (s99 v) [0,1,2] ⟨rfl,rfl,rfl,rfl,rfl,rfl,rfl,rfl,rfl,rfl,rfl,trivial⟩
     refine dW.cons rfl ?_ ?_
     ·
      refine ax rfl (bK rfl) ⟨rfl,trivial⟩ ?_
      exact aV (s102 v) [0,1,2] ⟨rfl,rfl,rfl,rfl,rfl,rfl,rfl,rfl,rfl,rfl,rfl,trivial⟩
     refine dW.cons rfl ?_ ?_
     ·
      refine bz 2 rfl ?_
      refine eY fun hv=>?_
      refine ax rfl (aJ (t:=.val) [(.tmp 45,.eq v)] [v] rfl rfl mo (.cons hv (.val hv) .nil) rfl rfl) ⟨rfl,trivial⟩ ?_
      exact aV (s226 v) [1,2,0] ⟨rfl,rfl,rfl,rfl,rfl,rfl,rfl,rfl,rfl,rfl,rfl,trivial⟩
     exact trivial
    have s224:∀(v:Value),J 9 [false,false,false,false,false,true,true,true,false,false,false,false] (dZ [false,false,false,false,false,true,true,true,false,false,false,false] (kM y z.1 l v undef)++jV b2 y L.1 q1 l a1) [.obj y 128 (.agg (.pair (.at ak (a0,.map (some m))) (.eq z.1))),.sl z.1 23 .val (d3 z.2 0 q2),.sl v 3 (.int .i64) l2]:=fun v=>by
     subst hJ
     refine JD.step [0,1] (by kernel_rfl) rfl ?_
     refine dW.cons rfl ?_ ?_
     ·
      refine av rfl rfl ?_
      exact aV (s225 v) [0,1,2] ⟨rfl,rfl,rfl,rfl,rfl,rfl,rfl,rfl,rfl,rfl,rfl,trivial⟩
     refine dW.cons rfl ?_ ?_
     ·
      refine av rfl rfl ?_
      exact aV (s226 v) [0,1,2] ⟨rfl,rfl,rfl,rfl,rfl,rfl,rfl,rfl,rfl,rfl,rfl,trivial⟩
     exact trivial
    have s3:J 10 [true,true,false,false,false,false,false,false,false,false,false,false] (dZ [true,true,false,false,false,false,false,false,false,false,false,false] (kM y z.1 l undef undef)++jV b2 y L.1 q1 l a1) [.obj y 128 (.agg (.pair (.at ak (a0,.map (some m))) (.eq z.1))),.sl z.1 23 .val (d3 z.2 0 q2)]:=by
     subst hJ
     refine JD.step [2,5] (by kernel_rfl) rfl ?_
     refine dW.cons rfl ?_ ?_
     ·
      refine ax rfl (bK rfl) ⟨rfl,trivial⟩ ?_
      exact aV (s7) [0,1] ⟨rfl,rfl,rfl,rfl,rfl,rfl,rfl,rfl,rfl,rfl,trivial⟩
     refine dW.cons rfl ?_ ?_
     ·
      refine av rfl rfl ?_
      exact aV (s35) [0,1] ⟨rfl,rfl,rfl,rfl,rfl,rfl,rfl,rfl,rfl,rfl,trivial⟩
     exact trivial
    have s6:J 10 [false,true,true,false,false,false,false,false,false,false,false,false] (dZ [false,true,true,false,false,false,false,false,false,false,false,false] (kM y z.1 l undef undef)++jV b2 y L.1 q1 l a1) [.obj y 128 (.agg (.pair (.at ak (a0,.map (some m))) (.eq z.1))),.sl z.1 23 .val (d3 z.2 0 q2)]:=by
     subst hJ
     refine JD.step [0,3,5] (by kernel_rfl) rfl ?_
     refine dW.cons rfl ?_ ?_
     ·
      refine av rfl rfl ?_
      exact aV (s7) [0,1] ⟨rfl,rfl,rfl,rfl,rfl,rfl,rfl,rfl,rfl,rfl,trivial⟩
     refine dW.cons rfl ?_ ?_
     ·
      refine ax rfl (aD rfl rc) ⟨rfl,trivial⟩ ?_
      exact aV (s14) [0,1] ⟨rfl,rfl,rfl,rfl,rfl,rfl,rfl,rfl,rfl,rfl,trivial⟩
     refine dW.cons rfl ?_ ?_
     ·
      refine av rfl rfl ?_
      exact aV (s38) [0,1] ⟨rfl,rfl,rfl,rfl,rfl,rfl,rfl,rfl,rfl,rfl,trivial⟩
     exact trivial
    have s33:J 10 [true,false,false,false,false,true,false,false,false,false,false,false] (dZ [true,false,false,false,false,true,false,false,false,false,false,false] (kM y z.1 l undef undef)++jV b2 y L.1 q1 l a1) [.obj y 128 (.agg (.pair (.at ak (a0,.map (some m))) (.eq z.1))),.sl z.1 23 .val (d3 z.2 0 q2)]:=by
     subst hJ
     refine JD.step [1,6] (by kernel_rfl) rfl ?_
     refine dW.cons rfl ?_ ?_
     ·
      refine av rfl rfl ?_
      exact aV (s35) [0,1] ⟨rfl,rfl,rfl,rfl,rfl,rfl,rfl,rfl,rfl,rfl,trivial⟩
     refine dW.cons rfl ?_ ?_
     ·
      refine ay rfl rfl rfl (aj [.tmp 44] rfl rfl nR rfl cc) ⟨rfl,trivial⟩ fun v=>?_
      exact aV (s97 v) [1,2,0] ⟨rfl,rfl,rfl,rfl,rfl,rfl,rfl,rfl,rfl,rfl,trivial⟩
     exact trivial
    have s34:J 10 [false,true,false,false,false,true,false,false,false,false,false,false] (dZ [false,true,false,false,false,true,false,false,false,false,false,false] (kM y z.1 l undef undef)++jV b2 y L.1 q1 l a1) [.obj y 128 (.agg (.pair (.at ak (a0,.map (some m))) (.eq z.1))),.sl z.1 23 .val (d3 z.2 0 q2)]:=by
     subst hJ
     refine JD.step [0,2,6] (by kernel_rfl) rfl ?_
     refine dW.cons rfl ?_ ?_
     ·
      refine av rfl rfl ?_
      exact aV (s35) [0,1] ⟨rfl,rfl,rfl,rfl,rfl,rfl,rfl,rfl,rfl,rfl,trivial⟩
     refine dW.cons rfl ?_ ?_
     ·
      refine ax rfl (bK rfl) ⟨rfl,trivial⟩ ?_
      exact aV (s38) [0,1] ⟨rfl,rfl,rfl,rfl,rfl,rfl,rfl,rfl,rfl,rfl,trivial⟩
     refine dW.cons rfl ?_ ?_
     ·
      refine ay rfl rfl rfl (aj [.tmp 44] rfl rfl nR rfl cc) ⟨rfl,trivial⟩ fun v=>?_
      exact aV (s98 v) [1,2,0] ⟨rfl,rfl,rfl,rfl,rfl,rfl,rfl,rfl,rfl,rfl,trivial⟩
     exact trivial
    have s96:∀(v:Value),J 10 [false,false,false,false,false,true,true,false,false,false,false,false] (dZ [false,false,false,false,false,true,true,false,false,false,false,false] (kM y z.1 l v undef)++jV b2 y L.1 q1 l a1) [.obj y 128 (.agg (.pair (.at ak (a0,.map (some m))) (.eq z.1))),.sl z.1 23 .val (d3 z.2 0 q2),.sl v 3 (.int .i64) l2]:=fun v=>by
     subst hJ
     refine JD.step [0,1,7] (by kernel_rfl) rfl ?_
     refine dW.cons rfl ?_ ?_
     ·
      refine av rfl rfl ?_
      exact aV (s97 v) [0,1,2] ⟨rfl,rfl,rfl,rfl,rfl,rfl,rfl,rfl,rfl,rfl,trivial⟩
     refine dW.cons rfl ?_ ?_
     ·
      refine av rfl rfl ?_
      exact aV (s98 v) [0,1,2] ⟨rfl,rfl,rfl,rfl,rfl,rfl,rfl,rfl,rfl,rfl,trivial⟩
     refine dW.cons rfl ?_ ?_
     ·
      refine bz 2 rfl ?_
      refine eY fun hv=>?_
      refine ax rfl (aJ (t:=.val) [(.tmp 45,.eq v)] [v] rfl rfl mo (.cons hv (.val hv) .nil) rfl rfl) ⟨rfl,trivial⟩ ?_
      exact aV (s224 v) [1,2,0] ⟨rfl,rfl,rfl,rfl,rfl,rfl,rfl,rfl,rfl,rfl,trivial⟩
     exact trivial
    have s1:J 11 [true,false,false,false,false,false,false,false,false,false,false,false] (dZ [true,false,false,false,false,false,false,false,false,false,false,false] (kM y z.1 l undef undef)++jV b2 y L.1 q1 l a1) [.obj y 128 (.agg (.pair (.at ak (a0,.map (some m))) (.eq z.1))),.sl z.1 23 .val (d3 z.2 0 q2)]:=by
     subst hJ
     refine JD.step [1,5] (by kernel_rfl) rfl ?_
     refine dW.cons rfl ?_ ?_
     ·
      refine av rfl rfl ?_
      exact aV (s3) [0,1] ⟨rfl,rfl,rfl,rfl,rfl,rfl,rfl,rfl,rfl,trivial⟩
     refine dW.cons rfl ?_ ?_
     ·
      refine av rfl rfl ?_
      exact aV (s33) [0,1] ⟨rfl,rfl,rfl,rfl,rfl,rfl,rfl,rfl,rfl,trivial⟩
     exact trivial
    have s2:J 11 [false,true,false,false,false,false,false,false,false,false,false,false] (dZ [false,true,false,false,false,false,false,false,false,false,false,false] (kM y z.1 l undef undef)++jV b2 y L.1 q1 l a1) [.obj y 128 (.agg (.pair (.at ak (a0,.map (some m))) (.eq z.1))),.sl z.1 23 .val (d3 z.2 0 q2)]:=by
     subst hJ
     refine JD.step [0,2,5] (by kernel_rfl) rfl ?_
     refine dW.cons rfl ?_ ?_
     ·
      refine av rfl rfl ?_
      exact aV (s3) [0,1] ⟨rfl,rfl,rfl,rfl,rfl,rfl,rfl,rfl,rfl,trivial⟩
     refine dW.cons rfl ?_ ?_
     ·
      refine ax rfl (bK rfl) ⟨rfl,trivial⟩ ?_
      exact aV (s6) [0,1] ⟨rfl,rfl,rfl,rfl,rfl,rfl,rfl,rfl,rfl,trivial⟩
     refine dW.cons rfl ?_ ?_
     ·
      refine av rfl rfl ?_
      exact aV (s34) [0,1] ⟨rfl,rfl,rfl,rfl,rfl,rfl,rfl,rfl,rfl,trivial⟩
     exact trivial
    have s32:J 11 [false,false,false,false,false,true,false,false,false,false,false,false] (dZ [false,false,false,false,false,true,false,false,false,false,false,false] (kM y z.1 l undef undef)++jV b2 y L.1 q1 l a1) [.obj y 128 (.agg (.pair (.at ak (a0,.map (some m))) (.eq z.1))),.sl z.1 23 .val (d3 z.2 0 q2)]:=by
     subst hJ
     refine JD.step [0,1,6] (by kernel_rfl) rfl ?_
     refine dW.cons rfl ?_ ?_
     ·
      refine av rfl rfl ?_
      exact aV (s33) [0,1] ⟨rfl,rfl,rfl,rfl,rfl,rfl,rfl,rfl,rfl,trivial⟩
     refine dW.cons rfl ?_ ?_
     ·
      refine av rfl rfl ?_
      exact aV (s34) [0,1] ⟨rfl,rfl,rfl,rfl,rfl,rfl,rfl,rfl,rfl,trivial⟩
     refine dW.cons rfl ?_ ?_
     ·
      refine ay rfl rfl rfl (aj [.tmp 44] rfl rfl nR rfl cc) ⟨rfl,trivial⟩ fun v=>?_
      exact aV (s96 v) [1,2,0] ⟨rfl,rfl,rfl,rfl,rfl,rfl,rfl,rfl,rfl,trivial⟩
     exact trivial
    have s0:J 12 [false,false,false,false,false,false,false,false,false,false,false,false] (dZ [false,false,false,false,false,false,false,false,false,false,false,false] (kM y z.1 l undef undef)++jV b2 y L.1 q1 l a1) [.obj y 128 (.agg (.pair (.at ak (a0,.map (some m))) (.eq z.1))),.sl z.1 23 .val (d3 z.2 0 q2)]:=by
     subst hJ
     refine JD.step [0,1,5] (by kernel_rfl) rfl ?_
     refine dW.cons rfl ?_ ?_
     ·
      refine av rfl rfl ?_
      exact aV (s1) [0,1] ⟨rfl,rfl,rfl,rfl,rfl,rfl,rfl,rfl,trivial⟩
     refine dW.cons rfl ?_ ?_
     ·
      refine av rfl rfl ?_
      exact aV (s2) [0,1] ⟨rfl,rfl,rfl,rfl,rfl,rfl,rfl,rfl,trivial⟩
     refine dW.cons rfl ?_ ?_
     ·
      refine av rfl rfl ?_
      exact aV (s32) [0,1] ⟨rfl,rfl,rfl,rfl,rfl,rfl,rfl,rfl,trivial⟩
     exact trivial
    exact s0
   ·
    exact fun a w st=>⟨rfl,p,st⟩
  ·
   subst hB
   refine aI ?_
   refine ae ?_
   refine bf (eV (Δ':=.sl p.1 3 (.int .i64) l2:: .sl p.2 23 .val (d3 z.2 0 q2++[p.1])::([.obj y 128 (.agg (.pair (.at ak (a0,.map (some m))) (.eq p.2))),.inv m (aQ k a0),.obj b2 25 (.rep aL a0),.inv 0 dP]++kA z.2 0 q2)) ?_) ?_
   ·
    exact List.Perm.trans (List.Perm.swap _ _ _) (List.Perm.trans (List.Perm.cons _ (List.Perm.swap _ _ _)) (List.Perm.swap _ _ _))
   refine bf (ua (pre:=[.obj y 128 (.agg (.pair (.at ak (a0,.map (some m))) (.eq p.2))),.inv m (aQ k a0),.obj b2 25 (.rep aL a0),.inv 0 dP])) ?_
   show JC _ _ _ _ _
   refine ab ?_
   obtain⟨w3,ew,h⟩:=aa h
   refine ax rfl (bM rfl ew) ⟨rfl,rfl,trivial⟩ ?_
   refine av rfl rfl ?_
   refine an ?_
   refine ae ?_
   exact g9 ((p.2,lD z.2 q2.length p.1),(w3,q2++[l2])) h (bi [.obj y 128 (.agg (.pair (.at ak (a0,.map (some m))) (.eq p.2))),.inv m (aQ k a0),.obj b2 25 (.rep aL a0),.inv 0 dP] (eZ 23 (p.2,lD z.2 q2.length p.1) (q2++[l2])) [0,1,2,3] ⟨rfl,rfl,rfl,rfl,rfl,rfl,trivial⟩ rfl)
 replace h:=aP (kV hb) h
 refine dM ?_
 refine aZ ?_
 refine aZ ?_
 refine bY ?_
 refine ae ?_
 show JC _ _ _ _ _
 replace h:((gX k a0 k (0,[],q.2)).bind fun p=>(jQ k a0 p.1 p.2).bind fun b=>if(!b.2.2.1 || decide (L.1≤b.2.1))=true then some (0,0,0,11) else some (b.1.1,b.1.2,b.2.1,0)).bind some=some r:=h
 rw [Option.bind_assoc] at h
 generalize q.2=ls at h⊢
 refine ag ?_
 refine ab ?_
 refine dn rfl ?_
 refine bX (SE.nil 131 dQ) ?_
 refine an ?_
 refine ae ?_
 show JC _ _ _ _ _
 refine gr (bi (Γ':=[(2,.eq (bP b2)),(8,.eq (.int .i64 L.1)),(10,.eq (bP y)),(13,.eq (.slice none 0 0))]) (pre':=[.inv m (aQ k a0),.obj b2 25 (.rep aL a0),.inv 0 dP,.sl (.slice none 0 0) 131 dQ [],.obj y 128 (.agg (.pair (.at ak (a0,.map (some m))) (.eq z.1)))]) [.sl (.slice none 0 0) 131 dQ [],.obj y 128 (.agg (.pair (.at ak (a0,.map (some m))) (.eq z.1))),.inv m (aQ k a0),.obj b2 25 (.rep aL a0),.inv 0 dP] (eZ 23 z ls) [2,3,4,0,1] ⟨rfl,rfl,rfl,rfl,trivial⟩ rfl) ?_
 refine ag ?_
 refine ag ?_
 refine ab ?_
 refine ax rfl (aD rfl Gj) ⟨rfl,trivial⟩ ?_
 refine bz 1 rfl ?_
 refine bL rfl rfl rfl (ap rfl FY np rfl) ⟨rfl,trivial⟩ ?_
 refine ax rfl (kg rfl rfl vt) ⟨rfl,trivial⟩ ?_
 refine de rfl ?_
 refine an ?_
 refine ae ?_
 show JC _ _ _ _ _
 refine ao ?_
 refine aR (Z:=Value) (α:=Int×List (Int×Int)×List (List Int)) (fun c q=>[(2,.eq (bP b2)),(8,.eq (.int .i64 L.1)),(10,.eq (bP y)),(13,.eq c),(53,.eq (.int .i64 (a0.2.1.length:Int))),(54,.eq (.int .i64 q.1))]) (fun c q=>[.obj b2 25 (.rep aL a0),.inv m (aQ k a0),.inv 0 dP,.sl c 131 dQ q.2.1,.obj y 128 (.agg (.pair (.at ak (a0,.map (some m))) (.eq z.1)))]++eZ 23 z q.2.2) (gX k a0) k (.slice none 0 0) (0,[],ls) (fun _=>rfl) h (bi [.obj b2 25 (.rep aL a0),.inv m (aQ k a0),.inv 0 dP,.sl (.slice none 0 0) 131 dQ [],.obj y 128 (.agg (.pair (.at ak (a0,.map (some m))) (.eq z.1)))] (eZ 23 z ls) [0,1,2,3,4] ⟨rfl,rfl,rfl,rfl,rfl,rfl,trivial⟩ rfl) (fun n c q h=>?_)
 obtain⟨q1,qp,ql⟩:=q
 unfold gX at h
 refine ag ?_
 refine ab ?_
 refine ax rfl (bO rfl) ⟨rfl,rfl,trivial⟩ ?_
 refine an ?_
 refine ae ?_
 show JC _ _ _ _ _
 refine ag ?_
 refine bu rfl (fun hb=>?_) (fun hb=>?_)
 ·
  replace h:=bD (ln hb) h
  obtain⟨w,ew,h⟩:=aa h
  rw [Option.bind_assoc] at h
  refine aU ?_
  refine ae ?_
  show JC _ _ _ _ _
  refine ag ?_
  refine ao ?_
  refine ag ?_
  refine ab ?_
  refine av rfl rfl ?_
  refine cS rfl rfl ?_
  refine an ?_
  refine ae ?_
  show JC _ _ _ _ _
  refine ag ?_
  refine ab ?_
  refine av rfl rfl ?_
  refine ax rfl (bM rfl ew) ⟨rfl,rfl,trivial⟩ ?_
  refine cS rfl rfl ?_
  refine an ?_
  refine ae ?_
  show JC _ _ _ _ _
  refine ao ?_
  refine aR (Z:=Value) (α:=Int×List (Int×Int)×List (List Int)) (fun c q=>[(2,.eq (bP b2)),(8,.eq (.int .i64 L.1)),(10,.eq (bP y)),(13,.eq c),(14,.eq (.int .i64 q1)),(15,.eq (.int .i64 q.1)),(53,.eq (.int .i64 (a0.2.1.length:Int))),(54,.eq (.int .i64 q1))]) (fun c q=>[.obj b2 25 (.rep aL a0),.inv m (aQ k a0),.inv 0 dP,.sl c 131 dQ q.2.1,.obj y 128 (.agg (.pair (.at ak (a0,.map (some m))) (.eq z.1)))]++eZ 23 z q.2.2) (iS k a0 q1) k c (w,qp,ql) (fun _=>rfl) h (bi [.obj b2 25 (.rep aL a0),.inv m (aQ k a0),.inv 0 dP,.sl c 131 dQ qp,.obj y 128 (.agg (.pair (.at ak (a0,.map (some m))) (.eq z.1)))] (eZ 23 z ql) [0,1,2,3,4] ⟨rfl,rfl,rfl,rfl,rfl,rfl,rfl,rfl,trivial⟩ rfl) (fun n3 c q h=>?_)
  obtain⟨j,rp,rl⟩:=q
  unfold iS at h
  refine ag ?_
  refine ag ?_
  refine ab ?_
  refine av rfl rfl ?_
  refine ax rfl (aD rfl Gj) ⟨rfl,trivial⟩ ?_
  refine bL rfl rfl rfl (ap rfl FY np rfl) ⟨rfl,trivial⟩ ?_
  refine ax rfl (kg rfl rfl vt) ⟨rfl,trivial⟩ ?_
  refine ax rfl (bO rfl) ⟨rfl,rfl,trivial⟩ ?_
  refine an ?_
  refine ae ?_
  show JC _ _ _ _ _
  refine bu rfl (fun hb=>?_) (fun hb=>?_)
  ·
   replace h:=bD (ln hb) h
   obtain⟨r1,Q,h⟩:=aa h
   have cv:=pR k a0 (q1,j) rl r1 y m z Q
   refine aU ?_
   refine ae ?_
   show JC _ _ _ _ _
   refine ag ?_
   refine ao ?_
   refine ag ?_
   refine ab ?_
   refine av rfl rfl ?_
   refine av rfl rfl ?_
   refine ax rfl (cK [(0,.tmp 66,_),(1,.tmp 67,_)] rfl GW pN Ft (gy ⟨rfl,rfl,trivial⟩) rfl) ⟨rfl,rfl,trivial⟩ ?_
   refine ay rfl rfl rfl (ba rfl pN sM) trivial fun e=>?_
   refine aX rfl rfl (aO rfl fj trivial rfl rfl) ⟨rfl,rfl,trivial⟩ ?_
   refine bX (nz (a':=.rep dQ (q1,j)) KG) ?_
   refine an ?_
   refine ae ?_
   show JC _ _ _ _ _
   refine ag ?_
   refine ab ?_
   refine av rfl rfl ?_
   refine bL rfl rfl rfl (ap rfl fj (vq) rfl) ⟨rfl,trivial⟩ ?_
   refine bX (eV (Δ':=([.obj y 128 (.agg (.pair (.at ak (a0,.map (some m))) (.eq z.1)))]++eZ 23 z rl)++[.obj e 131 (.rep dQ (q1,j)),.obj b2 25 (.rep aL a0),.inv m (aQ k a0),.inv 0 dP,.sl c 131 dQ rp]) (List.perm_append_comm (l₁:=([.obj e 131 (.rep dQ (q1,j)),.obj b2 25 (.rep aL a0),.inv m (aQ k a0),.inv 0 dP,.sl c 131 dQ rp]:List D)))) ?_
   refine bI (Δ:=_++_) (F:=[_,_,_,_,_]) (fun _ _ _=>ar rfl _) rfl rfl (aj [.tmp 69,.tmp 70] rfl rfl Jy rfl cv) ⟨rfl,rfl,trivial⟩ fun _=>?_
   refine bX (eV (Δ':=[.obj e 131 (.rep dQ (q1,j)),.obj b2 25 (.rep aL a0),.inv m (aQ k a0),.inv 0 dP,.sl c 131 dQ rp]++([.obj y 128 (.agg (.pair (.at ak (a0,.map (some m))) (.eq z.1)))]++eZ 23 z r1.2)) List.perm_append_comm) ?_
   refine an ?_
   refine ae ?_
   show JC _ _ _ _ _
   refine bu rfl (fun hb=>?_) (fun hb=>?_)
   ·
    replace h:=bD (xB hb) h
    have hk:cg (rp.length+1):=by
     apply Classical.byContradiction
     intro hn
     rw [if_neg hn] at h
     cases h
    replace h:=bD hk h
    refine ab ?_
    refine av rfl rfl ?_
    refine bL rfl rfl rfl (ap rfl fj (vq) rfl) ⟨rfl,trivial⟩ ?_
    refine ax rfl (aJ (t:=dQ) [(.tmp 73,_)] [(q1,j)] rfl rfl Ba (.cons rfl .rep .nil) rfl rfl) ⟨rfl,trivial⟩ ?_
    refine bz 4 rfl ?_
    refine eh rfl rfl rfl (cV rfl rfl Ba (by simpa using hk)) ⟨rfl,rfl,trivial⟩ fun v'=>?_
    refine cS rfl rfl ?_
    refine an ?_
    refine aI ?_
    refine ae ?_
    show JC _ _ _ _ _
    refine ab ?_
    refine av rfl rfl ?_
    obtain⟨w2,ew2,h⟩:=aa h
    refine ax rfl (bM rfl ew2) ⟨rfl,rfl,trivial⟩ ?_
    refine cS rfl rfl ?_
    refine an ?_
    refine ae ?_
    exact g9 (v',(w2,rp++[(q1,j)],r1.2)) h (bi [.sl v' 131 dQ (rp++[(q1,j)]),.obj e 131 (.rep dQ (q1,j)),.obj b2 25 (.rep aL a0),.inv m (aQ k a0),.inv 0 dP,.obj y 128 (.agg (.pair (.at ak (a0,.map (some m))) (.eq z.1)))] (eZ 23 z r1.2) [2,3,4,0,5] ⟨rfl,rfl,rfl,rfl,rfl,rfl,rfl,rfl,trivial⟩ rfl)
   ·
    replace h:=aP (xC hb) h
    refine aU ?_
    refine aI ?_
    refine ae ?_
    show JC _ _ _ _ _
    refine ab ?_
    refine av rfl rfl ?_
    obtain⟨w2,ew2,h⟩:=aa h
    refine ax rfl (bM rfl ew2) ⟨rfl,rfl,trivial⟩ ?_
    refine cS rfl rfl ?_
    refine an ?_
    refine ae ?_
    exact g9 (c,(w2,rp,r1.2)) h (bi [.obj e 131 (.rep dQ (q1,j)),.obj b2 25 (.rep aL a0),.inv m (aQ k a0),.inv 0 dP,.sl c 131 dQ rp,.obj y 128 (.agg (.pair (.at ak (a0,.map (some m))) (.eq z.1)))] (eZ 23 z r1.2) [1,2,3,4,5] ⟨rfl,rfl,rfl,rfl,rfl,rfl,rfl,rfl,trivial⟩ rfl)
  replace h:=aP (kV hb) h
  refine dM ?_
  refine aZ ?_
  refine aZ ?_
  refine bY ?_
  refine aI ?_
  refine ae ?_
  show JC _ _ _ _ _
  replace h:(gX k a0 n (w,rp,rl)).bind _=some r:=h
  refine ab ?_
  refine ax rfl (bM rfl ew) ⟨rfl,rfl,trivial⟩ ?_
  refine av rfl rfl ?_
  refine an ?_
  refine ae ?_
  exact g9 (c,(w,rp,rl)) h (bi [.obj b2 25 (.rep aL a0),.inv m (aQ k a0),.inv 0 dP,.sl c 131 dQ rp,.obj y 128 (.agg (.pair (.at ak (a0,.map (some m))) (.eq z.1)))] (eZ 23 z rl) [0,1,2,3,4] ⟨rfl,rfl,rfl,rfl,rfl,rfl,trivial⟩ rfl)
 replace h:=aP (kV hb) h
 refine dM ?_
 refine aZ ?_
 refine aZ ?_
 refine bY ?_
 refine ae ?_
 show JC _ _ _ _ _
 replace h:((jQ k a0 qp ql).bind fun b=>if(!b.2.2.1 || decide (L.1≤b.2.1))=true then some (0,0,0,11) else some (b.1.1,b.1.2,b.2.1,0)).bind some=some r:=h
 obtain⟨b,eb,h⟩:=aa h
 have cx:=sW k a0 qp ql b y m z eb
 refine ag ?_
 refine ab ?_
 refine av rfl rfl ?_
 refine ax rfl (qh [.tmp 78] [] [bP y] [] rfl rfl rfl) ⟨rfl,trivial⟩ ?_
 refine bz 3 rfl ?_
 refine bX (d6 [13] ⟨rfl,trivial⟩) ?_
 refine av rfl rfl ?_
 refine bX (bi (Γ':=[(8,.eq (.int .i64 L.1)),(79,.eq (.func (.func 100) #[bP y] #[])),(80,Rs dQ qp)]) (pre':=[.inv 0 dP,.obj b2 25 (.rep aL a0),.inv m (aQ k a0),.obj y 128 (.agg (.pair (.at ak (a0,.map (some m))) (.eq z.1)))]) [.obj b2 25 (.rep aL a0),.inv m (aQ k a0),.inv 0 dP,.obj y 128 (.agg (.pair (.at ak (a0,.map (some m))) (.eq z.1)))] (eZ 23 z ql) [2,0,1,3] ⟨rfl,rfl,rfl,trivial⟩ rfl) ?_
 refine bX (eV (Δ':=([.inv m (aQ k a0),.obj y 128 (.agg (.pair (.at ak (a0,.map (some m))) (.eq z.1)))]++eZ 23 z ql)++[.inv 0 dP,.obj b2 25 (.rep aL a0)]) (List.perm_append_comm (l₁:=([.inv 0 dP,.obj b2 25 (.rep aL a0)]:List D)))) ?_
 refine bI (Δ:=_++_) (F:=[_,_]) (fun _ _ _=>ar rfl _) rfl rfl (cP [.tmp 79,.tmp 80] rfl rfl Jx rfl cx) ⟨rfl,rfl,trivial⟩ fun _=>?_
 refine bX (eV (Δ':=[.inv 0 dP,.obj b2 25 (.rep aL a0)]++([.inv m (aQ k a0),.obj y 128 (.agg (.pair (.at ak (a0,.map (some m))) (.eq z.1)))]++eZ 23 z b.2.2.2)) List.perm_append_comm) ?_
 refine av rfl rfl ?_
 refine ax rfl (fF rfl rfl) ⟨rfl,trivial⟩ ?_
 refine ax rfl (fF rfl rfl) ⟨rfl,trivial⟩ ?_
 refine ax rfl (fF rfl rfl) ⟨rfl,trivial⟩ ?_
 refine ay rfl rfl rfl (ba rfl pN sM) trivial fun s=>?_
 refine aX rfl rfl (aO rfl fj rfl rfl rfl) ⟨rfl,rfl,trivial⟩ ?_
 refine cS rfl rfl ?_
 refine cS rfl rfl ?_
 refine an ?_
 refine ae ?_
 show JC _ _ _ _ _
 obtain⟨bx,bn,bo,bl⟩:=b
 cases bo with
 |false=>
  replace h:some (0,0,0,11)=some r:=by simpa using h
  obtain rfl:=Option.some.inj h
  refine ag ?_
  refine ag ?_
  refine ab ?_
  refine av rfl rfl ?_
  refine ax rfl (dA rfl) ⟨rfl,trivial⟩ ?_
  refine av rfl rfl ?_
  refine vj rfl rfl rfl rfl rfl rfl rfl ?_
  refine vj rfl rfl rfl rfl rfl rfl rfl ?_
  refine vj rfl rfl rfl rfl rfl rfl rfl ?_
  refine ax rfl (mJ rfl) ⟨rfl,rfl,trivial⟩ ?_
  refine an ?_
  refine ae ?_
  show JC _ _ _ _ _
  refine bu rfl (fun hb=>?_) (fun hb=>(by cases hb))
  refine ag ?_
  refine ab ?_
  refine dn rfl ?_
  refine dn rfl ?_
  refine dn rfl ?_
  refine dn rfl ?_
  refine an ?_
  refine ae ?_
  show JC _ _ _ _ _
  refine aA ?_
  refine aW ?_
  refine aE 1 rfl ?_
  exact aC () [_,_,_,_] 1 ⟨rfl,rfl,rfl,rfl,trivial⟩ rfl
 |true=>
  refine ag ?_
  refine ag ?_
  refine ab ?_
  refine av rfl rfl ?_
  refine ax rfl (dA rfl) ⟨rfl,trivial⟩ ?_
  refine av rfl rfl ?_
  refine iJ rfl rfl rfl rfl rfl rfl (bZ rfl) ⟨rfl,trivial⟩ ?_
  refine iJ rfl rfl rfl rfl rfl rfl (bZ rfl) ⟨rfl,trivial⟩ ?_
  refine iJ rfl rfl rfl rfl rfl rfl (mr rfl) ⟨rfl,rfl,trivial⟩ ?_
  refine ax rfl (lE rfl) ⟨rfl,rfl,trivial⟩ ?_
  refine an ?_
  refine ae ?_
  show JC _ _ _ _ _
  refine bu rfl (fun hb=>?_) (fun hb=>?_)
  ·
   have hd:L.1≤bn:=of_decide_eq_true hb
   replace h:some (0,0,0,11)=some r:=by simpa [hd] using h
   obtain rfl:=Option.some.inj h
   refine ag ?_
   refine ab ?_
   refine dn rfl ?_
   refine dn rfl ?_
   refine dn rfl ?_
   refine dn rfl ?_
   refine an ?_
   refine ae ?_
   show JC _ _ _ _ _
   refine aA ?_
   refine aW ?_
   refine aE 1 rfl ?_
   exact aC () [_,_,_,_] 1 ⟨rfl,rfl,rfl,rfl,trivial⟩ rfl
  ·
   have hd:¬L.1≤bn:=of_decide_eq_false hb
   replace h:some (bx.1,bx.2,bn,0)=some r:=by simpa [hd] using h
   refine aU ?_
   refine ae ?_
   obtain rfl:=Option.some.inj h
   show JC _ _ _ _ _
   refine ag ?_
   refine xl (Δ:=[.obj s 131 (.rep dQ bx)]) (F:=[.inv 0 dP,.obj b2 25 (.rep aL a0),.inv m (aQ k a0),.obj y 128 (.agg (.pair (.at ak (a0,.map (some m))) (.eq z.1)))]++eZ 23 z bl) (Z:=Unit) (fun _=>[(4,.eq (.int .i64 bx.1)),(5,.eq (.int .i64 bx.2)),(6,.eq (.int .i64 bn)),(7,.eq (.int .i64 0))]) (fun _=>[.obj s 131 (.rep dQ bx)]) (fun S w=>?_) (fun _=>?_)
   ·
    refine gr (SE.sub (Γ':=[(17,.eq (bP s)),(18,.eq (.int .i64 bn))]) ⟨rfl,rfl,trivial⟩) ?_
    refine lN ?_
    refine cG rfl rfl rfl (aD rfl Ho) ⟨rfl,trivial⟩ ?_
    refine iq 0 rfl rfl rfl rfl (ap rfl qY np rfl) ⟨rfl,trivial⟩ ?_
    refine cG rfl rfl rfl (aD rfl Hn) ⟨rfl,trivial⟩ ?_
    refine iq 0 rfl rfl rfl rfl (ap rfl qY np rfl) ⟨rfl,trivial⟩ ?_
    refine cG rfl rfl rfl (bZ rfl) ⟨rfl,trivial⟩ ?_
    refine qF 5 [true,true,false,false,false] [4,5,6,7] [0] [.obj s 131 (.rep dQ bx)] rfl (by kernel_rfl) (by kernel_rfl) (by kernel_rfl) oq (fun vs hv hB=>?_)
    obtain⟨u0,mc,rfl,O⟩:=aM hv
    obtain⟨u1,ac,rfl,M⟩:=aM O
    obtain⟨u2,Y,rfl,E⟩:=aM M
    obtain⟨u3,X,rfl,x⟩:=aM E
    obtain⟨u4,U,rfl,u⟩:=aM x
    obtain rfl:=nq u
    refine⟨[0],[],by kernel_rfl,by decide,?_⟩
    refine qD rfl rfl rfl rfl (iV rfl) ⟨rfl,trivial⟩ (by kernel_rfl) ?_
    refine qD rfl rfl rfl rfl (iV rfl) ⟨rfl,trivial⟩ (by kernel_rfl) ?_
    refine qD rfl rfl rfl rfl (iV rfl) ⟨rfl,trivial⟩ (by kernel_rfl) ?_
    refine qD rfl rfl rfl rfl (iV rfl) ⟨rfl,trivial⟩ (by kernel_rfl) ?_
    refine vg ?_
    exact fun a w st=>⟨rfl,(),(SE.fin (Γ':=[(4,.eq (.int .i64 bx.1)),(5,.eq (.int .i64 bx.2)),(6,.eq (.int .i64 bn)),(7,.eq (.int .i64 0))]) [0] ⟨rfl,rfl,rfl,rfl,trivial⟩ rfl) a w st⟩
   ·
    refine ae ?_
    show JC _ _ _ _ _
    refine aA ?_
    refine aE 1 rfl ?_
    exact aC () [_,_,_,_] 1 ⟨rfl,rfl,rfl,rfl,trivial⟩ rfl
def lQ(k:Nat)(a0:(List Int))(a1:cI)(a2:(List (List Int)))(a3:Int)(a4:Int):Option Int:=
 (dR k a1 a2).bind fun r1=>
 (cd r1 a3).bind fun x3=>
 (cY k (List.set r1 (Int.toNat a3) a0)).bind fun r4=>
 (gx k a1 r4 a4).bind fun r5=>
 some r5
theorem qX(k:Nat)(a0:(List Int))(a1:cI)(l:Nat)(a2:(List (List Int)))(j:Nat)(a3:Int)(e:Nat)(a4:Int)(c:Nat)(r:Int)(h:lQ k a0 a1 a2 a3 a4=some r):
 cH (fD Tryz.prog) 104 [Ri a0,Pt l,Pt j,Pt e,Pt c] [.obj l 102 (.at bp a1),.obj j 107 (.rep (.arr 3 (.arr 5 (.int .i64))) a2),.obj e 3 (I a3),.obj c 3 (I a4)] (fun _:Unit=>(bG [I r],[.obj l 102 (.at bp a1),.obj j 107 (.rep (.arr 3 (.arr 5 (.int .i64))) a2),.obj e 3 (I a3),.obj c 3 (I a4)])):=by
 unfold lQ at h
 replace h:=bq h
 refine cH.of 20 Tryz.func104 rfl Tryz.ntmps104 rfl fun S w0=>?_
 refine sr ?_
 refine cq ?_
 refine nt ?_
 refine sr ?_
 refine lo jl ?_
 refine fr 1 ?_
 refine lo bW ?_
 obtain⟨r1,x,h⟩:=aa h
 have E:=er k a1 a2 r1 x
 refine ay rfl rfl rfl (aj [.tmp 8,.tmp 9] rfl rfl Da rfl E) ⟨rfl,rfl,trivial⟩ fun v2=>?_
 refine aq ?_
 refine nt ?_
 refine sr ?_
 refine mq ?_
 refine fr 3 ?_
 refine lo d4 ?_
 refine mq ?_
 obtain⟨x3,n,h⟩:=aa h
 refine fr 1 ?_
 refine kb (bR (t:=(.slice (.int .i64))) rfl nS dG n) ?_
 refine aX rfl rfl (ff (i:=Int.toNat a3) rfl dG rfl (kS n) rfl .rep rfl) ⟨rfl,rfl,trivial⟩ ?_
 refine nt ?_
 refine ag ?_
 refine gr (d6 [7,10,11] ⟨rfl,rfl,rfl,trivial⟩) ?_
 refine cX ?_
 refine ea 2 (ap rfl jl np rfl) ?_
 refine dm ?_
 obtain⟨r4,u,h⟩:=aa h
 have D:=cE k (List.set r1 (Int.toNat a3) a0) r4 u
 refine da (aj [.tmp 16] rfl rfl uS rfl D) ?_
 refine ea 3 (ap rfl d4 np rfl) ?_
 refine df gz ?_
 obtain⟨r5,s,h⟩:=aa h
 have y:=kG k a1 r4 a4 r5 s
 refine jc (cP [.tmp 15,.tmp 17,.tmp 18] rfl rfl Gs rfl y) ?_
 refine aq ?_
 refine nt ?_
 refine aA ?_
 refine bf (SE.fin (Γ':=[(6,_)]) [2,1,0,3] ⟨rfl,trivial⟩ rfl) ?_
 cases h
 exact aC () [_] 4 ⟨rfl,trivial⟩ rfl
def fO(k:Nat)(a0_0:cI)(a0_1:(List (List Int)))(a0_2:Int)(a0_3:Int)(a1:(List (List Int))):Nat→((List Int)×Int×Bool×Int)→Option ((List Int)×Int×Bool)
 |0,_=>none
 |n+1,y3=>
  if y3.2.2.2 < (a1.length:Int) then((((cd a1 y3.2.2.2).bind fun x7=>
  (lQ k x7 a0_0 a0_1 a0_2 a0_3).bind fun r8=>
  ((if¬(y3.2.2.1=true) then(some true) else(some (decide (r8 < y3.2.1)))):Option (Bool)).bind fun x9=>
  if x9=true then(some (x7,r8,true)) else(some (y3.1,y3.2.1,y3.2.2.1))):Option ((List Int)×Int×Bool)).bind fun x5=>
  (ck (y3.2.2.2+1)).bind fun c=>
  fO k a0_0 a0_1 a0_2 a0_3 a1 n (x5.1,x5.2.1,x5.2.2,c)) else(some (y3.1,y3.2.1,y3.2.2.1))
def jR(k:Nat)(a0_0:cI)(a0_1:(List (List Int)))(a0_2:Int)(a0_3:Int)(a1:(List (List Int))):Option ((List Int)×Int×Bool):=
 ((fO k a0_0 a0_1 a0_2 a0_3 a1 k ([],0,false,0)):Option ((List Int)×Int×Bool)).bind fun x1=>
 some (x1.1,x1.2.1,x1.2.2)
theorem oM(k:Nat)(a0_0:cI)(c_a0_0:Nat)(a0_1:(List (List Int)))(c_a0_1:Nat)(a0_2:Int)(c_a0_2:Nat)(a0_3:Int)(c_a0_3:Nat)(a1:(List (List Int)))(r:(List Int)×Int×Bool)(h:jR k a0_0 a0_1 a0_2 a0_3 a1=some r):
 cH (fD Tryz.prog) 106 [.eq (.func (.func 104) #[] #[(Pv c_a0_0),(Pv c_a0_1),(Pv c_a0_2),(Pv c_a0_3)]),.rep (.slice (.slice (.int .i64))) a1] [.obj c_a0_0 102 (.at bp a0_0),.obj c_a0_1 107 (.rep (.arr 3 (.arr 5 (.int .i64))) a0_1),.obj c_a0_2 3 (I a0_2),.obj c_a0_3 3 (I a0_3)] (fun _:Unit=>(bG [Ri r.1,I r.2.1,.eq (.bool r.2.2)],[.obj c_a0_0 102 (.at bp a0_0),.obj c_a0_1 107 (.rep (.arr 3 (.arr 5 (.int .i64))) a0_1),.obj c_a0_2 3 (I a0_2),.obj c_a0_3 3 (I a0_3)])):=by
 unfold jR at h
 replace h:=bq h
 refine cH.of 35 Tryz.func106 rfl Tryz.ntmps106 rfl fun S w0=>?_
 refine sr ?_
 refine cq ?_
 refine cq ?_
 refine cq ?_
 refine nt ?_
 refine sr ?_
 refine cq ?_
 refine nt ?_
 refine sr ?_
 refine cq ?_
 refine cq ?_
 refine nt ?_
 refine a9 (Z:=Unit) (α:=(List Int)×Int×Bool) (fun z2 x1=>[(7,Ri x1.1),(8,I x1.2.1),(9,.eq (.bool x1.2.2))]) (fun z2 x1=>[.obj c_a0_0 102 (.at bp a0_0),.obj c_a0_1 107 (.rep (.arr 3 (.arr 5 (.int .i64))) a0_1),.obj c_a0_2 3 (I a0_2),.obj c_a0_3 3 (I a0_3)]) h (fun K h=>?_) (fun z2 x1 h=>?_)
 ·
  refine sr (mq ?_);refine ol nS ?_;refine de rfl ?_;refine nt (ao (gr (eW (t:=(.slice (.int .i64))) (x:=[]) 7 rfl .nil rfl rfl) ?_));refine aR (fun z4 y3=>[(0,.eq (.func (.func 104) #[] #[(Pv c_a0_0),(Pv c_a0_1),(Pv c_a0_2),(Pv c_a0_3)])),(7,Ri y3.1),(8,I y3.2.1),(9,.eq (.bool y3.2.2.1)),(13,.rep (.slice (.slice (.int .i64))) a1),(14,I (a1.length:Int)),(15,I y3.2.2.2)]) (fun z4 y3=>[.obj c_a0_0 102 (.at bp a0_0),.obj c_a0_1 107 (.rep (.arr 3 (.arr 5 (.int .i64))) a0_1),.obj c_a0_2 3 (I a0_2),.obj c_a0_3 3 (I a0_3)]) (fO k a0_0 a0_1 a0_2 a0_3 a1) k () ([],0,false,0) (fun _=>rfl) h (SE.fin [0,1,2,3] ⟨rfl,rfl,rfl,rfl,rfl,rfl,rfl,trivial⟩ rfl) (fun n z4 y3 h=>?_);unfold fO at h;refine sr (jb (bO rfl) ?_);refine nt (ag (ci h (fun h=>?_) (fun h=>?_)))
  ·refine sk (a9 (Z:=Unit) (α:=(List Int)×Int×Bool) (fun z6 x5=>[(0,.eq (.func (.func 104) #[] #[(Pv c_a0_0),(Pv c_a0_1),(Pv c_a0_2),(Pv c_a0_3)])),(7,Ri x5.1),(8,I x5.2.1),(9,.eq (.bool x5.2.2)),(13,.rep (.slice (.slice (.int .i64))) a1),(14,I (a1.length:Int)),(15,I y3.2.2.2)]) (fun z6 x5=>[.obj c_a0_0 102 (.at bp a0_0),.obj c_a0_1 107 (.rep (.arr 3 (.arr 5 (.int .i64))) a0_1),.obj c_a0_2 3 (I a0_2),.obj c_a0_3 3 (I a0_3)]) h (fun K h=>?_) (fun z6 x5 h=>?_))
   ·refine ao (sr ?_);obtain⟨x7,l,h⟩:=aa h;refine jb (bH (t:=(.slice (.int .i64))) rfl nS dG l) ?_;refine ja (au (t:=(.slice (.int .i64))) rfl dG rfl) ?_;refine aq (nt (sr ?_));iterate 2 refine mq ?_
    obtain⟨r8,u,h⟩:=aa h;refine fr 3 ?_;refine fr 3 ?_;refine fr 3 ?_;refine fr 3 ?_;refine bI (Δ:=[_,_,_,_]) (F:=_) (fun _ _ _=>ar rfl _) rfl rfl (mK (fs:=[]) (cs:=[(Pv c_a0_0),(Pv c_a0_1),(Pv c_a0_2),(Pv c_a0_3)]) (ags:=[Ri x7]) [.tmp 20] rfl rfl Kv rfl (qX k x7 a0_0 c_a0_0 a0_1 c_a0_1 a0_2 c_a0_2 a0_3 c_a0_3 r8 u)) ⟨rfl,rfl,trivial⟩ fun _=>?_;refine aq (nt ?_);refine a9 (Z:=Unit) (α:=Bool) (fun c x9=>[(0,.eq (.func (.func 104) #[] #[(Pv c_a0_0),(Pv c_a0_1),(Pv c_a0_2),(Pv c_a0_3)])),(7,Ri y3.1),(8,I y3.2.1),(9,.eq (.bool y3.2.2.1)),(11,Ri x7),(12,I r8),(13,.rep (.slice (.slice (.int .i64))) a1),(14,I (a1.length:Int)),(15,I y3.2.2.2),(28,.eq (.bool x9))]) (fun c x9=>[.obj c_a0_0 102 (.at bp a0_0),.obj c_a0_1 107 (.rep (.arr 3 (.arr 5 (.int .i64))) a0_1),.obj c_a0_2 3 (I a0_2),.obj c_a0_3 3 (I a0_3)]) h (fun K h=>?_) (fun c x9 h=>?_)
    ·refine ab (mq ?_);refine ja (dA rfl) ?_;refine mq ?_;refine aH (s:=24) rfl (fun hb=>?_) (fun hb=>?_)
     ·replace h:=bD (sZ hb) h;iterate 3 refine gn ?_
      refine pt (nl ?_);exact jz ((),true) h [0,1,2,3]
     ·replace h:=aP (nP hb) h;refine gm ?_;refine gm ?_;refine gb (bO rfl) ?_;refine pf (nl ?_);exact jz ((),decide (r8 < y3.2.1)) h [0,1,2,3]
    ·refine cv h (fun h=>?_) (fun h=>?_)
     ·refine ab ?_;iterate 2 refine mq ?_
      refine aq ?_;refine aq ?_;refine cq (an (bn ?_));exact jz ((),(x7,r8,true)) h [0,1,2,3]
     ·refine aU (bn ?_);exact jz ((),(y3.1,y3.2.1,y3.2.2.1)) h [0,1,2,3]
   ·refine ab ?_;obtain⟨j,e,h⟩:=aa h;refine jb (bM rfl e) ?_;refine mq (nl ?_);exact jz ((),(x5.1,x5.2.1,x5.2.2,j)) h [0,1,2,3]
  ·refine xa ?_;exact jz ((),(y3.1,y3.2.1,y3.2.2.1)) h [0,1,2,3]
 ·
  refine sr ?_;iterate 3 refine mq ?_
  refine aq ?_;refine aq ?_;refine aq (nt (aA ?_));cases h;exact aC () [_,_,_] 4 ⟨rfl,rfl,rfl,trivial⟩ rfl
def lR(k:Nat)(a0:bC)(a1:(List (List Int)))(a2:Int)(a3:Int):Option ((List Int)×Int×Int):=
 (bV k a0 a1).bind fun r4=>
 if¬(r4=0) then(some ([],0,r4)) else((((ck ((a0.2.2.length:Int) - 1)).bind fun x7=>
 (dC k a2 0 x7).bind fun r8=>
 if¬(r8=true) then(some true) else((dC k a3 0 a0.1).bind fun r9=>
 some (!r9))):Option (Bool)).bind fun x5=>
 if x5=true then(some ([],0,3)) else((cY k a1).bind fun n=>
 (hP k (a0,()) n a3).bind fun e=>
 (eG k e a2).bind fun l=>
 (jZ k l).bind fun j=>
 (jP k k j).bind fun h=>
 (jR k (a0,()) e a2 a3 h).bind fun c=>
 some (c.1,c.2.1,0)))
theorem nO(k:Nat)(a0:bC)(a1:(List (List Int)))(a2:Int)(a3:Int)(r:(List Int)×Int×Int)(h:lR k a0 a1 a2 a3=some r):
 cH (fD Tryz.prog) 42 [.rep aL a0,.rep (.slice (.slice (.int .i64))) a1,I a2,I a3] [.inv 0 (dP)] (fun _:Unit=>(bG [Ri r.1,I r.2.1,I r.2.2],[.inv 0 (dP)])):=by
 unfold lR at h
 replace h:=bq h
 refine cH.of 60 Tryz.func42 rfl Tryz.ntmps42 rfl fun S w0=>?_
 refine sr ?_
 refine bx fun b1=>?_
 refine bx fun b2=>?_
 refine bx fun b3=>?_
 refine cq ?_
 refine cq ?_
 refine cq ?_
 refine nt ?_
 refine ag ?_
 refine sr ?_
 refine fr 2 ?_
 refine lo fB ?_
 refine mq ?_
 obtain⟨r4,M4,h⟩:=aa h
 have M5:=bS k a0 a1 r4 M4
 refine fr 3 ?_
 refine kb (aj [.tmp 18,.tmp 19] rfl rfl wR rfl M5) ?_
 refine aq ?_
 refine nt ?_
 refine sr ?_
 refine mq ?_
 refine jb (cm rfl) ?_
 refine nt ?_
 refine cn h (fun h=>?_) (fun h=>?_)
 ·
  refine sr (mq ?_);refine cq ?_;refine cq ?_;refine aq (nt (rx ?_));refine bf (eW (t:=(.slice (.int .i64))) (x:=[]) 8 rfl .nil rfl rfl) ?_;cases h;exact aC () [_,_,_] 1 ⟨rfl,rfl,rfl,trivial⟩ rfl
 ·
  refine sk (ag (a9 (Z:=Unit) (α:=Bool) (fun z6 x5=>[(1,.rep (.slice (.slice (.int .i64))) a1),(4,Pt b1),(6,Pt b2),(7,Pt b3),(37,.eq (.bool x5))]) (fun z6 x5=>[.obj b1 25 (.rep aL a0),.obj b2 3 (I a2),.obj b3 3 (I a3),.inv 0 (dP)]) h (fun K h=>?_) (fun z6 x5 h=>?_)))
  ·refine ab (fr 3 ?_);refine lo d4 ?_;refine fl ku ?_;refine fr 2 ?_;refine lo dG ?_;refine ol fU ?_;obtain⟨x7,MX,h⟩:=aa h;refine jb (gl rfl MX) ?_;obtain⟨r8,MZ,h⟩:=aa h;refine jc (aj [.tmp 24,.const (.int .i64 (0)),.tmp 28] rfl rfl tf rfl (cT k a2 0 x7 r8 MZ)) ?_;refine ja (dA rfl) ?_;refine mq ?_;refine aH (s:=31) rfl (fun hb=>?_) (fun hb=>?_)
   ·replace h:=bD (sZ hb) h;iterate 5 refine gn ?_
    refine pt (nl ?_);exact jz ((),true) h [0,1,3,2]
   ·replace h:=aP (nP hb) h;refine fr 3 ?_;refine f7 rfl rfl rfl rfl rfl rfl (ap rfl d4 np rfl) ⟨rfl,trivial⟩ ?_;refine ga (aD rfl mb) ?_;refine fr 1 ?_;refine f7 rfl rfl rfl rfl rfl rfl (ap rfl d4 np rfl) ⟨rfl,trivial⟩ ?_;obtain⟨r9,MY,h⟩:=aa h;refine gc (aj [.tmp 32,.const (.int .i64 (0)),.tmp 34] rfl rfl tf rfl (cT k a3 0 a0.1 r9 MY)) ?_;refine ga (dA rfl) ?_;refine pf (nl ?_);exact jz ((), !r9) h [0,2,1,3]
  ·refine cv h (fun h=>?_) (fun h=>?_)
   ·refine sr (cq ?_);refine cq ?_;refine cq (nt (rx ?_));refine bf (eW (t:=(.slice (.int .i64))) (x:=[]) 8 rfl .nil rfl rfl) ?_;refine bf (SE.fin (Γ':=[(8,_),(9,_),(10,_)]) [3,0,1,2] ⟨rfl,rfl,rfl,trivial⟩ rfl) ?_;cases h;exact aC () [_,_,_] 1 ⟨rfl,rfl,rfl,trivial⟩ rfl
   ·refine sk (sr (lo fB ?_));refine ay rfl rfl rfl (aj [.tmp 38] rfl rfl wQ rfl (cU a0)) ⟨rfl,trivial⟩ fun c=>?_;refine bX (fH (aQ k a0) gf) ?_;refine ay rfl rfl rfl (ba rfl AP Dv) trivial fun j=>?_;refine aX rfl rfl (aO rfl jl trivial rfl rfl) ⟨rfl,rfl,trivial⟩ ?_;refine nt (ag (lN ?_));refine iq 0 rfl rfl rfl rfl (ap rfl jl np rfl) ⟨rfl,trivial⟩ ?_;refine cG rfl rfl rfl (bZ rfl) ⟨rfl,trivial⟩ ?_;obtain⟨u,U,h⟩:=aa h;refine cG rfl rfl rfl (aj [.tmp 41] rfl rfl uS rfl (cE k a1 u U)) ⟨rfl,trivial⟩ ?_;refine iq 4 rfl rfl rfl rfl (ap rfl d4 np rfl) ⟨rfl,trivial⟩ ?_;obtain⟨l,Q,h⟩:=aa h;refine cG rfl rfl rfl (aK (N:=[(.tmp 40,.at ak (a0,(.map (some c)))),(.tmp 42,.rep (.arr 3 (.arr 5 (.int .i64))) u),(.tmp 43,I a3)]) (aj [.tmp 40,.tmp 42,.tmp 43] rfl rfl Gt rfl (kH k (a0,()) u a3 l Q)) fun _ _ _ hn=>⟨(jk hn.1),hn.2.1,hn.2.2.1,trivial⟩) ⟨rfl,rfl,rfl,trivial⟩ ?_;refine zx (GV 107 (.rep (.arr 3 (.arr 5 (.int .i64))) [[0,0,0,0,0],[0,0,0,0,0],[0,0,0,0,0]])) (fun _=>rfl) rfl rfl rfl (ba rfl iu ix) trivial ?_;refine qF 6 [true,true,true,true,true,true] [] [] [] rfl (by kernel_rfl) (by kernel_rfl) (by kernel_rfl) gz (fun vs hv hB=>?_);obtain⟨w0,Nc,rfl,se⟩:=aM hv;obtain⟨w1,Nb,rfl,qt⟩:=aM se;obtain⟨w2,Na,rfl,pp⟩:=aM qt;obtain⟨w3,M9,rfl,mc⟩:=aM pp;obtain⟨w4,M8,rfl,ac⟩:=aM mc;obtain⟨w5,M7,rfl,Y⟩:=aM ac;obtain rfl:=nq Y;obtain⟨e,rfl⟩:=GU hB.2.2.2.2.2.1;refine⟨[0,1,2,3,4,5,6],[.obj j 102 (.at ak (a0,(.map (some c)))),.inv c (aQ k a0),.obj b1 25 (.rep aL a0),.obj b2 3 (I a2),.obj b3 3 (I a3),.inv 0 (dP),.obj e 107 (.rep (.arr 3 (.arr 5 (.int .i64))) [[0,0,0,0,0],[0,0,0,0,0],[0,0,0,0,0]])],by kernel_rfl,by decide,?_⟩;refine pI 6 rfl ?_;refine qE rfl rfl (aO rfl bW rfl rfl rfl) ⟨rfl,rfl,trivial⟩ (by kernel_rfl) ?_;refine vg ?_;refine bf (SE.fin (Γ':=[(6,Pt b2),(7,Pt b3),(12,Pt j),(13,Pt e)]) (Δ':=[.obj e 107 (.rep (.arr 3 (.arr 5 (.int .i64))) l),.obj j 102 (.at ak (a0,(.map (some c)))),.inv c (aQ k a0),.obj b1 25 (.rep aL a0),.obj b2 3 (I a2),.obj b3 3 (I a3),.inv 0 (dP)]) [0,1,2,3,4,5,6] ⟨rfl,rfl,rfl,rfl,trivial⟩ rfl) ?_;refine tn (sr (ax rfl (qh [] [.tmp 12,.tmp 13,.tmp 6,.tmp 7] [] [(Pv j),(Pv e),(Pv b2),(Pv b3)] rfl rfl rfl) ⟨rfl,rfl,rfl,rfl,trivial⟩ ?_));refine aq (nt (sr ?_));refine mq ?_;refine lo bW ?_;refine fr 4 ?_;refine lo d4 ?_;obtain⟨n,O,h⟩:=aa h;refine jb (aj [.tmp 48,.tmp 49] rfl rfl zg rfl (eP k l a2 n O)) ?_;refine ay rfl rfl rfl (aj [.tmp 50] rfl rfl Ks rfl (oW n)) ⟨rfl,trivial⟩ fun M6=>?_;obtain⟨D,M,h⟩:=aa h;refine ka (aj [.tmp 51] rfl rfl Kt rfl (oY k n M6 D M)) ?_;obtain⟨y,J,h⟩:=aa h;refine ja (aj [.tmp 52] rfl rfl Gq rfl (sV k k D y J)) ?_;refine fr 3 ?_;refine bX (nz (a:=.at ak (a0,(.map (some c)))) (a':=.at bp (a0,())) HY) ?_
    obtain⟨X,E,h⟩:=aa h;refine fr 6 ?_;refine fr 3 ?_;refine fr 4 ?_;refine fr 3 ?_;refine bI (Δ:=[_,_,_,_]) (F:=_) (fun _ _ _=>ar rfl _) rfl rfl (cP [.tmp 47,.tmp 53] rfl rfl Ku rfl (oM k (a0,()) j l e a2 b2 a3 b3 y X E)) ⟨rfl,rfl,trivial⟩ fun _=>?_;refine mq ?_;refine xr ?_;refine xr ?_;refine xr ?_;refine aq ?_;refine aq ?_;refine aq (nt (sr ?_));iterate 2 refine mq ?_
    refine aq ?_;refine aq ?_;refine cq (nt (aA ?_));refine bf (SE.fin (Γ':=[(8,_),(9,_),(10,_)]) [7,0,1,2,3,4,5,6] ⟨rfl,rfl,rfl,trivial⟩ rfl) ?_;cases h;exact aC () [_,_,_] 1 ⟨rfl,rfl,rfl,trivial⟩ rfl
def fP(k:Nat)(a0:bC)(a1:(List (List (List Int)))):Nat→((List (List Int))×Int×Bool×Int)→Option ((List (List Int))×Int×Bool)
 |0,_=>none
 |n+1,y5=>
  if y5.2.2.2 < (a1.length:Int) then((((cd a1 y5.2.2.2).bind fun x9=>
  (bU k a0 x9).bind fun c=>
  ((if¬(y5.2.2.1=true) then(some true) else(some (decide (c < y5.2.1)))):Option (Bool)).bind fun h=>
  if h=true then(some (x9,c,true)) else(some (y5.1,y5.2.1,y5.2.2.1))):Option ((List (List Int))×Int×Bool)).bind fun x7=>
  (ck (y5.2.2.2+1)).bind fun e=>
  fP k a0 a1 n (x7.1,x7.2.1,x7.2.2,e)) else(some (y5.1,y5.2.1,y5.2.2.1))
def jS(k:Nat)(a0:bC)(a1:(List (List (List Int)))):Option ((List (List Int))×Int×Bool):=
 ((fP k a0 a1 k ([[0,0,0,0,0],[0,0,0,0,0],[0,0,0,0,0]],0,false,0)):Option ((List (List Int))×Int×Bool)).bind fun x3=>
 some (x3.1,x3.2.1,x3.2.2)
theorem oN(k:Nat)(a0:bC)(z_a0:Nat)(a1:(List (List (List Int))))(r:(List (List Int))×Int×Bool)(h:jS k a0 a1=some r):
 cH (fD Tryz.prog) 114 [.fn 111 (rH [.at ak (a0,(.map (some z_a0)))]),.rep (.slice (.arr 3 (.arr 5 (.int .i64)))) a1] [.inv z_a0 (aQ k a0)] (fun _:Unit=>(bG [.rep (.arr 3 (.arr 5 (.int .i64))) r.1,I r.2.1,.eq (.bool r.2.2)],[.inv z_a0 (aQ k a0)])):=by
 unfold jS at h
 replace h:=bq h
 refine cH.of 35 Tryz.func114 rfl Tryz.ntmps114 rfl fun S w0=>?_
 refine sr ?_
 refine ay rfl rfl rfl (ba rfl iu ix) trivial fun b1=>?_
 refine cq ?_
 refine cq ?_
 refine nt ?_
 refine sr ?_
 refine ay rfl rfl rfl (ba rfl iu ix) trivial fun b2=>?_
 refine nt ?_
 refine sr ?_
 refine cq ?_
 refine cq ?_
 refine nt ?_
 refine a9 (Z:=Unit) (α:=(List (List Int))×Int×Bool) (fun z4 x3=>[(4,Pt b1),(7,Pt b2),(8,I x3.2.1),(9,.eq (.bool x3.2.2))]) (fun z4 x3=>[.obj b1 107 (.rep (.arr 3 (.arr 5 (.int .i64))) [[0,0,0,0,0],[0,0,0,0,0],[0,0,0,0,0]]),.obj b2 107 (.rep (.arr 3 (.arr 5 (.int .i64))) x3.1),.inv z_a0 (aQ k a0)]) h (fun K h=>?_) (fun z4 x3 h=>?_)
 ·
  refine sr (mq ?_);refine ol KN ?_;refine de rfl ?_;refine nt (ao (aR (fun z6 y5=>[(0,.fn 111 (rH [.at ak (a0,(.map (some z_a0)))])),(4,Pt b1),(7,Pt b2),(8,I y5.2.1),(9,.eq (.bool y5.2.2.1)),(13,.rep (.slice (.arr 3 (.arr 5 (.int .i64)))) a1),(14,I (a1.length:Int)),(15,I y5.2.2.2)]) (fun z6 y5=>[.obj b1 107 (.rep (.arr 3 (.arr 5 (.int .i64))) [[0,0,0,0,0],[0,0,0,0,0],[0,0,0,0,0]]),.obj b2 107 (.rep (.arr 3 (.arr 5 (.int .i64))) y5.1),.inv z_a0 (aQ k a0)]) (fP k a0 a1) k () ([[0,0,0,0,0],[0,0,0,0,0],[0,0,0,0,0]],0,false,0) (fun _=>rfl) h (SE.fin [1,0,2] ⟨rfl,rfl,rfl,rfl,rfl,rfl,rfl,rfl,trivial⟩ rfl) (fun n z6 y5 h=>?_)));unfold fP at h;refine sr (jb (bO rfl) ?_);refine nt (ag (ci h (fun h=>?_) (fun h=>?_)))
  ·refine sk (a9 (Z:=Unit) (α:=(List (List Int))×Int×Bool) (fun z8 x7=>[(0,.fn 111 (rH [.at ak (a0,(.map (some z_a0)))])),(4,Pt b1),(7,Pt b2),(8,I x7.2.1),(9,.eq (.bool x7.2.2)),(13,.rep (.slice (.arr 3 (.arr 5 (.int .i64)))) a1),(14,I (a1.length:Int)),(15,I y5.2.2.2)]) (fun z8 x7=>[.obj b1 107 (.rep (.arr 3 (.arr 5 (.int .i64))) [[0,0,0,0,0],[0,0,0,0,0],[0,0,0,0,0]]),.obj b2 107 (.rep (.arr 3 (.arr 5 (.int .i64))) x7.1),.inv z_a0 (aQ k a0)]) h (fun K h=>?_) (fun z8 x7 h=>?_))
   ·refine ao (sr ?_);obtain⟨x9,D,h⟩:=aa h;refine jb (bH (t:=(.arr 3 (.arr 5 (.int .i64)))) rfl KN bW D) ?_;refine ja (au (t:=(.arr 3 (.arr 5 (.int .i64)))) rfl bW rfl) ?_;refine ay rfl rfl rfl (ba rfl iu ix) trivial fun x=>?_;refine aX rfl rfl (aO rfl bW rfl rfl rfl) ⟨rfl,rfl,trivial⟩ ?_;refine nt (sr (mq ?_));refine lo bW ?_;obtain⟨c,u,h⟩:=aa h;refine fr 3 ?_;refine kb (BK (fs:=[.at ak (a0,(.map (some z_a0)))]) (ags:=[.rep (.arr 3 (.arr 5 (.int .i64))) x9]) [.tmp 20] rfl rfl zf rfl (eu k a0 z_a0 x9 c u)) ?_;refine aq (nt ?_);refine a9 (Z:=Unit) (α:=Bool) (fun j e=>[(0,.fn 111 (rH [.at ak (a0,(.map (some z_a0)))])),(4,Pt b1),(7,Pt b2),(8,I y5.2.1),(9,.eq (.bool y5.2.2.1)),(11,Pt x),(12,I c),(13,.rep (.slice (.arr 3 (.arr 5 (.int .i64)))) a1),(14,I (a1.length:Int)),(15,I y5.2.2.2),(28,.eq (.bool e))]) (fun j e=>[.obj b1 107 (.rep (.arr 3 (.arr 5 (.int .i64))) [[0,0,0,0,0],[0,0,0,0,0],[0,0,0,0,0]]),.obj b2 107 (.rep (.arr 3 (.arr 5 (.int .i64))) y5.1),.obj x 107 (.rep (.arr 3 (.arr 5 (.int .i64))) x9),.inv z_a0 (aQ k a0)]) h (fun K h=>?_) (fun j e h=>?_)
    ·refine ab (mq ?_);refine ja (dA rfl) ?_;refine mq ?_;refine aH (s:=24) rfl (fun hb=>?_) (fun hb=>?_)
     ·replace h:=bD (sZ hb) h;iterate 3 refine gn ?_
      refine pt (nl ?_);exact jz ((),true) h [2,3,1,0]
     ·replace h:=aP (nP hb) h;refine gm ?_;refine gm ?_;refine gb (bO rfl) ?_;refine pf (nl ?_);exact jz ((),decide (c < y5.2.1)) h [2,3,1,0]
    ·refine cv h (fun h=>?_) (fun h=>?_)
     ·refine ab (fr 2 ?_);refine lo bW ?_;refine mq ?_;refine fr 2 ?_;refine aX rfl rfl (aO rfl bW rfl rfl rfl) ⟨rfl,rfl,trivial⟩ ?_;refine aq ?_;refine cq (an (bn ?_));exact jz ((),(x9,c,true)) h [2,0,3]
     ·refine aU (bn ?_);exact jz ((),(y5.1,y5.2.1,y5.2.2.1)) h [0,1,3]
   ·refine ab ?_;obtain⟨y,l,h⟩:=aa h;refine jb (bM rfl l) ?_;refine mq (nl ?_);exact jz ((),(x7.1,x7.2.1,x7.2.2,y)) h [0,1,2]
  ·refine xa ?_;exact jz ((),(y5.1,y5.2.1,y5.2.2.1)) h [0,1,2]
 ·
  refine sr (fr 1 ?_);refine lo bW ?_;iterate 2 refine mq ?_
  refine fr 1 ?_;refine aX rfl rfl (aO rfl bW rfl rfl rfl) ⟨rfl,rfl,trivial⟩ ?_;refine aq ?_;refine aq (nt (aA ?_));refine bf (SE.fin (Γ':=[(4,_),(5,_),(6,_)]) [2,0,1] ⟨rfl,rfl,rfl,trivial⟩ rfl) ?_;cases h;exact aC () [.rep (.arr 3 (.arr 5 (.int .i64))) x3.1,_,_] 1 ⟨⟨_,_,_,_,_,rfl,(.tail _ (.head _)),bW,(sS),rfl⟩,rfl,rfl,trivial⟩ rfl
def oR(k:Nat)(a0:bC):Option ((List (List Int))×Int×Int):=
 (eQ k a0).bind fun r2=>
 if¬(r2=0) then(some ([],0,r2)) else((iD k (a0,())).bind fun r5=>
 (jS k a0 r5).bind fun r6=>
 if¬(r6.2.2=true) then(some ([],0,11)) else((dR k (a0,()) r6.1).bind fun r8=>
 some (r8,r6.2.1,0)))
theorem qK(k:Nat)(a0:bC)(r:(List (List Int))×Int×Int)(h:oR k a0=some r):
 cH (fD Tryz.prog) 56 [.rep aL a0] [] (fun _:Unit=>(bG [.rep (.slice (.slice (.int .i64))) r.1,I r.2.1,I r.2.2],[])):=by
 unfold oR at h
 replace h:=bq h
 refine cH.of 33 Tryz.func56 rfl Tryz.ntmps56 rfl fun S w0=>?_
 refine sr ?_
 refine bx fun b1=>?_
 refine cq ?_
 refine cq ?_
 refine cq ?_
 refine nt ?_
 refine ag ?_
 refine sr ?_
 refine lo fB ?_
 obtain⟨r2,l,h⟩:=aa h
 have n:=dI k a0 r2 l
 refine ja (aj [.tmp 10] rfl rfl uT rfl n) ?_
 refine aq ?_
 refine nt ?_
 refine sr ?_
 refine mq ?_
 refine jb (cm rfl) ?_
 refine nt ?_
 refine cn h (fun h=>?_) (fun h=>?_)
 ·
  refine sr (mq ?_);refine cq ?_;refine cq ?_;refine aq (nt (rx ?_));refine bf (eW (t:=(.slice (.slice (.int .i64)))) (x:=[]) 2 rfl .nil rfl rfl) ?_;cases h;exact aC () [_,_,_] 0 ⟨rfl,rfl,rfl,trivial⟩ rfl
 ·
  refine sk (sr (lo fB ?_));refine ay rfl rfl rfl (aj [.tmp 15] rfl rfl wQ rfl (cU a0)) ⟨rfl,trivial⟩ fun z3=>?_;refine bX (fH (aQ k a0) gf) ?_;refine aq (nt (sr ?_));refine mq ?_;refine ja (Eo [.tmp 18] [.at ak (a0,(.map (some z3)))] rfl rfl) ?_;refine mq ?_;refine ay rfl rfl rfl (aK (N:=[(.tmp 20,.at ak (a0,(.map (some z3))))]) (aj [.tmp 20] rfl rfl Dh rfl (fX (a0,()))) fun _ _ _ hn=>⟨jk hn.1,trivial⟩) ⟨rfl,trivial⟩ fun b4=>?_;obtain⟨r5,j,h⟩:=aa h;refine ka (aj [.tmp 21] rfl rfl Kq rfl (nG k (a0,()) b4 r5 j)) ?_;obtain⟨r6,e,h⟩:=aa h;refine fr 1 ?_;refine kb (cP [.tmp 19,.tmp 22] rfl rfl Kr rfl (oN k a0 z3 r5 r6 e)) ?_;refine mq ?_;refine xr ?_;refine xr ?_;refine xr ?_;refine ay rfl rfl rfl (ba rfl iu ix) trivial fun b7=>?_;refine aX rfl rfl (aO rfl bW rfl rfl rfl) ⟨rfl,rfl,trivial⟩ ?_;refine aq ?_;refine aq (nt (ag (sr ?_)));refine mq ?_;refine ja (dA rfl) ?_;refine nt (cw h (fun h=>?_) (fun h=>?_))
  ·refine sr (cq ?_);refine cq ?_;refine cq (nt (rx ?_));refine bf (eW (t:=(.slice (.slice (.int .i64)))) (x:=[]) 2 rfl .nil rfl rfl) ?_;cases h;exact aC () [_,_,_] 0 ⟨rfl,rfl,rfl,trivial⟩ rfl
  ·refine sk (sr (mq ?_));refine lo bW ?_;obtain⟨r8,c,h⟩:=aa h;refine ay rfl rfl rfl (aK (N:=[(.tmp 29,.at ak (a0,(.map (some z3)))),(.tmp 30,.rep (.arr 3 (.arr 5 (.int .i64))) r6.1)]) (aj [.tmp 29,.tmp 30] rfl rfl Da rfl (er k (a0,()) r6.1 r8 c)) fun _ _ _ hn=>⟨(jk hn.1),hn.2.1,trivial⟩) ⟨rfl,rfl,trivial⟩ fun v9=>?_;refine mq ?_;refine aq ?_;refine aq ?_;refine cq (nt (aA ?_));refine bf (d6 [2,31] ⟨rfl,rfl,trivial⟩) ?_;cases h;exact aC () [_,_,_] 0 ⟨rfl,rfl,rfl,trivial⟩ rfl
set_option maxRecDepth 20000
set_option maxHeartbeats 4000000
def Ii(b:Nat):List Int→Option Addr
 |[]=>none
 |_::_=>some ⟨b,0,none⟩
def K1:List Int→Value→Value
 |[],_=>.slice none 0 0
 |_::_,v=>v
theorem HM(b:Nat)(l:List Int):Ii b l=none∨Ii b l=some ⟨b,0,none⟩:=by cases l <;> simp [Ii]
theorem Dq(b:Nat)(l:List Int)(c:Int):Ii b (l++[c])=some ⟨b,0,none⟩:=by cases l <;> rfl
theorem Dp(l:List Int)(c:Int)(v:Value):K1 (l++[c]) v=v:=by cases l <;> rfl
theorem F5:kx Tryz.prog 86 9 1 16:=.of (z:=(.string .empty)) MV (by kernel_rfl) rfl rfl rfl
theorem HD:ah Tryz.prog 121:=ah.of Tryz.func121 (by kernel_rfl) (by kernel_rfl)
theorem JF:ah Tryz.prog 35:=ah.of Tryz.func35 (by kernel_rfl) (by kernel_rfl)
theorem IF:dc Tryz.prog 25 3 true:=⟨fun w=>by kernel_rfl,fun w=>by kernel_rfl⟩
theorem FZ:dc Tryz.prog 23 1 false:=⟨fun w=>by kernel_rfl,fun w=>by kernel_rfl⟩
theorem IE:dc Tryz.prog 3 1 false:=⟨fun w=>by kernel_rfl,fun w=>by kernel_rfl⟩
def jO(c:Int):Int:=IntKind.i32.wrap (97+IntKind.i32.wrap c)
def ju(xs:List Int):Nat→Int×List Int→Option (List Int)
 |0,_=>none
 |n+1,y=>if y.1 < (xs.length:Int) then((cd xs y.1).bind fun c=>if 0≤jO c∧jO c≤127∧cg (y.2.length+1) then(ck (y.1+1)).bind fun z=>ju xs n (z,y.2++[jO c]) else none) else some y.2
def ib(k:Nat)(a1:List (List Int)):Nat→Int×List ByteArray→Option (List ByteArray)
 |0,_=>none
 |n+1,y=>if y.1 < (a1.length:Int) then((cd a1 y.1).bind fun xs=>(ju xs k (0,[])).bind fun l=>if cg (y.2.length+1) then(ck (y.1+1)).bind fun z=>ib k a1 n (z,y.2++[nW l]) else none) else some y.2
def pU(k:Nat)(a0:bC)(a1:(List (List Int))):Option (Value×Int):=
 (bV k a0 a1).bind fun e=>if¬(e=0) then some (.string .empty,e) else(ib k a1 k (0,[])).bind fun ss=>(rj k ss ⟨#[47]⟩).bind fun r=>some (.string r,0)
theorem ui(k:Nat)(a0:bC)(a1:(List (List Int)))(r:Value×Int)(h:pU k a0 a1=some r):
 cy Tryz.prog 67 [.rep aL a0,.rep (.slice (.slice (.int .i64))) a1] [.inv 0 dP] (fun _:Unit=>(bG [.eq r.1,I r.2],[.inv 0 dP])):=by
 unfold pU at h
 replace h:=bq h
 refine cy.of 43 Tryz.func67 rfl Tryz.ntmps67 rfl fun S w0=>?_
 refine sr ?_
 refine bx fun b2=>?_
 refine cq ?_
 refine cq ?_
 refine nt ?_
 refine ag ?_
 refine sr ?_
 obtain⟨e,ee,h⟩:=aa h
 have ce:=bS k a0 a1 e ee
 refine ka (ap rfl IF (vq) rfl) ?_
 refine mq ?_
 refine fr 1 ?_
 refine kb (aj [.tmp 13,.tmp 14] rfl rfl JF rfl ce) ?_
 refine aq ?_
 refine nt ?_
 refine sr ?_
 refine mq ?_
 refine jb (cm rfl) ?_
 refine nt ?_
 refine bu rfl (fun hb=>?_) (fun hb=>?_)
 ·
  replace h:=bD (qR hb) h;refine sr (mq ?_);refine cq ?_;refine aq (nt (rx ?_));cases h;exact aC () [_,_] 1 ⟨rfl,rfl,trivial⟩ rfl
 replace h:=aP (iY hb) h
 refine sk ?_
 refine sr ?_
 refine cq ?_
 refine nt ?_
 rw [Option.bind_assoc] at h
 refine ag ?_
 refine sr ?_
 refine mq ?_
 refine ol nS ?_
 refine de rfl ?_
 refine bX (SE.nil 9 .str) ?_
 refine nt ?_
 refine ao ?_
 refine aR (fun v y=>[(7,.eq v),(19,.rep (.slice (.slice (.int .i64))) a1),(20,I (a1.length:Int)),(21,I y.1)]) (fun v y=>[.sl v 9 .str y.2,.inv 0 dP]) (ib k a1) k (.slice none 0 0) (0,[]) (fun _=>rfl) h (SE.fin [0,1] ⟨rfl,rfl,rfl,rfl,trivial⟩ rfl) (fun n v7 y h=>?_)
 unfold ib at h
 refine sr ?_
 refine jb (bO rfl) ?_
 refine nt ?_
 refine ag ?_
 refine bu rfl (fun hb=>?_) (fun hb=>?_)
 ·
  replace h:=bD (ln hb) h;refine sk (ag (ao ?_));obtain⟨xs,exs,h⟩:=aa h;refine sr (jb (bH (t:=.slice (.int .i64)) rfl nS FZ exs) ?_);refine ja (au (t:=.slice (.int .i64)) rfl FZ rfl) ?_;refine aq (nt (sr ?_));refine ay rfl rfl rfl (ba rfl AO Du) trivial fun b=>?_;refine nt ?_;rw [Option.bind_assoc] at h;refine ag (sr (mq ?_));refine ol fU ?_;refine de rfl ?_;refine bX (SE.nil 5 (.int .u8)) ?_;refine nt (ao ?_)
  refine aR (fun v q=>[(7,.eq v7),(10,.eq (bP b)),(19,.rep (.slice (.slice (.int .i64))) a1),(20,I (a1.length:Int)),(21,I y.1),(25,Ri xs),(26,I (xs.length:Int)),(27,I q.1)])
   (fun v q=>[.obj b 162 (bA (.pointer (Ii b q.2)) (K1 q.2 v)),.sl (K1 q.2 v) 5 (.int .u8) q.2,.sl v7 9 .str y.2,.inv 0 dP]) (ju xs) k undef (0,[]) (fun _=>rfl) h (SE.fin [1,0,2,3] ⟨rfl,rfl,rfl,rfl,rfl,rfl,rfl,rfl,trivial⟩ rfl) (fun n2 v q h=>?_)
  unfold ju at h;refine sr (jb (bO rfl) ?_);refine nt (ag (bu rfl (fun hb=>?_) (fun hb=>?_)))
  ·replace h:=bD (ln hb) h;refine sk (ag (ao ?_));obtain⟨c,ec,h⟩:=aa h;refine sr (jb (bH (t:=.int .i64) rfl fU IE ec) ?_);refine ja (au (t:=.int .i64) rfl IE rfl) ?_;refine aq (nt ?_)
   have hk:0≤jO c∧jO c≤127∧cg (q.2.length+1):=by
    apply Classical.byContradiction;intro hn;rw [if_neg hn] at h;cases h
   replace h:=bD hk h;refine sQ 1 rfl fun hv=>?_;refine ab (mq ?_);refine ja (qi rfl U3 MG) ?_;refine jb (GZ rfl) ?_;refine bI (Δ:=[_,_]) (F:=_) (fun _ _ _=>ar rfl _) rfl rfl (aj [.tmp 10,.tmp 33] rfl rfl HE rfl (uo (b:=b) (p:=Ii b q.2) (v:=K1 q.2 v) (l:=q.2) (r:=jO c) (HM b q.2) hv hk.1 hk.2.1 hk.2.2)) ⟨rfl,rfl,trivial⟩ fun v2=>?_;refine an (aI (tn (ab ?_)));obtain⟨z3,ez3,h⟩:=aa h;refine jb (bM rfl ez3) ?_;refine mq (nl ?_);exact g9 (v2,(z3,q.2++[jO c])) h (SE.fin [0,1,2,3] ⟨rfl,rfl,rfl,rfl,rfl,rfl,rfl,rfl,trivial⟩ (by simp only [Dq,Dp];rfl))
  replace h:=aP (kV hb) h;refine dM (aZ (aZ (bY (tn ?_))));replace h:(if cg (y.2.length+1) then(ck (y.1+1)).bind fun z=>ib k a1 n (z,y.2++[nW q.2]) else none).bind _=some r:=h
  have hk:cg (y.2.length+1):=by
   apply Classical.byContradiction;intro hn;rw [if_neg hn] at h;cases h
  replace h:=bD hk h;refine ab (mq ?_);refine bI (Δ:=[_,_]) (F:=_) (fun _ _ _=>ar rfl _) rfl rfl (aj [.tmp 10] rfl rfl C9 rfl (tw (b:=b) (l:=q.2) (fun hn=>by rw [hn];rfl))) ⟨rfl,trivial⟩ fun _=>?_;refine ja (aJ (t:=.str) [(.tmp 37,.eq (.string (nW q.2)))] [nW q.2] rfl rfl F5 (.cons rfl .str .nil) rfl rfl) ?_;refine eh rfl rfl rfl (cV rfl rfl F5 (by simpa using hk)) ⟨rfl,rfl,trivial⟩ fun v'=>?_;refine aq (an (aI (tn (ab ?_))));obtain⟨z3,ez3,h⟩:=aa h;refine jb (bM rfl ez3) ?_;refine mq (nl ?_);exact jz (v',(z3,y.2++[nW q.2])) h [0,1]
 replace h:=aP (kV hb) h
 refine dM ?_
 refine aZ ?_
 refine aZ ?_
 refine bY ?_
 refine tn ?_
 replace h:((rj k y.2 ⟨#[47]⟩).bind fun r=>some (.string r,0)).bind some=some r:=h
 obtain⟨r1,j,h⟩:=aa h
 cases h
 have cj:=xI k y.2 _ r1 j
 refine sr ?_
 refine bX (d6 [7] ⟨rfl,trivial⟩) ?_
 refine mq ?_
 refine jb (aj [.tmp 41,.const (.string ⟨#[47]⟩)] rfl rfl HD rfl cj) ?_
 refine aq ?_
 refine cq ?_
 refine nt ?_
 refine aA ?_
 exact aC () [_,_] 1 ⟨rfl,rfl,trivial⟩ rfl
def ov(k:Nat):Option Bool:=
 (bB k ([]:(List Int))).bind fun r1=>
 (iZ k).bind fun r2=>
 (ri k r1 r2 1).bind fun r3=>
 (bB k ([]:(List Int))).bind fun r4=>
 (iZ k).bind fun r5=>
 (jH k r4 r5).bind fun r6=>
 (bB k ([]:(List Int))).bind fun r7=>
 (oR k r7).bind fun r8=>
 (bB k ([]:(List Int))).bind fun r9=>
 (yV k).bind fun E=>
 (oQ k r9 E).bind fun c=>
 (bB k ([]:(List Int))).bind fun D=>
 (iZ k).bind fun y=>
 (lR k D y 0 1).bind fun h=>
 (bB k ([]:(List Int))).bind fun x=>
 (iZ k).bind fun u=>
 (pU k x u).bind fun e=>
 ((if r3.2.2=0 then(if r6.2=0 then(if r8.2.2=0 then(if c.2.2.2=0 then(if h.2.2=0 then(if e.2=0 then(if r6.1=3 then(if r8.2.1=0 then(if c.1=0 then(if c.2.1=2 then(if c.2.2.1=1 then(if h.2.1=2 then((fu (sx e.1=true)).bind fun _=>
 if C5 e.1 (⟨#[98,97,100,47,99]⟩:ByteArray)=true then((eC k r3.1 [0]).bind fun s=>
 if s=true then((dq k r3.2.1 [[0,1,3],[2]]).bind fun r=>
 if r=true then((dq k r8.1 [[2,0],[1,3]]).bind fun n=>
 if n=true then((eC k h.1 [0,1,3]).bind fun l=>
 some l) else(some false)) else(some false)) else(some false)) else(some false)) else(some false)) else(some false)) else(some false)) else(some false)) else(some false)) else(some false)) else(some false)) else(some false)) else(some false)) else(some false)) else(some false)) else(some false)):Option (Bool)).bind fun j=>
 some j
theorem td(k:Nat)(r:Bool)(h:ov k=some r):
 cH (fD Tryz.prog) 25 [] [.inv 0 (dP)] (fun _:Unit=>(bG [.eq (.bool r)],[.inv 0 (dP)])):=by
 unfold ov at h
 replace h:=bq h
 refine cH.of 132 Tryz.func25 rfl Tryz.ntmps25 rfl fun S w0=>?_
 refine sr ?_
 refine cq ?_
 refine nt ?_
 refine sr ?_
 obtain⟨r1,Nr,h⟩:=aa h
 have NE:=be k ([]:(List Int)) r1 Nr
 refine ja (aK (N:=[(.const (.slice none 0 0),.eq (.slice none 0 0))]) (aj [.const (.slice none 0 0)] rfl rfl io rfl NE) fun _ _ _ hn=>⟨(bb (t:=(.slice (.int .i64))) (x:=([]:(List Int))) .nil rfl rfl hn.1),trivial⟩) ?_
 obtain⟨r2,Nq,h⟩:=aa h
 have ND:=dT k r2 Nq
 refine ax rfl (aj [] rfl rfl oz rfl ND) trivial ?_
 obtain⟨r3,Np,h⟩:=aa h
 have NC:=rK k r1 r2 1 r3 Np
 refine kc (aj [.tmp 19,.tmp 20,.const (.int .i64 (1))] rfl rfl JP rfl NC) ?_
 refine mq ?_
 refine xr ?_
 refine xr ?_
 refine xr ?_
 refine aq ?_
 refine aq ?_
 refine aq ?_
 refine nt ?_
 refine sr ?_
 obtain⟨r4,Nn,h⟩:=aa h
 have NA:=be k ([]:(List Int)) r4 Nn
 refine ja (aK (N:=[(.const (.slice none 0 0),.eq (.slice none 0 0))]) (aj [.const (.slice none 0 0)] rfl rfl io rfl NA) fun _ _ _ hn=>⟨(bb (t:=(.slice (.int .i64))) (x:=([]:(List Int))) .nil rfl rfl hn.1),trivial⟩) ?_
 obtain⟨r5,Nl,h⟩:=aa h
 have Nz:=dT k r5 Nl
 refine ax rfl (aj [] rfl rfl oz rfl Nz) trivial ?_
 obtain⟨r6,Nk,h⟩:=aa h
 have Ny:=jy k r4 r5 r6 Nk
 refine kb (cP [.tmp 26,.tmp 27] rfl rfl HH rfl Ny) ?_
 refine mq ?_
 refine xr ?_
 refine xr ?_
 refine aq ?_
 refine aq ?_
 refine nt ?_
 refine sr ?_
 obtain⟨r7,Nj,h⟩:=aa h
 have Nw:=be k ([]:(List Int)) r7 Nj
 refine ja (aK (N:=[(.const (.slice none 0 0),.eq (.slice none 0 0))]) (aj [.const (.slice none 0 0)] rfl rfl io rfl Nw) fun _ _ _ hn=>⟨(bb (t:=(.slice (.int .i64))) (x:=([]:(List Int))) .nil rfl rfl hn.1),trivial⟩) ?_
 obtain⟨r8,Ni,h⟩:=aa h
 have Nv:=qK k r7 r8 Ni
 refine ja (cP [.tmp 32] rfl rfl JK rfl Nv) ?_
 refine mq ?_
 refine xr ?_
 refine xr ?_
 refine xr ?_
 refine aq ?_
 refine aq ?_
 refine aq ?_
 refine nt ?_
 refine sr ?_
 obtain⟨r9,Nh,h⟩:=aa h
 have Nu:=be k ([]:(List Int)) r9 Nh
 refine ja (aK (N:=[(.const (.slice none 0 0),.eq (.slice none 0 0))]) (aj [.const (.slice none 0 0)] rfl rfl io rfl Nu) fun _ _ _ hn=>⟨(bb (t:=(.slice (.int .i64))) (x:=([]:(List Int))) .nil rfl rfl hn.1),trivial⟩) ?_
 obtain⟨E,qt,h⟩:=aa h
 have M7:=wE k E qt
 refine ax rfl (aj [] rfl rfl JH rfl M7) trivial ?_
 obtain⟨Nc,pp,h⟩:=aa h
 have M6:=qJ k r9 E Nc pp
 refine kb (cP [.tmp 38,.tmp 39] rfl rfl JM rfl M6) ?_
 refine mq ?_
 refine xr ?_
 refine xr ?_
 refine xr ?_
 refine xr ?_
 refine aq ?_
 refine aq ?_
 refine aq ?_
 refine aq ?_
 refine nt ?_
 refine sr ?_
 obtain⟨D,mc,h⟩:=aa h
 have M5:=be k ([]:(List Int)) D mc
 refine ja (aK (N:=[(.const (.slice none 0 0),.eq (.slice none 0 0))]) (aj [.const (.slice none 0 0)] rfl rfl io rfl M5) fun _ _ _ hn=>⟨(bb (t:=(.slice (.int .i64))) (x:=([]:(List Int))) .nil rfl rfl hn.1),trivial⟩) ?_
 obtain⟨y,ac,h⟩:=aa h
 have M4:=dT k y ac
 refine ax rfl (aj [] rfl rfl oz rfl M4) trivial ?_
 obtain⟨u,Y,h⟩:=aa h
 have MZ:=nO k D y 0 1 u Y
 refine bL rfl rfl rfl (cP [.tmp 46,.tmp 47,.const (.int .i64 (0)),.const (.int .i64 (1))] rfl rfl JL rfl MZ) ⟨rfl,rfl,rfl,rfl,trivial⟩ ?_
 refine mq ?_
 refine xr ?_
 refine xr ?_
 refine xr ?_
 refine aq ?_
 refine aq ?_
 refine aq ?_
 refine nt ?_
 refine sr ?_
 obtain⟨n,X,h⟩:=aa h
 have MY:=be k ([]:(List Int)) n X
 refine ja (aK (N:=[(.const (.slice none 0 0),.eq (.slice none 0 0))]) (aj [.const (.slice none 0 0)] rfl rfl io rfl MY) fun _ _ _ hn=>⟨(bb (t:=(.slice (.int .i64))) (x:=([]:(List Int))) .nil rfl rfl hn.1),trivial⟩) ?_
 obtain⟨l,U,h⟩:=aa h
 have MX:=dT k l U
 refine ax rfl (aj [] rfl rfl oz rfl MX) trivial ?_
 obtain⟨Nb,Q,h⟩:=aa h
 have se:=ui k n l Nb Q
 refine kb (aj [.tmp 53,.tmp 54] rfl rfl LM rfl se) ?_
 refine mq ?_
 refine xr ?_
 refine xr ?_
 refine aq ?_
 refine aq ?_
 refine nt ?_
 refine a9 (Z:=Unit) (α:=Bool) (fun e c=>[(0,.eq (.bool c))]) (fun e c=>[.inv 0 (dP)]) h (fun K h=>?_) (fun e c h=>?_)
 ·
  refine ab (mq ?_);refine jb (du rfl) ?_;refine mq ?_;refine aH (s:=60) rfl (fun hb=>?_) (fun hb=>?_)
  ·replace h:=bD (ln hb) h;refine gm ?_;refine gb (du rfl) ?_;refine pt ?_;refine mq ?_;refine aH (s:=64) rfl (fun hb=>?_) (fun hb=>?_)
   ·replace h:=bD (ln hb) h;refine gm ?_;refine gb (du rfl) ?_;refine pt ?_;refine mq ?_;refine aH (s:=68) rfl (fun hb=>?_) (fun hb=>?_)
    ·replace h:=bD (ln hb) h;refine gm ?_;refine gb (du rfl) ?_;refine pt ?_;refine mq ?_;refine aH (s:=72) rfl (fun hb=>?_) (fun hb=>?_)
     ·replace h:=bD (ln hb) h;refine gm ?_;refine gb (du rfl) ?_;refine pt ?_;refine mq ?_;refine aH (s:=76) rfl (fun hb=>?_) (fun hb=>?_)
      ·replace h:=bD (ln hb) h;refine gm ?_;refine gb (du rfl) ?_;refine pt ?_;refine mq ?_;refine aH (s:=80) rfl (fun hb=>?_) (fun hb=>?_)
       ·replace h:=bD (ln hb) h;refine gm ?_;refine gb (du rfl) ?_;refine pt ?_;refine mq ?_;refine aH (s:=84) rfl (fun hb=>?_) (fun hb=>?_)
        ·replace h:=bD (ln hb) h;refine gm ?_;refine gb (du rfl) ?_;refine pt ?_;refine mq ?_;refine aH (s:=88) rfl (fun hb=>?_) (fun hb=>?_)
         ·replace h:=bD (ln hb) h;refine gm ?_;refine gb (du rfl) ?_;refine pt ?_;refine mq ?_;refine aH (s:=92) rfl (fun hb=>?_) (fun hb=>?_)
          ·replace h:=bD (ln hb) h;refine gm ?_;refine gb (du rfl) ?_;refine pt ?_;refine mq ?_;refine aH (s:=96) rfl (fun hb=>?_) (fun hb=>?_)
           ·replace h:=bD (ln hb) h;refine gm ?_;refine gb (du rfl) ?_;refine pt ?_;refine mq ?_;refine aH (s:=100) rfl (fun hb=>?_) (fun hb=>?_)
            ·replace h:=bD (ln hb) h;refine gm ?_;refine gb (du rfl) ?_;refine pt ?_;refine mq ?_;refine aH (s:=104) rfl (fun hb=>?_) (fun hb=>?_)
             ·replace h:=bD (ln hb) h;refine gm ?_;obtain⟨NF,F,h⟩:=aa h;refine gb (BI rfl (aB F)) ?_;refine pt ?_;refine mq ?_;refine aH (s:=108) rfl (fun hb=>?_) (fun hb=>?_)
              ·replace h:=bD (xB hb) h;refine gm ?_;refine ga (aJ (t:=(.int .i64)) [(.const (.int .i64 (0)),_)] [0] rfl rfl cR (.cons rfl .int .nil) rfl rfl) ?_;obtain⟨Na,O,h⟩:=aa h;refine gb (aj [.tmp 109,.tmp 110] rfl rfl Ao rfl (ep k r3.1 [0] Na O)) ?_;refine pt ?_;refine mq ?_;refine aH (s:=113) rfl (fun hb=>?_) (fun hb=>?_)
               ·replace h:=bD (xB hb) h;refine gm ?_;refine gc (aJ (t:=(.int .i64)) [(.const (.int .i64 (0)),_),(.const (.int .i64 (1)),_),(.const (.int .i64 (3)),_)] [0,1,3] rfl rfl cR (.cons rfl .int (.cons rfl .int (.cons rfl .int .nil))) rfl rfl) ?_;refine ga (aJ (t:=(.int .i64)) [(.const (.int .i64 (2)),_)] [2] rfl rfl cR (.cons rfl .int .nil) rfl rfl) ?_;refine gb (aJ (t:=(.slice (.int .i64))) [(.tmp 115,_),(.tmp 116,_)] [[0,1,3],[2]] rfl rfl lh (.cons rfl .rep (.cons rfl .rep .nil)) rfl rfl) ?_;obtain⟨M9,M,h⟩:=aa h;refine gb (aj [.tmp 114,.tmp 117] rfl rfl yu rfl (di k r3.2.1 [[0,1,3],[2]] M9 M)) ?_;refine pt ?_;refine mq ?_;refine aH (s:=120) rfl (fun hb=>?_) (fun hb=>?_)
                ·replace h:=bD (xB hb) h;refine gm ?_;refine gb (aJ (t:=(.int .i64)) [(.const (.int .i64 (2)),_),(.const (.int .i64 (0)),_)] [2,0] rfl rfl cR (.cons rfl .int (.cons rfl .int .nil)) rfl rfl) ?_;refine gb (aJ (t:=(.int .i64)) [(.const (.int .i64 (1)),_),(.const (.int .i64 (3)),_)] [1,3] rfl rfl cR (.cons rfl .int (.cons rfl .int .nil)) rfl rfl) ?_;refine gb (aJ (t:=(.slice (.int .i64))) [(.tmp 122,_),(.tmp 123,_)] [[2,0],[1,3]] rfl rfl lh (.cons rfl .rep (.cons rfl .rep .nil)) rfl rfl) ?_;obtain⟨M8,J,h⟩:=aa h;refine gb (aj [.tmp 121,.tmp 124] rfl rfl yu rfl (di k r8.1 [[2,0],[1,3]] M8 J)) ?_;refine pt ?_;refine mq ?_;refine aH (s:=127) rfl (fun hb=>?_) (fun hb=>?_)
                 ·replace h:=bD (xB hb) h;refine gm ?_;refine gc (aJ (t:=(.int .i64)) [(.const (.int .i64 (0)),_),(.const (.int .i64 (1)),_),(.const (.int .i64 (3)),_)] [0,1,3] rfl rfl cR (.cons rfl .int (.cons rfl .int (.cons rfl .int .nil))) rfl rfl) ?_;obtain⟨j,I,h⟩:=aa h;refine gb (aj [.tmp 128,.tmp 129] rfl rfl Ao rfl (ep k u.1 [0,1,3] j I)) ?_;refine pt ?_;refine aq (nl ?_);exact jz ((),j) h [0]
                 ·replace h:=aP (xC hb) h;iterate 3 refine gn ?_
                  refine pf ?_;refine aq (nl ?_);exact jz ((),false) h [0]
                ·replace h:=aP (xC hb) h;iterate 5 refine gn ?_
                 refine pf ?_;refine mq ?_;iterate 3 refine gn ?_
                 refine pf ?_;refine aq (nl ?_);exact jz ((),false) h [0]
               ·replace h:=aP (xC hb) h;iterate 5 refine gn ?_
                refine pf ?_;refine mq ?_;iterate 5 refine gn ?_
                refine pf ?_;refine mq ?_;iterate 3 refine gn ?_
                refine pf ?_;refine aq (nl ?_);exact jz ((),false) h [0]
              ·replace h:=aP (xC hb) h;iterate 3 refine gn ?_
               refine pf ?_;refine mq ?_;iterate 5 refine gn ?_
               refine pf ?_;refine mq ?_;iterate 5 refine gn ?_
               refine pf ?_;refine mq ?_;iterate 3 refine gn ?_
               refine pf ?_;refine aq (nl ?_);exact jz ((),false) h [0]
             ·replace h:=aP (kV hb) h;iterate 2 refine gn ?_
              refine pf ?_;refine mq ?_;iterate 3 refine gn ?_
              refine pf ?_;refine mq ?_;iterate 5 refine gn ?_
              refine pf ?_;refine mq ?_;iterate 5 refine gn ?_
              refine pf ?_;refine mq ?_;iterate 3 refine gn ?_
              refine pf ?_;refine aq (nl ?_);exact jz ((),false) h [0]
            ·replace h:=aP (kV hb) h;iterate 2 refine gn ?_
             refine pf ?_;refine mq ?_;iterate 2 refine gn ?_
             refine pf ?_;refine mq ?_;iterate 3 refine gn ?_
             refine pf ?_;refine mq ?_;iterate 5 refine gn ?_
             refine pf ?_;refine mq ?_;iterate 5 refine gn ?_
             refine pf ?_;refine mq ?_;iterate 3 refine gn ?_
             refine pf ?_;refine aq (nl ?_);exact jz ((),false) h [0]
           ·replace h:=aP (kV hb) h;iterate 2 refine gn ?_
            refine pf ?_;refine mq ?_;iterate 2 refine gn ?_
            refine pf ?_;refine mq ?_;iterate 2 refine gn ?_
            refine pf ?_;refine mq ?_;iterate 3 refine gn ?_
            refine pf ?_;refine mq ?_;iterate 5 refine gn ?_
            refine pf ?_;refine mq ?_;iterate 5 refine gn ?_
            refine pf ?_;refine mq ?_;iterate 3 refine gn ?_
            refine pf ?_;refine aq (nl ?_);exact jz ((),false) h [0]
          ·replace h:=aP (kV hb) h;iterate 2 refine gn ?_
           refine pf ?_;refine mq ?_;iterate 2 refine gn ?_
           refine pf ?_;refine mq ?_;iterate 2 refine gn ?_
           refine pf ?_;refine mq ?_;iterate 2 refine gn ?_
           refine pf ?_;refine mq ?_;iterate 3 refine gn ?_
           refine pf ?_;refine mq ?_;iterate 5 refine gn ?_
           refine pf ?_;refine mq ?_;iterate 5 refine gn ?_
           refine pf ?_;refine mq ?_;iterate 3 refine gn ?_
           refine pf ?_;refine aq (nl ?_);exact jz ((),false) h [0]
         ·replace h:=aP (kV hb) h;iterate 2 refine gn ?_
          refine pf ?_;refine mq ?_;iterate 2 refine gn ?_
          refine pf ?_;refine mq ?_;iterate 2 refine gn ?_
          refine pf ?_;refine mq ?_;iterate 2 refine gn ?_
          refine pf ?_;refine mq ?_;iterate 2 refine gn ?_
          refine pf ?_;refine mq ?_;iterate 3 refine gn ?_
          refine pf ?_;refine mq ?_;iterate 5 refine gn ?_
          refine pf ?_;refine mq ?_;iterate 5 refine gn ?_
          refine pf ?_;refine mq ?_;iterate 3 refine gn ?_
          refine pf ?_;refine aq (nl ?_);exact jz ((),false) h [0]
        ·replace h:=aP (kV hb) h;iterate 2 refine gn ?_
         refine pf ?_;refine mq ?_;iterate 2 refine gn ?_
         refine pf ?_;refine mq ?_;iterate 2 refine gn ?_
         refine pf ?_;refine mq ?_;iterate 2 refine gn ?_
         refine pf ?_;refine mq ?_;iterate 2 refine gn ?_
         refine pf ?_;refine mq ?_;iterate 2 refine gn ?_
         refine pf ?_;refine mq ?_;iterate 3 refine gn ?_
         refine pf ?_;refine mq ?_;iterate 5 refine gn ?_
         refine pf ?_;refine mq ?_;iterate 5 refine gn ?_
         refine pf ?_;refine mq ?_;iterate 3 refine gn ?_
         refine pf ?_;refine aq (nl ?_);exact jz ((),false) h [0]
       ·replace h:=aP (kV hb) h;iterate 2 refine gn ?_
        refine pf ?_;refine mq ?_;iterate 2 refine gn ?_
        refine pf ?_;refine mq ?_;iterate 2 refine gn ?_
        refine pf ?_;refine mq ?_;iterate 2 refine gn ?_
        refine pf ?_;refine mq ?_;iterate 2 refine gn ?_
        refine pf ?_;refine mq ?_;iterate 2 refine gn ?_
        refine pf ?_;refine mq ?_;iterate 2 refine gn ?_
        refine pf ?_;refine mq ?_;iterate 3 refine gn ?_
        refine pf ?_;refine mq ?_;iterate 5 refine gn ?_
        refine pf ?_;refine mq ?_;iterate 5 refine gn ?_
        refine pf ?_;refine mq ?_;iterate 3 refine gn ?_
        refine pf ?_;refine aq (nl ?_);exact jz ((),false) h [0]
      ·replace h:=aP (kV hb) h;iterate 2 refine gn ?_
       refine pf ?_;refine mq ?_;iterate 2 refine gn ?_
       refine pf ?_;refine mq ?_;iterate 2 refine gn ?_
       refine pf ?_;refine mq ?_;iterate 2 refine gn ?_
       refine pf ?_;refine mq ?_;iterate 2 refine gn ?_
       refine pf ?_;refine mq ?_;iterate 2 refine gn ?_
       refine pf ?_;refine mq ?_;iterate 2 refine gn ?_
       refine pf ?_;refine mq ?_;iterate 2 refine gn ?_
       refine pf ?_;refine mq ?_;iterate 3 refine gn ?_
       refine pf ?_;refine mq ?_;iterate 5 refine gn ?_
       refine pf ?_;refine mq ?_;iterate 5 refine gn ?_
       refine pf ?_;refine mq ?_;iterate 3 refine gn ?_
       refine pf ?_;refine aq (nl ?_);exact jz ((),false) h [0]
     ·replace h:=aP (kV hb) h;iterate 2 refine gn ?_
      refine pf ?_;refine mq ?_;iterate 2 refine gn ?_
      refine pf ?_;refine mq ?_;iterate 2 refine gn ?_
      refine pf ?_;refine mq ?_;iterate 2 refine gn ?_
      refine pf ?_;refine mq ?_;iterate 2 refine gn ?_
      refine pf ?_;refine mq ?_;iterate 2 refine gn ?_
      refine pf ?_;refine mq ?_;iterate 2 refine gn ?_
      refine pf ?_;refine mq ?_;iterate 2 refine gn ?_
      refine pf ?_;refine mq ?_;iterate 2 refine gn ?_
      refine pf ?_;refine mq ?_;iterate 3 refine gn ?_
      refine pf ?_;refine mq ?_;iterate 5 refine gn ?_
      refine pf ?_;refine mq ?_;iterate 5 refine gn ?_
      refine pf ?_;refine mq ?_;iterate 3 refine gn ?_
      refine pf ?_;refine aq (nl ?_);exact jz ((),false) h [0]
    ·replace h:=aP (kV hb) h;iterate 2 refine gn ?_
     refine pf ?_;refine mq ?_;iterate 2 refine gn ?_
     refine pf ?_;refine mq ?_;iterate 2 refine gn ?_
     refine pf ?_;refine mq ?_;iterate 2 refine gn ?_
     refine pf ?_;refine mq ?_;iterate 2 refine gn ?_
     refine pf ?_;refine mq ?_;iterate 2 refine gn ?_
     refine pf ?_;refine mq ?_;iterate 2 refine gn ?_
     refine pf ?_;refine mq ?_;iterate 2 refine gn ?_
     refine pf ?_;refine mq ?_;iterate 2 refine gn ?_
     refine pf ?_;refine mq ?_;iterate 2 refine gn ?_
     refine pf ?_;refine mq ?_;iterate 3 refine gn ?_
     refine pf ?_;refine mq ?_;iterate 5 refine gn ?_
     refine pf ?_;refine mq ?_;iterate 5 refine gn ?_
     refine pf ?_;refine mq ?_;iterate 3 refine gn ?_
     refine pf ?_;refine aq (nl ?_);exact jz ((),false) h [0]
   ·replace h:=aP (kV hb) h;iterate 2 refine gn ?_
    refine pf ?_;refine mq ?_;iterate 2 refine gn ?_
    refine pf ?_;refine mq ?_;iterate 2 refine gn ?_
    refine pf ?_;refine mq ?_;iterate 2 refine gn ?_
    refine pf ?_;refine mq ?_;iterate 2 refine gn ?_
    refine pf ?_;refine mq ?_;iterate 2 refine gn ?_
    refine pf ?_;refine mq ?_;iterate 2 refine gn ?_
    refine pf ?_;refine mq ?_;iterate 2 refine gn ?_
    refine pf ?_;refine mq ?_;iterate 2 refine gn ?_
    refine pf ?_;refine mq ?_;iterate 2 refine gn ?_
    refine pf ?_;refine mq ?_;iterate 2 refine gn ?_
    refine pf ?_;refine mq ?_;iterate 3 refine gn ?_
    refine pf ?_;refine mq ?_;iterate 5 refine gn ?_
    refine pf ?_;refine mq ?_;iterate 5 refine gn ?_
    refine pf ?_;refine mq ?_;iterate 3 refine gn ?_
    refine pf ?_;refine aq (nl ?_);exact jz ((),false) h [0]
  ·replace h:=aP (kV hb) h;iterate 2 refine gn ?_
   refine pf ?_;refine mq ?_;iterate 2 refine gn ?_
   refine pf ?_;refine mq ?_;iterate 2 refine gn ?_
   refine pf ?_;refine mq ?_;iterate 2 refine gn ?_
   refine pf ?_;refine mq ?_;iterate 2 refine gn ?_
   refine pf ?_;refine mq ?_;iterate 2 refine gn ?_
   refine pf ?_;refine mq ?_;iterate 2 refine gn ?_
   refine pf ?_;refine mq ?_;iterate 2 refine gn ?_
   refine pf ?_;refine mq ?_;iterate 2 refine gn ?_
   refine pf ?_;refine mq ?_;iterate 2 refine gn ?_
   refine pf ?_;refine mq ?_;iterate 2 refine gn ?_
   refine pf ?_;refine mq ?_;iterate 2 refine gn ?_
   refine pf ?_;refine mq ?_;iterate 3 refine gn ?_
   refine pf ?_;refine mq ?_;iterate 5 refine gn ?_
   refine pf ?_;refine mq ?_;iterate 5 refine gn ?_
   refine pf ?_;refine mq ?_;iterate 3 refine gn ?_
   refine pf ?_;refine aq (nl ?_);exact jz ((),false) h [0]
 ·
  refine aA ?_;cases h;exact aC () [_] 1 ⟨rfl,trivial⟩ rfl
def ly(k:Nat)(a0:bC)(a1:(List (List Int)))(a2:Int):Option ((List (List Int))×Int):=
 (bV k a0 a1).bind fun r2=>
 if¬(r2=0) then(some ([],r2)) else((dC k a2 0 a0.1).bind fun r3=>
 if¬(r3=true) then(some ([],3)) else((cY k a1).bind fun r5=>
 (hP k (a0,()) r5 a2).bind fun r6=>
 (dR k (a0,()) r6).bind fun r7=>
 some (r7,0)))
theorem lT(k:Nat)(a0:bC)(a1:(List (List Int)))(a2:Int)(r:(List (List Int))×Int)(h:ly k a0 a1 a2=some r):
 cy Tryz.prog 52 [.rep aL a0,.rep (.slice (.slice (.int .i64))) a1,I a2] [.inv 0 (dP)] (fun _:Unit=>(bG [.rep (.slice (.slice (.int .i64))) r.1,I r.2],[.inv 0 (dP)])):=by
 unfold ly at h
 replace h:=bq h
 refine cy.of 30 Tryz.func52 rfl Tryz.ntmps52 rfl fun S w0=>?_
 refine sr ?_
 refine bx fun b1=>?_
 refine cq ?_
 refine cq ?_
 refine nt ?_
 refine ag ?_
 refine sr ?_
 refine lo fB ?_
 refine mq ?_
 obtain⟨r2,n,h⟩:=aa h
 have s:=bS k a0 a1 r2 n
 refine fr 1 ?_
 refine kb (aj [.tmp 10,.tmp 11] rfl rfl wR rfl s) ?_
 refine aq ?_
 refine nt ?_
 refine sr ?_
 refine mq ?_
 refine jb (cm rfl) ?_
 refine nt ?_
 refine cn h (fun h=>?_) (fun h=>?_)
 ·
  refine sr (mq ?_);refine cq ?_;refine aq (nt (rx ?_));refine bf (eW (t:=(.slice (.slice (.int .i64)))) (x:=[]) 6 rfl .nil rfl rfl) ?_;cases h;exact aC () [_,_] 1 ⟨rfl,rfl,trivial⟩ rfl
 ·
  refine sk (ag (sr (mq ?_)));refine fl mb ?_;refine fr 1 ?_;refine lo d4 ?_;obtain⟨r3,l,h⟩:=aa h;refine jc (aj [.tmp 16,.const (.int .i64 (0)),.tmp 18] rfl rfl tf rfl (cT k a2 0 a0.1 r3 l)) ?_;refine ja (dA rfl) ?_;refine nt (cw h (fun h=>?_) (fun h=>?_))
  ·refine sr (cq ?_);refine cq (nt (rx ?_));refine bf (eW (t:=(.slice (.slice (.int .i64)))) (x:=[]) 6 rfl .nil rfl rfl) ?_;refine bf (SE.fin (Γ':=[(6,_),(7,_)]) [1,0] ⟨rfl,rfl,trivial⟩ rfl) ?_;cases h;exact aC () [_,_] 1 ⟨rfl,rfl,trivial⟩ rfl
  ·refine sk (sr (lo fB ?_));refine ay rfl rfl rfl (aj [.tmp 21] rfl rfl wQ rfl (cU a0)) ⟨rfl,trivial⟩ fun z4=>?_;refine bX (fH (aQ k a0) gf) ?_;refine aq (nt (sr ?_));iterate 3 refine mq ?_
   obtain⟨r5,j,h⟩:=aa h;refine ja (aj [.tmp 25] rfl rfl uS rfl (cE k a1 r5 j)) ?_;refine mq ?_;obtain⟨r6,e,h⟩:=aa h;refine jc (aK (N:=[(.tmp 24,.at ak (a0,(.map (some z4)))),(.tmp 26,.rep (.arr 3 (.arr 5 (.int .i64))) r5),(.tmp 27,I a2)]) (aj [.tmp 24,.tmp 26,.tmp 27] rfl rfl Gt rfl (kH k (a0,()) r5 a2 r6 e)) fun _ _ _ hn=>⟨(jk hn.1),hn.2.1,hn.2.2.1,trivial⟩) ?_;obtain⟨r7,c,h⟩:=aa h;refine ay rfl rfl rfl (aK (N:=[(.tmp 23,.at ak (a0,(.map (some z4)))),(.tmp 28,.rep (.arr 3 (.arr 5 (.int .i64))) r6)]) (aj [.tmp 23,.tmp 28] rfl rfl Da rfl (er k (a0,()) r6 r7 c)) fun _ _ _ hn=>⟨(jk hn.1),hn.2.1,trivial⟩) ⟨rfl,rfl,trivial⟩ fun v8=>?_;refine aq ?_;refine cq (nt (aA ?_));refine bf (d6 [6,29] ⟨rfl,rfl,trivial⟩) ?_;refine bf (SE.fin (Γ':=[(6,_),(7,_)]) [2,0,1] ⟨rfl,rfl,trivial⟩ rfl) ?_;cases h;exact aC () [_,_] 1 ⟨rfl,rfl,trivial⟩ rfl
def pW(k:Nat)(a0:bC):Option (Int×Int):=
 (oR k a0).bind fun r2=>
 if¬(r2.2.2=0) then(some (0,r2.2.2)) else((dF k (mn (fun(y8:Int) (j:(List (List Int)))=>
  (bU k a0 j).bind fun h=>
  if h=r2.2.1 then((ck (y8+1)).bind fun e=>
  some (e,true)) else(some (y8,true)))) (a0,()) (0,false)).bind fun c=>
 if c.2=true then(none) else(some (c.1,0)))
theorem uk(k:Nat)(a0:bC)(r:Int×Int)(h:pW k a0=some r):
 cH (fD Tryz.prog) 58 [.rep aL a0] [] (fun _:Unit=>(bG [I r.1,I r.2],[])):=by
 unfold pW at h
 replace h:=bq h
 refine sR 32 Tryz.func58 rfl Tryz.ntmps58 rfl fun S w0=>?_
 refine sr ?_
 refine bx fun b1=>?_
 refine cq ?_
 refine cq ?_
 refine nt ?_
 refine sr ?_
 refine lo fB ?_
 obtain⟨r2,D,h⟩:=aa h
 have O:=qK k a0 r2 D
 refine ja (cP [.tmp 11] rfl rfl JK rfl O) ?_
 refine mq ?_
 refine xr ?_
 refine xr ?_
 refine xr ?_
 refine ay rfl rfl rfl (ba rfl L6 ME) trivial fun b3=>?_
 refine aq ?_
 refine aX rfl rfl (aO rfl d4 rfl rfl rfl) ⟨rfl,rfl,trivial⟩ ?_
 refine aq ?_
 refine nt ?_
 refine ag ?_
 refine sr ?_
 refine mq ?_
 refine jb (cm rfl) ?_
 refine nt ?_
 refine cn h (fun h=>?_) (fun h=>?_)
 ·
  refine sr (mq ?_);refine cq ?_;refine aq (nt (rx ?_));refine xj ?_;cases h;exact rb
 ·
  refine sk (sr (fr 1 ?_));refine lo fB ?_;refine ay rfl rfl rfl (aj [.tmp 19] rfl rfl wQ rfl (cU a0)) ⟨rfl,trivial⟩ fun z4=>?_;refine bX (fH (aQ k a0) gf) ?_;refine ay rfl rfl rfl (ba rfl AP Dv) trivial fun b5=>?_;refine ay rfl rfl rfl (ba rfl L6 ME) trivial fun b6=>?_;refine fr 1 ?_;refine aX rfl rfl (aO rfl jl trivial rfl rfl) ⟨rfl,rfl,trivial⟩ ?_;refine fr 1 ?_;refine aX rfl rfl (aO rfl d4 rfl rfl rfl) ⟨rfl,rfl,trivial⟩ ?_;refine nt (ag (sr (fr 1 ?_)));refine lo jl ?_;refine ay rfl rfl rfl (aK (N:=[(.tmp 21,.at ak (a0,(.map (some z4))))]) (aj [.tmp 21] rfl rfl Dh rfl (fX (a0,()))) fun _ _ _ hn=>⟨jk hn.1,trivial⟩) ⟨rfl,trivial⟩ fun b7=>?_;refine nt (ao (cC 5 rfl ?_));refine cC 5 rfl ?_;refine cC 5 rfl ?_;refine cC 5 rfl ?_;refine cC 5 rfl ?_;refine cC 5 rfl ?_;obtain⟨e,y,h⟩:=aa h;refine ip (Δ:=[.obj b7 102 (.at bp (a0,())),.obj b5 102 (.at ak (a0,(.map (some z4)))),.obj b6 3 (I 0),.inv z4 (aQ k a0),.obj b1 25 (.rep aL a0),.obj b3 3 (I r2.2.1)]) (F:=[]) (X:=Unit) (J:=fun _=>yi e.2) (E:=fun z9=>[.obj b7 102 (.at bp (a0,())),.obj b5 102 (.at ak (a0,(.map (some z4)))),.obj b6 3 (I e.1),.inv z4 (aQ k a0),.obj b1 25 (.rep aL a0),.obj b3 3 (I r2.2.1)]) (r0:=fun _=>.tup .any) rfl rfl Df (fun rec hp ha hb hs hpe hN hv l=>?_) (fun dl z9=>jW (fun hj=>?_) (fun hj=>?_))
  ·rcases rec with⟨st0,pe0,fn0,tm0,ps0,as0,bd0,df0⟩;dsimp only at hp ha hb hs hpe hN hv;subst hp hs hpe;have vN:qC tm0 [(5,Pt b3),(7,Pt b5),(8,Pt b6)]:=⟨congrArg A.eq (hv 5 _ rfl).symm,congrArg A.eq (hv 7 _ rfl).symm,congrArg A.eq (hv 8 _ rfl).symm,trivial⟩;refine cH.pick (M:=(fD Tryz.prog)) [1,0,2,3,4,5,6] [1,0,2,3,4,5,6] (fi (fun(z9:Unit) (q:Int×Bool)=>[.raw l (.loop (fJ ⟨.ready,none,fn0,tm0, #[23],as0,bd0,df0⟩ (yi q.2))),.obj b5 102 (.at ak (a0,(.map (some z4)))),.obj b6 3 (I q.1),.inv z4 (aQ k a0),.obj b1 25 (.rep aL a0),.obj b3 3 (I r2.2.1)]) l (mn (fun(y8:Int) (j:(List (List Int)))=>
   (bU k a0 j).bind fun c=>
   if c=r2.2.1 then((ck (y8+1)).bind fun n=>
   some (n,true)) else(some (y8,true)))) k (a0,()) b7 (fun z9 q p r' h=>?_) () (0,false) e y) rfl (fun _=>rfl) (fun _=>rfl)
   obtain⟨rq,hq,h2,rfl⟩:=jX h;obtain⟨y8,b5⟩:=q;obtain rfl:b5=false:=hq;replace h:=bq h2;obtain⟨j,hpv⟩:∃x,x=p:=⟨_,rfl⟩;subst hpv;refine YT.pick (R':=(fun z9:Unit=>(.eq (.bool rq.2),[.raw l (.loop (fJ ⟨.ready,none,fn0,tm0, #[23],as0,bd0,df0⟩ (yi (!rq.2)))),.obj b5 102 (.at ak (a0,(.map (some z4)))),.obj b6 3 (I rq.1),.inv z4 (aQ k a0),.obj b1 25 (.rep aL a0),.obj b3 3 (I r2.2.1)]))) [0,1,2,3,4,5] [0,1,2,3,4,5] (vb ha hb (N:=32) (Γ:=[(5,Pt b3),(7,Pt b5),(8,Pt b6)]) rfl hN (by decide) vN (fun S w=>?_)) rfl (fun _=>rfl) (fun _=>rfl);refine ab (ay rfl rfl rfl (ba rfl iu ix) trivial fun Q=>?_);refine aX rfl rfl (aO rfl bW rfl rfl rfl) ⟨rfl,rfl,trivial⟩ ?_;refine nl (aE 1 rfl ?_);refine m4 rfl rfl ?_;refine ao (ag (cX ?_));refine ea 2 (ap rfl jl np rfl) ?_;refine ea 1 (ap rfl bW (sS) rfl) ?_;obtain⟨c,u,h⟩:=aa h;refine eb 4 (cP [.tmp 24,.tmp 25] rfl rfl zf rfl (eu k a0 z4 j c u)) ?_;refine ea 6 (ap rfl d4 np rfl) ?_;refine df gz ?_;refine jb (du rfl) ?_;refine nt (ci h (fun h=>?_) (fun h=>?_))
   ·refine ab (fr 3 ?_);refine lo d4 ?_;obtain⟨n,s,h⟩:=aa h;refine jb (bM rfl s) ?_;refine aX rfl rfl (aO rfl d4 rfl rfl rfl) ⟨rfl,rfl,trivial⟩ ?_;refine an (aI (aE 6 rfl ?_));refine aE 6 rfl ?_;refine aE 6 rfl ?_;refine aE 3 rfl ?_;refine aE 6 rfl ?_;refine aE 5 rfl ?_;cases h;exact g8 () 5 rfl
   ·refine aU (aI (aE 6 rfl ?_));refine aE 6 rfl ?_;refine aE 6 rfl ?_;refine aE 6 rfl ?_;refine aE 6 rfl ?_;refine aE 5 rfl ?_;cases h;exact g8 () 5 rfl
  ·replace h:=aP (xC hj) h;refine aI (tn (sr (fr 3 ?_)));refine lo d4 ?_;refine aq ?_;refine cq (nt (aA ?_));refine aE 1 rfl ?_;refine nB ?_;cases h;exact rb
  ·replace h:=bD (xB hj) h;cases h
def jw(k:Nat)(e:(List (List Int))×(List Int)×Int)(h:Int×(List (List Int))):Nat→((List Int)×Int)→Option (List Int)
 |0,_=>none
 |n+1,c=>
  if c.2 < (e.2.1.length:Int) then((((eA k h.1 c.2).bind fun u=>
  if u=true then((cd c.1 c.2).bind fun r=>
  (ck (r+1)).bind fun l=>
  (cd c.1 c.2).bind fun x=>
  some (List.set c.1 (Int.toNat c.2) l)) else(some c.1)):Option ((List Int))).bind fun s=>
  (ck (c.2+1)).bind fun j=>
  jw k e h n (s,j)) else(some c.1)
def jx(k:Nat)(a0:bC):Nat→((List (List Int))×(List Int)×Int)→Option (List Int)
 |0,_=>none
 |n+1,c=>
  if c.2.2 < a0.1 then((((hH k (a0,()) c.1 c.2.2).bind fun h=>
  ((jw k c h k (c.2.1,0)):Option ((List Int))).bind fun l=>
  some (h.2,l)):Option ((List (List Int))×(List Int))).bind fun e=>
  (ck (c.2.2+1)).bind fun j=>
  jx k a0 n (e.1,e.2,j)) else(some c.2.1)
def pV(k:Nat)(a0:bC)(a1:(List (List Int))):Option ((List Int)×Int):=
 (bV k a0 a1).bind fun r2=>
 if¬(r2=0) then(some ([],r2)) else((cY k a1).bind fun r4=>
 (fu (0≤(a0.2.1.length:Int)∧cg (Int.toNat (a0.2.1.length:Int)))).bind fun _=>
 ((jx k a0 k (r4,List.replicate (Int.toNat (a0.2.1.length:Int)) 0,0)):Option ((List Int))).bind fun x8=>
 some (x8,0))
theorem uj(k:Nat)(a0:bC)(a1:(List (List Int)))(r:(List Int)×Int)(h:pV k a0 a1=some r):
 cy Tryz.prog 65 [.rep aL a0,.rep (.slice (.slice (.int .i64))) a1] [.inv 0 (dP)] (fun _:Unit=>(bG [Ri r.1,I r.2],[.inv 0 (dP)])):=by
 unfold pV at h
 replace h:=bq h
 refine cy.of 58 Tryz.func65 rfl Tryz.ntmps65 rfl fun S w0=>?_
 refine sr ?_
 refine bx fun b1=>?_
 refine cq ?_
 refine cq ?_
 refine nt ?_
 refine ag ?_
 refine sr ?_
 refine lo fB ?_
 refine mq ?_
 obtain⟨r2,M4,h⟩:=aa h
 have M5:=bS k a0 a1 r2 M4
 refine fr 1 ?_
 refine kb (aj [.tmp 14,.tmp 15] rfl rfl wR rfl M5) ?_
 refine aq ?_
 refine nt ?_
 refine sr ?_
 refine mq ?_
 refine jb (cm rfl) ?_
 refine nt ?_
 refine cn h (fun h=>?_) (fun h=>?_)
 ·
  refine sr (mq ?_);refine cq ?_;refine aq (nt (rx ?_));refine bf (eW (t:=(.slice (.int .i64))) (x:=[]) 4 rfl .nil rfl rfl) ?_;cases h;exact aC () [_,_] 1 ⟨rfl,rfl,trivial⟩ rfl
 ·
  refine sk (sr (fr 1 ?_));refine lo fB ?_;refine ay rfl rfl rfl (aj [.tmp 20] rfl rfl wQ rfl (cU a0)) ⟨rfl,trivial⟩ fun z3=>?_;refine bX (fH (aQ k a0) gf) ?_;refine mq ?_;obtain⟨r4,MZ,h⟩:=aa h;refine ja (aj [.tmp 22] rfl rfl uS rfl (cE k a1 r4 MZ)) ?_;refine ay rfl rfl rfl (ba rfl iu ix) trivial fun b5=>?_;refine aq ?_;refine aX rfl rfl (aO rfl bW rfl rfl rfl) ⟨rfl,rfl,trivial⟩ ?_;refine nt (sr (fl ik ?_));refine fr 2 ?_;refine lo oS ?_;refine ol vt ?_;obtain⟨u6,ac,h⟩:=aa h;refine ay rfl rfl rfl (Bz (t:=(.int .i64)) (d:=0) rfl cR MJ (aB ac).1 (aB ac).2) ⟨rfl,rfl,trivial⟩ fun v7=>?_;refine aq (nt ?_);refine a9 (Z:=Unit) (α:=(List Int)) (fun z9 x8=>[(9,.eq v7)]) (fun z9 x8=>[.sl v7 3 (.int .i64) x8,.inv 0 (dP),.inv z3 (aQ k a0)]) h (fun K h=>?_) (fun z9 x8 h=>?_)
  ·refine sr (fl mb ?_);refine fr 1 ?_;refine lo d4 ?_;refine de rfl ?_;refine nt (ao (aR (fun Q c=>[(7,.at ak (a0,(.map (some z3)))),(8,Pt b5),(9,.eq v7),(29,I a0.1),(30,I c.2.2)]) (fun Q c=>[.obj b5 107 (.rep (.arr 3 (.arr 5 (.int .i64))) c.1),.sl v7 3 (.int .i64) c.2.1,.inv 0 (dP),.inv z3 (aQ k a0)]) (jx k a0) k () (r4,List.replicate (Int.toNat (a0.2.1.length:Int)) 0,0) (fun _=>rfl) h (SE.fin [2,1,4,3] ⟨rfl,rfl,rfl,rfl,rfl,trivial⟩ rfl) (fun n Q c h=>?_)));unfold jx at h;refine sr (jb (bO rfl) ?_);refine nt (ag (ci h (fun h=>?_) (fun h=>?_)))
   ·refine sk (a9 (Z:=Unit) (α:=(List (List Int))×(List Int)) (fun O l=>[(7,.at ak (a0,(.map (some z3)))),(8,Pt b5),(9,.eq v7),(29,I a0.1),(30,I c.2.2)]) (fun O l=>[.obj b5 107 (.rep (.arr 3 (.arr 5 (.int .i64))) l.1),.sl v7 3 (.int .i64) l.2,.inv 0 (dP),.inv z3 (aQ k a0)]) h (fun K h=>?_) (fun O l h=>?_))
    ·refine ao (sr (mq ?_));refine aq (nt (sr ?_));refine mq ?_;refine lo bW ?_;refine mq ?_;obtain⟨j,pp,h⟩:=aa h;refine jc (aK (N:=[(.tmp 34,.at ak (a0,(.map (some z3)))),(.tmp 35,.rep (.arr 3 (.arr 5 (.int .i64))) c.1),(.tmp 36,I c.2.2)]) (aj [.tmp 34,.tmp 35,.tmp 36] rfl rfl HF rfl (jh k (a0,()) c.1 c.2.2 j pp)) fun _ _ _ hn=>⟨(jk hn.1),hn.2.1,hn.2.2.1,trivial⟩) ?_;refine mq ?_;refine xr ?_;refine xr ?_;refine ay rfl rfl rfl (ba rfl iu ix) trivial fun s=>?_;refine aq ?_;refine aX rfl rfl (aO rfl bW rfl rfl rfl) ⟨rfl,rfl,trivial⟩ ?_;refine nt (a9 (Z:=Unit) (α:=(List Int)) (fun M y=>[(7,.at ak (a0,(.map (some z3)))),(8,Pt b5),(9,.eq v7),(12,Pt s),(29,I a0.1),(30,I c.2.2)]) (fun M y=>[.obj b5 107 (.rep (.arr 3 (.arr 5 (.int .i64))) c.1),.sl v7 3 (.int .i64) y,.obj s 107 (.rep (.arr 3 (.arr 5 (.int .i64))) j.2),.inv 0 (dP),.inv z3 (aQ k a0)]) h (fun K h=>?_) (fun M y h=>?_))
     ·refine sr (mq ?_);refine fr 2 ?_;refine ka (dh rfl rfl fU) ?_;refine de rfl ?_;refine nt (ao (aR (fun J e=>[(7,.at ak (a0,(.map (some z3)))),(8,Pt b5),(9,.eq v7),(11,.eq (.int .u8 j.1)),(12,Pt s),(29,I a0.1),(30,I c.2.2),(41,I (c.2.1.length:Int)),(42,I e.2)]) (fun J e=>[.obj b5 107 (.rep (.arr 3 (.arr 5 (.int .i64))) c.1),.sl v7 3 (.int .i64) e.1,.obj s 107 (.rep (.arr 3 (.arr 5 (.int .i64))) j.2),.inv 0 (dP),.inv z3 (aQ k a0)]) (jw k c j) k () (c.2.1,0) (fun _=>rfl) h (SE.fin [2,0,1,3,4] ⟨rfl,rfl,rfl,rfl,rfl,rfl,rfl,rfl,rfl,trivial⟩ rfl) (fun n J e h=>?_)));unfold jw at h;refine sr (jb (bO rfl) ?_);refine nt (ag (ci h (fun h=>?_) (fun h=>?_)))
      ·refine sk (a9 (Z:=Unit) (α:=(List Int)) (fun F u=>[(7,.at ak (a0,(.map (some z3)))),(8,Pt b5),(9,.eq v7),(11,.eq (.int .u8 j.1)),(12,Pt s),(29,I a0.1),(30,I c.2.2),(41,I (c.2.1.length:Int)),(42,I e.2)]) (fun F u=>[.obj b5 107 (.rep (.arr 3 (.arr 5 (.int .i64))) c.1),.sl v7 3 (.int .i64) u,.obj s 107 (.rep (.arr 3 (.arr 5 (.int .i64))) j.2),.inv 0 (dP),.inv z3 (aQ k a0)]) h (fun K h=>?_) (fun F u h=>?_))
       ·refine ao (sr (mq ?_));refine aq (nt (sr ?_));iterate 2 refine mq ?_
        obtain⟨MY,mc,h⟩:=aa h;refine jb (aj [.tmp 45,.tmp 46] rfl rfl Db rfl (eO k j.1 e.2 MY mc)) ?_;refine nt (cv h (fun h=>?_) (fun h=>?_))
        ·refine ab ?_;iterate 2 refine mq ?_
         obtain⟨M7,E,h⟩:=aa h;refine fr 1 ?_;refine kb (bR (t:=(.int .i64)) rfl fU d4 E) ?_;refine ka (gY (i:=Int.toNat e.2) (off:=0) rfl d4 (fun _=>rfl) rfl (cM E).2.2 rfl) ?_;obtain⟨MX,Y,h⟩:=aa h;refine jb (bM rfl Y) ?_;obtain⟨M6,D,h⟩:=aa h;refine kb (bR (t:=(.int .i64)) rfl fU d4 D) ?_;refine aX rfl rfl (ff (i:=Int.toNat e.2) rfl d4 rfl (kS D) rfl .int rfl) ⟨rfl,rfl,trivial⟩ ?_;refine an (bn ?_);exact jz ((),List.set e.1 (Int.toNat e.2) MX) h [1,0,2,3,4]
        ·refine aU (bn ?_);exact jz ((),e.1) h [0,1,2,3,4]
       ·refine ab ?_;obtain⟨se,X,h⟩:=aa h;refine jb (bM rfl X) ?_;refine mq (nl ?_);exact jz ((),(u,se)) h [0,1,2,3,4]
      ·refine xa ?_;exact jz ((),e.1) h [0,1,2,3,4]
     ·refine ab (fr 2 ?_);refine lo bW ?_;refine fr 1 ?_;refine aX rfl rfl (aO rfl bW rfl rfl rfl) ⟨rfl,rfl,trivial⟩ ?_;refine an (bn ?_);exact jz ((),(j.2,y)) h [0,2,3,4]
    ·refine ab ?_;obtain⟨qt,U,h⟩:=aa h;refine jb (bM rfl U) ?_;refine mq (nl ?_);exact jz ((),(l.1,l.2,qt)) h [0,1,2,3]
   ·refine xa ?_;exact jz ((),c.2.1) h [1,2,3]
  ·refine sr (mq ?_);refine aq ?_;refine cq (nt (aA ?_));refine bf (d6 [4,9,57] ⟨rfl,rfl,rfl,trivial⟩) ?_;cases h;exact aC () [_,_] 1 ⟨rfl,rfl,trivial⟩ rfl
def iT(k:Nat)(a1:Value):Nat→(Nat×(List (List Int)))→Option (Except ((List (List Int))×Int) (Nat×(List (List Int))))
 |0,_=>none
 |n+1,y9=>
  if y9.1 < (lg a1).size then(if((Utf8.decode (lg a1) y9.1).1:Int)=47 then((fu (cg (List.length y9.2+List.length [([]:(List Int))]))).bind fun _=>
  iT k a1 n (y9.1+(Utf8.decode (lg a1) y9.1).2,y9.2++[([]:(List Int))])) else(((if 97≤((Utf8.decode (lg a1) y9.1).1:Int) then(some (decide (((Utf8.decode (lg a1) y9.1).1:Int)≤122),y9.2)) else(some (false,y9.2))):Option (Bool×(List (List Int)))).bind fun c=>
  if c.1=true then((ck ((c.2.length:Int) - 1)).bind fun j=>
  (cd c.2 j).bind fun h=>
  (ck (IntKind.i32.wrap (((Utf8.decode (lg a1) y9.1).1:Int) - 97))).bind fun e=>
  (fu (cg (List.length h+List.length [e]))).bind fun _=>
  iT k a1 n (y9.1+(Utf8.decode (lg a1) y9.1).2,List.set c.2 (Int.toNat j) (h++[e]))) else(some (.error ([],2))))) else(some (.ok (y9.1,y9.2)))
def lx(k:Nat)(a0:bC)(a1:Value):Option ((List (List Int))×Int):=
 (eQ k a0).bind fun r2=>
 if¬(r2=0) then(some ([],r2)) else((fu (sx a1=true)).bind fun _=>
 if 20 < ((lg a1).size:Int) then(some ([],10)) else(bE (α:=Nat×(List (List Int))) ((fu (sx a1=true)).bind fun _=>
 iT k a1 k (0,[([]:(List Int))])) (some) fun x5=>
 (bV k a0 x5.2).bind fun c=>
 if¬(c=0) then(some ([],c)) else(some (x5.2,0))))
theorem kL(k:Nat)(a0:bC)(a1:Value)(r:(List (List Int))×Int)(h:lx k a0 a1=some r):
 cy Tryz.prog 70 [.rep aL a0,.eq a1] [.inv 0 (dP)] (fun _:Unit=>(bG [.rep (.slice (.slice (.int .i64))) r.1,I r.2],[.inv 0 (dP)])):=by
 unfold lx at h
 replace h:=bq h
 refine cy.of 61 Tryz.func70 rfl Tryz.ntmps70 rfl fun S w0=>?_
 refine sr ?_
 refine bx fun b1=>?_
 refine cq ?_
 refine cq ?_
 refine nt ?_
 refine ag ?_
 refine sr ?_
 refine lo fB ?_
 obtain⟨r2,se,h⟩:=aa h
 have MX:=dI k a0 r2 se
 refine ja (aj [.tmp 11] rfl rfl uT rfl MX) ?_
 refine aq ?_
 refine nt ?_
 refine sr ?_
 refine mq ?_
 refine jb (cm rfl) ?_
 refine nt ?_
 refine cn h (fun h=>?_) (fun h=>?_)
 ·
  refine sr (mq ?_);refine cq ?_;refine aq (nt (rx ?_));refine bf (eW (t:=(.slice (.slice (.int .i64)))) (x:=[]) 4 rfl .nil rfl rfl) ?_;refine bf (SE.fin (Γ':=[(4,_),(5,_)]) [1,0] ⟨rfl,rfl,trivial⟩ rfl) ?_;cases h;exact aC () [_,_] 1 ⟨rfl,rfl,trivial⟩ rfl
 ·
  refine sk (ag (sr (mq ?_)));obtain⟨u3,qt,h⟩:=aa h;refine ja (En rfl rfl U9 (aB qt)) ?_;refine jb (kP rfl) ?_;refine nt (ci h (fun h=>?_) (fun h=>?_))
  ·refine sr (cq ?_);refine cq (nt (rx ?_));refine bf (eW (t:=(.slice (.slice (.int .i64)))) (x:=[]) 4 rfl .nil rfl rfl) ?_;refine bf (SE.fin (Γ':=[(4,_),(5,_)]) [1,0] ⟨rfl,rfl,trivial⟩ rfl) ?_;cases h;exact aC () [_,_] 1 ⟨rfl,rfl,trivial⟩ rfl
  ·refine sk (sr (ay rfl rfl rfl (l5 (t:=.val) [(.const (.slice none 0 0),_)] [.slice none 0 0] rfl rfl lh (.cons rfl (.val rfl) .nil) rfl rfl) ⟨rfl,trivial⟩ fun v4=>?_));refine bX (DF (n:=1) (F:=[.obj b1 25 (.rep aL a0),.inv 0 (dP)])) ?_;refine aq (nt ?_);refine fA (Z:=Nat×(Value×(Nat→Value))) (α:=Nat×(List (List Int))) (fun z6 x5=>[(2,Pt b1),(7,.eq z6.2.1)]) (fun z6 x5=>[.obj b1 25 (.rep aL a0),.inv 0 (dP),.raw z6.1 (.stringIter (lg a1) x5.1)]++eZ 23 z6.2 x5.2) (fun e=>e=r) h (fun e h=>Option.some.inj h) (fun K hR h=>?_) (fun z6 x5 h=>?_)
   ·refine sr (mq ?_);obtain⟨u7,pp,h⟩:=aa h;refine ay rfl rfl rfl (zP rfl U9 (aB pp)) ⟨rfl,trivial⟩ fun z8=>?_;refine nt (ao (aR (Z:=(Value×(Nat→Value))) (α:=Nat×(List (List Int))) (fun c y9=>[(2,Pt b1),(7,.eq c.1),(21,Pt z8)]) (fun c y9=>[.obj b1 25 (.rep aL a0),.raw z8 (.stringIter (lg a1) y9.1),.inv 0 (dP)]++eZ 23 c y9.2) (iT k a1) k (v4,fun _=>.slice none 0 0) (0,[([]:(List Int))]) (fun _=>rfl) h (bi [.raw z8 (.stringIter (lg a1) 0),.obj b1 25 (.rep aL a0),.inv 0 (dP)] (eZ 23 (v4,fun _=>.slice none 0 0) [([]:(List Int))]) [1,0,2] ⟨rfl,rfl,rfl,trivial⟩ rfl) (fun n c y9 h=>?_)));unfold iT at h;refine sr ?_;rcases Nat.lt_or_ge y9.1 (lg a1).size with hb |hb
    ·replace h:=bD hb h;refine fr 1 ?_;refine ka (Bq rfl hb) ?_;refine xr ?_;refine nt (ag (bu rfl (fun hb=>?_) (fun hb=>(by cases hb))));refine sk (ao (sr (xr ?_)));refine aq (nt (ao (sr ?_)));refine mq ?_;refine jb (du rfl) ?_;refine aq (nt ?_);refine ci h (fun h=>?_) (fun h=>?_)
     ·refine ab (mq ?_);refine ja (aJ (t:=.val) [(.const (.slice none 0 0),_)] [.slice none 0 0] rfl rfl lh (.cons rfl (.val rfl) .nil) rfl rfl) ?_;obtain⟨MZ,Y,h⟩:=aa h;refine bX (vc (pre:=[.raw z8 (.stringIter (lg a1) (y9.1+(Utf8.decode (lg a1) y9.1).2)),.obj b1 25 (.rep aL a0),.inv 0 (dP)])) ?_;refine eh rfl rfl rfl (cV rfl rfl lh (Cm (aB Y))) ⟨rfl,rfl,trivial⟩ fun O=>?_;refine bX (SE.nil 3 (.int .i64)) ?_;refine bX (ua (pre:=[.raw z8 (.stringIter (lg a1) (y9.1+(Utf8.decode (lg a1) y9.1).2)),.obj b1 25 (.rep aL a0),.inv 0 (dP)])) ?_;refine aq (an (aI (bn ?_)));exact g9 ((O,lD c.2 (List.length y9.2) (.slice none 0 0)),(y9.1+(Utf8.decode (lg a1) y9.1).2,y9.2++[([]:(List Int))])) h (bi [.raw z8 (.stringIter (lg a1) (y9.1+(Utf8.decode (lg a1) y9.1).2)),.obj b1 25 (.rep aL a0),.inv 0 (dP)] (eZ 23 (O,lD c.2 (List.length y9.2) (.slice none 0 0)) (y9.2++[([]:(List Int))])) [1,0,2] ⟨rfl,rfl,rfl,trivial⟩ rfl)
     ·refine a9 (Z:=(Value×(Nat→Value))) (α:=Bool×(List (List Int))) (fun l y=>[(2,Pt b1),(7,.eq l.1),(9,.eq (.int .i32 ((Utf8.decode (lg a1) y9.1).1:Int))),(21,Pt z8),(31,.eq (.bool y.1))]) (fun l y=>[.obj b1 25 (.rep aL a0),.raw z8 (.stringIter (lg a1) (y9.1+(Utf8.decode (lg a1) y9.1).2)),.inv 0 (dP)]++eZ 23 l y.2) h (fun K h=>?_) (fun l y h=>?_)
      ·refine ab (mq ?_);refine jb (mr rfl) ?_;refine mq ?_;refine aH (s:=34) rfl (fun hb=>?_) (fun hb=>?_)
       ·replace h:=bD (ln hb) h;refine gm ?_;refine gb (tD rfl) ?_;refine pt ?_;refine aq (nl ?_);exact g9 (c,(decide (((Utf8.decode (lg a1) y9.1).1:Int)≤122),y9.2)) h (bi [.raw z8 (.stringIter (lg a1) (y9.1+(Utf8.decode (lg a1) y9.1).2)),.obj b1 25 (.rep aL a0),.inv 0 (dP)] (eZ 23 c y9.2) [1,0,2] ⟨rfl,rfl,rfl,rfl,rfl,trivial⟩ rfl)
       ·replace h:=aP (kV hb) h;iterate 2 refine gn ?_
        refine pf ?_;refine aq (nl ?_);exact g9 (c,(false,y9.2)) h (bi [.raw z8 (.stringIter (lg a1) (y9.1+(Utf8.decode (lg a1) y9.1).2)),.obj b1 25 (.rep aL a0),.inv 0 (dP)] (eZ 23 c y9.2) [1,0,2] ⟨rfl,rfl,rfl,rfl,rfl,trivial⟩ rfl)
      ·refine cv h (fun h=>?_) (fun h=>?_)
       ·obtain⟨u,D,h⟩:=aa h;obtain⟨J,j,h⟩:=aa h;refine gr (ub (pre:=[.obj b1 25 (.rep aL a0),.raw z8 (.stringIter (lg a1) (y9.1+(Utf8.decode (lg a1) y9.1).2)),.inv 0 (dP)]) (rA j).2) ?_;refine ab ?_;iterate 2 refine mq ?_
        refine fr 1 ?_;refine ka (vX rfl rfl nS) ?_;refine jb (gl rfl D) ?_;iterate 2 refine mq ?_
        refine ka (vX rfl rfl nS) ?_;refine jb (gl rfl D) ?_;refine kb (bR (t:=.val) rfl nS dG (m9 j)) ?_;refine ka (gY (i:=Int.toNat u) (off:=0) rfl dG (fun _=>rfl) rfl (cM (m9 j)).2.2 rfl) ?_;refine mq ?_;refine jb (xW rfl) ?_;obtain⟨E,Q,h⟩:=aa h;refine ja (wa rfl MG U3 Q) ?_;refine ja (aJ (t:=(.int .i64)) [(.tmp 50,_)] [E] rfl rfl cR (.cons rfl .int .nil) rfl rfl) ?_;obtain⟨MY,U,h⟩:=aa h;refine fr 1 ?_;refine eh rfl rfl rfl (cV rfl rfl cR (aB U)) ⟨rfl,rfl,trivial⟩ fun M=>?_;refine fr 1 ?_;refine kb (bR (t:=.val) rfl nS dG (m9 j)) ?_;refine fr 1 ?_;refine vi fun o20=>?_;refine fr 1 ?_;refine aX rfl rfl (ff (i:=Int.toNat u) rfl dG rfl (kS (m9 j)) rfl (.val o20) o20) ⟨rfl,rfl,trivial⟩ ?_;refine an (aE 1 rfl ?_);refine bf (yy (pre:=[.obj b1 25 (.rep aL a0),.raw z8 (.stringIter (lg a1) (y9.1+(Utf8.decode (lg a1) y9.1).2)),.inv 0 (dP)]) (z:=l) (i:=Int.toNat u) (rA j).2) ?_;refine aI (bn ?_);exact g9 ((l.1,lD l.2 (Int.toNat u) M),(y9.1+(Utf8.decode (lg a1) y9.1).2,List.set y.2 (Int.toNat u) (J++[E]))) h (bi [.obj b1 25 (.rep aL a0),.raw z8 (.stringIter (lg a1) (y9.1+(Utf8.decode (lg a1) y9.1).2)),.inv 0 (dP)] (eZ 23 (l.1,lD l.2 (Int.toNat u) M) (List.set y.2 (Int.toNat u) (J++[E]))) [0,1,2] ⟨rfl,rfl,rfl,trivial⟩ rfl)
       ·refine sr (cq ?_);refine cq (nt (aA (bF (bF (aW (bF (aW ?_)))))));refine bf (eW (t:=(.slice (.slice (.int .i64)))) (x:=[]) 4 rfl .nil rfl rfl) ?_;refine bf (SE.fin (Γ':=[(4,_),(5,_)]) [2,0,1] ⟨rfl,rfl,trivial⟩ rfl) ?_;obtain rfl:=hR _ h;exact aC () [_,_] 1 ⟨rfl,rfl,trivial⟩ rfl
    ·replace h:=aP (Nat.not_lt.2 hb) h;refine fr 1 ?_;refine ka (zQ rfl (Nat.not_lt.2 hb)) ?_;refine xr ?_;refine nt (ag (bu rfl (fun hb=>(by cases hb)) (fun hb=>?_)));refine xa ?_;exact g9 ((z8,c),(y9.1,y9.2)) h (bi [.raw z8 (.stringIter (lg a1) y9.1),.obj b1 25 (.rep aL a0),.inv 0 (dP)] (eZ 23 c y9.2) [1,2,0] ⟨rfl,rfl,trivial⟩ rfl)
   ·refine ag (sr (lo fB ?_));refine mq ?_;obtain⟨mc,ac,h⟩:=aa h;refine fr 1 ?_;refine AD (R0:=[_]) (X:=[_,_]) (N:=[(.tmp 54,.rep aL a0),(.tmp 55,.eq z6.2.1)]) rfl rfl rfl (aj [.tmp 54,.tmp 55] rfl rfl wR rfl (bS k a0 x5.2 mc ac)) (fun _ _ _ hl hn=>⟨hn.1,(EH hn.2.1 hl),trivial⟩) rfl (CY rfl) ⟨rfl,rfl,trivial⟩ ?_;refine aq (nt (sr ?_));refine mq ?_;refine jb (cm rfl) ?_;refine nt (cn h (fun h=>?_) (fun h=>?_))
    ·refine sr (mq ?_);refine cq ?_;refine aq (nt (rx ?_));refine bf (eW (t:=(.slice (.slice (.int .i64)))) (x:=[]) 4 rfl .nil rfl rfl) ?_;cases h;exact aC () [_,_] 1 ⟨rfl,rfl,trivial⟩ rfl
    ·refine sk (sr (mq ?_));refine aq ?_;refine cq (nt (aA ?_));refine bf (DG (pre:=[.inv 0 (dP),.obj b1 25 (.rep aL a0),.raw z6.1 (.stringIter (lg a1) x5.1)])) ?_;refine bf (d6 [4,7,55,60] ⟨rfl,rfl,rfl,rfl,trivial⟩) ?_;cases h;exact aC () [_,_] 1 ⟨rfl,rfl,trivial⟩ rfl
def jv(k:Nat)(a2:Int)(r5:(List (List Int))×Int):Nat→Int→Option (Except (Int×Int×Int) Unit)
 |0,_=>none
 |n+1,y8=>
  if y8 < (r5.1.length:Int) then((cd r5.1 y8).bind fun c=>
  (iO k c a2).bind fun e=>
  if 0≤e then((ck ((c.length:Int) - 1)).bind fun l=>
  (ck (l - e)).bind fun j=>
  some (.error (y8,j,0))) else((ck (y8+1)).bind fun h=>
  jv k a2 r5 n h)) else(some (.ok ()))
def nb(k:Nat)(a0:bC)(a1:(List (List Int)))(a2:Int)(a3:Int):Option (Int×Int×Int):=
 (bV k a0 a1).bind fun r2=>
 if¬(r2=0) then(some (0,0,r2)) else((ck ((a0.2.1.length:Int) - 1)).bind fun x3=>
 (dC k a2 0 x3).bind fun r4=>
 if¬(r4=true) then(some (0,0,3)) else((ly k a0 a1 a3).bind fun r5=>
 if¬(r5.2=0) then(some (0,0,r5.2)) else(bE (α:=Unit) (jv k a2 r5 k 0) (some) fun _=>
 some (0,0,0))))
theorem oP(k:Nat)(a0:bC)(a1:(List (List Int)))(a2:Int)(a3:Int)(r:Int×Int×Int)(h:nb k a0 a1 a2 a3=some r):
 cy Tryz.prog 73 [.rep aL a0,.rep (.slice (.slice (.int .i64))) a1,I a2,I a3] [.inv 0 (dP)] (fun _:Unit=>(bG [I r.1,I r.2.1,I r.2.2],[.inv 0 (dP)])):=by
 unfold nb at h
 replace h:=bq h
 refine cy.of 59 Tryz.func73 rfl Tryz.ntmps73 rfl fun S w0=>?_
 refine sr ?_
 refine bx fun b1=>?_
 refine cq ?_
 refine cq ?_
 refine cq ?_
 refine nt ?_
 refine ag ?_
 refine sr ?_
 refine lo fB ?_
 refine mq ?_
 obtain⟨r2,M,h⟩:=aa h
 have O:=bS k a0 a1 r2 M
 refine fr 1 ?_
 refine kb (aj [.tmp 17,.tmp 18] rfl rfl wR rfl O) ?_
 refine aq ?_
 refine nt ?_
 refine sr ?_
 refine mq ?_
 refine jb (cm rfl) ?_
 refine nt ?_
 refine cn h (fun h=>?_) (fun h=>?_)
 ·
  refine sr (mq ?_);refine cq ?_;refine cq ?_;refine aq (nt (rx ?_));cases h;exact aC () [_,_,_] 1 ⟨rfl,rfl,rfl,trivial⟩ rfl
 ·
  refine sk (ag (sr (mq ?_)));refine fl ik ?_;refine fr 1 ?_;refine lo oS ?_;refine ol vt ?_;obtain⟨x3,E,h⟩:=aa h;refine jb (gl rfl E) ?_;obtain⟨r4,J,h⟩:=aa h;refine jc (aj [.tmp 23,.const (.int .i64 (0)),.tmp 27] rfl rfl tf rfl (cT k a2 0 x3 r4 J)) ?_;refine ja (dA rfl) ?_;refine nt (cw h (fun h=>?_) (fun h=>?_))
  ·refine sr (cq ?_);refine cq ?_;refine cq (nt (rx ?_));refine bf (SE.fin (Γ':=[(8,_),(9,_),(10,_)]) [1,0] ⟨rfl,rfl,rfl,trivial⟩ rfl) ?_;cases h;exact aC () [_,_,_] 1 ⟨rfl,rfl,rfl,trivial⟩ rfl
  ·refine sk (sr (lo fB ?_));iterate 2 refine mq ?_
   obtain⟨r5,F,h⟩:=aa h;refine fr 1 ?_;refine kc (aj [.tmp 31,.tmp 32,.tmp 33] rfl rfl HG rfl (lT k a0 a1 a3 r5 F)) ?_;refine mq ?_;refine xr ?_;refine xr ?_;refine aq ?_;refine aq (nt (ag (sr ?_)));refine mq ?_;refine jb (cm rfl) ?_;refine nt (cn h (fun h=>?_) (fun h=>?_))
   ·refine sr (mq ?_);refine cq ?_;refine cq ?_;refine aq (nt (rx ?_));cases h;exact aC () [_,_,_] 1 ⟨rfl,rfl,rfl,trivial⟩ rfl
   ·refine sk (fA (Z:=Unit) (α:=Unit) (fun z7 x6=>[]) (fun z7 x6=>[.inv 0 (dP)]) (fun e=>e=r) h (fun e h=>Option.some.inj h) (fun K hR h=>?_) (fun z7 x6 h=>?_))
    ·refine sr (mq ?_);refine ol nS ?_;refine de rfl ?_;refine nt (ao (aR (fun z9 y8=>[(2,I a2),(40,.rep (.slice (.slice (.int .i64))) r5.1),(41,I (r5.1.length:Int)),(42,I y8)]) (fun z9 y8=>[.inv 0 (dP)]) (jv k a2 r5) k () 0 (fun _=>rfl) h (SE.fin [0] ⟨rfl,rfl,rfl,rfl,trivial⟩ rfl) (fun n z9 y8 h=>?_)));unfold jv at h;refine sr (jb (bO rfl) ?_);refine nt (ag (ci h (fun h=>?_) (fun h=>?_)))
     ·refine sk (ag (ao (sr (mq ?_))));obtain⟨y,s,h⟩:=aa h;refine jb (bH (t:=(.slice (.int .i64))) rfl nS dG s) ?_;refine ja (au (t:=(.slice (.int .i64))) rfl dG rfl) ?_;refine aq ?_;refine aq (nt (sr ?_));iterate 2 refine mq ?_
      obtain⟨D,u,h⟩:=aa h;refine jb (aj [.tmp 47,.tmp 48] rfl rfl Gn rfl (lB k y a2 D u)) ?_;refine aq (nt (sr ?_));refine mq ?_;refine jb (mr rfl) ?_;refine nt (ci h (fun h=>?_) (fun h=>?_))
      ·refine sr ?_;iterate 2 refine mq ?_
       refine ol fU ?_;obtain⟨U,l,h⟩:=aa h;refine jb (gl rfl l) ?_;refine mq ?_;obtain⟨Q,j,h⟩:=aa h;refine jb (gl rfl j) ?_;refine aq ?_;refine aq ?_;refine cq (nt (aA (br (bF (aW ?_)))));obtain rfl:=hR _ h;exact aC () [_,_,_] 1 ⟨rfl,rfl,rfl,trivial⟩ rfl
      ·refine aU (aI (tn (ab ?_)));obtain⟨x,c,h⟩:=aa h;refine jb (bM rfl c) ?_;refine mq (nl ?_);exact jz ((),x) h [0]
     ·refine xa ?_;exact jz ((),()) h [0]
    ·refine sr (cq ?_);refine cq ?_;refine cq (nt (aA ?_));cases h;exact aC () [_,_,_] 1 ⟨rfl,rfl,rfl,trivial⟩ rfl
def jU(k:Nat)(a0:bC)(j:(List (List Int))):Nat→((List Int)×Int)→Option (List Int)
 |0,_=>none
 |n+1,c=>
  if c.2 < (a0.2.2.length:Int) then((((fu (0≤c.2∧c.2 < 3)).bind fun _=>
  (cd j c.2).bind fun h=>
  (cY k ([]:(List (List Int)))).bind fun s=>
  (cd s c.2).bind fun e=>
  (fu (uu h∧uu e)).bind fun _=>
  if¬(h=e) then((fu (cg (List.length c.1+List.length [c.2]))).bind fun _=>
  some (c.1++[c.2])) else(some c.1)):Option ((List Int))).bind fun r=>
  (ck (c.2+1)).bind fun l=>
  jU k a0 j n (r,l)) else(some c.1)
def rh(k:Nat)(a0:bC):Option ((List Int)×(List (List Int))×Int):=
 (eQ k a0).bind fun r2=>
 if¬(r2=0) then(some ([],[],r2)) else((dF k (mn (fun(y9:Bool×(List (List Int))×(List Int)) (h:(List (List Int)))=>
  ((jU k a0 h k (([]:(List Int)),0)):Option ((List Int))).bind fun c=>
  ((if y9.1=true then(if(y9.2.2.length:Int) < (c.length:Int) then(some (c,true)) else(if(c.length:Int)=(y9.2.2.length:Int) then((gI k c y9.2.2).bind fun r=>
  some (c,decide (0≤r))) else(some (c,false)))) else(some (c,false))):Option ((List Int)×Bool)).bind fun j=>
  if j.2=true then(some ((y9.1,y9.2.1,y9.2.2),true)) else((bU k a0 h).bind fun n=>
  if n=0 then(some ((true,h,j.1),true)) else(some ((y9.1,y9.2.1,y9.2.2),true))))) (a0,()) ((false,[[0,0,0,0,0],[0,0,0,0,0],[0,0,0,0,0]],[]),false)).bind fun e=>
 if e.2=true then(none) else(if¬(e.1.1=true) then(some ([],[],11)) else((dR k (a0,()) e.1.2.1).bind fun l=>
 some (e.1.2.2,l,0))))
theorem rJ(k:Nat)(a0:bC)(r:(List Int)×(List (List Int))×Int)(h:rh k a0=some r):
 cH (fD Tryz.prog) 75 [.rep aL a0] [] (fun _:Unit=>(bG [Ri r.1,.rep (.slice (.slice (.int .i64))) r.2.1,I r.2.2],[])):=by
 unfold rh at h
 replace h:=bq h
 refine sR 74 Tryz.func75 rfl Tryz.ntmps75 rfl fun S w0=>?_
 refine sr ?_
 refine bx fun b1=>?_
 refine cq ?_
 refine cq ?_
 refine cq ?_
 refine nt ?_
 refine uf rfl (me (by kernel_rfl) (me (by kernel_rfl) (me (by kernel_rfl) (me (by kernel_rfl) (me (by kernel_rfl) (C3 C0)))))) ?_
 refine ag ?_
 refine sr ?_
 refine lo fB ?_
 obtain⟨r2,Nl,h⟩:=aa h
 have Nn:=dI k a0 r2 Nl
 refine ja (aj [.tmp 13] rfl rfl uT rfl Nn) ?_
 refine aq ?_
 refine nt ?_
 refine sr ?_
 refine mq ?_
 refine jb (cm rfl) ?_
 refine nt ?_
 refine cn h (fun h=>?_) (fun h=>?_)
 ·
  refine sr (mq ?_);refine cq ?_;refine cq ?_;refine aq (nt (rx ?_));refine pJ ?_;refine bf (eW (t:=(.slice (.int .i64))) (x:=[]) 2 rfl .nil rfl rfl) ?_;refine bf (eW (t:=(.slice (.slice (.int .i64)))) (x:=[]) 3 rfl .nil rfl rfl) ?_;refine xj ?_;cases h;exact aC () [_,_,_] 0 ⟨rfl,rfl,rfl,trivial⟩ rfl
 ·
  refine sk (sr (lo fB ?_));refine ay rfl rfl rfl (aj [.tmp 18] rfl rfl wQ rfl (cU a0)) ⟨rfl,trivial⟩ fun z3=>?_;refine bX (fH (aQ k a0) gf) ?_;refine ay rfl rfl rfl (ba rfl AP Dv) trivial fun b4=>?_;refine aX rfl rfl (aO rfl jl trivial rfl rfl) ⟨rfl,rfl,trivial⟩ ?_;refine nt (sr (ay rfl rfl rfl (ba rfl K9 LS) trivial fun b5=>?_));refine nt (sr (ay rfl rfl rfl (ba rfl iu ix) trivial fun b6=>?_));refine nt (sr (ay rfl rfl rfl (ba rfl MK MR) trivial fun b7=>?_));refine aX rfl rfl (aO rfl KX rfl rfl rfl) ⟨rfl,rfl,trivial⟩ ?_;refine nt (ag (xk ?_));refine tn (ag (sr (fr 3 ?_)));refine lo jl ?_;refine ay rfl rfl rfl (aK (N:=[(.tmp 20,.at ak (a0,(.map (some z3))))]) (aj [.tmp 20] rfl rfl Dh rfl (fX (a0,()))) fun _ _ _ hn=>⟨jk hn.1,trivial⟩) ⟨rfl,trivial⟩ fun b8=>?_;refine nt (ao (cC 4 rfl ?_));refine gr (nz (a:=.eq (.slice none 0 0)) (a':=Ri []) (vp .nil)) ?_;refine cC 6 rfl ?_;refine cC 6 rfl ?_;refine cC 2 rfl ?_;refine cC 6 rfl ?_;refine cC 6 rfl ?_;refine cC 6 rfl ?_;refine cC 6 rfl ?_;obtain⟨D,Na,h⟩:=aa h;refine ip (Δ:=[.obj b8 102 (.at bp (a0,())),.obj b4 102 (.at ak (a0,(.map (some z3)))),.obj b7 4 (.eq (.bool false)),.obj b6 107 (.rep (.arr 3 (.arr 5 (.int .i64))) [[0,0,0,0,0],[0,0,0,0,0],[0,0,0,0,0]]),.obj b5 23 (Ri []),.inv z3 (aQ k a0),.obj b1 25 (.rep aL a0)]) (F:=[]) (X:=Unit) (J:=fun _=>yi D.2) (E:=fun Y=>[.obj b8 102 (.at bp (a0,())),.obj b4 102 (.at ak (a0,(.map (some z3)))),.obj b7 4 (.eq (.bool D.1.1)),.obj b6 107 (.rep (.arr 3 (.arr 5 (.int .i64))) D.1.2.1),.obj b5 23 (Ri D.1.2.2),.inv z3 (aQ k a0),.obj b1 25 (.rep aL a0)]) (r0:=fun _=>.tup .any) rfl rfl Df (fun rec hp ha hb hs hpe hN hv l=>?_) (fun dl Y=>jW (fun hj=>?_) (fun hj=>?_))
  ·rcases rec with⟨st0,pe0,fn0,tm0,ps0,as0,bd0,df0⟩;dsimp only at hp ha hb hs hpe hN hv;subst hp hs hpe;have vN:qC tm0 [(1,Pt b1),(6,Pt b4),(7,Pt b5),(8,Pt b6),(9,Pt b7)]:=⟨congrArg A.eq (hv 1 _ rfl).symm,congrArg A.eq (hv 6 _ rfl).symm,congrArg A.eq (hv 7 _ rfl).symm,congrArg A.eq (hv 8 _ rfl).symm,congrArg A.eq (hv 9 _ rfl).symm,trivial⟩;refine cH.pick (M:=(fD Tryz.prog)) [1,0,2,3,4,5,6,7] [1,0,2,3,4,5,6,7] (fi (fun(Y:Unit) (q:(Bool×(List (List Int))×(List Int))×Bool)=>[.raw l (.loop (fJ ⟨.ready,none,fn0,tm0, #[22],as0,bd0,df0⟩ (yi q.2))),.obj b4 102 (.at ak (a0,(.map (some z3)))),.obj b7 4 (.eq (.bool q.1.1)),.obj b6 107 (.rep (.arr 3 (.arr 5 (.int .i64))) q.1.2.1),.obj b5 23 (Ri q.1.2.2),.inv z3 (aQ k a0),.obj b1 25 (.rep aL a0)]) l (mn (fun(y9:Bool×(List (List Int))×(List Int)) (j:(List (List Int)))=>
   ((jU k a0 j k (([]:(List Int)),0)):Option ((List Int))).bind fun c=>
   ((if y9.1=true then(if(y9.2.2.length:Int) < (c.length:Int) then(some (c,true)) else(if(c.length:Int)=(y9.2.2.length:Int) then((gI k c y9.2.2).bind fun mc=>
   some (c,decide (0≤mc))) else(some (c,false)))) else(some (c,false))):Option ((List Int)×Bool)).bind fun y=>
   if y.2=true then(some ((y9.1,y9.2.1,y9.2.2),true)) else((bU k a0 j).bind fun se=>
   if se=0 then(some ((true,j,y.1),true)) else(some ((y9.1,y9.2.1,y9.2.2),true))))) k (a0,()) b8 (fun Y q p r' h=>?_) () ((false,[[0,0,0,0,0],[0,0,0,0,0],[0,0,0,0,0]],[]),false) D Na) rfl (fun _=>rfl) (fun _=>rfl)
   obtain⟨rq,hq,h2,rfl⟩:=jX h;obtain⟨y9,b5⟩:=q;obtain rfl:b5=false:=hq;replace h:=bq h2;obtain⟨j,hpv⟩:∃x,x=p:=⟨_,rfl⟩;subst hpv;refine YT.pick (R':=(fun Y:Unit=>(.eq (.bool rq.2),[.raw l (.loop (fJ ⟨.ready,none,fn0,tm0, #[22],as0,bd0,df0⟩ (yi (!rq.2)))),.obj b4 102 (.at ak (a0,(.map (some z3)))),.obj b7 4 (.eq (.bool rq.1.1)),.obj b6 107 (.rep (.arr 3 (.arr 5 (.int .i64))) rq.1.2.1),.obj b5 23 (Ri rq.1.2.2),.inv z3 (aQ k a0),.obj b1 25 (.rep aL a0)]))) [0,1,2,3,4,5,6] [0,1,2,3,4,5,6] (vb ha hb (N:=74) (Γ:=[(1,Pt b1),(6,Pt b4),(7,Pt b5),(8,Pt b6),(9,Pt b7)]) rfl hN (by decide) vN (fun S w=>?_)) rfl (fun _=>rfl) (fun _=>rfl);refine ab (ay rfl rfl rfl (ba rfl iu ix) trivial fun u=>?_);refine aX rfl rfl (aO rfl bW rfl rfl rfl) ⟨rfl,rfl,trivial⟩ ?_;refine nl (aE 1 rfl ?_);refine m4 rfl rfl ?_;refine ao (sr (cq (nt ?_)));refine a9 (Z:=Value) (α:=(List Int)) (fun U c=>[(6,Pt b4),(7,Pt b5),(8,Pt b6),(9,Pt b7),(10,Pt u),(11,.eq U)]) (fun U c=>[.obj b4 102 (.at ak (a0,(.map (some z3)))),.obj b5 23 (Ri y9.2.2),.obj b6 107 (.rep (.arr 3 (.arr 5 (.int .i64))) y9.2.1),.obj b7 4 (.eq (.bool y9.1)),.obj u 107 (.rep (.arr 3 (.arr 5 (.int .i64))) j),.sl U 3 (.int .i64) c,.inv z3 (aQ k a0),.obj b1 25 (.rep aL a0),.raw l (.loop (⟨.busy,none,fn0,tm0, #[22],as0,bd0,df0⟩:Loop))]) h (fun K h=>?_) (fun U c h=>?_)
   ·refine sr (fl ku ?_);refine fr 7 ?_;refine lo dG ?_;refine ol fU ?_;refine de rfl ?_;refine nt (ao (gr (SE.nil 3 (.int .i64)) ?_));refine aR (fun O e=>[(6,Pt b4),(7,Pt b5),(8,Pt b6),(9,Pt b7),(10,Pt u),(11,.eq O),(25,I (a0.2.2.length:Int)),(26,I e.2)]) (fun O e=>[.obj b4 102 (.at ak (a0,(.map (some z3)))),.obj b5 23 (Ri y9.2.2),.obj b6 107 (.rep (.arr 3 (.arr 5 (.int .i64))) y9.2.1),.obj b7 4 (.eq (.bool y9.1)),.obj u 107 (.rep (.arr 3 (.arr 5 (.int .i64))) j),.sl O 3 (.int .i64) e.1,.inv z3 (aQ k a0),.obj b1 25 (.rep aL a0),.raw l (.loop (⟨.busy,none,fn0,tm0, #[22],as0,bd0,df0⟩:Loop))]) (jU k a0 j) k (.slice none 0 0) (([]:(List Int)),0) (fun _=>rfl) h (SE.fin [4,7,6,5,3,0,8,1,2] ⟨rfl,rfl,rfl,rfl,rfl,rfl,rfl,rfl,trivial⟩ rfl) (fun n O e h=>?_);unfold jU at h;refine sr (jb (bO rfl) ?_);refine nt (ag (ci h (fun h=>?_) (fun h=>?_)))
    ·refine sk (a9 (Z:=Value) (α:=(List Int)) (fun Q ac=>[(6,Pt b4),(7,Pt b5),(8,Pt b6),(9,Pt b7),(10,Pt u),(11,.eq Q),(25,I (a0.2.2.length:Int)),(26,I e.2)]) (fun Q ac=>[.obj b4 102 (.at ak (a0,(.map (some z3)))),.obj b5 23 (Ri y9.2.2),.obj b6 107 (.rep (.arr 3 (.arr 5 (.int .i64))) y9.2.1),.obj b7 4 (.eq (.bool y9.1)),.obj u 107 (.rep (.arr 3 (.arr 5 (.int .i64))) j),.sl Q 3 (.int .i64) ac,.inv z3 (aQ k a0),.obj b1 25 (.rep aL a0),.raw l (.loop (⟨.busy,none,fn0,tm0, #[22],as0,bd0,df0⟩:Loop))]) h (fun K h=>?_) (fun Q ac h=>?_))
     ·refine ao (sr (mq ?_));refine aq (nt (ag ?_));refine cX ?_;refine dm ?_;obtain⟨Ny,qt,h⟩:=aa h;refine db (fg rfl Aw qL (aB qt).1 (aB qt).2) ?_;obtain⟨Nq,M4,h⟩:=aa h;refine ea 4 (si (t:=(.arr 5 (.int .i64))) (off:=0) (i:=e.2) (N:=3) rfl qL (sS) rfl rfl rfl rfl M4) ?_;obtain⟨Ni,M9,h⟩:=aa h;refine da (aK (N:=[(.const (.slice none 0 0),.eq (.slice none 0 0))]) (aj [.const (.slice none 0 0)] rfl rfl uS rfl (cE k ([]:(List (List Int))) Ni M9)) fun _ _ _ hn=>⟨(bb (t:=(.slice (.slice (.int .i64)))) (x:=([]:(List (List Int)))) .nil rfl rfl hn.1),trivial⟩) ?_;refine dm ?_;obtain⟨Np,MZ,h⟩:=aa h;refine db (qN (t:=(.arr 5 (.int .i64))) rfl Aw qL rfl rfl (sS) MZ) ?_;refine df gz ?_;obtain⟨Nw,pp,h⟩:=aa h;refine jb (Bw rfl (aB pp).1 (aB pp).2) ?_;refine nt (cn h (fun h=>?_) (fun h=>?_))
      ·refine ab ?_;iterate 2 refine mq ?_
       refine ja (aJ (t:=(.int .i64)) [(.tmp 37,_)] [e.2] rfl rfl cR (.cons rfl .int .nil) rfl rfl) ?_;obtain⟨Nv,M5,h⟩:=aa h;refine fr 5 ?_;refine eh rfl rfl rfl (cV rfl rfl cR (aB M5)) ⟨rfl,rfl,trivial⟩ fun Nc=>?_;refine aq (an (bn ?_));exact jz (Nc,e.1++[e.2]) h [1,2,3,4,5,0,6,7,8]
      ·refine aU (bn ?_);exact jz (O,e.1) h [0,1,2,3,4,5,6,7,8]
     ·refine ab ?_;obtain⟨Nb,MY,h⟩:=aa h;refine jb (bM rfl MY) ?_;refine mq (nl ?_);exact jz (Q,(ac,Nb)) h [0,1,2,3,4,5,6,7,8]
    ·refine xa ?_;exact jz (O,e.1) h [0,1,2,3,4,5,6,7,8]
   ·refine ag (a9 (Z:=Unit) (α:=(List Int)×Bool) (fun MX y=>[(6,Pt b4),(7,Pt b5),(8,Pt b6),(9,Pt b7),(10,Pt u),(11,Ri y.1),(61,.eq (.bool y.2))]) (fun MX y=>[.obj b4 102 (.at ak (a0,(.map (some z3)))),.obj b5 23 (Ri y9.2.2),.obj b6 107 (.rep (.arr 3 (.arr 5 (.int .i64))) y9.2.1),.obj b7 4 (.eq (.bool y9.1)),.obj u 107 (.rep (.arr 3 (.arr 5 (.int .i64))) j),.inv z3 (aQ k a0),.obj b1 25 (.rep aL a0),.raw l (.loop (⟨.busy,none,fn0,tm0, #[22],as0,bd0,df0⟩:Loop))]) h (fun K h=>?_) (fun MX y h=>?_))
    ·refine ab (fr 3 ?_);refine lo KX ?_;refine mq ?_;refine aH (s:=42) rfl (fun hb=>?_) (fun hb=>?_)
     ·replace h:=bD (xB hb) h;refine gm ?_;refine fr 5 ?_;refine f7 rfl rfl rfl rfl rfl rfl (dh rfl rfl fU) ⟨rfl,trivial⟩ ?_;refine fr 3 ?_;refine f7 rfl rfl rfl rfl rfl rfl (ap rfl dG np rfl) ⟨rfl,trivial⟩ ?_;refine ga (kg rfl rfl fU) ?_;refine gb (kP rfl) ?_;refine gm ?_;refine aH (s:=48) rfl (fun hb=>?_) (fun hb=>?_)
      ·replace h:=bD (ln hb) h;iterate 6 refine gn ?_
       refine gu ?_;refine gu ?_;refine gu ?_;refine gu ?_;refine gn ?_;refine gb (mJ rfl) ?_;refine pt (nl ?_);refine aE 1 rfl ?_;refine bf (d6 [11,43] ⟨rfl,rfl,trivial⟩) ?_;exact jz ((),(c,true)) h [2,0,3,1,4,5,6,7]
      ·replace h:=aP (kV hb) h;refine gm ?_;refine fr 1 ?_;refine f7 rfl rfl rfl rfl rfl rfl (dh rfl rfl fU) ⟨rfl,trivial⟩ ?_;refine fr 1 ?_;refine f7 rfl rfl rfl rfl rfl rfl (ap rfl dG np rfl) ⟨rfl,trivial⟩ ?_;refine ga (kg rfl rfl fU) ?_;refine gb (du rfl) ?_;refine gm ?_;refine aH (s:=54) rfl (fun hb=>?_) (fun hb=>?_)
       ·replace h:=bD (ln hb) h;refine gm ?_;refine f7 rfl rfl rfl rfl rfl rfl (ap rfl dG np rfl) ⟨rfl,trivial⟩ ?_;refine fr 1 ?_;refine bX (d6 [11,43,49,55] ⟨rfl,rfl,rfl,rfl,trivial⟩) ?_;obtain⟨mc,M8,h⟩:=aa h;refine gb (aj [.tmp 55,.tmp 56] rfl rfl Ko rfl (nZ k c y9.2.2 mc M8)) ?_;refine gb (mr rfl) ?_;refine gb (mJ rfl) ?_;refine gb (lE rfl) ?_;refine pt (nl ?_);exact jz ((),(c,decide (0≤mc))) h [2,0,3,1,4,5,6,7]
       ·replace h:=aP (kV hb) h;iterate 4 refine gn ?_
        refine gb (lE rfl) ?_;refine gb (lE rfl) ?_;refine pt (nl ?_);refine aE 1 rfl ?_;refine bf (d6 [11,43,49] ⟨rfl,rfl,rfl,trivial⟩) ?_;exact jz ((),(c,false)) h [2,0,3,1,4,5,6,7]
     ·replace h:=aP (xC hb) h;iterate 6 refine gn ?_
      refine gu ?_;refine gu ?_;refine gu ?_;refine gu ?_;refine gu ?_;refine gu ?_;refine gu ?_;refine gu ?_;refine gu ?_;refine gu ?_;refine gu ?_;refine gn ?_;refine pf (nl ?_);refine aE 5 rfl ?_;refine bf (d6 [11] ⟨rfl,trivial⟩) ?_;exact jz ((),(c,false)) h [1,2,3,0,4,5,6,7]
    ·refine cv h (fun h=>?_) (fun h=>?_)
     ·refine dM (aZ (bY (aE 6 rfl ?_)));refine aE 6 rfl ?_;refine aE 3 rfl ?_;refine aE 4 rfl ?_;refine aE 5 rfl ?_;refine aE 5 rfl ?_;refine aE 7 rfl ?_;cases h;exact g8 () 6 rfl
     ·refine sk (sr (lo jl ?_));refine fr 4 ?_;refine lo bW ?_;obtain⟨se,M7,h⟩:=aa h;refine fr 5 ?_;refine kb (cP [.tmp 62,.tmp 63] rfl rfl zf rfl (eu k a0 z3 j se M7)) ?_;refine jb (du rfl) ?_;refine nt (ci h (fun h=>?_) (fun h=>?_))
      ·refine lN ?_;refine cG rfl rfl rfl (bZ rfl) ⟨rfl,trivial⟩ ?_;refine iq 1 rfl rfl rfl rfl (ap rfl bW (sS) rfl) ⟨rfl,trivial⟩ ?_;refine qF 2 [true,false] [] [1] [.obj u 107 (.rep (.arr 3 (.arr 5 (.int .i64))) j)] rfl (by kernel_rfl) (by kernel_rfl) (by kernel_rfl) gz (fun vs hv hB=>?_);obtain⟨w0,Nu,rfl,Nk⟩:=aM hv;obtain⟨w1,Nr,rfl,Nj⟩:=aM Nk;obtain rfl:=nq Nj;refine⟨[1,0,2,3,4,5,6,7],[.inv z3 (aQ k a0),.obj b4 102 (.at ak (a0,(.map (some z3)))),.obj b5 23 (Ri y9.2.2),.obj b6 107 (.rep (.arr 3 (.arr 5 (.int .i64))) y9.2.1),.obj b7 4 (.eq (.bool y9.1)),.obj b1 25 (.rep aL a0),.raw l (.loop (⟨.busy,none,fn0,tm0, #[22],as0,bd0,df0⟩:Loop))],by kernel_rfl,by decide,?_⟩;refine pI 2 rfl ?_;refine qE rfl rfl (aO rfl dG rfl rfl rfl) ⟨rfl,rfl,trivial⟩ (by kernel_rfl) ?_;refine DT (by kernel_rfl) ?_;refine fr 4 ?_;refine aX rfl rfl (aO rfl bW rfl rfl rfl) ⟨rfl,rfl,trivial⟩ ?_;refine fr 5 ?_;refine aX rfl rfl (aO rfl KX rfl rfl rfl) ⟨rfl,rfl,trivial⟩ ?_;refine an (aI (aE 6 rfl ?_));refine aE 5 rfl ?_;refine aE 5 rfl ?_;refine aE 4 rfl ?_;refine aE 4 rfl ?_;refine aE 6 rfl ?_;refine aE 7 rfl ?_;cases h;exact g8 () 6 rfl
      ·refine aU (aI (aE 6 rfl ?_));refine aE 1 rfl ?_;refine aE 4 rfl ?_;refine aE 5 rfl ?_;refine aE 6 rfl ?_;refine aE 6 rfl ?_;refine aE 7 rfl ?_;cases h;exact g8 () 6 rfl
  ·replace h:=aP (xC hj) h;refine aI (tn (ag (sr (fr 3 ?_))));refine lo KX ?_;refine ja (dA rfl) ?_;refine nt (cw h (fun h=>?_) (fun h=>?_))
   ·refine sr (cq ?_);refine cq ?_;refine cq (nt (rx ?_));refine pJ ?_;refine bf (eW (t:=(.slice (.int .i64))) (x:=[]) 2 rfl .nil rfl rfl) ?_;refine bf (eW (t:=(.slice (.slice (.int .i64)))) (x:=[]) 3 rfl .nil rfl rfl) ?_;refine aE 1 rfl ?_;refine nB ?_;cases h;exact aC () [_,_,_] 0 ⟨rfl,rfl,rfl,trivial⟩ rfl
   ·refine sk (ag (cX ?_));refine ea 5 (ap rfl dG np rfl) ?_;refine ea 3 (ap rfl jl np rfl) ?_;refine ea 4 (ap rfl bW (sS) rfl) ?_;obtain⟨Nh,M6,h⟩:=aa h;refine db (FN (aK (N:=[(.tmp 71,.at ak (a0,(.map (some z3)))),(.tmp 72,.rep (.arr 3 (.arr 5 (.int .i64))) D.1.2.1)]) (aj [.tmp 71,.tmp 72] rfl rfl Da rfl (er k (a0,()) D.1.2.1 Nh M6)) fun _ _ _ hn=>⟨(jk hn.1),hn.2.1,trivial⟩)) ?_;refine df gz ?_;refine aq ?_;refine aq ?_;refine cq (nt (aA ?_));refine pJ ?_;refine aE 1 rfl ?_;refine nB ?_;cases h;exact aC () [_,_,_] 0 ⟨rfl,rfl,rfl,trivial⟩ rfl
  ·replace h:=bD (xB hj) h;cases h
def fR(k:Nat)(e:(List (List Int))):Nat→Int→Option (Except Bool Unit)
 |0,_=>none
 |n+1,c=>
  if c < ([e,[[1,0,2],[3]],[[1,0,3]],[[1,0],[2]],[[1,1,0],[2]]].length:Int) then((bB k ([]:(List Int))).bind fun s=>
  (cd [e,[[1,0,2],[3]],[[1,0,3]],[[1,0],[2]],[[1,1,0],[2]]] c).bind fun l=>
  (bV k s l).bind fun r=>
  (cd [0,12,7,7,4] c).bind fun j=>
  if¬(r=j) then(some (.error false)) else((ck (c+1)).bind fun h=>
  fR k e n h)) else(some (.ok ()))
def km(k:Nat):Option Bool:=
 (bB k ([]:(List Int))).bind fun r1=>
 (bB k ([]:(List Int))).bind fun r3=>
 (bB k ([]:(List Int))).bind fun r5=>
 (bB k ([]:(List Int))).bind fun r7=>
 (cd r3.2.1 0).bind fun O=>
 (cd r5.2.1 0).bind fun M=>
 (((ov k).bind fun NQ=>
 if¬(NQ=true) then(some true) else((bB k ([]:(List Int))).bind fun NP=>
 (eQ k NP).bind fun NN=>
 if¬(NN=0) then(some true) else((eQ k (0,r1.2.1,r1.2.2)).bind fun NL=>
 if¬(NL=1) then(some true) else((eQ k (r3.1,List.set r3.2.1 (Int.toNat 0) (4,O.2),r3.2.2)).bind fun NK=>
 if¬(NK=1) then(some true) else((eQ k (r5.1,List.set r5.2.1 (Int.toNat 0) (M.1,[2,0]),r5.2.2)).bind fun NJ=>
 if¬(NJ=5) then(some true) else((eQ k (r7.1,r7.2.1,[])).bind fun NH=>
 some (!decide (NH=7)))))))):Option (Bool)).bind fun J=>
 if J=true then(some false) else((iZ k).bind fun NG=>
 bE (α:=Unit) (fR k NG k 0) (some) fun _=>
 (bB k ([]:(List Int))).bind fun NF=>
 (iZ k).bind fun NE=>
 (ri k NF NE 0).bind fun l=>
 (bB k ([]:(List Int))).bind fun ND=>
 (iZ k).bind fun NC=>
 (ly k ND NC 2).bind fun D=>
 (bB k ([]:(List Int))).bind fun NA=>
 (iZ k).bind fun Nz=>
 (ly k NA Nz 3).bind fun y=>
 (bB k ([]:(List Int))).bind fun Ny=>
 (iZ k).bind fun Nw=>
 (nb k Ny Nw 1 2).bind fun j=>
 (bB k ([]:(List Int))).bind fun Nv=>
 (iZ k).bind fun Nu=>
 (nb k Nv Nu 2 0).bind fun h=>
 ((if¬(l.2.2=0) then(some true) else(if¬(D.2=0) then(some true) else(if¬(y.2=0) then(some true) else(if¬(j.2.2=0) then(some true) else(if¬(h.2.2=0) then(some true) else(if 0 < (l.1.length:Int) then(some true) else(if¬(j.1=0) then(some true) else(if¬(j.2.1=1) then(some true) else(if¬(h.1=1) then(some true) else(if¬(h.2.1=0) then(some true) else((iZ k).bind fun Nr=>
 (dq k l.2.1 Nr).bind fun Nq=>
 if¬(Nq=true) then(some true) else((dq k D.1 [[0,1,3],[2]]).bind fun Np=>
 if¬(Np=true) then(some true) else((dq k y.1 [[1,3,0],[2]]).bind fun Nn=>
 some (!Nn)))))))))))))):Option (Bool)).bind fun I=>
 if I=true then(some false) else((bB k ([]:(List Int))).bind fun Nl=>
 (yV k).bind fun Nk=>
 (jH k Nl Nk).bind fun x=>
 (bB k [5]).bind fun Nj=>
 (jH k Nj [[2,1,0,3]]).bind fun u=>
 (bB k ([]:(List Int))).bind fun Ni=>
 (iZ k).bind fun Nh=>
 (pV k Ni Nh).bind fun s=>
 (bB k ([]:(List Int))).bind fun Nc=>
 (pW k Nc).bind fun r=>
 (bB k ([]:(List Int))).bind fun Nb=>
 (rh k Nb).bind fun e=>
 (bB k [5]).bind fun Na=>
 (rh k Na).bind fun M9=>
 ((if¬(x.2=0) then(some true) else(if¬(u.2=0) then(some true) else(if¬(s.2=0) then(some true) else(if¬(r.2=0) then(some true) else(if¬(e.2.2=0) then(some true) else(if¬(M9.2.2=11) then(some true) else(if¬(x.1=2) then(some true) else(if¬(u.1=3) then(some true) else(if¬(r.1=1) then(some true) else((eC k s.1 [1,1,0,1]).bind fun M8=>
 if¬(M8=true) then(some true) else((eC k e.1 [0,1]).bind fun M7=>
 if¬(M7=true) then(some true) else((dq k e.2.1 [[2,0],[1,3]]).bind fun M6=>
 some (!M6))))))))))))):Option (Bool)).bind fun F=>
 if F=true then(some false) else((bB k ([]:(List Int))).bind fun M5=>
 (iZ k).bind fun M4=>
 (oQ k M5 M4).bind fun MZ=>
 (bB k ([]:(List Int))).bind fun MY=>
 (iZ k).bind fun MX=>
 (lR k MY MX 0 3).bind fun c=>
 (bB k ([]:(List Int))).bind fun se=>
 (lx k se (.string ⟨#[98,97,100,47,99]⟩)).bind fun n=>
 (bB k ([]:(List Int))).bind fun qt=>
 (lx k qt (.string ⟨#[98,97,100]⟩)).bind fun pp=>
 (bB k ([]:(List Int))).bind fun mc=>
 (lx k mc (.string ⟨#[98,97,100,47,67]⟩)).bind fun ac=>
 (bB k ([]:(List Int))).bind fun Z=>
 (lx k Z (.string ⟨#[97,98,100,47,99,99]⟩)).bind fun Y=>
 ((if MZ.2.2.2=11 then(if c.2.2=0 then(if n.2=0 then(if pp.2=7 then(if ac.2=2 then(if Y.2=4 then(if c.2.1=0 then((eC k c.1 [0,1,3]).bind fun X=>
 if X=true then((iZ k).bind fun U=>
 (dq k n.1 U).bind fun Q=>
 some Q) else(some false)) else(some false)) else(some false)) else(some false)) else(some false)) else(some false)) else(some false)) else(some false)):Option (Bool)).bind fun E=>
 some E)))
theorem pq(k:Nat)(r:Bool)(h:km k=some r):
 cH (fD Tryz.prog) 22 [] [.inv 0 (dP)] (fun _:Unit=>(bG [.eq (.bool r)],[.inv 0 (dP)])):=by
 unfold km at h
 replace h:=bq h
 refine cH.of 355 Tryz.func22 rfl Tryz.ntmps22 rfl fun S w0=>?_
 refine sr ?_
 refine cq ?_
 refine nt ?_
 refine sr ?_
 obtain⟨r1,PT,h⟩:=aa h
 have PX:=jD k ([]:(List Int)) r1 PT
 refine ay rfl rfl rfl (aK (N:=[(.const (.slice none 0 0),.eq (.slice none 0 0))]) (aj [.const (.slice none 0 0)] rfl rfl io rfl PX) fun _ _ _ hn=>⟨(bb (t:=(.slice (.int .i64))) (x:=([]:(List Int))) .nil rfl rfl hn.1),trivial⟩) ⟨rfl,trivial⟩ fun v2=>?_
 obtain⟨r3,PS,h⟩:=aa h
 have PW:=jD k ([]:(List Int)) r3 PS
 refine ay rfl rfl rfl (aK (N:=[(.const (.slice none 0 0),.eq (.slice none 0 0))]) (aj [.const (.slice none 0 0)] rfl rfl io rfl PW) fun _ _ _ hn=>⟨(bb (t:=(.slice (.int .i64))) (x:=([]:(List Int))) .nil rfl rfl hn.1),trivial⟩) ⟨rfl,trivial⟩ fun v4=>?_
 obtain⟨r5,PR,h⟩:=aa h
 have PV:=jD k ([]:(List Int)) r5 PR
 refine ay rfl rfl rfl (aK (N:=[(.const (.slice none 0 0),.eq (.slice none 0 0))]) (aj [.const (.slice none 0 0)] rfl rfl io rfl PV) fun _ _ _ hn=>⟨(bb (t:=(.slice (.int .i64))) (x:=([]:(List Int))) .nil rfl rfl hn.1),trivial⟩) ⟨rfl,trivial⟩ fun v6=>?_
 obtain⟨r7,PQ,h⟩:=aa h
 have PU:=jD k ([]:(List Int)) r7 PQ
 refine ay rfl rfl rfl (aK (N:=[(.const (.slice none 0 0),.eq (.slice none 0 0))]) (aj [.const (.slice none 0 0)] rfl rfl io rfl PU) fun _ _ _ hn=>⟨(bb (t:=(.slice (.int .i64))) (x:=([]:(List Int))) .nil rfl rfl hn.1),trivial⟩) ⟨rfl,trivial⟩ fun v8=>?_
 refine ay rfl rfl rfl (ba rfl vv Au) trivial fun b9=>?_
 refine ay rfl rfl rfl (ba rfl vv Au) trivial fun P0=>?_
 refine ay rfl rfl rfl (ba rfl vv Au) trivial fun PZ=>?_
 refine ay rfl rfl rfl (ba rfl vv Au) trivial fun PY=>?_
 refine fr 3 ?_
 refine aX rfl rfl (aO rfl fB trivial rfl rfl) ⟨rfl,rfl,trivial⟩ ?_
 refine fr 3 ?_
 refine aX rfl rfl (aO rfl fB trivial rfl rfl) ⟨rfl,rfl,trivial⟩ ?_
 refine fr 3 ?_
 refine aX rfl rfl (aO rfl fB trivial rfl rfl) ⟨rfl,rfl,trivial⟩ ?_
 refine fr 3 ?_
 refine aX rfl rfl (aO rfl fB trivial rfl rfl) ⟨rfl,rfl,trivial⟩ ?_
 refine nt ?_
 refine ag ?_
 refine lN ?_
 refine cG rfl rfl rfl (aD rfl ik) ⟨rfl,trivial⟩ ?_
 refine iq 2 rfl rfl rfl rfl (ap rfl oS np rfl) ⟨rfl,trivial⟩ ?_
 refine cG rfl rfl rfl (aD rfl ik) ⟨rfl,trivial⟩ ?_
 refine iq 1 rfl rfl rfl rfl (ap rfl oS np rfl) ⟨rfl,trivial⟩ ?_
 refine cG rfl rfl rfl (aJ (t:=(.int .i64)) [(.const (.int .i64 (2)),_),(.const (.int .i64 (0)),_)] [2,0] rfl rfl cR (.cons rfl .int (.cons rfl .int .nil)) rfl rfl) ⟨rfl,rfl,trivial⟩ ?_
 refine cG rfl rfl rfl (aD rfl mb) ⟨rfl,trivial⟩ ?_
 refine qF 6 [false,false,false,false,false,true] [35,36] [2,1] [.obj P0 25 (.agg (.pair (I r3.1) (.pair (.eq v4) (Ri r3.2.2)))),.obj PZ 25 (.agg (.pair (I r5.1) (.pair (.eq v6) (Ri r5.2.2))))] rfl (by kernel_rfl) (by kernel_rfl) (by kernel_rfl) gz (fun vs hv hB=>?_)
 obtain⟨w0,P7,rfl,PP⟩:=aM hv
 obtain⟨w1,P6,rfl,PO⟩:=aM PP
 obtain⟨w2,P5,rfl,PN⟩:=aM PO
 obtain⟨w3,P4,rfl,PM⟩:=aM PN
 obtain⟨w4,P3,rfl,PL⟩:=aM PM
 obtain⟨w5,P2,rfl,PK⟩:=aM PL
 obtain rfl:=nq PK
 refine⟨[2,1,0,3,4,5,6,7,8],[.obj PY 25 (.agg (.pair (I r7.1) (.pair (.eq v8) (Ri r7.2.2)))),.obj b9 25 (.agg (.pair (I r1.1) (.pair (.eq v2) (Ri r1.2.2)))),.sl v8 27 c6 r7.2.1,.sl v6 27 c6 r5.2.1,.sl v4 27 c6 r3.2.1,.sl v2 27 c6 r1.2.1,.inv 0 (dP)],by kernel_rfl,by decide,?_⟩
 refine pI 1 rfl ?_
 refine qE rfl rfl (aO rfl d4 rfl rfl rfl) ⟨rfl,rfl,trivial⟩ (by kernel_rfl) ?_
 obtain⟨M,j,h⟩:=aa h
 refine pI 4 rfl ?_
 refine yB rfl rfl rfl rfl (bR (t:=c6) rfl vt pX j) ⟨rfl,rfl,trivial⟩ (by kernel_rfl) ?_
 refine yB rfl rfl rfl rfl (sj rfl uP (yW j)) ⟨rfl,trivial⟩ (by kernel_rfl) ?_
 refine qE rfl rfl (oe (i:=Int.toNat 0) (off:=0) rfl d4 rfl (cM j).2.2 .int rfl (.agg (.left .whole))) ⟨rfl,rfl,trivial⟩ (by kernel_rfl) ?_
 refine DT (by kernel_rfl) ?_
 obtain⟨J,c,h⟩:=aa h
 refine fr 6 ?_
 refine kb (bR (t:=c6) rfl vt pX c) ?_
 refine ka (sj rfl uO (yW c)) ?_
 refine aX rfl rfl (oe (i:=Int.toNat 0) (off:=1) rfl dG rfl (cM c).2.2 .rep rfl (.agg (.right .whole rfl))) ⟨rfl,rfl,trivial⟩ ?_
 refine fl ku ?_
 refine fr 5 ?_
 refine aX rfl rfl (aO rfl dG rfl rfl rfl) ⟨rfl,rfl,trivial⟩ ?_
 refine nt ?_
 refine ag ?_
 refine a9 (Z:=Unit) (α:=Bool) (fun mc F=>[(66,.eq (.bool F))]) (fun mc F=>[.inv 0 (dP)]) h (fun K h=>?_) (fun mc F h=>?_)
 ·
  refine ab ?_;obtain⟨PI,O3,h⟩:=aa h;refine fr 8 ?_;refine bL rfl rfl rfl (cP [] rfl rfl LP rfl (td k PI O3)) trivial ?_;refine ja (dA rfl) ?_;refine mq ?_;refine aH (s:=42) rfl (fun hb=>?_) (fun hb=>?_)
  ·replace h:=bD (sZ hb) h;iterate 3 refine gn ?_
   refine pt ?_;refine mq ?_;iterate 3 refine gn ?_
   refine pt ?_;refine mq ?_;iterate 3 refine gn ?_
   refine pt ?_;refine mq ?_;iterate 3 refine gn ?_
   refine pt ?_;refine mq ?_;iterate 3 refine gn ?_
   refine pt (nl ?_);exact jz ((),true) h [0]
  ·replace h:=aP (nP hb) h;obtain⟨NP,O2,h⟩:=aa h;refine ga (aK (N:=[(.const (.slice none 0 0),.eq (.slice none 0 0))]) (aj [.const (.slice none 0 0)] rfl rfl io rfl (be k ([]:(List Int)) NP O2)) fun _ _ _ hn=>⟨(bb (t:=(.slice (.int .i64))) (x:=([]:(List Int))) .nil rfl rfl hn.1),trivial⟩) ?_;obtain⟨PH,O1,h⟩:=aa h;refine ga (aj [.tmp 43] rfl rfl uT rfl (dI k NP PH O1)) ?_;refine gb (cm rfl) ?_;refine pf ?_;refine mq ?_;refine aH (s:=47) rfl (fun hb=>?_) (fun hb=>?_)
   ·replace h:=bD (qR hb) h;iterate 3 refine gn ?_
    refine pt ?_;refine mq ?_;iterate 3 refine gn ?_
    refine pt ?_;refine mq ?_;iterate 3 refine gn ?_
    refine pt ?_;refine mq ?_;iterate 3 refine gn ?_
    refine pt (nl ?_);exact jz ((),true) h [0]
   ·replace h:=aP (iY hb) h;refine fr 6 ?_;refine fr 8 ?_;refine bX (mg (off:=1) [] trivial rfl rfl) ?_;refine f7 rfl rfl rfl rfl rfl rfl (ap rfl fB (sS) rfl) ⟨rfl,trivial⟩ ?_;obtain⟨PG,O0,h⟩:=aa h;refine ga (aK (N:=[(.tmp 48,.agg (.pair (I 0) (.pair (Rs c6 r1.2.1) (Ri r1.2.2))))]) (aj [.tmp 48] rfl rfl uT rfl (dI k (0,r1.2.1,r1.2.2) PG O0)) fun _ _ _ hn=>⟨(bb (t:=aL) (x:=(0,r1.2.1,r1.2.2)) (.agg (.pair .int (.pair .rep .rep))) trivial rfl hn.1),trivial⟩) ?_;refine gb (cm rfl) ?_;refine pf ?_;refine mq ?_;refine aH (s:=52) rfl (fun hb=>?_) (fun hb=>?_)
    ·replace h:=bD (qR hb) h;iterate 3 refine gn ?_
     refine pt ?_;refine mq ?_;iterate 3 refine gn ?_
     refine pt ?_;refine mq ?_;iterate 3 refine gn ?_
     refine pt (nl ?_);exact jz ((),true) h [1]
    ·replace h:=aP (iY hb) h;refine fr 4 ?_;refine fr 6 ?_;refine bX (mg (off:=1) [30] ⟨rfl,trivial⟩ rfl rfl) ?_;refine f7 rfl rfl rfl rfl rfl rfl (ap rfl fB (sS) rfl) ⟨rfl,trivial⟩ ?_;obtain⟨PE,OZ,h⟩:=aa h;refine ga (aK (N:=[(.tmp 53,.agg (.pair (I r3.1) (.pair (Rs c6 (List.set r3.2.1 (Int.toNat 0) (4,M.2))) (Ri r3.2.2))))]) (aj [.tmp 53] rfl rfl uT rfl (dI k (r3.1,List.set r3.2.1 (Int.toNat 0) (4,M.2),r3.2.2) PE OZ)) fun _ _ _ hn=>⟨(bb (t:=aL) (x:=(r3.1,List.set r3.2.1 (Int.toNat 0) (4,M.2),r3.2.2)) (.agg (.pair .int (.pair .rep .rep))) trivial rfl hn.1),trivial⟩) ?_;refine gb (cm rfl) ?_;refine pf ?_;refine mq ?_;refine aH (s:=57) rfl (fun hb=>?_) (fun hb=>?_)
     ·replace h:=bD (qR hb) h;iterate 3 refine gn ?_
      refine pt ?_;refine mq ?_;iterate 3 refine gn ?_
      refine pt (nl ?_);exact jz ((),true) h [2]
     ·replace h:=aP (iY hb) h;refine fr 5 ?_;refine fr 5 ?_;refine bX (mg (off:=1) [32] ⟨rfl,trivial⟩ rfl rfl) ?_;refine f7 rfl rfl rfl rfl rfl rfl (ap rfl fB (sS) rfl) ⟨rfl,trivial⟩ ?_;obtain⟨PD,OY,h⟩:=aa h;refine ga (aK (N:=[(.tmp 58,.agg (.pair (I r5.1) (.pair (Rs c6 (List.set r5.2.1 (Int.toNat 0) (J.1,[2,0]))) (Ri r5.2.2))))]) (aj [.tmp 58] rfl rfl uT rfl (dI k (r5.1,List.set r5.2.1 (Int.toNat 0) (J.1,[2,0]),r5.2.2) PD OY)) fun _ _ _ hn=>⟨(bb (t:=aL) (x:=(r5.1,List.set r5.2.1 (Int.toNat 0) (J.1,[2,0]),r5.2.2)) (.agg (.pair .int (.pair .rep .rep))) trivial rfl hn.1),trivial⟩) ?_;refine gb (cm rfl) ?_;refine pf ?_;refine mq ?_;refine aH (s:=62) rfl (fun hb=>?_) (fun hb=>?_)
      ·replace h:=bD (qR hb) h;iterate 3 refine gn ?_
       refine pt (nl ?_);exact jz ((),true) h [3]
      ·replace h:=aP (iY hb) h;refine fr 4 ?_;refine fr 5 ?_;refine bX (mg (off:=1) [] trivial rfl rfl) ?_;refine f7 rfl rfl rfl rfl rfl rfl (ap rfl fB (sS) rfl) ⟨rfl,trivial⟩ ?_;obtain⟨NN,OX,h⟩:=aa h;refine ga (aK (N:=[(.tmp 63,.agg (.pair (I r7.1) (.pair (Rs c6 r7.2.1) (.eq (.slice none 0 0)))))]) (aj [.tmp 63] rfl rfl uT rfl (dI k (r7.1,r7.2.1,[]) NN OX)) fun _ _ _ hn=>⟨(bb (t:=aL) (x:=(r7.1,r7.2.1,[])) (.agg (.pair .int (.pair .rep .nil))) trivial rfl hn.1),trivial⟩) ?_;refine gb (cm rfl) ?_;refine pf (nl ?_);exact jz ((), !decide (NN=7)) h [4]
 ·
  refine cv h (fun h=>?_) (fun h=>?_)
  ·refine sr (cq (nt (rx ?_)));cases h;exact aC () [_] 1 ⟨rfl,trivial⟩ rfl
  ·refine sk (sr ?_);obtain⟨l,OW,h⟩:=aa h;refine ax rfl (aj [] rfl rfl oz rfl (dT k l OW)) trivial ?_;refine jc (aJ (t:=(.int .i64)) [(.const (.int .i64 (1)),_),(.const (.int .i64 (0)),_),(.const (.int .i64 (2)),_)] [1,0,2] rfl rfl cR (.cons rfl .int (.cons rfl .int (.cons rfl .int .nil))) rfl rfl) ?_;refine ja (aJ (t:=(.int .i64)) [(.const (.int .i64 (3)),_)] [3] rfl rfl cR (.cons rfl .int .nil) rfl rfl) ?_;refine jb (aJ (t:=(.slice (.int .i64))) [(.tmp 68,_),(.tmp 69,_)] [[1,0,2],[3]] rfl rfl lh (.cons rfl .rep (.cons rfl .rep .nil)) rfl rfl) ?_;refine jc (aJ (t:=(.int .i64)) [(.const (.int .i64 (1)),_),(.const (.int .i64 (0)),_),(.const (.int .i64 (3)),_)] [1,0,3] rfl rfl cR (.cons rfl .int (.cons rfl .int (.cons rfl .int .nil))) rfl rfl) ?_;refine ja (aJ (t:=(.slice (.int .i64))) [(.tmp 71,_)] [[1,0,3]] rfl rfl lh (.cons rfl .rep .nil) rfl rfl) ?_;refine jb (aJ (t:=(.int .i64)) [(.const (.int .i64 (1)),_),(.const (.int .i64 (0)),_)] [1,0] rfl rfl cR (.cons rfl .int (.cons rfl .int .nil)) rfl rfl) ?_;refine ja (aJ (t:=(.int .i64)) [(.const (.int .i64 (2)),_)] [2] rfl rfl cR (.cons rfl .int .nil) rfl rfl) ?_;refine jb (aJ (t:=(.slice (.int .i64))) [(.tmp 73,_),(.tmp 74,_)] [[1,0],[2]] rfl rfl lh (.cons rfl .rep (.cons rfl .rep .nil)) rfl rfl) ?_;refine jc (aJ (t:=(.int .i64)) [(.const (.int .i64 (1)),_),(.const (.int .i64 (1)),_),(.const (.int .i64 (0)),_)] [1,1,0] rfl rfl cR (.cons rfl .int (.cons rfl .int (.cons rfl .int .nil))) rfl rfl) ?_;refine ja (aJ (t:=(.int .i64)) [(.const (.int .i64 (2)),_)] [2] rfl rfl cR (.cons rfl .int .nil) rfl rfl) ?_;refine jb (aJ (t:=(.slice (.int .i64))) [(.tmp 76,_),(.tmp 77,_)] [[1,1,0],[2]] rfl rfl lh (.cons rfl .rep (.cons rfl .rep .nil)) rfl rfl) ?_;refine ax rfl (aJ (t:=(.slice (.slice (.int .i64)))) [(.tmp 67,_),(.tmp 70,_),(.tmp 72,_),(.tmp 75,_),(.tmp 78,_)] [l,[[1,0,2],[3]],[[1,0,3]],[[1,0],[2]],[[1,1,0],[2]]] rfl rfl Lj (.cons rfl .rep (.cons rfl .rep (.cons rfl .rep (.cons rfl .rep (.cons rfl .rep .nil))))) rfl rfl) ⟨rfl,rfl,rfl,rfl,rfl,trivial⟩ ?_;refine ax rfl (aJ (t:=(.int .i64)) [(.const (.int .i64 (0)),_),(.const (.int .i64 (12)),_),(.const (.int .i64 (7)),_),(.const (.int .i64 (7)),_),(.const (.int .i64 (4)),_)] [0,12,7,7,4] rfl rfl Lh (.cons rfl .int (.cons rfl .int (.cons rfl .int (.cons rfl .int (.cons rfl .int .nil))))) rfl rfl) ⟨rfl,rfl,rfl,rfl,rfl,trivial⟩ ?_;refine aq ?_;refine aq (nt ?_);refine fA (Z:=Unit) (α:=Unit) (fun ac pp=>[]) (fun ac pp=>[.inv 0 (dP)]) (fun e=>e=r) h (fun e h=>Option.some.inj h) (fun K hR h=>?_) (fun ac pp h=>?_)
   ·refine sr (cq (nt (ao ?_)));refine aR (fun Y u=>[(5,.rep (.slice (.slice (.slice (.int .i64)))) [l,[[1,0,2],[3]],[[1,0,3]],[[1,0],[2]],[[1,1,0],[2]]]),(6,Ri [0,12,7,7,4]),(7,I u)]) (fun Y u=>[.inv 0 (dP)]) (fR k l) k () 0 (fun _=>rfl) h (SE.fin [0] ⟨rfl,rfl,rfl,trivial⟩ rfl) (fun n Y u h=>?_);unfold fR at h;refine ag (sr ?_);iterate 2 refine mq ?_
    refine ol MF ?_;refine jb (bO rfl) ?_;refine nt (ci h (fun h=>?_) (fun h=>?_))
    ·refine sk (ag (ao (ag (cX ?_))));obtain⟨NL,OU,h⟩:=aa h;refine da (aK (N:=[(.const (.slice none 0 0),.eq (.slice none 0 0))]) (aj [.const (.slice none 0 0)] rfl rfl io rfl (be k ([]:(List Int)) NL OU)) fun _ _ _ hn=>⟨(bb (t:=(.slice (.int .i64))) (x:=([]:(List Int))) .nil rfl rfl hn.1),trivial⟩) ?_;refine dm ?_;refine dm ?_;obtain⟨O5,NS,h⟩:=aa h;refine db (bH (t:=(.slice (.slice (.int .i64)))) rfl MF IH NS) ?_;refine da (au (t:=(.slice (.slice (.int .i64)))) rfl IH rfl) ?_;obtain⟨PC,OT,h⟩:=aa h;refine eb 0 (aj [.tmp 87,.tmp 91] rfl rfl wR rfl (bS k NL O5 PC OT)) ?_;refine dm ?_;refine dm ?_;obtain⟨P1,NR,h⟩:=aa h;refine db (bH (t:=(.int .i64)) rfl MU GL NR) ?_;refine da (au (t:=(.int .i64)) rfl GL rfl) ?_;refine df gz ?_;refine jb (cm rfl) ?_;refine nt (cn h (fun h=>?_) (fun h=>?_))
     ·refine sr (cq (nt (aA (br (bF (aW ?_))))));obtain rfl:=hR _ h;exact aC () [_] 1 ⟨rfl,trivial⟩ rfl
     ·refine aU (aI (tn (ab (mq ?_))));obtain⟨O4,NQ,h⟩:=aa h;refine jb (bM rfl NQ) ?_;refine aq (nl ?_);exact jz ((),O4) h [0]
    ·refine xa ?_;exact jz ((),()) h [0]
   ·refine sr ?_;obtain⟨NK,OS,h⟩:=aa h;refine ja (aK (N:=[(.const (.slice none 0 0),.eq (.slice none 0 0))]) (aj [.const (.slice none 0 0)] rfl rfl io rfl (be k ([]:(List Int)) NK OS)) fun _ _ _ hn=>⟨(bb (t:=(.slice (.int .i64))) (x:=([]:(List Int))) .nil rfl rfl hn.1),trivial⟩) ?_;obtain⟨NJ,OR,h⟩:=aa h;refine ax rfl (aj [] rfl rfl oz rfl (dT k NJ OR)) trivial ?_;obtain⟨NH,OQ,h⟩:=aa h;refine kc (aj [.tmp 99,.tmp 100,.const (.int .i64 (0))] rfl rfl JP rfl (rK k NK NJ 0 NH OQ)) ?_;refine mq ?_;refine xr ?_;refine xr ?_;refine xr ?_;refine aq ?_;refine aq ?_;refine aq (nt (sr ?_));obtain⟨NG,OP,h⟩:=aa h;refine ja (aK (N:=[(.const (.slice none 0 0),.eq (.slice none 0 0))]) (aj [.const (.slice none 0 0)] rfl rfl io rfl (be k ([]:(List Int)) NG OP)) fun _ _ _ hn=>⟨(bb (t:=(.slice (.int .i64))) (x:=([]:(List Int))) .nil rfl rfl hn.1),trivial⟩) ?_;obtain⟨NF,OO,h⟩:=aa h;refine ax rfl (aj [] rfl rfl oz rfl (dT k NF OO)) trivial ?_;obtain⟨NE,ON,h⟩:=aa h;refine kc (aj [.tmp 106,.tmp 107,.const (.int .i64 (2))] rfl rfl HG rfl (lT k NG NF 2 NE ON)) ?_;refine mq ?_;refine xr ?_;refine xr ?_;refine aq ?_;refine aq (nt (sr ?_));obtain⟨ND,OM,h⟩:=aa h;refine ja (aK (N:=[(.const (.slice none 0 0),.eq (.slice none 0 0))]) (aj [.const (.slice none 0 0)] rfl rfl io rfl (be k ([]:(List Int)) ND OM)) fun _ _ _ hn=>⟨(bb (t:=(.slice (.int .i64))) (x:=([]:(List Int))) .nil rfl rfl hn.1),trivial⟩) ?_;obtain⟨NC,OL,h⟩:=aa h;refine ax rfl (aj [] rfl rfl oz rfl (dT k NC OL)) trivial ?_;obtain⟨NA,OK,h⟩:=aa h;refine kc (aj [.tmp 112,.tmp 113,.const (.int .i64 (3))] rfl rfl HG rfl (lT k ND NC 3 NA OK)) ?_;refine mq ?_;refine xr ?_;refine xr ?_;refine aq ?_;refine aq (nt (sr ?_));obtain⟨Nz,OJ,h⟩:=aa h;refine ja (aK (N:=[(.const (.slice none 0 0),.eq (.slice none 0 0))]) (aj [.const (.slice none 0 0)] rfl rfl io rfl (be k ([]:(List Int)) Nz OJ)) fun _ _ _ hn=>⟨(bb (t:=(.slice (.int .i64))) (x:=([]:(List Int))) .nil rfl rfl hn.1),trivial⟩) ?_;obtain⟨Ny,OI,h⟩:=aa h;refine ax rfl (aj [] rfl rfl oz rfl (dT k Ny OI)) trivial ?_;obtain⟨Pz,OH,h⟩:=aa h;refine bL rfl rfl rfl (aj [.tmp 118,.tmp 119,.const (.int .i64 (1)),.const (.int .i64 (2))] rfl rfl JJ rfl (oP k Nz Ny 1 2 Pz OH)) ⟨rfl,rfl,rfl,rfl,trivial⟩ ?_;refine mq ?_;refine xr ?_;refine xr ?_;refine xr ?_;refine aq ?_;refine aq ?_;refine aq (nt (sr ?_));obtain⟨Nw,OG,h⟩:=aa h;refine ja (aK (N:=[(.const (.slice none 0 0),.eq (.slice none 0 0))]) (aj [.const (.slice none 0 0)] rfl rfl io rfl (be k ([]:(List Int)) Nw OG)) fun _ _ _ hn=>⟨(bb (t:=(.slice (.int .i64))) (x:=([]:(List Int))) .nil rfl rfl hn.1),trivial⟩) ?_;obtain⟨Nv,OF,h⟩:=aa h;refine ax rfl (aj [] rfl rfl oz rfl (dT k Nv OF)) trivial ?_;obtain⟨Py,OE,h⟩:=aa h;refine bL rfl rfl rfl (aj [.tmp 125,.tmp 126,.const (.int .i64 (2)),.const (.int .i64 (0))] rfl rfl JJ rfl (oP k Nw Nv 2 0 Py OE)) ⟨rfl,rfl,rfl,rfl,trivial⟩ ?_;refine mq ?_;refine xr ?_;refine xr ?_;refine xr ?_;refine aq ?_;refine aq ?_;refine aq (nt (ag ?_));refine a9 (Z:=Unit) (α:=Bool) (fun X E=>[(191,.eq (.bool E))]) (fun X E=>[.inv 0 (dP)]) h (fun K h=>?_) (fun X E h=>?_)
    ·refine ab (mq ?_);refine jb (cm rfl) ?_;refine mq ?_;refine aH (s:=133) rfl (fun hb=>?_) (fun hb=>?_)
     ·replace h:=bD (qR hb) h;iterate 2 refine gn ?_
      refine pt ?_;refine mq ?_;iterate 2 refine gn ?_
      refine pt ?_;refine mq ?_;iterate 2 refine gn ?_
      refine pt ?_;refine mq ?_;iterate 2 refine gn ?_
      refine pt ?_;refine mq ?_;iterate 3 refine gn ?_
      refine pt ?_;refine mq ?_;iterate 2 refine gn ?_
      refine pt ?_;refine mq ?_;iterate 2 refine gn ?_
      refine pt ?_;refine mq ?_;iterate 2 refine gn ?_
      refine pt ?_;refine mq ?_;iterate 2 refine gn ?_
      refine pt ?_;refine mq ?_;iterate 4 refine gn ?_
      refine pt ?_;refine mq ?_;iterate 6 refine gn ?_
      refine pt ?_;refine mq ?_;iterate 6 refine gn ?_
      refine pt (nl ?_);exact jz ((),true) h [0]
     ·replace h:=aP (iY hb) h;refine gm ?_;refine gb (cm rfl) ?_;refine pf ?_;refine mq ?_;refine aH (s:=137) rfl (fun hb=>?_) (fun hb=>?_)
      ·replace h:=bD (qR hb) h;iterate 2 refine gn ?_
       refine pt ?_;refine mq ?_;iterate 2 refine gn ?_
       refine pt ?_;refine mq ?_;iterate 2 refine gn ?_
       refine pt ?_;refine mq ?_;iterate 3 refine gn ?_
       refine pt ?_;refine mq ?_;iterate 2 refine gn ?_
       refine pt ?_;refine mq ?_;iterate 2 refine gn ?_
       refine pt ?_;refine mq ?_;iterate 2 refine gn ?_
       refine pt ?_;refine mq ?_;iterate 2 refine gn ?_
       refine pt ?_;refine mq ?_;iterate 4 refine gn ?_
       refine pt ?_;refine mq ?_;iterate 6 refine gn ?_
       refine pt ?_;refine mq ?_;iterate 6 refine gn ?_
       refine pt (nl ?_);exact jz ((),true) h [0]
      ·replace h:=aP (iY hb) h;refine gm ?_;refine gb (cm rfl) ?_;refine pf ?_;refine mq ?_;refine aH (s:=141) rfl (fun hb=>?_) (fun hb=>?_)
       ·replace h:=bD (qR hb) h;iterate 2 refine gn ?_
        refine pt ?_;refine mq ?_;iterate 2 refine gn ?_
        refine pt ?_;refine mq ?_;iterate 3 refine gn ?_
        refine pt ?_;refine mq ?_;iterate 2 refine gn ?_
        refine pt ?_;refine mq ?_;iterate 2 refine gn ?_
        refine pt ?_;refine mq ?_;iterate 2 refine gn ?_
        refine pt ?_;refine mq ?_;iterate 2 refine gn ?_
        refine pt ?_;refine mq ?_;iterate 4 refine gn ?_
        refine pt ?_;refine mq ?_;iterate 6 refine gn ?_
        refine pt ?_;refine mq ?_;iterate 6 refine gn ?_
        refine pt (nl ?_);exact jz ((),true) h [0]
       ·replace h:=aP (iY hb) h;refine gm ?_;refine gb (cm rfl) ?_;refine pf ?_;refine mq ?_;refine aH (s:=145) rfl (fun hb=>?_) (fun hb=>?_)
        ·replace h:=bD (qR hb) h;iterate 2 refine gn ?_
         refine pt ?_;refine mq ?_;iterate 3 refine gn ?_
         refine pt ?_;refine mq ?_;iterate 2 refine gn ?_
         refine pt ?_;refine mq ?_;iterate 2 refine gn ?_
         refine pt ?_;refine mq ?_;iterate 2 refine gn ?_
         refine pt ?_;refine mq ?_;iterate 2 refine gn ?_
         refine pt ?_;refine mq ?_;iterate 4 refine gn ?_
         refine pt ?_;refine mq ?_;iterate 6 refine gn ?_
         refine pt ?_;refine mq ?_;iterate 6 refine gn ?_
         refine pt (nl ?_);exact jz ((),true) h [0]
        ·replace h:=aP (iY hb) h;refine gm ?_;refine gb (cm rfl) ?_;refine pf ?_;refine mq ?_;refine aH (s:=149) rfl (fun hb=>?_) (fun hb=>?_)
         ·replace h:=bD (qR hb) h;iterate 3 refine gn ?_
          refine pt ?_;refine mq ?_;iterate 2 refine gn ?_
          refine pt ?_;refine mq ?_;iterate 2 refine gn ?_
          refine pt ?_;refine mq ?_;iterate 2 refine gn ?_
          refine pt ?_;refine mq ?_;iterate 2 refine gn ?_
          refine pt ?_;refine mq ?_;iterate 4 refine gn ?_
          refine pt ?_;refine mq ?_;iterate 6 refine gn ?_
          refine pt ?_;refine mq ?_;iterate 6 refine gn ?_
          refine pt (nl ?_);exact jz ((),true) h [0]
         ·replace h:=aP (iY hb) h;refine gm ?_;refine ga (kg rfl rfl fU) ?_;refine gb (kP rfl) ?_;refine pf ?_;refine mq ?_;refine aH (s:=154) rfl (fun hb=>?_) (fun hb=>?_)
          ·replace h:=bD (ln hb) h;iterate 2 refine gn ?_
           refine pt ?_;refine mq ?_;iterate 2 refine gn ?_
           refine pt ?_;refine mq ?_;iterate 2 refine gn ?_
           refine pt ?_;refine mq ?_;iterate 2 refine gn ?_
           refine pt ?_;refine mq ?_;iterate 4 refine gn ?_
           refine pt ?_;refine mq ?_;iterate 6 refine gn ?_
           refine pt ?_;refine mq ?_;iterate 6 refine gn ?_
           refine pt (nl ?_);exact jz ((),true) h [0]
          ·replace h:=aP (kV hb) h;refine gm ?_;refine gb (cm rfl) ?_;refine pf ?_;refine mq ?_;refine aH (s:=158) rfl (fun hb=>?_) (fun hb=>?_)
           ·replace h:=bD (qR hb) h;iterate 2 refine gn ?_
            refine pt ?_;refine mq ?_;iterate 2 refine gn ?_
            refine pt ?_;refine mq ?_;iterate 2 refine gn ?_
            refine pt ?_;refine mq ?_;iterate 4 refine gn ?_
            refine pt ?_;refine mq ?_;iterate 6 refine gn ?_
            refine pt ?_;refine mq ?_;iterate 6 refine gn ?_
            refine pt (nl ?_);exact jz ((),true) h [0]
           ·replace h:=aP (iY hb) h;refine gm ?_;refine gb (cm rfl) ?_;refine pf ?_;refine mq ?_;refine aH (s:=162) rfl (fun hb=>?_) (fun hb=>?_)
            ·replace h:=bD (qR hb) h;iterate 2 refine gn ?_
             refine pt ?_;refine mq ?_;iterate 2 refine gn ?_
             refine pt ?_;refine mq ?_;iterate 4 refine gn ?_
             refine pt ?_;refine mq ?_;iterate 6 refine gn ?_
             refine pt ?_;refine mq ?_;iterate 6 refine gn ?_
             refine pt (nl ?_);exact jz ((),true) h [0]
            ·replace h:=aP (iY hb) h;refine gm ?_;refine gb (cm rfl) ?_;refine pf ?_;refine mq ?_;refine aH (s:=166) rfl (fun hb=>?_) (fun hb=>?_)
             ·replace h:=bD (qR hb) h;iterate 2 refine gn ?_
              refine pt ?_;refine mq ?_;iterate 4 refine gn ?_
              refine pt ?_;refine mq ?_;iterate 6 refine gn ?_
              refine pt ?_;refine mq ?_;iterate 6 refine gn ?_
              refine pt (nl ?_);exact jz ((),true) h [0]
             ·replace h:=aP (iY hb) h;refine gm ?_;refine gb (cm rfl) ?_;refine pf ?_;refine mq ?_;refine aH (s:=170) rfl (fun hb=>?_) (fun hb=>?_)
              ·replace h:=bD (qR hb) h;iterate 4 refine gn ?_
               refine pt ?_;refine mq ?_;iterate 6 refine gn ?_
               refine pt ?_;refine mq ?_;iterate 6 refine gn ?_
               refine pt (nl ?_);exact jz ((),true) h [0]
              ·replace h:=aP (iY hb) h;refine gm ?_;obtain⟨Nu,OD,h⟩:=aa h;refine iJ rfl rfl rfl rfl rfl rfl (aj [] rfl rfl oz rfl (dT k Nu OD)) trivial ?_;obtain⟨Px,OC,h⟩:=aa h;refine gb (aj [.tmp 171,.tmp 172] rfl rfl yu rfl (di k NH.2.1 Nu Px OC)) ?_;refine ga (dA rfl) ?_;refine pf ?_;refine mq ?_;refine aH (s:=176) rfl (fun hb=>?_) (fun hb=>?_)
               ·replace h:=bD (sZ hb) h;iterate 6 refine gn ?_
                refine pt ?_;refine mq ?_;iterate 6 refine gn ?_
                refine pt (nl ?_);exact jz ((),true) h [0]
               ·replace h:=aP (nP hb) h;refine gm ?_;refine gc (aJ (t:=(.int .i64)) [(.const (.int .i64 (0)),_),(.const (.int .i64 (1)),_),(.const (.int .i64 (3)),_)] [0,1,3] rfl rfl cR (.cons rfl .int (.cons rfl .int (.cons rfl .int .nil))) rfl rfl) ?_;refine ga (aJ (t:=(.int .i64)) [(.const (.int .i64 (2)),_)] [2] rfl rfl cR (.cons rfl .int .nil) rfl rfl) ?_;refine gb (aJ (t:=(.slice (.int .i64))) [(.tmp 178,_),(.tmp 179,_)] [[0,1,3],[2]] rfl rfl lh (.cons rfl .rep (.cons rfl .rep .nil)) rfl rfl) ?_;obtain⟨Po,OB,h⟩:=aa h;refine gb (aj [.tmp 177,.tmp 180] rfl rfl yu rfl (di k NE.1 [[0,1,3],[2]] Po OB)) ?_;refine ga (dA rfl) ?_;refine pf ?_;refine mq ?_;refine aH (s:=184) rfl (fun hb=>?_) (fun hb=>?_)
                ·replace h:=bD (sZ hb) h;iterate 6 refine gn ?_
                 refine pt (nl ?_);exact jz ((),true) h [0]
                ·replace h:=aP (nP hb) h;refine gm ?_;refine gc (aJ (t:=(.int .i64)) [(.const (.int .i64 (1)),_),(.const (.int .i64 (3)),_),(.const (.int .i64 (0)),_)] [1,3,0] rfl rfl cR (.cons rfl .int (.cons rfl .int (.cons rfl .int .nil))) rfl rfl) ?_;refine ga (aJ (t:=(.int .i64)) [(.const (.int .i64 (2)),_)] [2] rfl rfl cR (.cons rfl .int .nil) rfl rfl) ?_;refine gb (aJ (t:=(.slice (.int .i64))) [(.tmp 186,_),(.tmp 187,_)] [[1,3,0],[2]] rfl rfl lh (.cons rfl .rep (.cons rfl .rep .nil)) rfl rfl) ?_;obtain⟨Nr,OA,h⟩:=aa h;refine gb (aj [.tmp 185,.tmp 188] rfl rfl yu rfl (di k NA.1 [[1,3,0],[2]] Nr OA)) ?_;refine ga (dA rfl) ?_;refine pf (nl ?_);exact jz ((), !Nr) h [0]
    ·refine cv h (fun h=>?_) (fun h=>?_)
     ·refine sr (cq (nt (rx ?_)));cases h;exact aC () [_] 1 ⟨rfl,trivial⟩ rfl
     ·refine sk (sr ?_);obtain⟨Nq,Oz,h⟩:=aa h;refine ja (aK (N:=[(.const (.slice none 0 0),.eq (.slice none 0 0))]) (aj [.const (.slice none 0 0)] rfl rfl io rfl (be k ([]:(List Int)) Nq Oz)) fun _ _ _ hn=>⟨(bb (t:=(.slice (.int .i64))) (x:=([]:(List Int))) .nil rfl rfl hn.1),trivial⟩) ?_;obtain⟨Np,Oy,h⟩:=aa h;refine ax rfl (aj [] rfl rfl JH rfl (wE k Np Oy)) trivial ?_;obtain⟨Pn,Ox,h⟩:=aa h;refine kb (cP [.tmp 193,.tmp 194] rfl rfl HH rfl (jy k Nq Np Pn Ox)) ?_;refine mq ?_;refine xr ?_;refine xr ?_;refine aq ?_;refine aq (nt (sr ?_));refine ja (aJ (t:=(.int .i64)) [(.const (.int .i64 (5)),_)] [5] rfl rfl cR (.cons rfl .int .nil) rfl rfl) ?_;obtain⟨Nn,Ov,h⟩:=aa h;refine ja (aj [.tmp 199] rfl rfl io rfl (be k [5] Nn Ov)) ?_;refine ax rfl (aJ (t:=(.int .i64)) [(.const (.int .i64 (2)),_),(.const (.int .i64 (1)),_),(.const (.int .i64 (0)),_),(.const (.int .i64 (3)),_)] [2,1,0,3] rfl rfl cR (.cons rfl .int (.cons rfl .int (.cons rfl .int (.cons rfl .int .nil)))) rfl rfl) ⟨rfl,rfl,rfl,rfl,trivial⟩ ?_;refine ja (aJ (t:=(.slice (.int .i64))) [(.tmp 201,_)] [[2,1,0,3]] rfl rfl lh (.cons rfl .rep .nil) rfl rfl) ?_;obtain⟨Pm,Ou,h⟩:=aa h;refine kb (cP [.tmp 200,.tmp 202] rfl rfl HH rfl (jy k Nn [[2,1,0,3]] Pm Ou)) ?_;refine mq ?_;refine xr ?_;refine xr ?_;refine aq ?_;refine aq (nt (sr ?_));obtain⟨Nl,Ot,h⟩:=aa h;refine ja (aK (N:=[(.const (.slice none 0 0),.eq (.slice none 0 0))]) (aj [.const (.slice none 0 0)] rfl rfl io rfl (be k ([]:(List Int)) Nl Ot)) fun _ _ _ hn=>⟨(bb (t:=(.slice (.int .i64))) (x:=([]:(List Int))) .nil rfl rfl hn.1),trivial⟩) ?_;obtain⟨Nk,Oq,h⟩:=aa h;refine ax rfl (aj [] rfl rfl oz rfl (dT k Nk Oq)) trivial ?_;obtain⟨Nj,Oo,h⟩:=aa h;refine kb (aj [.tmp 207,.tmp 208] rfl rfl LN rfl (uj k Nl Nk Nj Oo)) ?_;refine mq ?_;refine xr ?_;refine xr ?_;refine aq ?_;refine aq (nt (sr ?_));obtain⟨Ni,On,h⟩:=aa h;refine ja (aK (N:=[(.const (.slice none 0 0),.eq (.slice none 0 0))]) (aj [.const (.slice none 0 0)] rfl rfl io rfl (be k ([]:(List Int)) Ni On)) fun _ _ _ hn=>⟨(bb (t:=(.slice (.int .i64))) (x:=([]:(List Int))) .nil rfl rfl hn.1),trivial⟩) ?_;obtain⟨Pl,Om,h⟩:=aa h;refine ja (cP [.tmp 213] rfl rfl LO rfl (uk k Ni Pl Om)) ?_;refine mq ?_;refine xr ?_;refine xr ?_;refine aq ?_;refine aq (nt (sr ?_));obtain⟨Nh,Ol,h⟩:=aa h;refine ja (aK (N:=[(.const (.slice none 0 0),.eq (.slice none 0 0))]) (aj [.const (.slice none 0 0)] rfl rfl io rfl (be k ([]:(List Int)) Nh Ol)) fun _ _ _ hn=>⟨(bb (t:=(.slice (.int .i64))) (x:=([]:(List Int))) .nil rfl rfl hn.1),trivial⟩) ?_;obtain⟨O,Oj,h⟩:=aa h;refine ja (cP [.tmp 218] rfl rfl JI rfl (rJ k Nh O Oj)) ?_;refine mq ?_;refine xr ?_;refine xr ?_;refine xr ?_;refine aq ?_;refine aq ?_;refine aq (nt (sr ?_));refine ja (aJ (t:=(.int .i64)) [(.const (.int .i64 (5)),_)] [5] rfl rfl cR (.cons rfl .int .nil) rfl rfl) ?_;obtain⟨Nc,Oi,h⟩:=aa h;refine ja (aj [.tmp 224] rfl rfl io rfl (be k [5] Nc Oi)) ?_;obtain⟨Pj,Oh,h⟩:=aa h;refine ja (cP [.tmp 225] rfl rfl JI rfl (rJ k Nc Pj Oh)) ?_;refine mq ?_;refine xr ?_;refine xr ?_;refine xr ?_;refine aq ?_;refine aq ?_;refine aq ?_
      refine nt (ag (a9 (Z:=Unit) (α:=Bool) (fun U D=>[(283,.eq (.bool D))]) (fun U D=>[.inv 0 (dP)]) h (fun K h=>?_) (fun U D h=>?_)))
      ·refine ab (mq ?_);refine jb (cm rfl) ?_;refine mq ?_;refine aH (s:=232) rfl (fun hb=>?_) (fun hb=>?_)
       ·replace h:=bD (qR hb) h;iterate 2 refine gn ?_
        refine pt ?_;refine mq ?_;iterate 2 refine gn ?_
        refine pt ?_;refine mq ?_;iterate 2 refine gn ?_
        refine pt ?_;refine mq ?_;iterate 2 refine gn ?_
        refine pt ?_;refine mq ?_;iterate 2 refine gn ?_
        refine pt ?_;refine mq ?_;iterate 2 refine gn ?_
        refine pt ?_;refine mq ?_;iterate 2 refine gn ?_
        refine pt ?_;refine mq ?_;iterate 2 refine gn ?_
        refine pt ?_;refine mq ?_;iterate 4 refine gn ?_
        refine pt ?_;refine mq ?_;iterate 4 refine gn ?_
        refine pt ?_;refine mq ?_;iterate 6 refine gn ?_
        refine pt (nl ?_);exact jz ((),true) h [0]
       ·replace h:=aP (iY hb) h;refine gm ?_;refine gb (cm rfl) ?_;refine pf ?_;refine mq ?_;refine aH (s:=236) rfl (fun hb=>?_) (fun hb=>?_)
        ·replace h:=bD (qR hb) h;iterate 2 refine gn ?_
         refine pt ?_;refine mq ?_;iterate 2 refine gn ?_
         refine pt ?_;refine mq ?_;iterate 2 refine gn ?_
         refine pt ?_;refine mq ?_;iterate 2 refine gn ?_
         refine pt ?_;refine mq ?_;iterate 2 refine gn ?_
         refine pt ?_;refine mq ?_;iterate 2 refine gn ?_
         refine pt ?_;refine mq ?_;iterate 2 refine gn ?_
         refine pt ?_;refine mq ?_;iterate 4 refine gn ?_
         refine pt ?_;refine mq ?_;iterate 4 refine gn ?_
         refine pt ?_;refine mq ?_;iterate 6 refine gn ?_
         refine pt (nl ?_);exact jz ((),true) h [0]
        ·replace h:=aP (iY hb) h;refine gm ?_;refine gb (cm rfl) ?_;refine pf ?_;refine mq ?_;refine aH (s:=240) rfl (fun hb=>?_) (fun hb=>?_)
         ·replace h:=bD (qR hb) h;iterate 2 refine gn ?_
          refine pt ?_;refine mq ?_;iterate 2 refine gn ?_
          refine pt ?_;refine mq ?_;iterate 2 refine gn ?_
          refine pt ?_;refine mq ?_;iterate 2 refine gn ?_
          refine pt ?_;refine mq ?_;iterate 2 refine gn ?_
          refine pt ?_;refine mq ?_;iterate 2 refine gn ?_
          refine pt ?_;refine mq ?_;iterate 4 refine gn ?_
          refine pt ?_;refine mq ?_;iterate 4 refine gn ?_
          refine pt ?_;refine mq ?_;iterate 6 refine gn ?_
          refine pt (nl ?_);exact jz ((),true) h [0]
         ·replace h:=aP (iY hb) h;refine gm ?_;refine gb (cm rfl) ?_;refine pf ?_;refine mq ?_;refine aH (s:=244) rfl (fun hb=>?_) (fun hb=>?_)
          ·replace h:=bD (qR hb) h;iterate 2 refine gn ?_
           refine pt ?_;refine mq ?_;iterate 2 refine gn ?_
           refine pt ?_;refine mq ?_;iterate 2 refine gn ?_
           refine pt ?_;refine mq ?_;iterate 2 refine gn ?_
           refine pt ?_;refine mq ?_;iterate 2 refine gn ?_
           refine pt ?_;refine mq ?_;iterate 4 refine gn ?_
           refine pt ?_;refine mq ?_;iterate 4 refine gn ?_
           refine pt ?_;refine mq ?_;iterate 6 refine gn ?_
           refine pt (nl ?_);exact jz ((),true) h [0]
          ·replace h:=aP (iY hb) h;refine gm ?_;refine gb (cm rfl) ?_;refine pf ?_;refine mq ?_;refine aH (s:=248) rfl (fun hb=>?_) (fun hb=>?_)
           ·replace h:=bD (qR hb) h;iterate 2 refine gn ?_
            refine pt ?_;refine mq ?_;iterate 2 refine gn ?_
            refine pt ?_;refine mq ?_;iterate 2 refine gn ?_
            refine pt ?_;refine mq ?_;iterate 2 refine gn ?_
            refine pt ?_;refine mq ?_;iterate 4 refine gn ?_
            refine pt ?_;refine mq ?_;iterate 4 refine gn ?_
            refine pt ?_;refine mq ?_;iterate 6 refine gn ?_
            refine pt (nl ?_);exact jz ((),true) h [0]
           ·replace h:=aP (iY hb) h;refine gm ?_;refine gb (cm rfl) ?_;refine pf ?_;refine mq ?_;refine aH (s:=252) rfl (fun hb=>?_) (fun hb=>?_)
            ·replace h:=bD (qR hb) h;iterate 2 refine gn ?_
             refine pt ?_;refine mq ?_;iterate 2 refine gn ?_
             refine pt ?_;refine mq ?_;iterate 2 refine gn ?_
             refine pt ?_;refine mq ?_;iterate 4 refine gn ?_
             refine pt ?_;refine mq ?_;iterate 4 refine gn ?_
             refine pt ?_;refine mq ?_;iterate 6 refine gn ?_
             refine pt (nl ?_);exact jz ((),true) h [0]
            ·replace h:=aP (iY hb) h;refine gm ?_;refine gb (cm rfl) ?_;refine pf ?_;refine mq ?_;refine aH (s:=256) rfl (fun hb=>?_) (fun hb=>?_)
             ·replace h:=bD (qR hb) h;iterate 2 refine gn ?_
              refine pt ?_;refine mq ?_;iterate 2 refine gn ?_
              refine pt ?_;refine mq ?_;iterate 4 refine gn ?_
              refine pt ?_;refine mq ?_;iterate 4 refine gn ?_
              refine pt ?_;refine mq ?_;iterate 6 refine gn ?_
              refine pt (nl ?_);exact jz ((),true) h [0]
             ·replace h:=aP (iY hb) h;refine gm ?_;refine gb (cm rfl) ?_;refine pf ?_;refine mq ?_;refine aH (s:=260) rfl (fun hb=>?_) (fun hb=>?_)
              ·replace h:=bD (qR hb) h;iterate 2 refine gn ?_
               refine pt ?_;refine mq ?_;iterate 4 refine gn ?_
               refine pt ?_;refine mq ?_;iterate 4 refine gn ?_
               refine pt ?_;refine mq ?_;iterate 6 refine gn ?_
               refine pt (nl ?_);exact jz ((),true) h [0]
              ·replace h:=aP (iY hb) h;refine gm ?_;refine gb (cm rfl) ?_;refine pf ?_;refine mq ?_;refine aH (s:=264) rfl (fun hb=>?_) (fun hb=>?_)
               ·replace h:=bD (qR hb) h;iterate 4 refine gn ?_
                refine pt ?_;refine mq ?_;iterate 4 refine gn ?_
                refine pt ?_;refine mq ?_;iterate 6 refine gn ?_
                refine pt (nl ?_);exact jz ((),true) h [0]
               ·replace h:=aP (iY hb) h;refine gm ?_;refine iJ rfl rfl rfl rfl rfl rfl (aJ (t:=(.int .i64)) [(.const (.int .i64 (1)),_),(.const (.int .i64 (1)),_),(.const (.int .i64 (0)),_),(.const (.int .i64 (1)),_)] [1,1,0,1] rfl rfl cR (.cons rfl .int (.cons rfl .int (.cons rfl .int (.cons rfl .int .nil)))) rfl rfl) ⟨rfl,rfl,rfl,rfl,trivial⟩ ?_;obtain⟨Pi,Og,h⟩:=aa h;refine gb (aj [.tmp 265,.tmp 266] rfl rfl Ao rfl (ep k Nj.1 [1,1,0,1] Pi Og)) ?_;refine ga (dA rfl) ?_;refine pf ?_;refine mq ?_;refine aH (s:=270) rfl (fun hb=>?_) (fun hb=>?_)
                ·replace h:=bD (sZ hb) h;iterate 4 refine gn ?_
                 refine pt ?_;refine mq ?_;iterate 6 refine gn ?_
                 refine pt (nl ?_);exact jz ((),true) h [0]
                ·replace h:=aP (nP hb) h;refine gm ?_;refine gb (aJ (t:=(.int .i64)) [(.const (.int .i64 (0)),_),(.const (.int .i64 (1)),_)] [0,1] rfl rfl cR (.cons rfl .int (.cons rfl .int .nil)) rfl rfl) ?_;obtain⟨Pg,Of,h⟩:=aa h;refine gb (aj [.tmp 271,.tmp 272] rfl rfl Ao rfl (ep k O.1 [0,1] Pg Of)) ?_;refine ga (dA rfl) ?_;refine pf ?_;refine mq ?_;refine aH (s:=276) rfl (fun hb=>?_) (fun hb=>?_)
                 ·replace h:=bD (sZ hb) h;iterate 6 refine gn ?_
                  refine pt (nl ?_);exact jz ((),true) h [0]
                 ·replace h:=aP (nP hb) h;refine gm ?_;refine gb (aJ (t:=(.int .i64)) [(.const (.int .i64 (2)),_),(.const (.int .i64 (0)),_)] [2,0] rfl rfl cR (.cons rfl .int (.cons rfl .int .nil)) rfl rfl) ?_;refine gb (aJ (t:=(.int .i64)) [(.const (.int .i64 (1)),_),(.const (.int .i64 (3)),_)] [1,3] rfl rfl cR (.cons rfl .int (.cons rfl .int .nil)) rfl rfl) ?_;refine gb (aJ (t:=(.slice (.int .i64))) [(.tmp 278,_),(.tmp 279,_)] [[2,0],[1,3]] rfl rfl lh (.cons rfl .rep (.cons rfl .rep .nil)) rfl rfl) ?_;obtain⟨Nb,Oe,h⟩:=aa h;refine gb (aj [.tmp 277,.tmp 280] rfl rfl yu rfl (di k O.2.1 [[2,0],[1,3]] Nb Oe)) ?_;refine ga (dA rfl) ?_;refine pf (nl ?_);exact jz ((), !Nb) h [0]
      ·refine cv h (fun h=>?_) (fun h=>?_)
       ·refine sr (cq (nt (rx ?_)));cases h;exact aC () [_] 1 ⟨rfl,trivial⟩ rfl
       ·refine sk (sr ?_);obtain⟨Na,Oc,h⟩:=aa h;refine ja (aK (N:=[(.const (.slice none 0 0),.eq (.slice none 0 0))]) (aj [.const (.slice none 0 0)] rfl rfl io rfl (be k ([]:(List Int)) Na Oc)) fun _ _ _ hn=>⟨(bb (t:=(.slice (.int .i64))) (x:=([]:(List Int))) .nil rfl rfl hn.1),trivial⟩) ?_;obtain⟨M9,Ob,h⟩:=aa h;refine ax rfl (aj [] rfl rfl oz rfl (dT k M9 Ob)) trivial ?_;obtain⟨Pe,Oa,h⟩:=aa h;refine kb (cP [.tmp 285,.tmp 286] rfl rfl JM rfl (qJ k Na M9 Pe Oa)) ?_;refine mq ?_;refine xr ?_;refine xr ?_;refine xr ?_;refine xr ?_;refine aq (nt (sr ?_));obtain⟨M8,N9,h⟩:=aa h;refine ja (aK (N:=[(.const (.slice none 0 0),.eq (.slice none 0 0))]) (aj [.const (.slice none 0 0)] rfl rfl io rfl (be k ([]:(List Int)) M8 N9)) fun _ _ _ hn=>⟨(bb (t:=(.slice (.int .i64))) (x:=([]:(List Int))) .nil rfl rfl hn.1),trivial⟩) ?_;obtain⟨M7,N8,h⟩:=aa h;refine ax rfl (aj [] rfl rfl oz rfl (dT k M7 N8)) trivial ?_;obtain⟨M6,N7,h⟩:=aa h;refine bL rfl rfl rfl (cP [.tmp 293,.tmp 294,.const (.int .i64 (0)),.const (.int .i64 (3))] rfl rfl JL rfl (nO k M8 M7 0 3 M6 N7)) ⟨rfl,rfl,rfl,rfl,trivial⟩ ?_;refine mq ?_;refine xr ?_;refine xr ?_;refine xr ?_;refine aq ?_;refine aq ?_;refine aq (nt (sr ?_));obtain⟨M5,N6,h⟩:=aa h;refine ja (aK (N:=[(.const (.slice none 0 0),.eq (.slice none 0 0))]) (aj [.const (.slice none 0 0)] rfl rfl io rfl (be k ([]:(List Int)) M5 N6)) fun _ _ _ hn=>⟨(bb (t:=(.slice (.int .i64))) (x:=([]:(List Int))) .nil rfl rfl hn.1),trivial⟩) ?_;obtain⟨M4,N5,h⟩:=aa h;refine kb (aj [.tmp 300,.const (.string ⟨#[98,97,100,47,99]⟩)] rfl rfl E8 rfl (kL k M5 (.string ⟨#[98,97,100,47,99]⟩) M4 N5)) ?_;refine mq ?_;refine xr ?_;refine xr ?_;refine aq ?_;refine aq (nt (sr ?_));obtain⟨MZ,N4,h⟩:=aa h;refine ja (aK (N:=[(.const (.slice none 0 0),.eq (.slice none 0 0))]) (aj [.const (.slice none 0 0)] rfl rfl io rfl (be k ([]:(List Int)) MZ N4)) fun _ _ _ hn=>⟨(bb (t:=(.slice (.int .i64))) (x:=([]:(List Int))) .nil rfl rfl hn.1),trivial⟩) ?_;obtain⟨O9,N3,h⟩:=aa h;refine kb (aj [.tmp 305,.const (.string ⟨#[98,97,100]⟩)] rfl rfl E8 rfl (kL k MZ (.string ⟨#[98,97,100]⟩) O9 N3)) ?_;refine mq ?_;refine xr ?_;refine xr ?_;refine aq (nt (sr ?_));obtain⟨MY,NZ,h⟩:=aa h;refine ja (aK (N:=[(.const (.slice none 0 0),.eq (.slice none 0 0))]) (aj [.const (.slice none 0 0)] rfl rfl io rfl (be k ([]:(List Int)) MY NZ)) fun _ _ _ hn=>⟨(bb (t:=(.slice (.int .i64))) (x:=([]:(List Int))) .nil rfl rfl hn.1),trivial⟩) ?_;obtain⟨O8,NY,h⟩:=aa h;refine kb (aj [.tmp 310,.const (.string ⟨#[98,97,100,47,67]⟩)] rfl rfl E8 rfl (kL k MY (.string ⟨#[98,97,100,47,67]⟩) O8 NY)) ?_;refine mq ?_;refine xr ?_;refine xr ?_;refine aq (nt (sr ?_));obtain⟨MX,NX,h⟩:=aa h;refine ja (aK (N:=[(.const (.slice none 0 0),.eq (.slice none 0 0))]) (aj [.const (.slice none 0 0)] rfl rfl io rfl (be k ([]:(List Int)) MX NX)) fun _ _ _ hn=>⟨(bb (t:=(.slice (.int .i64))) (x:=([]:(List Int))) .nil rfl rfl hn.1),trivial⟩) ?_;obtain⟨O7,NW,h⟩:=aa h;refine kb (aj [.tmp 315,.const (.string ⟨#[97,98,100,47,99,99]⟩)] rfl rfl E8 rfl (kL k MX (.string ⟨#[97,98,100,47,99,99]⟩) O7 NW)) ?_;refine mq ?_;refine xr ?_;refine xr ?_;refine aq (nt ?_);refine a9 (Z:=Unit) (α:=Bool) (fun Q y=>[(0,.eq (.bool y))]) (fun Q y=>[.inv 0 (dP)]) h (fun K h=>?_) (fun Q y h=>?_)
        ·refine ab (mq ?_);refine jb (du rfl) ?_;refine mq ?_;refine aH (s:=321) rfl (fun hb=>?_) (fun hb=>?_)
         ·replace h:=bD (ln hb) h;refine gm ?_;refine gb (du rfl) ?_;refine pt ?_;refine mq ?_;refine aH (s:=325) rfl (fun hb=>?_) (fun hb=>?_)
          ·replace h:=bD (ln hb) h;refine gm ?_;refine gb (du rfl) ?_;refine pt ?_;refine mq ?_;refine aH (s:=329) rfl (fun hb=>?_) (fun hb=>?_)
           ·replace h:=bD (ln hb) h;refine gm ?_;refine gb (du rfl) ?_;refine pt ?_;refine mq ?_;refine aH (s:=333) rfl (fun hb=>?_) (fun hb=>?_)
            ·replace h:=bD (ln hb) h;refine gm ?_;refine gb (du rfl) ?_;refine pt ?_;refine mq ?_;refine aH (s:=337) rfl (fun hb=>?_) (fun hb=>?_)
             ·replace h:=bD (ln hb) h;refine gm ?_;refine gb (du rfl) ?_;refine pt ?_;refine mq ?_;refine aH (s:=341) rfl (fun hb=>?_) (fun hb=>?_)
              ·replace h:=bD (ln hb) h;refine gm ?_;refine gb (du rfl) ?_;refine pt ?_;refine mq ?_;refine aH (s:=345) rfl (fun hb=>?_) (fun hb=>?_)
               ·replace h:=bD (ln hb) h;refine gm ?_;refine gc (aJ (t:=(.int .i64)) [(.const (.int .i64 (0)),_),(.const (.int .i64 (1)),_),(.const (.int .i64 (3)),_)] [0,1,3] rfl rfl cR (.cons rfl .int (.cons rfl .int (.cons rfl .int .nil))) rfl rfl) ?_;obtain⟨O6,NV,h⟩:=aa h;refine gb (aj [.tmp 346,.tmp 347] rfl rfl Ao rfl (ep k M6.1 [0,1,3] O6 NV)) ?_;refine pt ?_;refine mq ?_;refine aH (s:=350) rfl (fun hb=>?_) (fun hb=>?_)
                ·replace h:=bD (xB hb) h;refine gm ?_;obtain⟨se,NU,h⟩:=aa h;refine iJ rfl rfl rfl rfl rfl rfl (aj [] rfl rfl oz rfl (dT k se NU)) trivial ?_;obtain⟨qt,NT,h⟩:=aa h;refine gb (aj [.tmp 351,.tmp 352] rfl rfl yu rfl (di k M4.1 se qt NT)) ?_;refine pt ?_;refine aq (nl ?_);exact jz ((),qt) h [0]
                ·replace h:=aP (xC hb) h;iterate 3 refine gn ?_
                 refine pf ?_;refine aq (nl ?_);exact jz ((),false) h [0]
               ·replace h:=aP (kV hb) h;iterate 3 refine gn ?_
                refine pf ?_;refine mq ?_;iterate 3 refine gn ?_
                refine pf ?_;refine aq (nl ?_);exact jz ((),false) h [0]
              ·replace h:=aP (kV hb) h;iterate 2 refine gn ?_
               refine pf ?_;refine mq ?_;iterate 3 refine gn ?_
               refine pf ?_;refine mq ?_;iterate 3 refine gn ?_
               refine pf ?_;refine aq (nl ?_);exact jz ((),false) h [0]
             ·replace h:=aP (kV hb) h;iterate 2 refine gn ?_
              refine pf ?_;refine mq ?_;iterate 2 refine gn ?_
              refine pf ?_;refine mq ?_;iterate 3 refine gn ?_
              refine pf ?_;refine mq ?_;iterate 3 refine gn ?_
              refine pf ?_;refine aq (nl ?_);exact jz ((),false) h [0]
            ·replace h:=aP (kV hb) h;iterate 2 refine gn ?_
             refine pf ?_;refine mq ?_;iterate 2 refine gn ?_
             refine pf ?_;refine mq ?_;iterate 2 refine gn ?_
             refine pf ?_;refine mq ?_;iterate 3 refine gn ?_
             refine pf ?_;refine mq ?_;iterate 3 refine gn ?_
             refine pf ?_;refine aq (nl ?_);exact jz ((),false) h [0]
           ·replace h:=aP (kV hb) h;iterate 2 refine gn ?_
            refine pf ?_;refine mq ?_;iterate 2 refine gn ?_
            refine pf ?_;refine mq ?_;iterate 2 refine gn ?_
            refine pf ?_;refine mq ?_;iterate 2 refine gn ?_
            refine pf ?_;refine mq ?_;iterate 3 refine gn ?_
            refine pf ?_;refine mq ?_;iterate 3 refine gn ?_
            refine pf ?_;refine aq (nl ?_);exact jz ((),false) h [0]
          ·replace h:=aP (kV hb) h;iterate 2 refine gn ?_
           refine pf ?_;refine mq ?_;iterate 2 refine gn ?_
           refine pf ?_;refine mq ?_;iterate 2 refine gn ?_
           refine pf ?_;refine mq ?_;iterate 2 refine gn ?_
           refine pf ?_;refine mq ?_;iterate 2 refine gn ?_
           refine pf ?_;refine mq ?_;iterate 3 refine gn ?_
           refine pf ?_;refine mq ?_;iterate 3 refine gn ?_
           refine pf ?_;refine aq (nl ?_);exact jz ((),false) h [0]
         ·replace h:=aP (kV hb) h;iterate 2 refine gn ?_
          refine pf ?_;refine mq ?_;iterate 2 refine gn ?_
          refine pf ?_;refine mq ?_;iterate 2 refine gn ?_
          refine pf ?_;refine mq ?_;iterate 2 refine gn ?_
          refine pf ?_;refine mq ?_;iterate 2 refine gn ?_
          refine pf ?_;refine mq ?_;iterate 2 refine gn ?_
          refine pf ?_;refine mq ?_;iterate 3 refine gn ?_
          refine pf ?_;refine mq ?_;iterate 3 refine gn ?_
          refine pf ?_;refine aq (nl ?_);exact jz ((),false) h [0]
        ·refine aA ?_;cases h;exact aC () [_] 1 ⟨rfl,trivial⟩ rfl
end Go.Proofs.YtcnpijmfgfnpiaaGreatDoor
