import Derived.Test.YtcnpijmfgfnpiaaGreatDoorXXB11
import Derived.Test.YtcnpijmfgfnpiaaGreatDoorXXB9
import Derived.Test.YtcnpijmfgfnpiaaGreatDoorXXB10
import Derived.Test.YtcnpijmfgfnpiaaGreatDoorXXB5
import Derived.Test.YtcnpijmfgfnpiaaGreatDoorXXB6
set_option linter.unusedSimpArgs false
set_option linter.unusedVariables false
set_option maxRecDepth 4000
set_option maxHeartbeats 1000000
namespace Go.Proofs.YtcnpijmfgfnpiaaGreatDoor
open K Go Go.Proofs
def cK(k:Nat)(a0:bK)(a1:(List (List Int))):Option Int:=
 (jL k a0).bind fun r2=>
 if¬(r2=0) then(some r2) else((kV k a0 a1).bind fun r4=>
 (QB r4).bind fun q5=>
 if q5.isSome=true then(some (q5.getD 0)) else(some 0))
theorem fP(k:Nat)(a0:bK)(a1:(List (List Int)))(r:Int)(h:cK k a0 a1=some r):
 cd Tryz.prog 35 [.rep aG a0,.rep (.slice (.slice (.int .i64))) a1] [.inv 0 (ig)] (fun _:Unit=>(bu [I r],[.inv 0 (ig)])):=by
 unfold cK at h
 replace h:=a8 h
 refine cd.of 19 Tryz.func35 rfl Tryz.ntmps35 rfl fun S w0=>?_
 refine sr ?_
 refine bx fun b1=>?_
 refine cq ?_
 refine nt ?_
 refine ah ?_
 refine sr ?_
 refine lo i8 ?_
 obtain⟨r2,e,h⟩:=ab h
 have l:=ng k a0 r2 e
 refine ja (an [.tmp 7] rfl rfl MS rfl l) ?_
 refine aq ?_
 refine nt ?_
 refine sr ?_
 refine mq ?_
 refine jb (iN rfl) ?_
 refine nt ?_
 refine cn h (fun h=>?_) (fun h=>?_)
 ·
  refine sr (mq ?_);refine aq (nt (rx ?_));refine bM (SE.fin (Γ':=[(4,_)]) [1,0] ⟨rfl,trivial⟩ rfl) ?_;cases h;exact aI () [_] 1 ⟨rfl,trivial⟩ rfl
 ·
  refine sk (sr (ay rfl rfl rfl (aP rfl ua Qd) trivial fun b3=>?_));refine nt (ah (sr (fr 1 ?_)));refine lo i8 ?_;refine mq ?_;obtain⟨r4,c,h⟩:=ab h;refine jb (an [.tmp 12,.tmp 13] rfl rfl Re rfl (qQ k a0 a1 r4 c)) ?_;refine ja (F9 rfl RF) ?_;obtain⟨q5,j,h⟩:=ab h;refine fr 2 ?_;refine fr 2 ?_;refine bB (Δ:=[_,_]) (F:=_) (fun _ _ _=>ar rfl _) rfl rfl (an [.tmp 14,.tmp 15] rfl rfl Pg rfl (P5 j)) ⟨rfl,rfl,trivial⟩ fun _=>?_;refine nt (cv h (fun h=>?_) (fun h=>?_))
  ·refine sr (fl Jy ?_);refine lo QN ?_;refine aq (nt (rx ?_));refine bM (SE.fin (Γ':=[(4,_)]) [1,0,2] ⟨rfl,trivial⟩ rfl) ?_;cases h;exact aI () [_] 1 ⟨rfl,trivial⟩ rfl
  ·refine sk (sr (cq (nt (aC ?_))));refine bM (SE.fin (Γ':=[(4,_)]) [1,0,2] ⟨rfl,trivial⟩ rfl) ?_;cases h;exact aI () [_] 1 ⟨rfl,trivial⟩ rfl
def nc(k:Nat)(a0:bK)(r7:Int×(List (List Int))):Nat→((List Int)×Int)→Option (List Int)
 |0,_=>none
 |n+1,c=>
  if c.2 < (a0.2.1.length:Int) then((((dM k r7.1 c.2).bind fun j=>
  if j=true then((eE (bX (List.length c.1+List.length [c.2]))).bind fun _=>
  some (c.1++[c.2])) else(some c.1)):Option ((List Int))).bind fun h=>
  (ck (c.2+1)).bind fun e=>
  nc k a0 r7 n (h,e)) else(some c.1)
def xj(k:Nat)(a0:bK)(a1:(List (List Int)))(a2:Int):Option ((List Int)×(List (List Int))×Int):=
 (cK k a0 a1).bind fun r2=>
 if¬(r2=0) then(some ([],[],r2)) else((ck (a0.1 - 1)).bind fun x3=>
 (dY k a2 0 x3).bind fun r4=>
 if¬(r4=true) then(some ([],[],3)) else((dr k a1).bind fun r6=>
 (kJ k (a0,()) r6 a2).bind fun r7=>
 ((nc k a0 r7 k (([]:(List Int)),0)):Option ((List Int))).bind fun x9=>
 (dk k (a0,()) r7.2).bind fun c=>
 some (x9,c,0)))
theorem AS(k:Nat)(a0:bK)(a1:(List (List Int)))(a2:Int)(r:(List Int)×(List (List Int))×Int)(h:xj k a0 a1 a2=some r):
 cd Tryz.prog 31 [.rep aG a0,.rep (.slice (.slice (.int .i64))) a1,I a2] [.inv 0 (ig)] (fun _:Unit=>(bu [Ri r.1,.rep (.slice (.slice (.int .i64))) r.2.1,I r.2.2],[.inv 0 (ig)])):=by
 unfold xj at h
 replace h:=a8 h
 refine cd.of 55 Tryz.func31 rfl Tryz.ntmps31 rfl fun S w0=>?_
 refine sr ?_
 refine bx fun b1=>?_
 refine cq ?_
 refine cq ?_
 refine cq ?_
 refine nt ?_
 refine ah ?_
 refine sr ?_
 refine lo i8 ?_
 refine mq ?_
 obtain⟨r2,ac,h⟩:=ab h
 have mc:=fP k a0 a1 r2 ac
 refine fr 1 ?_
 refine kb (an [.tmp 15,.tmp 16] rfl rfl MR rfl mc) ?_
 refine aq ?_
 refine nt ?_
 refine sr ?_
 refine mq ?_
 refine jb (iN rfl) ?_
 refine nt ?_
 refine cn h (fun h=>?_) (fun h=>?_)
 ·
  refine sr (mq ?_);refine cq ?_;refine cq ?_;refine aq (nt (rx ?_));refine bM (jY (t:=(.slice (.int .i64))) (x:=[]) 6 rfl .nil rfl rfl) ?_;refine bM (jY (t:=(.slice (.slice (.int .i64)))) (x:=[]) 7 rfl .nil rfl rfl) ?_;cases h;exact aI () [_,_,_] 1 ⟨rfl,rfl,rfl,trivial⟩ rfl
 ·
  refine sk (ah (sr (mq ?_)));refine fl je ?_;refine fr 1 ?_;refine lo dE ?_;obtain⟨x3,Q,h⟩:=ab h;refine jb (fN rfl Q) ?_;obtain⟨r4,Y,h⟩:=ab h;refine jc (an [.tmp 21,.const (.int .i64 (0)),.tmp 24] rfl rfl zT rfl (eG k a2 0 x3 r4 Y)) ?_;refine ja (gQ rfl) ?_;refine nt (cw h (fun h=>?_) (fun h=>?_))
  ·refine sr (cq ?_);refine cq ?_;refine cq (nt (rx ?_));refine bM (jY (t:=(.slice (.int .i64))) (x:=[]) 6 rfl .nil rfl rfl) ?_;refine bM (jY (t:=(.slice (.slice (.int .i64)))) (x:=[]) 7 rfl .nil rfl rfl) ?_;refine bM (SE.fin (Γ':=[(6,_),(7,_),(8,_)]) [1,0] ⟨rfl,rfl,rfl,trivial⟩ rfl) ?_;cases h;exact aI () [_,_,_] 1 ⟨rfl,rfl,rfl,trivial⟩ rfl
  ·refine sk (sr (lo i8 ?_));refine ay rfl rfl rfl (an [.tmp 27] rfl rfl HA rfl (fS a0)) ⟨rfl,trivial⟩ fun z5=>?_;refine cI (jX (a9 k a0) kZ) ?_;refine aq (nt (sr ?_));iterate 2 refine mq ?_
   obtain⟨r6,X,h⟩:=ab h;refine ja (an [.tmp 31] rfl rfl BK rfl (dN k a1 r6 X)) ?_;refine mq ?_;obtain⟨r7,U,h⟩:=ab h;refine jc (cU (N:=[(.tmp 30,.at ap (a0,(.map (some z5)))),(.tmp 32,.rep (.arr 3 (.arr 5 (.int .i64))) r6),(.tmp 33,I a2)]) (an [.tmp 30,.tmp 32,.tmp 33] rfl rfl Pi rfl (nN k (a0,()) r6 a2 r7 U)) fun _ _ _ hn=>⟨(oW hn.1),hn.2.1,hn.2.2.1,trivial⟩) ?_;refine mq ?_;refine xr ?_;refine xr ?_;refine ay rfl rfl rfl (aP rfl li lM) trivial fun b8=>?_;refine aq ?_;refine aZ rfl rfl (aR rfl cG rfl rfl rfl) ⟨rfl,rfl,trivial⟩ ?_;refine nt (sr (cq (nt ?_)));refine aN (Z:=Value) (α:=(List Int)) (fun l x9=>[(10,.at ap (a0,(.map (some z5)))),(12,Pt b8),(13,.eq l)]) (fun l x9=>[.obj b8 107 (.rep (.arr 3 (.arr 5 (.int .i64))) r7.2),.sl l 3 (.int .i64) x9,.inv 0 (ig),.inv z5 (a9 k a0)]) h (fun K h=>?_) (fun l x9 h=>?_)
   ·refine sr (fl ir ?_);refine fr 2 ?_;refine lo ot ?_;refine ol Aj ?_;refine dX rfl ?_;refine nt (aj (fh (SE.nil 3 (.int .i64)) ?_));refine aK (fun e c=>[(10,.at ap (a0,(.map (some z5)))),(11,.eq (.int .u8 r7.1)),(12,Pt b8),(13,.eq e),(39,I (a0.2.1.length:Int)),(40,I c.2)]) (fun e c=>[.obj b8 107 (.rep (.arr 3 (.arr 5 (.int .i64))) r7.2),.sl e 3 (.int .i64) c.1,.inv 0 (ig),.inv z5 (a9 k a0)]) (nc k a0 r7) k (.slice none 0 0) (([]:(List Int)),0) (fun _=>rfl) h (SE.fin [2,0,4,3] ⟨rfl,rfl,rfl,rfl,rfl,rfl,trivial⟩ rfl) (fun n e c h=>?_);unfold nc at h;refine sr (jb (bv rfl) ?_);refine nt (ah (ci h (fun h=>?_) (fun h=>?_)))
    ·refine sk (aN (Z:=Value) (α:=(List Int)) (fun j s=>[(10,.at ap (a0,(.map (some z5)))),(11,.eq (.int .u8 r7.1)),(12,Pt b8),(13,.eq j),(39,I (a0.2.1.length:Int)),(40,I c.2)]) (fun j s=>[.obj b8 107 (.rep (.arr 3 (.arr 5 (.int .i64))) r7.2),.sl j 3 (.int .i64) s,.inv 0 (ig),.inv z5 (a9 k a0)]) h (fun K h=>?_) (fun j s h=>?_))
     ·refine aj (sr (mq ?_));refine aq (nt (sr ?_));iterate 2 refine mq ?_
      obtain⟨O,E,h⟩:=ab h;refine jb (an [.tmp 43,.tmp 44] rfl rfl JH rfl (ij k r7.1 c.2 O E)) ?_;refine nt (cv h (fun h=>?_) (fun h=>?_))
      ·refine aa ?_;iterate 2 refine mq ?_
       refine ja (bF (t:=(.int .i64)) [(.tmp 47,_)] [c.2] rfl rfl fF (.cons rfl .int .nil) rfl rfl) ?_;obtain⟨u16,y,h⟩:=ab h;refine fr 1 ?_;refine dQ rfl rfl rfl (cp rfl rfl fF (aE y)) ⟨rfl,rfl,trivial⟩ fun J=>?_;refine aq (ao (bn ?_));exact jz (J,c.1++[c.2]) h [1,0,2,3]
      ·refine aU (bn ?_);exact jz (e,c.1) h [0,1,2,3]
     ·refine aa ?_;obtain⟨F,u,h⟩:=ab h;refine jb (bg rfl u) ?_;refine mq (nl ?_);exact jz (j,(s,F)) h [0,1,2,3]
    ·refine xa ?_;exact jz (e,c.1) h [0,1,2,3]
   ·refine sr ?_;iterate 2 refine mq ?_
    refine lo cG ?_;obtain⟨M,D,h⟩:=ab h;refine ay rfl rfl rfl (cU (N:=[(.tmp 52,.at ap (a0,(.map (some z5)))),(.tmp 53,.rep (.arr 3 (.arr 5 (.int .i64))) r7.2)]) (an [.tmp 52,.tmp 53] rfl rfl JG rfl (g8 k (a0,()) r7.2 M D)) fun _ _ _ hn=>⟨(oW hn.1),hn.2.1,trivial⟩) ⟨rfl,rfl,trivial⟩ fun pp=>?_;refine aq ?_;refine aq ?_;refine cq (nt (aC ?_));refine aY 2 rfl ?_;refine bM (gG [6,13,51] ⟨rfl,rfl,rfl,trivial⟩) ?_;refine bM (gG [7,54] ⟨rfl,rfl,trivial⟩) ?_;refine bM (SE.fin (Γ':=[(6,_),(7,_),(8,_)]) [1,0,2] ⟨rfl,rfl,rfl,trivial⟩ rfl) ?_;cases h;exact aI () [_,_,_] 1 ⟨rfl,rfl,rfl,trivial⟩ rfl
theorem g9(k:Nat)(a0:bK)(z_a0:Nat)(a1:(List (List Int)))(r:Int)(h:bH k a0 a1=some r):
 dh (iw Tryz.prog) 111 [.at ap (a0,(.map (some z_a0))),.rep (.arr 3 (.arr 5 (.int .i64))) a1] [.inv z_a0 (a9 k a0)] (fun _:Unit=>(bu [I r],[.inv z_a0 (a9 k a0)])):=by
 have h0:=h
 unfold bH at h
 replace h:=a8 h
 obtain⟨u1,eg,h⟩:=ab h
 have hg:=aE eg
 have gk:=G2 hg
 refine dh.of 28 Tryz.func111 rfl Tryz.ntmps111 rfl fun S w0=>?_
 refine sr ?_
 refine bx fun b1=>?_
 refine cq ?_
 refine nt ?_
 refine ah ?_
 refine c9 1 rfl ?_
 refine BV fun ob hob=>?_
 obtain⟨lnn,lbb,hlR,hlk⟩:=xG (z:=z_a0) Qh Lj zD gk Eo hob
 refine cm ?_
 refine dm ?_
 refine da (dB rfl) ?_
 refine da (aL 1 false rfl C0 rfl) ?_
 refine da (au (t:=.val) rfl KJ rfl) ?_
 refine ea 1 (ak rfl cG (xE) rfl) ?_
 refine eb 0 (Ee (kv:=kF a1) (wx _) (lO.calm hob) rfl (fun _ _ _ hh=>uS hh) hlk) ?_
 refine dm ?_
 refine da (gW rfl rfl) ?_
 refine da (gW rfl rfl) ?_
 refine da (kh rfl) ?_
 refine df fg ?_
 refine aq ?_
 refine nt ?_
 refine ah ?_
 refine sr ?_
 refine mq ?_
 refine ja (gQ rfl) ?_
 refine nt ?_
 refine fh (jX (a9 k a0) hob) ?_
 refine bi rfl (fun hb=>?_) (fun hb=>?_)
 ·
  refine sr (mq ?_);refine fr 1 ?_;refine lo cG ?_;obtain⟨r2,c,h⟩:=ab h;refine jc (cU (N:=[(.tmp 18,.at ap (a0,(.map (some z_a0)))),(.tmp 19,.rep (.arr 3 (.arr 5 (.int .i64))) a1),(.const (.int .i64 (0)),I 0)]) (fa [.tmp 18,.tmp 19,.const (.int .i64 (0))] rfl rfl K9 rfl (lY k (a0,()) a1 0 r2 c)) fun _ _ _ hn=>⟨(oW hn.1),hn.2.1,hn.2.2.1,trivial⟩) ?_;refine aq (nt ?_);refine cm ?_;refine dm ?_;refine da (dB rfl) ?_;refine da (aL 1 false rfl C0 rfl) ?_;refine da (au (t:=.val) rfl KJ rfl) ?_;refine ea 0 (ak rfl cG (xE) rfl) ?_;refine dm ?_;refine df fg ?_;refine fr 1 ?_;have hl:bH k a0 a1=some r2:=h0.trans (show some r=some r2 from h.symm);refine aZ rfl rfl (za (kv:=kF a1) (wx _) rfl Qh zD (fun _ _ _ hh=>uS hh) gk ⟨a1,hg,rfl,hl⟩) ⟨rfl,rfl,rfl,trivial⟩ ?_;refine nt (sr (mq ?_));refine aq (nt (aC ?_));cases h;exact aI () [_] 1 ⟨rfl,trivial⟩ rfl
 ·
  obtain⟨p,hp,he,hl⟩:=hlR (by simpa using hb);obtain rfl:=wy hg hp he;replace h:some lnn=some r:=hl.symm.trans h0;refine sk (sr (mq ?_));refine aq (nt (aC ?_));cases h;exact aI () [_] 1 ⟨rfl,trivial⟩ rfl
def pj(k:Nat)(a0:bK)(a1:(List (List Int))):Option (Int×Int):=
 (cK k a0 a1).bind fun r2=>
 if¬(r2=0) then(some (0,r2)) else((dr k a1).bind fun r4=>
 (bH k a0 r4).bind fun r5=>
 some (r5,0))
theorem qV(k:Nat)(a0:bK)(a1:(List (List Int)))(r:Int×Int)(h:pj k a0 a1=some r):
 dh (iw Tryz.prog) 48 [.rep aG a0,.rep (.slice (.slice (.int .i64))) a1] [.inv 0 (ig)] (fun _:Unit=>(bu [I r.1,I r.2],[.inv 0 (ig)])):=by
 unfold pj at h
 replace h:=a8 h
 refine dh.of 18 Tryz.func48 rfl Tryz.ntmps48 rfl fun S w0=>?_
 refine sr ?_
 refine bx fun b1=>?_
 refine cq ?_
 refine cq ?_
 refine nt ?_
 refine ah ?_
 refine sr ?_
 refine lo i8 ?_
 refine mq ?_
 obtain⟨r2,j,h⟩:=ab h
 have l:=fP k a0 a1 r2 j
 refine fr 1 ?_
 refine kb (an [.tmp 7,.tmp 8] rfl rfl MR rfl l) ?_
 refine aq ?_
 refine nt ?_
 refine sr ?_
 refine mq ?_
 refine jb (iN rfl) ?_
 refine nt ?_
 refine cn h (fun h=>?_) (fun h=>?_)
 ·
  refine sr (mq ?_);refine cq ?_;refine aq (nt (rx ?_));cases h;exact aI () [_,_] 1 ⟨rfl,rfl,trivial⟩ rfl
 ·
  refine sk (sr (fr 1 ?_));refine lo i8 ?_;refine ay rfl rfl rfl (an [.tmp 13] rfl rfl HA rfl (fS a0)) ⟨rfl,trivial⟩ fun z3=>?_;refine cI (jX (a9 k a0) kZ) ?_;refine mq ?_;obtain⟨r4,e,h⟩:=ab h;refine ja (an [.tmp 15] rfl rfl BK rfl (dN k a1 r4 e)) ?_;obtain⟨r5,c,h⟩:=ab h;refine kb (fa [.tmp 14,.tmp 16] rfl rfl HC rfl (g9 k a0 z3 r4 r5 c)) ?_;refine aq ?_;refine cq (nt (aC ?_));refine bM (SE.fin (Γ':=[(4,_),(5,_)]) [2,0,1] ⟨rfl,rfl,trivial⟩ rfl) ?_;cases h;exact aI () [_,_] 1 ⟨rfl,rfl,trivial⟩ rfl
set_option maxRecDepth 20000
set_option maxHeartbeats 4000000
@[reducible] def eS:Ty:=.agg (.pair (.int .i64) (.int .i64))
def O2(x:Int×Int):Value:=.agg #[.int .i64 x.1,.int .i64 x.2]
theorem JE{S:FS}{w:World}{x:Int×Int}:(A.rep eS x).holds S w (O2 x):=⟨[_,_],⟨[_],[_],rfl,rfl,rfl⟩,rfl⟩
theorem Hu{S:FS}{w:World}{x:Int×Int}{v:Value}(h:(A.rep eS x).holds S w v):(A.eq (O2 x)).holds S w v:=by
 obtain⟨cs,⟨c1,c2,rfl,h1,h2⟩,rfl⟩:=h;have h1:c1=_:=h1;have h2:c2=_:=h2;subst h1 h2;rfl
theorem gl:dC Tryz.prog 131 2 true:=⟨fun w=>by kernel_rfl,fun w=>by kernel_rfl⟩
theorem nO:dC Tryz.prog 28 1 false:=⟨fun w=>by kernel_rfl,fun w=>by kernel_rfl⟩
theorem Cd:dC Tryz.prog 23 1 false:=⟨fun w=>by kernel_rfl,fun w=>by kernel_rfl⟩
theorem tJ:dC Tryz.prog 3 1 false:=⟨fun w=>by kernel_rfl,fun w=>by kernel_rfl⟩
theorem Fv:dC Tryz.prog 102 1 false:=⟨fun w=>by kernel_rfl,fun w=>by kernel_rfl⟩
theorem MB:aQ Tryz.prog 131 0 0:=aQ.of (by kernel_rfl)
theorem MA:aQ Tryz.prog 131 1 1:=aQ.of (by kernel_rfl)
theorem O1:aQ Tryz.prog 128 0 0:=aQ.of (by kernel_rfl)
theorem tP:aQ Tryz.prog 128 1 1:=aQ.of (by kernel_rfl)
theorem yc:ag Tryz.prog 136:=ag.of Tryz.func136 (by kernel_rfl) (by kernel_rfl)
def jf(x:Int×Int)(m:Int):Nat→Int×List Int→Option (List Int)
 |0,_=>none
 |n+1,q=>if q.1 < m then((bf q.2 q.1).bind fun c=>if c=x.1 then(ck (q.1+1)).bind fun w=>jf x m n (w,q.2.set q.1.toNat x.2) else if c=x.2 then(ck (q.1+1)).bind fun w=>jf x m n (w,q.2.set q.1.toNat x.1) else(ck (q.1+1)).bind fun w=>jf x m n (w,q.2)) else some q.2
def j9(k:Nat)(x:Int×Int)(m:Int):Nat→Int×List (List Int)→Option (List (List Int))
 |0,_=>none
 |n+1,q=>if q.1 < m then((bf q.2 q.1).bind fun l=>(jf x (l.length:Int) k (0,l)).bind fun l2=>(ck (q.1+1)).bind fun w=>j9 k x m n (w,q.2.set q.1.toNat l2)) else some q.2
def mK(k:Nat)(x:Int×Int)(ls:List (List Int)):Option (List (List Int)):=j9 k x (ls.length:Int) k (0,ls)
theorem lX(k:Nat)(x:Int×Int)(ls r:List (List Int))(y:Nat)(d0:ap.den)(z:Value×(Nat→Value))(h:mK k x ls=some r):
 cd Tryz.prog 136 [.eq (bP y),.rep eS x] ([.obj y 128 (.agg (.pair (.at ap d0) (.eq z.1)))]++jh 23 z ls) (fun _:Unit=>(bu [],[.obj y 128 (.agg (.pair (.at ap d0) (.eq z.1)))]++jh 23 z r)):=by
 unfold mK at h
 replace h:=a8 h
 refine cd.of 45 Tryz.func136 rfl Tryz.ntmps136 rfl fun S w0=>?_
 refine sr ?_
 refine bx fun b3=>?_
 refine nt ?_
 refine sr ?_
 refine mq ?_
 refine ja (aS rfl) ?_
 refine fl tP ?_
 refine fr 1 ?_
 refine lo nO ?_
 refine cI (Dk (pre:=[.obj y 128 (.agg (.pair (.at ap d0) (.eq z.1))),.obj b3 131 (.rep eS x)])) ?_
 refine ka (cZ rfl rfl nI) ?_
 rw [dH]
 refine cI (EQ (pre:=[.obj y 128 (.agg (.pair (.at ap d0) (.eq z.1))),.obj b3 131 (.rep eS x)])) ?_
 refine dX rfl ?_
 refine nt ?_
 refine aj ?_
 refine aK (Z:=Unit) (α:=Int×List (List Int)) (fun _ q=>[(3,.eq (bP b3)),(11,.eq z.1),(12,I (ls.length:Int)),(13,I q.1)]) (fun _ q=>[.obj y 128 (.agg (.pair (.at ap d0) (.eq z.1))),.obj b3 131 (.rep eS x)]++jh 23 z q.2) (j9 k x (ls.length:Int)) k () (0,ls) (fun _=>rfl) h (bI [.obj y 128 (.agg (.pair (.at ap d0) (.eq z.1))),.obj b3 131 (.rep eS x)] (jh 23 z ls) [0,1] ⟨rfl,rfl,rfl,rfl,trivial⟩ rfl) (fun n u q h=>?_)
 unfold j9 at h
 refine sr ?_
 refine jb (bv rfl) ?_
 refine nt ?_
 refine ah ?_
 refine bi rfl (fun hb=>?_) (fun hb=>?_)
 ·
  replace h:=ct (m8 hb) h;refine sk (ah (aj ?_));obtain⟨l,el,h⟩:=ab h;refine fh (EP (pre:=[.obj y 128 (.agg (.pair (.at ap d0) (.eq z.1))),.obj b3 131 (.rep eS x)]) (hQ el).2) ?_;refine sr (fr 1 ?_);refine kb (bp (t:=.val) rfl nI Cd (g7 el)) ?_;refine ka (eQ (i:=q.1.toNat) (off:=0) rfl Cd (fun _=>rfl) rfl (dV (g7 el)).2.2 rfl) ?_;refine aq (nt ?_);rw [Option.bind_assoc] at h;refine sr (mq ?_);refine fr 1 ?_;refine ka (cZ rfl rfl fC) ?_;refine dX rfl ?_;refine nt (aj (aK (Z:=Unit) (α:=Int×List Int) (fun _ q2=>[(3,.eq (bP b3)),(5,.eq (z.2 q.1.toNat)),(11,.eq z.1),(12,I (ls.length:Int)),(13,I q.1),(17,.eq (z.2 q.1.toNat)),(18,I (l.length:Int)),(19,I q2.1)]) (fun _ q2=>[.sl (z.2 q.1.toNat) 3 (.int .i64) (q2.2),.sl z.1 23 .val (dx z.2 0 q.2),.obj y 128 (.agg (.pair (.at ap d0) (.eq z.1))),.obj b3 131 (.rep eS x)]++((fM z.2 0 q.2).eraseIdx q.1.toNat)) (jf x (l.length:Int)) k () (0,l) (fun _=>rfl) h (bI [.sl (z.2 q.1.toNat) 3 (.int .i64) (l),.sl z.1 23 .val (dx z.2 0 q.2),.obj y 128 (.agg (.pair (.at ap d0) (.eq z.1))),.obj b3 131 (.rep eS x)] ((fM z.2 0 q.2).eraseIdx q.1.toNat) [0,1,2,3] ⟨rfl,rfl,rfl,rfl,rfl,rfl,rfl,rfl,trivial⟩ rfl) (fun n2 u2 q2 h=>?_)));unfold jf at h;refine sr (jb (bv rfl) ?_);refine nt (ah (bi rfl (fun hb=>?_) (fun hb=>?_)))
  ·replace h:=ct (m8 hb) h;refine sk (ah (aj ?_));obtain⟨c,ec,h⟩:=ab h;refine sr (mq ?_);refine kb (bp (t:=.int .i64) rfl fC tJ ec) ?_;refine ka (eQ (i:=q2.1.toNat) (off:=0) rfl tJ (fun _=>rfl) rfl (dV ec).2.2 rfl) ?_;refine aq ?_;refine aq (nt (sr ?_));refine mq (nt (aj (sr ?_)));refine fl MB ?_;refine fr 3 ?_;refine lo tJ ?_;refine jb (ek rfl) ?_;refine aq (nt ?_);refine ci h (fun h=>?_) (fun h=>?_)
   ·refine aa ?_;iterate 2 refine mq ?_
    refine fl MA ?_;refine lo tJ ?_;refine fr 1 ?_;refine kb (bp (t:=.int .i64) rfl fC tJ ec) ?_;refine aZ rfl rfl (eJ (i:=q2.1.toNat) rfl tJ rfl (mf ec) rfl .int rfl) ⟨rfl,rfl,trivial⟩ ?_;refine ao (aJ (aJ (tn (aa ?_))));obtain⟨w,ew,h⟩:=ab h;refine jb (bg rfl ew) ?_;refine mq (nl ?_);exact iy ((),(w,q2.2.set q2.1.toNat x.2)) h (bI [.sl (z.2 q.1.toNat) 3 (.int .i64) (q2.2.set q2.1.toNat x.2),.obj b3 131 (.rep eS x),.sl z.1 23 .val (dx z.2 0 q.2),.obj y 128 (.agg (.pair (.at ap d0) (.eq z.1)))] ((fM z.2 0 q.2).eraseIdx q.1.toNat) [0,2,3,1] ⟨rfl,rfl,rfl,rfl,rfl,rfl,rfl,rfl,trivial⟩ rfl)
   ·refine sr (fl MA ?_);refine lo tJ ?_;refine jb (ek rfl) ?_;refine aq (nt ?_);refine ci h (fun h=>?_) (fun h=>?_)
    ·refine aa ?_;iterate 2 refine mq ?_
     refine fl MB ?_;refine lo tJ ?_;refine fr 1 ?_;refine kb (bp (t:=.int .i64) rfl fC tJ ec) ?_;refine aZ rfl rfl (eJ (i:=q2.1.toNat) rfl tJ rfl (mf ec) rfl .int rfl) ⟨rfl,rfl,trivial⟩ ?_;refine ao (aJ (aJ (tn (aa ?_))));obtain⟨w,ew,h⟩:=ab h;refine jb (bg rfl ew) ?_;refine mq (nl ?_);exact iy ((),(w,q2.2.set q2.1.toNat x.1)) h (bI [.sl (z.2 q.1.toNat) 3 (.int .i64) (q2.2.set q2.1.toNat x.1),.obj b3 131 (.rep eS x),.sl z.1 23 .val (dx z.2 0 q.2),.obj y 128 (.agg (.pair (.at ap d0) (.eq z.1)))] ((fM z.2 0 q.2).eraseIdx q.1.toNat) [0,2,3,1] ⟨rfl,rfl,rfl,rfl,rfl,rfl,rfl,rfl,trivial⟩ rfl)
    ·refine aU (aJ (aJ (tn (aa ?_))));obtain⟨w,ew,h⟩:=ab h;refine jb (bg rfl ew) ?_;refine mq (nl ?_);exact iy ((),(w,q2.2)) h (bI [.obj b3 131 (.rep eS x),.sl (z.2 q.1.toNat) 3 (.int .i64) (q2.2),.sl z.1 23 .val (dx z.2 0 q.2),.obj y 128 (.agg (.pair (.at ap d0) (.eq z.1)))] ((fM z.2 0 q.2).eraseIdx q.1.toNat) [1,2,3,0] ⟨rfl,rfl,rfl,rfl,rfl,rfl,rfl,rfl,trivial⟩ rfl)
  replace h:=bL (mz hb) h;refine dA (aM (aM (bR (aJ (tn (fh (An (pre:=[.obj y 128 (.agg (.pair (.at ap d0) (.eq z.1))),.obj b3 131 (.rep eS x)]) (l':=q2.2) (hQ el).2) ?_))))));refine aa ?_;obtain⟨w,ew,h⟩:=ab (X:=ck (q.1+1)) (f:=fun w=>j9 k x (ls.length:Int) n (w,q.2.set q.1.toNat q2.2)) (K:=some) (r:=r) (by simpa using h);refine jb (bg rfl ew) ?_;refine mq (nl ?_);exact iy ((),(w,q.2.set q.1.toNat q2.2)) h (bI [.obj y 128 (.agg (.pair (.at ap d0) (.eq z.1))),.obj b3 131 (.rep eS x)] (jh 23 z (q.2.set q.1.toNat q2.2)) [0,1] ⟨rfl,rfl,rfl,rfl,trivial⟩ rfl)
 replace h:=bL (mz hb) h
 refine dA ?_
 refine aM ?_
 refine aM ?_
 refine bR ?_
 cases h
 refine iQ ?_
 refine bM (bI (Γ':=[]) (pre':=[.obj y 128 (.agg (.pair (.at ap d0) (.eq z.1)))]) [.obj y 128 (.agg (.pair (.at ap d0) (.eq z.1))),.obj b3 131 (.rep eS x)] (jh 23 z q.2) [0] trivial rfl) ?_
 exact gK () [] trivial rfl
@[reducible] def IB:Ty:=.agg (.pair (.ptr ap) (.slice (.slice (.int .i64))))
theorem Lr{S:FS}{w:World}{y:Nat}{d0:ap.den}{z:Value×(Nat→Value)}{ls:List (List Int)}(h:∀d∈[D.obj y 128 (.agg (.pair (.at ap d0) (.eq z.1)))]++jh 23 z ls,d.holds S w∧∀b,d.foot=some b→S b):(A.at IB (d0,ls)).holds S w (bP y):=by
 obtain⟨⟨cs,h1,c1,c2,rfl,g1,rfl,g2⟩,h2⟩:=h _ (List.mem_cons_self ..);have h3:=LV (fun d hd=>h d (List.mem_cons_of_mem _ hd));refine⟨y,0,_,128,(0,0),rfl,h2 y rfl,h1,c1,[z.1],?_,g1,?_⟩
 ·have l1:=aH (.ptr ap) g1;simp only [Ty.cells] at l1;match c1,l1 with
  |[u],_=>rfl
 ·obtain⟨cs,h4,h5⟩:=h3;have l1:=aH (.slice (.slice (.int .i64))) h4;simp only [Ty.cells] at l1;match cs,l1 with
  |[u],_=>rw [h5];exact h4
theorem yG{S:FS}{w:World}{a:Act}{Γ:Ga}{y:Nat}{d0:ap.den}{z:Value×(Nat→Value)}{ls:List (List Int)}(h:∀d∈[D.obj y 128 (.agg (.pair (.at ap d0) (.eq z.1)))]++jh 23 z ls,d.holds S w∧∀b,d.foot=some b→S b)
 (hk:∀s r,lk Γ s=some r→r.holds S w (a.tmps.getD s undef)) (h0:lk Γ 0=some (.eq (bP y))):∀s r,lk [(0,A.at IB (d0,ls))] s=some r→r.holds S w (a.tmps.getD s undef):=fun s r hl=>by
 simp only [lk] at hl
 split at hl
 ·
  rename_i e
  cases hl
  subst e
  have e1:a.tmps.getD 0 undef=bP y:=hk 0 _ h0
  rw [e1]
  exact Lr h
 ·
  cases hl
theorem K2{n:Nat}{r0:A}(h:r0.flat=true):∀s r,lk [(n,r0)] s=some r→r.flat=true:=fun s r hl=>by
 simp only [lk] at hl
 split at hl
 ·
  cases hl;exact h
 ·
  cases hl
theorem MD{d0:D}(h:d0.flat=true):∀d∈[d0],d.flat=true:=fun d hd=>by
 simp only [List.mem_cons,List.not_mem_nil,or_false] at hd
 subst hd;exact h
theorem Jz{d0 d1:D}(h:d0.flat=true)(h1:d1.flat=true):∀d∈[d0,d1],d.flat=true:=fun d hd=>by
 simp only [List.mem_cons,List.not_mem_nil,or_false] at hd
 rcases hd with rfl |rfl <;> assumption
theorem yH{y:Nat}{x:Int×Int}(S:FS)(w:World):fO S w [.eq (bP y),.rep eS x] [bP y,O2 x]:=⟨_,_,rfl,rfl,_,_,rfl,JE,rfl⟩
theorem Me:aQ Tryz.prog 173 0 0:=aQ.of (by kernel_rfl)
theorem Ft:dC Tryz.prog 25 3 true:=⟨fun w=>by kernel_rfl,fun w=>by kernel_rfl⟩
theorem O6:ag Tryz.prog 94:=ag.of Tryz.func94 (by kernel_rfl) (by kernel_rfl)
theorem O7:ag Tryz.prog 86:=ag.of Tryz.func86 (by kernel_rfl) (by kernel_rfl)
theorem MF:ag Tryz.prog 111:=ag.of Tryz.func111 (by kernel_rfl) (by kernel_rfl)
def mm(k:Nat)(t:bK)(x:Int×Int)(ls:List (List Int)):Option (Bool×List (List Int)):=
 (mK k x ls).bind fun l1=>(kV k t l1).bind fun e=>if Jc e=true then(mK k x l1).bind fun l2=>some (!uX e,l2) else none
theorem sf(k:Nat)(t:bK)(x:Int×Int)(ls:List (List Int))(r:Bool×List (List Int))(y m:Nat)(z:Value×(Nat→Value))(h:mm k t x ls=some r):
 cd Tryz.prog 98 [.eq (bP y),.rep eS x] ([.obj y 128 (.agg (.pair (.at ap (t,.map (some m))) (.eq z.1)))]++jh 23 z ls) (fun _:Unit=>(bu [.eq (.bool r.1)],[.obj y 128 (.agg (.pair (.at ap (t,.map (some m))) (.eq z.1)))]++jh 23 z r.2)):=by
 unfold mm at h
 replace h:=a8 h
 obtain⟨l1,e1,h⟩:=ab h
 obtain⟨e,e2,h⟩:=ab h
 have he:Jc e=true:=by
  apply Classical.byContradiction;intro hn;rw [if_neg hn] at h;cases h
 replace h:=ct he h
 obtain⟨l2,e3,h⟩:=ab h
 cases h
 have cv:=qQ k t l1 e e2
 refine KB 23 Tryz.func98 rfl Tryz.ntmps98 rfl fun S w0=>?_
 refine sr ?_
 refine bx fun b3=>?_
 refine cq ?_
 refine nt ?_
 refine sr ?_
 refine mq ?_
 refine ka (ak rfl gl (yu) rfl) ?_
 refine cI (f7 (Δ':=([.obj y 128 (.agg (.pair (.at ap (t,.map (some m))) (.eq z.1)))]++jh 23 z ls)++[.obj b3 131 (.rep eS x)]) (List.perm_append_comm (l₁:=([.obj b3 131 (.rep eS x)]:List D)))) ?_
 refine bB (Δ:=_++_) (F:=[_]) (fun _ _ _=>ar rfl _) rfl rfl (an [.tmp 5,.tmp 6] rfl rfl yc rfl (lX k x ls l1 y (t,.map (some m)) z e1)) ⟨rfl,rfl,trivial⟩ fun _=>?_
 refine nt ?_
 refine sr ?_
 refine mq ?_
 refine cI (f7 (Δ':=[.obj b3 131 (.rep eS x)]++([.obj y 128 (.agg (.pair (.at ap (t,.map (some m))) (.eq z.1)))]++jh 23 z l1)) List.perm_append_comm) ?_
 refine ka (ak rfl gl (yu) rfl) ?_
 refine cI (rS 9 rfl fun _ _ _ h=>Hu h) ?_
 refine xb (vs:=[bP y,O2 x]) [.tmp 8,.tmp 9] rfl rfl rfl rfl rfl ⟨rfl,rfl,trivial⟩ ?_
 refine ao ?_
 refine ae ?_
 refine bM (f7 (Δ':=([.obj y 128 (.agg (.pair (.at ap (t,.map (some m))) (.eq z.1)))]++jh 23 z l1)++[.obj b3 131 (.rep eS x)]) (List.perm_append_comm (l₁:=([.obj b3 131 (.rep eS x)]:List D)))) ?_
 show JC _ _ _ _ _
 refine ah ?_
 refine Dt (L:=_++_) (Δ:=[_]) (Γ1:=[(0,.at IB ((t,.map (some m)),l1))]) (Z:=Unit) (fun _=>[(4,.eq (.bool (!uX e)))]) (fun _=>[.obj b3 131 (.rep eS x)]) (fun S w a hl hk=>yG hl hk rfl) (fun _=>⟨K2 rfl,MD rfl⟩) (fun S w=>?_) (fun _=>?_)
 ·
  refine cm ?_;refine dm ?_;refine da (dB rfl) ?_;refine da (aL 1 false rfl O1 rfl) ?_;refine da (au (t:=.ptr ap) rfl Fv rfl) ?_;refine da (dB rfl) ?_;refine da (aL 3 true rfl Me rfl) ?_;refine da (au (t:=aG) rfl Ft rfl) ?_;refine dm ?_;refine da (dB rfl) ?_;refine da (aL 1 false rfl tP rfl) ?_;refine da (au (t:=.slice (.slice (.int .i64))) rfl nO rfl) ?_;refine td (by kernel_rfl) qy ?_;refine jb (an [.tmp 16,.tmp 20] rfl rfl O6 rfl cv) ?_;refine jb (ri rfl RG he) ?_;refine aq (ao ?_);exact fun a w st=>⟨rfl,(),(SE.fin (Γ':=[(4,.eq (.bool (!uX e)))]) [0] ⟨rfl,trivial⟩ rfl) a w st⟩
 ·
  refine tn (aC (Dq (Δ1:=[.obj y 128 (.agg (.pair (.at ap (t,.map (some m))) (.eq z.1)))]++jh 23 z l1) (F:=[.obj b3 131 (.rep eS x)]) yc (lX k x l1 l2 y (t,.map (some m)) z e3 _) yH (fun _=>?_)));refine bM (f7 (Δ':=[.obj b3 131 (.rep eS x)]++([.obj y 128 (.agg (.pair (.at ap (t,.map (some m))) (.eq z.1)))]++jh 23 z l2)) List.perm_append_comm) ?_;refine bM (bI (pre':=[.obj y 128 (.agg (.pair (.at ap (t,.map (some m))) (.eq z.1)))]) (Γ':=[(4,.eq (.bool (!uX e)))]) [.obj b3 131 (.rep eS x),.obj y 128 (.agg (.pair (.at ap (t,.map (some m))) (.eq z.1)))] (jh 23 z l2) [1] ⟨rfl,trivial⟩ rfl) ?_;exact gK () [_] ⟨rfl,trivial⟩ rfl
def mn(k:Nat)(t:bK)(x:Int×Int)(ls:List (List Int)):Option (Int×List (List Int)):=
 (mK k x ls).bind fun l1=>(dr k l1).bind fun ld=>(bH k t ld).bind fun n=>(mK k x l1).bind fun l2=>some (n,l2)
theorem si(k:Nat)(t:bK)(x:Int×Int)(ls:List (List Int))(r:Int×List (List Int))(y m:Nat)(z:Value×(Nat→Value))(h:mn k t x ls=some r):
 dh (iw Tryz.prog) 100 [.eq (bP y),.rep eS x] ([.inv m (a9 k t)]++([.obj y 128 (.agg (.pair (.at ap (t,.map (some m))) (.eq z.1)))]++jh 23 z ls)) (fun _:Unit=>(bu [I r.1],[.inv m (a9 k t)]++([.obj y 128 (.agg (.pair (.at ap (t,.map (some m))) (.eq z.1)))]++jh 23 z r.2))):=by
 unfold mn at h
 replace h:=a8 h
 obtain⟨l1,e1,h⟩:=ab h
 obtain⟨ld,e2,h⟩:=ab h
 obtain⟨n,e2',h⟩:=ab h
 obtain⟨l2,e3,h⟩:=ab h
 cases h
 have cv:=dN k l1 ld e2
 have cl:=g9 k t m ld n e2'
 refine AA 20 Tryz.func100 rfl Tryz.ntmps100 rfl fun S w0=>?_
 refine sr ?_
 refine bx fun b3=>?_
 refine cq ?_
 refine nt ?_
 refine sr ?_
 refine mq ?_
 refine ka (ak rfl gl (yu) rfl) ?_
 refine cI (f7 (Δ':=([.obj y 128 (.agg (.pair (.at ap (t,.map (some m))) (.eq z.1)))]++jh 23 z ls)++[.obj b3 131 (.rep eS x),.inv m (a9 k t)]) (List.perm_append_comm (l₁:=([.obj b3 131 (.rep eS x),.inv m (a9 k t)]:List D)))) ?_
 refine bB (Δ:=_++_) (F:=[_,_]) (fun _ _ _=>ar rfl _) rfl rfl (an [.tmp 5,.tmp 6] rfl rfl yc rfl (lX k x ls l1 y (t,.map (some m)) z e1)) ⟨rfl,rfl,trivial⟩ fun _=>?_
 refine nt ?_
 refine sr ?_
 refine mq ?_
 refine cI (f7 (Δ':=[.obj b3 131 (.rep eS x),.inv m (a9 k t)]++([.obj y 128 (.agg (.pair (.at ap (t,.map (some m))) (.eq z.1)))]++jh 23 z l1)) List.perm_append_comm) ?_
 refine ka (ak rfl gl (yu) rfl) ?_
 refine cI (rS 9 rfl fun _ _ _ h=>Hu h) ?_
 refine xb (vs:=[bP y,O2 x]) [.tmp 8,.tmp 9] rfl rfl rfl rfl rfl ⟨rfl,rfl,trivial⟩ ?_
 refine ao ?_
 refine ae ?_
 refine bM (f7 (Δ':=([.obj y 128 (.agg (.pair (.at ap (t,.map (some m))) (.eq z.1)))]++jh 23 z l1)++[.obj b3 131 (.rep eS x),.inv m (a9 k t)]) (List.perm_append_comm (l₁:=([.obj b3 131 (.rep eS x),.inv m (a9 k t)]:List D)))) ?_
 show JC _ _ _ _ _
 refine ah ?_
 refine Dt (L:=_++_) (Δ:=[_,_]) (Γ1:=[(0,.at IB ((t,.map (some m)),l1))]) (Z:=Unit) (fun _=>[(4,I n)]) (fun _=>[.obj b3 131 (.rep eS x),.inv m (a9 k t)]) (fun S w a hl hk=>yG hl hk rfl) (fun _=>⟨K2 rfl,Jz rfl rfl⟩) (fun S w=>?_) (fun _=>?_)
 ·
  refine cm ?_;refine dm ?_;refine da (dB rfl) ?_;refine da (aL 1 false rfl O1 rfl) ?_;refine da (au (t:=.ptr ap) rfl Fv rfl) ?_;refine dm ?_;refine da (dB rfl) ?_;refine da (aL 1 false rfl tP rfl) ?_;refine da (au (t:=.slice (.slice (.int .i64))) rfl nO rfl) ?_;refine da (an [.tmp 17] rfl rfl O7 rfl cv) ?_;refine td (by kernel_rfl) qy ?_;refine fr 1 ?_;refine kb (fa [.tmp 13,.tmp 18] rfl rfl MF rfl cl) ?_;refine aq (ao ?_);exact fun a w st=>⟨rfl,(),(SE.fin (Γ':=[(4,I n)]) [1,0] ⟨rfl,trivial⟩ rfl) a w st⟩
 ·
  refine tn (aC (Dq (Δ1:=[.obj y 128 (.agg (.pair (.at ap (t,.map (some m))) (.eq z.1)))]++jh 23 z l1) (F:=[.obj b3 131 (.rep eS x),.inv m (a9 k t)]) yc (lX k x l1 l2 y (t,.map (some m)) z e3 _) yH (fun _=>?_)));refine bM (f7 (Δ':=[.obj b3 131 (.rep eS x),.inv m (a9 k t)]++([.obj y 128 (.agg (.pair (.at ap (t,.map (some m))) (.eq z.1)))]++jh 23 z l2)) List.perm_append_comm) ?_;refine bM (bI (pre':=[.inv m (a9 k t),.obj y 128 (.agg (.pair (.at ap (t,.map (some m))) (.eq z.1)))]) (Γ':=[(4,I n)]) [.obj b3 131 (.rep eS x),.inv m (a9 k t),.obj y 128 (.agg (.pair (.at ap (t,.map (some m))) (.eq z.1)))] (jh 23 z l2) [1,2] ⟨rfl,trivial⟩ rfl) ?_;exact gK () [_] ⟨rfl,trivial⟩ rfl
theorem sa:∀w,(zeroValue 131).run Tryz.prog w= .ok (.agg #[.int .i64 0,.int .i64 0]) w:=fun w=>by kernel_rfl
theorem vr:∀S w,(A.cells S w (.rep eS (0,0)) (Value.cells (.agg #[.int .i64 0,.int .i64 0])).toList):=fun _ _=>⟨[_],[_],rfl,rfl,rfl⟩
theorem MG:ag Tryz.prog 100:=ag.of Tryz.func100 (by kernel_rfl) (by kernel_rfl)
abbrev La:=Int×(Int×Int)×Int×Bool×List (List Int)
def gV(k:Nat)(t:bK)(xs:List (Int×Int)):Nat→La→Option ((Int×Int)×Int×Bool×List (List Int))
 |0,_=>none
 |n+1,q=>if q.1 < (xs.length:Int) then((bf xs q.1).bind fun x=>(mn k t x q.2.2.2.2).bind fun r=>(ck (q.1+1)).bind fun w=>gV k t xs n (if(!q.2.2.2.1 || decide (r.1 < q.2.2.1))=true then(w,x,r.1,true,r.2) else(w,q.2.1,q.2.2.1,q.2.2.2.1,r.2))) else some q.2
def lp(k:Nat)(t:bK)(xs:List (Int×Int))(ls:List (List Int)):Option ((Int×Int)×Int×Bool×List (List Int)):=gV k t xs k (0,(0,0),0,false,ls)
theorem vG(k:Nat)(t:bK)(xs:List (Int×Int))(ls:List (List Int))(r:(Int×Int)×Int×Bool×List (List Int))(y m:Nat)(z:Value×(Nat→Value))(h:lp k t xs ls=some r):
 dh (iw Tryz.prog) 99 [.eq (.func (.func 100) #[bP y] #[]),Rs eS xs] ([.inv m (a9 k t),.obj y 128 (.agg (.pair (.at ap (t,.map (some m))) (.eq z.1)))]++jh 23 z ls) (fun _:Unit=>(bu [.rep eS r.1,I r.2.1,.eq (.bool r.2.2.1)],[.inv m (a9 k t),.obj y 128 (.agg (.pair (.at ap (t,.map (some m))) (.eq z.1)))]++jh 23 z r.2.2.2)):=by
 unfold lp at h
 replace h:=a8 h
 refine dh.of 35 Tryz.func99 rfl Tryz.ntmps99 rfl fun S w0=>?_
 refine sr ?_
 refine ay rfl rfl rfl (aP rfl sa vr) trivial fun b4=>?_
 refine cq ?_
 refine cq ?_
 refine nt ?_
 refine sr ?_
 refine ay rfl rfl rfl (aP rfl sa vr) trivial fun b7=>?_
 refine nt ?_
 refine sr ?_
 refine cq ?_
 refine cq ?_
 refine nt ?_
 refine ah ?_
 refine sr ?_
 refine mq ?_
 refine ol Nk ?_
 refine dX rfl ?_
 refine nt ?_
 refine aj ?_
 refine aK (Z:=Unit) (α:=La) (fun _ q=>[(0,.eq (.func (.func 100) #[bP y] #[])),(4,.eq (bP b4)),(7,.eq (bP b7)),(8,I q.2.2.1),(9,.eq (.bool q.2.2.2.1)),(13,Rs eS xs),(14,I (xs.length:Int)),(15,I q.1)]) (fun _ q=>[.obj b7 131 (.rep eS q.2.1),.obj b4 131 (.rep eS (0,0)),.inv m (a9 k t),.obj y 128 (.agg (.pair (.at ap (t,.map (some m))) (.eq z.1)))]++jh 23 z q.2.2.2.2) (gV k t xs) k () (0,(0,0),0,false,ls) (fun _=>rfl) h (bI [.obj b7 131 (.rep eS (0,0)),.obj b4 131 (.rep eS (0,0)),.inv m (a9 k t),.obj y 128 (.agg (.pair (.at ap (t,.map (some m))) (.eq z.1)))] (jh 23 z ls) [0,1,2,3] ⟨rfl,rfl,rfl,rfl,rfl,rfl,rfl,rfl,trivial⟩ rfl) (fun n u q h=>?_)
 unfold gV at h
 obtain⟨q1,q2,q3,q4,q5⟩:=q
 refine sr ?_
 refine jb (bv rfl) ?_
 refine nt ?_
 refine ah ?_
 refine bi rfl (fun hb=>?_) (fun hb=>?_)
 ·
  replace h:=ct (m8 hb) h;obtain⟨x,ex,h⟩:=ab h;obtain⟨r1,e,h⟩:=ab h;obtain⟨w,ew,h⟩:=ab h;have cl:=si k t x q5 r1 y m z e;refine sk (ah (aj (sr (jb (ba (t:=eS) rfl Nk gl ex) ?_))));refine ja (au (t:=eS) rfl gl rfl) ?_;refine ay rfl rfl rfl (aP rfl sa vr) trivial fun c=>?_;refine aZ rfl rfl (aR rfl gl rfl rfl rfl) ⟨rfl,rfl,trivial⟩ ?_;refine nt (sr (mq ?_));refine ka (ak rfl gl (yu) rfl) ?_;refine cI (f7 (Δ':=([.inv m (a9 k t)]++([.obj y 128 (.agg (.pair (.at ap (t,.map (some m))) (.eq z.1)))]++jh 23 z q5))++[.obj c 131 (.rep eS x),.obj b7 131 (.rep eS q2),.obj b4 131 (.rep eS (0,0))]) (List.perm_append_comm (l₁:=([.obj c 131 (.rep eS x),.obj b7 131 (.rep eS q2),.obj b4 131 (.rep eS (0,0))]:List D)))) ?_;refine bB (Δ:=_++_) (F:=[_,_,_]) (fun _ _ _=>ar rfl _) rfl rfl (oD (fs:=[bP y]) (cs:=[]) (ags:=[.rep eS x]) [.tmp 20] rfl rfl MG rfl cl) ⟨rfl,rfl,trivial⟩ fun _=>?_;refine aq ?_;refine cI (f7 (Δ':=[.obj c 131 (.rep eS x),.obj b7 131 (.rep eS q2),.obj b4 131 (.rep eS (0,0))]++([.inv m (a9 k t)]++([.obj y 128 (.agg (.pair (.at ap (t,.map (some m))) (.eq z.1)))]++jh 23 z r1.2))) List.perm_append_comm) ?_;refine nt ?_;cases q4 with
  |false=>
   refine sr (mq ?_);refine ja (gQ rfl) ?_;refine mq ?_;iterate 3 refine gn ?_
   refine pt (nt ?_);refine bi rfl (fun hb=>?_) (fun hb=>(by cases hb));refine aa (ka (ak rfl gl (yu) rfl) ?_);refine mq ?_;refine fr 1 ?_;refine aZ rfl rfl (aR rfl gl rfl rfl rfl) ⟨rfl,rfl,trivial⟩ ?_;refine aq ?_;refine cq (ao (aJ (tn (aa ?_))));refine jb (bg rfl ew) ?_;refine mq (nl ?_);exact iy ((),(w,x,r1.1,true,r1.2)) h (bI [.obj b7 131 (.rep eS x),.obj c 131 (.rep eS x),.obj b4 131 (.rep eS (0,0)),.inv m (a9 k t),.obj y 128 (.agg (.pair (.at ap (t,.map (some m))) (.eq z.1)))] (jh 23 z r1.2) [0,2,3,4] ⟨rfl,rfl,rfl,rfl,rfl,rfl,rfl,rfl,trivial⟩ rfl)
  |true=>
   refine sr (mq ?_);refine ja (gQ rfl) ?_;refine mq ?_;refine gm ?_;refine gm ?_;refine gb (bv rfl) ?_;refine pf (nt ?_);refine bi rfl (fun hb=>?_) (fun hb=>?_)
   ·replace h:(gV k t xs n (w,x,r1.1,true,r1.2)).bind some=some r:=by
     have hd:r1.1 < q3:=of_decide_eq_true hb;simpa [hd] using h
    refine aa (ka (ak rfl gl (yu) rfl) ?_);refine mq ?_;refine fr 1 ?_;refine aZ rfl rfl (aR rfl gl rfl rfl rfl) ⟨rfl,rfl,trivial⟩ ?_;refine aq ?_;refine cq (ao (aJ (tn (aa ?_))));refine jb (bg rfl ew) ?_;refine mq (nl ?_);exact iy ((),(w,x,r1.1,true,r1.2)) h (bI [.obj b7 131 (.rep eS x),.obj c 131 (.rep eS x),.obj b4 131 (.rep eS (0,0)),.inv m (a9 k t),.obj y 128 (.agg (.pair (.at ap (t,.map (some m))) (.eq z.1)))] (jh 23 z r1.2) [0,2,3,4] ⟨rfl,rfl,rfl,rfl,rfl,rfl,rfl,rfl,trivial⟩ rfl)
   ·replace h:(gV k t xs n (w,q2,q3,true,r1.2)).bind some=some r:=by
     have hd:¬r1.1 < q3:=of_decide_eq_false hb;simpa [hd] using h
    refine aU (aJ (tn (aa (jb (bg rfl ew) ?_))));refine mq (nl ?_);exact iy ((),(w,q2,q3,true,r1.2)) h (bI [.obj c 131 (.rep eS x),.obj b7 131 (.rep eS q2),.obj b4 131 (.rep eS (0,0)),.inv m (a9 k t),.obj y 128 (.agg (.pair (.at ap (t,.map (some m))) (.eq z.1)))] (jh 23 z r1.2) [1,2,3,4] ⟨rfl,rfl,rfl,rfl,rfl,rfl,rfl,rfl,trivial⟩ rfl)
 replace h:=bL (mz hb) h
 refine dA ?_
 refine aM ?_
 refine aM ?_
 refine bR ?_
 refine tn ?_
 cases h
 refine sr ?_
 refine ka (ak rfl gl (yu) rfl) ?_
 iterate 2 refine mq ?_
 refine fr 1 ?_
 refine aZ rfl rfl (aR rfl gl rfl rfl rfl) ⟨rfl,rfl,trivial⟩ ?_
 refine aq ?_
 refine aq ?_
 refine nt ?_
 refine aC ?_
 refine bM (f7 (Δ':=([.inv m (a9 k t),.obj y 128 (.agg (.pair (.at ap (t,.map (some m))) (.eq z.1)))]++jh 23 z q5)++[.obj b4 131 (.rep eS q2),.obj b7 131 (.rep eS q2)]) (List.perm_append_comm (l₁:=([.obj b4 131 (.rep eS q2),.obj b7 131 (.rep eS q2)]:List D)))) ?_
 exact aI () [_,_,_] ([.inv m (a9 k t),.obj y 128 (.agg (.pair (.at ap (t,.map (some m))) (.eq z.1)))]++jh 23 z q5:List D).length ⟨⟨b4,131,.rep eS q2,2,true,rfl,List.mem_append.2 (.inr (List.mem_cons_self ..)),gl,yu,rfl⟩,rfl,rfl,trivial⟩ (by rw [List.take_left])
theorem pX:ag Tryz.prog 97:=ag.of Tryz.func97 (by kernel_rfl) (by kernel_rfl)
theorem O9:ag Tryz.prog 48:=ag.of Tryz.func48 (by kernel_rfl) (by kernel_rfl)
theorem O8:ag Tryz.prog 84:=ag.of Tryz.func84 (by kernel_rfl) (by kernel_rfl)
theorem O5:ag Tryz.prog 98:=ag.of Tryz.func98 (by kernel_rfl) (by kernel_rfl)
theorem O4:ag Tryz.prog 99:=ag.of Tryz.func99 (by kernel_rfl) (by kernel_rfl)
theorem KH:dC Tryz.prog 22 1 false:=⟨fun w=>by kernel_rfl,fun w=>by kernel_rfl⟩
theorem K1:aQ Tryz.prog 25 1 1:=aQ.of (by kernel_rfl)
theorem nP:mB Tryz.prog 28 23 1 24:=.of (z:=(.slice none 0 0)) nI (by kernel_rfl) rfl rfl rfl
theorem FB:mB Tryz.prog 129 131 2 16:=.of (z:=(.agg #[.int .i64 0,.int .i64 0])) Nk (by kernel_rfl) rfl rfl rfl
theorem LH:yt Tryz.prog 128 #[(0,1),(1,1)]:=⟨_,RE,fun _=>by kernel_rfl⟩
theorem Lm:∀w,(zeroValue 128).run Tryz.prog w= .ok (.agg #[.pointer none,.slice none 0 0]) w:=fun w=>by kernel_rfl
theorem Na:∀S w,(A.cells S w (.pair (.eq (.pointer none)) (.eq (.slice none 0 0))) (Value.cells (.agg #[.pointer none,.slice none 0 0])).toList):=fun _ _=>⟨[_],_,rfl,⟨rfl,rfl⟩,rfl,rfl⟩
theorem LG:yt Tryz.prog 131 #[(0,1),(1,1)]:=⟨_,RD,fun _=>by kernel_rfl⟩
theorem J1:∀S w,(A.cells S w (.pair (I 0) (I 0)) (Value.cells (.agg #[.int .i64 0,.int .i64 0])).toList):=fun _ _=>⟨[_],_,rfl,⟨rfl,rfl⟩,rfl,rfl⟩
def ff:List Bool→Ga→Ga
 |true::l,e::g=>e::ff l g
 |false::l,_::g=>ff l g
 |_,_=>[]
def l5(y:Nat)(z1:Value)(l:List Int)(v v2:Value):Ga:=[(39,.eq (bP y)),(40,.eq (bP y)),(41,.eq (bP y)),(42,.eq (.pointer (some ⟨y,0+1,none⟩))),(43,.eq z1),(44,Ri l),(45,.eq v),(46,.rep (.slice .val) [v]),(47,.eq v2),(48,.eq (bP y)),(49,.eq (.pointer (some ⟨y,0+1,none⟩)))]
def lr(b2 y:Nat)(n i:Int)(l:List Int)(a1:List (List Int)):Ga:=[(2,.eq (bP b2)),(8,I n),(10,.eq (bP y)),(12,Ri l),(33,.rep (.slice (.slice (.int .i64))) a1),(34,I (a1.length:Int)),(35,I i)]
theorem Qe{i j:Int}:AE (.agg (.pair (I i) (I j))) (.rep eS (i,j)):=fun S w cs h=>by
 obtain⟨c1,c2,e,h1,h2⟩:=h
 exact⟨c1,c2,e,h1.1,h2.1⟩
def lZ(k:Nat)(a1:List (List Int)):Nat→Int×List (List Int)→Option (List (List Int))
 |0,_=>none
 |n+1,q=>if q.1 < (a1.length:Int) then((bf a1 q.1).bind fun l=>(j8 k l).bind fun l2=>if bX (q.2.length+1) then(ck (q.1+1)).bind fun w=>lZ k a1 n (w,q.2++[l2]) else none) else some q.2
def kf(k:Nat)(t:bK)(i:Int):Nat→Int×List (Int×Int)×List (List Int)→Option (List (Int×Int)×List (List Int))
 |0,_=>none
 |n+1,q=>if q.1 < (t.2.1.length:Int) then((mm k t (i,q.1) q.2.2).bind fun r=>if r.1=true then(if bX (q.2.1.length+1) then(ck (q.1+1)).bind fun w=>kf k t i n (w,q.2.1++[(i,q.1)],r.2) else none) else(ck (q.1+1)).bind fun w=>kf k t i n (w,q.2.1,r.2)) else some q.2
def jg(k:Nat)(t:bK):Nat→Int×List (Int×Int)×List (List Int)→Option (List (Int×Int)×List (List Int))
 |0,_=>none
 |n+1,q=>if q.1 < (t.2.1.length:Int) then((ck (q.1+1)).bind fun w=>(kf k t q.1 k (w,q.2)).bind fun p=>jg k t n (w,p)) else some q.2
def ue(k:Nat)(a0:bK)(a1:(List (List Int))):Option (Int×Int×Int×Int):=
 (pj k a0 a1).bind fun L=>if¬(L.2=0) then some (0,0,0,L.2) else
 (lZ k a1 k (0,[])).bind fun ls=>(jg k a0 k (0,[],ls)).bind fun p=>(lp k a0 p.1 p.2).bind fun b=>
 if(!b.2.2.1 || decide (L.1≤b.2.1))=true then some (0,0,0,11) else some (b.1.1,b.1.2,b.2.1,0)
theorem yK(k:Nat)(a0:bK)(a1:(List (List Int)))(r:Int×Int×Int×Int)(h:ue k a0 a1=some r):
 dh (iw Tryz.prog) 40 [.rep aG a0,.rep (.slice (.slice (.int .i64))) a1] [.inv 0 ig] (fun _:Unit=>(bu [.eq (.int .i64 r.1),.eq (.int .i64 r.2.1),.eq (.int .i64 r.2.2.1),.eq (.int .i64 r.2.2.2)],[.inv 0 ig])):=by
 unfold ue at h
 replace h:=a8 h
 refine dh.of 97 Tryz.func40 rfl Tryz.ntmps40 rfl fun S w0=>?_
 refine ah ?_
 refine aa ?_
 refine ay rfl rfl rfl (nR rfl rfl) ⟨rfl,trivial⟩ fun b2=>?_
 refine dG rfl ?_
 refine dG rfl ?_
 refine dG rfl ?_
 refine dG rfl ?_
 refine ao ?_
 refine ae ?_
 show JC _ _ _ _ _
 obtain⟨L,eL,h⟩:=ab h
 have cL:=qV k a0 a1 L eL
 refine ah ?_
 refine aa ?_
 refine bU rfl rfl rfl (ak rfl Ft (yu) rfl) ⟨rfl,trivial⟩ ?_
 refine av rfl rfl ?_
 refine bq 1 rfl ?_
 refine bU rfl rfl rfl (fa [.tmp 21,.tmp 22] rfl rfl O9 rfl cL) ⟨rfl,rfl,trivial⟩ ?_
 refine av rfl rfl ?_
 refine aA rfl (gW rfl rfl) ⟨rfl,trivial⟩ ?_
 refine aA rfl (gW rfl rfl) ⟨rfl,trivial⟩ ?_
 refine dj rfl rfl ?_
 refine dj rfl rfl ?_
 refine ao ?_
 refine ae ?_
 show JC _ _ _ _ _
 refine ah ?_
 refine ah ?_
 refine aa ?_
 refine av rfl rfl ?_
 refine aA rfl (iN rfl) ⟨rfl,rfl,trivial⟩ ?_
 refine ao ?_
 refine ae ?_
 show JC _ _ _ _ _
 refine bi rfl (fun hb=>?_) (fun hb=>?_)
 ·
  replace h:=ct (On hb) h
  refine ah ?_
  refine aa ?_
  refine av rfl rfl ?_
  refine dG rfl ?_
  refine dG rfl ?_
  refine dG rfl ?_
  refine dj rfl rfl ?_
  refine ao ?_
  refine ae ?_
  show JC _ _ _ _ _
  refine aC ?_
  refine aX ?_
  obtain rfl:=Option.some.inj h
  exact aI () [_,_,_,_] 1 ⟨rfl,rfl,rfl,rfl,trivial⟩ rfl
 replace h:=bL (GM hb) h
 refine aU ?_
 refine ae ?_
 show JC _ _ _ _ _
 rw [Option.bind_assoc] at h
 refine ah ?_
 refine aa ?_
 refine bq 1 rfl ?_
 refine bU rfl rfl rfl (ak rfl Ft (yu) rfl) ⟨rfl,trivial⟩ ?_
 refine ay rfl rfl rfl (an [.tmp 29] rfl rfl O8 rfl (fS a0)) ⟨rfl,trivial⟩ fun m=>?_
 refine cI (jX (a9 k a0) kZ) ?_
 refine aA rfl (cT [(0,.tmp 30,_)] rfl LH Lm Na (iE ⟨trivial,trivial⟩) rfl) ⟨rfl,trivial⟩ ?_
 refine ay rfl rfl rfl (nR rfl trivial) ⟨rfl,trivial⟩ fun y=>?_
 refine dj rfl rfl ?_
 refine ao ?_
 refine ae ?_
 show JC _ _ _ _ _
 refine ah ?_
 refine ah ?_
 refine aa ?_
 refine av rfl rfl ?_
 refine aA rfl (jJ rfl rfl nI) ⟨rfl,trivial⟩ ?_
 refine dX rfl ?_
 refine cI (SE.nil 23 .val) ?_
 refine cI (f7 (Δ':=[.obj y 128 (.agg (.pair (.at ap (a0,.map (some m))) (.eq (.slice none 0 0)))),.inv m (a9 k a0),.obj b2 25 (.rep aG a0),.inv 0 ig]++jh 23 (.slice none 0 0,fun _=>undef) []) (List.Perm.trans (List.perm_append_comm (l₁:=([.sl (.slice none 0 0) 23 .val []]:List D))) (List.Perm.refl _))) ?_
 refine ao ?_
 refine ae ?_
 show JC _ _ _ _ _
 refine aj ?_
 refine aK (Z:=Value×(Nat→Value)) (α:=Int×List (List Int)) (fun z q=>[(2,.eq (bP b2)),(8,.eq (.int .i64 L.1)),(10,.eq (bP y)),(33,.rep (.slice (.slice (.int .i64))) a1),(34,.eq (.int .i64 (a1.length:Int))),(35,.eq (.int .i64 q.1))]) (fun z q=>[.obj y 128 (.agg (.pair (.at ap (a0,.map (some m))) (.eq z.1))),.inv m (a9 k a0),.obj b2 25 (.rep aG a0),.inv 0 ig]++jh 23 z q.2) (lZ k a1) k (.slice none 0 0,fun _=>undef) (0,[]) (fun _=>rfl) h (bI [.obj y 128 (.agg (.pair (.at ap (a0,.map (some m))) (.eq (.slice none 0 0)))),.inv m (a9 k a0),.obj b2 25 (.rep aG a0),.inv 0 ig] (jh 23 (.slice none 0 0,fun _=>undef) []) [0,1,2,3] ⟨rfl,rfl,rfl,rfl,rfl,rfl,trivial⟩ rfl) (fun n z q h=>?_)
 unfold lZ at h
 refine ah ?_
 refine aa ?_
 refine aA rfl (bv rfl) ⟨rfl,rfl,trivial⟩ ?_
 refine ao ?_
 refine ae ?_
 show JC _ _ _ _ _
 refine ah ?_
 refine bi rfl (fun hb=>?_) (fun hb=>?_)
 ·
  replace h:=ct (m8 hb) h
  obtain⟨q1,q2⟩:=q
  obtain⟨l,el,h⟩:=ab h
  obtain⟨l2,el2,h⟩:=ab h
  have hk:bX (q2.length+1):=by
   apply Classical.byContradiction
   intro hn
   rw [if_neg hn] at h
   cases h
  replace h:=ct hk h
  have cc:=mR k l l2 el2
  refine aU ?_
  refine ae ?_
  show JC _ _ _ _ _
  refine ah ?_
  refine aj ?_
  refine ah ?_
  refine aa ?_
  refine aA rfl (ba (t:=.slice (.int .i64)) rfl nI Cd el) ⟨rfl,rfl,trivial⟩ ?_
  refine aA rfl (au (t:=.slice (.int .i64)) rfl Cd rfl) ⟨rfl,trivial⟩ ?_
  refine dj rfl rfl ?_
  refine ao ?_
  refine ae ?_
  show JC _ _ _ _ _
  refine fh (Dk (pre:=[.obj y 128 (.agg (.pair (.at ap (a0,.map (some m))) (.eq z.1))),.inv m (a9 k a0),.obj b2 25 (.rep aG a0),.inv 0 ig])) ?_
  refine c9 1 rfl ?_
  refine fh (SE.sub (Γ':=lr b2 y L.1 q1 l a1) ⟨rfl,rfl,rfl,rfl,rfl,rfl,rfl,trivial⟩) ?_
  generalize hB:lr b2 y L.1 q1 l a1=B
  refine Au (Δ:=[.obj y 128 (.agg (.pair (.at ap (a0,.map (some m))) (.eq z.1))),.sl z.1 23 .val (dx z.2 0 q2)]) (F:=[.inv m (a9 k a0),.obj b2 25 (.rep aG a0),.inv 0 ig]++fM z.2 0 q2) (Z:=Value×Value) (fun p=>B) (fun p=>[.obj y 128 (.agg (.pair (.at ap (a0,.map (some m))) (.eq p.2))),.sl p.2 23 .val (dx z.2 0 q2++[p.1]),.sl p.1 3 (.int .i64) l2]) (fun S w=>?_) (fun p=>?_)
  ·
   subst hB
   refine Av (I:=Value×Value) (Ge:=fun _=>lr b2 y L.1 q1 l a1) (De:=fun p=>[.obj y 128 (.agg (.pair (.at ap (a0,.map (some m))) (.eq p.2))),.sl p.2 23 .val (dx z.2 0 q2++[p.1]),.sl p.1 3 (.int .i64) l2]) (L:=[true,true,true,true,true,true,true,true,true,true,true,true]) qy rfl (fun J hJ hE=>?_) (by kernel_rfl) (fun p=>?_)
   ·
    have s2047:∀(v v2:Value),J 1 [true,true,true,true,true,true,true,true,true,true,true,false] (ff [true,true,true,true,true,true,true,true,true,true,true,false] (l5 y z.1 l v v2)++lr b2 y L.1 q1 l a1) [.obj y 128 (.agg (.pair (.at ap (a0,.map (some m))) (.eq z.1))),.sl v2 23 .val (dx z.2 0 q2++[v]),.sl v 3 (.int .i64) l2]:=fun v v2=>by
     subst hJ
     refine JD.step [11] (by kernel_rfl) rfl ?_
     refine cz.cons rfl ?_ ?_
     ·
      refine bq 1 rfl ?_
      refine f9 fun hv=>?_
      refine bq 1 rfl ?_
      refine aZ rfl rfl (aR rfl nO hv rfl rfl) ⟨rfl,rfl,trivial⟩ ?_
      exact aB (hE (v,v2)) [0,1,2] ⟨rfl,rfl,rfl,rfl,rfl,rfl,rfl,trivial⟩
     exact trivial
    have s1023:∀(v v2:Value),J 2 [true,true,true,true,true,true,true,true,true,true,false,false] (ff [true,true,true,true,true,true,true,true,true,true,false,false] (l5 y z.1 l v v2)++lr b2 y L.1 q1 l a1) [.obj y 128 (.agg (.pair (.at ap (a0,.map (some m))) (.eq z.1))),.sl v2 23 .val (dx z.2 0 q2++[v]),.sl v 3 (.int .i64) l2]:=fun v v2=>by
     subst hJ
     refine JD.step [10] (by kernel_rfl) rfl ?_
     refine cz.cons rfl ?_ ?_
     ·
      refine aA rfl (aw rfl tP) ⟨rfl,trivial⟩ ?_
      exact aB (s2047 v v2) [0,1,2] ⟨rfl,rfl,rfl,rfl,rfl,rfl,rfl,rfl,rfl,rfl,rfl,rfl,rfl,rfl,rfl,rfl,rfl,rfl,trivial⟩
     exact trivial
    have s511:∀(v v2:Value),J 3 [true,true,true,true,true,true,true,true,true,false,false,false] (ff [true,true,true,true,true,true,true,true,true,false,false,false] (l5 y z.1 l v v2)++lr b2 y L.1 q1 l a1) [.obj y 128 (.agg (.pair (.at ap (a0,.map (some m))) (.eq z.1))),.sl v2 23 .val (dx z.2 0 q2++[v]),.sl v 3 (.int .i64) l2]:=fun v v2=>by
     subst hJ
     refine JD.step [9] (by kernel_rfl) rfl ?_
     refine cz.cons rfl ?_ ?_
     ·
      refine aA rfl (aS rfl) ⟨rfl,trivial⟩ ?_
      exact aB (s1023 v v2) [0,1,2] ⟨rfl,rfl,rfl,rfl,rfl,rfl,rfl,rfl,rfl,rfl,rfl,rfl,rfl,rfl,rfl,rfl,rfl,trivial⟩
     exact trivial
    have s255:∀(v:Value),J 4 [true,true,true,true,true,true,true,true,false,false,false,false] (ff [true,true,true,true,true,true,true,true,false,false,false,false] (l5 y z.1 l v undef)++lr b2 y L.1 q1 l a1) [.obj y 128 (.agg (.pair (.at ap (a0,.map (some m))) (.eq z.1))),.sl z.1 23 .val (dx z.2 0 q2),.sl v 3 (.int .i64) l2]:=fun v=>by
     subst hJ
     refine JD.step [8] (by kernel_rfl) rfl ?_
     refine cz.cons rfl ?_ ?_
     ·
      refine bq 1 rfl ?_
      refine dQ rfl rfl rfl (cp rfl rfl nP (by simpa [dH] using hk)) ⟨rfl,rfl,trivial⟩ fun v2=>?_
      exact aB (s511 v v2) [1,0,2] ⟨rfl,rfl,rfl,rfl,rfl,rfl,rfl,rfl,rfl,rfl,rfl,rfl,rfl,rfl,rfl,rfl,trivial⟩
     exact trivial
    have s510:∀(v v2:Value),J 4 [false,true,true,true,true,true,true,true,true,false,false,false] (ff [false,true,true,true,true,true,true,true,true,false,false,false] (l5 y z.1 l v v2)++lr b2 y L.1 q1 l a1) [.obj y 128 (.agg (.pair (.at ap (a0,.map (some m))) (.eq z.1))),.sl v2 23 .val (dx z.2 0 q2++[v]),.sl v 3 (.int .i64) l2]:=fun v v2=>by
     subst hJ
     refine JD.step [0] (by kernel_rfl) rfl ?_
     refine cz.cons rfl ?_ ?_
     ·
      refine av rfl rfl ?_
      exact aB (s511 v v2) [0,1,2] ⟨rfl,rfl,rfl,rfl,rfl,rfl,rfl,rfl,rfl,rfl,rfl,rfl,rfl,rfl,rfl,rfl,trivial⟩
     exact trivial
    have s127:∀(v:Value),J 5 [true,true,true,true,true,true,true,false,false,false,false,false] (ff [true,true,true,true,true,true,true,false,false,false,false,false] (l5 y z.1 l v undef)++lr b2 y L.1 q1 l a1) [.obj y 128 (.agg (.pair (.at ap (a0,.map (some m))) (.eq z.1))),.sl z.1 23 .val (dx z.2 0 q2),.sl v 3 (.int .i64) l2]:=fun v=>by
     subst hJ
     refine JD.step [7] (by kernel_rfl) rfl ?_
     refine cz.cons rfl ?_ ?_
     ·
      refine bq 2 rfl ?_
      refine f9 fun hv=>?_
      refine aA rfl (bF (t:=.val) [(.tmp 45,.eq v)] [v] rfl rfl nP (.cons hv (.val hv) .nil) rfl rfl) ⟨rfl,trivial⟩ ?_
      exact aB (s255 v) [1,2,0] ⟨rfl,rfl,rfl,rfl,rfl,rfl,rfl,rfl,rfl,rfl,rfl,rfl,rfl,rfl,rfl,trivial⟩
     exact trivial
    have s239:∀(v:Value),J 5 [true,true,true,true,false,true,true,true,false,false,false,false] (ff [true,true,true,true,false,true,true,true,false,false,false,false] (l5 y z.1 l v undef)++lr b2 y L.1 q1 l a1) [.obj y 128 (.agg (.pair (.at ap (a0,.map (some m))) (.eq z.1))),.sl z.1 23 .val (dx z.2 0 q2),.sl v 3 (.int .i64) l2]:=fun v=>by
     subst hJ
     refine JD.step [4] (by kernel_rfl) rfl ?_
     refine cz.cons rfl ?_ ?_
     ·
      refine bU rfl rfl rfl (ak rfl nO mr rfl) ⟨rfl,trivial⟩ ?_
      exact aB (s255 v) [0,1,2] ⟨rfl,rfl,rfl,rfl,rfl,rfl,rfl,rfl,rfl,rfl,rfl,rfl,rfl,rfl,rfl,trivial⟩
     exact trivial
    have s254:∀(v:Value),J 5 [false,true,true,true,true,true,true,true,false,false,false,false] (ff [false,true,true,true,true,true,true,true,false,false,false,false] (l5 y z.1 l v undef)++lr b2 y L.1 q1 l a1) [.obj y 128 (.agg (.pair (.at ap (a0,.map (some m))) (.eq z.1))),.sl z.1 23 .val (dx z.2 0 q2),.sl v 3 (.int .i64) l2]:=fun v=>by
     subst hJ
     refine JD.step [0,8] (by kernel_rfl) rfl ?_
     refine cz.cons rfl ?_ ?_
     ·
      refine av rfl rfl ?_
      exact aB (s255 v) [0,1,2] ⟨rfl,rfl,rfl,rfl,rfl,rfl,rfl,rfl,rfl,rfl,rfl,rfl,rfl,rfl,rfl,trivial⟩
     refine cz.cons rfl ?_ ?_
     ·
      refine bq 1 rfl ?_
      refine dQ rfl rfl rfl (cp rfl rfl nP (by simpa [dH] using hk)) ⟨rfl,rfl,trivial⟩ fun v2=>?_
      exact aB (s510 v v2) [1,0,2] ⟨rfl,rfl,rfl,rfl,rfl,rfl,rfl,rfl,rfl,rfl,rfl,rfl,rfl,rfl,rfl,trivial⟩
     exact trivial
    have s63:J 6 [true,true,true,true,true,true,false,false,false,false,false,false] (ff [true,true,true,true,true,true,false,false,false,false,false,false] (l5 y z.1 l undef undef)++lr b2 y L.1 q1 l a1) [.obj y 128 (.agg (.pair (.at ap (a0,.map (some m))) (.eq z.1))),.sl z.1 23 .val (dx z.2 0 q2)]:=by
     subst hJ
     refine JD.step [6] (by kernel_rfl) rfl ?_
     refine cz.cons rfl ?_ ?_
     ·
      refine ay rfl rfl rfl (an [.tmp 44] rfl rfl pX rfl cc) ⟨rfl,trivial⟩ fun v=>?_
      exact aB (s127 v) [1,2,0] ⟨rfl,rfl,rfl,rfl,rfl,rfl,rfl,rfl,rfl,rfl,rfl,rfl,rfl,rfl,trivial⟩
     exact trivial
    have s111:∀(v:Value),J 6 [true,true,true,true,false,true,true,false,false,false,false,false] (ff [true,true,true,true,false,true,true,false,false,false,false,false] (l5 y z.1 l v undef)++lr b2 y L.1 q1 l a1) [.obj y 128 (.agg (.pair (.at ap (a0,.map (some m))) (.eq z.1))),.sl z.1 23 .val (dx z.2 0 q2),.sl v 3 (.int .i64) l2]:=fun v=>by
     subst hJ
     refine JD.step [4,7] (by kernel_rfl) rfl ?_
     refine cz.cons rfl ?_ ?_
     ·
      refine bU rfl rfl rfl (ak rfl nO mr rfl) ⟨rfl,trivial⟩ ?_
      exact aB (s127 v) [0,1,2] ⟨rfl,rfl,rfl,rfl,rfl,rfl,rfl,rfl,rfl,rfl,rfl,rfl,rfl,rfl,trivial⟩
     refine cz.cons rfl ?_ ?_
     ·
      refine bq 2 rfl ?_
      refine f9 fun hv=>?_
      refine aA rfl (bF (t:=.val) [(.tmp 45,.eq v)] [v] rfl rfl nP (.cons hv (.val hv) .nil) rfl rfl) ⟨rfl,trivial⟩ ?_
      exact aB (s239 v) [1,2,0] ⟨rfl,rfl,rfl,rfl,rfl,rfl,rfl,rfl,rfl,rfl,rfl,rfl,rfl,rfl,trivial⟩
     exact trivial
    have s126:∀(v:Value),J 6 [false,true,true,true,true,true,true,false,false,false,false,false] (ff [false,true,true,true,true,true,true,false,false,false,false,false] (l5 y z.1 l v undef)++lr b2 y L.1 q1 l a1) [.obj y 128 (.agg (.pair (.at ap (a0,.map (some m))) (.eq z.1))),.sl z.1 23 .val (dx z.2 0 q2),.sl v 3 (.int .i64) l2]:=fun v=>by
     subst hJ
     refine JD.step [0,7] (by kernel_rfl) rfl ?_
     refine cz.cons rfl ?_ ?_
     ·
      refine av rfl rfl ?_
      exact aB (s127 v) [0,1,2] ⟨rfl,rfl,rfl,rfl,rfl,rfl,rfl,rfl,rfl,rfl,rfl,rfl,rfl,rfl,trivial⟩
     refine cz.cons rfl ?_ ?_
     ·
      refine bq 2 rfl ?_
      refine f9 fun hv=>?_
      refine aA rfl (bF (t:=.val) [(.tmp 45,.eq v)] [v] rfl rfl nP (.cons hv (.val hv) .nil) rfl rfl) ⟨rfl,trivial⟩ ?_
      exact aB (s254 v) [1,2,0] ⟨rfl,rfl,rfl,rfl,rfl,rfl,rfl,rfl,rfl,rfl,rfl,rfl,rfl,rfl,trivial⟩
     exact trivial
    have s231:∀(v:Value),J 6 [true,true,true,false,false,true,true,true,false,false,false,false] (ff [true,true,true,false,false,true,true,true,false,false,false,false] (l5 y z.1 l v undef)++lr b2 y L.1 q1 l a1) [.obj y 128 (.agg (.pair (.at ap (a0,.map (some m))) (.eq z.1))),.sl z.1 23 .val (dx z.2 0 q2),.sl v 3 (.int .i64) l2]:=fun v=>by
     subst hJ
     refine JD.step [3] (by kernel_rfl) rfl ?_
     refine cz.cons rfl ?_ ?_
     ·
      refine aA rfl (aw rfl tP) ⟨rfl,trivial⟩ ?_
      exact aB (s239 v) [0,1,2] ⟨rfl,rfl,rfl,rfl,rfl,rfl,rfl,rfl,rfl,rfl,rfl,rfl,rfl,rfl,trivial⟩
     exact trivial
    have s238:∀(v:Value),J 6 [false,true,true,true,false,true,true,true,false,false,false,false] (ff [false,true,true,true,false,true,true,true,false,false,false,false] (l5 y z.1 l v undef)++lr b2 y L.1 q1 l a1) [.obj y 128 (.agg (.pair (.at ap (a0,.map (some m))) (.eq z.1))),.sl z.1 23 .val (dx z.2 0 q2),.sl v 3 (.int .i64) l2]:=fun v=>by
     subst hJ
     refine JD.step [0,4] (by kernel_rfl) rfl ?_
     refine cz.cons rfl ?_ ?_
     ·
      refine av rfl rfl ?_
      exact aB (s239 v) [0,1,2] ⟨rfl,rfl,rfl,rfl,rfl,rfl,rfl,rfl,rfl,rfl,rfl,rfl,rfl,rfl,trivial⟩
     refine cz.cons rfl ?_ ?_
     ·
      refine bU rfl rfl rfl (ak rfl nO mr rfl) ⟨rfl,trivial⟩ ?_
      exact aB (s254 v) [0,1,2] ⟨rfl,rfl,rfl,rfl,rfl,rfl,rfl,rfl,rfl,rfl,rfl,rfl,rfl,rfl,trivial⟩
     exact trivial
    have s31:J 7 [true,true,true,true,true,false,false,false,false,false,false,false] (ff [true,true,true,true,true,false,false,false,false,false,false,false] (l5 y z.1 l undef undef)++lr b2 y L.1 q1 l a1) [.obj y 128 (.agg (.pair (.at ap (a0,.map (some m))) (.eq z.1))),.sl z.1 23 .val (dx z.2 0 q2)]:=by
     subst hJ
     refine JD.step [5] (by kernel_rfl) rfl ?_
     refine cz.cons rfl ?_ ?_
     ·
      refine av rfl rfl ?_
      exact aB (s63) [0,1] ⟨rfl,rfl,rfl,rfl,rfl,rfl,rfl,rfl,rfl,rfl,rfl,rfl,rfl,trivial⟩
     exact trivial
    have s47:J 7 [true,true,true,true,false,true,false,false,false,false,false,false] (ff [true,true,true,true,false,true,false,false,false,false,false,false] (l5 y z.1 l undef undef)++lr b2 y L.1 q1 l a1) [.obj y 128 (.agg (.pair (.at ap (a0,.map (some m))) (.eq z.1))),.sl z.1 23 .val (dx z.2 0 q2)]:=by
     subst hJ
     refine JD.step [4,6] (by kernel_rfl) rfl ?_
     refine cz.cons rfl ?_ ?_
     ·
      refine bU rfl rfl rfl (ak rfl nO mr rfl) ⟨rfl,trivial⟩ ?_
      exact aB (s63) [0,1] ⟨rfl,rfl,rfl,rfl,rfl,rfl,rfl,rfl,rfl,rfl,rfl,rfl,rfl,trivial⟩
     refine cz.cons rfl ?_ ?_
     ·
      refine ay rfl rfl rfl (an [.tmp 44] rfl rfl pX rfl cc) ⟨rfl,trivial⟩ fun v=>?_
      exact aB (s111 v) [1,2,0] ⟨rfl,rfl,rfl,rfl,rfl,rfl,rfl,rfl,rfl,rfl,rfl,rfl,rfl,trivial⟩
     exact trivial
    have s62:J 7 [false,true,true,true,true,true,false,false,false,false,false,false] (ff [false,true,true,true,true,true,false,false,false,false,false,false] (l5 y z.1 l undef undef)++lr b2 y L.1 q1 l a1) [.obj y 128 (.agg (.pair (.at ap (a0,.map (some m))) (.eq z.1))),.sl z.1 23 .val (dx z.2 0 q2)]:=by
     subst hJ
     refine JD.step [0,6] (by kernel_rfl) rfl ?_
     refine cz.cons rfl ?_ ?_
     ·
      refine av rfl rfl ?_
      exact aB (s63) [0,1] ⟨rfl,rfl,rfl,rfl,rfl,rfl,rfl,rfl,rfl,rfl,rfl,rfl,rfl,trivial⟩
     refine cz.cons rfl ?_ ?_
     ·
      refine ay rfl rfl rfl (an [.tmp 44] rfl rfl pX rfl cc) ⟨rfl,trivial⟩ fun v=>?_
      exact aB (s126 v) [1,2,0] ⟨rfl,rfl,rfl,rfl,rfl,rfl,rfl,rfl,rfl,rfl,rfl,rfl,rfl,trivial⟩
     exact trivial
    have s103:∀(v:Value),J 7 [true,true,true,false,false,true,true,false,false,false,false,false] (ff [true,true,true,false,false,true,true,false,false,false,false,false] (l5 y z.1 l v undef)++lr b2 y L.1 q1 l a1) [.obj y 128 (.agg (.pair (.at ap (a0,.map (some m))) (.eq z.1))),.sl z.1 23 .val (dx z.2 0 q2),.sl v 3 (.int .i64) l2]:=fun v=>by
     subst hJ
     refine JD.step [3,7] (by kernel_rfl) rfl ?_
     refine cz.cons rfl ?_ ?_
     ·
      refine aA rfl (aw rfl tP) ⟨rfl,trivial⟩ ?_
      exact aB (s111 v) [0,1,2] ⟨rfl,rfl,rfl,rfl,rfl,rfl,rfl,rfl,rfl,rfl,rfl,rfl,rfl,trivial⟩
     refine cz.cons rfl ?_ ?_
     ·
      refine bq 2 rfl ?_
      refine f9 fun hv=>?_
      refine aA rfl (bF (t:=.val) [(.tmp 45,.eq v)] [v] rfl rfl nP (.cons hv (.val hv) .nil) rfl rfl) ⟨rfl,trivial⟩ ?_
      exact aB (s231 v) [1,2,0] ⟨rfl,rfl,rfl,rfl,rfl,rfl,rfl,rfl,rfl,rfl,rfl,rfl,rfl,trivial⟩
     exact trivial
    have s110:∀(v:Value),J 7 [false,true,true,true,false,true,true,false,false,false,false,false] (ff [false,true,true,true,false,true,true,false,false,false,false,false] (l5 y z.1 l v undef)++lr b2 y L.1 q1 l a1) [.obj y 128 (.agg (.pair (.at ap (a0,.map (some m))) (.eq z.1))),.sl z.1 23 .val (dx z.2 0 q2),.sl v 3 (.int .i64) l2]:=fun v=>by
     subst hJ
     refine JD.step [0,4,7] (by kernel_rfl) rfl ?_
     refine cz.cons rfl ?_ ?_
     ·
      refine av rfl rfl ?_
      exact aB (s111 v) [0,1,2] ⟨rfl,rfl,rfl,rfl,rfl,rfl,rfl,rfl,rfl,rfl,rfl,rfl,rfl,trivial⟩
     refine cz.cons rfl ?_ ?_
     ·
      refine bU rfl rfl rfl (ak rfl nO mr rfl) ⟨rfl,trivial⟩ ?_
      exact aB (s126 v) [0,1,2] ⟨rfl,rfl,rfl,rfl,rfl,rfl,rfl,rfl,rfl,rfl,rfl,rfl,rfl,trivial⟩
     refine cz.cons rfl ?_ ?_
     ·
      refine bq 2 rfl ?_
      refine f9 fun hv=>?_
      refine aA rfl (bF (t:=.val) [(.tmp 45,.eq v)] [v] rfl rfl nP (.cons hv (.val hv) .nil) rfl rfl) ⟨rfl,trivial⟩ ?_
      exact aB (s238 v) [1,2,0] ⟨rfl,rfl,rfl,rfl,rfl,rfl,rfl,rfl,rfl,rfl,rfl,rfl,rfl,trivial⟩
     exact trivial
    have s227:∀(v:Value),J 7 [true,true,false,false,false,true,true,true,false,false,false,false] (ff [true,true,false,false,false,true,true,true,false,false,false,false] (l5 y z.1 l v undef)++lr b2 y L.1 q1 l a1) [.obj y 128 (.agg (.pair (.at ap (a0,.map (some m))) (.eq z.1))),.sl z.1 23 .val (dx z.2 0 q2),.sl v 3 (.int .i64) l2]:=fun v=>by
     subst hJ
     refine JD.step [2] (by kernel_rfl) rfl ?_
     refine cz.cons rfl ?_ ?_
     ·
      refine aA rfl (aS rfl) ⟨rfl,trivial⟩ ?_
      exact aB (s231 v) [0,1,2] ⟨rfl,rfl,rfl,rfl,rfl,rfl,rfl,rfl,rfl,rfl,rfl,rfl,rfl,trivial⟩
     exact trivial
    have s230:∀(v:Value),J 7 [false,true,true,false,false,true,true,true,false,false,false,false] (ff [false,true,true,false,false,true,true,true,false,false,false,false] (l5 y z.1 l v undef)++lr b2 y L.1 q1 l a1) [.obj y 128 (.agg (.pair (.at ap (a0,.map (some m))) (.eq z.1))),.sl z.1 23 .val (dx z.2 0 q2),.sl v 3 (.int .i64) l2]:=fun v=>by
     subst hJ
     refine JD.step [0,3] (by kernel_rfl) rfl ?_
     refine cz.cons rfl ?_ ?_
     ·
      refine av rfl rfl ?_
      exact aB (s231 v) [0,1,2] ⟨rfl,rfl,rfl,rfl,rfl,rfl,rfl,rfl,rfl,rfl,rfl,rfl,rfl,trivial⟩
     refine cz.cons rfl ?_ ?_
     ·
      refine aA rfl (aw rfl tP) ⟨rfl,trivial⟩ ?_
      exact aB (s238 v) [0,1,2] ⟨rfl,rfl,rfl,rfl,rfl,rfl,rfl,rfl,rfl,rfl,rfl,rfl,rfl,trivial⟩
     exact trivial
    have s15:J 8 [true,true,true,true,false,false,false,false,false,false,false,false] (ff [true,true,true,true,false,false,false,false,false,false,false,false] (l5 y z.1 l undef undef)++lr b2 y L.1 q1 l a1) [.obj y 128 (.agg (.pair (.at ap (a0,.map (some m))) (.eq z.1))),.sl z.1 23 .val (dx z.2 0 q2)]:=by
     subst hJ
     refine JD.step [4,5] (by kernel_rfl) rfl ?_
     refine cz.cons rfl ?_ ?_
     ·
      refine bU rfl rfl rfl (ak rfl nO mr rfl) ⟨rfl,trivial⟩ ?_
      exact aB (s31) [0,1] ⟨rfl,rfl,rfl,rfl,rfl,rfl,rfl,rfl,rfl,rfl,rfl,rfl,trivial⟩
     refine cz.cons rfl ?_ ?_
     ·
      refine av rfl rfl ?_
      exact aB (s47) [0,1] ⟨rfl,rfl,rfl,rfl,rfl,rfl,rfl,rfl,rfl,rfl,rfl,rfl,trivial⟩
     exact trivial
    have s30:J 8 [false,true,true,true,true,false,false,false,false,false,false,false] (ff [false,true,true,true,true,false,false,false,false,false,false,false] (l5 y z.1 l undef undef)++lr b2 y L.1 q1 l a1) [.obj y 128 (.agg (.pair (.at ap (a0,.map (some m))) (.eq z.1))),.sl z.1 23 .val (dx z.2 0 q2)]:=by
     subst hJ
     refine JD.step [0,5] (by kernel_rfl) rfl ?_
     refine cz.cons rfl ?_ ?_
     ·
      refine av rfl rfl ?_
      exact aB (s31) [0,1] ⟨rfl,rfl,rfl,rfl,rfl,rfl,rfl,rfl,rfl,rfl,rfl,rfl,trivial⟩
     refine cz.cons rfl ?_ ?_
     ·
      refine av rfl rfl ?_
      exact aB (s62) [0,1] ⟨rfl,rfl,rfl,rfl,rfl,rfl,rfl,rfl,rfl,rfl,rfl,rfl,trivial⟩
     exact trivial
    have s39:J 8 [true,true,true,false,false,true,false,false,false,false,false,false] (ff [true,true,true,false,false,true,false,false,false,false,false,false] (l5 y z.1 l undef undef)++lr b2 y L.1 q1 l a1) [.obj y 128 (.agg (.pair (.at ap (a0,.map (some m))) (.eq z.1))),.sl z.1 23 .val (dx z.2 0 q2)]:=by
     subst hJ
     refine JD.step [3,6] (by kernel_rfl) rfl ?_
     refine cz.cons rfl ?_ ?_
     ·
      refine aA rfl (aw rfl tP) ⟨rfl,trivial⟩ ?_
      exact aB (s47) [0,1] ⟨rfl,rfl,rfl,rfl,rfl,rfl,rfl,rfl,rfl,rfl,rfl,rfl,trivial⟩
     refine cz.cons rfl ?_ ?_
     ·
      refine ay rfl rfl rfl (an [.tmp 44] rfl rfl pX rfl cc) ⟨rfl,trivial⟩ fun v=>?_
      exact aB (s103 v) [1,2,0] ⟨rfl,rfl,rfl,rfl,rfl,rfl,rfl,rfl,rfl,rfl,rfl,rfl,trivial⟩
     exact trivial
    have s46:J 8 [false,true,true,true,false,true,false,false,false,false,false,false] (ff [false,true,true,true,false,true,false,false,false,false,false,false] (l5 y z.1 l undef undef)++lr b2 y L.1 q1 l a1) [.obj y 128 (.agg (.pair (.at ap (a0,.map (some m))) (.eq z.1))),.sl z.1 23 .val (dx z.2 0 q2)]:=by
     subst hJ
     refine JD.step [0,4,6] (by kernel_rfl) rfl ?_
     refine cz.cons rfl ?_ ?_
     ·
      refine av rfl rfl ?_
      exact aB (s47) [0,1] ⟨rfl,rfl,rfl,rfl,rfl,rfl,rfl,rfl,rfl,rfl,rfl,rfl,trivial⟩
     refine cz.cons rfl ?_ ?_
     ·
      refine bU rfl rfl rfl (ak rfl nO mr rfl) ⟨rfl,trivial⟩ ?_
      exact aB (s62) [0,1] ⟨rfl,rfl,rfl,rfl,rfl,rfl,rfl,rfl,rfl,rfl,rfl,rfl,trivial⟩
     refine cz.cons rfl ?_ ?_
     ·
      refine ay rfl rfl rfl (an [.tmp 44] rfl rfl pX rfl cc) ⟨rfl,trivial⟩ fun v=>?_
      exact aB (s110 v) [1,2,0] ⟨rfl,rfl,rfl,rfl,rfl,rfl,rfl,rfl,rfl,rfl,rfl,rfl,trivial⟩
     exact trivial
    have s99:∀(v:Value),J 8 [true,true,false,false,false,true,true,false,false,false,false,false] (ff [true,true,false,false,false,true,true,false,false,false,false,false] (l5 y z.1 l v undef)++lr b2 y L.1 q1 l a1) [.obj y 128 (.agg (.pair (.at ap (a0,.map (some m))) (.eq z.1))),.sl z.1 23 .val (dx z.2 0 q2),.sl v 3 (.int .i64) l2]:=fun v=>by
     subst hJ
     refine JD.step [2,7] (by kernel_rfl) rfl ?_
     refine cz.cons rfl ?_ ?_
     ·
      refine aA rfl (aS rfl) ⟨rfl,trivial⟩ ?_
      exact aB (s103 v) [0,1,2] ⟨rfl,rfl,rfl,rfl,rfl,rfl,rfl,rfl,rfl,rfl,rfl,rfl,trivial⟩
     refine cz.cons rfl ?_ ?_
     ·
      refine bq 2 rfl ?_
      refine f9 fun hv=>?_
      refine aA rfl (bF (t:=.val) [(.tmp 45,.eq v)] [v] rfl rfl nP (.cons hv (.val hv) .nil) rfl rfl) ⟨rfl,trivial⟩ ?_
      exact aB (s227 v) [1,2,0] ⟨rfl,rfl,rfl,rfl,rfl,rfl,rfl,rfl,rfl,rfl,rfl,rfl,trivial⟩
     exact trivial
    have s102:∀(v:Value),J 8 [false,true,true,false,false,true,true,false,false,false,false,false] (ff [false,true,true,false,false,true,true,false,false,false,false,false] (l5 y z.1 l v undef)++lr b2 y L.1 q1 l a1) [.obj y 128 (.agg (.pair (.at ap (a0,.map (some m))) (.eq z.1))),.sl z.1 23 .val (dx z.2 0 q2),.sl v 3 (.int .i64) l2]:=fun v=>by
     subst hJ
     refine JD.step [0,3,7] (by kernel_rfl) rfl ?_
     refine cz.cons rfl ?_ ?_
     ·
      refine av rfl rfl ?_
      exact aB (s103 v) [0,1,2] ⟨rfl,rfl,rfl,rfl,rfl,rfl,rfl,rfl,rfl,rfl,rfl,rfl,trivial⟩
     refine cz.cons rfl ?_ ?_
     ·
      refine aA rfl (aw rfl tP) ⟨rfl,trivial⟩ ?_
      exact aB (s110 v) [0,1,2] ⟨rfl,rfl,rfl,rfl,rfl,rfl,rfl,rfl,rfl,rfl,rfl,rfl,trivial⟩
     refine cz.cons rfl ?_ ?_
     ·
      refine bq 2 rfl ?_
      refine f9 fun hv=>?_
      refine aA rfl (bF (t:=.val) [(.tmp 45,.eq v)] [v] rfl rfl nP (.cons hv (.val hv) .nil) rfl rfl) ⟨rfl,trivial⟩ ?_
      exact aB (s230 v) [1,2,0] ⟨rfl,rfl,rfl,rfl,rfl,rfl,rfl,rfl,rfl,rfl,rfl,rfl,trivial⟩
     exact trivial
    have s225:∀(v:Value),J 8 [true,false,false,false,false,true,true,true,false,false,false,false] (ff [true,false,false,false,false,true,true,true,false,false,false,false] (l5 y z.1 l v undef)++lr b2 y L.1 q1 l a1) [.obj y 128 (.agg (.pair (.at ap (a0,.map (some m))) (.eq z.1))),.sl z.1 23 .val (dx z.2 0 q2),.sl v 3 (.int .i64) l2]:=fun v=>by
     subst hJ
     refine JD.step [1] (by kernel_rfl) rfl ?_
     refine cz.cons rfl ?_ ?_
     ·
      refine av rfl rfl ?_
      exact aB (s227 v) [0,1,2] ⟨rfl,rfl,rfl,rfl,rfl,rfl,rfl,rfl,rfl,rfl,rfl,rfl,trivial⟩
     exact trivial
    have s226:∀(v:Value),J 8 [false,true,false,false,false,true,true,true,false,false,false,false] (ff [false,true,false,false,false,true,true,true,false,false,false,false] (l5 y z.1 l v undef)++lr b2 y L.1 q1 l a1) [.obj y 128 (.agg (.pair (.at ap (a0,.map (some m))) (.eq z.1))),.sl z.1 23 .val (dx z.2 0 q2),.sl v 3 (.int .i64) l2]:=fun v=>by
     subst hJ
     refine JD.step [0,2] (by kernel_rfl) rfl ?_
     refine cz.cons rfl ?_ ?_
     ·
      refine av rfl rfl ?_
      exact aB (s227 v) [0,1,2] ⟨rfl,rfl,rfl,rfl,rfl,rfl,rfl,rfl,rfl,rfl,rfl,rfl,trivial⟩
     refine cz.cons rfl ?_ ?_
     ·
      refine aA rfl (aS rfl) ⟨rfl,trivial⟩ ?_
      exact aB (s230 v) [0,1,2] ⟨rfl,rfl,rfl,rfl,rfl,rfl,rfl,rfl,rfl,rfl,rfl,rfl,trivial⟩
     exact trivial
    have s7:J 9 [true,true,true,false,false,false,false,false,false,false,false,false] (ff [true,true,true,false,false,false,false,false,false,false,false,false] (l5 y z.1 l undef undef)++lr b2 y L.1 q1 l a1) [.obj y 128 (.agg (.pair (.at ap (a0,.map (some m))) (.eq z.1))),.sl z.1 23 .val (dx z.2 0 q2)]:=by
     subst hJ
     refine JD.step [3,5] (by kernel_rfl) rfl ?_
     refine cz.cons rfl ?_ ?_
     ·
      refine aA rfl (aw rfl tP) ⟨rfl,trivial⟩ ?_
      exact aB (s15) [0,1] ⟨rfl,rfl,rfl,rfl,rfl,rfl,rfl,rfl,rfl,rfl,rfl,trivial⟩
     refine cz.cons rfl ?_ ?_
     ·
      refine av rfl rfl ?_
      exact aB (s39) [0,1] ⟨rfl,rfl,rfl,rfl,rfl,rfl,rfl,rfl,rfl,rfl,rfl,trivial⟩
     exact trivial
    have s14:J 9 [false,true,true,true,false,false,false,false,false,false,false,false] (ff [false,true,true,true,false,false,false,false,false,false,false,false] (l5 y z.1 l undef undef)++lr b2 y L.1 q1 l a1) [.obj y 128 (.agg (.pair (.at ap (a0,.map (some m))) (.eq z.1))),.sl z.1 23 .val (dx z.2 0 q2)]:=by
     subst hJ
     refine JD.step [0,4,5] (by kernel_rfl) rfl ?_
     refine cz.cons rfl ?_ ?_
     ·
      refine av rfl rfl ?_
      exact aB (s15) [0,1] ⟨rfl,rfl,rfl,rfl,rfl,rfl,rfl,rfl,rfl,rfl,rfl,trivial⟩
     refine cz.cons rfl ?_ ?_
     ·
      refine bU rfl rfl rfl (ak rfl nO mr rfl) ⟨rfl,trivial⟩ ?_
      exact aB (s30) [0,1] ⟨rfl,rfl,rfl,rfl,rfl,rfl,rfl,rfl,rfl,rfl,rfl,trivial⟩
     refine cz.cons rfl ?_ ?_
     ·
      refine av rfl rfl ?_
      exact aB (s46) [0,1] ⟨rfl,rfl,rfl,rfl,rfl,rfl,rfl,rfl,rfl,rfl,rfl,trivial⟩
     exact trivial
    have s35:J 9 [true,true,false,false,false,true,false,false,false,false,false,false] (ff [true,true,false,false,false,true,false,false,false,false,false,false] (l5 y z.1 l undef undef)++lr b2 y L.1 q1 l a1) [.obj y 128 (.agg (.pair (.at ap (a0,.map (some m))) (.eq z.1))),.sl z.1 23 .val (dx z.2 0 q2)]:=by
     subst hJ
     refine JD.step [2,6] (by kernel_rfl) rfl ?_
     refine cz.cons rfl ?_ ?_
     ·
      refine aA rfl (aS rfl) ⟨rfl,trivial⟩ ?_
      exact aB (s39) [0,1] ⟨rfl,rfl,rfl,rfl,rfl,rfl,rfl,rfl,rfl,rfl,rfl,trivial⟩
     refine cz.cons rfl ?_ ?_
     ·
      refine ay rfl rfl rfl (an [.tmp 44] rfl rfl pX rfl cc) ⟨rfl,trivial⟩ fun v=>?_
      exact aB (s99 v) [1,2,0] ⟨rfl,rfl,rfl,rfl,rfl,rfl,rfl,rfl,rfl,rfl,rfl,trivial⟩
     exact trivial
    have s38:J 9 [false,true,true,false,false,true,false,false,false,false,false,false] (ff [false,true,true,false,false,true,false,false,false,false,false,false] (l5 y z.1 l undef undef)++lr b2 y L.1 q1 l a1) [.obj y 128 (.agg (.pair (.at ap (a0,.map (some m))) (.eq z.1))),.sl z.1 23 .val (dx z.2 0 q2)]:=by
     subst hJ
     refine JD.step [0,3,6] (by kernel_rfl) rfl ?_
     refine cz.cons rfl ?_ ?_
     ·
      refine av rfl rfl ?_
      exact aB (s39) [0,1] ⟨rfl,rfl,rfl,rfl,rfl,rfl,rfl,rfl,rfl,rfl,rfl,trivial⟩
     refine cz.cons rfl ?_ ?_
     ·
      refine aA rfl (aw rfl tP) ⟨rfl,trivial⟩ ?_
      exact aB (s46) [0,1] ⟨rfl,rfl,rfl,rfl,rfl,rfl,rfl,rfl,rfl,rfl,rfl,trivial⟩
     refine cz.cons rfl ?_ ?_
     ·
      refine ay rfl rfl rfl (an [.tmp 44] rfl rfl pX rfl cc) ⟨rfl,trivial⟩ fun v=>?_
      exact aB (s102 v) [1,2,0] ⟨rfl,rfl,rfl,rfl,rfl,rfl,rfl,rfl,rfl,rfl,rfl,trivial⟩
     exact trivial
    have s97:∀(v:Value),J 9 [true,false,false,false,false,true,true,false,false,false,false,false] (ff [true,false,false,false,false,true,true,false,false,false,false,false] (l5 y z.1 l v undef)++lr b2 y L.1 q1 l a1) [.obj y 128 (.agg (.pair (.at ap (a0,.map (some m))) (.eq z.1))),.sl z.1 23 .val (dx z.2 0 q2),.sl v 3 (.int .i64) l2]:=fun v=>by
     subst hJ
     refine JD.step [1,7] (by kernel_rfl) rfl ?_
     refine cz.cons rfl ?_ ?_
     ·
      refine av rfl rfl ?_
      exact aB (s99 v) [0,1,2] ⟨rfl,rfl,rfl,rfl,rfl,rfl,rfl,rfl,rfl,rfl,rfl,trivial⟩
     refine cz.cons rfl ?_ ?_
     ·
      refine bq 2 rfl ?_
      refine f9 fun hv=>?_
      refine aA rfl (bF (t:=.val) [(.tmp 45,.eq v)] [v] rfl rfl nP (.cons hv (.val hv) .nil) rfl rfl) ⟨rfl,trivial⟩ ?_
      exact aB (s225 v) [1,2,0] ⟨rfl,rfl,rfl,rfl,rfl,rfl,rfl,rfl,rfl,rfl,rfl,trivial⟩
     exact trivial
    have s98:∀(v:Value),J 9 [false,true,false,false,false,true,true,false,false,false,false,false] (ff [false,true,false,false,false,true,true,false,false,false,false,false] (l5 y z.1 l v undef)++lr b2 y L.1 q1 l a1) [.obj y 128 (.agg (.pair (.at ap (a0,.map (some m))) (.eq z.1))),.sl z.1 23 .val (dx z.2 0 q2),.sl v 3 (.int .i64) l2]:=fun v=>by
     subst hJ
     refine JD.step [0,2,7] (by kernel_rfl) rfl ?_
     refine cz.cons rfl ?_ ?_
     ·
      refine av rfl rfl ?_
      exact aB (s99 v) [0,1,2] ⟨rfl,rfl,rfl,rfl,rfl,rfl,rfl,rfl,rfl,rfl,rfl,trivial⟩
     refine cz.cons rfl ?_ ?_
     ·
      refine aA rfl (aS rfl) ⟨rfl,trivial⟩ ?_
      exact aB (s102 v) [0,1,2] ⟨rfl,rfl,rfl,rfl,rfl,rfl,rfl,rfl,rfl,rfl,rfl,trivial⟩
     refine cz.cons rfl ?_ ?_
     ·
      refine bq 2 rfl ?_
      refine f9 fun hv=>?_
      refine aA rfl (bF (t:=.val) [(.tmp 45,.eq v)] [v] rfl rfl nP (.cons hv (.val hv) .nil) rfl rfl) ⟨rfl,trivial⟩ ?_
      exact aB (s226 v) [1,2,0] ⟨rfl,rfl,rfl,rfl,rfl,rfl,rfl,rfl,rfl,rfl,rfl,trivial⟩
     exact trivial
    have s224:∀(v:Value),J 9 [false,false,false,false,false,true,true,true,false,false,false,false] (ff [false,false,false,false,false,true,true,true,false,false,false,false] (l5 y z.1 l v undef)++lr b2 y L.1 q1 l a1) [.obj y 128 (.agg (.pair (.at ap (a0,.map (some m))) (.eq z.1))),.sl z.1 23 .val (dx z.2 0 q2),.sl v 3 (.int .i64) l2]:=fun v=>by
     subst hJ
     refine JD.step [0,1] (by kernel_rfl) rfl ?_
     refine cz.cons rfl ?_ ?_
     ·
      refine av rfl rfl ?_
      exact aB (s225 v) [0,1,2] ⟨rfl,rfl,rfl,rfl,rfl,rfl,rfl,rfl,rfl,rfl,rfl,trivial⟩
     refine cz.cons rfl ?_ ?_
     ·
      refine av rfl rfl ?_
      exact aB (s226 v) [0,1,2] ⟨rfl,rfl,rfl,rfl,rfl,rfl,rfl,rfl,rfl,rfl,rfl,trivial⟩
     exact trivial
    have s3:J 10 [true,true,false,false,false,false,false,false,false,false,false,false] (ff [true,true,false,false,false,false,false,false,false,false,false,false] (l5 y z.1 l undef undef)++lr b2 y L.1 q1 l a1) [.obj y 128 (.agg (.pair (.at ap (a0,.map (some m))) (.eq z.1))),.sl z.1 23 .val (dx z.2 0 q2)]:=by
     subst hJ
     refine JD.step [2,5] (by kernel_rfl) rfl ?_
     refine cz.cons rfl ?_ ?_
     ·
      refine aA rfl (aS rfl) ⟨rfl,trivial⟩ ?_
      exact aB (s7) [0,1] ⟨rfl,rfl,rfl,rfl,rfl,rfl,rfl,rfl,rfl,rfl,trivial⟩
     refine cz.cons rfl ?_ ?_
     ·
      refine av rfl rfl ?_
      exact aB (s35) [0,1] ⟨rfl,rfl,rfl,rfl,rfl,rfl,rfl,rfl,rfl,rfl,trivial⟩
     exact trivial
    have s6:J 10 [false,true,true,false,false,false,false,false,false,false,false,false] (ff [false,true,true,false,false,false,false,false,false,false,false,false] (l5 y z.1 l undef undef)++lr b2 y L.1 q1 l a1) [.obj y 128 (.agg (.pair (.at ap (a0,.map (some m))) (.eq z.1))),.sl z.1 23 .val (dx z.2 0 q2)]:=by
     subst hJ
     refine JD.step [0,3,5] (by kernel_rfl) rfl ?_
     refine cz.cons rfl ?_ ?_
     ·
      refine av rfl rfl ?_
      exact aB (s7) [0,1] ⟨rfl,rfl,rfl,rfl,rfl,rfl,rfl,rfl,rfl,rfl,trivial⟩
     refine cz.cons rfl ?_ ?_
     ·
      refine aA rfl (aw rfl tP) ⟨rfl,trivial⟩ ?_
      exact aB (s14) [0,1] ⟨rfl,rfl,rfl,rfl,rfl,rfl,rfl,rfl,rfl,rfl,trivial⟩
     refine cz.cons rfl ?_ ?_
     ·
      refine av rfl rfl ?_
      exact aB (s38) [0,1] ⟨rfl,rfl,rfl,rfl,rfl,rfl,rfl,rfl,rfl,rfl,trivial⟩
     exact trivial
    have s33:J 10 [true,false,false,false,false,true,false,false,false,false,false,false] (ff [true,false,false,false,false,true,false,false,false,false,false,false] (l5 y z.1 l undef undef)++lr b2 y L.1 q1 l a1) [.obj y 128 (.agg (.pair (.at ap (a0,.map (some m))) (.eq z.1))),.sl z.1 23 .val (dx z.2 0 q2)]:=by
     subst hJ
     refine JD.step [1,6] (by kernel_rfl) rfl ?_
     refine cz.cons rfl ?_ ?_
     ·
      refine av rfl rfl ?_
      exact aB (s35) [0,1] ⟨rfl,rfl,rfl,rfl,rfl,rfl,rfl,rfl,rfl,rfl,trivial⟩
     refine cz.cons rfl ?_ ?_
     ·
      refine ay rfl rfl rfl (an [.tmp 44] rfl rfl pX rfl cc) ⟨rfl,trivial⟩ fun v=>?_
      exact aB (s97 v) [1,2,0] ⟨rfl,rfl,rfl,rfl,rfl,rfl,rfl,rfl,rfl,rfl,trivial⟩
     exact trivial
    have s34:J 10 [false,true,false,false,false,true,false,false,false,false,false,false] (ff [false,true,false,false,false,true,false,false,false,false,false,false] (l5 y z.1 l undef undef)++lr b2 y L.1 q1 l a1) [.obj y 128 (.agg (.pair (.at ap (a0,.map (some m))) (.eq z.1))),.sl z.1 23 .val (dx z.2 0 q2)]:=by
     subst hJ
     refine JD.step [0,2,6] (by kernel_rfl) rfl ?_
     refine cz.cons rfl ?_ ?_
     ·
      refine av rfl rfl ?_
      exact aB (s35) [0,1] ⟨rfl,rfl,rfl,rfl,rfl,rfl,rfl,rfl,rfl,rfl,trivial⟩
     refine cz.cons rfl ?_ ?_
     ·
      refine aA rfl (aS rfl) ⟨rfl,trivial⟩ ?_
      exact aB (s38) [0,1] ⟨rfl,rfl,rfl,rfl,rfl,rfl,rfl,rfl,rfl,rfl,trivial⟩
     refine cz.cons rfl ?_ ?_
     ·
      refine ay rfl rfl rfl (an [.tmp 44] rfl rfl pX rfl cc) ⟨rfl,trivial⟩ fun v=>?_
      exact aB (s98 v) [1,2,0] ⟨rfl,rfl,rfl,rfl,rfl,rfl,rfl,rfl,rfl,rfl,trivial⟩
     exact trivial
    have s96:∀(v:Value),J 10 [false,false,false,false,false,true,true,false,false,false,false,false] (ff [false,false,false,false,false,true,true,false,false,false,false,false] (l5 y z.1 l v undef)++lr b2 y L.1 q1 l a1) [.obj y 128 (.agg (.pair (.at ap (a0,.map (some m))) (.eq z.1))),.sl z.1 23 .val (dx z.2 0 q2),.sl v 3 (.int .i64) l2]:=fun v=>by
     subst hJ
     refine JD.step [0,1,7] (by kernel_rfl) rfl ?_
     refine cz.cons rfl ?_ ?_
     ·
      refine av rfl rfl ?_
      exact aB (s97 v) [0,1,2] ⟨rfl,rfl,rfl,rfl,rfl,rfl,rfl,rfl,rfl,rfl,trivial⟩
     refine cz.cons rfl ?_ ?_
     ·
      refine av rfl rfl ?_
      exact aB (s98 v) [0,1,2] ⟨rfl,rfl,rfl,rfl,rfl,rfl,rfl,rfl,rfl,rfl,trivial⟩
     refine cz.cons rfl ?_ ?_
     ·
      refine bq 2 rfl ?_
      refine f9 fun hv=>?_
      refine aA rfl (bF (t:=.val) [(.tmp 45,.eq v)] [v] rfl rfl nP (.cons hv (.val hv) .nil) rfl rfl) ⟨rfl,trivial⟩ ?_
      exact aB (s224 v) [1,2,0] ⟨rfl,rfl,rfl,rfl,rfl,rfl,rfl,rfl,rfl,rfl,trivial⟩
     exact trivial
    have s1:J 11 [true,false,false,false,false,false,false,false,false,false,false,false] (ff [true,false,false,false,false,false,false,false,false,false,false,false] (l5 y z.1 l undef undef)++lr b2 y L.1 q1 l a1) [.obj y 128 (.agg (.pair (.at ap (a0,.map (some m))) (.eq z.1))),.sl z.1 23 .val (dx z.2 0 q2)]:=by
     subst hJ
     refine JD.step [1,5] (by kernel_rfl) rfl ?_
     refine cz.cons rfl ?_ ?_
     ·
      refine av rfl rfl ?_
      exact aB (s3) [0,1] ⟨rfl,rfl,rfl,rfl,rfl,rfl,rfl,rfl,rfl,trivial⟩
     refine cz.cons rfl ?_ ?_
     ·
      refine av rfl rfl ?_
      exact aB (s33) [0,1] ⟨rfl,rfl,rfl,rfl,rfl,rfl,rfl,rfl,rfl,trivial⟩
     exact trivial
    have s2:J 11 [false,true,false,false,false,false,false,false,false,false,false,false] (ff [false,true,false,false,false,false,false,false,false,false,false,false] (l5 y z.1 l undef undef)++lr b2 y L.1 q1 l a1) [.obj y 128 (.agg (.pair (.at ap (a0,.map (some m))) (.eq z.1))),.sl z.1 23 .val (dx z.2 0 q2)]:=by
     subst hJ
     refine JD.step [0,2,5] (by kernel_rfl) rfl ?_
     refine cz.cons rfl ?_ ?_
     ·
      refine av rfl rfl ?_
      exact aB (s3) [0,1] ⟨rfl,rfl,rfl,rfl,rfl,rfl,rfl,rfl,rfl,trivial⟩
     refine cz.cons rfl ?_ ?_
     ·
      refine aA rfl (aS rfl) ⟨rfl,trivial⟩ ?_
      exact aB (s6) [0,1] ⟨rfl,rfl,rfl,rfl,rfl,rfl,rfl,rfl,rfl,trivial⟩
     refine cz.cons rfl ?_ ?_
     ·
      refine av rfl rfl ?_
      exact aB (s34) [0,1] ⟨rfl,rfl,rfl,rfl,rfl,rfl,rfl,rfl,rfl,trivial⟩
     exact trivial
    have s32:J 11 [false,false,false,false,false,true,false,false,false,false,false,false] (ff [false,false,false,false,false,true,false,false,false,false,false,false] (l5 y z.1 l undef undef)++lr b2 y L.1 q1 l a1) [.obj y 128 (.agg (.pair (.at ap (a0,.map (some m))) (.eq z.1))),.sl z.1 23 .val (dx z.2 0 q2)]:=by
     subst hJ
     refine JD.step [0,1,6] (by kernel_rfl) rfl ?_
     refine cz.cons rfl ?_ ?_
     ·
      refine av rfl rfl ?_
      exact aB (s33) [0,1] ⟨rfl,rfl,rfl,rfl,rfl,rfl,rfl,rfl,rfl,trivial⟩
     refine cz.cons rfl ?_ ?_
     ·
      refine av rfl rfl ?_
      exact aB (s34) [0,1] ⟨rfl,rfl,rfl,rfl,rfl,rfl,rfl,rfl,rfl,trivial⟩
     refine cz.cons rfl ?_ ?_
     ·
      refine ay rfl rfl rfl (an [.tmp 44] rfl rfl pX rfl cc) ⟨rfl,trivial⟩ fun v=>?_
      exact aB (s96 v) [1,2,0] ⟨rfl,rfl,rfl,rfl,rfl,rfl,rfl,rfl,rfl,trivial⟩
     exact trivial
    have s0:J 12 [false,false,false,false,false,false,false,false,false,false,false,false] (ff [false,false,false,false,false,false,false,false,false,false,false,false] (l5 y z.1 l undef undef)++lr b2 y L.1 q1 l a1) [.obj y 128 (.agg (.pair (.at ap (a0,.map (some m))) (.eq z.1))),.sl z.1 23 .val (dx z.2 0 q2)]:=by
     subst hJ
     refine JD.step [0,1,5] (by kernel_rfl) rfl ?_
     refine cz.cons rfl ?_ ?_
     ·
      refine av rfl rfl ?_
      exact aB (s1) [0,1] ⟨rfl,rfl,rfl,rfl,rfl,rfl,rfl,rfl,trivial⟩
     refine cz.cons rfl ?_ ?_
     ·
      refine av rfl rfl ?_
      exact aB (s2) [0,1] ⟨rfl,rfl,rfl,rfl,rfl,rfl,rfl,rfl,trivial⟩
     refine cz.cons rfl ?_ ?_
     ·
      refine av rfl rfl ?_
      exact aB (s32) [0,1] ⟨rfl,rfl,rfl,rfl,rfl,rfl,rfl,rfl,trivial⟩
     exact trivial
    exact s0
   ·
    exact fun a w st=>⟨rfl,p,st⟩
  ·
   subst hB
   refine aJ ?_
   refine ae ?_
   refine bM (f7 (Δ':=.sl p.1 3 (.int .i64) l2:: .sl p.2 23 .val (dx z.2 0 q2++[p.1])::([.obj y 128 (.agg (.pair (.at ap (a0,.map (some m))) (.eq p.2))),.inv m (a9 k a0),.obj b2 25 (.rep aG a0),.inv 0 ig]++fM z.2 0 q2)) ?_) ?_
   ·
    exact List.Perm.trans (List.Perm.swap _ _ _) (List.Perm.trans (List.Perm.cons _ (List.Perm.swap _ _ _)) (List.Perm.swap _ _ _))
   refine bM (EO (pre:=[.obj y 128 (.agg (.pair (.at ap (a0,.map (some m))) (.eq p.2))),.inv m (a9 k a0),.obj b2 25 (.rep aG a0),.inv 0 ig])) ?_
   show JC _ _ _ _ _
   refine aa ?_
   obtain⟨w3,ew,h⟩:=ab h
   refine aA rfl (bg rfl ew) ⟨rfl,rfl,trivial⟩ ?_
   refine av rfl rfl ?_
   refine ao ?_
   refine ae ?_
   exact iy ((p.2,nX z.2 q2.length p.1),(w3,q2++[l2])) h (bI [.obj y 128 (.agg (.pair (.at ap (a0,.map (some m))) (.eq p.2))),.inv m (a9 k a0),.obj b2 25 (.rep aG a0),.inv 0 ig] (jh 23 (p.2,nX z.2 q2.length p.1) (q2++[l2])) [0,1,2,3] ⟨rfl,rfl,rfl,rfl,rfl,rfl,trivial⟩ rfl)
 replace h:=bL (mz hb) h
 refine dA ?_
 refine aM ?_
 refine aM ?_
 refine bR ?_
 refine ae ?_
 show JC _ _ _ _ _
 replace h:((jg k a0 k (0,[],q.2)).bind fun p=>(lp k a0 p.1 p.2).bind fun b=>if(!b.2.2.1 || decide (L.1≤b.2.1))=true then some (0,0,0,11) else some (b.1.1,b.1.2,b.2.1,0)).bind some=some r:=h
 rw [Option.bind_assoc] at h
 generalize q.2=ls at h⊢
 refine ah ?_
 refine aa ?_
 refine dG rfl ?_
 refine cI (SE.nil 131 eS) ?_
 refine ao ?_
 refine ae ?_
 show JC _ _ _ _ _
 refine fh (bI (Γ':=[(2,.eq (bP b2)),(8,.eq (.int .i64 L.1)),(10,.eq (bP y)),(13,.eq (.slice none 0 0))]) (pre':=[.inv m (a9 k a0),.obj b2 25 (.rep aG a0),.inv 0 ig,.sl (.slice none 0 0) 131 eS [],.obj y 128 (.agg (.pair (.at ap (a0,.map (some m))) (.eq z.1)))]) [.sl (.slice none 0 0) 131 eS [],.obj y 128 (.agg (.pair (.at ap (a0,.map (some m))) (.eq z.1))),.inv m (a9 k a0),.obj b2 25 (.rep aG a0),.inv 0 ig] (jh 23 z ls) [2,3,4,0,1] ⟨rfl,rfl,rfl,rfl,trivial⟩ rfl) ?_
 refine ah ?_
 refine ah ?_
 refine aa ?_
 refine aA rfl (aw rfl K1) ⟨rfl,trivial⟩ ?_
 refine bq 1 rfl ?_
 refine bU rfl rfl rfl (ak rfl KH mr rfl) ⟨rfl,trivial⟩ ?_
 refine aA rfl (jJ rfl rfl Aj) ⟨rfl,trivial⟩ ?_
 refine dX rfl ?_
 refine ao ?_
 refine ae ?_
 show JC _ _ _ _ _
 refine aj ?_
 refine aK (Z:=Value) (α:=Int×List (Int×Int)×List (List Int)) (fun c q=>[(2,.eq (bP b2)),(8,.eq (.int .i64 L.1)),(10,.eq (bP y)),(13,.eq c),(53,.eq (.int .i64 (a0.2.1.length:Int))),(54,.eq (.int .i64 q.1))]) (fun c q=>[.obj b2 25 (.rep aG a0),.inv m (a9 k a0),.inv 0 ig,.sl c 131 eS q.2.1,.obj y 128 (.agg (.pair (.at ap (a0,.map (some m))) (.eq z.1)))]++jh 23 z q.2.2) (jg k a0) k (.slice none 0 0) (0,[],ls) (fun _=>rfl) h (bI [.obj b2 25 (.rep aG a0),.inv m (a9 k a0),.inv 0 ig,.sl (.slice none 0 0) 131 eS [],.obj y 128 (.agg (.pair (.at ap (a0,.map (some m))) (.eq z.1)))] (jh 23 z ls) [0,1,2,3,4] ⟨rfl,rfl,rfl,rfl,rfl,rfl,trivial⟩ rfl) (fun n c q h=>?_)
 obtain⟨q1,qp,ql⟩:=q
 unfold jg at h
 refine ah ?_
 refine aa ?_
 refine aA rfl (bv rfl) ⟨rfl,rfl,trivial⟩ ?_
 refine ao ?_
 refine ae ?_
 show JC _ _ _ _ _
 refine ah ?_
 refine bi rfl (fun hb=>?_) (fun hb=>?_)
 ·
  replace h:=ct (m8 hb) h
  obtain⟨w,ew,h⟩:=ab h
  rw [Option.bind_assoc] at h
  refine aU ?_
  refine ae ?_
  show JC _ _ _ _ _
  refine ah ?_
  refine aj ?_
  refine ah ?_
  refine aa ?_
  refine av rfl rfl ?_
  refine dj rfl rfl ?_
  refine ao ?_
  refine ae ?_
  show JC _ _ _ _ _
  refine ah ?_
  refine aa ?_
  refine av rfl rfl ?_
  refine aA rfl (bg rfl ew) ⟨rfl,rfl,trivial⟩ ?_
  refine dj rfl rfl ?_
  refine ao ?_
  refine ae ?_
  show JC _ _ _ _ _
  refine aj ?_
  refine aK (Z:=Value) (α:=Int×List (Int×Int)×List (List Int)) (fun c q=>[(2,.eq (bP b2)),(8,.eq (.int .i64 L.1)),(10,.eq (bP y)),(13,.eq c),(14,.eq (.int .i64 q1)),(15,.eq (.int .i64 q.1)),(53,.eq (.int .i64 (a0.2.1.length:Int))),(54,.eq (.int .i64 q1))]) (fun c q=>[.obj b2 25 (.rep aG a0),.inv m (a9 k a0),.inv 0 ig,.sl c 131 eS q.2.1,.obj y 128 (.agg (.pair (.at ap (a0,.map (some m))) (.eq z.1)))]++jh 23 z q.2.2) (kf k a0 q1) k c (w,qp,ql) (fun _=>rfl) h (bI [.obj b2 25 (.rep aG a0),.inv m (a9 k a0),.inv 0 ig,.sl c 131 eS qp,.obj y 128 (.agg (.pair (.at ap (a0,.map (some m))) (.eq z.1)))] (jh 23 z ql) [0,1,2,3,4] ⟨rfl,rfl,rfl,rfl,rfl,rfl,rfl,rfl,trivial⟩ rfl) (fun n3 c q h=>?_)
  obtain⟨j,rp,rl⟩:=q
  unfold kf at h
  refine ah ?_
  refine ah ?_
  refine aa ?_
  refine av rfl rfl ?_
  refine aA rfl (aw rfl K1) ⟨rfl,trivial⟩ ?_
  refine bU rfl rfl rfl (ak rfl KH mr rfl) ⟨rfl,trivial⟩ ?_
  refine aA rfl (jJ rfl rfl Aj) ⟨rfl,trivial⟩ ?_
  refine aA rfl (bv rfl) ⟨rfl,rfl,trivial⟩ ?_
  refine ao ?_
  refine ae ?_
  show JC _ _ _ _ _
  refine bi rfl (fun hb=>?_) (fun hb=>?_)
  ·
   replace h:=ct (m8 hb) h
   obtain⟨r1,Q,h⟩:=ab h
   have cv:=sf k a0 (q1,j) rl r1 y m z Q
   refine aU ?_
   refine ae ?_
   show JC _ _ _ _ _
   refine ah ?_
   refine aj ?_
   refine ah ?_
   refine aa ?_
   refine av rfl rfl ?_
   refine av rfl rfl ?_
   refine aA rfl (cT [(0,.tmp 66,_),(1,.tmp 67,_)] rfl LG sa J1 (iE ⟨rfl,rfl,trivial⟩) rfl) ⟨rfl,rfl,trivial⟩ ?_
   refine ay rfl rfl rfl (aP rfl sa vr) trivial fun e=>?_
   refine aZ rfl rfl (aR rfl gl trivial rfl rfl) ⟨rfl,rfl,trivial⟩ ?_
   refine cI (nJ (a':=.rep eS (q1,j)) Qe) ?_
   refine ao ?_
   refine ae ?_
   show JC _ _ _ _ _
   refine ah ?_
   refine aa ?_
   refine av rfl rfl ?_
   refine bU rfl rfl rfl (ak rfl gl (yu) rfl) ⟨rfl,trivial⟩ ?_
   refine cI (f7 (Δ':=([.obj y 128 (.agg (.pair (.at ap (a0,.map (some m))) (.eq z.1)))]++jh 23 z rl)++[.obj e 131 (.rep eS (q1,j)),.obj b2 25 (.rep aG a0),.inv m (a9 k a0),.inv 0 ig,.sl c 131 eS rp]) (List.perm_append_comm (l₁:=([.obj e 131 (.rep eS (q1,j)),.obj b2 25 (.rep aG a0),.inv m (a9 k a0),.inv 0 ig,.sl c 131 eS rp]:List D)))) ?_
   refine bB (Δ:=_++_) (F:=[_,_,_,_,_]) (fun _ _ _=>ar rfl _) rfl rfl (an [.tmp 69,.tmp 70] rfl rfl O5 rfl cv) ⟨rfl,rfl,trivial⟩ fun _=>?_
   refine cI (f7 (Δ':=[.obj e 131 (.rep eS (q1,j)),.obj b2 25 (.rep aG a0),.inv m (a9 k a0),.inv 0 ig,.sl c 131 eS rp]++([.obj y 128 (.agg (.pair (.at ap (a0,.map (some m))) (.eq z.1)))]++jh 23 z r1.2)) List.perm_append_comm) ?_
   refine ao ?_
   refine ae ?_
   show JC _ _ _ _ _
   refine bi rfl (fun hb=>?_) (fun hb=>?_)
   ·
    replace h:=ct (AM hb) h
    have hk:bX (rp.length+1):=by
     apply Classical.byContradiction
     intro hn
     rw [if_neg hn] at h
     cases h
    replace h:=ct hk h
    refine aa ?_
    refine av rfl rfl ?_
    refine bU rfl rfl rfl (ak rfl gl (yu) rfl) ⟨rfl,trivial⟩ ?_
    refine aA rfl (bF (t:=eS) [(.tmp 73,_)] [(q1,j)] rfl rfl FB (.cons rfl .rep .nil) rfl rfl) ⟨rfl,trivial⟩ ?_
    refine bq 4 rfl ?_
    refine dQ rfl rfl rfl (cp rfl rfl FB (by simpa using hk)) ⟨rfl,rfl,trivial⟩ fun v'=>?_
    refine dj rfl rfl ?_
    refine ao ?_
    refine aJ ?_
    refine ae ?_
    show JC _ _ _ _ _
    refine aa ?_
    refine av rfl rfl ?_
    obtain⟨w2,ew2,h⟩:=ab h
    refine aA rfl (bg rfl ew2) ⟨rfl,rfl,trivial⟩ ?_
    refine dj rfl rfl ?_
    refine ao ?_
    refine ae ?_
    exact iy (v',(w2,rp++[(q1,j)],r1.2)) h (bI [.sl v' 131 eS (rp++[(q1,j)]),.obj e 131 (.rep eS (q1,j)),.obj b2 25 (.rep aG a0),.inv m (a9 k a0),.inv 0 ig,.obj y 128 (.agg (.pair (.at ap (a0,.map (some m))) (.eq z.1)))] (jh 23 z r1.2) [2,3,4,0,5] ⟨rfl,rfl,rfl,rfl,rfl,rfl,rfl,rfl,trivial⟩ rfl)
   ·
    replace h:=bL (AN hb) h
    refine aU ?_
    refine aJ ?_
    refine ae ?_
    show JC _ _ _ _ _
    refine aa ?_
    refine av rfl rfl ?_
    obtain⟨w2,ew2,h⟩:=ab h
    refine aA rfl (bg rfl ew2) ⟨rfl,rfl,trivial⟩ ?_
    refine dj rfl rfl ?_
    refine ao ?_
    refine ae ?_
    exact iy (c,(w2,rp,r1.2)) h (bI [.obj e 131 (.rep eS (q1,j)),.obj b2 25 (.rep aG a0),.inv m (a9 k a0),.inv 0 ig,.sl c 131 eS rp,.obj y 128 (.agg (.pair (.at ap (a0,.map (some m))) (.eq z.1)))] (jh 23 z r1.2) [1,2,3,4,5] ⟨rfl,rfl,rfl,rfl,rfl,rfl,rfl,rfl,trivial⟩ rfl)
  replace h:=bL (mz hb) h
  refine dA ?_
  refine aM ?_
  refine aM ?_
  refine bR ?_
  refine aJ ?_
  refine ae ?_
  show JC _ _ _ _ _
  replace h:(jg k a0 n (w,rp,rl)).bind _=some r:=h
  refine aa ?_
  refine aA rfl (bg rfl ew) ⟨rfl,rfl,trivial⟩ ?_
  refine av rfl rfl ?_
  refine ao ?_
  refine ae ?_
  exact iy (c,(w,rp,rl)) h (bI [.obj b2 25 (.rep aG a0),.inv m (a9 k a0),.inv 0 ig,.sl c 131 eS rp,.obj y 128 (.agg (.pair (.at ap (a0,.map (some m))) (.eq z.1)))] (jh 23 z rl) [0,1,2,3,4] ⟨rfl,rfl,rfl,rfl,rfl,rfl,trivial⟩ rfl)
 replace h:=bL (mz hb) h
 refine dA ?_
 refine aM ?_
 refine aM ?_
 refine bR ?_
 refine ae ?_
 show JC _ _ _ _ _
 replace h:((lp k a0 qp ql).bind fun b=>if(!b.2.2.1 || decide (L.1≤b.2.1))=true then some (0,0,0,11) else some (b.1.1,b.1.2,b.2.1,0)).bind some=some r:=h
 obtain⟨b,eb,h⟩:=ab h
 have cx:=vG k a0 qp ql b y m z eb
 refine ah ?_
 refine aa ?_
 refine av rfl rfl ?_
 refine aA rfl (sH [.tmp 78] [] [bP y] [] rfl rfl rfl) ⟨rfl,trivial⟩ ?_
 refine bq 3 rfl ?_
 refine cI (gG [13] ⟨rfl,trivial⟩) ?_
 refine av rfl rfl ?_
 refine cI (bI (Γ':=[(8,.eq (.int .i64 L.1)),(79,.eq (.func (.func 100) #[bP y] #[])),(80,Rs eS qp)]) (pre':=[.inv 0 ig,.obj b2 25 (.rep aG a0),.inv m (a9 k a0),.obj y 128 (.agg (.pair (.at ap (a0,.map (some m))) (.eq z.1)))]) [.obj b2 25 (.rep aG a0),.inv m (a9 k a0),.inv 0 ig,.obj y 128 (.agg (.pair (.at ap (a0,.map (some m))) (.eq z.1)))] (jh 23 z ql) [2,0,1,3] ⟨rfl,rfl,rfl,trivial⟩ rfl) ?_
 refine cI (f7 (Δ':=([.inv m (a9 k a0),.obj y 128 (.agg (.pair (.at ap (a0,.map (some m))) (.eq z.1)))]++jh 23 z ql)++[.inv 0 ig,.obj b2 25 (.rep aG a0)]) (List.perm_append_comm (l₁:=([.inv 0 ig,.obj b2 25 (.rep aG a0)]:List D)))) ?_
 refine bB (Δ:=_++_) (F:=[_,_]) (fun _ _ _=>ar rfl _) rfl rfl (fa [.tmp 79,.tmp 80] rfl rfl O4 rfl cx) ⟨rfl,rfl,trivial⟩ fun _=>?_
 refine cI (f7 (Δ':=[.inv 0 ig,.obj b2 25 (.rep aG a0)]++([.inv m (a9 k a0),.obj y 128 (.agg (.pair (.at ap (a0,.map (some m))) (.eq z.1)))]++jh 23 z b.2.2.2)) List.perm_append_comm) ?_
 refine av rfl rfl ?_
 refine aA rfl (gW rfl rfl) ⟨rfl,trivial⟩ ?_
 refine aA rfl (gW rfl rfl) ⟨rfl,trivial⟩ ?_
 refine aA rfl (gW rfl rfl) ⟨rfl,trivial⟩ ?_
 refine ay rfl rfl rfl (aP rfl sa vr) trivial fun s=>?_
 refine aZ rfl rfl (aR rfl gl rfl rfl rfl) ⟨rfl,rfl,trivial⟩ ?_
 refine dj rfl rfl ?_
 refine dj rfl rfl ?_
 refine ao ?_
 refine ae ?_
 show JC _ _ _ _ _
 obtain⟨bx,bn,bo,bl⟩:=b
 cases bo with
 |false=>
  replace h:some (0,0,0,11)=some r:=by simpa using h
  obtain rfl:=Option.some.inj h
  refine ah ?_
  refine ah ?_
  refine aa ?_
  refine av rfl rfl ?_
  refine aA rfl (gQ rfl) ⟨rfl,trivial⟩ ?_
  refine av rfl rfl ?_
  refine yo rfl rfl rfl rfl rfl rfl rfl ?_
  refine yo rfl rfl rfl rfl rfl rfl rfl ?_
  refine yo rfl rfl rfl rfl rfl rfl rfl ?_
  refine aA rfl (oz rfl) ⟨rfl,rfl,trivial⟩ ?_
  refine ao ?_
  refine ae ?_
  show JC _ _ _ _ _
  refine bi rfl (fun hb=>?_) (fun hb=>(by cases hb))
  refine ah ?_
  refine aa ?_
  refine dG rfl ?_
  refine dG rfl ?_
  refine dG rfl ?_
  refine dG rfl ?_
  refine ao ?_
  refine ae ?_
  show JC _ _ _ _ _
  refine aC ?_
  refine aX ?_
  refine aY 1 rfl ?_
  exact aI () [_,_,_,_] 1 ⟨rfl,rfl,rfl,rfl,trivial⟩ rfl
 |true=>
  refine ah ?_
  refine ah ?_
  refine aa ?_
  refine av rfl rfl ?_
  refine aA rfl (gQ rfl) ⟨rfl,trivial⟩ ?_
  refine av rfl rfl ?_
  refine mC rfl rfl rfl rfl rfl rfl (bz rfl) ⟨rfl,trivial⟩ ?_
  refine mC rfl rfl rfl rfl rfl rfl (bz rfl) ⟨rfl,trivial⟩ ?_
  refine mC rfl rfl rfl rfl rfl rfl (pT rfl) ⟨rfl,rfl,trivial⟩ ?_
  refine aA rfl (mU rfl) ⟨rfl,rfl,trivial⟩ ?_
  refine ao ?_
  refine ae ?_
  show JC _ _ _ _ _
  refine bi rfl (fun hb=>?_) (fun hb=>?_)
  ·
   have hd:L.1≤bn:=of_decide_eq_true hb
   replace h:some (0,0,0,11)=some r:=by simpa [hd] using h
   obtain rfl:=Option.some.inj h
   refine ah ?_
   refine aa ?_
   refine dG rfl ?_
   refine dG rfl ?_
   refine dG rfl ?_
   refine dG rfl ?_
   refine ao ?_
   refine ae ?_
   show JC _ _ _ _ _
   refine aC ?_
   refine aX ?_
   refine aY 1 rfl ?_
   exact aI () [_,_,_,_] 1 ⟨rfl,rfl,rfl,rfl,trivial⟩ rfl
  ·
   have hd:¬L.1≤bn:=of_decide_eq_false hb
   replace h:some (bx.1,bx.2,bn,0)=some r:=by simpa [hd] using h
   refine aU ?_
   refine ae ?_
   obtain rfl:=Option.some.inj h
   show JC _ _ _ _ _
   refine ah ?_
   refine Au (Δ:=[.obj s 131 (.rep eS bx)]) (F:=[.inv 0 ig,.obj b2 25 (.rep aG a0),.inv m (a9 k a0),.obj y 128 (.agg (.pair (.at ap (a0,.map (some m))) (.eq z.1)))]++jh 23 z bl) (Z:=Unit) (fun _=>[(4,.eq (.int .i64 bx.1)),(5,.eq (.int .i64 bx.2)),(6,.eq (.int .i64 bn)),(7,.eq (.int .i64 0))]) (fun _=>[.obj s 131 (.rep eS bx)]) (fun S w=>?_) (fun _=>?_)
   ·
    refine fh (SE.sub (Γ':=[(17,.eq (bP s)),(18,.eq (.int .i64 bn))]) ⟨rfl,rfl,trivial⟩) ?_
    refine lP ?_
    refine bV rfl rfl rfl (aw rfl MB) ⟨rfl,trivial⟩ ?_
    refine gd 0 rfl rfl rfl rfl (ak rfl tJ mr rfl) ⟨rfl,trivial⟩ ?_
    refine bV rfl rfl rfl (aw rfl MA) ⟨rfl,trivial⟩ ?_
    refine gd 0 rfl rfl rfl rfl (ak rfl tJ mr rfl) ⟨rfl,trivial⟩ ?_
    refine bV rfl rfl rfl (bz rfl) ⟨rfl,trivial⟩ ?_
    refine qL 5 [true,true,false,false,false] [4,5,6,7] [0] [.obj s 131 (.rep eS bx)] rfl (by kernel_rfl) (by kernel_rfl) (by kernel_rfl) qy (fun vs hv hB=>?_)
    obtain⟨u0,mc,rfl,O⟩:=aD hv
    obtain⟨u1,ac,rfl,M⟩:=aD O
    obtain⟨u2,Y,rfl,E⟩:=aD M
    obtain⟨u3,X,rfl,x⟩:=aD E
    obtain⟨u4,U,rfl,u⟩:=aD x
    obtain rfl:=nz u
    refine⟨[0],[],by kernel_rfl,by decide,?_⟩
    refine tc rfl rfl rfl rfl (kh rfl) ⟨rfl,trivial⟩ (by kernel_rfl) ?_
    refine tc rfl rfl rfl rfl (kh rfl) ⟨rfl,trivial⟩ (by kernel_rfl) ?_
    refine tc rfl rfl rfl rfl (kh rfl) ⟨rfl,trivial⟩ (by kernel_rfl) ?_
    refine tc rfl rfl rfl rfl (kh rfl) ⟨rfl,trivial⟩ (by kernel_rfl) ?_
    refine vy ?_
    exact fun a w st=>⟨rfl,(),(SE.fin (Γ':=[(4,.eq (.int .i64 bx.1)),(5,.eq (.int .i64 bx.2)),(6,.eq (.int .i64 bn)),(7,.eq (.int .i64 0))]) [0] ⟨rfl,rfl,rfl,rfl,trivial⟩ rfl) a w st⟩
   ·
    refine ae ?_
    show JC _ _ _ _ _
    refine aC ?_
    refine aY 1 rfl ?_
    exact aI () [_,_,_,_] 1 ⟨rfl,rfl,rfl,rfl,trivial⟩ rfl
def nb(k:Nat)(a0:(List Int))(a1:cV)(a2:(List (List Int)))(a3:Int)(a4:Int):Option Int:=
 (dk k a1 a2).bind fun r1=>
 (bf r1 a3).bind fun x3=>
 (dr k (List.set r1 (Int.toNat a3) a0)).bind fun r4=>
 (fD k a1 r4 a4).bind fun r5=>
 some r5
theorem tI(k:Nat)(a0:(List Int))(a1:cV)(l:Nat)(a2:(List (List Int)))(j:Nat)(a3:Int)(e:Nat)(a4:Int)(c:Nat)(r:Int)(h:nb k a0 a1 a2 a3 a4=some r):
 dh (iw Tryz.prog) 104 [Ri a0,Pt l,Pt j,Pt e,Pt c] [.obj l 102 (.at bj a1),.obj j 107 (.rep (.arr 3 (.arr 5 (.int .i64))) a2),.obj e 3 (I a3),.obj c 3 (I a4)] (fun _:Unit=>(bu [I r],[.obj l 102 (.at bj a1),.obj j 107 (.rep (.arr 3 (.arr 5 (.int .i64))) a2),.obj e 3 (I a3),.obj c 3 (I a4)])):=by
 unfold nb at h
 replace h:=a8 h
 refine dh.of 20 Tryz.func104 rfl Tryz.ntmps104 rfl fun S w0=>?_
 refine sr ?_
 refine cq ?_
 refine nt ?_
 refine sr ?_
 refine lo mO ?_
 refine fr 1 ?_
 refine lo cG ?_
 obtain⟨r1,x,h⟩:=ab h
 have E:=g8 k a1 a2 r1 x
 refine ay rfl rfl rfl (an [.tmp 8,.tmp 9] rfl rfl JG rfl E) ⟨rfl,rfl,trivial⟩ fun v2=>?_
 refine aq ?_
 refine nt ?_
 refine sr ?_
 refine mq ?_
 refine fr 3 ?_
 refine lo dE ?_
 refine mq ?_
 obtain⟨x3,n,h⟩:=ab h
 refine fr 1 ?_
 refine kb (bp (t:=(.slice (.int .i64))) rfl nI bZ n) ?_
 refine aZ rfl rfl (eJ (i:=Int.toNat a3) rfl bZ rfl (mf n) rfl .rep rfl) ⟨rfl,rfl,trivial⟩ ?_
 refine nt ?_
 refine ah ?_
 refine fh (gG [7,10,11] ⟨rfl,rfl,rfl,trivial⟩) ?_
 refine cm ?_
 refine ea 2 (ak rfl mO mr rfl) ?_
 refine dm ?_
 obtain⟨r4,u,h⟩:=ab h
 have D:=dN k (List.set r1 (Int.toNat a3) a0) r4 u
 refine da (an [.tmp 16] rfl rfl BK rfl D) ?_
 refine ea 3 (ak rfl dE mr rfl) ?_
 refine df fg ?_
 obtain⟨r5,s,h⟩:=ab h
 have y:=lY k a1 r4 a4 r5 s
 refine jc (fa [.tmp 15,.tmp 17,.tmp 18] rfl rfl K9 rfl y) ?_
 refine aq ?_
 refine nt ?_
 refine aC ?_
 refine bM (SE.fin (Γ':=[(6,_)]) [2,1,0,3] ⟨rfl,trivial⟩ rfl) ?_
 cases h
 exact aI () [_] 4 ⟨rfl,trivial⟩ rfl
def hH(k:Nat)(a0_0:cV)(a0_1:(List (List Int)))(a0_2:Int)(a0_3:Int)(a1:(List (List Int))):Nat→((List Int)×Int×Bool×Int)→Option ((List Int)×Int×Bool)
 |0,_=>none
 |n+1,y3=>
  if y3.2.2.2 < (a1.length:Int) then((((bf a1 y3.2.2.2).bind fun x7=>
  (nb k x7 a0_0 a0_1 a0_2 a0_3).bind fun r8=>
  ((if¬(y3.2.2.1=true) then(some true) else(some (decide (r8 < y3.2.1)))):Option (Bool)).bind fun x9=>
  if x9=true then(some (x7,r8,true)) else(some (y3.1,y3.2.1,y3.2.2.1))):Option ((List Int)×Int×Bool)).bind fun x5=>
  (ck (y3.2.2.2+1)).bind fun c=>
  hH k a0_0 a0_1 a0_2 a0_3 a1 n (x5.1,x5.2.1,x5.2.2,c)) else(some (y3.1,y3.2.1,y3.2.2.1))
def lq(k:Nat)(a0_0:cV)(a0_1:(List (List Int)))(a0_2:Int)(a0_3:Int)(a1:(List (List Int))):Option ((List Int)×Int×Bool):=
 ((hH k a0_0 a0_1 a0_2 a0_3 a1 k ([],0,false,0)):Option ((List Int)×Int×Bool)).bind fun x1=>
 some (x1.1,x1.2.1,x1.2.2)
theorem qS(k:Nat)(a0_0:cV)(c_a0_0:Nat)(a0_1:(List (List Int)))(c_a0_1:Nat)(a0_2:Int)(c_a0_2:Nat)(a0_3:Int)(c_a0_3:Nat)(a1:(List (List Int)))(r:(List Int)×Int×Bool)(h:lq k a0_0 a0_1 a0_2 a0_3 a1=some r):
 dh (iw Tryz.prog) 106 [.eq (.func (.func 104) #[] #[(Pv c_a0_0),(Pv c_a0_1),(Pv c_a0_2),(Pv c_a0_3)]),.rep (.slice (.slice (.int .i64))) a1] [.obj c_a0_0 102 (.at bj a0_0),.obj c_a0_1 107 (.rep (.arr 3 (.arr 5 (.int .i64))) a0_1),.obj c_a0_2 3 (I a0_2),.obj c_a0_3 3 (I a0_3)] (fun _:Unit=>(bu [Ri r.1,I r.2.1,.eq (.bool r.2.2)],[.obj c_a0_0 102 (.at bj a0_0),.obj c_a0_1 107 (.rep (.arr 3 (.arr 5 (.int .i64))) a0_1),.obj c_a0_2 3 (I a0_2),.obj c_a0_3 3 (I a0_3)])):=by
 unfold lq at h
 replace h:=a8 h
 refine dh.of 35 Tryz.func106 rfl Tryz.ntmps106 rfl fun S w0=>?_
 refine sr ?_
 refine cq ?_
 refine cq ?_
 refine cq ?_
 refine nt ?_
 refine sr ?_
 refine cq ?_
 refine nt ?_
 refine sr ?_
 refine cq ?_
 refine cq ?_
 refine nt ?_
 refine aN (Z:=Unit) (α:=(List Int)×Int×Bool) (fun z2 x1=>[(7,Ri x1.1),(8,I x1.2.1),(9,.eq (.bool x1.2.2))]) (fun z2 x1=>[.obj c_a0_0 102 (.at bj a0_0),.obj c_a0_1 107 (.rep (.arr 3 (.arr 5 (.int .i64))) a0_1),.obj c_a0_2 3 (I a0_2),.obj c_a0_3 3 (I a0_3)]) h (fun K h=>?_) (fun z2 x1 h=>?_)
 ·
  refine sr (mq ?_);refine ol nI ?_;refine dX rfl ?_;refine nt (aj (fh (jY (t:=(.slice (.int .i64))) (x:=[]) 7 rfl .nil rfl rfl) ?_));refine aK (fun z4 y3=>[(0,.eq (.func (.func 104) #[] #[(Pv c_a0_0),(Pv c_a0_1),(Pv c_a0_2),(Pv c_a0_3)])),(7,Ri y3.1),(8,I y3.2.1),(9,.eq (.bool y3.2.2.1)),(13,.rep (.slice (.slice (.int .i64))) a1),(14,I (a1.length:Int)),(15,I y3.2.2.2)]) (fun z4 y3=>[.obj c_a0_0 102 (.at bj a0_0),.obj c_a0_1 107 (.rep (.arr 3 (.arr 5 (.int .i64))) a0_1),.obj c_a0_2 3 (I a0_2),.obj c_a0_3 3 (I a0_3)]) (hH k a0_0 a0_1 a0_2 a0_3 a1) k () ([],0,false,0) (fun _=>rfl) h (SE.fin [0,1,2,3] ⟨rfl,rfl,rfl,rfl,rfl,rfl,rfl,trivial⟩ rfl) (fun n z4 y3 h=>?_);unfold hH at h;refine sr (jb (bv rfl) ?_);refine nt (ah (ci h (fun h=>?_) (fun h=>?_)))
  ·refine sk (aN (Z:=Unit) (α:=(List Int)×Int×Bool) (fun z6 x5=>[(0,.eq (.func (.func 104) #[] #[(Pv c_a0_0),(Pv c_a0_1),(Pv c_a0_2),(Pv c_a0_3)])),(7,Ri x5.1),(8,I x5.2.1),(9,.eq (.bool x5.2.2)),(13,.rep (.slice (.slice (.int .i64))) a1),(14,I (a1.length:Int)),(15,I y3.2.2.2)]) (fun z6 x5=>[.obj c_a0_0 102 (.at bj a0_0),.obj c_a0_1 107 (.rep (.arr 3 (.arr 5 (.int .i64))) a0_1),.obj c_a0_2 3 (I a0_2),.obj c_a0_3 3 (I a0_3)]) h (fun K h=>?_) (fun z6 x5 h=>?_))
   ·refine aj (sr ?_);obtain⟨x7,l,h⟩:=ab h;refine jb (ba (t:=(.slice (.int .i64))) rfl nI bZ l) ?_;refine ja (au (t:=(.slice (.int .i64))) rfl bZ rfl) ?_;refine aq (nt (sr ?_));iterate 2 refine mq ?_
    obtain⟨r8,u,h⟩:=ab h;refine fr 3 ?_;refine fr 3 ?_;refine fr 3 ?_;refine fr 3 ?_;refine bB (Δ:=[_,_,_,_]) (F:=_) (fun _ _ _=>ar rfl _) rfl rfl (oD (fs:=[]) (cs:=[(Pv c_a0_0),(Pv c_a0_1),(Pv c_a0_2),(Pv c_a0_3)]) (ags:=[Ri x7]) [.tmp 20] rfl rfl P0 rfl (tI k x7 a0_0 c_a0_0 a0_1 c_a0_1 a0_2 c_a0_2 a0_3 c_a0_3 r8 u)) ⟨rfl,rfl,trivial⟩ fun _=>?_;refine aq (nt ?_);refine aN (Z:=Unit) (α:=Bool) (fun c x9=>[(0,.eq (.func (.func 104) #[] #[(Pv c_a0_0),(Pv c_a0_1),(Pv c_a0_2),(Pv c_a0_3)])),(7,Ri y3.1),(8,I y3.2.1),(9,.eq (.bool y3.2.2.1)),(11,Ri x7),(12,I r8),(13,.rep (.slice (.slice (.int .i64))) a1),(14,I (a1.length:Int)),(15,I y3.2.2.2),(28,.eq (.bool x9))]) (fun c x9=>[.obj c_a0_0 102 (.at bj a0_0),.obj c_a0_1 107 (.rep (.arr 3 (.arr 5 (.int .i64))) a0_1),.obj c_a0_2 3 (I a0_2),.obj c_a0_3 3 (I a0_3)]) h (fun K h=>?_) (fun c x9 h=>?_)
    ·refine aa (mq ?_);refine ja (gQ rfl) ?_;refine mq ?_;refine bQ (s:=24) rfl (fun hb=>?_) (fun hb=>?_)
     ·replace h:=ct (Gm hb) h;iterate 3 refine gn ?_
      refine pt (nl ?_);exact jz ((),true) h [0,1,2,3]
     ·replace h:=bL (zg hb) h;refine gm ?_;refine gm ?_;refine gb (bv rfl) ?_;refine pf (nl ?_);exact jz ((),decide (r8 < y3.2.1)) h [0,1,2,3]
    ·refine cv h (fun h=>?_) (fun h=>?_)
     ·refine aa ?_;iterate 2 refine mq ?_
      refine aq ?_;refine aq ?_;refine cq (ao (bn ?_));exact jz ((),(x7,r8,true)) h [0,1,2,3]
     ·refine aU (bn ?_);exact jz ((),(y3.1,y3.2.1,y3.2.2.1)) h [0,1,2,3]
   ·refine aa ?_;obtain⟨j,e,h⟩:=ab h;refine jb (bg rfl e) ?_;refine mq (nl ?_);exact jz ((),(x5.1,x5.2.1,x5.2.2,j)) h [0,1,2,3]
  ·refine xa ?_;exact jz ((),(y3.1,y3.2.1,y3.2.2.1)) h [0,1,2,3]
 ·
  refine sr ?_;iterate 3 refine mq ?_
  refine aq ?_;refine aq ?_;refine aq (nt (aC ?_));cases h;exact aI () [_,_,_] 4 ⟨rfl,rfl,rfl,trivial⟩ rfl
def qe(k:Nat)(a0:bK)(a1:(List (List Int)))(a2:Int)(a3:Int):Option ((List Int)×Int×Int):=
 (cK k a0 a1).bind fun r4=>
 if¬(r4=0) then(some ([],0,r4)) else((((ck ((a0.2.2.length:Int) - 1)).bind fun x7=>
 (dY k a2 0 x7).bind fun r8=>
 if¬(r8=true) then(some true) else((dY k a3 0 a0.1).bind fun r9=>
 some (!r9))):Option (Bool)).bind fun x5=>
 if x5=true then(some ([],0,3)) else((dr k a1).bind fun n=>
 (ll k (a0,()) n a3).bind fun e=>
 (dJ k e a2).bind fun l=>
 (lx k l).bind fun j=>
 (ln k k j).bind fun h=>
 (lq k (a0,()) e a2 a3 h).bind fun c=>
 some (c.1,c.2.1,0)))
theorem vH(k:Nat)(a0:bK)(a1:(List (List Int)))(a2:Int)(a3:Int)(r:(List Int)×Int×Int)(h:qe k a0 a1 a2 a3=some r):
 dh (iw Tryz.prog) 42 [.rep aG a0,.rep (.slice (.slice (.int .i64))) a1,I a2,I a3] [.inv 0 (ig)] (fun _:Unit=>(bu [Ri r.1,I r.2.1,I r.2.2],[.inv 0 (ig)])):=by
 unfold qe at h
 replace h:=a8 h
 refine dh.of 60 Tryz.func42 rfl Tryz.ntmps42 rfl fun S w0=>?_
 refine sr ?_
 refine bx fun b1=>?_
 refine bx fun b2=>?_
 refine bx fun b3=>?_
 refine cq ?_
 refine cq ?_
 refine cq ?_
 refine nt ?_
 refine ah ?_
 refine sr ?_
 refine fr 2 ?_
 refine lo i8 ?_
 refine mq ?_
 obtain⟨r4,SA,h⟩:=ab h
 have SB:=fP k a0 a1 r4 SA
 refine fr 3 ?_
 refine kb (an [.tmp 18,.tmp 19] rfl rfl MR rfl SB) ?_
 refine aq ?_
 refine nt ?_
 refine sr ?_
 refine mq ?_
 refine jb (iN rfl) ?_
 refine nt ?_
 refine cn h (fun h=>?_) (fun h=>?_)
 ·
  refine sr (mq ?_);refine cq ?_;refine cq ?_;refine aq (nt (rx ?_));refine bM (jY (t:=(.slice (.int .i64))) (x:=[]) 8 rfl .nil rfl rfl) ?_;cases h;exact aI () [_,_,_] 1 ⟨rfl,rfl,rfl,trivial⟩ rfl
 ·
  refine sk (ah (aN (Z:=Unit) (α:=Bool) (fun z6 x5=>[(1,.rep (.slice (.slice (.int .i64))) a1),(4,Pt b1),(6,Pt b2),(7,Pt b3),(37,.eq (.bool x5))]) (fun z6 x5=>[.obj b1 25 (.rep aG a0),.obj b2 3 (I a2),.obj b3 3 (I a3),.inv 0 (ig)]) h (fun K h=>?_) (fun z6 x5 h=>?_)))
  ·refine aa (fr 3 ?_);refine lo dE ?_;refine fl eV ?_;refine fr 2 ?_;refine lo bZ ?_;refine ol fC ?_;obtain⟨x7,Su,h⟩:=ab h;refine jb (fN rfl Su) ?_;obtain⟨r8,Sz,h⟩:=ab h;refine jc (an [.tmp 24,.const (.int .i64 (0)),.tmp 28] rfl rfl zT rfl (eG k a2 0 x7 r8 Sz)) ?_;refine ja (gQ rfl) ?_;refine mq ?_;refine bQ (s:=31) rfl (fun hb=>?_) (fun hb=>?_)
   ·replace h:=ct (Gm hb) h;iterate 5 refine gn ?_
    refine pt (nl ?_);exact jz ((),true) h [0,1,3,2]
   ·replace h:=bL (zg hb) h;refine fr 3 ?_;refine ix rfl rfl rfl rfl rfl rfl (ak rfl dE mr rfl) ⟨rfl,trivial⟩ ?_;refine ga (aw rfl je) ?_;refine fr 1 ?_;refine ix rfl rfl rfl rfl rfl rfl (ak rfl dE mr rfl) ⟨rfl,trivial⟩ ?_;obtain⟨r9,Sv,h⟩:=ab h;refine gc (an [.tmp 32,.const (.int .i64 (0)),.tmp 34] rfl rfl zT rfl (eG k a3 0 a0.1 r9 Sv)) ?_;refine ga (gQ rfl) ?_;refine pf (nl ?_);exact jz ((), !r9) h [0,2,1,3]
  ·refine cv h (fun h=>?_) (fun h=>?_)
   ·refine sr (cq ?_);refine cq ?_;refine cq (nt (rx ?_));refine bM (jY (t:=(.slice (.int .i64))) (x:=[]) 8 rfl .nil rfl rfl) ?_;refine bM (SE.fin (Γ':=[(8,_),(9,_),(10,_)]) [3,0,1,2] ⟨rfl,rfl,rfl,trivial⟩ rfl) ?_;cases h;exact aI () [_,_,_] 1 ⟨rfl,rfl,rfl,trivial⟩ rfl
   ·refine sk (sr (lo i8 ?_));refine ay rfl rfl rfl (an [.tmp 38] rfl rfl HA rfl (fS a0)) ⟨rfl,trivial⟩ fun c=>?_;refine cI (jX (a9 k a0) kZ) ?_;refine ay rfl rfl rfl (aP rfl KD Lc) trivial fun j=>?_;refine aZ rfl rfl (aR rfl mO trivial rfl rfl) ⟨rfl,rfl,trivial⟩ ?_;refine nt (ah (lP ?_));refine gd 0 rfl rfl rfl rfl (ak rfl mO mr rfl) ⟨rfl,trivial⟩ ?_;refine bV rfl rfl rfl (bz rfl) ⟨rfl,trivial⟩ ?_;obtain⟨u,U,h⟩:=ab h;refine bV rfl rfl rfl (an [.tmp 41] rfl rfl BK rfl (dN k a1 u U)) ⟨rfl,trivial⟩ ?_;refine gd 4 rfl rfl rfl rfl (ak rfl dE mr rfl) ⟨rfl,trivial⟩ ?_;obtain⟨l,Q,h⟩:=ab h;refine bV rfl rfl rfl (cU (N:=[(.tmp 40,.at ap (a0,(.map (some c)))),(.tmp 42,.rep (.arr 3 (.arr 5 (.int .i64))) u),(.tmp 43,I a3)]) (an [.tmp 40,.tmp 42,.tmp 43] rfl rfl P1 rfl (qR k (a0,()) u a3 l Q)) fun _ _ _ hn=>⟨(oW hn.1),hn.2.1,hn.2.2.1,trivial⟩) ⟨rfl,rfl,rfl,trivial⟩ ?_;refine Dx (LE 107 (.rep (.arr 3 (.arr 5 (.int .i64))) [[0,0,0,0,0],[0,0,0,0,0],[0,0,0,0,0]])) (fun _=>rfl) rfl rfl rfl (aP rfl li lM) trivial ?_;refine qL 6 [true,true,true,true,true,true] [] [] [] rfl (by kernel_rfl) (by kernel_rfl) (by kernel_rfl) fg (fun vs hv hB=>?_);obtain⟨w0,SK,rfl,se⟩:=aD hv;obtain⟨w1,SJ,rfl,qt⟩:=aD se;obtain⟨w2,SI,rfl,pp⟩:=aD qt;obtain⟨w3,SH,rfl,mc⟩:=aD pp;obtain⟨w4,SG,rfl,ac⟩:=aD mc;obtain⟨w5,SD,rfl,Y⟩:=aD ac;obtain rfl:=nz Y;obtain⟨e,rfl⟩:=LD hB.2.2.2.2.2.1;refine⟨[0,1,2,3,4,5,6],[.obj j 102 (.at ap (a0,(.map (some c)))),.inv c (a9 k a0),.obj b1 25 (.rep aG a0),.obj b2 3 (I a2),.obj b3 3 (I a3),.inv 0 (ig),.obj e 107 (.rep (.arr 3 (.arr 5 (.int .i64))) [[0,0,0,0,0],[0,0,0,0,0],[0,0,0,0,0]])],by kernel_rfl,by decide,?_⟩;refine rT 6 rfl ?_;refine qJ rfl rfl (aR rfl cG rfl rfl rfl) ⟨rfl,rfl,trivial⟩ (by kernel_rfl) ?_;refine vy ?_;refine bM (SE.fin (Γ':=[(6,Pt b2),(7,Pt b3),(12,Pt j),(13,Pt e)]) (Δ':=[.obj e 107 (.rep (.arr 3 (.arr 5 (.int .i64))) l),.obj j 102 (.at ap (a0,(.map (some c)))),.inv c (a9 k a0),.obj b1 25 (.rep aG a0),.obj b2 3 (I a2),.obj b3 3 (I a3),.inv 0 (ig)]) [0,1,2,3,4,5,6] ⟨rfl,rfl,rfl,rfl,trivial⟩ rfl) ?_;refine tn (sr (aA rfl (sH [] [.tmp 12,.tmp 13,.tmp 6,.tmp 7] [] [(Pv j),(Pv e),(Pv b2),(Pv b3)] rfl rfl rfl) ⟨rfl,rfl,rfl,rfl,trivial⟩ ?_));refine aq (nt (sr ?_));refine mq ?_;refine lo cG ?_;refine fr 4 ?_;refine lo dE ?_;obtain⟨n,O,h⟩:=ab h;refine jb (an [.tmp 48,.tmp 49] rfl rfl C9 rfl (fU k l a2 n O)) ?_;refine ay rfl rfl rfl (an [.tmp 50] rfl rfl PX rfl (qZ n)) ⟨rfl,trivial⟩ fun SC=>?_;obtain⟨D,M,h⟩:=ab h;refine ka (an [.tmp 51] rfl rfl PY rfl (q7 k n SC D M)) ?_;obtain⟨y,J,h⟩:=ab h;refine ja (an [.tmp 52] rfl rfl K8 rfl (vF k k D y J)) ?_;refine fr 3 ?_;refine cI (nJ (a:=.at ap (a0,(.map (some c)))) (a':=.at bj (a0,())) Ni) ?_
    obtain⟨X,E,h⟩:=ab h;refine fr 6 ?_;refine fr 3 ?_;refine fr 4 ?_;refine fr 3 ?_;refine bB (Δ:=[_,_,_,_]) (F:=_) (fun _ _ _=>ar rfl _) rfl rfl (fa [.tmp 47,.tmp 53] rfl rfl PZ rfl (qS k (a0,()) j l e a2 b2 a3 b3 y X E)) ⟨rfl,rfl,trivial⟩ fun _=>?_;refine mq ?_;refine xr ?_;refine xr ?_;refine xr ?_;refine aq ?_;refine aq ?_;refine aq (nt (sr ?_));iterate 2 refine mq ?_
    refine aq ?_;refine aq ?_;refine cq (nt (aC ?_));refine bM (SE.fin (Γ':=[(8,_),(9,_),(10,_)]) [7,0,1,2,3,4,5,6] ⟨rfl,rfl,rfl,trivial⟩ rfl) ?_;cases h;exact aI () [_,_,_] 1 ⟨rfl,rfl,rfl,trivial⟩ rfl
def cN(k:Nat)(a0:bK)(a1:(List (List (List Int)))):Nat→((List (List Int))×Int×Bool×Int)→Option ((List (List Int))×Int×Bool)
 |0,_=>none
 |n+1,y5=>
  if y5.2.2.2 < (a1.length:Int) then((((bf a1 y5.2.2.2).bind fun x9=>
  (bH k a0 x9).bind fun c=>
  ((if¬(y5.2.2.1=true) then(some true) else(some (decide (c < y5.2.1)))):Option (Bool)).bind fun h=>
  if h=true then(some (x9,c,true)) else(some (y5.1,y5.2.1,y5.2.2.1))):Option ((List (List Int))×Int×Bool)).bind fun x7=>
  (ck (y5.2.2.2+1)).bind fun e=>
  cN k a0 a1 n (x7.1,x7.2.1,x7.2.2,e)) else(some (y5.1,y5.2.1,y5.2.2.1))
def ik(k:Nat)(a0:bK)(a1:(List (List (List Int)))):Option ((List (List Int))×Int×Bool):=
 ((cN k a0 a1 k ([[0,0,0,0,0],[0,0,0,0,0],[0,0,0,0,0]],0,false,0)):Option ((List (List Int))×Int×Bool)).bind fun x3=>
 some (x3.1,x3.2.1,x3.2.2)
theorem qT(k:Nat)(a0:bK)(z_a0:Nat)(a1:(List (List (List Int))))(r:(List (List Int))×Int×Bool)(h:ik k a0 a1=some r):
 dh (iw Tryz.prog) 114 [.fn 111 (ud [.at ap (a0,(.map (some z_a0)))]),.rep (.slice (.arr 3 (.arr 5 (.int .i64)))) a1] [.inv z_a0 (a9 k a0)] (fun _:Unit=>(bu [.rep (.arr 3 (.arr 5 (.int .i64))) r.1,I r.2.1,.eq (.bool r.2.2)],[.inv z_a0 (a9 k a0)])):=by
 unfold ik at h
 replace h:=a8 h
 refine dh.of 35 Tryz.func114 rfl Tryz.ntmps114 rfl fun S w0=>?_
 refine sr ?_
 refine ay rfl rfl rfl (aP rfl li lM) trivial fun b1=>?_
 refine cq ?_
 refine cq ?_
 refine nt ?_
 refine sr ?_
 refine ay rfl rfl rfl (aP rfl li lM) trivial fun b2=>?_
 refine nt ?_
 refine sr ?_
 refine cq ?_
 refine cq ?_
 refine nt ?_
 refine aN (Z:=Unit) (α:=(List (List Int))×Int×Bool) (fun z4 x3=>[(4,Pt b1),(7,Pt b2),(8,I x3.2.1),(9,.eq (.bool x3.2.2))]) (fun z4 x3=>[.obj b1 107 (.rep (.arr 3 (.arr 5 (.int .i64))) [[0,0,0,0,0],[0,0,0,0,0],[0,0,0,0,0]]),.obj b2 107 (.rep (.arr 3 (.arr 5 (.int .i64))) x3.1),.inv z_a0 (a9 k a0)]) h (fun K h=>?_) (fun z4 x3 h=>?_)
 ·
  refine sr (mq ?_);refine ol Qi ?_;refine dX rfl ?_;refine nt (aj (aK (fun z6 y5=>[(0,.fn 111 (ud [.at ap (a0,(.map (some z_a0)))])),(4,Pt b1),(7,Pt b2),(8,I y5.2.1),(9,.eq (.bool y5.2.2.1)),(13,.rep (.slice (.arr 3 (.arr 5 (.int .i64)))) a1),(14,I (a1.length:Int)),(15,I y5.2.2.2)]) (fun z6 y5=>[.obj b1 107 (.rep (.arr 3 (.arr 5 (.int .i64))) [[0,0,0,0,0],[0,0,0,0,0],[0,0,0,0,0]]),.obj b2 107 (.rep (.arr 3 (.arr 5 (.int .i64))) y5.1),.inv z_a0 (a9 k a0)]) (cN k a0 a1) k () ([[0,0,0,0,0],[0,0,0,0,0],[0,0,0,0,0]],0,false,0) (fun _=>rfl) h (SE.fin [1,0,2] ⟨rfl,rfl,rfl,rfl,rfl,rfl,rfl,rfl,trivial⟩ rfl) (fun n z6 y5 h=>?_)));unfold cN at h;refine sr (jb (bv rfl) ?_);refine nt (ah (ci h (fun h=>?_) (fun h=>?_)))
  ·refine sk (aN (Z:=Unit) (α:=(List (List Int))×Int×Bool) (fun z8 x7=>[(0,.fn 111 (ud [.at ap (a0,(.map (some z_a0)))])),(4,Pt b1),(7,Pt b2),(8,I x7.2.1),(9,.eq (.bool x7.2.2)),(13,.rep (.slice (.arr 3 (.arr 5 (.int .i64)))) a1),(14,I (a1.length:Int)),(15,I y5.2.2.2)]) (fun z8 x7=>[.obj b1 107 (.rep (.arr 3 (.arr 5 (.int .i64))) [[0,0,0,0,0],[0,0,0,0,0],[0,0,0,0,0]]),.obj b2 107 (.rep (.arr 3 (.arr 5 (.int .i64))) x7.1),.inv z_a0 (a9 k a0)]) h (fun K h=>?_) (fun z8 x7 h=>?_))
   ·refine aj (sr ?_);obtain⟨x9,D,h⟩:=ab h;refine jb (ba (t:=(.arr 3 (.arr 5 (.int .i64)))) rfl Qi cG D) ?_;refine ja (au (t:=(.arr 3 (.arr 5 (.int .i64)))) rfl cG rfl) ?_;refine ay rfl rfl rfl (aP rfl li lM) trivial fun x=>?_;refine aZ rfl rfl (aR rfl cG rfl rfl rfl) ⟨rfl,rfl,trivial⟩ ?_;refine nt (sr (mq ?_));refine lo cG ?_;obtain⟨c,u,h⟩:=ab h;refine fr 3 ?_;refine kb (Gk (fs:=[.at ap (a0,(.map (some z_a0)))]) (ags:=[.rep (.arr 3 (.arr 5 (.int .i64))) x9]) [.tmp 20] rfl rfl HC rfl (g9 k a0 z_a0 x9 c u)) ?_;refine aq (nt ?_);refine aN (Z:=Unit) (α:=Bool) (fun j e=>[(0,.fn 111 (ud [.at ap (a0,(.map (some z_a0)))])),(4,Pt b1),(7,Pt b2),(8,I y5.2.1),(9,.eq (.bool y5.2.2.1)),(11,Pt x),(12,I c),(13,.rep (.slice (.arr 3 (.arr 5 (.int .i64)))) a1),(14,I (a1.length:Int)),(15,I y5.2.2.2),(28,.eq (.bool e))]) (fun j e=>[.obj b1 107 (.rep (.arr 3 (.arr 5 (.int .i64))) [[0,0,0,0,0],[0,0,0,0,0],[0,0,0,0,0]]),.obj b2 107 (.rep (.arr 3 (.arr 5 (.int .i64))) y5.1),.obj x 107 (.rep (.arr 3 (.arr 5 (.int .i64))) x9),.inv z_a0 (a9 k a0)]) h (fun K h=>?_) (fun j e h=>?_)
    ·refine aa (mq ?_);refine ja (gQ rfl) ?_;refine mq ?_;refine bQ (s:=24) rfl (fun hb=>?_) (fun hb=>?_)
     ·replace h:=ct (Gm hb) h;iterate 3 refine gn ?_
      refine pt (nl ?_);exact jz ((),true) h [2,3,1,0]
     ·replace h:=bL (zg hb) h;refine gm ?_;refine gm ?_;refine gb (bv rfl) ?_;refine pf (nl ?_);exact jz ((),decide (c < y5.2.1)) h [2,3,1,0]
    ·refine cv h (fun h=>?_) (fun h=>?_)
     ·refine aa (fr 2 ?_);refine lo cG ?_;refine mq ?_;refine fr 2 ?_;refine aZ rfl rfl (aR rfl cG rfl rfl rfl) ⟨rfl,rfl,trivial⟩ ?_;refine aq ?_;refine cq (ao (bn ?_));exact jz ((),(x9,c,true)) h [2,0,3]
     ·refine aU (bn ?_);exact jz ((),(y5.1,y5.2.1,y5.2.2.1)) h [0,1,3]
   ·refine aa ?_;obtain⟨y,l,h⟩:=ab h;refine jb (bg rfl l) ?_;refine mq (nl ?_);exact jz ((),(x7.1,x7.2.1,x7.2.2,y)) h [0,1,2]
  ·refine xa ?_;exact jz ((),(y5.1,y5.2.1,y5.2.2.1)) h [0,1,2]
 ·
  refine sr (fr 1 ?_);refine lo cG ?_;iterate 2 refine mq ?_
  refine fr 1 ?_;refine aZ rfl rfl (aR rfl cG rfl rfl rfl) ⟨rfl,rfl,trivial⟩ ?_;refine aq ?_;refine aq (nt (aC ?_));refine bM (SE.fin (Γ':=[(4,_),(5,_),(6,_)]) [2,0,1] ⟨rfl,rfl,rfl,trivial⟩ rfl) ?_;cases h;exact aI () [.rep (.arr 3 (.arr 5 (.int .i64))) x3.1,_,_] 1 ⟨⟨_,_,_,_,_,rfl,(.tail _ (.head _)),cG,(xE),rfl⟩,rfl,rfl,trivial⟩ rfl
def jv(k:Nat)(a0:bK):Option ((List (List Int))×Int×Int):=
 (jL k a0).bind fun r2=>
 if¬(r2=0) then(some ([],0,r2)) else((fW k (a0,())).bind fun r5=>
 (ik k a0 r5).bind fun r6=>
 if¬(r6.2.2=true) then(some ([],0,11)) else((dk k (a0,()) r6.1).bind fun r8=>
 some (r8,r6.2.1,0)))
theorem tg(k:Nat)(a0:bK)(r:(List (List Int))×Int×Int)(h:jv k a0=some r):
 dh (iw Tryz.prog) 56 [.rep aG a0] [] (fun _:Unit=>(bu [.rep (.slice (.slice (.int .i64))) r.1,I r.2.1,I r.2.2],[])):=by
 unfold jv at h
 replace h:=a8 h
 refine dh.of 33 Tryz.func56 rfl Tryz.ntmps56 rfl fun S w0=>?_
 refine sr ?_
 refine bx fun b1=>?_
 refine cq ?_
 refine cq ?_
 refine cq ?_
 refine nt ?_
 refine ah ?_
 refine sr ?_
 refine lo i8 ?_
 obtain⟨r2,l,h⟩:=ab h
 have n:=ng k a0 r2 l
 refine ja (an [.tmp 10] rfl rfl MS rfl n) ?_
 refine aq ?_
 refine nt ?_
 refine sr ?_
 refine mq ?_
 refine jb (iN rfl) ?_
 refine nt ?_
 refine cn h (fun h=>?_) (fun h=>?_)
 ·
  refine sr (mq ?_);refine cq ?_;refine cq ?_;refine aq (nt (rx ?_));refine bM (jY (t:=(.slice (.slice (.int .i64)))) (x:=[]) 2 rfl .nil rfl rfl) ?_;cases h;exact aI () [_,_,_] 0 ⟨rfl,rfl,rfl,trivial⟩ rfl
 ·
  refine sk (sr (lo i8 ?_));refine ay rfl rfl rfl (an [.tmp 15] rfl rfl HA rfl (fS a0)) ⟨rfl,trivial⟩ fun z3=>?_;refine cI (jX (a9 k a0) kZ) ?_;refine aq (nt (sr ?_));refine mq ?_;refine ja (IQ [.tmp 18] [.at ap (a0,(.map (some z3)))] rfl rfl) ?_;refine mq ?_;refine ay rfl rfl rfl (cU (N:=[(.tmp 20,.at ap (a0,(.map (some z3))))]) (an [.tmp 20] rfl rfl K5 rfl (kd (a0,()))) fun _ _ _ hn=>⟨oW hn.1,trivial⟩) ⟨rfl,trivial⟩ fun b4=>?_;obtain⟨r5,j,h⟩:=ab h;refine ka (an [.tmp 21] rfl rfl PV rfl (pL k (a0,()) b4 r5 j)) ?_;obtain⟨r6,e,h⟩:=ab h;refine fr 1 ?_;refine kb (fa [.tmp 19,.tmp 22] rfl rfl PW rfl (qT k a0 z3 r5 r6 e)) ?_;refine mq ?_;refine xr ?_;refine xr ?_;refine xr ?_;refine ay rfl rfl rfl (aP rfl li lM) trivial fun b7=>?_;refine aZ rfl rfl (aR rfl cG rfl rfl rfl) ⟨rfl,rfl,trivial⟩ ?_;refine aq ?_;refine aq (nt (ah (sr ?_)));refine mq ?_;refine ja (gQ rfl) ?_;refine nt (cw h (fun h=>?_) (fun h=>?_))
  ·refine sr (cq ?_);refine cq ?_;refine cq (nt (rx ?_));refine bM (jY (t:=(.slice (.slice (.int .i64)))) (x:=[]) 2 rfl .nil rfl rfl) ?_;cases h;exact aI () [_,_,_] 0 ⟨rfl,rfl,rfl,trivial⟩ rfl
  ·refine sk (sr (mq ?_));refine lo cG ?_;obtain⟨r8,c,h⟩:=ab h;refine ay rfl rfl rfl (cU (N:=[(.tmp 29,.at ap (a0,(.map (some z3)))),(.tmp 30,.rep (.arr 3 (.arr 5 (.int .i64))) r6.1)]) (an [.tmp 29,.tmp 30] rfl rfl JG rfl (g8 k (a0,()) r6.1 r8 c)) fun _ _ _ hn=>⟨(oW hn.1),hn.2.1,trivial⟩) ⟨rfl,rfl,trivial⟩ fun v9=>?_;refine mq ?_;refine aq ?_;refine aq ?_;refine cq (nt (aC ?_));refine bM (gG [2,31] ⟨rfl,rfl,trivial⟩) ?_;cases h;exact aI () [_,_,_] 0 ⟨rfl,rfl,rfl,trivial⟩ rfl
set_option maxRecDepth 20000
set_option maxHeartbeats 4000000
def NG(b:Nat):List Int→Option Addr
 |[]=>none
 |_::_=>some ⟨b,0,none⟩
def QA:List Int→Value→Value
 |[],_=>.slice none 0 0
 |_::_,v=>v
theorem M5(b:Nat)(l:List Int):NG b l=none∨NG b l=some ⟨b,0,none⟩:=by cases l <;> simp [NG]
theorem HM(b:Nat)(l:List Int)(c:Int):NG b (l++[c])=some ⟨b,0,none⟩:=by cases l <;> rfl
theorem HL(l:List Int)(c:Int)(v:Value):QA (l++[c]) v=v:=by cases l <;> rfl
theorem KN:mB Tryz.prog 86 9 1 16:=.of (z:=(.string .empty)) Sm (by kernel_rfl) rfl rfl rfl
theorem MN:ag Tryz.prog 121:=ag.of Tryz.func121 (by kernel_rfl) (by kernel_rfl)
theorem Pe:ag Tryz.prog 35:=ag.of Tryz.func35 (by kernel_rfl) (by kernel_rfl)
theorem N7:dC Tryz.prog 25 3 true:=⟨fun w=>by kernel_rfl,fun w=>by kernel_rfl⟩
theorem KI:dC Tryz.prog 23 1 false:=⟨fun w=>by kernel_rfl,fun w=>by kernel_rfl⟩
theorem N6:dC Tryz.prog 3 1 false:=⟨fun w=>by kernel_rfl,fun w=>by kernel_rfl⟩
def lm(c:Int):Int:=IntKind.i32.wrap (97+IntKind.i32.wrap c)
def kK(xs:List Int):Nat→Int×List Int→Option (List Int)
 |0,_=>none
 |n+1,y=>if y.1 < (xs.length:Int) then((bf xs y.1).bind fun c=>if 0≤lm c∧lm c≤127∧bX (y.2.length+1) then(ck (y.1+1)).bind fun z=>kK xs n (z,y.2++[lm c]) else none) else some y.2
def ju(k:Nat)(a1:List (List Int)):Nat→Int×List ByteArray→Option (List ByteArray)
 |0,_=>none
 |n+1,y=>if y.1 < (a1.length:Int) then((bf a1 y.1).bind fun xs=>(kK xs k (0,[])).bind fun l=>if bX (y.2.length+1) then(ck (y.1+1)).bind fun z=>ju k a1 n (z,y.2++[qg l]) else none) else some y.2
def sn(k:Nat)(a0:bK)(a1:(List (List Int))):Option (Value×Int):=
 (cK k a0 a1).bind fun e=>if¬(e=0) then some (.string .empty,e) else(ju k a1 k (0,[])).bind fun ss=>(tX k ss ⟨#[47]⟩).bind fun r=>some (.string r,0)
theorem xh(k:Nat)(a0:bK)(a1:(List (List Int)))(r:Value×Int)(h:sn k a0 a1=some r):
 cd Tryz.prog 67 [.rep aG a0,.rep (.slice (.slice (.int .i64))) a1] [.inv 0 ig] (fun _:Unit=>(bu [.eq r.1,I r.2],[.inv 0 ig])):=by
 unfold sn at h
 replace h:=a8 h
 refine cd.of 43 Tryz.func67 rfl Tryz.ntmps67 rfl fun S w0=>?_
 refine sr ?_
 refine bx fun b2=>?_
 refine cq ?_
 refine cq ?_
 refine nt ?_
 refine ah ?_
 refine sr ?_
 obtain⟨e,ee,h⟩:=ab h
 have ce:=fP k a0 a1 e ee
 refine ka (ak rfl N7 (yu) rfl) ?_
 refine mq ?_
 refine fr 1 ?_
 refine kb (an [.tmp 13,.tmp 14] rfl rfl Pe rfl ce) ?_
 refine aq ?_
 refine nt ?_
 refine sr ?_
 refine mq ?_
 refine jb (iN rfl) ?_
 refine nt ?_
 refine bi rfl (fun hb=>?_) (fun hb=>?_)
 ·
  replace h:=ct (On hb) h;refine sr (mq ?_);refine cq ?_;refine aq (nt (rx ?_));cases h;exact aI () [_,_] 1 ⟨rfl,rfl,trivial⟩ rfl
 replace h:=bL (GM hb) h
 refine sk ?_
 refine sr ?_
 refine cq ?_
 refine nt ?_
 rw [Option.bind_assoc] at h
 refine ah ?_
 refine sr ?_
 refine mq ?_
 refine ol nI ?_
 refine dX rfl ?_
 refine cI (SE.nil 9 .str) ?_
 refine nt ?_
 refine aj ?_
 refine aK (fun v y=>[(7,.eq v),(19,.rep (.slice (.slice (.int .i64))) a1),(20,I (a1.length:Int)),(21,I y.1)]) (fun v y=>[.sl v 9 .str y.2,.inv 0 ig]) (ju k a1) k (.slice none 0 0) (0,[]) (fun _=>rfl) h (SE.fin [0,1] ⟨rfl,rfl,rfl,rfl,trivial⟩ rfl) (fun n v7 y h=>?_)
 unfold ju at h
 refine sr ?_
 refine jb (bv rfl) ?_
 refine nt ?_
 refine ah ?_
 refine bi rfl (fun hb=>?_) (fun hb=>?_)
 ·
  replace h:=ct (m8 hb) h;refine sk (ah (aj ?_));obtain⟨xs,exs,h⟩:=ab h;refine sr (jb (ba (t:=.slice (.int .i64)) rfl nI KI exs) ?_);refine ja (au (t:=.slice (.int .i64)) rfl KI rfl) ?_;refine aq (nt (sr ?_));refine ay rfl rfl rfl (aP rfl E2 HS) trivial fun b=>?_;refine nt ?_;rw [Option.bind_assoc] at h;refine ah (sr (mq ?_));refine ol fC ?_;refine dX rfl ?_;refine cI (SE.nil 5 (.int .u8)) ?_;refine nt (aj ?_)
  refine aK (fun v q=>[(7,.eq v7),(10,.eq (bP b)),(19,.rep (.slice (.slice (.int .i64))) a1),(20,I (a1.length:Int)),(21,I y.1),(25,Ri xs),(26,I (xs.length:Int)),(27,I q.1)])
   (fun v q=>[.obj b 162 (bA (.pointer (NG b q.2)) (QA q.2 v)),.sl (QA q.2 v) 5 (.int .u8) q.2,.sl v7 9 .str y.2,.inv 0 ig]) (kK xs) k undef (0,[]) (fun _=>rfl) h (SE.fin [1,0,2,3] ⟨rfl,rfl,rfl,rfl,rfl,rfl,rfl,rfl,trivial⟩ rfl) (fun n2 v q h=>?_)
  unfold kK at h;refine sr (jb (bv rfl) ?_);refine nt (ah (bi rfl (fun hb=>?_) (fun hb=>?_)))
  ·replace h:=ct (m8 hb) h;refine sk (ah (aj ?_));obtain⟨c,ec,h⟩:=ab h;refine sr (jb (ba (t:=.int .i64) rfl fC N6 ec) ?_);refine ja (au (t:=.int .i64) rfl N6 rfl) ?_;refine aq (nt ?_)
   have hk:0≤lm c∧lm c≤127∧bX (q.2.length+1):=by
    apply Classical.byContradiction;intro hn;rw [if_neg hn] at h;cases h
   replace h:=ct hk h;refine vz 1 rfl fun hv=>?_;refine aa (mq ?_);refine ja (oC rfl U3 Sr) ?_;refine jb (Be rfl) ?_;refine bB (Δ:=[_,_]) (F:=_) (fun _ _ _=>ar rfl _) rfl rfl (an [.tmp 10,.tmp 33] rfl rfl MO rfl (xl (b:=b) (p:=NG b q.2) (v:=QA q.2 v) (l:=q.2) (r:=lm c) (M5 b q.2) hv hk.1 hk.2.1 hk.2.2)) ⟨rfl,rfl,trivial⟩ fun v2=>?_;refine ao (aJ (tn (aa ?_)));obtain⟨z3,ez3,h⟩:=ab h;refine jb (bg rfl ez3) ?_;refine mq (nl ?_);exact iy (v2,(z3,q.2++[lm c])) h (SE.fin [0,1,2,3] ⟨rfl,rfl,rfl,rfl,rfl,rfl,rfl,rfl,trivial⟩ (by simp only [HM,HL];rfl))
  replace h:=bL (mz hb) h;refine dA (aM (aM (bR (tn ?_))));replace h:(if bX (y.2.length+1) then(ck (y.1+1)).bind fun z=>ju k a1 n (z,y.2++[qg q.2]) else none).bind _=some r:=h
  have hk:bX (y.2.length+1):=by
   apply Classical.byContradiction;intro hn;rw [if_neg hn] at h;cases h
  replace h:=ct hk h;refine aa (mq ?_);refine bB (Δ:=[_,_]) (F:=_) (fun _ _ _=>ar rfl _) rfl rfl (an [.tmp 10] rfl rfl Hz rfl (wd (b:=b) (l:=q.2) (fun hn=>by rw [hn];rfl))) ⟨rfl,trivial⟩ fun _=>?_;refine ja (bF (t:=.str) [(.tmp 37,.eq (.string (qg q.2)))] [qg q.2] rfl rfl KN (.cons rfl .str .nil) rfl rfl) ?_;refine dQ rfl rfl rfl (cp rfl rfl KN (by simpa using hk)) ⟨rfl,rfl,trivial⟩ fun v'=>?_;refine aq (ao (aJ (tn (aa ?_))));obtain⟨z3,ez3,h⟩:=ab h;refine jb (bg rfl ez3) ?_;refine mq (nl ?_);exact jz (v',(z3,y.2++[qg q.2])) h [0,1]
 replace h:=bL (mz hb) h
 refine dA ?_
 refine aM ?_
 refine aM ?_
 refine bR ?_
 refine tn ?_
 replace h:((tX k y.2 ⟨#[47]⟩).bind fun r=>some (.string r,0)).bind some=some r:=h
 obtain⟨r1,j,h⟩:=ab h
 cases h
 have cj:=AW k y.2 _ r1 j
 refine sr ?_
 refine cI (gG [7] ⟨rfl,trivial⟩) ?_
 refine mq ?_
 refine jb (an [.tmp 41,.const (.string ⟨#[47]⟩)] rfl rfl MN rfl cj) ?_
 refine aq ?_
 refine cq ?_
 refine nt ?_
 refine aC ?_
 exact aI () [_,_] 1 ⟨rfl,rfl,trivial⟩ rfl
def jd(k:Nat):Option Bool:=
 (kl k ([]:(List Int))).bind fun r1=>
 (wC k).bind fun r2=>
 (xj k r1 r2 1).bind fun r3=>
 (kl k ([]:(List Int))).bind fun r4=>
 (wC k).bind fun r5=>
 (pj k r4 r5).bind fun r6=>
 (kl k ([]:(List Int))).bind fun r7=>
 (jv k r7).bind fun r8=>
 (kl k ([]:(List Int))).bind fun r9=>
 (G0 k).bind fun E=>
 (ue k r9 E).bind fun c=>
 (kl k ([]:(List Int))).bind fun D=>
 (wC k).bind fun y=>
 (qe k D y 0 1).bind fun h=>
 (kl k ([]:(List Int))).bind fun x=>
 (wC k).bind fun u=>
 (sn k x u).bind fun e=>
 ((if r3.2.2=0 then(if r6.2=0 then(if r8.2.2=0 then(if c.2.2.2=0 then(if h.2.2=0 then(if e.2=0 then(if r6.1=3 then(if r8.2.1=0 then(if c.1=0 then(if c.2.1=2 then(if c.2.2.1=1 then(if h.2.1=2 then((eE (KZ e.1=true)).bind fun _=>
 if Hv e.1 (⟨#[98,97,100,47,99]⟩:ByteArray)=true then((dK k r3.1 [0]).bind fun s=>
 if s=true then((fH k r3.2.1 [[0,1,3],[2]]).bind fun r=>
 if r=true then((fH k r8.1 [[2,0],[1,3]]).bind fun n=>
 if n=true then((dK k h.1 [0,1,3]).bind fun l=>
 some l) else(some false)) else(some false)) else(some false)) else(some false)) else(some false)) else(some false)) else(some false)) else(some false)) else(some false)) else(some false)) else(some false)) else(some false)) else(some false)) else(some false)) else(some false)) else(some false)):Option (Bool)).bind fun j=>
 some j
theorem pV(k:Nat)(r:Bool)(h:jd k=some r):
 dh (iw Tryz.prog) 25 [] [.inv 0 (ig)] (fun _:Unit=>(bu [.eq (.bool r)],[.inv 0 (ig)])):=by
 unfold jd at h
 replace h:=a8 h
 refine dh.of 132 Tryz.func25 rfl Tryz.ntmps25 rfl fun S w0=>?_
 refine sr ?_
 refine cq ?_
 refine nt ?_
 refine sr ?_
 obtain⟨r1,SX,h⟩:=ab h
 have Tf:=jj k ([]:(List Int)) r1 SX
 refine ja (cU (N:=[(.const (.slice none 0 0),.eq (.slice none 0 0))]) (an [.const (.slice none 0 0)] rfl rfl EG rfl Tf) fun _ _ _ hn=>⟨(iC (t:=(.slice (.int .i64))) (x:=([]:(List Int))) .nil rfl rfl hn.1),trivial⟩) ?_
 obtain⟨r2,SV,h⟩:=ab h
 have Td:=rz k r2 SV
 refine aA rfl (an [] rfl rfl JI rfl Td) trivial ?_
 obtain⟨r3,SU,h⟩:=ab h
 have Ta:=AS k r1 r2 1 r3 SU
 refine kc (an [.tmp 19,.tmp 20,.const (.int .i64 (1))] rfl rfl Rt rfl Ta) ?_
 refine mq ?_
 refine xr ?_
 refine xr ?_
 refine xr ?_
 refine aq ?_
 refine aq ?_
 refine aq ?_
 refine nt ?_
 refine sr ?_
 obtain⟨r4,SS,h⟩:=ab h
 have S9:=jj k ([]:(List Int)) r4 SS
 refine ja (cU (N:=[(.const (.slice none 0 0),.eq (.slice none 0 0))]) (an [.const (.slice none 0 0)] rfl rfl EG rfl S9) fun _ _ _ hn=>⟨(iC (t:=(.slice (.int .i64))) (x:=([]:(List Int))) .nil rfl rfl hn.1),trivial⟩) ?_
 obtain⟨r5,SR,h⟩:=ab h
 have S8:=rz k r5 SR
 refine aA rfl (an [] rfl rfl JI rfl S8) trivial ?_
 obtain⟨r6,SQ,h⟩:=ab h
 have S7:=qV k r4 r5 r6 SQ
 refine kb (fa [.tmp 26,.tmp 27] rfl rfl Rn rfl S7) ?_
 refine mq ?_
 refine xr ?_
 refine xr ?_
 refine aq ?_
 refine aq ?_
 refine nt ?_
 refine sr ?_
 obtain⟨r7,SO,h⟩:=ab h
 have S5:=jj k ([]:(List Int)) r7 SO
 refine ja (cU (N:=[(.const (.slice none 0 0),.eq (.slice none 0 0))]) (an [.const (.slice none 0 0)] rfl rfl EG rfl S5) fun _ _ _ hn=>⟨(iC (t:=(.slice (.int .i64))) (x:=([]:(List Int))) .nil rfl rfl hn.1),trivial⟩) ?_
 obtain⟨r8,SN,h⟩:=ab h
 have SZ:=tg k r7 r8 SN
 refine ja (fa [.tmp 32] rfl rfl Pl rfl SZ) ?_
 refine mq ?_
 refine xr ?_
 refine xr ?_
 refine xr ?_
 refine aq ?_
 refine aq ?_
 refine aq ?_
 refine nt ?_
 refine sr ?_
 obtain⟨r9,SL,h⟩:=ab h
 have SY:=jj k ([]:(List Int)) r9 SL
 refine ja (cU (N:=[(.const (.slice none 0 0),.eq (.slice none 0 0))]) (an [.const (.slice none 0 0)] rfl rfl EG rfl SY) fun _ _ _ hn=>⟨(iC (t:=(.slice (.int .i64))) (x:=([]:(List Int))) .nil rfl rfl hn.1),trivial⟩) ?_
 obtain⟨E,qt,h⟩:=ab h
 have SD:=GZ k E qt
 refine aA rfl (an [] rfl rfl Rj rfl SD) trivial ?_
 obtain⟨SK,pp,h⟩:=ab h
 have SC:=yK k r9 E SK pp
 refine kb (fa [.tmp 38,.tmp 39] rfl rfl Rr rfl SC) ?_
 refine mq ?_
 refine xr ?_
 refine xr ?_
 refine xr ?_
 refine xr ?_
 refine aq ?_
 refine aq ?_
 refine aq ?_
 refine aq ?_
 refine nt ?_
 refine sr ?_
 obtain⟨D,mc,h⟩:=ab h
 have SB:=jj k ([]:(List Int)) D mc
 refine ja (cU (N:=[(.const (.slice none 0 0),.eq (.slice none 0 0))]) (an [.const (.slice none 0 0)] rfl rfl EG rfl SB) fun _ _ _ hn=>⟨(iC (t:=(.slice (.int .i64))) (x:=([]:(List Int))) .nil rfl rfl hn.1),trivial⟩) ?_
 obtain⟨y,ac,h⟩:=ab h
 have SA:=rz k y ac
 refine aA rfl (an [] rfl rfl JI rfl SA) trivial ?_
 obtain⟨u,Y,h⟩:=ab h
 have Sz:=vH k D y 0 1 u Y
 refine bU rfl rfl rfl (fa [.tmp 46,.tmp 47,.const (.int .i64 (0)),.const (.int .i64 (1))] rfl rfl Rq rfl Sz) ⟨rfl,rfl,rfl,rfl,trivial⟩ ?_
 refine mq ?_
 refine xr ?_
 refine xr ?_
 refine xr ?_
 refine aq ?_
 refine aq ?_
 refine aq ?_
 refine nt ?_
 refine sr ?_
 obtain⟨n,X,h⟩:=ab h
 have Sv:=jj k ([]:(List Int)) n X
 refine ja (cU (N:=[(.const (.slice none 0 0),.eq (.slice none 0 0))]) (an [.const (.slice none 0 0)] rfl rfl EG rfl Sv) fun _ _ _ hn=>⟨(iC (t:=(.slice (.int .i64))) (x:=([]:(List Int))) .nil rfl rfl hn.1),trivial⟩) ?_
 obtain⟨l,U,h⟩:=ab h
 have Su:=rz k l U
 refine aA rfl (an [] rfl rfl JI rfl Su) trivial ?_
 obtain⟨SJ,Q,h⟩:=ab h
 have se:=xh k n l SJ Q
 refine kb (an [.tmp 53,.tmp 54] rfl rfl Rl rfl se) ?_
 refine mq ?_
 refine xr ?_
 refine xr ?_
 refine aq ?_
 refine aq ?_
 refine nt ?_
 refine aN (Z:=Unit) (α:=Bool) (fun e c=>[(0,.eq (.bool c))]) (fun e c=>[.inv 0 (ig)]) h (fun K h=>?_) (fun e c h=>?_)
 ·
  refine aa (mq ?_);refine jb (ek rfl) ?_;refine mq ?_;refine bQ (s:=60) rfl (fun hb=>?_) (fun hb=>?_)
  ·replace h:=ct (m8 hb) h;refine gm ?_;refine gb (ek rfl) ?_;refine pt ?_;refine mq ?_;refine bQ (s:=64) rfl (fun hb=>?_) (fun hb=>?_)
   ·replace h:=ct (m8 hb) h;refine gm ?_;refine gb (ek rfl) ?_;refine pt ?_;refine mq ?_;refine bQ (s:=68) rfl (fun hb=>?_) (fun hb=>?_)
    ·replace h:=ct (m8 hb) h;refine gm ?_;refine gb (ek rfl) ?_;refine pt ?_;refine mq ?_;refine bQ (s:=72) rfl (fun hb=>?_) (fun hb=>?_)
     ·replace h:=ct (m8 hb) h;refine gm ?_;refine gb (ek rfl) ?_;refine pt ?_;refine mq ?_;refine bQ (s:=76) rfl (fun hb=>?_) (fun hb=>?_)
      ·replace h:=ct (m8 hb) h;refine gm ?_;refine gb (ek rfl) ?_;refine pt ?_;refine mq ?_;refine bQ (s:=80) rfl (fun hb=>?_) (fun hb=>?_)
       ·replace h:=ct (m8 hb) h;refine gm ?_;refine gb (ek rfl) ?_;refine pt ?_;refine mq ?_;refine bQ (s:=84) rfl (fun hb=>?_) (fun hb=>?_)
        ·replace h:=ct (m8 hb) h;refine gm ?_;refine gb (ek rfl) ?_;refine pt ?_;refine mq ?_;refine bQ (s:=88) rfl (fun hb=>?_) (fun hb=>?_)
         ·replace h:=ct (m8 hb) h;refine gm ?_;refine gb (ek rfl) ?_;refine pt ?_;refine mq ?_;refine bQ (s:=92) rfl (fun hb=>?_) (fun hb=>?_)
          ·replace h:=ct (m8 hb) h;refine gm ?_;refine gb (ek rfl) ?_;refine pt ?_;refine mq ?_;refine bQ (s:=96) rfl (fun hb=>?_) (fun hb=>?_)
           ·replace h:=ct (m8 hb) h;refine gm ?_;refine gb (ek rfl) ?_;refine pt ?_;refine mq ?_;refine bQ (s:=100) rfl (fun hb=>?_) (fun hb=>?_)
            ·replace h:=ct (m8 hb) h;refine gm ?_;refine gb (ek rfl) ?_;refine pt ?_;refine mq ?_;refine bQ (s:=104) rfl (fun hb=>?_) (fun hb=>?_)
             ·replace h:=ct (m8 hb) h;refine gm ?_;obtain⟨Ti,F,h⟩:=ab h;refine gb (Gi rfl (aE F)) ?_;refine pt ?_;refine mq ?_;refine bQ (s:=108) rfl (fun hb=>?_) (fun hb=>?_)
              ·replace h:=ct (AM hb) h;refine gm ?_;refine ga (bF (t:=(.int .i64)) [(.const (.int .i64 (0)),_)] [0] rfl rfl fF (.cons rfl .int .nil) rfl rfl) ?_;obtain⟨SI,O,h⟩:=ab h;refine gb (an [.tmp 109,.tmp 110] rfl rfl JJ rfl (iZ k r3.1 [0] SI O)) ?_;refine pt ?_;refine mq ?_;refine bQ (s:=113) rfl (fun hb=>?_) (fun hb=>?_)
               ·replace h:=ct (AM hb) h;refine gm ?_;refine gc (bF (t:=(.int .i64)) [(.const (.int .i64 (0)),_),(.const (.int .i64 (1)),_),(.const (.int .i64 (3)),_)] [0,1,3] rfl rfl fF (.cons rfl .int (.cons rfl .int (.cons rfl .int .nil))) rfl rfl) ?_;refine ga (bF (t:=(.int .i64)) [(.const (.int .i64 (2)),_)] [2] rfl rfl fF (.cons rfl .int .nil) rfl rfl) ?_;refine gb (bF (t:=(.slice (.int .i64))) [(.tmp 115,_),(.tmp 116,_)] [[0,1,3],[2]] rfl rfl su (.cons rfl .rep (.cons rfl .rep .nil)) rfl rfl) ?_;obtain⟨SH,M,h⟩:=ab h;refine gb (an [.tmp 114,.tmp 117] rfl rfl MQ rfl (jR k r3.2.1 [[0,1,3],[2]] SH M)) ?_;refine pt ?_;refine mq ?_;refine bQ (s:=120) rfl (fun hb=>?_) (fun hb=>?_)
                ·replace h:=ct (AM hb) h;refine gm ?_;refine gb (bF (t:=(.int .i64)) [(.const (.int .i64 (2)),_),(.const (.int .i64 (0)),_)] [2,0] rfl rfl fF (.cons rfl .int (.cons rfl .int .nil)) rfl rfl) ?_;refine gb (bF (t:=(.int .i64)) [(.const (.int .i64 (1)),_),(.const (.int .i64 (3)),_)] [1,3] rfl rfl fF (.cons rfl .int (.cons rfl .int .nil)) rfl rfl) ?_;refine gb (bF (t:=(.slice (.int .i64))) [(.tmp 122,_),(.tmp 123,_)] [[2,0],[1,3]] rfl rfl su (.cons rfl .rep (.cons rfl .rep .nil)) rfl rfl) ?_;obtain⟨SG,J,h⟩:=ab h;refine gb (an [.tmp 121,.tmp 124] rfl rfl MQ rfl (jR k r8.1 [[2,0],[1,3]] SG J)) ?_;refine pt ?_;refine mq ?_;refine bQ (s:=127) rfl (fun hb=>?_) (fun hb=>?_)
                 ·replace h:=ct (AM hb) h;refine gm ?_;refine gc (bF (t:=(.int .i64)) [(.const (.int .i64 (0)),_),(.const (.int .i64 (1)),_),(.const (.int .i64 (3)),_)] [0,1,3] rfl rfl fF (.cons rfl .int (.cons rfl .int (.cons rfl .int .nil))) rfl rfl) ?_;obtain⟨j,I,h⟩:=ab h;refine gb (an [.tmp 128,.tmp 129] rfl rfl JJ rfl (iZ k u.1 [0,1,3] j I)) ?_;refine pt ?_;refine aq (nl ?_);exact jz ((),j) h [0]
                 ·replace h:=bL (AN hb) h;iterate 3 refine gn ?_
                  refine pf ?_;refine aq (nl ?_);exact jz ((),false) h [0]
                ·replace h:=bL (AN hb) h;iterate 5 refine gn ?_
                 refine pf ?_;refine mq ?_;iterate 3 refine gn ?_
                 refine pf ?_;refine aq (nl ?_);exact jz ((),false) h [0]
               ·replace h:=bL (AN hb) h;iterate 5 refine gn ?_
                refine pf ?_;refine mq ?_;iterate 5 refine gn ?_
                refine pf ?_;refine mq ?_;iterate 3 refine gn ?_
                refine pf ?_;refine aq (nl ?_);exact jz ((),false) h [0]
              ·replace h:=bL (AN hb) h;iterate 3 refine gn ?_
               refine pf ?_;refine mq ?_;iterate 5 refine gn ?_
               refine pf ?_;refine mq ?_;iterate 5 refine gn ?_
               refine pf ?_;refine mq ?_;iterate 3 refine gn ?_
               refine pf ?_;refine aq (nl ?_);exact jz ((),false) h [0]
             ·replace h:=bL (mz hb) h;iterate 2 refine gn ?_
              refine pf ?_;refine mq ?_;iterate 3 refine gn ?_
              refine pf ?_;refine mq ?_;iterate 5 refine gn ?_
              refine pf ?_;refine mq ?_;iterate 5 refine gn ?_
              refine pf ?_;refine mq ?_;iterate 3 refine gn ?_
              refine pf ?_;refine aq (nl ?_);exact jz ((),false) h [0]
            ·replace h:=bL (mz hb) h;iterate 2 refine gn ?_
             refine pf ?_;refine mq ?_;iterate 2 refine gn ?_
             refine pf ?_;refine mq ?_;iterate 3 refine gn ?_
             refine pf ?_;refine mq ?_;iterate 5 refine gn ?_
             refine pf ?_;refine mq ?_;iterate 5 refine gn ?_
             refine pf ?_;refine mq ?_;iterate 3 refine gn ?_
             refine pf ?_;refine aq (nl ?_);exact jz ((),false) h [0]
           ·replace h:=bL (mz hb) h;iterate 2 refine gn ?_
            refine pf ?_;refine mq ?_;iterate 2 refine gn ?_
            refine pf ?_;refine mq ?_;iterate 2 refine gn ?_
            refine pf ?_;refine mq ?_;iterate 3 refine gn ?_
            refine pf ?_;refine mq ?_;iterate 5 refine gn ?_
            refine pf ?_;refine mq ?_;iterate 5 refine gn ?_
            refine pf ?_;refine mq ?_;iterate 3 refine gn ?_
            refine pf ?_;refine aq (nl ?_);exact jz ((),false) h [0]
          ·replace h:=bL (mz hb) h;iterate 2 refine gn ?_
           refine pf ?_;refine mq ?_;iterate 2 refine gn ?_
           refine pf ?_;refine mq ?_;iterate 2 refine gn ?_
           refine pf ?_;refine mq ?_;iterate 2 refine gn ?_
           refine pf ?_;refine mq ?_;iterate 3 refine gn ?_
           refine pf ?_;refine mq ?_;iterate 5 refine gn ?_
           refine pf ?_;refine mq ?_;iterate 5 refine gn ?_
           refine pf ?_;refine mq ?_;iterate 3 refine gn ?_
           refine pf ?_;refine aq (nl ?_);exact jz ((),false) h [0]
         ·replace h:=bL (mz hb) h;iterate 2 refine gn ?_
          refine pf ?_;refine mq ?_;iterate 2 refine gn ?_
          refine pf ?_;refine mq ?_;iterate 2 refine gn ?_
          refine pf ?_;refine mq ?_;iterate 2 refine gn ?_
          refine pf ?_;refine mq ?_;iterate 2 refine gn ?_
          refine pf ?_;refine mq ?_;iterate 3 refine gn ?_
          refine pf ?_;refine mq ?_;iterate 5 refine gn ?_
          refine pf ?_;refine mq ?_;iterate 5 refine gn ?_
          refine pf ?_;refine mq ?_;iterate 3 refine gn ?_
          refine pf ?_;refine aq (nl ?_);exact jz ((),false) h [0]
        ·replace h:=bL (mz hb) h;iterate 2 refine gn ?_
         refine pf ?_;refine mq ?_;iterate 2 refine gn ?_
         refine pf ?_;refine mq ?_;iterate 2 refine gn ?_
         refine pf ?_;refine mq ?_;iterate 2 refine gn ?_
         refine pf ?_;refine mq ?_;iterate 2 refine gn ?_
         refine pf ?_;refine mq ?_;iterate 2 refine gn ?_
         refine pf ?_;refine mq ?_;iterate 3 refine gn ?_
         refine pf ?_;refine mq ?_;iterate 5 refine gn ?_
         refine pf ?_;refine mq ?_;iterate 5 refine gn ?_
         refine pf ?_;refine mq ?_;iterate 3 refine gn ?_
         refine pf ?_;refine aq (nl ?_);exact jz ((),false) h [0]
       ·replace h:=bL (mz hb) h;iterate 2 refine gn ?_
        refine pf ?_;refine mq ?_;iterate 2 refine gn ?_
        refine pf ?_;refine mq ?_;iterate 2 refine gn ?_
        refine pf ?_;refine mq ?_;iterate 2 refine gn ?_
        refine pf ?_;refine mq ?_;iterate 2 refine gn ?_
        refine pf ?_;refine mq ?_;iterate 2 refine gn ?_
        refine pf ?_;refine mq ?_;iterate 2 refine gn ?_
        refine pf ?_;refine mq ?_;iterate 3 refine gn ?_
        refine pf ?_;refine mq ?_;iterate 5 refine gn ?_
        refine pf ?_;refine mq ?_;iterate 5 refine gn ?_
        refine pf ?_;refine mq ?_;iterate 3 refine gn ?_
        refine pf ?_;refine aq (nl ?_);exact jz ((),false) h [0]
      ·replace h:=bL (mz hb) h;iterate 2 refine gn ?_
       refine pf ?_;refine mq ?_;iterate 2 refine gn ?_
       refine pf ?_;refine mq ?_;iterate 2 refine gn ?_
       refine pf ?_;refine mq ?_;iterate 2 refine gn ?_
       refine pf ?_;refine mq ?_;iterate 2 refine gn ?_
       refine pf ?_;refine mq ?_;iterate 2 refine gn ?_
       refine pf ?_;refine mq ?_;iterate 2 refine gn ?_
       refine pf ?_;refine mq ?_;iterate 2 refine gn ?_
       refine pf ?_;refine mq ?_;iterate 3 refine gn ?_
       refine pf ?_;refine mq ?_;iterate 5 refine gn ?_
       refine pf ?_;refine mq ?_;iterate 5 refine gn ?_
       refine pf ?_;refine mq ?_;iterate 3 refine gn ?_
       refine pf ?_;refine aq (nl ?_);exact jz ((),false) h [0]
     ·replace h:=bL (mz hb) h;iterate 2 refine gn ?_
      refine pf ?_;refine mq ?_;iterate 2 refine gn ?_
      refine pf ?_;refine mq ?_;iterate 2 refine gn ?_
      refine pf ?_;refine mq ?_;iterate 2 refine gn ?_
      refine pf ?_;refine mq ?_;iterate 2 refine gn ?_
      refine pf ?_;refine mq ?_;iterate 2 refine gn ?_
      refine pf ?_;refine mq ?_;iterate 2 refine gn ?_
      refine pf ?_;refine mq ?_;iterate 2 refine gn ?_
      refine pf ?_;refine mq ?_;iterate 2 refine gn ?_
      refine pf ?_;refine mq ?_;iterate 3 refine gn ?_
      refine pf ?_;refine mq ?_;iterate 5 refine gn ?_
      refine pf ?_;refine mq ?_;iterate 5 refine gn ?_
      refine pf ?_;refine mq ?_;iterate 3 refine gn ?_
      refine pf ?_;refine aq (nl ?_);exact jz ((),false) h [0]
    ·replace h:=bL (mz hb) h;iterate 2 refine gn ?_
     refine pf ?_;refine mq ?_;iterate 2 refine gn ?_
     refine pf ?_;refine mq ?_;iterate 2 refine gn ?_
     refine pf ?_;refine mq ?_;iterate 2 refine gn ?_
     refine pf ?_;refine mq ?_;iterate 2 refine gn ?_
     refine pf ?_;refine mq ?_;iterate 2 refine gn ?_
     refine pf ?_;refine mq ?_;iterate 2 refine gn ?_
     refine pf ?_;refine mq ?_;iterate 2 refine gn ?_
     refine pf ?_;refine mq ?_;iterate 2 refine gn ?_
     refine pf ?_;refine mq ?_;iterate 2 refine gn ?_
     refine pf ?_;refine mq ?_;iterate 3 refine gn ?_
     refine pf ?_;refine mq ?_;iterate 5 refine gn ?_
     refine pf ?_;refine mq ?_;iterate 5 refine gn ?_
     refine pf ?_;refine mq ?_;iterate 3 refine gn ?_
     refine pf ?_;refine aq (nl ?_);exact jz ((),false) h [0]
   ·replace h:=bL (mz hb) h;iterate 2 refine gn ?_
    refine pf ?_;refine mq ?_;iterate 2 refine gn ?_
    refine pf ?_;refine mq ?_;iterate 2 refine gn ?_
    refine pf ?_;refine mq ?_;iterate 2 refine gn ?_
    refine pf ?_;refine mq ?_;iterate 2 refine gn ?_
    refine pf ?_;refine mq ?_;iterate 2 refine gn ?_
    refine pf ?_;refine mq ?_;iterate 2 refine gn ?_
    refine pf ?_;refine mq ?_;iterate 2 refine gn ?_
    refine pf ?_;refine mq ?_;iterate 2 refine gn ?_
    refine pf ?_;refine mq ?_;iterate 2 refine gn ?_
    refine pf ?_;refine mq ?_;iterate 2 refine gn ?_
    refine pf ?_;refine mq ?_;iterate 3 refine gn ?_
    refine pf ?_;refine mq ?_;iterate 5 refine gn ?_
    refine pf ?_;refine mq ?_;iterate 5 refine gn ?_
    refine pf ?_;refine mq ?_;iterate 3 refine gn ?_
    refine pf ?_;refine aq (nl ?_);exact jz ((),false) h [0]
  ·replace h:=bL (mz hb) h;iterate 2 refine gn ?_
   refine pf ?_;refine mq ?_;iterate 2 refine gn ?_
   refine pf ?_;refine mq ?_;iterate 2 refine gn ?_
   refine pf ?_;refine mq ?_;iterate 2 refine gn ?_
   refine pf ?_;refine mq ?_;iterate 2 refine gn ?_
   refine pf ?_;refine mq ?_;iterate 2 refine gn ?_
   refine pf ?_;refine mq ?_;iterate 2 refine gn ?_
   refine pf ?_;refine mq ?_;iterate 2 refine gn ?_
   refine pf ?_;refine mq ?_;iterate 2 refine gn ?_
   refine pf ?_;refine mq ?_;iterate 2 refine gn ?_
   refine pf ?_;refine mq ?_;iterate 2 refine gn ?_
   refine pf ?_;refine mq ?_;iterate 2 refine gn ?_
   refine pf ?_;refine mq ?_;iterate 3 refine gn ?_
   refine pf ?_;refine mq ?_;iterate 5 refine gn ?_
   refine pf ?_;refine mq ?_;iterate 5 refine gn ?_
   refine pf ?_;refine mq ?_;iterate 3 refine gn ?_
   refine pf ?_;refine aq (nl ?_);exact jz ((),false) h [0]
 ·
  refine aC ?_;cases h;exact aI () [_] 1 ⟨rfl,trivial⟩ rfl
def dZ(k:Nat)(a0:bK)(j:(List (List Int))):Nat→((List Int)×Int)→Option (List Int)
 |0,_=>none
 |n+1,c=>
  if c.2 < (a0.2.2.length:Int) then((((eE (0≤c.2∧c.2 < 3)).bind fun _=>
  (bf j c.2).bind fun h=>
  (dr k ([]:(List (List Int)))).bind fun s=>
  (bf s c.2).bind fun e=>
  (eE (uv h∧uv e)).bind fun _=>
  if¬(h=e) then((eE (bX (List.length c.1+List.length [c.2]))).bind fun _=>
  some (c.1++[c.2])) else(some c.1)):Option ((List Int))).bind fun r=>
  (ck (c.2+1)).bind fun l=>
  dZ k a0 j n (r,l)) else(some c.1)
def qW(k:Nat)(a0:bK):Option ((List Int)×(List (List Int))×Int):=
 (jL k a0).bind fun r2=>
 if¬(r2=0) then(some ([],[],r2)) else((dq k (lu (fun(y9:Bool×(List (List Int))×(List Int)) (h:(List (List Int)))=>
  ((dZ k a0 h k (([]:(List Int)),0)):Option ((List Int))).bind fun c=>
  ((if y9.1=true then(if(y9.2.2.length:Int) < (c.length:Int) then(some (c,true)) else(if(c.length:Int)=(y9.2.2.length:Int) then((dt k c y9.2.2).bind fun r=>
  some (c,decide (0≤r))) else(some (c,false)))) else(some (c,false))):Option ((List Int)×Bool)).bind fun j=>
  if j.2=true then(some ((y9.1,y9.2.1,y9.2.2),true)) else((bH k a0 h).bind fun n=>
  if n=0 then(some ((true,h,j.1),true)) else(some ((y9.1,y9.2.1,y9.2.2),true))))) (a0,()) ((false,[[0,0,0,0,0],[0,0,0,0,0],[0,0,0,0,0]],[]),false)).bind fun e=>
 if e.2=true then(none) else(if¬(e.1.1=true) then(some ([],[],11)) else((dk k (a0,()) e.1.2.1).bind fun l=>
 some (e.1.2.2,l,0))))
theorem AQ(k:Nat)(a0:bK)(r:(List Int)×(List (List Int))×Int)(h:qW k a0=some r):
 dh (iw Tryz.prog) 75 [.rep aG a0] [] (fun _:Unit=>(bu [Ri r.1,.rep (.slice (.slice (.int .i64))) r.2.1,I r.2.2],[])):=by
 unfold qW at h
 replace h:=a8 h
 refine Az 74 Tryz.func75 rfl Tryz.ntmps75 rfl fun S w0=>?_
 refine sr ?_
 refine bx fun b1=>?_
 refine cq ?_
 refine cq ?_
 refine cq ?_
 refine nt ?_
 refine xc rfl (nE (by kernel_rfl) (nE (by kernel_rfl) (nE (by kernel_rfl) (nE (by kernel_rfl) (nE (by kernel_rfl) (Hr Hq)))))) ?_
 refine ah ?_
 refine sr ?_
 refine lo i8 ?_
 obtain⟨r2,SR,h⟩:=ab h
 have SS:=ng k a0 r2 SR
 refine ja (an [.tmp 13] rfl rfl MS rfl SS) ?_
 refine aq ?_
 refine nt ?_
 refine sr ?_
 refine mq ?_
 refine jb (iN rfl) ?_
 refine nt ?_
 refine cn h (fun h=>?_) (fun h=>?_)
 ·
  refine sr (mq ?_);refine cq ?_;refine cq ?_;refine aq (nt (rx ?_));refine rV ?_;refine bM (jY (t:=(.slice (.int .i64))) (x:=[]) 2 rfl .nil rfl rfl) ?_;refine bM (jY (t:=(.slice (.slice (.int .i64)))) (x:=[]) 3 rfl .nil rfl rfl) ?_;refine H8 ?_;cases h;exact aI () [_,_,_] 0 ⟨rfl,rfl,rfl,trivial⟩ rfl
 ·
  refine sk (sr (lo i8 ?_));refine ay rfl rfl rfl (an [.tmp 18] rfl rfl HA rfl (fS a0)) ⟨rfl,trivial⟩ fun z3=>?_;refine cI (jX (a9 k a0) kZ) ?_;refine ay rfl rfl rfl (aP rfl KD Lc) trivial fun b4=>?_;refine aZ rfl rfl (aR rfl mO trivial rfl rfl) ⟨rfl,rfl,trivial⟩ ?_;refine nt (sr (ay rfl rfl rfl (aP rfl QJ Rz) trivial fun b5=>?_));refine nt (sr (ay rfl rfl rfl (aP rfl li lM) trivial fun b6=>?_));refine nt (sr (ay rfl rfl rfl (aP rfl RY Sl) trivial fun b7=>?_));refine aZ rfl rfl (aR rfl Qv rfl rfl rfl) ⟨rfl,rfl,trivial⟩ ?_;refine nt (ah (As ?_));refine tn (ah (sr (fr 3 ?_)));refine lo mO ?_;refine ay rfl rfl rfl (cU (N:=[(.tmp 20,.at ap (a0,(.map (some z3))))]) (an [.tmp 20] rfl rfl K5 rfl (kd (a0,()))) fun _ _ _ hn=>⟨oW hn.1,trivial⟩) ⟨rfl,trivial⟩ fun b8=>?_;refine nt (aj (c9 4 rfl ?_));refine fh (nJ (a:=.eq (.slice none 0 0)) (a':=Ri []) (vA .nil)) ?_;refine c9 6 rfl ?_;refine c9 6 rfl ?_;refine c9 2 rfl ?_;refine c9 6 rfl ?_;refine c9 6 rfl ?_;refine c9 6 rfl ?_;refine c9 6 rfl ?_;obtain⟨D,SI,h⟩:=ab h;refine kT (Δ:=[.obj b8 102 (.at bj (a0,())),.obj b4 102 (.at ap (a0,(.map (some z3)))),.obj b7 4 (.eq (.bool false)),.obj b6 107 (.rep (.arr 3 (.arr 5 (.int .i64))) [[0,0,0,0,0],[0,0,0,0,0],[0,0,0,0,0]]),.obj b5 23 (Ri []),.inv z3 (a9 k a0),.obj b1 25 (.rep aG a0)]) (F:=[]) (X:=Unit) (J:=fun _=>E0 D.2) (E:=fun Y=>[.obj b8 102 (.at bj (a0,())),.obj b4 102 (.at ap (a0,(.map (some z3)))),.obj b7 4 (.eq (.bool D.1.1)),.obj b6 107 (.rep (.arr 3 (.arr 5 (.int .i64))) D.1.2.1),.obj b5 23 (Ri D.1.2.2),.inv z3 (a9 k a0),.obj b1 25 (.rep aG a0)]) (r0:=fun _=>.tup .any) rfl rfl K3 (fun rec hp ha hb hs hpe hN hv l=>?_) (fun dl Y=>nh (fun hj=>?_) (fun hj=>?_))
  ·rcases rec with⟨st0,pe0,fn0,tm0,ps0,as0,bd0,df0⟩;dsimp only at hp ha hb hs hpe hN hv;subst hp hs hpe;have vN:tU tm0 [(1,Pt b1),(6,Pt b4),(7,Pt b5),(8,Pt b6),(9,Pt b7)]:=⟨congrArg A.eq (hv 1 _ rfl).symm,congrArg A.eq (hv 6 _ rfl).symm,congrArg A.eq (hv 7 _ rfl).symm,congrArg A.eq (hv 8 _ rfl).symm,congrArg A.eq (hv 9 _ rfl).symm,trivial⟩;refine dh.pick (M:=(iw Tryz.prog)) [1,0,2,3,4,5,6,7] [1,0,2,3,4,5,6,7] (jt (fun(Y:Unit) (q:(Bool×(List (List Int))×(List Int))×Bool)=>[.raw l (.loop (iI ⟨.ready,none,fn0,tm0, #[22],as0,bd0,df0⟩ (E0 q.2))),.obj b4 102 (.at ap (a0,(.map (some z3)))),.obj b7 4 (.eq (.bool q.1.1)),.obj b6 107 (.rep (.arr 3 (.arr 5 (.int .i64))) q.1.2.1),.obj b5 23 (Ri q.1.2.2),.inv z3 (a9 k a0),.obj b1 25 (.rep aG a0)]) l (lu (fun(y9:Bool×(List (List Int))×(List Int)) (j:(List (List Int)))=>
   ((dZ k a0 j k (([]:(List Int)),0)):Option ((List Int))).bind fun c=>
   ((if y9.1=true then(if(y9.2.2.length:Int) < (c.length:Int) then(some (c,true)) else(if(c.length:Int)=(y9.2.2.length:Int) then((dt k c y9.2.2).bind fun mc=>
   some (c,decide (0≤mc))) else(some (c,false)))) else(some (c,false))):Option ((List Int)×Bool)).bind fun y=>
   if y.2=true then(some ((y9.1,y9.2.1,y9.2.2),true)) else((bH k a0 j).bind fun se=>
   if se=0 then(some ((true,j,y.1),true)) else(some ((y9.1,y9.2.1,y9.2.2),true))))) k (a0,()) b8 (fun Y q p r' h=>?_) () ((false,[[0,0,0,0,0],[0,0,0,0,0],[0,0,0,0,0]],[]),false) D SI) rfl (fun _=>rfl) (fun _=>rfl)
   obtain⟨rq,hq,h2,rfl⟩:=ni h;obtain⟨y9,b5⟩:=q;obtain rfl:b5=false:=hq;replace h:=a8 h2;obtain⟨j,hpv⟩:∃x,x=p:=⟨_,rfl⟩;subst hpv;refine YT.pick (R':=(fun Y:Unit=>(.eq (.bool rq.2),[.raw l (.loop (iI ⟨.ready,none,fn0,tm0, #[22],as0,bd0,df0⟩ (E0 (!rq.2)))),.obj b4 102 (.at ap (a0,(.map (some z3)))),.obj b7 4 (.eq (.bool rq.1.1)),.obj b6 107 (.rep (.arr 3 (.arr 5 (.int .i64))) rq.1.2.1),.obj b5 23 (Ri rq.1.2.2),.inv z3 (a9 k a0),.obj b1 25 (.rep aG a0)]))) [0,1,2,3,4,5,6] [0,1,2,3,4,5,6] (BR ha hb (N:=74) (Γ:=[(1,Pt b1),(6,Pt b4),(7,Pt b5),(8,Pt b6),(9,Pt b7)]) rfl hN (by decide) vN (fun S w=>?_)) rfl (fun _=>rfl) (fun _=>rfl);refine aa (ay rfl rfl rfl (aP rfl li lM) trivial fun u=>?_);refine aZ rfl rfl (aR rfl cG rfl rfl rfl) ⟨rfl,rfl,trivial⟩ ?_;refine nl (aY 1 rfl ?_);refine rW rfl rfl ?_;refine aj (sr (cq (nt ?_)));refine aN (Z:=Value) (α:=(List Int)) (fun U c=>[(6,Pt b4),(7,Pt b5),(8,Pt b6),(9,Pt b7),(10,Pt u),(11,.eq U)]) (fun U c=>[.obj b4 102 (.at ap (a0,(.map (some z3)))),.obj b5 23 (Ri y9.2.2),.obj b6 107 (.rep (.arr 3 (.arr 5 (.int .i64))) y9.2.1),.obj b7 4 (.eq (.bool y9.1)),.obj u 107 (.rep (.arr 3 (.arr 5 (.int .i64))) j),.sl U 3 (.int .i64) c,.inv z3 (a9 k a0),.obj b1 25 (.rep aG a0),.raw l (.loop (⟨.busy,none,fn0,tm0, #[22],as0,bd0,df0⟩:Loop))]) h (fun K h=>?_) (fun U c h=>?_)
   ·refine sr (fl eV ?_);refine fr 7 ?_;refine lo bZ ?_;refine ol fC ?_;refine dX rfl ?_;refine nt (aj (fh (SE.nil 3 (.int .i64)) ?_));refine aK (fun O e=>[(6,Pt b4),(7,Pt b5),(8,Pt b6),(9,Pt b7),(10,Pt u),(11,.eq O),(25,I (a0.2.2.length:Int)),(26,I e.2)]) (fun O e=>[.obj b4 102 (.at ap (a0,(.map (some z3)))),.obj b5 23 (Ri y9.2.2),.obj b6 107 (.rep (.arr 3 (.arr 5 (.int .i64))) y9.2.1),.obj b7 4 (.eq (.bool y9.1)),.obj u 107 (.rep (.arr 3 (.arr 5 (.int .i64))) j),.sl O 3 (.int .i64) e.1,.inv z3 (a9 k a0),.obj b1 25 (.rep aG a0),.raw l (.loop (⟨.busy,none,fn0,tm0, #[22],as0,bd0,df0⟩:Loop))]) (dZ k a0 j) k (.slice none 0 0) (([]:(List Int)),0) (fun _=>rfl) h (SE.fin [4,7,6,5,3,0,8,1,2] ⟨rfl,rfl,rfl,rfl,rfl,rfl,rfl,rfl,trivial⟩ rfl) (fun n O e h=>?_);unfold dZ at h;refine sr (jb (bv rfl) ?_);refine nt (ah (ci h (fun h=>?_) (fun h=>?_)))
    ·refine sk (aN (Z:=Value) (α:=(List Int)) (fun Q ac=>[(6,Pt b4),(7,Pt b5),(8,Pt b6),(9,Pt b7),(10,Pt u),(11,.eq Q),(25,I (a0.2.2.length:Int)),(26,I e.2)]) (fun Q ac=>[.obj b4 102 (.at ap (a0,(.map (some z3)))),.obj b5 23 (Ri y9.2.2),.obj b6 107 (.rep (.arr 3 (.arr 5 (.int .i64))) y9.2.1),.obj b7 4 (.eq (.bool y9.1)),.obj u 107 (.rep (.arr 3 (.arr 5 (.int .i64))) j),.sl Q 3 (.int .i64) ac,.inv z3 (a9 k a0),.obj b1 25 (.rep aG a0),.raw l (.loop (⟨.busy,none,fn0,tm0, #[22],as0,bd0,df0⟩:Loop))]) h (fun K h=>?_) (fun Q ac h=>?_))
     ·refine aj (sr (mq ?_));refine aq (nt (ah ?_));refine cm ?_;refine dm ?_;obtain⟨S7,qt,h⟩:=ab h;refine db (gh rfl EN ti (aE qt).1 (aE qt).2) ?_;obtain⟨SV,SA,h⟩:=ab h;refine ea 4 (uM (t:=(.arr 5 (.int .i64))) (off:=0) (i:=e.2) (N:=3) rfl ti (xE) rfl rfl rfl rfl SA) ?_;obtain⟨SN,SH,h⟩:=ab h;refine da (cU (N:=[(.const (.slice none 0 0),.eq (.slice none 0 0))]) (an [.const (.slice none 0 0)] rfl rfl BK rfl (dN k ([]:(List (List Int))) SN SH)) fun _ _ _ hn=>⟨(iC (t:=(.slice (.slice (.int .i64)))) (x:=([]:(List (List Int)))) .nil rfl rfl hn.1),trivial⟩) ?_;refine dm ?_;obtain⟨SU,Sz,h⟩:=ab h;refine db (tq (t:=(.arr 5 (.int .i64))) rfl EN ti rfl rfl (xE) Sz) ?_;refine df fg ?_;obtain⟨S5,pp,h⟩:=ab h;refine jb (F4 rfl (aE pp).1 (aE pp).2) ?_;refine nt (cn h (fun h=>?_) (fun h=>?_))
      ·refine aa ?_;iterate 2 refine mq ?_
       refine ja (bF (t:=(.int .i64)) [(.tmp 37,_)] [e.2] rfl rfl fF (.cons rfl .int .nil) rfl rfl) ?_;obtain⟨SZ,SB,h⟩:=ab h;refine fr 5 ?_;refine dQ rfl rfl rfl (cp rfl rfl fF (aE SB)) ⟨rfl,rfl,trivial⟩ fun SK=>?_;refine aq (ao (bn ?_));exact jz (SK,e.1++[e.2]) h [1,2,3,4,5,0,6,7,8]
      ·refine aU (bn ?_);exact jz (O,e.1) h [0,1,2,3,4,5,6,7,8]
     ·refine aa ?_;obtain⟨SJ,Sv,h⟩:=ab h;refine jb (bg rfl Sv) ?_;refine mq (nl ?_);exact jz (Q,(ac,SJ)) h [0,1,2,3,4,5,6,7,8]
    ·refine xa ?_;exact jz (O,e.1) h [0,1,2,3,4,5,6,7,8]
   ·refine ah (aN (Z:=Unit) (α:=(List Int)×Bool) (fun Su y=>[(6,Pt b4),(7,Pt b5),(8,Pt b6),(9,Pt b7),(10,Pt u),(11,Ri y.1),(61,.eq (.bool y.2))]) (fun Su y=>[.obj b4 102 (.at ap (a0,(.map (some z3)))),.obj b5 23 (Ri y9.2.2),.obj b6 107 (.rep (.arr 3 (.arr 5 (.int .i64))) y9.2.1),.obj b7 4 (.eq (.bool y9.1)),.obj u 107 (.rep (.arr 3 (.arr 5 (.int .i64))) j),.inv z3 (a9 k a0),.obj b1 25 (.rep aG a0),.raw l (.loop (⟨.busy,none,fn0,tm0, #[22],as0,bd0,df0⟩:Loop))]) h (fun K h=>?_) (fun Su y h=>?_))
    ·refine aa (fr 3 ?_);refine lo Qv ?_;refine mq ?_;refine bQ (s:=42) rfl (fun hb=>?_) (fun hb=>?_)
     ·replace h:=ct (AM hb) h;refine gm ?_;refine fr 5 ?_;refine ix rfl rfl rfl rfl rfl rfl (cZ rfl rfl fC) ⟨rfl,trivial⟩ ?_;refine fr 3 ?_;refine ix rfl rfl rfl rfl rfl rfl (ak rfl bZ mr rfl) ⟨rfl,trivial⟩ ?_;refine ga (jJ rfl rfl fC) ?_;refine gb (lD rfl) ?_;refine gm ?_;refine bQ (s:=48) rfl (fun hb=>?_) (fun hb=>?_)
      ·replace h:=ct (m8 hb) h;iterate 6 refine gn ?_
       refine gu ?_;refine gu ?_;refine gu ?_;refine gu ?_;refine gn ?_;refine gb (oz rfl) ?_;refine pt (nl ?_);refine aY 1 rfl ?_;refine bM (gG [11,43] ⟨rfl,rfl,trivial⟩) ?_;exact jz ((),(c,true)) h [2,0,3,1,4,5,6,7]
      ·replace h:=bL (mz hb) h;refine gm ?_;refine fr 1 ?_;refine ix rfl rfl rfl rfl rfl rfl (cZ rfl rfl fC) ⟨rfl,trivial⟩ ?_;refine fr 1 ?_;refine ix rfl rfl rfl rfl rfl rfl (ak rfl bZ mr rfl) ⟨rfl,trivial⟩ ?_;refine ga (jJ rfl rfl fC) ?_;refine gb (ek rfl) ?_;refine gm ?_;refine bQ (s:=54) rfl (fun hb=>?_) (fun hb=>?_)
       ·replace h:=ct (m8 hb) h;refine gm ?_;refine ix rfl rfl rfl rfl rfl rfl (ak rfl bZ mr rfl) ⟨rfl,trivial⟩ ?_;refine fr 1 ?_;refine cI (gG [11,43,49,55] ⟨rfl,rfl,rfl,rfl,trivial⟩) ?_;obtain⟨mc,SG,h⟩:=ab h;refine gb (an [.tmp 55,.tmp 56] rfl rfl PS rfl (qj k c y9.2.2 mc SG)) ?_;refine gb (pT rfl) ?_;refine gb (oz rfl) ?_;refine gb (mU rfl) ?_;refine pt (nl ?_);exact jz ((),(c,decide (0≤mc))) h [2,0,3,1,4,5,6,7]
       ·replace h:=bL (mz hb) h;iterate 4 refine gn ?_
        refine gb (mU rfl) ?_;refine gb (mU rfl) ?_;refine pt (nl ?_);refine aY 1 rfl ?_;refine bM (gG [11,43,49] ⟨rfl,rfl,rfl,trivial⟩) ?_;exact jz ((),(c,false)) h [2,0,3,1,4,5,6,7]
     ·replace h:=bL (AN hb) h;iterate 6 refine gn ?_
      refine gu ?_;refine gu ?_;refine gu ?_;refine gu ?_;refine gu ?_;refine gu ?_;refine gu ?_;refine gu ?_;refine gu ?_;refine gu ?_;refine gu ?_;refine gn ?_;refine pf (nl ?_);refine aY 5 rfl ?_;refine bM (gG [11] ⟨rfl,trivial⟩) ?_;exact jz ((),(c,false)) h [1,2,3,0,4,5,6,7]
    ·refine cv h (fun h=>?_) (fun h=>?_)
     ·refine dA (aM (bR (aY 6 rfl ?_)));refine aY 6 rfl ?_;refine aY 3 rfl ?_;refine aY 4 rfl ?_;refine aY 5 rfl ?_;refine aY 5 rfl ?_;refine aY 7 rfl ?_;cases h;exact lg () 6 rfl
     ·refine sk (sr (lo mO ?_));refine fr 4 ?_;refine lo cG ?_;obtain⟨se,SD,h⟩:=ab h;refine fr 5 ?_;refine kb (fa [.tmp 62,.tmp 63] rfl rfl HC rfl (g9 k a0 z3 j se SD)) ?_;refine jb (ek rfl) ?_;refine nt (ci h (fun h=>?_) (fun h=>?_))
      ·refine lP ?_;refine bV rfl rfl rfl (bz rfl) ⟨rfl,trivial⟩ ?_;refine gd 1 rfl rfl rfl rfl (ak rfl cG (xE) rfl) ⟨rfl,trivial⟩ ?_;refine qL 2 [true,false] [] [1] [.obj u 107 (.rep (.arr 3 (.arr 5 (.int .i64))) j)] rfl (by kernel_rfl) (by kernel_rfl) (by kernel_rfl) fg (fun vs hv hB=>?_);obtain⟨w0,SY,rfl,SQ⟩:=aD hv;obtain⟨w1,SX,rfl,SO⟩:=aD SQ;obtain rfl:=nz SO;refine⟨[1,0,2,3,4,5,6,7],[.inv z3 (a9 k a0),.obj b4 102 (.at ap (a0,(.map (some z3)))),.obj b5 23 (Ri y9.2.2),.obj b6 107 (.rep (.arr 3 (.arr 5 (.int .i64))) y9.2.1),.obj b7 4 (.eq (.bool y9.1)),.obj b1 25 (.rep aG a0),.raw l (.loop (⟨.busy,none,fn0,tm0, #[22],as0,bd0,df0⟩:Loop))],by kernel_rfl,by decide,?_⟩;refine rT 2 rfl ?_;refine qJ rfl rfl (aR rfl bZ rfl rfl rfl) ⟨rfl,rfl,trivial⟩ (by kernel_rfl) ?_;refine H7 (by kernel_rfl) ?_;refine fr 4 ?_;refine aZ rfl rfl (aR rfl cG rfl rfl rfl) ⟨rfl,rfl,trivial⟩ ?_;refine fr 5 ?_;refine aZ rfl rfl (aR rfl Qv rfl rfl rfl) ⟨rfl,rfl,trivial⟩ ?_;refine ao (aJ (aY 6 rfl ?_));refine aY 5 rfl ?_;refine aY 5 rfl ?_;refine aY 4 rfl ?_;refine aY 4 rfl ?_;refine aY 6 rfl ?_;refine aY 7 rfl ?_;cases h;exact lg () 6 rfl
      ·refine aU (aJ (aY 6 rfl ?_));refine aY 1 rfl ?_;refine aY 4 rfl ?_;refine aY 5 rfl ?_;refine aY 6 rfl ?_;refine aY 6 rfl ?_;refine aY 7 rfl ?_;cases h;exact lg () 6 rfl
  ·replace h:=bL (AN hj) h;refine aJ (tn (ah (sr (fr 3 ?_))));refine lo Qv ?_;refine ja (gQ rfl) ?_;refine nt (cw h (fun h=>?_) (fun h=>?_))
   ·refine sr (cq ?_);refine cq ?_;refine cq (nt (rx ?_));refine rV ?_;refine bM (jY (t:=(.slice (.int .i64))) (x:=[]) 2 rfl .nil rfl rfl) ?_;refine bM (jY (t:=(.slice (.slice (.int .i64)))) (x:=[]) 3 rfl .nil rfl rfl) ?_;refine aY 1 rfl ?_;refine rU ?_;cases h;exact aI () [_,_,_] 0 ⟨rfl,rfl,rfl,trivial⟩ rfl
   ·refine sk (ah (cm ?_));refine ea 5 (ak rfl bZ mr rfl) ?_;refine ea 3 (ak rfl mO mr rfl) ?_;refine ea 4 (ak rfl cG (xE) rfl) ?_;obtain⟨SL,SC,h⟩:=ab h;refine db (Dl (cU (N:=[(.tmp 71,.at ap (a0,(.map (some z3)))),(.tmp 72,.rep (.arr 3 (.arr 5 (.int .i64))) D.1.2.1)]) (an [.tmp 71,.tmp 72] rfl rfl JG rfl (g8 k (a0,()) D.1.2.1 SL SC)) fun _ _ _ hn=>⟨(oW hn.1),hn.2.1,trivial⟩)) ?_;refine df fg ?_;refine aq ?_;refine aq ?_;refine cq (nt (aC ?_));refine rV ?_;refine aY 1 rfl ?_;refine rU ?_;cases h;exact aI () [_,_,_] 0 ⟨rfl,rfl,rfl,trivial⟩ rfl
  ·replace h:=ct (AM hj) h;cases h
def d6(k:Nat)(h:(List (List Int)))(e:Int):Nat→((List Int)×Int)→Option (List Int)
 |0,_=>none
 |n+1,c=>
  if c.2 < (c.1.length:Int) then((((bf h e).bind fun l=>
  (uW k l c.2).bind fun s=>
  if s < 0 then((bf c.1 c.2).bind fun u=>
  some (List.set c.1 (Int.toNat c.2) 0)) else(some c.1)):Option ((List Int))).bind fun r=>
  (ck (c.2+1)).bind fun j=>
  d6 k h e n (r,j)) else(some c.1)
def bT(k:Nat)(r3:bK×cQ)(r5:(List Int)×(List (List Int))×Int)(j:(List (List Int))):Nat→Int→Option (Except Bool Unit)
 |0,_=>none
 |n+1,h=>
  if h < (j.length:Int) then(bE (α:=Unit) ((jC k r3.1).bind fun l=>
  ((d6 k j h k (l.2.2,0)):Option ((List Int))).bind fun D=>
  (jv k (l.1,l.2.1,D)).bind fun c=>
  ((if c.2.2=0 then(some (decide (c.2.1=0))) else(some false)):Option (Bool)).bind fun y=>
  if y=true then(((if r5.2.2=0 then((bf j h).bind fun u=>
  (dK k r5.1 u).bind fun I=>
  if I=true then((fH k r5.2.1 c.1).bind fun F=>
  if F=true then((jd k).bind fun E=>
  some E) else(some false)) else(some false)) else(some false)):Option (Bool)).bind fun x=>
  some (.error x)) else(((if¬(c.2.2=0) then(some (!decide (c.2.2=11))) else(some false)):Option (Bool)).bind fun s=>
  if s=true then(some (.error false)) else(some (.ok ())))) (fun e=>some (.error e)) fun _=>
  (ck (h+1)).bind fun r=>
  bT k r3 r5 j n r) else(some (.ok ()))
def du(k:Nat)(r3:bK×cQ)(r5:(List Int)×(List (List Int))×Int):Nat→Int→Option (Except Bool Unit)
 |0,_=>none
 |n+1,y8=>
  if y8≤(r3.1.2.2.length:Int) then(bE (α:=Unit) ((jk k k (r3.1.2.2.length:Int) y8).bind fun h=>
  bT k r3 r5 h k 0) (fun e=>some (.error e)) fun _=>
  (ck (y8+1)).bind fun c=>
  du k r3 r5 n c) else(some (.ok ()))
def kM(k:Nat)(a0:(List Int)):Option Bool:=
 (mb k a0).bind fun r1=>
 (jQ k (r1.1,r1.2.1,r1.2.2) 4 3).bind fun r3=>
 (qW k r3.1).bind fun r5=>
 bE (α:=Unit) (du k r3 r5 k 0) (some) fun _=>
 ((if r5.2.2=11 then((ck ((r5.1.length:Int)+(r5.2.1.length:Int))).bind fun c=>
 if c=0 then((jd k).bind fun h=>
 some h) else(some false)) else(some false)):Option (Bool)).bind fun e=>
 some e
theorem tN(k:Nat)(a0:(List Int))(r:Bool)(h:kM k a0=some r):
 dh (iw Tryz.prog) 21 [Ri a0] [.inv 0 (ig)] (fun _:Unit=>(bu [.eq (.bool r)],[.inv 0 (ig)])):=by
 unfold kM at h
 replace h:=a8 h
 refine dh.of 111 Tryz.func21 rfl Tryz.ntmps21 rfl fun S w0=>?_
 refine sr ?_
 refine cq ?_
 refine nt ?_
 refine sr ?_
 refine mq ?_
 obtain⟨r1,To,h⟩:=ab h
 have Tv:=uU k a0 r1 To
 refine ay rfl rfl rfl (an [.tmp 15] rfl rfl Rw rfl Tv) ⟨rfl,trivial⟩ fun b2=>?_
 obtain⟨r3,Tn,h⟩:=ab h
 have Tu:=vS k (r1.1,r1.2.1,r1.2.2) b2 4 3 r3 Tn
 refine kc (an [.tmp 16,.const (.int .i64 (4)),.const (.int .i64 (3))] rfl rfl Rm rfl Tu) ?_
 refine ay rfl rfl rfl (aP rfl lh nH) trivial fun b4=>?_
 refine aZ rfl rfl (aR rfl i8 rfl rfl rfl) ⟨rfl,rfl,trivial⟩ ?_
 refine nt ?_
 refine sr ?_
 refine lo i8 ?_
 obtain⟨r5,Tm,h⟩:=ab h
 have Tt:=AQ k r3.1 r5 Tm
 refine ja (fa [.tmp 19] rfl rfl Rk rfl Tt) ?_
 refine mq ?_
 refine xr ?_
 refine xr ?_
 refine xr ?_
 refine aq ?_
 refine aq ?_
 refine aq ?_
 refine nt ?_
 refine fA (Z:=Unit) (α:=Unit) (fun z7 x6=>[(4,Ri r5.1),(5,.rep (.slice (.slice (.int .i64))) r5.2.1),(6,I r5.2.2)]) (fun z7 x6=>[.inv 0 (ig)]) (fun e=>e=r) h (fun e h=>Option.some.inj h) (fun K hR h=>?_) (fun z7 x6 h=>?_)
 ·
  refine sr (cq (nt (aj ?_)));refine aK (fun z9 y8=>[(3,Pt b4),(4,Ri r5.1),(5,.rep (.slice (.slice (.int .i64))) r5.2.1),(6,I r5.2.2),(7,I y8)]) (fun z9 y8=>[.obj b4 25 (.rep aG r3.1),.inv 0 (ig)]) (du k r3 r5) k () 0 (fun _=>rfl) h (SE.fin [0,2] ⟨rfl,rfl,rfl,rfl,rfl,trivial⟩ rfl) (fun n z9 y8 h=>?_);unfold du at h;refine ah (sr (mq ?_));refine fl eV ?_;refine lo bZ ?_;refine ol fC ?_;refine jb (wl rfl) ?_;refine nt (ci h (fun h=>?_) (fun h=>?_))
  ·refine sk (fA (Z:=Unit) (α:=Unit) (fun SG SI=>[(3,Pt b4),(4,Ri r5.1),(5,.rep (.slice (.slice (.int .i64))) r5.2.1),(6,I r5.2.2),(7,I y8)]) (fun SG SI=>[.obj b4 25 (.rep aG r3.1),.inv 0 (ig)]) (fun e=>e=r) h (fun e h=>hR e h) (fun K hR h=>?_) (fun SG SI h=>?_))
   ·refine aj (sr (fl eV ?_));refine lo bZ ?_;refine ol fC ?_;refine mq ?_;obtain⟨D,S5,h⟩:=ab h;refine ay rfl rfl rfl (an [.tmp 33,.tmp 34] rfl rfl Pj rfl (xM k k (r3.1.2.2.length:Int) y8 D S5)) ⟨rfl,rfl,trivial⟩ fun c=>?_;refine aq (nt (sr ?_));refine cq (nt (aj ?_));refine aK (fun SD u=>[(3,Pt b4),(4,Ri r5.1),(5,.rep (.slice (.slice (.int .i64))) r5.2.1),(6,I r5.2.2),(7,I y8),(8,.eq c),(9,I u)]) (fun SD u=>[.obj b4 25 (.rep aG r3.1),.sl c 23 (.slice (.int .i64)) D,.inv 0 (ig)]) (bT k r3 r5 D) k () 0 (fun _=>rfl) h (SE.fin [1,0,2] ⟨rfl,rfl,rfl,rfl,rfl,rfl,rfl,trivial⟩ rfl) (fun n SD u h=>?_);unfold bT at h;refine ah (sr ?_);iterate 2 refine mq ?_
    refine fr 1 ?_;refine ka (cZ rfl rfl nI) ?_;refine jb (bv rfl) ?_;refine nt (ci h (fun h=>?_) (fun h=>?_))
    ·refine sk (fA (Z:=Unit) (α:=Unit) (fun SC SH=>[(3,Pt b4),(4,Ri r5.1),(5,.rep (.slice (.slice (.int .i64))) r5.2.1),(6,I r5.2.2),(7,I y8),(8,.eq c),(9,I u)]) (fun SC SH=>[.obj b4 25 (.rep aG r3.1),.sl c 23 (.slice (.int .i64)) D,.inv 0 (ig)]) (fun e=>e=r) h (fun e h=>hR e h) (fun K hR h=>?_) (fun SC SH h=>?_))
     ·refine aj (sr (fr 1 ?_));refine lo i8 ?_;obtain⟨j,SZ,h⟩:=ab h;refine bB (Δ:=[]) (F:=_) (fun _ _ _=>ar rfl _) rfl rfl (an [.tmp 42] rfl rfl Ru rfl (tO k r3.1 j SZ)) ⟨rfl,trivial⟩ fun l=>?_;refine ay rfl rfl rfl (aP rfl lh nH) trivial fun M=>?_;refine aZ rfl rfl (aR rfl i8 trivial rfl rfl) ⟨rfl,rfl,trivial⟩ ?_;refine nt (aN (Z:=Unit) (α:=(List Int)) (fun SB E=>[(3,Pt b4),(4,Ri r5.1),(5,.rep (.slice (.slice (.int .i64))) r5.2.1),(6,I r5.2.2),(7,I y8),(8,.eq c),(9,I u),(10,Pt M)]) (fun SB E=>[.obj b4 25 (.rep aG r3.1),.sl c 23 (.slice (.int .i64)) D,.obj M 25 (.agg (.pair (I j.1) (.pair (.eq l.1) (.eq l.2)))),.sl l.1 27 cg j.2.1,.sl l.2 3 (.int .i64) E,.inv 0 (ig)]) h (fun K h=>?_) (fun SB E h=>?_))
      ·refine sr (cq (nt (aj ?_)));refine aK (fun SA y=>[(3,Pt b4),(4,Ri r5.1),(5,.rep (.slice (.slice (.int .i64))) r5.2.1),(6,I r5.2.2),(7,I y8),(8,.eq c),(9,I u),(10,Pt M),(11,I y.2)]) (fun SA y=>[.obj b4 25 (.rep aG r3.1),.sl c 23 (.slice (.int .i64)) D,.obj M 25 (.agg (.pair (I j.1) (.pair (.eq l.1) (.eq l.2)))),.sl l.1 27 cg j.2.1,.sl l.2 3 (.int .i64) y.1,.inv 0 (ig)]) (d6 k D u) k () (j.2.2,0) (fun _=>rfl) h (SE.fin [3,4,0,1,2,5] ⟨rfl,rfl,rfl,rfl,rfl,rfl,rfl,rfl,rfl,trivial⟩ rfl) (fun n SA y h=>?_);unfold d6 at h;refine ah (sr (mq ?_));refine fl eV ?_;refine fr 2 ?_;refine lo bZ ?_;refine fr 4 ?_;refine ka (cZ rfl rfl fC) ?_;refine jb (bv rfl) ?_;refine nt (ci h (fun h=>?_) (fun h=>?_))
       ·refine sk (aN (Z:=Unit) (α:=(List Int)) (fun Sz O=>[(3,Pt b4),(4,Ri r5.1),(5,.rep (.slice (.slice (.int .i64))) r5.2.1),(6,I r5.2.2),(7,I y8),(8,.eq c),(9,I u),(10,Pt M),(11,I y.2)]) (fun Sz O=>[.obj b4 25 (.rep aG r3.1),.sl c 23 (.slice (.int .i64)) D,.obj M 25 (.agg (.pair (I j.1) (.pair (.eq l.1) (.eq l.2)))),.sl l.1 27 cg j.2.1,.sl l.2 3 (.int .i64) O,.inv 0 (ig)]) h (fun K h=>?_) (fun Sz O h=>?_))
        ·refine aj (sr ?_);iterate 2 refine mq ?_
         obtain⟨Td,X,h⟩:=ab h;refine fr 3 ?_;refine kb (bp (t:=(.slice (.int .i64))) rfl nI bZ X) ?_;refine ka (eQ (i:=Int.toNat u) (off:=0) rfl bZ (fun _=>rfl) rfl (dV X).2.2 rfl) ?_;refine mq ?_;obtain⟨Tj,SY,h⟩:=ab h;refine jb (an [.tmp 54,.tmp 55] rfl rfl Ro rfl (Es k Td y.2 Tj SY)) ?_;refine jb (bv rfl) ?_;refine nt (ci h (fun h=>?_) (fun h=>?_))
         ·refine aa (fl eV ?_);refine fr 2 ?_;refine lo bZ ?_;refine mq ?_;obtain⟨TA,U,h⟩:=ab h;refine fr 2 ?_;refine kb (bp (t:=(.int .i64)) rfl fC dE U) ?_;refine aZ rfl rfl (eJ (i:=Int.toNat y.2) rfl dE rfl (mf U) rfl .int rfl) ⟨rfl,rfl,trivial⟩ ?_;refine ao (bn ?_);exact jz ((),List.set y.1 (Int.toNat y.2) 0) h [3,2,1,4,0,5]
         ·refine aU (bn ?_);exact jz ((),y.1) h [3,0,2,4,1,5]
        ·refine aa (mq ?_);obtain⟨Ta,SQ,h⟩:=ab h;refine jb (bg rfl SQ) ?_;refine aq (nl ?_);exact jz ((),(O,Ta)) h [0,1,2,3,4,5]
       ·refine xa ?_;exact jz ((),y.1) h [2,3,1,4,0,5]
      ·refine sr (fr 2 ?_);refine fr 3 ?_;refine cI (lN (off:=1) [] trivial rfl rfl) ?_;refine fr 3 ?_;refine cI (lN (off:=2) [] trivial rfl rfl) ?_;refine lo i8 ?_;obtain⟨J,SX,h⟩:=ab h;refine ja (cU (N:=[(.tmp 63,.agg (.pair (I j.1) (.pair (Rs cg j.2.1) (Ri E))))]) (fa [.tmp 63] rfl rfl Pl rfl (tg k (j.1,j.2.1,E) J SX)) fun _ _ _ hn=>⟨(iC (t:=aG) (x:=(j.1,j.2.1,E)) (.agg (.pair .int (.pair .rep .rep))) trivial rfl hn.1),trivial⟩) ?_;refine mq ?_;refine xr ?_;refine xr ?_;refine xr ?_;refine aq ?_;refine aq ?_;refine aq (nt (ah ?_));refine aN (Z:=Unit) (α:=Bool) (fun Sv pp=>[(3,Pt b4),(4,Ri r5.1),(5,.rep (.slice (.slice (.int .i64))) r5.2.1),(6,I r5.2.2),(7,I y8),(8,.eq c),(9,I u),(12,.rep (.slice (.slice (.int .i64))) J.1),(14,I J.2.2),(73,.eq (.bool pp))]) (fun Sv pp=>[.obj b4 25 (.rep aG r3.1),.sl c 23 (.slice (.int .i64)) D,.inv 0 (ig)]) h (fun K h=>?_) (fun Sv pp h=>?_)
       ·refine aa (mq ?_);refine jb (ek rfl) ?_;refine mq ?_;refine bQ (s:=70) rfl (fun hb=>?_) (fun hb=>?_)
        ·replace h:=ct (m8 hb) h;refine gm ?_;refine gb (ek rfl) ?_;refine pt (nl ?_);exact jz ((),decide (J.2.1=0)) h [1,2,3]
        ·replace h:=bL (mz hb) h;iterate 2 refine gn ?_
         refine pf (nl ?_);exact jz ((),false) h [1,2,3]
       ·refine cv h (fun h=>?_) (fun h=>?_)
        ·refine aN (Z:=Unit) (α:=Bool) (fun Su mc=>[(2,.eq (.bool mc))]) (fun Su mc=>[.inv 0 (ig)]) h (fun K h=>?_) (fun Su mc h=>?_)
         ·refine aa (mq ?_);refine jb (ek rfl) ?_;refine mq ?_;refine bQ (s:=76) rfl (fun hb=>?_) (fun hb=>?_)
          ·replace h:=ct (m8 hb) h;refine gm ?_;refine gm ?_;refine gm ?_;obtain⟨S9,Q,h⟩:=ab h;refine fr 1 ?_;refine ix rfl rfl rfl rfl rfl rfl (bp (t:=(.slice (.int .i64))) rfl nI bZ Q) ⟨rfl,rfl,trivial⟩ ?_;refine ix rfl rfl rfl rfl rfl rfl (eQ (i:=Int.toNat u) (off:=0) rfl bZ (fun _=>rfl) rfl (dV Q).2.2 rfl) ⟨rfl,trivial⟩ ?_;obtain⟨Ti,SV,h⟩:=ab h;refine gb (an [.tmp 77,.tmp 81] rfl rfl JJ rfl (iZ k r5.1 S9 Ti SV)) ?_;refine pt ?_;refine mq ?_;refine bQ (s:=84) rfl (fun hb=>?_) (fun hb=>?_)
           ·replace h:=ct (AM hb) h;refine gm ?_;refine gm ?_;obtain⟨Tf,SU,h⟩:=ab h;refine gb (an [.tmp 85,.tmp 86] rfl rfl MQ rfl (jR k r5.2.1 J.1 Tf SU)) ?_;refine pt ?_;refine mq ?_;refine bQ (s:=89) rfl (fun hb=>?_) (fun hb=>?_)
            ·replace h:=ct (AM hb) h;obtain⟨SK,SS,h⟩:=ab h;refine fr 2 ?_;refine ix rfl rfl rfl rfl rfl rfl (fa [] rfl rfl Pm rfl (pV k SK SS)) trivial ?_;refine pt ?_;refine aq (nl ?_);exact jz ((),SK) h [0]
            ·replace h:=bL (AN hb) h;refine gn ?_;refine pf ?_;refine aq (nl ?_);exact jz ((),false) h [2]
           ·replace h:=bL (AN hb) h;iterate 3 refine gn ?_
            refine pf ?_;refine mq ?_;refine gn ?_;refine pf ?_;refine aq (nl ?_);exact jz ((),false) h [2]
          ·replace h:=bL (mz hb) h;iterate 6 refine gn ?_
           refine pf ?_;refine mq ?_;iterate 3 refine gn ?_
           refine pf ?_;refine mq ?_;refine gn ?_;refine pf ?_;refine aq (nl ?_);exact jz ((),false) h [2]
         ·refine rx (br (bC (br (bC (aX ?_)))));obtain rfl:=hR _ h;exact aI () [_] 1 ⟨rfl,trivial⟩ rfl
        ·refine sk (aN (Z:=Unit) (α:=Bool) (fun se ac=>[(3,Pt b4),(4,Ri r5.1),(5,.rep (.slice (.slice (.int .i64))) r5.2.1),(6,I r5.2.2),(7,I y8),(8,.eq c),(9,I u),(97,.eq (.bool ac))]) (fun se ac=>[.obj b4 25 (.rep aG r3.1),.sl c 23 (.slice (.int .i64)) D,.inv 0 (ig)]) h (fun K h=>?_) (fun se ac h=>?_))
         ·refine aa (mq ?_);refine jb (iN rfl) ?_;refine mq ?_;refine bQ (s:=94) rfl (fun hb=>?_) (fun hb=>?_)
          ·replace h:=ct (On hb) h;refine gm ?_;refine gb (iN rfl) ?_;refine pt (nl ?_);exact jz ((), !decide (J.2.2=11)) h [0,1,2]
          ·replace h:=bL (GM hb) h;iterate 2 refine gn ?_
           refine pf (nl ?_);exact jz ((),false) h [0,1,2]
         ·refine cv h (fun h=>?_) (fun h=>?_)
          ·refine sr (cq (nt (aC (br (bC (br (bC (aX ?_))))))));refine bM (SE.fin (Γ':=[(2,_)]) [2,0,1] ⟨rfl,trivial⟩ rfl) ?_;obtain rfl:=hR _ h;exact aI () [_] 1 ⟨rfl,trivial⟩ rfl
          ·refine aU (bn ?_);exact jz ((),()) h [0,1,2]
     ·refine aa (mq ?_);obtain⟨S8,SO,h⟩:=ab h;refine jb (bg rfl SO) ?_;refine aq (nl ?_);exact jz ((),S8) h [0,1,2]
    ·refine dA (aM (aM (bR (bn ?_))));exact jz ((),()) h [1,2]
   ·refine aa (mq ?_);obtain⟨S7,SN,h⟩:=ab h;refine jb (bg rfl SN) ?_;refine aq (nl ?_);exact jz ((),S7) h [0,1]
  ·refine xa ?_;exact jz ((),()) h [1]
 ·
  refine aN (Z:=Unit) (α:=Bool) (fun qt Y=>[(2,.eq (.bool Y))]) (fun qt Y=>[.inv 0 (ig)]) h (fun K h=>?_) (fun qt Y h=>?_)
  ·refine aa (mq ?_);refine jb (ek rfl) ?_;refine mq ?_;refine bQ (s:=100) rfl (fun hb=>?_) (fun hb=>?_)
   ·replace h:=ct (m8 hb) h;refine gm ?_;refine ga (jJ rfl rfl fC) ?_;refine gm ?_;refine ga (jJ rfl rfl nI) ?_;obtain⟨Tz,SL,h⟩:=ab h;refine gb (bg rfl SL) ?_;refine gb (ek rfl) ?_;refine pt ?_;refine mq ?_;refine bQ (s:=108) rfl (fun hb=>?_) (fun hb=>?_)
    ·replace h:=ct (m8 hb) h;obtain⟨SJ,SR,h⟩:=ab h;refine ix rfl rfl rfl rfl rfl rfl (fa [] rfl rfl Pm rfl (pV k SJ SR)) trivial ?_;refine pt ?_;refine aq (nl ?_);exact jz ((),SJ) h [0]
    ·replace h:=bL (mz hb) h;refine gn ?_;refine pf ?_;refine aq (nl ?_);exact jz ((),false) h [0]
   ·replace h:=bL (mz hb) h;iterate 6 refine gn ?_
    refine pf ?_;refine mq ?_;refine gn ?_;refine pf ?_;refine aq (nl ?_);exact jz ((),false) h [0]
  ·refine aC ?_;cases h;exact aI () [_] 1 ⟨rfl,trivial⟩ rfl
end Go.Proofs.YtcnpijmfgfnpiaaGreatDoor
