import Derived.Test.YtghkncjelangeaaGreatDoorQAB10
import Derived.Test.YtghkncjelangeaaGreatDoorQAB8
import Derived.Test.YtghkncjelangeaaGreatDoorQAB9
import Derived.Test.YtghkncjelangeaaGreatDoorQAB5
import Derived.Test.YtghkncjelangeaaGreatDoorQACore45
set_option linter.unusedSimpArgs false
set_option linter.unusedVariables false
set_option maxRecDepth 4000
set_option maxHeartbeats 1000000
namespace Go.Proofs.YtghkncjelangeaaGreatDoor
open K Go Go.Proofs
def cu(k:Nat)(a0:aS)(a1:(List (List Int))):Option Int:=
 (kh k a0).bind fun r2=>
 if¬(r2=0) then(some r2) else((lA k a0 a1).bind fun r4=>
 (QP r4).bind fun q5=>
 if q5.isSome=true then(some (q5.getD 0)) else(some 0))
theorem eK(k:Nat)(a0:aS)(a1:(List (List Int)))(r:Int)(h:cu k a0 a1=some r):
 bX Tryz.prog 22 [.rep av a0,.rep (.slice (.slice (.int .i64))) a1] [.inv 0 (iZ)] (fun _:Unit=>(bu [I r],[.inv 0 (iZ)])):=by
 unfold cu at h
 replace h:=ba h
 refine bX.of 19 Tryz.func22 rfl Tryz.ntmps22 rfl fun S w0=>?_
 refine sr ?_
 refine bx fun b1=>?_
 refine cq ?_
 refine nt ?_
 refine ag ?_
 refine sr ?_
 refine lo dy ?_
 obtain⟨r2,e,h⟩:=aa h
 have l:=nE k a0 r2 e
 refine ja (ap [.tmp 7] rfl rfl Ni rfl l) ?_
 refine aq ?_
 refine nt ?_
 refine sr ?_
 refine mq ?_
 refine jb (g9 rfl) ?_
 refine nt ?_
 refine cn h (fun h=>?_) (fun h=>?_)
 ·
  refine sr (mq ?_);refine aq (nt (rx ?_));refine bv (SE.fin (Γ':=[(4,_)]) [1,0] ⟨rfl,trivial⟩ rfl) ?_;cases h;exact aP () [_] 1 ⟨rfl,trivial⟩ rfl
 ·
  refine sk (sr (aF rfl rfl rfl (be rfl AQ SO) trivial fun b3=>?_));refine nt (ag (sr (fr 1 ?_)));refine lo dy ?_;refine mq ?_;obtain⟨r4,c,h⟩:=aa h;refine jb (ap [.tmp 12,.tmp 13] rfl rfl Si rfl (q9 k a0 a1 r4 c)) ?_;refine ja (GM rfl SY) ?_;obtain⟨q5,j,h⟩:=aa h;refine fr 2 ?_;refine fr 2 ?_;refine bR (Δ:=[_,_]) (F:=_) (fun _ _ _=>ax rfl _) rfl rfl (ap [.tmp 14,.tmp 15] rfl rfl PU rfl (Qp j)) ⟨rfl,rfl,trivial⟩ fun _=>?_;refine nt (cv h (fun h=>?_) (fun h=>?_))
  ·refine sr (fl MS ?_);refine lo Q5 ?_;refine aq (nt (rx ?_));refine bv (SE.fin (Γ':=[(4,_)]) [1,0,2] ⟨rfl,trivial⟩ rfl) ?_;cases h;exact aP () [_] 1 ⟨rfl,trivial⟩ rfl
  ·refine sk (sr (cq (nt (ay ?_))));refine bv (SE.fin (Γ':=[(4,_)]) [1,0,2] ⟨rfl,trivial⟩ rfl) ?_;cases h;exact aP () [_] 1 ⟨rfl,trivial⟩ rfl
def jr(k:Nat)(a0:aS)(r7:Int×(List (List Int))):Nat→((List Int)×Int)→Option (List Int)
 |0,_=>none
 |n+1,c=>
  if c.2 < (a0.2.1.length:Int) then((((eU k r7.1 c.2).bind fun j=>
  if j=true then((dz (bL (List.length c.1+List.length [c.2]))).bind fun _=>
  some (c.1++[c.2])) else(some c.1)):Option ((List Int))).bind fun h=>
  (ck (c.2+1)).bind fun e=>
  jr k a0 r7 n (h,e)) else(some c.1)
def lr(k:Nat)(a0:aS)(a1:(List (List Int)))(a2:Int):Option ((List Int)×(List (List Int))×Int):=
 (cu k a0 a1).bind fun r2=>
 if¬(r2=0) then(some ([],[],r2)) else((ck (a0.1 - 1)).bind fun x3=>
 (eG k a2 0 x3).bind fun r4=>
 if¬(r4=true) then(some ([],[],3)) else((dZ k a1).bind fun r6=>
 (iK k (a0,()) r6 a2).bind fun r7=>
 ((jr k a0 r7 k (([]:(List Int)),0)):Option ((List Int))).bind fun x9=>
 (fp k (a0,()) r7.2).bind fun c=>
 some (x9,c,0)))
theorem uA(k:Nat)(a0:aS)(a1:(List (List Int)))(a2:Int)(r:(List Int)×(List (List Int))×Int)(h:lr k a0 a1 a2=some r):
 bX Tryz.prog 18 [.rep av a0,.rep (.slice (.slice (.int .i64))) a1,I a2] [.inv 0 (iZ)] (fun _:Unit=>(bu [Ri r.1,.rep (.slice (.slice (.int .i64))) r.2.1,I r.2.2],[.inv 0 (iZ)])):=by
 unfold lr at h
 replace h:=ba h
 refine bX.of 55 Tryz.func18 rfl Tryz.ntmps18 rfl fun S w0=>?_
 refine sr ?_
 refine bx fun b1=>?_
 refine cq ?_
 refine cq ?_
 refine cq ?_
 refine nt ?_
 refine ag ?_
 refine sr ?_
 refine lo dy ?_
 refine mq ?_
 obtain⟨r2,ac,h⟩:=aa h
 have mc:=eK k a0 a1 r2 ac
 refine fr 1 ?_
 refine kb (ap [.tmp 15,.tmp 16] rfl rfl Kv rfl mc) ?_
 refine aq ?_
 refine nt ?_
 refine sr ?_
 refine mq ?_
 refine jb (g9 rfl) ?_
 refine nt ?_
 refine cn h (fun h=>?_) (fun h=>?_)
 ·
  refine sr (mq ?_);refine cq ?_;refine cq ?_;refine aq (nt (rx ?_));refine bv (mb (t:=(.slice (.int .i64))) (x:=[]) 6 rfl .nil rfl rfl) ?_;refine bv (mb (t:=(.slice (.slice (.int .i64)))) (x:=[]) 7 rfl .nil rfl rfl) ?_;cases h;exact aP () [_,_,_] 1 ⟨rfl,rfl,rfl,trivial⟩ rfl
 ·
  refine sk (ag (sr (mq ?_)));refine fl gd ?_;refine fr 1 ?_;refine lo cg ?_;obtain⟨x3,Q,h⟩:=aa h;refine jb (fV rfl Q) ?_;obtain⟨r4,Y,h⟩:=aa h;refine jc (ap [.tmp 21,.const (.int .i64 (0)),.tmp 24] rfl rfl Af rfl (eT k a2 0 x3 r4 Y)) ?_;refine ja (dT rfl) ?_;refine nt (cw h (fun h=>?_) (fun h=>?_))
  ·refine sr (cq ?_);refine cq ?_;refine cq (nt (rx ?_));refine bv (mb (t:=(.slice (.int .i64))) (x:=[]) 6 rfl .nil rfl rfl) ?_;refine bv (mb (t:=(.slice (.slice (.int .i64)))) (x:=[]) 7 rfl .nil rfl rfl) ?_;refine bv (SE.fin (Γ':=[(6,_),(7,_),(8,_)]) [1,0] ⟨rfl,rfl,rfl,trivial⟩ rfl) ?_;cases h;exact aP () [_,_,_] 1 ⟨rfl,rfl,rfl,trivial⟩ rfl
  ·refine sk (sr (lo dy ?_));refine aF rfl rfl rfl (ap [.tmp 27] rfl rfl Ks rfl (ir a0)) ⟨rfl,trivial⟩ fun z5=>?_;refine cC (lF (bO k a0) nj) ?_;refine aq (nt (sr ?_));iterate 2 refine mq ?_
   obtain⟨r6,X,h⟩:=aa h;refine ja (ap [.tmp 31] rfl rfl ET rfl (fq k a1 r6 X)) ?_;refine mq ?_;obtain⟨r7,U,h⟩:=aa h;refine jc (eh (N:=[(.tmp 30,.at aw (a0,(.map (some z5)))),(.tmp 32,.rep (.arr 3 (.arr 5 (.int .i64))) r6),(.tmp 33,I a2)]) (ap [.tmp 30,.tmp 32,.tmp 33] rfl rfl PV rfl (od k (a0,()) r6 a2 r7 U)) fun _ _ _ hn=>⟨(tC hn.1),hn.2.1,hn.2.2.1,trivial⟩) ?_;refine mq ?_;refine xr ?_;refine xr ?_;refine aF rfl rfl rfl (be rfl sC tD) trivial fun b8=>?_;refine aq ?_;refine bh rfl rfl (bb rfl gf rfl rfl rfl) ⟨rfl,rfl,trivial⟩ ?_;refine nt (sr (cq (nt ?_)));refine aN (Z:=Value) (α:=(List Int)) (fun l x9=>[(10,.at aw (a0,(.map (some z5)))),(12,Pt b8),(13,.eq l)]) (fun l x9=>[.obj b8 86 (.rep (.arr 3 (.arr 5 (.int .i64))) r7.2),.sl l 3 (.int .i64) x9,.inv 0 (iZ),.inv z5 (bO k a0)]) h (fun K h=>?_) (fun l x9 h=>?_)
   ·refine sr (fl bU ?_);refine fr 2 ?_;refine lo fi ?_;refine ol mL ?_;refine fg rfl ?_;refine nt (ao (dJ (SE.nil 3 (.int .i64)) ?_));refine aK (fun e c=>[(10,.at aw (a0,(.map (some z5)))),(11,.eq (.int .u8 r7.1)),(12,Pt b8),(13,.eq e),(39,I (a0.2.1.length:Int)),(40,I c.2)]) (fun e c=>[.obj b8 86 (.rep (.arr 3 (.arr 5 (.int .i64))) r7.2),.sl e 3 (.int .i64) c.1,.inv 0 (iZ),.inv z5 (bO k a0)]) (jr k a0 r7) k (.slice none 0 0) (([]:(List Int)),0) (fun _=>rfl) h (SE.fin [2,0,4,3] ⟨rfl,rfl,rfl,rfl,rfl,rfl,trivial⟩ rfl) (fun n e c h=>?_);unfold jr at h;refine sr (jb (bq rfl) ?_);refine nt (ag (ci h (fun h=>?_) (fun h=>?_)))
    ·refine sk (aN (Z:=Value) (α:=(List Int)) (fun j s=>[(10,.at aw (a0,(.map (some z5)))),(11,.eq (.int .u8 r7.1)),(12,Pt b8),(13,.eq j),(39,I (a0.2.1.length:Int)),(40,I c.2)]) (fun j s=>[.obj b8 86 (.rep (.arr 3 (.arr 5 (.int .i64))) r7.2),.sl j 3 (.int .i64) s,.inv 0 (iZ),.inv z5 (bO k a0)]) h (fun K h=>?_) (fun j s h=>?_))
     ·refine ao (sr (mq ?_));refine aq (nt (sr ?_));iterate 2 refine mq ?_
      obtain⟨O,E,h⟩:=aa h;refine jb (ap [.tmp 43,.tmp 44] rfl rfl Kr rfl (iq k r7.1 c.2 O E)) ?_;refine nt (cv h (fun h=>?_) (fun h=>?_))
      ·refine ab ?_;iterate 2 refine mq ?_
       refine ja (bj (t:=(.int .i64)) [(.tmp 47,_)] [c.2] rfl rfl dB (.cons rfl .int .nil) rfl rfl) ?_;obtain⟨u16,y,h⟩:=aa h;refine fr 1 ?_;refine cU rfl rfl rfl (bD rfl rfl dB (aB y)) ⟨rfl,rfl,trivial⟩ fun J=>?_;refine aq (au (bn ?_));exact jz (J,c.1++[c.2]) h [1,0,2,3]
      ·refine aX (bn ?_);exact jz (e,c.1) h [0,1,2,3]
     ·refine ab ?_;obtain⟨F,u,h⟩:=aa h;refine jb (bf rfl u) ?_;refine mq (nl ?_);exact jz (j,(s,F)) h [0,1,2,3]
    ·refine xa ?_;exact jz (e,c.1) h [0,1,2,3]
   ·refine sr ?_;iterate 2 refine mq ?_
    refine lo gf ?_;obtain⟨M,D,h⟩:=aa h;refine aF rfl rfl rfl (eh (N:=[(.tmp 52,.at aw (a0,(.map (some z5)))),(.tmp 53,.rep (.arr 3 (.arr 5 (.int .i64))) r7.2)]) (ap [.tmp 52,.tmp 53] rfl rfl Nh rfl (jM k (a0,()) r7.2 M D)) fun _ _ _ hn=>⟨(tC hn.1),hn.2.1,trivial⟩) ⟨rfl,rfl,trivial⟩ fun pp=>?_;refine aq ?_;refine aq ?_;refine cq (nt (ay ?_));refine dj 2 rfl ?_;refine bv (eJ [6,13,51] ⟨rfl,rfl,rfl,trivial⟩) ?_;refine bv (eJ [7,54] ⟨rfl,rfl,trivial⟩) ?_;refine bv (SE.fin (Γ':=[(6,_),(7,_),(8,_)]) [1,0,2] ⟨rfl,rfl,rfl,trivial⟩ rfl) ?_;cases h;exact aP () [_,_,_] 1 ⟨rfl,rfl,rfl,trivial⟩ rfl
theorem jN(k:Nat)(a0:aS)(z_a0:Nat)(a1:(List (List Int)))(r:Int)(h:dD k a0 a1=some r):
 dw (jg Tryz.prog) 83 [.at aw (a0,(.map (some z_a0))),.rep (.arr 3 (.arr 5 (.int .i64))) a1] [.inv z_a0 (bO k a0)] (fun _:Unit=>(bu [I r],[.inv z_a0 (bO k a0)])):=by
 have h0:=h
 unfold dD at h
 replace h:=ba h
 obtain⟨u1,eg,h⟩:=aa h
 have hg:=aB eg
 have gk:=Hv hg
 refine dw.of 28 Tryz.func83 rfl Tryz.ntmps83 rfl fun S w0=>?_
 refine sr ?_
 refine bx fun b1=>?_
 refine cq ?_
 refine nt ?_
 refine ag ?_
 refine ji 1 rfl ?_
 refine CB fun ob hob=>?_
 obtain⟨lnn,lbb,hlR,hlk⟩:=xW (z:=z_a0) QB LL zU gk EG hob
 refine bI ?_
 refine dm ?_
 refine da (dO rfl) ?_
 refine da (aJ 1 false rfl Dj rfl) ?_
 refine da (ak (t:=.val) rfl Lj rfl) ?_
 refine ea 1 (aj rfl gf (tR) rfl) ?_
 refine eb 0 (Ew (kv:=lm a1) (wK _) (me.calm hob) rfl (fun _ _ _ hh=>vk hh) hlk) ?_
 refine dm ?_
 refine da (de rfl rfl) ?_
 refine da (de rfl rfl) ?_
 refine da (fu rfl) ?_
 refine df cz ?_
 refine aq ?_
 refine nt ?_
 refine ag ?_
 refine sr ?_
 refine mq ?_
 refine ja (dT rfl) ?_
 refine nt ?_
 refine dJ (lF (bO k a0) hob) ?_
 refine bJ rfl (fun hb=>?_) (fun hb=>?_)
 ·
  refine sr (mq ?_);refine fr 1 ?_;refine lo gf ?_;obtain⟨r2,c,h⟩:=aa h;refine jc (eh (N:=[(.tmp 18,.at aw (a0,(.map (some z_a0)))),(.tmp 19,.rep (.arr 3 (.arr 5 (.int .i64))) a1),(.const (.int .i64 (0)),I 0)]) (gV [.tmp 18,.tmp 19,.const (.int .i64 (0))] rfl rfl PS rfl (my k (a0,()) a1 0 r2 c)) fun _ _ _ hn=>⟨(tC hn.1),hn.2.1,hn.2.2.1,trivial⟩) ?_;refine aq (nt ?_);refine bI ?_;refine dm ?_;refine da (dO rfl) ?_;refine da (aJ 1 false rfl Dj rfl) ?_;refine da (ak (t:=.val) rfl Lj rfl) ?_;refine ea 0 (aj rfl gf (tR) rfl) ?_;refine dm ?_;refine df cz ?_;refine fr 1 ?_;have hl:dD k a0 a1=some r2:=h0.trans (show some r=some r2 from h.symm);refine bh rfl rfl (zp (kv:=lm a1) (wK _) rfl QB zU (fun _ _ _ hh=>vk hh) gk ⟨a1,hg,rfl,hl⟩) ⟨rfl,rfl,rfl,trivial⟩ ?_;refine nt (sr (mq ?_));refine aq (nt (ay ?_));cases h;exact aP () [_] 1 ⟨rfl,trivial⟩ rfl
 ·
  obtain⟨p,hp,he,hl⟩:=hlR (by simpa using hb);obtain rfl:=wL hg hp he;replace h:some lnn=some r:=hl.symm.trans h0;refine sk (sr (mq ?_));refine aq (nt (ay ?_));cases h;exact aP () [_] 1 ⟨rfl,trivial⟩ rfl
def pE(k:Nat)(a0:aS)(a1:(List (List Int))):Option (Int×Int):=
 (cu k a0 a1).bind fun r2=>
 if¬(r2=0) then(some (0,r2)) else((dZ k a1).bind fun r4=>
 (dD k a0 r4).bind fun r5=>
 some (r5,0))
theorem rj(k:Nat)(a0:aS)(a1:(List (List Int)))(r:Int×Int)(h:pE k a0 a1=some r):
 dw (jg Tryz.prog) 35 [.rep av a0,.rep (.slice (.slice (.int .i64))) a1] [.inv 0 (iZ)] (fun _:Unit=>(bu [I r.1,I r.2],[.inv 0 (iZ)])):=by
 unfold pE at h
 replace h:=ba h
 refine dw.of 18 Tryz.func35 rfl Tryz.ntmps35 rfl fun S w0=>?_
 refine sr ?_
 refine bx fun b1=>?_
 refine cq ?_
 refine cq ?_
 refine nt ?_
 refine ag ?_
 refine sr ?_
 refine lo dy ?_
 refine mq ?_
 obtain⟨r2,j,h⟩:=aa h
 have l:=eK k a0 a1 r2 j
 refine fr 1 ?_
 refine kb (ap [.tmp 7,.tmp 8] rfl rfl Kv rfl l) ?_
 refine aq ?_
 refine nt ?_
 refine sr ?_
 refine mq ?_
 refine jb (g9 rfl) ?_
 refine nt ?_
 refine cn h (fun h=>?_) (fun h=>?_)
 ·
  refine sr (mq ?_);refine cq ?_;refine aq (nt (rx ?_));cases h;exact aP () [_,_] 1 ⟨rfl,rfl,trivial⟩ rfl
 ·
  refine sk (sr (fr 1 ?_));refine lo dy ?_;refine aF rfl rfl rfl (ap [.tmp 13] rfl rfl Ks rfl (ir a0)) ⟨rfl,trivial⟩ fun z3=>?_;refine cC (lF (bO k a0) nj) ?_;refine mq ?_;obtain⟨r4,e,h⟩:=aa h;refine ja (ap [.tmp 15] rfl rfl ET rfl (fq k a1 r4 e)) ?_;obtain⟨r5,c,h⟩:=aa h;refine kb (gV [.tmp 14,.tmp 16] rfl rfl PQ rfl (jN k a0 z3 r4 r5 c)) ?_;refine aq ?_;refine cq (nt (ay ?_));refine bv (SE.fin (Γ':=[(4,_),(5,_)]) [2,0,1] ⟨rfl,rfl,trivial⟩ rfl) ?_;cases h;exact aP () [_,_] 1 ⟨rfl,rfl,trivial⟩ rfl
set_option maxRecDepth 20000
set_option maxHeartbeats 4000000
@[reducible] def fo:Ty:=.agg (.pair (.int .i64) (.int .i64))
def PD(x:Int×Int):Value:=.agg #[.int .i64 x.1,.int .i64 x.2]
theorem J9{S:FS}{w:World}{x:Int×Int}:(A.rep fo x).holds S w (PD x):=⟨[_,_],⟨[_],[_],rfl,rfl,rfl⟩,rfl⟩
theorem HV{S:FS}{w:World}{x:Int×Int}{v:Value}(h:(A.rep fo x).holds S w v):(A.eq (PD x)).holds S w v:=by
 obtain⟨cs,⟨c1,c2,rfl,h1,h2⟩,rfl⟩:=h;have h1:c1=_:=h1;have h2:c2=_:=h2;subst h1 h2;rfl
theorem gK:dL Tryz.prog 110 2 true:=⟨fun w=>by kernel_rfl,fun w=>by kernel_rfl⟩
theorem oe:dL Tryz.prog 28 1 false:=⟨fun w=>by kernel_rfl,fun w=>by kernel_rfl⟩
theorem CM:dL Tryz.prog 23 1 false:=⟨fun w=>by kernel_rfl,fun w=>by kernel_rfl⟩
theorem t6:dL Tryz.prog 3 1 false:=⟨fun w=>by kernel_rfl,fun w=>by kernel_rfl⟩
theorem FX:dL Tryz.prog 81 1 false:=⟨fun w=>by kernel_rfl,fun w=>by kernel_rfl⟩
theorem MQ:a8 Tryz.prog 110 0 0:=a8.of (by kernel_rfl)
theorem MP:a8 Tryz.prog 110 1 1:=a8.of (by kernel_rfl)
theorem PC:a8 Tryz.prog 107 0 0:=a8.of (by kernel_rfl)
theorem uc:a8 Tryz.prog 107 1 1:=a8.of (by kernel_rfl)
theorem yi:ah Tryz.prog 108:=ah.of Tryz.func108 (by kernel_rfl) (by kernel_rfl)
def jA(x:Int×Int)(m:Int):Nat→Int×List Int→Option (List Int)
 |0,_=>none
 |n+1,q=>if q.1 < m then((aR q.2 q.1).bind fun c=>if c=x.1 then(ck (q.1+1)).bind fun w=>jA x m n (w,q.2.set q.1.toNat x.2) else if c=x.2 then(ck (q.1+1)).bind fun w=>jA x m n (w,q.2.set q.1.toNat x.1) else(ck (q.1+1)).bind fun w=>jA x m n (w,q.2)) else some q.2
def kL(k:Nat)(x:Int×Int)(m:Int):Nat→Int×List (List Int)→Option (List (List Int))
 |0,_=>none
 |n+1,q=>if q.1 < m then((aR q.2 q.1).bind fun l=>(jA x (l.length:Int) k (0,l)).bind fun l2=>(ck (q.1+1)).bind fun w=>kL k x m n (w,q.2.set q.1.toNat l2)) else some q.2
def mY(k:Nat)(x:Int×Int)(ls:List (List Int)):Option (List (List Int)):=kL k x (ls.length:Int) k (0,ls)
theorem mt(k:Nat)(x:Int×Int)(ls r:List (List Int))(y:Nat)(d0:aw.den)(z:Value×(Nat→Value))(h:mY k x ls=some r):
 bX Tryz.prog 108 [.eq (bP y),.rep fo x] ([.obj y 107 (.agg (.pair (.at aw d0) (.eq z.1)))]++fD 23 z ls) (fun _:Unit=>(bu [],[.obj y 107 (.agg (.pair (.at aw d0) (.eq z.1)))]++fD 23 z r)):=by
 unfold mY at h
 replace h:=ba h
 refine bX.of 45 Tryz.func108 rfl Tryz.ntmps108 rfl fun S w0=>?_
 refine sr ?_
 refine bx fun b3=>?_
 refine nt ?_
 refine sr ?_
 refine mq ?_
 refine ja (a9 rfl) ?_
 refine fl uc ?_
 refine fr 1 ?_
 refine lo oe ?_
 refine cC (Dx (pre:=[.obj y 107 (.agg (.pair (.at aw d0) (.eq z.1))),.obj b3 110 (.rep fo x)])) ?_
 refine ka (c9 rfl rfl mm) ?_
 rw [gI]
 refine cC (E7 (pre:=[.obj y 107 (.agg (.pair (.at aw d0) (.eq z.1))),.obj b3 110 (.rep fo x)])) ?_
 refine fg rfl ?_
 refine nt ?_
 refine ao ?_
 refine aK (Z:=Unit) (α:=Int×List (List Int)) (fun _ q=>[(3,.eq (bP b3)),(11,.eq z.1),(12,I (ls.length:Int)),(13,I q.1)]) (fun _ q=>[.obj y 107 (.agg (.pair (.at aw d0) (.eq z.1))),.obj b3 110 (.rep fo x)]++fD 23 z q.2) (kL k x (ls.length:Int)) k () (0,ls) (fun _=>rfl) h (bp [.obj y 107 (.agg (.pair (.at aw d0) (.eq z.1))),.obj b3 110 (.rep fo x)] (fD 23 z ls) [0,1] ⟨rfl,rfl,rfl,rfl,trivial⟩ rfl) (fun n u q h=>?_)
 unfold kL at h
 refine sr ?_
 refine jb (bq rfl) ?_
 refine nt ?_
 refine ag ?_
 refine bJ rfl (fun hb=>?_) (fun hb=>?_)
 ·
  replace h:=cE (ou hb) h;refine sk (ag (ao ?_));obtain⟨l,el,h⟩:=aa h;refine dJ (tH (pre:=[.obj y 107 (.agg (.pair (.at aw d0) (.eq z.1))),.obj b3 110 (.rep fo x)]) (pS el).2) ?_;refine sr (fr 1 ?_);refine kb (aZ (t:=.val) rfl mm CM (kE el)) ?_;refine ka (dQ (i:=q.1.toNat) (off:=0) rfl CM (fun _=>rfl) rfl (cy (kE el)).2.2 rfl) ?_;refine aq (nt ?_);rw [Option.bind_assoc] at h;refine sr (mq ?_);refine fr 1 ?_;refine ka (c9 rfl rfl dC) ?_;refine fg rfl ?_;refine nt (ao (aK (Z:=Unit) (α:=Int×List Int) (fun _ q2=>[(3,.eq (bP b3)),(5,.eq (z.2 q.1.toNat)),(11,.eq z.1),(12,I (ls.length:Int)),(13,I q.1),(17,.eq (z.2 q.1.toNat)),(18,I (l.length:Int)),(19,I q2.1)]) (fun _ q2=>[.sl (z.2 q.1.toNat) 3 (.int .i64) (q2.2),.sl z.1 23 .val (eu z.2 0 q.2),.obj y 107 (.agg (.pair (.at aw d0) (.eq z.1))),.obj b3 110 (.rep fo x)]++((kJ z.2 0 q.2).eraseIdx q.1.toNat)) (jA x (l.length:Int)) k () (0,l) (fun _=>rfl) h (bp [.sl (z.2 q.1.toNat) 3 (.int .i64) (l),.sl z.1 23 .val (eu z.2 0 q.2),.obj y 107 (.agg (.pair (.at aw d0) (.eq z.1))),.obj b3 110 (.rep fo x)] ((kJ z.2 0 q.2).eraseIdx q.1.toNat) [0,1,2,3] ⟨rfl,rfl,rfl,rfl,rfl,rfl,rfl,rfl,trivial⟩ rfl) (fun n2 u2 q2 h=>?_)));unfold jA at h;refine sr (jb (bq rfl) ?_);refine nt (ag (bJ rfl (fun hb=>?_) (fun hb=>?_)))
  ·replace h:=cE (ou hb) h;refine sk (ag (ao ?_));obtain⟨c,ec,h⟩:=aa h;refine sr (mq ?_);refine kb (aZ (t:=.int .i64) rfl dC t6 ec) ?_;refine ka (dQ (i:=q2.1.toNat) (off:=0) rfl t6 (fun _=>rfl) rfl (cy ec).2.2 rfl) ?_;refine aq ?_;refine aq (nt (sr ?_));refine mq (nt (ao (sr ?_)));refine fl MQ ?_;refine fr 3 ?_;refine lo t6 ?_;refine jb (fW rfl) ?_;refine aq (nt ?_);refine ci h (fun h=>?_) (fun h=>?_)
   ·refine ab ?_;iterate 2 refine mq ?_
    refine fl MP ?_;refine lo t6 ?_;refine fr 1 ?_;refine kb (aZ (t:=.int .i64) rfl dC t6 ec) ?_;refine bh rfl rfl (cR (i:=q2.1.toNat) rfl t6 rfl (gW ec) rfl .int rfl) ⟨rfl,rfl,trivial⟩ ?_;refine au (aM (aM (tn (ab ?_))));obtain⟨w,ew,h⟩:=aa h;refine jb (bf rfl ew) ?_;refine mq (nl ?_);exact iP ((),(w,q2.2.set q2.1.toNat x.2)) h (bp [.sl (z.2 q.1.toNat) 3 (.int .i64) (q2.2.set q2.1.toNat x.2),.obj b3 110 (.rep fo x),.sl z.1 23 .val (eu z.2 0 q.2),.obj y 107 (.agg (.pair (.at aw d0) (.eq z.1)))] ((kJ z.2 0 q.2).eraseIdx q.1.toNat) [0,2,3,1] ⟨rfl,rfl,rfl,rfl,rfl,rfl,rfl,rfl,trivial⟩ rfl)
   ·refine sr (fl MP ?_);refine lo t6 ?_;refine jb (fW rfl) ?_;refine aq (nt ?_);refine ci h (fun h=>?_) (fun h=>?_)
    ·refine ab ?_;iterate 2 refine mq ?_
     refine fl MQ ?_;refine lo t6 ?_;refine fr 1 ?_;refine kb (aZ (t:=.int .i64) rfl dC t6 ec) ?_;refine bh rfl rfl (cR (i:=q2.1.toNat) rfl t6 rfl (gW ec) rfl .int rfl) ⟨rfl,rfl,trivial⟩ ?_;refine au (aM (aM (tn (ab ?_))));obtain⟨w,ew,h⟩:=aa h;refine jb (bf rfl ew) ?_;refine mq (nl ?_);exact iP ((),(w,q2.2.set q2.1.toNat x.1)) h (bp [.sl (z.2 q.1.toNat) 3 (.int .i64) (q2.2.set q2.1.toNat x.1),.obj b3 110 (.rep fo x),.sl z.1 23 .val (eu z.2 0 q.2),.obj y 107 (.agg (.pair (.at aw d0) (.eq z.1)))] ((kJ z.2 0 q.2).eraseIdx q.1.toNat) [0,2,3,1] ⟨rfl,rfl,rfl,rfl,rfl,rfl,rfl,rfl,trivial⟩ rfl)
    ·refine aX (aM (aM (tn (ab ?_))));obtain⟨w,ew,h⟩:=aa h;refine jb (bf rfl ew) ?_;refine mq (nl ?_);exact iP ((),(w,q2.2)) h (bp [.obj b3 110 (.rep fo x),.sl (z.2 q.1.toNat) 3 (.int .i64) (q2.2),.sl z.1 23 .val (eu z.2 0 q.2),.obj y 107 (.agg (.pair (.at aw d0) (.eq z.1)))] ((kJ z.2 0 q.2).eraseIdx q.1.toNat) [1,2,3,0] ⟨rfl,rfl,rfl,rfl,rfl,rfl,rfl,rfl,trivial⟩ rfl)
  replace h:=bN (nw hb) h;refine dH (aU (aU (bW (aM (tn (dJ (AA (pre:=[.obj y 107 (.agg (.pair (.at aw d0) (.eq z.1))),.obj b3 110 (.rep fo x)]) (l':=q2.2) (pS el).2) ?_))))));refine ab ?_;obtain⟨w,ew,h⟩:=aa (X:=ck (q.1+1)) (f:=fun w=>kL k x (ls.length:Int) n (w,q.2.set q.1.toNat q2.2)) (K:=some) (r:=r) (by simpa using h);refine jb (bf rfl ew) ?_;refine mq (nl ?_);exact iP ((),(w,q.2.set q.1.toNat q2.2)) h (bp [.obj y 107 (.agg (.pair (.at aw d0) (.eq z.1))),.obj b3 110 (.rep fo x)] (fD 23 z (q.2.set q.1.toNat q2.2)) [0,1] ⟨rfl,rfl,rfl,rfl,trivial⟩ rfl)
 replace h:=bN (nw hb) h
 refine dH ?_
 refine aU ?_
 refine aU ?_
 refine bW ?_
 cases h
 refine jh ?_
 refine bv (bp (Γ':=[]) (pre':=[.obj y 107 (.agg (.pair (.at aw d0) (.eq z.1)))]) [.obj y 107 (.agg (.pair (.at aw d0) (.eq z.1))),.obj b3 110 (.rep fo x)] (fD 23 z q.2) [0] trivial rfl) ?_
 exact iQ () [] trivial rfl
@[reducible] def Jb:Ty:=.agg (.pair (.ptr aw) (.slice (.slice (.int .i64))))
theorem LR{S:FS}{w:World}{y:Nat}{d0:aw.den}{z:Value×(Nat→Value)}{ls:List (List Int)}(h:∀d∈[D.obj y 107 (.agg (.pair (.at aw d0) (.eq z.1)))]++fD 23 z ls,d.holds S w∧∀b,d.foot=some b→S b):(A.at Jb (d0,ls)).holds S w (bP y):=by
 obtain⟨⟨cs,h1,c1,c2,rfl,g1,rfl,g2⟩,h2⟩:=h _ (List.mem_cons_self ..);have h3:=MD (fun d hd=>h d (List.mem_cons_of_mem _ hd));refine⟨y,0,_,107,(0,0),rfl,h2 y rfl,h1,c1,[z.1],?_,g1,?_⟩
 ·have l1:=aO (.ptr aw) g1;simp only [Ty.cells] at l1;match c1,l1 with
  |[u],_=>rfl
 ·obtain⟨cs,h4,h5⟩:=h3;have l1:=aO (.slice (.slice (.int .i64))) h4;simp only [Ty.cells] at l1;match cs,l1 with
  |[u],_=>rw [h5];exact h4
theorem yP{S:FS}{w:World}{a:Act}{Γ:Ga}{y:Nat}{d0:aw.den}{z:Value×(Nat→Value)}{ls:List (List Int)}(h:∀d∈[D.obj y 107 (.agg (.pair (.at aw d0) (.eq z.1)))]++fD 23 z ls,d.holds S w∧∀b,d.foot=some b→S b)
 (hk:∀s r,lk Γ s=some r→r.holds S w (a.tmps.getD s undef)) (h0:lk Γ 0=some (.eq (bP y))):∀s r,lk [(0,A.at Jb (d0,ls))] s=some r→r.holds S w (a.tmps.getD s undef):=fun s r hl=>by
 simp only [lk] at hl
 split at hl
 ·
  rename_i e
  cases hl
  subst e
  have e1:a.tmps.getD 0 undef=bP y:=hk 0 _ h0
  rw [e1]
  exact LR h
 ·
  cases hl
theorem LD{n:Nat}{r0:A}(h:r0.flat=true):∀s r,lk [(n,r0)] s=some r→r.flat=true:=fun s r hl=>by
 simp only [lk] at hl
 split at hl
 ·
  cases hl;exact h
 ·
  cases hl
theorem MU{d0:D}(h:d0.flat=true):∀d∈[d0],d.flat=true:=fun d hd=>by
 simp only [List.mem_cons,List.not_mem_nil,or_false] at hd
 subst hd;exact h
theorem J8{d0 d1:D}(h:d0.flat=true)(h1:d1.flat=true):∀d∈[d0,d1],d.flat=true:=fun d hd=>by
 simp only [List.mem_cons,List.not_mem_nil,or_false] at hd
 rcases hd with rfl |rfl <;> assumption
theorem yQ{y:Nat}{x:Int×Int}(S:FS)(w:World):f5 S w [.eq (bP y),.rep fo x] [bP y,PD x]:=⟨_,_,rfl,rfl,_,_,rfl,J9,rfl⟩
theorem MO:a8 Tryz.prog 157 0 0:=a8.of (by kernel_rfl)
theorem FW:dL Tryz.prog 25 3 true:=⟨fun w=>by kernel_rfl,fun w=>by kernel_rfl⟩
theorem PI:ah Tryz.prog 64:=ah.of Tryz.func64 (by kernel_rfl) (by kernel_rfl)
theorem PK:ah Tryz.prog 56:=ah.of Tryz.func56 (by kernel_rfl) (by kernel_rfl)
theorem MY:ah Tryz.prog 83:=ah.of Tryz.func83 (by kernel_rfl) (by kernel_rfl)
def mP(k:Nat)(t:aS)(x:Int×Int)(ls:List (List Int)):Option (Bool×List (List Int)):=
 (mY k x ls).bind fun l1=>(lA k t l1).bind fun e=>if JM e=true then(mY k x l1).bind fun l2=>some (!vp e,l2) else none
theorem sG(k:Nat)(t:aS)(x:Int×Int)(ls:List (List Int))(r:Bool×List (List Int))(y m:Nat)(z:Value×(Nat→Value))(h:mP k t x ls=some r):
 bX Tryz.prog 68 [.eq (bP y),.rep fo x] ([.obj y 107 (.agg (.pair (.at aw (t,.map (some m))) (.eq z.1)))]++fD 23 z ls) (fun _:Unit=>(bu [.eq (.bool r.1)],[.obj y 107 (.agg (.pair (.at aw (t,.map (some m))) (.eq z.1)))]++fD 23 z r.2)):=by
 unfold mP at h
 replace h:=ba h
 obtain⟨l1,e1,h⟩:=aa h
 obtain⟨e,e2,h⟩:=aa h
 have he:JM e=true:=by
  apply Classical.byContradiction;intro hn;rw [if_neg hn] at h;cases h
 replace h:=cE he h
 obtain⟨l2,e3,h⟩:=aa h
 cases h
 have cv:=q9 k t l1 e e2
 refine K8 23 Tryz.func68 rfl Tryz.ntmps68 rfl fun S w0=>?_
 refine sr ?_
 refine bx fun b3=>?_
 refine cq ?_
 refine nt ?_
 refine sr ?_
 refine mq ?_
 refine ka (aj rfl gK (yD) rfl) ?_
 refine cC (fE (Δ':=([.obj y 107 (.agg (.pair (.at aw (t,.map (some m))) (.eq z.1)))]++fD 23 z ls)++[.obj b3 110 (.rep fo x)]) (List.perm_append_comm (l₁:=([.obj b3 110 (.rep fo x)]:List D)))) ?_
 refine bR (Δ:=_++_) (F:=[_]) (fun _ _ _=>ax rfl _) rfl rfl (ap [.tmp 5,.tmp 6] rfl rfl yi rfl (mt k x ls l1 y (t,.map (some m)) z e1)) ⟨rfl,rfl,trivial⟩ fun _=>?_
 refine nt ?_
 refine sr ?_
 refine mq ?_
 refine cC (fE (Δ':=[.obj b3 110 (.rep fo x)]++([.obj y 107 (.agg (.pair (.at aw (t,.map (some m))) (.eq z.1)))]++fD 23 z l1)) List.perm_append_comm) ?_
 refine ka (aj rfl gK (yD) rfl) ?_
 refine cC (sn 9 rfl fun _ _ _ h=>HV h) ?_
 refine xp (vs:=[bP y,PD x]) [.tmp 8,.tmp 9] rfl rfl rfl rfl rfl ⟨rfl,rfl,trivial⟩ ?_
 refine au ?_
 refine ae ?_
 refine bv (fE (Δ':=([.obj y 107 (.agg (.pair (.at aw (t,.map (some m))) (.eq z.1)))]++fD 23 z l1)++[.obj b3 110 (.rep fo x)]) (List.perm_append_comm (l₁:=([.obj b3 110 (.rep fo x)]:List D)))) ?_
 show JC _ _ _ _ _
 refine ag ?_
 refine DI (L:=_++_) (Δ:=[_]) (Γ1:=[(0,.at Jb ((t,.map (some m)),l1))]) (Z:=Unit) (fun _=>[(4,.eq (.bool (!vp e)))]) (fun _=>[.obj b3 110 (.rep fo x)]) (fun S w a hl hk=>yP hl hk rfl) (fun _=>⟨LD rfl,MU rfl⟩) (fun S w=>?_) (fun _=>?_)
 ·
  refine bI ?_;refine dm ?_;refine da (dO rfl) ?_;refine da (aJ 1 false rfl PC rfl) ?_;refine da (ak (t:=.ptr aw) rfl FX rfl) ?_;refine da (dO rfl) ?_;refine da (aJ 3 true rfl MO rfl) ?_;refine da (ak (t:=av) rfl FW rfl) ?_;refine dm ?_;refine da (dO rfl) ?_;refine da (aJ 1 false rfl uc rfl) ?_;refine da (ak (t:=.slice (.slice (.int .i64))) rfl oe rfl) ?_;refine tJ (by kernel_rfl) qP ?_;refine jb (ap [.tmp 16,.tmp 20] rfl rfl PI rfl cv) ?_;refine jb (rH rfl SZ he) ?_;refine aq (au ?_);exact fun a w st=>⟨rfl,(),(SE.fin (Γ':=[(4,.eq (.bool (!vp e)))]) [0] ⟨rfl,trivial⟩ rfl) a w st⟩
 ·
  refine tn (ay (DF (Δ1:=[.obj y 107 (.agg (.pair (.at aw (t,.map (some m))) (.eq z.1)))]++fD 23 z l1) (F:=[.obj b3 110 (.rep fo x)]) yi (mt k x l1 l2 y (t,.map (some m)) z e3 _) yQ (fun _=>?_)));refine bv (fE (Δ':=[.obj b3 110 (.rep fo x)]++([.obj y 107 (.agg (.pair (.at aw (t,.map (some m))) (.eq z.1)))]++fD 23 z l2)) List.perm_append_comm) ?_;refine bv (bp (pre':=[.obj y 107 (.agg (.pair (.at aw (t,.map (some m))) (.eq z.1)))]) (Γ':=[(4,.eq (.bool (!vp e)))]) [.obj b3 110 (.rep fo x),.obj y 107 (.agg (.pair (.at aw (t,.map (some m))) (.eq z.1)))] (fD 23 z l2) [1] ⟨rfl,trivial⟩ rfl) ?_;exact iQ () [_] ⟨rfl,trivial⟩ rfl
def mQ(k:Nat)(t:aS)(x:Int×Int)(ls:List (List Int)):Option (Int×List (List Int)):=
 (mY k x ls).bind fun l1=>(dZ k l1).bind fun ld=>(dD k t ld).bind fun n=>(mY k x l1).bind fun l2=>some (n,l2)
theorem sH(k:Nat)(t:aS)(x:Int×Int)(ls:List (List Int))(r:Int×List (List Int))(y m:Nat)(z:Value×(Nat→Value))(h:mQ k t x ls=some r):
 dw (jg Tryz.prog) 70 [.eq (bP y),.rep fo x] ([.inv m (bO k t)]++([.obj y 107 (.agg (.pair (.at aw (t,.map (some m))) (.eq z.1)))]++fD 23 z ls)) (fun _:Unit=>(bu [I r.1],[.inv m (bO k t)]++([.obj y 107 (.agg (.pair (.at aw (t,.map (some m))) (.eq z.1)))]++fD 23 z r.2))):=by
 unfold mQ at h
 replace h:=ba h
 obtain⟨l1,e1,h⟩:=aa h
 obtain⟨ld,e2,h⟩:=aa h
 obtain⟨n,e2',h⟩:=aa h
 obtain⟨l2,e3,h⟩:=aa h
 cases h
 have cv:=fq k l1 ld e2
 have cl:=jN k t m ld n e2'
 refine AL 20 Tryz.func70 rfl Tryz.ntmps70 rfl fun S w0=>?_
 refine sr ?_
 refine bx fun b3=>?_
 refine cq ?_
 refine nt ?_
 refine sr ?_
 refine mq ?_
 refine ka (aj rfl gK (yD) rfl) ?_
 refine cC (fE (Δ':=([.obj y 107 (.agg (.pair (.at aw (t,.map (some m))) (.eq z.1)))]++fD 23 z ls)++[.obj b3 110 (.rep fo x),.inv m (bO k t)]) (List.perm_append_comm (l₁:=([.obj b3 110 (.rep fo x),.inv m (bO k t)]:List D)))) ?_
 refine bR (Δ:=_++_) (F:=[_,_]) (fun _ _ _=>ax rfl _) rfl rfl (ap [.tmp 5,.tmp 6] rfl rfl yi rfl (mt k x ls l1 y (t,.map (some m)) z e1)) ⟨rfl,rfl,trivial⟩ fun _=>?_
 refine nt ?_
 refine sr ?_
 refine mq ?_
 refine cC (fE (Δ':=[.obj b3 110 (.rep fo x),.inv m (bO k t)]++([.obj y 107 (.agg (.pair (.at aw (t,.map (some m))) (.eq z.1)))]++fD 23 z l1)) List.perm_append_comm) ?_
 refine ka (aj rfl gK (yD) rfl) ?_
 refine cC (sn 9 rfl fun _ _ _ h=>HV h) ?_
 refine xp (vs:=[bP y,PD x]) [.tmp 8,.tmp 9] rfl rfl rfl rfl rfl ⟨rfl,rfl,trivial⟩ ?_
 refine au ?_
 refine ae ?_
 refine bv (fE (Δ':=([.obj y 107 (.agg (.pair (.at aw (t,.map (some m))) (.eq z.1)))]++fD 23 z l1)++[.obj b3 110 (.rep fo x),.inv m (bO k t)]) (List.perm_append_comm (l₁:=([.obj b3 110 (.rep fo x),.inv m (bO k t)]:List D)))) ?_
 show JC _ _ _ _ _
 refine ag ?_
 refine DI (L:=_++_) (Δ:=[_,_]) (Γ1:=[(0,.at Jb ((t,.map (some m)),l1))]) (Z:=Unit) (fun _=>[(4,I n)]) (fun _=>[.obj b3 110 (.rep fo x),.inv m (bO k t)]) (fun S w a hl hk=>yP hl hk rfl) (fun _=>⟨LD rfl,J8 rfl rfl⟩) (fun S w=>?_) (fun _=>?_)
 ·
  refine bI ?_;refine dm ?_;refine da (dO rfl) ?_;refine da (aJ 1 false rfl PC rfl) ?_;refine da (ak (t:=.ptr aw) rfl FX rfl) ?_;refine dm ?_;refine da (dO rfl) ?_;refine da (aJ 1 false rfl uc rfl) ?_;refine da (ak (t:=.slice (.slice (.int .i64))) rfl oe rfl) ?_;refine da (ap [.tmp 17] rfl rfl PK rfl cv) ?_;refine tJ (by kernel_rfl) qP ?_;refine fr 1 ?_;refine kb (gV [.tmp 13,.tmp 18] rfl rfl MY rfl cl) ?_;refine aq (au ?_);exact fun a w st=>⟨rfl,(),(SE.fin (Γ':=[(4,I n)]) [1,0] ⟨rfl,trivial⟩ rfl) a w st⟩
 ·
  refine tn (ay (DF (Δ1:=[.obj y 107 (.agg (.pair (.at aw (t,.map (some m))) (.eq z.1)))]++fD 23 z l1) (F:=[.obj b3 110 (.rep fo x),.inv m (bO k t)]) yi (mt k x l1 l2 y (t,.map (some m)) z e3 _) yQ (fun _=>?_)));refine bv (fE (Δ':=[.obj b3 110 (.rep fo x),.inv m (bO k t)]++([.obj y 107 (.agg (.pair (.at aw (t,.map (some m))) (.eq z.1)))]++fD 23 z l2)) List.perm_append_comm) ?_;refine bv (bp (pre':=[.inv m (bO k t),.obj y 107 (.agg (.pair (.at aw (t,.map (some m))) (.eq z.1)))]) (Γ':=[(4,I n)]) [.obj b3 110 (.rep fo x),.inv m (bO k t),.obj y 107 (.agg (.pair (.at aw (t,.map (some m))) (.eq z.1)))] (fD 23 z l2) [1,2] ⟨rfl,trivial⟩ rfl) ?_;exact iQ () [_] ⟨rfl,trivial⟩ rfl
theorem sB:∀w,(zeroValue 110).run Tryz.prog w= .ok (.agg #[.int .i64 0,.int .i64 0]) w:=fun w=>by kernel_rfl
theorem vD:∀S w,(A.cells S w (.rep fo (0,0)) (Value.cells (.agg #[.int .i64 0,.int .i64 0])).toList):=fun _ _=>⟨[_],[_],rfl,rfl,rfl⟩
theorem MZ:ah Tryz.prog 70:=ah.of Tryz.func70 (by kernel_rfl) (by kernel_rfl)
abbrev LG:=Int×(Int×Int)×Int×Bool×List (List Int)
def ia(k:Nat)(t:aS)(xs:List (Int×Int)):Nat→LG→Option ((Int×Int)×Int×Bool×List (List Int))
 |0,_=>none
 |n+1,q=>if q.1 < (xs.length:Int) then((aR xs q.1).bind fun x=>(mQ k t x q.2.2.2.2).bind fun r=>(ck (q.1+1)).bind fun w=>ia k t xs n (if(!q.2.2.2.1 || decide (r.1 < q.2.2.1))=true then(w,x,r.1,true,r.2) else(w,q.2.1,q.2.2.1,q.2.2.2.1,r.2))) else some q.2
def lL(k:Nat)(t:aS)(xs:List (Int×Int))(ls:List (List Int)):Option ((Int×Int)×Int×Bool×List (List Int)):=ia k t xs k (0,(0,0),0,false,ls)
theorem vT(k:Nat)(t:aS)(xs:List (Int×Int))(ls:List (List Int))(r:(Int×Int)×Int×Bool×List (List Int))(y m:Nat)(z:Value×(Nat→Value))(h:lL k t xs ls=some r):
 dw (jg Tryz.prog) 69 [.eq (.func (.func 70) #[bP y] #[]),Rs fo xs] ([.inv m (bO k t),.obj y 107 (.agg (.pair (.at aw (t,.map (some m))) (.eq z.1)))]++fD 23 z ls) (fun _:Unit=>(bu [.rep fo r.1,I r.2.1,.eq (.bool r.2.2.1)],[.inv m (bO k t),.obj y 107 (.agg (.pair (.at aw (t,.map (some m))) (.eq z.1)))]++fD 23 z r.2.2.2)):=by
 unfold lL at h
 replace h:=ba h
 refine dw.of 35 Tryz.func69 rfl Tryz.ntmps69 rfl fun S w0=>?_
 refine sr ?_
 refine aF rfl rfl rfl (be rfl sB vD) trivial fun b4=>?_
 refine cq ?_
 refine cq ?_
 refine nt ?_
 refine sr ?_
 refine aF rfl rfl rfl (be rfl sB vD) trivial fun b7=>?_
 refine nt ?_
 refine sr ?_
 refine cq ?_
 refine cq ?_
 refine nt ?_
 refine ag ?_
 refine sr ?_
 refine mq ?_
 refine ol NH ?_
 refine fg rfl ?_
 refine nt ?_
 refine ao ?_
 refine aK (Z:=Unit) (α:=LG) (fun _ q=>[(0,.eq (.func (.func 70) #[bP y] #[])),(4,.eq (bP b4)),(7,.eq (bP b7)),(8,I q.2.2.1),(9,.eq (.bool q.2.2.2.1)),(13,Rs fo xs),(14,I (xs.length:Int)),(15,I q.1)]) (fun _ q=>[.obj b7 110 (.rep fo q.2.1),.obj b4 110 (.rep fo (0,0)),.inv m (bO k t),.obj y 107 (.agg (.pair (.at aw (t,.map (some m))) (.eq z.1)))]++fD 23 z q.2.2.2.2) (ia k t xs) k () (0,(0,0),0,false,ls) (fun _=>rfl) h (bp [.obj b7 110 (.rep fo (0,0)),.obj b4 110 (.rep fo (0,0)),.inv m (bO k t),.obj y 107 (.agg (.pair (.at aw (t,.map (some m))) (.eq z.1)))] (fD 23 z ls) [0,1,2,3] ⟨rfl,rfl,rfl,rfl,rfl,rfl,rfl,rfl,trivial⟩ rfl) (fun n u q h=>?_)
 unfold ia at h
 obtain⟨q1,q2,q3,q4,q5⟩:=q
 refine sr ?_
 refine jb (bq rfl) ?_
 refine nt ?_
 refine ag ?_
 refine bJ rfl (fun hb=>?_) (fun hb=>?_)
 ·
  replace h:=cE (ou hb) h;obtain⟨x,ex,h⟩:=aa h;obtain⟨r1,e,h⟩:=aa h;obtain⟨w,ew,h⟩:=aa h;have cl:=sH k t x q5 r1 y m z e;refine sk (ag (ao (sr (jb (aC (t:=fo) rfl NH gK ex) ?_))));refine ja (ak (t:=fo) rfl gK rfl) ?_;refine aF rfl rfl rfl (be rfl sB vD) trivial fun c=>?_;refine bh rfl rfl (bb rfl gK rfl rfl rfl) ⟨rfl,rfl,trivial⟩ ?_;refine nt (sr (mq ?_));refine ka (aj rfl gK (yD) rfl) ?_;refine cC (fE (Δ':=([.inv m (bO k t)]++([.obj y 107 (.agg (.pair (.at aw (t,.map (some m))) (.eq z.1)))]++fD 23 z q5))++[.obj c 110 (.rep fo x),.obj b7 110 (.rep fo q2),.obj b4 110 (.rep fo (0,0))]) (List.perm_append_comm (l₁:=([.obj c 110 (.rep fo x),.obj b7 110 (.rep fo q2),.obj b4 110 (.rep fo (0,0))]:List D)))) ?_;refine bR (Δ:=_++_) (F:=[_,_,_]) (fun _ _ _=>ax rfl _) rfl rfl (oV (fs:=[bP y]) (cs:=[]) (ags:=[.rep fo x]) [.tmp 20] rfl rfl MZ rfl cl) ⟨rfl,rfl,trivial⟩ fun _=>?_;refine aq ?_;refine cC (fE (Δ':=[.obj c 110 (.rep fo x),.obj b7 110 (.rep fo q2),.obj b4 110 (.rep fo (0,0))]++([.inv m (bO k t)]++([.obj y 107 (.agg (.pair (.at aw (t,.map (some m))) (.eq z.1)))]++fD 23 z r1.2))) List.perm_append_comm) ?_;refine nt ?_;cases q4 with
  |false=>
   refine sr (mq ?_);refine ja (dT rfl) ?_;refine mq ?_;iterate 3 refine gn ?_
   refine pt (nt ?_);refine bJ rfl (fun hb=>?_) (fun hb=>(by cases hb));refine ab (ka (aj rfl gK (yD) rfl) ?_);refine mq ?_;refine fr 1 ?_;refine bh rfl rfl (bb rfl gK rfl rfl rfl) ⟨rfl,rfl,trivial⟩ ?_;refine aq ?_;refine cq (au (aM (tn (ab ?_))));refine jb (bf rfl ew) ?_;refine mq (nl ?_);exact iP ((),(w,x,r1.1,true,r1.2)) h (bp [.obj b7 110 (.rep fo x),.obj c 110 (.rep fo x),.obj b4 110 (.rep fo (0,0)),.inv m (bO k t),.obj y 107 (.agg (.pair (.at aw (t,.map (some m))) (.eq z.1)))] (fD 23 z r1.2) [0,2,3,4] ⟨rfl,rfl,rfl,rfl,rfl,rfl,rfl,rfl,trivial⟩ rfl)
  |true=>
   refine sr (mq ?_);refine ja (dT rfl) ?_;refine mq ?_;refine gm ?_;refine gm ?_;refine gb (bq rfl) ?_;refine pf (nt ?_);refine bJ rfl (fun hb=>?_) (fun hb=>?_)
   ·replace h:(ia k t xs n (w,x,r1.1,true,r1.2)).bind some=some r:=by
     have hd:r1.1 < q3:=of_decide_eq_true hb;simpa [hd] using h
    refine ab (ka (aj rfl gK (yD) rfl) ?_);refine mq ?_;refine fr 1 ?_;refine bh rfl rfl (bb rfl gK rfl rfl rfl) ⟨rfl,rfl,trivial⟩ ?_;refine aq ?_;refine cq (au (aM (tn (ab ?_))));refine jb (bf rfl ew) ?_;refine mq (nl ?_);exact iP ((),(w,x,r1.1,true,r1.2)) h (bp [.obj b7 110 (.rep fo x),.obj c 110 (.rep fo x),.obj b4 110 (.rep fo (0,0)),.inv m (bO k t),.obj y 107 (.agg (.pair (.at aw (t,.map (some m))) (.eq z.1)))] (fD 23 z r1.2) [0,2,3,4] ⟨rfl,rfl,rfl,rfl,rfl,rfl,rfl,rfl,trivial⟩ rfl)
   ·replace h:(ia k t xs n (w,q2,q3,true,r1.2)).bind some=some r:=by
     have hd:¬r1.1 < q3:=of_decide_eq_false hb;simpa [hd] using h
    refine aX (aM (tn (ab (jb (bf rfl ew) ?_))));refine mq (nl ?_);exact iP ((),(w,q2,q3,true,r1.2)) h (bp [.obj c 110 (.rep fo x),.obj b7 110 (.rep fo q2),.obj b4 110 (.rep fo (0,0)),.inv m (bO k t),.obj y 107 (.agg (.pair (.at aw (t,.map (some m))) (.eq z.1)))] (fD 23 z r1.2) [1,2,3,4] ⟨rfl,rfl,rfl,rfl,rfl,rfl,rfl,rfl,trivial⟩ rfl)
 replace h:=bN (nw hb) h
 refine dH ?_
 refine aU ?_
 refine aU ?_
 refine bW ?_
 refine tn ?_
 cases h
 refine sr ?_
 refine ka (aj rfl gK (yD) rfl) ?_
 iterate 2 refine mq ?_
 refine fr 1 ?_
 refine bh rfl rfl (bb rfl gK rfl rfl rfl) ⟨rfl,rfl,trivial⟩ ?_
 refine aq ?_
 refine aq ?_
 refine nt ?_
 refine ay ?_
 refine bv (fE (Δ':=([.inv m (bO k t),.obj y 107 (.agg (.pair (.at aw (t,.map (some m))) (.eq z.1)))]++fD 23 z q5)++[.obj b4 110 (.rep fo q2),.obj b7 110 (.rep fo q2)]) (List.perm_append_comm (l₁:=([.obj b4 110 (.rep fo q2),.obj b7 110 (.rep fo q2)]:List D)))) ?_
 exact aP () [_,_,_] ([.inv m (bO k t),.obj y 107 (.agg (.pair (.at aw (t,.map (some m))) (.eq z.1)))]++fD 23 z q5:List D).length ⟨⟨b4,110,.rep fo q2,2,true,rfl,List.mem_append.2 (.inr (List.mem_cons_self ..)),gK,yD,rfl⟩,rfl,rfl,trivial⟩ (by rw [List.take_left])
theorem qw:ah Tryz.prog 67:=ah.of Tryz.func67 (by kernel_rfl) (by kernel_rfl)
theorem PM:ah Tryz.prog 35:=ah.of Tryz.func35 (by kernel_rfl) (by kernel_rfl)
theorem PL:ah Tryz.prog 54:=ah.of Tryz.func54 (by kernel_rfl) (by kernel_rfl)
theorem PH:ah Tryz.prog 68:=ah.of Tryz.func68 (by kernel_rfl) (by kernel_rfl)
theorem PG:ah Tryz.prog 69:=ah.of Tryz.func69 (by kernel_rfl) (by kernel_rfl)
theorem Ld:dL Tryz.prog 22 1 false:=⟨fun w=>by kernel_rfl,fun w=>by kernel_rfl⟩
theorem LC:a8 Tryz.prog 25 1 1:=a8.of (by kernel_rfl)
theorem og:ma Tryz.prog 28 23 1 24:=.of (z:=(.slice none 0 0)) mm (by kernel_rfl) rfl rfl rfl
theorem F3:ma Tryz.prog 108 110 2 16:=.of (z:=(.agg #[.int .i64 0,.int .i64 0])) NH (by kernel_rfl) rfl rfl rfl
theorem L0:yA Tryz.prog 107 #[(0,1),(1,1)]:=⟨_,SX,fun _=>by kernel_rfl⟩
theorem LM:∀w,(zeroValue 107).run Tryz.prog w= .ok (.agg #[.pointer none,.slice none 0 0]) w:=fun w=>by kernel_rfl
theorem Nz:∀S w,(A.cells S w (.pair (.eq (.pointer none)) (.eq (.slice none 0 0))) (Value.cells (.agg #[.pointer none,.slice none 0 0])).toList):=fun _ _=>⟨[_],_,rfl,⟨rfl,rfl⟩,rfl,rfl⟩
theorem LZ:yA Tryz.prog 110 #[(0,1),(1,1)]:=⟨_,SV,fun _=>by kernel_rfl⟩
theorem KP:∀S w,(A.cells S w (.pair (I 0) (I 0)) (Value.cells (.agg #[.int .i64 0,.int .i64 0])).toList):=fun _ _=>⟨[_],_,rfl,⟨rfl,rfl⟩,rfl,rfl⟩
def fC:List Bool→Ga→Ga
 |true::l,e::g=>e::fC l g
 |false::l,_::g=>fC l g
 |_,_=>[]
def mA(y:Nat)(z1:Value)(l:List Int)(v v2:Value):Ga:=[(39,.eq (bP y)),(40,.eq (bP y)),(41,.eq (bP y)),(42,.eq (.pointer (some ⟨y,0+1,none⟩))),(43,.eq z1),(44,Ri l),(45,.eq v),(46,.rep (.slice .val) [v]),(47,.eq v2),(48,.eq (bP y)),(49,.eq (.pointer (some ⟨y,0+1,none⟩)))]
def lO(b2 y:Nat)(n i:Int)(l:List Int)(a1:List (List Int)):Ga:=[(2,.eq (bP b2)),(8,I n),(10,.eq (bP y)),(12,Ri l),(33,.rep (.slice (.slice (.int .i64))) a1),(34,I (a1.length:Int)),(35,I i)]
theorem Qy{i j:Int}:AE (.agg (.pair (I i) (I j))) (.rep fo (i,j)):=fun S w cs h=>by
 obtain⟨c1,c2,e,h1,h2⟩:=h
 exact⟨c1,c2,e,h1.1,h2.1⟩
def mz(k:Nat)(a1:List (List Int)):Nat→Int×List (List Int)→Option (List (List Int))
 |0,_=>none
 |n+1,q=>if q.1 < (a1.length:Int) then((aR a1 q.1).bind fun l=>(kH k l).bind fun l2=>if bL (q.2.length+1) then(ck (q.1+1)).bind fun w=>mz k a1 n (w,q.2++[l2]) else none) else some q.2
def kM(k:Nat)(t:aS)(i:Int):Nat→Int×List (Int×Int)×List (List Int)→Option (List (Int×Int)×List (List Int))
 |0,_=>none
 |n+1,q=>if q.1 < (t.2.1.length:Int) then((mP k t (i,q.1) q.2.2).bind fun r=>if r.1=true then(if bL (q.2.1.length+1) then(ck (q.1+1)).bind fun w=>kM k t i n (w,q.2.1++[(i,q.1)],r.2) else none) else(ck (q.1+1)).bind fun w=>kM k t i n (w,q.2.1,r.2)) else some q.2
def jB(k:Nat)(t:aS):Nat→Int×List (Int×Int)×List (List Int)→Option (List (Int×Int)×List (List Int))
 |0,_=>none
 |n+1,q=>if q.1 < (t.2.1.length:Int) then((ck (q.1+1)).bind fun w=>(kM k t q.1 k (w,q.2)).bind fun p=>jB k t n (w,p)) else some q.2
def uy(k:Nat)(a0:aS)(a1:(List (List Int))):Option (Int×Int×Int×Int):=
 (pE k a0 a1).bind fun L=>if¬(L.2=0) then some (0,0,0,L.2) else
 (mz k a1 k (0,[])).bind fun ls=>(jB k a0 k (0,[],ls)).bind fun p=>(lL k a0 p.1 p.2).bind fun b=>
 if(!b.2.2.1 || decide (L.1≤b.2.1))=true then some (0,0,0,11) else some (b.1.1,b.1.2,b.2.1,0)
theorem yT(k:Nat)(a0:aS)(a1:(List (List Int)))(r:Int×Int×Int×Int)(h:uy k a0 a1=some r):
 dw (jg Tryz.prog) 27 [.rep av a0,.rep (.slice (.slice (.int .i64))) a1] [.inv 0 iZ] (fun _:Unit=>(bu [.eq (.int .i64 r.1),.eq (.int .i64 r.2.1),.eq (.int .i64 r.2.2.1),.eq (.int .i64 r.2.2.2)],[.inv 0 iZ])):=by
 unfold uy at h
 replace h:=ba h
 refine dw.of 97 Tryz.func27 rfl Tryz.ntmps27 rfl fun S w0=>?_
 refine ag ?_
 refine ab ?_
 refine aF rfl rfl rfl (oh rfl rfl) ⟨rfl,trivial⟩ fun b2=>?_
 refine dG rfl ?_
 refine dG rfl ?_
 refine dG rfl ?_
 refine dG rfl ?_
 refine au ?_
 refine ae ?_
 show JC _ _ _ _ _
 obtain⟨L,eL,h⟩:=aa h
 have cL:=rj k a0 a1 L eL
 refine ag ?_
 refine ab ?_
 refine bV rfl rfl rfl (aj rfl FW (yD) rfl) ⟨rfl,trivial⟩ ?_
 refine aA rfl rfl ?_
 refine bH 1 rfl ?_
 refine bV rfl rfl rfl (gV [.tmp 21,.tmp 22] rfl rfl PM rfl cL) ⟨rfl,rfl,trivial⟩ ?_
 refine aA rfl rfl ?_
 refine aE rfl (de rfl rfl) ⟨rfl,trivial⟩ ?_
 refine aE rfl (de rfl rfl) ⟨rfl,trivial⟩ ?_
 refine di rfl rfl ?_
 refine di rfl rfl ?_
 refine au ?_
 refine ae ?_
 show JC _ _ _ _ _
 refine ag ?_
 refine ag ?_
 refine ab ?_
 refine aA rfl rfl ?_
 refine aE rfl (g9 rfl) ⟨rfl,rfl,trivial⟩ ?_
 refine au ?_
 refine ae ?_
 show JC _ _ _ _ _
 refine bJ rfl (fun hb=>?_) (fun hb=>?_)
 ·
  replace h:=cE (IR hb) h
  refine ag ?_
  refine ab ?_
  refine aA rfl rfl ?_
  refine dG rfl ?_
  refine dG rfl ?_
  refine dG rfl ?_
  refine di rfl rfl ?_
  refine au ?_
  refine ae ?_
  show JC _ _ _ _ _
  refine ay ?_
  refine aV ?_
  obtain rfl:=Option.some.inj h
  exact aP () [_,_,_,_] 1 ⟨rfl,rfl,rfl,rfl,trivial⟩ rfl
 replace h:=bN (we hb) h
 refine aX ?_
 refine ae ?_
 show JC _ _ _ _ _
 rw [Option.bind_assoc] at h
 refine ag ?_
 refine ab ?_
 refine bH 1 rfl ?_
 refine bV rfl rfl rfl (aj rfl FW (yD) rfl) ⟨rfl,trivial⟩ ?_
 refine aF rfl rfl rfl (ap [.tmp 29] rfl rfl PL rfl (ir a0)) ⟨rfl,trivial⟩ fun m=>?_
 refine cC (lF (bO k a0) nj) ?_
 refine aE rfl (cH [(0,.tmp 30,_)] rfl L0 LM Nz (g7 ⟨trivial,trivial⟩) rfl) ⟨rfl,trivial⟩ ?_
 refine aF rfl rfl rfl (oh rfl trivial) ⟨rfl,trivial⟩ fun y=>?_
 refine di rfl rfl ?_
 refine au ?_
 refine ae ?_
 show JC _ _ _ _ _
 refine ag ?_
 refine ag ?_
 refine ab ?_
 refine aA rfl rfl ?_
 refine aE rfl (jE rfl rfl mm) ⟨rfl,trivial⟩ ?_
 refine fg rfl ?_
 refine cC (SE.nil 23 .val) ?_
 refine cC (fE (Δ':=[.obj y 107 (.agg (.pair (.at aw (a0,.map (some m))) (.eq (.slice none 0 0)))),.inv m (bO k a0),.obj b2 25 (.rep av a0),.inv 0 iZ]++fD 23 (.slice none 0 0,fun _=>undef) []) (List.Perm.trans (List.perm_append_comm (l₁:=([.sl (.slice none 0 0) 23 .val []]:List D))) (List.Perm.refl _))) ?_
 refine au ?_
 refine ae ?_
 show JC _ _ _ _ _
 refine ao ?_
 refine aK (Z:=Value×(Nat→Value)) (α:=Int×List (List Int)) (fun z q=>[(2,.eq (bP b2)),(8,.eq (.int .i64 L.1)),(10,.eq (bP y)),(33,.rep (.slice (.slice (.int .i64))) a1),(34,.eq (.int .i64 (a1.length:Int))),(35,.eq (.int .i64 q.1))]) (fun z q=>[.obj y 107 (.agg (.pair (.at aw (a0,.map (some m))) (.eq z.1))),.inv m (bO k a0),.obj b2 25 (.rep av a0),.inv 0 iZ]++fD 23 z q.2) (mz k a1) k (.slice none 0 0,fun _=>undef) (0,[]) (fun _=>rfl) h (bp [.obj y 107 (.agg (.pair (.at aw (a0,.map (some m))) (.eq (.slice none 0 0)))),.inv m (bO k a0),.obj b2 25 (.rep av a0),.inv 0 iZ] (fD 23 (.slice none 0 0,fun _=>undef) []) [0,1,2,3] ⟨rfl,rfl,rfl,rfl,rfl,rfl,trivial⟩ rfl) (fun n z q h=>?_)
 unfold mz at h
 refine ag ?_
 refine ab ?_
 refine aE rfl (bq rfl) ⟨rfl,rfl,trivial⟩ ?_
 refine au ?_
 refine ae ?_
 show JC _ _ _ _ _
 refine ag ?_
 refine bJ rfl (fun hb=>?_) (fun hb=>?_)
 ·
  replace h:=cE (ou hb) h
  obtain⟨q1,q2⟩:=q
  obtain⟨l,el,h⟩:=aa h
  obtain⟨l2,el2,h⟩:=aa h
  have hk:bL (q2.length+1):=by
   apply Classical.byContradiction
   intro hn
   rw [if_neg hn] at h
   cases h
  replace h:=cE hk h
  have cc:=m7 k l l2 el2
  refine aX ?_
  refine ae ?_
  show JC _ _ _ _ _
  refine ag ?_
  refine ao ?_
  refine ag ?_
  refine ab ?_
  refine aE rfl (aC (t:=.slice (.int .i64)) rfl mm CM el) ⟨rfl,rfl,trivial⟩ ?_
  refine aE rfl (ak (t:=.slice (.int .i64)) rfl CM rfl) ⟨rfl,trivial⟩ ?_
  refine di rfl rfl ?_
  refine au ?_
  refine ae ?_
  show JC _ _ _ _ _
  refine dJ (Dx (pre:=[.obj y 107 (.agg (.pair (.at aw (a0,.map (some m))) (.eq z.1))),.inv m (bO k a0),.obj b2 25 (.rep av a0),.inv 0 iZ])) ?_
  refine ji 1 rfl ?_
  refine dJ (SE.sub (Γ':=lO b2 y L.1 q1 l a1) ⟨rfl,rfl,rfl,rfl,rfl,rfl,rfl,trivial⟩) ?_
  generalize hB:lO b2 y L.1 q1 l a1=B
  refine su (Δ:=[.obj y 107 (.agg (.pair (.at aw (a0,.map (some m))) (.eq z.1))),.sl z.1 23 .val (eu z.2 0 q2)]) (F:=[.inv m (bO k a0),.obj b2 25 (.rep av a0),.inv 0 iZ]++kJ z.2 0 q2) (Z:=Value×Value) (fun p=>B) (fun p=>[.obj y 107 (.agg (.pair (.at aw (a0,.map (some m))) (.eq p.2))),.sl p.2 23 .val (eu z.2 0 q2++[p.1]),.sl p.1 3 (.int .i64) l2]) (fun S w=>?_) (fun p=>?_)
  ·
   subst hB
   refine AI (I:=Value×Value) (Ge:=fun _=>lO b2 y L.1 q1 l a1) (De:=fun p=>[.obj y 107 (.agg (.pair (.at aw (a0,.map (some m))) (.eq p.2))),.sl p.2 23 .val (eu z.2 0 q2++[p.1]),.sl p.1 3 (.int .i64) l2]) (L:=[true,true,true,true,true,true,true,true,true,true,true,true]) qP rfl (fun J hJ hE=>?_) (by kernel_rfl) (fun p=>?_)
   ·
    have s2047:∀(v v2:Value),J 1 [true,true,true,true,true,true,true,true,true,true,true,false] (fC [true,true,true,true,true,true,true,true,true,true,true,false] (mA y z.1 l v v2)++lO b2 y L.1 q1 l a1) [.obj y 107 (.agg (.pair (.at aw (a0,.map (some m))) (.eq z.1))),.sl v2 23 .val (eu z.2 0 q2++[v]),.sl v 3 (.int .i64) l2]:=fun v v2=>by
     subst hJ
     refine JD.step [11] (by kernel_rfl) rfl ?_
     refine cM.cons rfl ?_ ?_
     ·
      refine bH 1 rfl ?_
      refine fA fun hv=>?_
      refine bH 1 rfl ?_
      refine bh rfl rfl (bb rfl oe hv rfl rfl) ⟨rfl,rfl,trivial⟩ ?_
      exact aG (hE (v,v2)) [0,1,2] ⟨rfl,rfl,rfl,rfl,rfl,rfl,rfl,trivial⟩
     exact trivial
    have s1023:∀(v v2:Value),J 2 [true,true,true,true,true,true,true,true,true,true,false,false] (fC [true,true,true,true,true,true,true,true,true,true,false,false] (mA y z.1 l v v2)++lO b2 y L.1 q1 l a1) [.obj y 107 (.agg (.pair (.at aw (a0,.map (some m))) (.eq z.1))),.sl v2 23 .val (eu z.2 0 q2++[v]),.sl v 3 (.int .i64) l2]:=fun v v2=>by
     subst hJ
     refine JD.step [10] (by kernel_rfl) rfl ?_
     refine cM.cons rfl ?_ ?_
     ·
      refine aE rfl (ar rfl uc) ⟨rfl,trivial⟩ ?_
      exact aG (s2047 v v2) [0,1,2] ⟨rfl,rfl,rfl,rfl,rfl,rfl,rfl,rfl,rfl,rfl,rfl,rfl,rfl,rfl,rfl,rfl,rfl,rfl,trivial⟩
     exact trivial
    have s511:∀(v v2:Value),J 3 [true,true,true,true,true,true,true,true,true,false,false,false] (fC [true,true,true,true,true,true,true,true,true,false,false,false] (mA y z.1 l v v2)++lO b2 y L.1 q1 l a1) [.obj y 107 (.agg (.pair (.at aw (a0,.map (some m))) (.eq z.1))),.sl v2 23 .val (eu z.2 0 q2++[v]),.sl v 3 (.int .i64) l2]:=fun v v2=>by
     subst hJ
     refine JD.step [9] (by kernel_rfl) rfl ?_
     refine cM.cons rfl ?_ ?_
     ·
      refine aE rfl (a9 rfl) ⟨rfl,trivial⟩ ?_
      exact aG (s1023 v v2) [0,1,2] ⟨rfl,rfl,rfl,rfl,rfl,rfl,rfl,rfl,rfl,rfl,rfl,rfl,rfl,rfl,rfl,rfl,rfl,trivial⟩
     exact trivial
    have s255:∀(v:Value),J 4 [true,true,true,true,true,true,true,true,false,false,false,false] (fC [true,true,true,true,true,true,true,true,false,false,false,false] (mA y z.1 l v undef)++lO b2 y L.1 q1 l a1) [.obj y 107 (.agg (.pair (.at aw (a0,.map (some m))) (.eq z.1))),.sl z.1 23 .val (eu z.2 0 q2),.sl v 3 (.int .i64) l2]:=fun v=>by
     subst hJ
     refine JD.step [8] (by kernel_rfl) rfl ?_
     refine cM.cons rfl ?_ ?_
     ·
      refine bH 1 rfl ?_
      refine cU rfl rfl rfl (bD rfl rfl og (by simpa [gI] using hk)) ⟨rfl,rfl,trivial⟩ fun v2=>?_
      exact aG (s511 v v2) [1,0,2] ⟨rfl,rfl,rfl,rfl,rfl,rfl,rfl,rfl,rfl,rfl,rfl,rfl,rfl,rfl,rfl,rfl,trivial⟩
     exact trivial
    have s510:∀(v v2:Value),J 4 [false,true,true,true,true,true,true,true,true,false,false,false] (fC [false,true,true,true,true,true,true,true,true,false,false,false] (mA y z.1 l v v2)++lO b2 y L.1 q1 l a1) [.obj y 107 (.agg (.pair (.at aw (a0,.map (some m))) (.eq z.1))),.sl v2 23 .val (eu z.2 0 q2++[v]),.sl v 3 (.int .i64) l2]:=fun v v2=>by
     subst hJ
     refine JD.step [0] (by kernel_rfl) rfl ?_
     refine cM.cons rfl ?_ ?_
     ·
      refine aA rfl rfl ?_
      exact aG (s511 v v2) [0,1,2] ⟨rfl,rfl,rfl,rfl,rfl,rfl,rfl,rfl,rfl,rfl,rfl,rfl,rfl,rfl,rfl,rfl,trivial⟩
     exact trivial
    have s127:∀(v:Value),J 5 [true,true,true,true,true,true,true,false,false,false,false,false] (fC [true,true,true,true,true,true,true,false,false,false,false,false] (mA y z.1 l v undef)++lO b2 y L.1 q1 l a1) [.obj y 107 (.agg (.pair (.at aw (a0,.map (some m))) (.eq z.1))),.sl z.1 23 .val (eu z.2 0 q2),.sl v 3 (.int .i64) l2]:=fun v=>by
     subst hJ
     refine JD.step [7] (by kernel_rfl) rfl ?_
     refine cM.cons rfl ?_ ?_
     ·
      refine bH 2 rfl ?_
      refine fA fun hv=>?_
      refine aE rfl (bj (t:=.val) [(.tmp 45,.eq v)] [v] rfl rfl og (.cons hv (.val hv) .nil) rfl rfl) ⟨rfl,trivial⟩ ?_
      exact aG (s255 v) [1,2,0] ⟨rfl,rfl,rfl,rfl,rfl,rfl,rfl,rfl,rfl,rfl,rfl,rfl,rfl,rfl,rfl,trivial⟩
     exact trivial
    have s239:∀(v:Value),J 5 [true,true,true,true,false,true,true,true,false,false,false,false] (fC [true,true,true,true,false,true,true,true,false,false,false,false] (mA y z.1 l v undef)++lO b2 y L.1 q1 l a1) [.obj y 107 (.agg (.pair (.at aw (a0,.map (some m))) (.eq z.1))),.sl z.1 23 .val (eu z.2 0 q2),.sl v 3 (.int .i64) l2]:=fun v=>by
     subst hJ
     refine JD.step [4] (by kernel_rfl) rfl ?_
     refine cM.cons rfl ?_ ?_
     ·
      refine bV rfl rfl rfl (aj rfl oe i9 rfl) ⟨rfl,trivial⟩ ?_
      exact aG (s255 v) [0,1,2] ⟨rfl,rfl,rfl,rfl,rfl,rfl,rfl,rfl,rfl,rfl,rfl,rfl,rfl,rfl,rfl,trivial⟩
     exact trivial
    have s254:∀(v:Value),J 5 [false,true,true,true,true,true,true,true,false,false,false,false] (fC [false,true,true,true,true,true,true,true,false,false,false,false] (mA y z.1 l v undef)++lO b2 y L.1 q1 l a1) [.obj y 107 (.agg (.pair (.at aw (a0,.map (some m))) (.eq z.1))),.sl z.1 23 .val (eu z.2 0 q2),.sl v 3 (.int .i64) l2]:=fun v=>by
     subst hJ
     refine JD.step [0,8] (by kernel_rfl) rfl ?_
     refine cM.cons rfl ?_ ?_
     ·
      refine aA rfl rfl ?_
      exact aG (s255 v) [0,1,2] ⟨rfl,rfl,rfl,rfl,rfl,rfl,rfl,rfl,rfl,rfl,rfl,rfl,rfl,rfl,rfl,trivial⟩
     refine cM.cons rfl ?_ ?_
     ·
      refine bH 1 rfl ?_
      refine cU rfl rfl rfl (bD rfl rfl og (by simpa [gI] using hk)) ⟨rfl,rfl,trivial⟩ fun v2=>?_
      exact aG (s510 v v2) [1,0,2] ⟨rfl,rfl,rfl,rfl,rfl,rfl,rfl,rfl,rfl,rfl,rfl,rfl,rfl,rfl,rfl,trivial⟩
     exact trivial
    have s63:J 6 [true,true,true,true,true,true,false,false,false,false,false,false] (fC [true,true,true,true,true,true,false,false,false,false,false,false] (mA y z.1 l undef undef)++lO b2 y L.1 q1 l a1) [.obj y 107 (.agg (.pair (.at aw (a0,.map (some m))) (.eq z.1))),.sl z.1 23 .val (eu z.2 0 q2)]:=by
     subst hJ
     refine JD.step [6] (by kernel_rfl) rfl ?_
     refine cM.cons rfl ?_ ?_
     ·
      refine aF rfl rfl rfl (ap [.tmp 44] rfl rfl qw rfl cc) ⟨rfl,trivial⟩ fun v=>?_
      exact aG (s127 v) [1,2,0] ⟨rfl,rfl,rfl,rfl,rfl,rfl,rfl,rfl,rfl,rfl,rfl,rfl,rfl,rfl,trivial⟩
     exact trivial
    have s111:∀(v:Value),J 6 [true,true,true,true,false,true,true,false,false,false,false,false] (fC [true,true,true,true,false,true,true,false,false,false,false,false] (mA y z.1 l v undef)++lO b2 y L.1 q1 l a1) [.obj y 107 (.agg (.pair (.at aw (a0,.map (some m))) (.eq z.1))),.sl z.1 23 .val (eu z.2 0 q2),.sl v 3 (.int .i64) l2]:=fun v=>by
     subst hJ
     refine JD.step [4,7] (by kernel_rfl) rfl ?_
     refine cM.cons rfl ?_ ?_
     ·
      refine bV rfl rfl rfl (aj rfl oe i9 rfl) ⟨rfl,trivial⟩ ?_
      exact aG (s127 v) [0,1,2] ⟨rfl,rfl,rfl,rfl,rfl,rfl,rfl,rfl,rfl,rfl,rfl,rfl,rfl,rfl,trivial⟩
     refine cM.cons rfl ?_ ?_
     ·
      refine bH 2 rfl ?_
      refine fA fun hv=>?_
      refine aE rfl (bj (t:=.val) [(.tmp 45,.eq v)] [v] rfl rfl og (.cons hv (.val hv) .nil) rfl rfl) ⟨rfl,trivial⟩ ?_
      exact aG (s239 v) [1,2,0] ⟨rfl,rfl,rfl,rfl,rfl,rfl,rfl,rfl,rfl,rfl,rfl,rfl,rfl,rfl,trivial⟩
     exact trivial
    have s126:∀(v:Value),J 6 [false,true,true,true,true,true,true,false,false,false,false,false] (fC [false,true,true,true,true,true,true,false,false,false,false,false] (mA y z.1 l v undef)++lO b2 y L.1 q1 l a1) [.obj y 107 (.agg (.pair (.at aw (a0,.map (some m))) (.eq z.1))),.sl z.1 23 .val (eu z.2 0 q2),.sl v 3 (.int .i64) l2]:=fun v=>by
     subst hJ
     refine JD.step [0,7] (by kernel_rfl) rfl ?_
     refine cM.cons rfl ?_ ?_
     ·
      refine aA rfl rfl ?_
      exact aG (s127 v) [0,1,2] ⟨rfl,rfl,rfl,rfl,rfl,rfl,rfl,rfl,rfl,rfl,rfl,rfl,rfl,rfl,trivial⟩
     refine cM.cons rfl ?_ ?_
     ·
      refine bH 2 rfl ?_
      refine fA fun hv=>?_
      refine aE rfl (bj (t:=.val) [(.tmp 45,.eq v)] [v] rfl rfl og (.cons hv (.val hv) .nil) rfl rfl) ⟨rfl,trivial⟩ ?_
      exact aG (s254 v) [1,2,0] ⟨rfl,rfl,rfl,rfl,rfl,rfl,rfl,rfl,rfl,rfl,rfl,rfl,rfl,rfl,trivial⟩
     exact trivial
    have s231:∀(v:Value),J 6 [true,true,true,false,false,true,true,true,false,false,false,false] (fC [true,true,true,false,false,true,true,true,false,false,false,false] (mA y z.1 l v undef)++lO b2 y L.1 q1 l a1) [.obj y 107 (.agg (.pair (.at aw (a0,.map (some m))) (.eq z.1))),.sl z.1 23 .val (eu z.2 0 q2),.sl v 3 (.int .i64) l2]:=fun v=>by
     subst hJ
     refine JD.step [3] (by kernel_rfl) rfl ?_
     refine cM.cons rfl ?_ ?_
     ·
      refine aE rfl (ar rfl uc) ⟨rfl,trivial⟩ ?_
      exact aG (s239 v) [0,1,2] ⟨rfl,rfl,rfl,rfl,rfl,rfl,rfl,rfl,rfl,rfl,rfl,rfl,rfl,rfl,trivial⟩
     exact trivial
    have s238:∀(v:Value),J 6 [false,true,true,true,false,true,true,true,false,false,false,false] (fC [false,true,true,true,false,true,true,true,false,false,false,false] (mA y z.1 l v undef)++lO b2 y L.1 q1 l a1) [.obj y 107 (.agg (.pair (.at aw (a0,.map (some m))) (.eq z.1))),.sl z.1 23 .val (eu z.2 0 q2),.sl v 3 (.int .i64) l2]:=fun v=>by
     subst hJ
     refine JD.step [0,4] (by kernel_rfl) rfl ?_
     refine cM.cons rfl ?_ ?_
     ·
      refine aA rfl rfl ?_
      exact aG (s239 v) [0,1,2] ⟨rfl,rfl,rfl,rfl,rfl,rfl,rfl,rfl,rfl,rfl,rfl,rfl,rfl,rfl,trivial⟩
     refine cM.cons rfl ?_ ?_
     ·
      refine bV rfl rfl rfl (aj rfl oe i9 rfl) ⟨rfl,trivial⟩ ?_
      exact aG (s254 v) [0,1,2] ⟨rfl,rfl,rfl,rfl,rfl,rfl,rfl,rfl,rfl,rfl,rfl,rfl,rfl,rfl,trivial⟩
     exact trivial
    have s31:J 7 [true,true,true,true,true,false,false,false,false,false,false,false] (fC [true,true,true,true,true,false,false,false,false,false,false,false] (mA y z.1 l undef undef)++lO b2 y L.1 q1 l a1) [.obj y 107 (.agg (.pair (.at aw (a0,.map (some m))) (.eq z.1))),.sl z.1 23 .val (eu z.2 0 q2)]:=by
     subst hJ
     refine JD.step [5] (by kernel_rfl) rfl ?_
     refine cM.cons rfl ?_ ?_
     ·
      refine aA rfl rfl ?_
      exact aG (s63) [0,1] ⟨rfl,rfl,rfl,rfl,rfl,rfl,rfl,rfl,rfl,rfl,rfl,rfl,rfl,trivial⟩
     exact trivial
    have s47:J 7 [true,true,true,true,false,true,false,false,false,false,false,false] (fC [true,true,true,true,false,true,false,false,false,false,false,false] (mA y z.1 l undef undef)++lO b2 y L.1 q1 l a1) [.obj y 107 (.agg (.pair (.at aw (a0,.map (some m))) (.eq z.1))),.sl z.1 23 .val (eu z.2 0 q2)]:=by
     subst hJ
     refine JD.step [4,6] (by kernel_rfl) rfl ?_
     refine cM.cons rfl ?_ ?_
     ·
      refine bV rfl rfl rfl (aj rfl oe i9 rfl) ⟨rfl,trivial⟩ ?_
      exact aG (s63) [0,1] ⟨rfl,rfl,rfl,rfl,rfl,rfl,rfl,rfl,rfl,rfl,rfl,rfl,rfl,trivial⟩
     refine cM.cons rfl ?_ ?_
     ·
      refine aF rfl rfl rfl (ap [.tmp 44] rfl rfl qw rfl cc) ⟨rfl,trivial⟩ fun v=>?_
      exact aG (s111 v) [1,2,0] ⟨rfl,rfl,rfl,rfl,rfl,rfl,rfl,rfl,rfl,rfl,rfl,rfl,rfl,trivial⟩
     exact trivial
    have s62:J 7 [false,true,true,true,true,true,false,false,false,false,false,false] (fC [false,true,true,true,true,true,false,false,false,false,false,false] (mA y z.1 l undef undef)++lO b2 y L.1 q1 l a1) [.obj y 107 (.agg (.pair (.at aw (a0,.map (some m))) (.eq z.1))),.sl z.1 23 .val (eu z.2 0 q2)]:=by
     subst hJ
     refine JD.step [0,6] (by kernel_rfl) rfl ?_
     refine cM.cons rfl ?_ ?_
     ·
      refine aA rfl rfl ?_
      exact aG (s63) [0,1] ⟨rfl,rfl,rfl,rfl,rfl,rfl,rfl,rfl,rfl,rfl,rfl,rfl,rfl,trivial⟩
     refine cM.cons rfl ?_ ?_
     ·
      refine aF rfl rfl rfl (ap [.tmp 44] rfl rfl qw rfl cc) ⟨rfl,trivial⟩ fun v=>?_
      exact aG (s126 v) [1,2,0] ⟨rfl,rfl,rfl,rfl,rfl,rfl,rfl,rfl,rfl,rfl,rfl,rfl,rfl,trivial⟩
     exact trivial
    have s103:∀(v:Value),J 7 [true,true,true,false,false,true,true,false,false,false,false,false] (fC [true,true,true,false,false,true,true,false,false,false,false,false] (mA y z.1 l v undef)++lO b2 y L.1 q1 l a1) [.obj y 107 (.agg (.pair (.at aw (a0,.map (some m))) (.eq z.1))),.sl z.1 23 .val (eu z.2 0 q2),.sl v 3 (.int .i64) l2]:=fun v=>by
     subst hJ
     refine JD.step [3,7] (by kernel_rfl) rfl ?_
     refine cM.cons rfl ?_ ?_
     ·
      refine aE rfl (ar rfl uc) ⟨rfl,trivial⟩ ?_
      exact aG (s111 v) [0,1,2] ⟨rfl,rfl,rfl,rfl,rfl,rfl,rfl,rfl,rfl,rfl,rfl,rfl,rfl,trivial⟩
     refine cM.cons rfl ?_ ?_
     ·
      refine bH 2 rfl ?_
      refine fA fun hv=>?_
      refine aE rfl (bj (t:=.val) [(.tmp 45,.eq v)] [v] rfl rfl og (.cons hv (.val hv) .nil) rfl rfl) ⟨rfl,trivial⟩ ?_
      exact aG (s231 v) [1,2,0] ⟨rfl,rfl,rfl,rfl,rfl,rfl,rfl,rfl,rfl,rfl,rfl,rfl,rfl,trivial⟩
     exact trivial
    have s110:∀(v:Value),J 7 [false,true,true,true,false,true,true,false,false,false,false,false] (fC [false,true,true,true,false,true,true,false,false,false,false,false] (mA y z.1 l v undef)++lO b2 y L.1 q1 l a1) [.obj y 107 (.agg (.pair (.at aw (a0,.map (some m))) (.eq z.1))),.sl z.1 23 .val (eu z.2 0 q2),.sl v 3 (.int .i64) l2]:=fun v=>by
     subst hJ
     refine JD.step [0,4,7] (by kernel_rfl) rfl ?_
     refine cM.cons rfl ?_ ?_
     ·
      refine aA rfl rfl ?_
      exact aG (s111 v) [0,1,2] ⟨rfl,rfl,rfl,rfl,rfl,rfl,rfl,rfl,rfl,rfl,rfl,rfl,rfl,trivial⟩
     refine cM.cons rfl ?_ ?_
     ·
      refine bV rfl rfl rfl (aj rfl oe i9 rfl) ⟨rfl,trivial⟩ ?_
      exact aG (s126 v) [0,1,2] ⟨rfl,rfl,rfl,rfl,rfl,rfl,rfl,rfl,rfl,rfl,rfl,rfl,rfl,trivial⟩
     refine cM.cons rfl ?_ ?_
     ·
      refine bH 2 rfl ?_
      refine fA fun hv=>?_
      refine aE rfl (bj (t:=.val) [(.tmp 45,.eq v)] [v] rfl rfl og (.cons hv (.val hv) .nil) rfl rfl) ⟨rfl,trivial⟩ ?_
      exact aG (s238 v) [1,2,0] ⟨rfl,rfl,rfl,rfl,rfl,rfl,rfl,rfl,rfl,rfl,rfl,rfl,rfl,trivial⟩
     exact trivial
    have s227:∀(v:Value),J 7 [true,true,false,false,false,true,true,true,false,false,false,false] (fC [true,true,false,false,false,true,true,true,false,false,false,false] (mA y z.1 l v undef)++lO b2 y L.1 q1 l a1) [.obj y 107 (.agg (.pair (.at aw (a0,.map (some m))) (.eq z.1))),.sl z.1 23 .val (eu z.2 0 q2),.sl v 3 (.int .i64) l2]:=fun v=>by
     subst hJ
     refine JD.step [2] (by kernel_rfl) rfl ?_
     refine cM.cons rfl ?_ ?_
     ·
      refine aE rfl (a9 rfl) ⟨rfl,trivial⟩ ?_
      exact aG (s231 v) [0,1,2] ⟨rfl,rfl,rfl,rfl,rfl,rfl,rfl,rfl,rfl,rfl,rfl,rfl,rfl,trivial⟩
     exact trivial
    have s230:∀(v:Value),J 7 [false,true,true,false,false,true,true,true,false,false,false,false] (fC [false,true,true,false,false,true,true,true,false,false,false,false] (mA y z.1 l v undef)++lO b2 y L.1 q1 l a1) [.obj y 107 (.agg (.pair (.at aw (a0,.map (some m))) (.eq z.1))),.sl z.1 23 .val (eu z.2 0 q2),.sl v 3 (.int .i64) l2]:=fun v=>by
     subst hJ
     refine JD.step [0,3] (by kernel_rfl) rfl ?_
     refine cM.cons rfl ?_ ?_
     ·
      refine aA rfl rfl ?_
      exact aG (s231 v) [0,1,2] ⟨rfl,rfl,rfl,rfl,rfl,rfl,rfl,rfl,rfl,rfl,rfl,rfl,rfl,trivial⟩
     refine cM.cons rfl ?_ ?_
     ·
      refine aE rfl (ar rfl uc) ⟨rfl,trivial⟩ ?_
      exact aG (s238 v) [0,1,2] ⟨rfl,rfl,rfl,rfl,rfl,rfl,rfl,rfl,rfl,rfl,rfl,rfl,rfl,trivial⟩
     exact trivial
    have s15:J 8 [true,true,true,true,false,false,false,false,false,false,false,false] (fC [true,true,true,true,false,false,false,false,false,false,false,false] (mA y z.1 l undef undef)++lO b2 y L.1 q1 l a1) [.obj y 107 (.agg (.pair (.at aw (a0,.map (some m))) (.eq z.1))),.sl z.1 23 .val (eu z.2 0 q2)]:=by
     subst hJ
     refine JD.step [4,5] (by kernel_rfl) rfl ?_
     refine cM.cons rfl ?_ ?_
     ·
      refine bV rfl rfl rfl (aj rfl oe i9 rfl) ⟨rfl,trivial⟩ ?_
      exact aG (s31) [0,1] ⟨rfl,rfl,rfl,rfl,rfl,rfl,rfl,rfl,rfl,rfl,rfl,rfl,trivial⟩
     refine cM.cons rfl ?_ ?_
     ·
      refine aA rfl rfl ?_
      exact aG (s47) [0,1] ⟨rfl,rfl,rfl,rfl,rfl,rfl,rfl,rfl,rfl,rfl,rfl,rfl,trivial⟩
     exact trivial
    have s30:J 8 [false,true,true,true,true,false,false,false,false,false,false,false] (fC [false,true,true,true,true,false,false,false,false,false,false,false] (mA y z.1 l undef undef)++lO b2 y L.1 q1 l a1) [.obj y 107 (.agg (.pair (.at aw (a0,.map (some m))) (.eq z.1))),.sl z.1 23 .val (eu z.2 0 q2)]:=by
     subst hJ
     refine JD.step [0,5] (by kernel_rfl) rfl ?_
     refine cM.cons rfl ?_ ?_
     ·
      refine aA rfl rfl ?_
      exact aG (s31) [0,1] ⟨rfl,rfl,rfl,rfl,rfl,rfl,rfl,rfl,rfl,rfl,rfl,rfl,trivial⟩
     refine cM.cons rfl ?_ ?_
     ·
      refine aA rfl rfl ?_
      exact aG (s62) [0,1] ⟨rfl,rfl,rfl,rfl,rfl,rfl,rfl,rfl,rfl,rfl,rfl,rfl,trivial⟩
     exact trivial
    have s39:J 8 [true,true,true,false,false,true,false,false,false,false,false,false] (fC [true,true,true,false,false,true,false,false,false,false,false,false] (mA y z.1 l undef undef)++lO b2 y L.1 q1 l a1) [.obj y 107 (.agg (.pair (.at aw (a0,.map (some m))) (.eq z.1))),.sl z.1 23 .val (eu z.2 0 q2)]:=by
     subst hJ
     refine JD.step [3,6] (by kernel_rfl) rfl ?_
     refine cM.cons rfl ?_ ?_
     ·
      refine aE rfl (ar rfl uc) ⟨rfl,trivial⟩ ?_
      exact aG (s47) [0,1] ⟨rfl,rfl,rfl,rfl,rfl,rfl,rfl,rfl,rfl,rfl,rfl,rfl,trivial⟩
     refine cM.cons rfl ?_ ?_
     ·
      refine aF rfl rfl rfl (ap [.tmp 44] rfl rfl qw rfl cc) ⟨rfl,trivial⟩ fun v=>?_
      exact aG (s103 v) [1,2,0] ⟨rfl,rfl,rfl,rfl,rfl,rfl,rfl,rfl,rfl,rfl,rfl,rfl,trivial⟩
     exact trivial
    have s46:J 8 [false,true,true,true,false,true,false,false,false,false,false,false] (fC [false,true,true,true,false,true,false,false,false,false,false,false] (mA y z.1 l undef undef)++lO b2 y L.1 q1 l a1) [.obj y 107 (.agg (.pair (.at aw (a0,.map (some m))) (.eq z.1))),.sl z.1 23 .val (eu z.2 0 q2)]:=by
     subst hJ
     refine JD.step [0,4,6] (by kernel_rfl) rfl ?_
     refine cM.cons rfl ?_ ?_
     ·
      refine aA rfl rfl ?_
      exact aG (s47) [0,1] ⟨rfl,rfl,rfl,rfl,rfl,rfl,rfl,rfl,rfl,rfl,rfl,rfl,trivial⟩
     refine cM.cons rfl ?_ ?_
     ·
      refine bV rfl rfl rfl (aj rfl oe i9 rfl) ⟨rfl,trivial⟩ ?_
      exact aG (s62) [0,1] ⟨rfl,rfl,rfl,rfl,rfl,rfl,rfl,rfl,rfl,rfl,rfl,rfl,trivial⟩
     refine cM.cons rfl ?_ ?_
     ·
      refine aF rfl rfl rfl (ap [.tmp 44] rfl rfl qw rfl cc) ⟨rfl,trivial⟩ fun v=>?_
      exact aG (s110 v) [1,2,0] ⟨rfl,rfl,rfl,rfl,rfl,rfl,rfl,rfl,rfl,rfl,rfl,rfl,trivial⟩
     exact trivial
    have s99:∀(v:Value),J 8 [true,true,false,false,false,true,true,false,false,false,false,false] (fC [true,true,false,false,false,true,true,false,false,false,false,false] (mA y z.1 l v undef)++lO b2 y L.1 q1 l a1) [.obj y 107 (.agg (.pair (.at aw (a0,.map (some m))) (.eq z.1))),.sl z.1 23 .val (eu z.2 0 q2),.sl v 3 (.int .i64) l2]:=fun v=>by
     subst hJ
     refine JD.step [2,7] (by kernel_rfl) rfl ?_
     refine cM.cons rfl ?_ ?_
     ·
      refine aE rfl (a9 rfl) ⟨rfl,trivial⟩ ?_
      exact aG (s103 v) [0,1,2] ⟨rfl,rfl,rfl,rfl,rfl,rfl,rfl,rfl,rfl,rfl,rfl,rfl,trivial⟩
     refine cM.cons rfl ?_ ?_
     ·
      refine bH 2 rfl ?_
      refine fA fun hv=>?_
      refine aE rfl (bj (t:=.val) [(.tmp 45,.eq v)] [v] rfl rfl og (.cons hv (.val hv) .nil) rfl rfl) ⟨rfl,trivial⟩ ?_
      exact aG (s227 v) [1,2,0] ⟨rfl,rfl,rfl,rfl,rfl,rfl,rfl,rfl,rfl,rfl,rfl,rfl,trivial⟩
     exact trivial
    have s102:∀(v:Value),J 8 [false,true,true,false,false,true,true,false,false,false,false,false] (fC [false,true,true,false,false,true,true,false,false,false,false,false] (mA y z.1 l v undef)++lO b2 y L.1 q1 l a1) [.obj y 107 (.agg (.pair (.at aw (a0,.map (some m))) (.eq z.1))),.sl z.1 23 .val (eu z.2 0 q2),.sl v 3 (.int .i64) l2]:=fun v=>by
     subst hJ
     refine JD.step [0,3,7] (by kernel_rfl) rfl ?_
     refine cM.cons rfl ?_ ?_
     ·
      refine aA rfl rfl ?_
      exact aG (s103 v) [0,1,2] ⟨rfl,rfl,rfl,rfl,rfl,rfl,rfl,rfl,rfl,rfl,rfl,rfl,trivial⟩
     refine cM.cons rfl ?_ ?_
     ·
      refine aE rfl (ar rfl uc) ⟨rfl,trivial⟩ ?_
      exact aG (s110 v) [0,1,2] ⟨rfl,rfl,rfl,rfl,rfl,rfl,rfl,rfl,rfl,rfl,rfl,rfl,trivial⟩
     refine cM.cons rfl ?_ ?_
     ·
      refine bH 2 rfl ?_
      refine fA fun hv=>?_
      refine aE rfl (bj (t:=.val) [(.tmp 45,.eq v)] [v] rfl rfl og (.cons hv (.val hv) .nil) rfl rfl) ⟨rfl,trivial⟩ ?_
      exact aG (s230 v) [1,2,0] ⟨rfl,rfl,rfl,rfl,rfl,rfl,rfl,rfl,rfl,rfl,rfl,rfl,trivial⟩
     exact trivial
    have s225:∀(v:Value),J 8 [true,false,false,false,false,true,true,true,false,false,false,false] (fC [true,false,false,false,false,true,true,true,false,false,false,false] (mA y z.1 l v undef)++lO b2 y L.1 q1 l a1) [.obj y 107 (.agg (.pair (.at aw (a0,.map (some m))) (.eq z.1))),.sl z.1 23 .val (eu z.2 0 q2),.sl v 3 (.int .i64) l2]:=fun v=>by
     subst hJ
     refine JD.step [1] (by kernel_rfl) rfl ?_
     refine cM.cons rfl ?_ ?_
     ·
      refine aA rfl rfl ?_
      exact aG (s227 v) [0,1,2] ⟨rfl,rfl,rfl,rfl,rfl,rfl,rfl,rfl,rfl,rfl,rfl,rfl,trivial⟩
     exact trivial
    have s226:∀(v:Value),J 8 [false,true,false,false,false,true,true,true,false,false,false,false] (fC [false,true,false,false,false,true,true,true,false,false,false,false] (mA y z.1 l v undef)++lO b2 y L.1 q1 l a1) [.obj y 107 (.agg (.pair (.at aw (a0,.map (some m))) (.eq z.1))),.sl z.1 23 .val (eu z.2 0 q2),.sl v 3 (.int .i64) l2]:=fun v=>by
     subst hJ
     refine JD.step [0,2] (by kernel_rfl) rfl ?_
     refine cM.cons rfl ?_ ?_
     ·
      refine aA rfl rfl ?_
      exact aG (s227 v) [0,1,2] ⟨rfl,rfl,rfl,rfl,rfl,rfl,rfl,rfl,rfl,rfl,rfl,rfl,trivial⟩
     refine cM.cons rfl ?_ ?_
     ·
      refine aE rfl (a9 rfl) ⟨rfl,trivial⟩ ?_
      exact aG (s230 v) [0,1,2] ⟨rfl,rfl,rfl,rfl,rfl,rfl,rfl,rfl,rfl,rfl,rfl,rfl,trivial⟩
     exact trivial
    have s7:J 9 [true,true,true,false,false,false,false,false,false,false,false,false] (fC [true,true,true,false,false,false,false,false,false,false,false,false] (mA y z.1 l undef undef)++lO b2 y L.1 q1 l a1) [.obj y 107 (.agg (.pair (.at aw (a0,.map (some m))) (.eq z.1))),.sl z.1 23 .val (eu z.2 0 q2)]:=by
     subst hJ
     refine JD.step [3,5] (by kernel_rfl) rfl ?_
     refine cM.cons rfl ?_ ?_
     ·
      refine aE rfl (ar rfl uc) ⟨rfl,trivial⟩ ?_
      exact aG (s15) [0,1] ⟨rfl,rfl,rfl,rfl,rfl,rfl,rfl,rfl,rfl,rfl,rfl,trivial⟩
     refine cM.cons rfl ?_ ?_
     ·
      refine aA rfl rfl ?_
      exact aG (s39) [0,1] ⟨rfl,rfl,rfl,rfl,rfl,rfl,rfl,rfl,rfl,rfl,rfl,trivial⟩
     exact trivial
    have s14:J 9 [false,true,true,true,false,false,false,false,false,false,false,false] (fC [false,true,true,true,false,false,false,false,false,false,false,false] (mA y z.1 l undef undef)++lO b2 y L.1 q1 l a1) [.obj y 107 (.agg (.pair (.at aw (a0,.map (some m))) (.eq z.1))),.sl z.1 23 .val (eu z.2 0 q2)]:=by
     subst hJ
     refine JD.step [0,4,5] (by kernel_rfl) rfl ?_
     refine cM.cons rfl ?_ ?_
     ·
      refine aA rfl rfl ?_
      exact aG (s15) [0,1] ⟨rfl,rfl,rfl,rfl,rfl,rfl,rfl,rfl,rfl,rfl,rfl,trivial⟩
     refine cM.cons rfl ?_ ?_
     ·
      refine bV rfl rfl rfl (aj rfl oe i9 rfl) ⟨rfl,trivial⟩ ?_
      exact aG (s30) [0,1] ⟨rfl,rfl,rfl,rfl,rfl,rfl,rfl,rfl,rfl,rfl,rfl,trivial⟩
     refine cM.cons rfl ?_ ?_
     ·
      refine aA rfl rfl ?_
      exact aG (s46) [0,1] ⟨rfl,rfl,rfl,rfl,rfl,rfl,rfl,rfl,rfl,rfl,rfl,trivial⟩
     exact trivial
    have s35:J 9 [true,true,false,false,false,true,false,false,false,false,false,false] (fC [true,true,false,false,false,true,false,false,false,false,false,false] (mA y z.1 l undef undef)++lO b2 y L.1 q1 l a1) [.obj y 107 (.agg (.pair (.at aw (a0,.map (some m))) (.eq z.1))),.sl z.1 23 .val (eu z.2 0 q2)]:=by
     subst hJ
     refine JD.step [2,6] (by kernel_rfl) rfl ?_
     refine cM.cons rfl ?_ ?_
     ·
      refine aE rfl (a9 rfl) ⟨rfl,trivial⟩ ?_
      exact aG (s39) [0,1] ⟨rfl,rfl,rfl,rfl,rfl,rfl,rfl,rfl,rfl,rfl,rfl,trivial⟩
     refine cM.cons rfl ?_ ?_
     ·
      refine aF rfl rfl rfl (ap [.tmp 44] rfl rfl qw rfl cc) ⟨rfl,trivial⟩ fun v=>?_
      exact aG (s99 v) [1,2,0] ⟨rfl,rfl,rfl,rfl,rfl,rfl,rfl,rfl,rfl,rfl,rfl,trivial⟩
     exact trivial
    have s38:J 9 [false,true,true,false,false,true,false,false,false,false,false,false] (fC [false,true,true,false,false,true,false,false,false,false,false,false] (mA y z.1 l undef undef)++lO b2 y L.1 q1 l a1) [.obj y 107 (.agg (.pair (.at aw (a0,.map (some m))) (.eq z.1))),.sl z.1 23 .val (eu z.2 0 q2)]:=by
     subst hJ
     refine JD.step [0,3,6] (by kernel_rfl) rfl ?_
     refine cM.cons rfl ?_ ?_
     ·
      refine aA rfl rfl ?_
      exact aG (s39) [0,1] ⟨rfl,rfl,rfl,rfl,rfl,rfl,rfl,rfl,rfl,rfl,rfl,trivial⟩
     refine cM.cons rfl ?_ ?_
     ·
      refine aE rfl (ar rfl uc) ⟨rfl,trivial⟩ ?_
      exact aG (s46) [0,1] ⟨rfl,rfl,rfl,rfl,rfl,rfl,rfl,rfl,rfl,rfl,rfl,trivial⟩
     refine cM.cons rfl ?_ ?_
     ·
      refine aF rfl rfl rfl (ap [.tmp 44] rfl rfl qw rfl cc) ⟨rfl,trivial⟩ fun v=>?_
      exact aG (s102 v) [1,2,0] ⟨rfl,rfl,rfl,rfl,rfl,rfl,rfl,rfl,rfl,rfl,rfl,trivial⟩
     exact trivial
    have s97:∀(v:Value),J 9 [true,false,false,false,false,true,true,false,false,false,false,false] (fC [true,false,false,false,false,true,true,false,false,false,false,false] (mA y z.1 l v undef)++lO b2 y L.1 q1 l a1) [.obj y 107 (.agg (.pair (.at aw (a0,.map (some m))) (.eq z.1))),.sl z.1 23 .val (eu z.2 0 q2),.sl v 3 (.int .i64) l2]:=fun v=>by
     subst hJ
     refine JD.step [1,7] (by kernel_rfl) rfl ?_
     refine cM.cons rfl ?_ ?_
     ·
      refine aA rfl rfl ?_
      exact aG (s99 v) [0,1,2] ⟨rfl,rfl,rfl,rfl,rfl,rfl,rfl,rfl,rfl,rfl,rfl,trivial⟩
     refine cM.cons rfl ?_ ?_
     ·
      refine bH 2 rfl ?_
      refine fA fun hv=>?_
      refine aE rfl (bj (t:=.val) [(.tmp 45,.eq v)] [v] rfl rfl og (.cons hv (.val hv) .nil) rfl rfl) ⟨rfl,trivial⟩ ?_
      exact aG (s225 v) [1,2,0] ⟨rfl,rfl,rfl,rfl,rfl,rfl,rfl,rfl,rfl,rfl,rfl,trivial⟩
     exact trivial
    have s98:∀(v:Value),J 9 [false,true,false,false,false,true,true,false,false,false,false,false] (fC [false,true,false,false,false,true,true,false,false,false,false,false] (mA y z.1 l v undef)++lO b2 y L.1 q1 l a1) [.obj y 107 (.agg (.pair (.at aw (a0,.map (some m))) (.eq z.1))),.sl z.1 23 .val (eu z.2 0 q2),.sl v 3 (.int .i64) l2]:=fun v=>by
     subst hJ
     refine JD.step [0,2,7] (by kernel_rfl) rfl ?_
     refine cM.cons rfl ?_ ?_
     ·
      refine aA rfl rfl ?_
      exact aG (s99 v) [0,1,2] ⟨rfl,rfl,rfl,rfl,rfl,rfl,rfl,rfl,rfl,rfl,rfl,trivial⟩
     refine cM.cons rfl ?_ ?_
     ·
      refine aE rfl (a9 rfl) ⟨rfl,trivial⟩ ?_
      exact aG (s102 v) [0,1,2] ⟨rfl,rfl,rfl,rfl,rfl,rfl,rfl,rfl,rfl,rfl,rfl,trivial⟩
     refine cM.cons rfl ?_ ?_
     ·
      refine bH 2 rfl ?_
      refine fA fun hv=>?_
      refine aE rfl (bj (t:=.val) [(.tmp 45,.eq v)] [v] rfl rfl og (.cons hv (.val hv) .nil) rfl rfl) ⟨rfl,trivial⟩ ?_
      exact aG (s226 v) [1,2,0] ⟨rfl,rfl,rfl,rfl,rfl,rfl,rfl,rfl,rfl,rfl,rfl,trivial⟩
     exact trivial
    have s224:∀(v:Value),J 9 [false,false,false,false,false,true,true,true,false,false,false,false] (fC [false,false,false,false,false,true,true,true,false,false,false,false] (mA y z.1 l v undef)++lO b2 y L.1 q1 l a1) [.obj y 107 (.agg (.pair (.at aw (a0,.map (some m))) (.eq z.1))),.sl z.1 23 .val (eu z.2 0 q2),.sl v 3 (.int .i64) l2]:=fun v=>by
     subst hJ
     refine JD.step [0,1] (by kernel_rfl) rfl ?_
     refine cM.cons rfl ?_ ?_
     ·
      refine aA rfl rfl ?_
      exact aG (s225 v) [0,1,2] ⟨rfl,rfl,rfl,rfl,rfl,rfl,rfl,rfl,rfl,rfl,rfl,trivial⟩
     refine cM.cons rfl ?_ ?_
     ·
      refine aA rfl rfl ?_
      exact aG (s226 v) [0,1,2] ⟨rfl,rfl,rfl,rfl,rfl,rfl,rfl,rfl,rfl,rfl,rfl,trivial⟩
     exact trivial
    have s3:J 10 [true,true,false,false,false,false,false,false,false,false,false,false] (fC [true,true,false,false,false,false,false,false,false,false,false,false] (mA y z.1 l undef undef)++lO b2 y L.1 q1 l a1) [.obj y 107 (.agg (.pair (.at aw (a0,.map (some m))) (.eq z.1))),.sl z.1 23 .val (eu z.2 0 q2)]:=by
     subst hJ
     refine JD.step [2,5] (by kernel_rfl) rfl ?_
     refine cM.cons rfl ?_ ?_
     ·
      refine aE rfl (a9 rfl) ⟨rfl,trivial⟩ ?_
      exact aG (s7) [0,1] ⟨rfl,rfl,rfl,rfl,rfl,rfl,rfl,rfl,rfl,rfl,trivial⟩
     refine cM.cons rfl ?_ ?_
     ·
      refine aA rfl rfl ?_
      exact aG (s35) [0,1] ⟨rfl,rfl,rfl,rfl,rfl,rfl,rfl,rfl,rfl,rfl,trivial⟩
     exact trivial
    have s6:J 10 [false,true,true,false,false,false,false,false,false,false,false,false] (fC [false,true,true,false,false,false,false,false,false,false,false,false] (mA y z.1 l undef undef)++lO b2 y L.1 q1 l a1) [.obj y 107 (.agg (.pair (.at aw (a0,.map (some m))) (.eq z.1))),.sl z.1 23 .val (eu z.2 0 q2)]:=by
     subst hJ
     refine JD.step [0,3,5] (by kernel_rfl) rfl ?_
     refine cM.cons rfl ?_ ?_
     ·
      refine aA rfl rfl ?_
      exact aG (s7) [0,1] ⟨rfl,rfl,rfl,rfl,rfl,rfl,rfl,rfl,rfl,rfl,trivial⟩
     refine cM.cons rfl ?_ ?_
     ·
      refine aE rfl (ar rfl uc) ⟨rfl,trivial⟩ ?_
      exact aG (s14) [0,1] ⟨rfl,rfl,rfl,rfl,rfl,rfl,rfl,rfl,rfl,rfl,trivial⟩
     refine cM.cons rfl ?_ ?_
     ·
      refine aA rfl rfl ?_
      exact aG (s38) [0,1] ⟨rfl,rfl,rfl,rfl,rfl,rfl,rfl,rfl,rfl,rfl,trivial⟩
     exact trivial
    have s33:J 10 [true,false,false,false,false,true,false,false,false,false,false,false] (fC [true,false,false,false,false,true,false,false,false,false,false,false] (mA y z.1 l undef undef)++lO b2 y L.1 q1 l a1) [.obj y 107 (.agg (.pair (.at aw (a0,.map (some m))) (.eq z.1))),.sl z.1 23 .val (eu z.2 0 q2)]:=by
     subst hJ
     refine JD.step [1,6] (by kernel_rfl) rfl ?_
     refine cM.cons rfl ?_ ?_
     ·
      refine aA rfl rfl ?_
      exact aG (s35) [0,1] ⟨rfl,rfl,rfl,rfl,rfl,rfl,rfl,rfl,rfl,rfl,trivial⟩
     refine cM.cons rfl ?_ ?_
     ·
      refine aF rfl rfl rfl (ap [.tmp 44] rfl rfl qw rfl cc) ⟨rfl,trivial⟩ fun v=>?_
      exact aG (s97 v) [1,2,0] ⟨rfl,rfl,rfl,rfl,rfl,rfl,rfl,rfl,rfl,rfl,trivial⟩
     exact trivial
    have s34:J 10 [false,true,false,false,false,true,false,false,false,false,false,false] (fC [false,true,false,false,false,true,false,false,false,false,false,false] (mA y z.1 l undef undef)++lO b2 y L.1 q1 l a1) [.obj y 107 (.agg (.pair (.at aw (a0,.map (some m))) (.eq z.1))),.sl z.1 23 .val (eu z.2 0 q2)]:=by
     subst hJ
     refine JD.step [0,2,6] (by kernel_rfl) rfl ?_
     refine cM.cons rfl ?_ ?_
     ·
      refine aA rfl rfl ?_
      exact aG (s35) [0,1] ⟨rfl,rfl,rfl,rfl,rfl,rfl,rfl,rfl,rfl,rfl,trivial⟩
     refine cM.cons rfl ?_ ?_
     ·
      refine aE rfl (a9 rfl) ⟨rfl,trivial⟩ ?_
      exact aG (s38) [0,1] ⟨rfl,rfl,rfl,rfl,rfl,rfl,rfl,rfl,rfl,rfl,trivial⟩
     refine cM.cons rfl ?_ ?_
     ·
      refine aF rfl rfl rfl (ap [.tmp 44] rfl rfl qw rfl cc) ⟨rfl,trivial⟩ fun v=>?_
      exact aG (s98 v) [1,2,0] ⟨rfl,rfl,rfl,rfl,rfl,rfl,rfl,rfl,rfl,rfl,trivial⟩
     exact trivial
    have s96:∀(v:Value),J 10 [false,false,false,false,false,true,true,false,false,false,false,false] (fC [false,false,false,false,false,true,true,false,false,false,false,false] (mA y z.1 l v undef)++lO b2 y L.1 q1 l a1) [.obj y 107 (.agg (.pair (.at aw (a0,.map (some m))) (.eq z.1))),.sl z.1 23 .val (eu z.2 0 q2),.sl v 3 (.int .i64) l2]:=fun v=>by
     subst hJ
     refine JD.step [0,1,7] (by kernel_rfl) rfl ?_
     refine cM.cons rfl ?_ ?_
     ·
      refine aA rfl rfl ?_
      exact aG (s97 v) [0,1,2] ⟨rfl,rfl,rfl,rfl,rfl,rfl,rfl,rfl,rfl,rfl,trivial⟩
     refine cM.cons rfl ?_ ?_
     ·
      refine aA rfl rfl ?_
      exact aG (s98 v) [0,1,2] ⟨rfl,rfl,rfl,rfl,rfl,rfl,rfl,rfl,rfl,rfl,trivial⟩
     refine cM.cons rfl ?_ ?_
     ·
      refine bH 2 rfl ?_
      refine fA fun hv=>?_
      refine aE rfl (bj (t:=.val) [(.tmp 45,.eq v)] [v] rfl rfl og (.cons hv (.val hv) .nil) rfl rfl) ⟨rfl,trivial⟩ ?_
      exact aG (s224 v) [1,2,0] ⟨rfl,rfl,rfl,rfl,rfl,rfl,rfl,rfl,rfl,rfl,trivial⟩
     exact trivial
    have s1:J 11 [true,false,false,false,false,false,false,false,false,false,false,false] (fC [true,false,false,false,false,false,false,false,false,false,false,false] (mA y z.1 l undef undef)++lO b2 y L.1 q1 l a1) [.obj y 107 (.agg (.pair (.at aw (a0,.map (some m))) (.eq z.1))),.sl z.1 23 .val (eu z.2 0 q2)]:=by
     subst hJ
     refine JD.step [1,5] (by kernel_rfl) rfl ?_
     refine cM.cons rfl ?_ ?_
     ·
      refine aA rfl rfl ?_
      exact aG (s3) [0,1] ⟨rfl,rfl,rfl,rfl,rfl,rfl,rfl,rfl,rfl,trivial⟩
     refine cM.cons rfl ?_ ?_
     ·
      refine aA rfl rfl ?_
      exact aG (s33) [0,1] ⟨rfl,rfl,rfl,rfl,rfl,rfl,rfl,rfl,rfl,trivial⟩
     exact trivial
    have s2:J 11 [false,true,false,false,false,false,false,false,false,false,false,false] (fC [false,true,false,false,false,false,false,false,false,false,false,false] (mA y z.1 l undef undef)++lO b2 y L.1 q1 l a1) [.obj y 107 (.agg (.pair (.at aw (a0,.map (some m))) (.eq z.1))),.sl z.1 23 .val (eu z.2 0 q2)]:=by
     subst hJ
     refine JD.step [0,2,5] (by kernel_rfl) rfl ?_
     refine cM.cons rfl ?_ ?_
     ·
      refine aA rfl rfl ?_
      exact aG (s3) [0,1] ⟨rfl,rfl,rfl,rfl,rfl,rfl,rfl,rfl,rfl,trivial⟩
     refine cM.cons rfl ?_ ?_
     ·
      refine aE rfl (a9 rfl) ⟨rfl,trivial⟩ ?_
      exact aG (s6) [0,1] ⟨rfl,rfl,rfl,rfl,rfl,rfl,rfl,rfl,rfl,trivial⟩
     refine cM.cons rfl ?_ ?_
     ·
      refine aA rfl rfl ?_
      exact aG (s34) [0,1] ⟨rfl,rfl,rfl,rfl,rfl,rfl,rfl,rfl,rfl,trivial⟩
     exact trivial
    have s32:J 11 [false,false,false,false,false,true,false,false,false,false,false,false] (fC [false,false,false,false,false,true,false,false,false,false,false,false] (mA y z.1 l undef undef)++lO b2 y L.1 q1 l a1) [.obj y 107 (.agg (.pair (.at aw (a0,.map (some m))) (.eq z.1))),.sl z.1 23 .val (eu z.2 0 q2)]:=by
     subst hJ
     refine JD.step [0,1,6] (by kernel_rfl) rfl ?_
     refine cM.cons rfl ?_ ?_
     ·
      refine aA rfl rfl ?_
      exact aG (s33) [0,1] ⟨rfl,rfl,rfl,rfl,rfl,rfl,rfl,rfl,rfl,trivial⟩
     refine cM.cons rfl ?_ ?_
     ·
      refine aA rfl rfl ?_
      exact aG (s34) [0,1] ⟨rfl,rfl,rfl,rfl,rfl,rfl,rfl,rfl,rfl,trivial⟩
     refine cM.cons rfl ?_ ?_
     ·
      refine aF rfl rfl rfl (ap [.tmp 44] rfl rfl qw rfl cc) ⟨rfl,trivial⟩ fun v=>?_
      exact aG (s96 v) [1,2,0] ⟨rfl,rfl,rfl,rfl,rfl,rfl,rfl,rfl,rfl,trivial⟩
     exact trivial
    have s0:J 12 [false,false,false,false,false,false,false,false,false,false,false,false] (fC [false,false,false,false,false,false,false,false,false,false,false,false] (mA y z.1 l undef undef)++lO b2 y L.1 q1 l a1) [.obj y 107 (.agg (.pair (.at aw (a0,.map (some m))) (.eq z.1))),.sl z.1 23 .val (eu z.2 0 q2)]:=by
     subst hJ
     refine JD.step [0,1,5] (by kernel_rfl) rfl ?_
     refine cM.cons rfl ?_ ?_
     ·
      refine aA rfl rfl ?_
      exact aG (s1) [0,1] ⟨rfl,rfl,rfl,rfl,rfl,rfl,rfl,rfl,trivial⟩
     refine cM.cons rfl ?_ ?_
     ·
      refine aA rfl rfl ?_
      exact aG (s2) [0,1] ⟨rfl,rfl,rfl,rfl,rfl,rfl,rfl,rfl,trivial⟩
     refine cM.cons rfl ?_ ?_
     ·
      refine aA rfl rfl ?_
      exact aG (s32) [0,1] ⟨rfl,rfl,rfl,rfl,rfl,rfl,rfl,rfl,trivial⟩
     exact trivial
    exact s0
   ·
    exact fun a w st=>⟨rfl,p,st⟩
  ·
   subst hB
   refine aM ?_
   refine ae ?_
   refine bv (fE (Δ':=.sl p.1 3 (.int .i64) l2:: .sl p.2 23 .val (eu z.2 0 q2++[p.1])::([.obj y 107 (.agg (.pair (.at aw (a0,.map (some m))) (.eq p.2))),.inv m (bO k a0),.obj b2 25 (.rep av a0),.inv 0 iZ]++kJ z.2 0 q2)) ?_) ?_
   ·
    exact List.Perm.trans (List.Perm.swap _ _ _) (List.Perm.trans (List.Perm.cons _ (List.Perm.swap _ _ _)) (List.Perm.swap _ _ _))
   refine bv (xm (pre:=[.obj y 107 (.agg (.pair (.at aw (a0,.map (some m))) (.eq p.2))),.inv m (bO k a0),.obj b2 25 (.rep av a0),.inv 0 iZ])) ?_
   show JC _ _ _ _ _
   refine ab ?_
   obtain⟨w3,ew,h⟩:=aa h
   refine aE rfl (bf rfl ew) ⟨rfl,rfl,trivial⟩ ?_
   refine aA rfl rfl ?_
   refine au ?_
   refine ae ?_
   exact iP ((p.2,m8 z.2 q2.length p.1),(w3,q2++[l2])) h (bp [.obj y 107 (.agg (.pair (.at aw (a0,.map (some m))) (.eq p.2))),.inv m (bO k a0),.obj b2 25 (.rep av a0),.inv 0 iZ] (fD 23 (p.2,m8 z.2 q2.length p.1) (q2++[l2])) [0,1,2,3] ⟨rfl,rfl,rfl,rfl,rfl,rfl,trivial⟩ rfl)
 replace h:=bN (nw hb) h
 refine dH ?_
 refine aU ?_
 refine aU ?_
 refine bW ?_
 refine ae ?_
 show JC _ _ _ _ _
 replace h:((jB k a0 k (0,[],q.2)).bind fun p=>(lL k a0 p.1 p.2).bind fun b=>if(!b.2.2.1 || decide (L.1≤b.2.1))=true then some (0,0,0,11) else some (b.1.1,b.1.2,b.2.1,0)).bind some=some r:=h
 rw [Option.bind_assoc] at h
 generalize q.2=ls at h⊢
 refine ag ?_
 refine ab ?_
 refine dG rfl ?_
 refine cC (SE.nil 110 fo) ?_
 refine au ?_
 refine ae ?_
 show JC _ _ _ _ _
 refine dJ (bp (Γ':=[(2,.eq (bP b2)),(8,.eq (.int .i64 L.1)),(10,.eq (bP y)),(13,.eq (.slice none 0 0))]) (pre':=[.inv m (bO k a0),.obj b2 25 (.rep av a0),.inv 0 iZ,.sl (.slice none 0 0) 110 fo [],.obj y 107 (.agg (.pair (.at aw (a0,.map (some m))) (.eq z.1)))]) [.sl (.slice none 0 0) 110 fo [],.obj y 107 (.agg (.pair (.at aw (a0,.map (some m))) (.eq z.1))),.inv m (bO k a0),.obj b2 25 (.rep av a0),.inv 0 iZ] (fD 23 z ls) [2,3,4,0,1] ⟨rfl,rfl,rfl,rfl,trivial⟩ rfl) ?_
 refine ag ?_
 refine ag ?_
 refine ab ?_
 refine aE rfl (ar rfl LC) ⟨rfl,trivial⟩ ?_
 refine bH 1 rfl ?_
 refine bV rfl rfl rfl (aj rfl Ld i9 rfl) ⟨rfl,trivial⟩ ?_
 refine aE rfl (jE rfl rfl mL) ⟨rfl,trivial⟩ ?_
 refine fg rfl ?_
 refine au ?_
 refine ae ?_
 show JC _ _ _ _ _
 refine ao ?_
 refine aK (Z:=Value) (α:=Int×List (Int×Int)×List (List Int)) (fun c q=>[(2,.eq (bP b2)),(8,.eq (.int .i64 L.1)),(10,.eq (bP y)),(13,.eq c),(53,.eq (.int .i64 (a0.2.1.length:Int))),(54,.eq (.int .i64 q.1))]) (fun c q=>[.obj b2 25 (.rep av a0),.inv m (bO k a0),.inv 0 iZ,.sl c 110 fo q.2.1,.obj y 107 (.agg (.pair (.at aw (a0,.map (some m))) (.eq z.1)))]++fD 23 z q.2.2) (jB k a0) k (.slice none 0 0) (0,[],ls) (fun _=>rfl) h (bp [.obj b2 25 (.rep av a0),.inv m (bO k a0),.inv 0 iZ,.sl (.slice none 0 0) 110 fo [],.obj y 107 (.agg (.pair (.at aw (a0,.map (some m))) (.eq z.1)))] (fD 23 z ls) [0,1,2,3,4] ⟨rfl,rfl,rfl,rfl,rfl,rfl,trivial⟩ rfl) (fun n c q h=>?_)
 obtain⟨q1,qp,ql⟩:=q
 unfold jB at h
 refine ag ?_
 refine ab ?_
 refine aE rfl (bq rfl) ⟨rfl,rfl,trivial⟩ ?_
 refine au ?_
 refine ae ?_
 show JC _ _ _ _ _
 refine ag ?_
 refine bJ rfl (fun hb=>?_) (fun hb=>?_)
 ·
  replace h:=cE (ou hb) h
  obtain⟨w,ew,h⟩:=aa h
  rw [Option.bind_assoc] at h
  refine aX ?_
  refine ae ?_
  show JC _ _ _ _ _
  refine ag ?_
  refine ao ?_
  refine ag ?_
  refine ab ?_
  refine aA rfl rfl ?_
  refine di rfl rfl ?_
  refine au ?_
  refine ae ?_
  show JC _ _ _ _ _
  refine ag ?_
  refine ab ?_
  refine aA rfl rfl ?_
  refine aE rfl (bf rfl ew) ⟨rfl,rfl,trivial⟩ ?_
  refine di rfl rfl ?_
  refine au ?_
  refine ae ?_
  show JC _ _ _ _ _
  refine ao ?_
  refine aK (Z:=Value) (α:=Int×List (Int×Int)×List (List Int)) (fun c q=>[(2,.eq (bP b2)),(8,.eq (.int .i64 L.1)),(10,.eq (bP y)),(13,.eq c),(14,.eq (.int .i64 q1)),(15,.eq (.int .i64 q.1)),(53,.eq (.int .i64 (a0.2.1.length:Int))),(54,.eq (.int .i64 q1))]) (fun c q=>[.obj b2 25 (.rep av a0),.inv m (bO k a0),.inv 0 iZ,.sl c 110 fo q.2.1,.obj y 107 (.agg (.pair (.at aw (a0,.map (some m))) (.eq z.1)))]++fD 23 z q.2.2) (kM k a0 q1) k c (w,qp,ql) (fun _=>rfl) h (bp [.obj b2 25 (.rep av a0),.inv m (bO k a0),.inv 0 iZ,.sl c 110 fo qp,.obj y 107 (.agg (.pair (.at aw (a0,.map (some m))) (.eq z.1)))] (fD 23 z ql) [0,1,2,3,4] ⟨rfl,rfl,rfl,rfl,rfl,rfl,rfl,rfl,trivial⟩ rfl) (fun n3 c q h=>?_)
  obtain⟨j,rp,rl⟩:=q
  unfold kM at h
  refine ag ?_
  refine ag ?_
  refine ab ?_
  refine aA rfl rfl ?_
  refine aE rfl (ar rfl LC) ⟨rfl,trivial⟩ ?_
  refine bV rfl rfl rfl (aj rfl Ld i9 rfl) ⟨rfl,trivial⟩ ?_
  refine aE rfl (jE rfl rfl mL) ⟨rfl,trivial⟩ ?_
  refine aE rfl (bq rfl) ⟨rfl,rfl,trivial⟩ ?_
  refine au ?_
  refine ae ?_
  show JC _ _ _ _ _
  refine bJ rfl (fun hb=>?_) (fun hb=>?_)
  ·
   replace h:=cE (ou hb) h
   obtain⟨r1,Q,h⟩:=aa h
   have cv:=sG k a0 (q1,j) rl r1 y m z Q
   refine aX ?_
   refine ae ?_
   show JC _ _ _ _ _
   refine ag ?_
   refine ao ?_
   refine ag ?_
   refine ab ?_
   refine aA rfl rfl ?_
   refine aA rfl rfl ?_
   refine aE rfl (cH [(0,.tmp 66,_),(1,.tmp 67,_)] rfl LZ sB KP (g7 ⟨rfl,rfl,trivial⟩) rfl) ⟨rfl,rfl,trivial⟩ ?_
   refine aF rfl rfl rfl (be rfl sB vD) trivial fun e=>?_
   refine bh rfl rfl (bb rfl gK trivial rfl rfl) ⟨rfl,rfl,trivial⟩ ?_
   refine cC (nV (a':=.rep fo (q1,j)) Qy) ?_
   refine au ?_
   refine ae ?_
   show JC _ _ _ _ _
   refine ag ?_
   refine ab ?_
   refine aA rfl rfl ?_
   refine bV rfl rfl rfl (aj rfl gK (yD) rfl) ⟨rfl,trivial⟩ ?_
   refine cC (fE (Δ':=([.obj y 107 (.agg (.pair (.at aw (a0,.map (some m))) (.eq z.1)))]++fD 23 z rl)++[.obj e 110 (.rep fo (q1,j)),.obj b2 25 (.rep av a0),.inv m (bO k a0),.inv 0 iZ,.sl c 110 fo rp]) (List.perm_append_comm (l₁:=([.obj e 110 (.rep fo (q1,j)),.obj b2 25 (.rep av a0),.inv m (bO k a0),.inv 0 iZ,.sl c 110 fo rp]:List D)))) ?_
   refine bR (Δ:=_++_) (F:=[_,_,_,_,_]) (fun _ _ _=>ax rfl _) rfl rfl (ap [.tmp 69,.tmp 70] rfl rfl PH rfl cv) ⟨rfl,rfl,trivial⟩ fun _=>?_
   refine cC (fE (Δ':=[.obj e 110 (.rep fo (q1,j)),.obj b2 25 (.rep av a0),.inv m (bO k a0),.inv 0 iZ,.sl c 110 fo rp]++([.obj y 107 (.agg (.pair (.at aw (a0,.map (some m))) (.eq z.1)))]++fD 23 z r1.2)) List.perm_append_comm) ?_
   refine au ?_
   refine ae ?_
   show JC _ _ _ _ _
   refine bJ rfl (fun hb=>?_) (fun hb=>?_)
   ·
    replace h:=cE (D2 hb) h
    have hk:bL (rp.length+1):=by
     apply Classical.byContradiction
     intro hn
     rw [if_neg hn] at h
     cases h
    replace h:=cE hk h
    refine ab ?_
    refine aA rfl rfl ?_
    refine bV rfl rfl rfl (aj rfl gK (yD) rfl) ⟨rfl,trivial⟩ ?_
    refine aE rfl (bj (t:=fo) [(.tmp 73,_)] [(q1,j)] rfl rfl F3 (.cons rfl .rep .nil) rfl rfl) ⟨rfl,trivial⟩ ?_
    refine bH 4 rfl ?_
    refine cU rfl rfl rfl (bD rfl rfl F3 (by simpa using hk)) ⟨rfl,rfl,trivial⟩ fun v'=>?_
    refine di rfl rfl ?_
    refine au ?_
    refine aM ?_
    refine ae ?_
    show JC _ _ _ _ _
    refine ab ?_
    refine aA rfl rfl ?_
    obtain⟨w2,ew2,h⟩:=aa h
    refine aE rfl (bf rfl ew2) ⟨rfl,rfl,trivial⟩ ?_
    refine di rfl rfl ?_
    refine au ?_
    refine ae ?_
    exact iP (v',(w2,rp++[(q1,j)],r1.2)) h (bp [.sl v' 110 fo (rp++[(q1,j)]),.obj e 110 (.rep fo (q1,j)),.obj b2 25 (.rep av a0),.inv m (bO k a0),.inv 0 iZ,.obj y 107 (.agg (.pair (.at aw (a0,.map (some m))) (.eq z.1)))] (fD 23 z r1.2) [2,3,4,0,5] ⟨rfl,rfl,rfl,rfl,rfl,rfl,rfl,rfl,trivial⟩ rfl)
   ·
    replace h:=bN (D3 hb) h
    refine aX ?_
    refine aM ?_
    refine ae ?_
    show JC _ _ _ _ _
    refine ab ?_
    refine aA rfl rfl ?_
    obtain⟨w2,ew2,h⟩:=aa h
    refine aE rfl (bf rfl ew2) ⟨rfl,rfl,trivial⟩ ?_
    refine di rfl rfl ?_
    refine au ?_
    refine ae ?_
    exact iP (c,(w2,rp,r1.2)) h (bp [.obj e 110 (.rep fo (q1,j)),.obj b2 25 (.rep av a0),.inv m (bO k a0),.inv 0 iZ,.sl c 110 fo rp,.obj y 107 (.agg (.pair (.at aw (a0,.map (some m))) (.eq z.1)))] (fD 23 z r1.2) [1,2,3,4,5] ⟨rfl,rfl,rfl,rfl,rfl,rfl,rfl,rfl,trivial⟩ rfl)
  replace h:=bN (nw hb) h
  refine dH ?_
  refine aU ?_
  refine aU ?_
  refine bW ?_
  refine aM ?_
  refine ae ?_
  show JC _ _ _ _ _
  replace h:(jB k a0 n (w,rp,rl)).bind _=some r:=h
  refine ab ?_
  refine aE rfl (bf rfl ew) ⟨rfl,rfl,trivial⟩ ?_
  refine aA rfl rfl ?_
  refine au ?_
  refine ae ?_
  exact iP (c,(w,rp,rl)) h (bp [.obj b2 25 (.rep av a0),.inv m (bO k a0),.inv 0 iZ,.sl c 110 fo rp,.obj y 107 (.agg (.pair (.at aw (a0,.map (some m))) (.eq z.1)))] (fD 23 z rl) [0,1,2,3,4] ⟨rfl,rfl,rfl,rfl,rfl,rfl,trivial⟩ rfl)
 replace h:=bN (nw hb) h
 refine dH ?_
 refine aU ?_
 refine aU ?_
 refine bW ?_
 refine ae ?_
 show JC _ _ _ _ _
 replace h:((lL k a0 qp ql).bind fun b=>if(!b.2.2.1 || decide (L.1≤b.2.1))=true then some (0,0,0,11) else some (b.1.1,b.1.2,b.2.1,0)).bind some=some r:=h
 obtain⟨b,eb,h⟩:=aa h
 have cx:=vT k a0 qp ql b y m z eb
 refine ag ?_
 refine ab ?_
 refine aA rfl rfl ?_
 refine aE rfl (sU [.tmp 78] [] [bP y] [] rfl rfl rfl) ⟨rfl,trivial⟩ ?_
 refine bH 3 rfl ?_
 refine cC (eJ [13] ⟨rfl,trivial⟩) ?_
 refine aA rfl rfl ?_
 refine cC (bp (Γ':=[(8,.eq (.int .i64 L.1)),(79,.eq (.func (.func 70) #[bP y] #[])),(80,Rs fo qp)]) (pre':=[.inv 0 iZ,.obj b2 25 (.rep av a0),.inv m (bO k a0),.obj y 107 (.agg (.pair (.at aw (a0,.map (some m))) (.eq z.1)))]) [.obj b2 25 (.rep av a0),.inv m (bO k a0),.inv 0 iZ,.obj y 107 (.agg (.pair (.at aw (a0,.map (some m))) (.eq z.1)))] (fD 23 z ql) [2,0,1,3] ⟨rfl,rfl,rfl,trivial⟩ rfl) ?_
 refine cC (fE (Δ':=([.inv m (bO k a0),.obj y 107 (.agg (.pair (.at aw (a0,.map (some m))) (.eq z.1)))]++fD 23 z ql)++[.inv 0 iZ,.obj b2 25 (.rep av a0)]) (List.perm_append_comm (l₁:=([.inv 0 iZ,.obj b2 25 (.rep av a0)]:List D)))) ?_
 refine bR (Δ:=_++_) (F:=[_,_]) (fun _ _ _=>ax rfl _) rfl rfl (gV [.tmp 79,.tmp 80] rfl rfl PG rfl cx) ⟨rfl,rfl,trivial⟩ fun _=>?_
 refine cC (fE (Δ':=[.inv 0 iZ,.obj b2 25 (.rep av a0)]++([.inv m (bO k a0),.obj y 107 (.agg (.pair (.at aw (a0,.map (some m))) (.eq z.1)))]++fD 23 z b.2.2.2)) List.perm_append_comm) ?_
 refine aA rfl rfl ?_
 refine aE rfl (de rfl rfl) ⟨rfl,trivial⟩ ?_
 refine aE rfl (de rfl rfl) ⟨rfl,trivial⟩ ?_
 refine aE rfl (de rfl rfl) ⟨rfl,trivial⟩ ?_
 refine aF rfl rfl rfl (be rfl sB vD) trivial fun s=>?_
 refine bh rfl rfl (bb rfl gK rfl rfl rfl) ⟨rfl,rfl,trivial⟩ ?_
 refine di rfl rfl ?_
 refine di rfl rfl ?_
 refine au ?_
 refine ae ?_
 show JC _ _ _ _ _
 obtain⟨bx,bn,bo,bl⟩:=b
 cases bo with
 |false=>
  replace h:some (0,0,0,11)=some r:=by simpa using h
  obtain rfl:=Option.some.inj h
  refine ag ?_
  refine ag ?_
  refine ab ?_
  refine aA rfl rfl ?_
  refine aE rfl (dT rfl) ⟨rfl,trivial⟩ ?_
  refine aA rfl rfl ?_
  refine yv rfl rfl rfl rfl rfl rfl rfl ?_
  refine yv rfl rfl rfl rfl rfl rfl rfl ?_
  refine yv rfl rfl rfl rfl rfl rfl rfl ?_
  refine aE rfl (dN rfl) ⟨rfl,rfl,trivial⟩ ?_
  refine au ?_
  refine ae ?_
  show JC _ _ _ _ _
  refine bJ rfl (fun hb=>?_) (fun hb=>(by cases hb))
  refine ag ?_
  refine ab ?_
  refine dG rfl ?_
  refine dG rfl ?_
  refine dG rfl ?_
  refine dG rfl ?_
  refine au ?_
  refine ae ?_
  show JC _ _ _ _ _
  refine ay ?_
  refine aV ?_
  refine dj 1 rfl ?_
  exact aP () [_,_,_,_] 1 ⟨rfl,rfl,rfl,rfl,trivial⟩ rfl
 |true=>
  refine ag ?_
  refine ag ?_
  refine ab ?_
  refine aA rfl rfl ?_
  refine aE rfl (dT rfl) ⟨rfl,trivial⟩ ?_
  refine aA rfl rfl ?_
  refine mT rfl rfl rfl rfl rfl rfl (aH rfl) ⟨rfl,trivial⟩ ?_
  refine mT rfl rfl rfl rfl rfl rfl (aH rfl) ⟨rfl,trivial⟩ ?_
  refine mT rfl rfl rfl rfl rfl rfl (qo rfl) ⟨rfl,rfl,trivial⟩ ?_
  refine aE rfl (kO rfl) ⟨rfl,rfl,trivial⟩ ?_
  refine au ?_
  refine ae ?_
  show JC _ _ _ _ _
  refine bJ rfl (fun hb=>?_) (fun hb=>?_)
  ·
   have hd:L.1≤bn:=of_decide_eq_true hb
   replace h:some (0,0,0,11)=some r:=by simpa [hd] using h
   obtain rfl:=Option.some.inj h
   refine ag ?_
   refine ab ?_
   refine dG rfl ?_
   refine dG rfl ?_
   refine dG rfl ?_
   refine dG rfl ?_
   refine au ?_
   refine ae ?_
   show JC _ _ _ _ _
   refine ay ?_
   refine aV ?_
   refine dj 1 rfl ?_
   exact aP () [_,_,_,_] 1 ⟨rfl,rfl,rfl,rfl,trivial⟩ rfl
  ·
   have hd:¬L.1≤bn:=of_decide_eq_false hb
   replace h:some (bx.1,bx.2,bn,0)=some r:=by simpa [hd] using h
   refine aX ?_
   refine ae ?_
   obtain rfl:=Option.some.inj h
   show JC _ _ _ _ _
   refine ag ?_
   refine su (Δ:=[.obj s 110 (.rep fo bx)]) (F:=[.inv 0 iZ,.obj b2 25 (.rep av a0),.inv m (bO k a0),.obj y 107 (.agg (.pair (.at aw (a0,.map (some m))) (.eq z.1)))]++fD 23 z bl) (Z:=Unit) (fun _=>[(4,.eq (.int .i64 bx.1)),(5,.eq (.int .i64 bx.2)),(6,.eq (.int .i64 bn)),(7,.eq (.int .i64 0))]) (fun _=>[.obj s 110 (.rep fo bx)]) (fun S w=>?_) (fun _=>?_)
   ·
    refine dJ (SE.sub (Γ':=[(17,.eq (bP s)),(18,.eq (.int .i64 bn))]) ⟨rfl,rfl,trivial⟩) ?_
    refine jj ?_
    refine aI rfl rfl rfl (ar rfl MQ) ⟨rfl,trivial⟩ ?_
    refine dk 0 rfl rfl rfl rfl (aj rfl t6 i9 rfl) ⟨rfl,trivial⟩ ?_
    refine aI rfl rfl rfl (ar rfl MP) ⟨rfl,trivial⟩ ?_
    refine dk 0 rfl rfl rfl rfl (aj rfl t6 i9 rfl) ⟨rfl,trivial⟩ ?_
    refine aI rfl rfl rfl (aH rfl) ⟨rfl,trivial⟩ ?_
    refine mg 5 [true,true,false,false,false] [4,5,6,7] [0] [.obj s 110 (.rep fo bx)] rfl (by kernel_rfl) (by kernel_rfl) (by kernel_rfl) qP (fun vs hv hB=>?_)
    obtain⟨u0,mc,rfl,O⟩:=an hv
    obtain⟨u1,ac,rfl,M⟩:=an O
    obtain⟨u2,Y,rfl,E⟩:=an M
    obtain⟨u3,X,rfl,x⟩:=an E
    obtain⟨u4,U,rfl,u⟩:=an x
    obtain rfl:=jW u
    refine⟨[0],[],by kernel_rfl,by decide,?_⟩
    refine px rfl rfl rfl rfl (fu rfl) ⟨rfl,trivial⟩ (by kernel_rfl) ?_
    refine px rfl rfl rfl rfl (fu rfl) ⟨rfl,trivial⟩ (by kernel_rfl) ?_
    refine px rfl rfl rfl rfl (fu rfl) ⟨rfl,trivial⟩ (by kernel_rfl) ?_
    refine px rfl rfl rfl rfl (fu rfl) ⟨rfl,trivial⟩ (by kernel_rfl) ?_
    refine py ?_
    exact fun a w st=>⟨rfl,(),(SE.fin (Γ':=[(4,.eq (.int .i64 bx.1)),(5,.eq (.int .i64 bx.2)),(6,.eq (.int .i64 bn)),(7,.eq (.int .i64 0))]) [0] ⟨rfl,rfl,rfl,rfl,trivial⟩ rfl) a w st⟩
   ·
    refine ae ?_
    show JC _ _ _ _ _
    refine ay ?_
    refine dj 1 rfl ?_
    exact aP () [_,_,_,_] 1 ⟨rfl,rfl,rfl,rfl,trivial⟩ rfl
def nD(k:Nat)(a0:(List Int))(a1:dn)(a2:(List (List Int)))(a3:Int)(a4:Int):Option Int:=
 (fp k a1 a2).bind fun r1=>
 (aR r1 a3).bind fun x3=>
 (dZ k (List.set r1 (Int.toNat a3) a0)).bind fun r4=>
 (i7 k a1 r4 a4).bind fun r5=>
 some r5
theorem t5(k:Nat)(a0:(List Int))(a1:dn)(l:Nat)(a2:(List (List Int)))(j:Nat)(a3:Int)(e:Nat)(a4:Int)(c:Nat)(r:Int)(h:nD k a0 a1 a2 a3 a4=some r):
 dw (jg Tryz.prog) 74 [Ri a0,Pt l,Pt j,Pt e,Pt c] [.obj l 81 (.at bK a1),.obj j 86 (.rep (.arr 3 (.arr 5 (.int .i64))) a2),.obj e 3 (I a3),.obj c 3 (I a4)] (fun _:Unit=>(bu [I r],[.obj l 81 (.at bK a1),.obj j 86 (.rep (.arr 3 (.arr 5 (.int .i64))) a2),.obj e 3 (I a3),.obj c 3 (I a4)])):=by
 unfold nD at h
 replace h:=ba h
 refine dw.of 20 Tryz.func74 rfl Tryz.ntmps74 rfl fun S w0=>?_
 refine sr ?_
 refine cq ?_
 refine nt ?_
 refine sr ?_
 refine lo xy ?_
 refine fr 1 ?_
 refine lo gf ?_
 obtain⟨r1,x,h⟩:=aa h
 have E:=jM k a1 a2 r1 x
 refine aF rfl rfl rfl (ap [.tmp 8,.tmp 9] rfl rfl Nh rfl E) ⟨rfl,rfl,trivial⟩ fun v2=>?_
 refine aq ?_
 refine nt ?_
 refine sr ?_
 refine mq ?_
 refine fr 3 ?_
 refine lo cg ?_
 refine mq ?_
 obtain⟨x3,n,h⟩:=aa h
 refine fr 1 ?_
 refine kb (aZ (t:=(.slice (.int .i64))) rfl mm bQ n) ?_
 refine bh rfl rfl (cR (i:=Int.toNat a3) rfl bQ rfl (gW n) rfl .rep rfl) ⟨rfl,rfl,trivial⟩ ?_
 refine nt ?_
 refine ag ?_
 refine dJ (eJ [7,10,11] ⟨rfl,rfl,rfl,trivial⟩) ?_
 refine bI ?_
 refine ea 2 (aj rfl xy i9 rfl) ?_
 refine dm ?_
 obtain⟨r4,u,h⟩:=aa h
 have D:=fq k (List.set r1 (Int.toNat a3) a0) r4 u
 refine da (ap [.tmp 16] rfl rfl ET rfl D) ?_
 refine ea 3 (aj rfl cg i9 rfl) ?_
 refine df cz ?_
 obtain⟨r5,s,h⟩:=aa h
 have y:=my k a1 r4 a4 r5 s
 refine jc (gV [.tmp 15,.tmp 17,.tmp 18] rfl rfl PS rfl y) ?_
 refine aq ?_
 refine nt ?_
 refine ay ?_
 refine bv (SE.fin (Γ':=[(6,_)]) [2,1,0,3] ⟨rfl,trivial⟩ rfl) ?_
 cases h
 exact aP () [_] 4 ⟨rfl,trivial⟩ rfl
def ij(k:Nat)(a0_0:dn)(a0_1:(List (List Int)))(a0_2:Int)(a0_3:Int)(a1:(List (List Int))):Nat→((List Int)×Int×Bool×Int)→Option ((List Int)×Int×Bool)
 |0,_=>none
 |n+1,y3=>
  if y3.2.2.2 < (a1.length:Int) then((((aR a1 y3.2.2.2).bind fun x7=>
  (nD k x7 a0_0 a0_1 a0_2 a0_3).bind fun r8=>
  ((if¬(y3.2.2.1=true) then(some true) else(some (decide (r8 < y3.2.1)))):Option (Bool)).bind fun x9=>
  if x9=true then(some (x7,r8,true)) else(some (y3.1,y3.2.1,y3.2.2.1))):Option ((List Int)×Int×Bool)).bind fun x5=>
  (ck (y3.2.2.2+1)).bind fun c=>
  ij k a0_0 a0_1 a0_2 a0_3 a1 n (x5.1,x5.2.1,x5.2.2,c)) else(some (y3.1,y3.2.1,y3.2.2.1))
def lM(k:Nat)(a0_0:dn)(a0_1:(List (List Int)))(a0_2:Int)(a0_3:Int)(a1:(List (List Int))):Option ((List Int)×Int×Bool):=
 ((ij k a0_0 a0_1 a0_2 a0_3 a1 k ([],0,false,0)):Option ((List Int)×Int×Bool)).bind fun x1=>
 some (x1.1,x1.2.1,x1.2.2)
theorem rf(k:Nat)(a0_0:dn)(c_a0_0:Nat)(a0_1:(List (List Int)))(c_a0_1:Nat)(a0_2:Int)(c_a0_2:Nat)(a0_3:Int)(c_a0_3:Nat)(a1:(List (List Int)))(r:(List Int)×Int×Bool)(h:lM k a0_0 a0_1 a0_2 a0_3 a1=some r):
 dw (jg Tryz.prog) 76 [.eq (.func (.func 74) #[] #[(Pv c_a0_0),(Pv c_a0_1),(Pv c_a0_2),(Pv c_a0_3)]),.rep (.slice (.slice (.int .i64))) a1] [.obj c_a0_0 81 (.at bK a0_0),.obj c_a0_1 86 (.rep (.arr 3 (.arr 5 (.int .i64))) a0_1),.obj c_a0_2 3 (I a0_2),.obj c_a0_3 3 (I a0_3)] (fun _:Unit=>(bu [Ri r.1,I r.2.1,.eq (.bool r.2.2)],[.obj c_a0_0 81 (.at bK a0_0),.obj c_a0_1 86 (.rep (.arr 3 (.arr 5 (.int .i64))) a0_1),.obj c_a0_2 3 (I a0_2),.obj c_a0_3 3 (I a0_3)])):=by
 unfold lM at h
 replace h:=ba h
 refine dw.of 35 Tryz.func76 rfl Tryz.ntmps76 rfl fun S w0=>?_
 refine sr ?_
 refine cq ?_
 refine cq ?_
 refine cq ?_
 refine nt ?_
 refine sr ?_
 refine cq ?_
 refine nt ?_
 refine sr ?_
 refine cq ?_
 refine cq ?_
 refine nt ?_
 refine aN (Z:=Unit) (α:=(List Int)×Int×Bool) (fun z2 x1=>[(7,Ri x1.1),(8,I x1.2.1),(9,.eq (.bool x1.2.2))]) (fun z2 x1=>[.obj c_a0_0 81 (.at bK a0_0),.obj c_a0_1 86 (.rep (.arr 3 (.arr 5 (.int .i64))) a0_1),.obj c_a0_2 3 (I a0_2),.obj c_a0_3 3 (I a0_3)]) h (fun K h=>?_) (fun z2 x1 h=>?_)
 ·
  refine sr (mq ?_);refine ol mm ?_;refine fg rfl ?_;refine nt (ao (dJ (mb (t:=(.slice (.int .i64))) (x:=[]) 7 rfl .nil rfl rfl) ?_));refine aK (fun z4 y3=>[(0,.eq (.func (.func 74) #[] #[(Pv c_a0_0),(Pv c_a0_1),(Pv c_a0_2),(Pv c_a0_3)])),(7,Ri y3.1),(8,I y3.2.1),(9,.eq (.bool y3.2.2.1)),(13,.rep (.slice (.slice (.int .i64))) a1),(14,I (a1.length:Int)),(15,I y3.2.2.2)]) (fun z4 y3=>[.obj c_a0_0 81 (.at bK a0_0),.obj c_a0_1 86 (.rep (.arr 3 (.arr 5 (.int .i64))) a0_1),.obj c_a0_2 3 (I a0_2),.obj c_a0_3 3 (I a0_3)]) (ij k a0_0 a0_1 a0_2 a0_3 a1) k () ([],0,false,0) (fun _=>rfl) h (SE.fin [0,1,2,3] ⟨rfl,rfl,rfl,rfl,rfl,rfl,rfl,trivial⟩ rfl) (fun n z4 y3 h=>?_);unfold ij at h;refine sr (jb (bq rfl) ?_);refine nt (ag (ci h (fun h=>?_) (fun h=>?_)))
  ·refine sk (aN (Z:=Unit) (α:=(List Int)×Int×Bool) (fun z6 x5=>[(0,.eq (.func (.func 74) #[] #[(Pv c_a0_0),(Pv c_a0_1),(Pv c_a0_2),(Pv c_a0_3)])),(7,Ri x5.1),(8,I x5.2.1),(9,.eq (.bool x5.2.2)),(13,.rep (.slice (.slice (.int .i64))) a1),(14,I (a1.length:Int)),(15,I y3.2.2.2)]) (fun z6 x5=>[.obj c_a0_0 81 (.at bK a0_0),.obj c_a0_1 86 (.rep (.arr 3 (.arr 5 (.int .i64))) a0_1),.obj c_a0_2 3 (I a0_2),.obj c_a0_3 3 (I a0_3)]) h (fun K h=>?_) (fun z6 x5 h=>?_))
   ·refine ao (sr ?_);obtain⟨x7,l,h⟩:=aa h;refine jb (aC (t:=(.slice (.int .i64))) rfl mm bQ l) ?_;refine ja (ak (t:=(.slice (.int .i64))) rfl bQ rfl) ?_;refine aq (nt (sr ?_));iterate 2 refine mq ?_
    obtain⟨r8,u,h⟩:=aa h;refine fr 3 ?_;refine fr 3 ?_;refine fr 3 ?_;refine fr 3 ?_;refine bR (Δ:=[_,_,_,_]) (F:=_) (fun _ _ _=>ax rfl _) rfl rfl (oV (fs:=[]) (cs:=[(Pv c_a0_0),(Pv c_a0_1),(Pv c_a0_2),(Pv c_a0_3)]) (ags:=[Ri x7]) [.tmp 20] rfl rfl RZ rfl (t5 k x7 a0_0 c_a0_0 a0_1 c_a0_1 a0_2 c_a0_2 a0_3 c_a0_3 r8 u)) ⟨rfl,rfl,trivial⟩ fun _=>?_;refine aq (nt ?_);refine aN (Z:=Unit) (α:=Bool) (fun c x9=>[(0,.eq (.func (.func 74) #[] #[(Pv c_a0_0),(Pv c_a0_1),(Pv c_a0_2),(Pv c_a0_3)])),(7,Ri y3.1),(8,I y3.2.1),(9,.eq (.bool y3.2.2.1)),(11,Ri x7),(12,I r8),(13,.rep (.slice (.slice (.int .i64))) a1),(14,I (a1.length:Int)),(15,I y3.2.2.2),(28,.eq (.bool x9))]) (fun c x9=>[.obj c_a0_0 81 (.at bK a0_0),.obj c_a0_1 86 (.rep (.arr 3 (.arr 5 (.int .i64))) a0_1),.obj c_a0_2 3 (I a0_2),.obj c_a0_3 3 (I a0_3)]) h (fun K h=>?_) (fun c x9 h=>?_)
    ·refine ab (mq ?_);refine ja (dT rfl) ?_;refine mq ?_;refine cp (s:=24) rfl (fun hb=>?_) (fun hb=>?_)
     ·replace h:=cE (zy hb) h;iterate 3 refine gn ?_
      refine pt (nl ?_);exact jz ((),true) h [0,1,2,3]
     ·replace h:=bN (tN hb) h;refine gm ?_;refine gm ?_;refine gb (bq rfl) ?_;refine pf (nl ?_);exact jz ((),decide (r8 < y3.2.1)) h [0,1,2,3]
    ·refine cv h (fun h=>?_) (fun h=>?_)
     ·refine ab ?_;iterate 2 refine mq ?_
      refine aq ?_;refine aq ?_;refine cq (au (bn ?_));exact jz ((),(x7,r8,true)) h [0,1,2,3]
     ·refine aX (bn ?_);exact jz ((),(y3.1,y3.2.1,y3.2.2.1)) h [0,1,2,3]
   ·refine ab ?_;obtain⟨j,e,h⟩:=aa h;refine jb (bf rfl e) ?_;refine mq (nl ?_);exact jz ((),(x5.1,x5.2.1,x5.2.2,j)) h [0,1,2,3]
  ·refine xa ?_;exact jz ((),(y3.1,y3.2.1,y3.2.2.1)) h [0,1,2,3]
 ·
  refine sr ?_;iterate 3 refine mq ?_
  refine aq ?_;refine aq ?_;refine aq (nt (ay ?_));cases h;exact aP () [_,_,_] 4 ⟨rfl,rfl,rfl,trivial⟩ rfl
def qB(k:Nat)(a0:aS)(a1:(List (List Int)))(a2:Int)(a3:Int):Option ((List Int)×Int×Int):=
 (cu k a0 a1).bind fun r4=>
 if¬(r4=0) then(some ([],0,r4)) else((((ck ((a0.2.2.length:Int) - 1)).bind fun x7=>
 (eG k a2 0 x7).bind fun r8=>
 if¬(r8=true) then(some true) else((eG k a3 0 a0.1).bind fun r9=>
 some (!r9))):Option (Bool)).bind fun x5=>
 if x5=true then(some ([],0,3)) else((dZ k a1).bind fun n=>
 (lI k (a0,()) n a3).bind fun e=>
 (dW k e a2).bind fun l=>
 (lQ k l).bind fun j=>
 (lK k k j).bind fun h=>
 (lM k (a0,()) e a2 a3 h).bind fun c=>
 some (c.1,c.2.1,0)))
theorem vU(k:Nat)(a0:aS)(a1:(List (List Int)))(a2:Int)(a3:Int)(r:(List Int)×Int×Int)(h:qB k a0 a1 a2 a3=some r):
 dw (jg Tryz.prog) 29 [.rep av a0,.rep (.slice (.slice (.int .i64))) a1,I a2,I a3] [.inv 0 (iZ)] (fun _:Unit=>(bu [Ri r.1,I r.2.1,I r.2.2],[.inv 0 (iZ)])):=by
 unfold qB at h
 replace h:=ba h
 refine dw.of 60 Tryz.func29 rfl Tryz.ntmps29 rfl fun S w0=>?_
 refine sr ?_
 refine bx fun b1=>?_
 refine bx fun b2=>?_
 refine bx fun b3=>?_
 refine cq ?_
 refine cq ?_
 refine cq ?_
 refine nt ?_
 refine ag ?_
 refine sr ?_
 refine fr 2 ?_
 refine lo dy ?_
 refine mq ?_
 obtain⟨r4,TM,h⟩:=aa h
 have TN:=eK k a0 a1 r4 TM
 refine fr 3 ?_
 refine kb (ap [.tmp 18,.tmp 19] rfl rfl Kv rfl TN) ?_
 refine aq ?_
 refine nt ?_
 refine sr ?_
 refine mq ?_
 refine jb (g9 rfl) ?_
 refine nt ?_
 refine cn h (fun h=>?_) (fun h=>?_)
 ·
  refine sr (mq ?_);refine cq ?_;refine cq ?_;refine aq (nt (rx ?_));refine bv (mb (t:=(.slice (.int .i64))) (x:=[]) 8 rfl .nil rfl rfl) ?_;cases h;exact aP () [_,_,_] 1 ⟨rfl,rfl,rfl,trivial⟩ rfl
 ·
  refine sk (ag (aN (Z:=Unit) (α:=Bool) (fun z6 x5=>[(1,.rep (.slice (.slice (.int .i64))) a1),(4,Pt b1),(6,Pt b2),(7,Pt b3),(37,.eq (.bool x5))]) (fun z6 x5=>[.obj b1 25 (.rep av a0),.obj b2 3 (I a2),.obj b3 3 (I a3),.inv 0 (iZ)]) h (fun K h=>?_) (fun z6 x5 h=>?_)))
  ·refine ab (fr 3 ?_);refine lo cg ?_;refine fl cI ?_;refine fr 2 ?_;refine lo bQ ?_;refine ol dC ?_;obtain⟨x7,TJ,h⟩:=aa h;refine jb (fV rfl TJ) ?_;obtain⟨r8,TL,h⟩:=aa h;refine jc (ap [.tmp 24,.const (.int .i64 (0)),.tmp 28] rfl rfl Af rfl (eT k a2 0 x7 r8 TL)) ?_;refine ja (dT rfl) ?_;refine mq ?_;refine cp (s:=31) rfl (fun hb=>?_) (fun hb=>?_)
   ·replace h:=cE (zy hb) h;iterate 5 refine gn ?_
    refine pt (nl ?_);exact jz ((),true) h [0,1,3,2]
   ·replace h:=bN (tN hb) h;refine fr 3 ?_;refine jy rfl rfl rfl rfl rfl rfl (aj rfl cg i9 rfl) ⟨rfl,trivial⟩ ?_;refine ga (ar rfl gd) ?_;refine fr 1 ?_;refine jy rfl rfl rfl rfl rfl rfl (aj rfl cg i9 rfl) ⟨rfl,trivial⟩ ?_;obtain⟨r9,TK,h⟩:=aa h;refine gc (ap [.tmp 32,.const (.int .i64 (0)),.tmp 34] rfl rfl Af rfl (eT k a3 0 a0.1 r9 TK)) ?_;refine ga (dT rfl) ?_;refine pf (nl ?_);exact jz ((), !r9) h [0,2,1,3]
  ·refine cv h (fun h=>?_) (fun h=>?_)
   ·refine sr (cq ?_);refine cq ?_;refine cq (nt (rx ?_));refine bv (mb (t:=(.slice (.int .i64))) (x:=[]) 8 rfl .nil rfl rfl) ?_;refine bv (SE.fin (Γ':=[(8,_),(9,_),(10,_)]) [3,0,1,2] ⟨rfl,rfl,rfl,trivial⟩ rfl) ?_;cases h;exact aP () [_,_,_] 1 ⟨rfl,rfl,rfl,trivial⟩ rfl
   ·refine sk (sr (lo dy ?_));refine aF rfl rfl rfl (ap [.tmp 38] rfl rfl Ks rfl (ir a0)) ⟨rfl,trivial⟩ fun c=>?_;refine cC (lF (bO k a0) nj) ?_;refine aF rfl rfl rfl (be rfl Q0 SQ) trivial fun j=>?_;refine bh rfl rfl (bb rfl xy trivial rfl rfl) ⟨rfl,rfl,trivial⟩ ?_;refine nt (ag (jj ?_));refine dk 0 rfl rfl rfl rfl (aj rfl xy i9 rfl) ⟨rfl,trivial⟩ ?_;refine aI rfl rfl rfl (aH rfl) ⟨rfl,trivial⟩ ?_;obtain⟨u,U,h⟩:=aa h;refine aI rfl rfl rfl (ap [.tmp 41] rfl rfl ET rfl (fq k a1 u U)) ⟨rfl,trivial⟩ ?_;refine dk 4 rfl rfl rfl rfl (aj rfl cg i9 rfl) ⟨rfl,trivial⟩ ?_;obtain⟨l,Q,h⟩:=aa h;refine aI rfl rfl rfl (eh (N:=[(.tmp 40,.at aw (a0,(.map (some c)))),(.tmp 42,.rep (.arr 3 (.arr 5 (.int .i64))) u),(.tmp 43,I a3)]) (ap [.tmp 40,.tmp 42,.tmp 43] rfl rfl R2 rfl (rc k (a0,()) u a3 l Q)) fun _ _ _ hn=>⟨(tC hn.1),hn.2.1,hn.2.2.1,trivial⟩) ⟨rfl,rfl,rfl,trivial⟩ ?_;refine ut (Gk 86 (.rep (.arr 3 (.arr 5 (.int .i64))) [[0,0,0,0,0],[0,0,0,0,0],[0,0,0,0,0]])) (fun _=>rfl) rfl rfl rfl (be rfl sC tD) trivial ?_;refine mg 6 [true,true,true,true,true,true] [] [] [] rfl (by kernel_rfl) (by kernel_rfl) (by kernel_rfl) cz (fun vs hv hB=>?_);obtain⟨w0,TY,rfl,se⟩:=an hv;obtain⟨w1,TX,rfl,qt⟩:=an se;obtain⟨w2,TU,rfl,pp⟩:=an qt;obtain⟨w3,TS,rfl,mc⟩:=an pp;obtain⟨w4,TR,rfl,ac⟩:=an mc;obtain⟨w5,TP,rfl,Y⟩:=an ac;obtain rfl:=jW Y;obtain⟨e,rfl⟩:=Bh hB.2.2.2.2.2.1;refine⟨[0,1,2,3,4,5,6],[.obj j 81 (.at aw (a0,(.map (some c)))),.inv c (bO k a0),.obj b1 25 (.rep av a0),.obj b2 3 (I a2),.obj b3 3 (I a3),.inv 0 (iZ),.obj e 86 (.rep (.arr 3 (.arr 5 (.int .i64))) [[0,0,0,0,0],[0,0,0,0,0],[0,0,0,0,0]])],by kernel_rfl,by decide,?_⟩;refine iJ 6 rfl ?_;refine nW rfl rfl (bb rfl gf rfl rfl rfl) ⟨rfl,rfl,trivial⟩ (by kernel_rfl) ?_;refine py ?_;refine bv (SE.fin (Γ':=[(6,Pt b2),(7,Pt b3),(12,Pt j),(13,Pt e)]) (Δ':=[.obj e 86 (.rep (.arr 3 (.arr 5 (.int .i64))) l),.obj j 81 (.at aw (a0,(.map (some c)))),.inv c (bO k a0),.obj b1 25 (.rep av a0),.obj b2 3 (I a2),.obj b3 3 (I a3),.inv 0 (iZ)]) [0,1,2,3,4,5,6] ⟨rfl,rfl,rfl,rfl,trivial⟩ rfl) ?_;refine tn (sr (aE rfl (sU [] [.tmp 12,.tmp 13,.tmp 6,.tmp 7] [] [(Pv j),(Pv e),(Pv b2),(Pv b3)] rfl rfl rfl) ⟨rfl,rfl,rfl,rfl,trivial⟩ ?_));refine aq (nt (sr ?_));refine mq ?_;refine lo gf ?_;refine fr 4 ?_;refine lo cg ?_;obtain⟨n,O,h⟩:=aa h;refine jb (ap [.tmp 48,.tmp 49] rfl rfl Kq rfl (gi k l a2 n O)) ?_;refine aF rfl rfl rfl (ap [.tmp 50] rfl rfl RV rfl (rn n)) ⟨rfl,trivial⟩ fun TO=>?_;obtain⟨D,M,h⟩:=aa h;refine ka (ap [.tmp 51] rfl rfl RX rfl (ru k n TO D M)) ?_;obtain⟨y,J,h⟩:=aa h;refine ja (ap [.tmp 52] rfl rfl PR rfl (vS k k D y J)) ?_;refine fr 3 ?_;refine cC (nV (a:=.at aw (a0,(.map (some c)))) (a':=.at bK (a0,())) NE) ?_
    obtain⟨X,E,h⟩:=aa h;refine fr 6 ?_;refine fr 3 ?_;refine fr 4 ?_;refine fr 3 ?_;refine bR (Δ:=[_,_,_,_]) (F:=_) (fun _ _ _=>ax rfl _) rfl rfl (gV [.tmp 47,.tmp 53] rfl rfl RY rfl (rf k (a0,()) j l e a2 b2 a3 b3 y X E)) ⟨rfl,rfl,trivial⟩ fun _=>?_;refine mq ?_;refine xr ?_;refine xr ?_;refine xr ?_;refine aq ?_;refine aq ?_;refine aq (nt (sr ?_));iterate 2 refine mq ?_
    refine aq ?_;refine aq ?_;refine cq (nt (ay ?_));refine bv (SE.fin (Γ':=[(8,_),(9,_),(10,_)]) [7,0,1,2,3,4,5,6] ⟨rfl,rfl,rfl,trivial⟩ rfl) ?_;cases h;exact aP () [_,_,_] 1 ⟨rfl,rfl,rfl,trivial⟩ rfl
def ik(k:Nat)(a0:aS)(a1:(List (List (List Int)))):Nat→((List (List Int))×Int×Bool×Int)→Option ((List (List Int))×Int×Bool)
 |0,_=>none
 |n+1,y5=>
  if y5.2.2.2 < (a1.length:Int) then((((aR a1 y5.2.2.2).bind fun x9=>
  (dD k a0 x9).bind fun c=>
  ((if¬(y5.2.2.1=true) then(some true) else(some (decide (c < y5.2.1)))):Option (Bool)).bind fun h=>
  if h=true then(some (x9,c,true)) else(some (y5.1,y5.2.1,y5.2.2.1))):Option ((List (List Int))×Int×Bool)).bind fun x7=>
  (ck (y5.2.2.2+1)).bind fun e=>
  ik k a0 a1 n (x7.1,x7.2.1,x7.2.2,e)) else(some (y5.1,y5.2.1,y5.2.2.1))
def lN(k:Nat)(a0:aS)(a1:(List (List (List Int)))):Option ((List (List Int))×Int×Bool):=
 ((ik k a0 a1 k ([[0,0,0,0,0],[0,0,0,0,0],[0,0,0,0,0]],0,false,0)):Option ((List (List Int))×Int×Bool)).bind fun x3=>
 some (x3.1,x3.2.1,x3.2.2)
theorem rh(k:Nat)(a0:aS)(z_a0:Nat)(a1:(List (List (List Int))))(r:(List (List Int))×Int×Bool)(h:lN k a0 a1=some r):
 dw (jg Tryz.prog) 82 [.fn 83 (uw [.at aw (a0,(.map (some z_a0)))]),.rep (.slice (.arr 3 (.arr 5 (.int .i64)))) a1] [.inv z_a0 (bO k a0)] (fun _:Unit=>(bu [.rep (.arr 3 (.arr 5 (.int .i64))) r.1,I r.2.1,.eq (.bool r.2.2)],[.inv z_a0 (bO k a0)])):=by
 unfold lN at h
 replace h:=ba h
 refine dw.of 35 Tryz.func82 rfl Tryz.ntmps82 rfl fun S w0=>?_
 refine sr ?_
 refine aF rfl rfl rfl (be rfl sC tD) trivial fun b1=>?_
 refine cq ?_
 refine cq ?_
 refine nt ?_
 refine sr ?_
 refine aF rfl rfl rfl (be rfl sC tD) trivial fun b2=>?_
 refine nt ?_
 refine sr ?_
 refine cq ?_
 refine cq ?_
 refine nt ?_
 refine aN (Z:=Unit) (α:=(List (List Int))×Int×Bool) (fun z4 x3=>[(4,Pt b1),(7,Pt b2),(8,I x3.2.1),(9,.eq (.bool x3.2.2))]) (fun z4 x3=>[.obj b1 86 (.rep (.arr 3 (.arr 5 (.int .i64))) [[0,0,0,0,0],[0,0,0,0,0],[0,0,0,0,0]]),.obj b2 86 (.rep (.arr 3 (.arr 5 (.int .i64))) x3.1),.inv z_a0 (bO k a0)]) h (fun K h=>?_) (fun z4 x3 h=>?_)
 ·
  refine sr (mq ?_);refine ol QC ?_;refine fg rfl ?_;refine nt (ao (aK (fun z6 y5=>[(0,.fn 83 (uw [.at aw (a0,(.map (some z_a0)))])),(4,Pt b1),(7,Pt b2),(8,I y5.2.1),(9,.eq (.bool y5.2.2.1)),(13,.rep (.slice (.arr 3 (.arr 5 (.int .i64)))) a1),(14,I (a1.length:Int)),(15,I y5.2.2.2)]) (fun z6 y5=>[.obj b1 86 (.rep (.arr 3 (.arr 5 (.int .i64))) [[0,0,0,0,0],[0,0,0,0,0],[0,0,0,0,0]]),.obj b2 86 (.rep (.arr 3 (.arr 5 (.int .i64))) y5.1),.inv z_a0 (bO k a0)]) (ik k a0 a1) k () ([[0,0,0,0,0],[0,0,0,0,0],[0,0,0,0,0]],0,false,0) (fun _=>rfl) h (SE.fin [1,0,2] ⟨rfl,rfl,rfl,rfl,rfl,rfl,rfl,rfl,trivial⟩ rfl) (fun n z6 y5 h=>?_)));unfold ik at h;refine sr (jb (bq rfl) ?_);refine nt (ag (ci h (fun h=>?_) (fun h=>?_)))
  ·refine sk (aN (Z:=Unit) (α:=(List (List Int))×Int×Bool) (fun z8 x7=>[(0,.fn 83 (uw [.at aw (a0,(.map (some z_a0)))])),(4,Pt b1),(7,Pt b2),(8,I x7.2.1),(9,.eq (.bool x7.2.2)),(13,.rep (.slice (.arr 3 (.arr 5 (.int .i64)))) a1),(14,I (a1.length:Int)),(15,I y5.2.2.2)]) (fun z8 x7=>[.obj b1 86 (.rep (.arr 3 (.arr 5 (.int .i64))) [[0,0,0,0,0],[0,0,0,0,0],[0,0,0,0,0]]),.obj b2 86 (.rep (.arr 3 (.arr 5 (.int .i64))) x7.1),.inv z_a0 (bO k a0)]) h (fun K h=>?_) (fun z8 x7 h=>?_))
   ·refine ao (sr ?_);obtain⟨x9,D,h⟩:=aa h;refine jb (aC (t:=(.arr 3 (.arr 5 (.int .i64)))) rfl QC gf D) ?_;refine ja (ak (t:=(.arr 3 (.arr 5 (.int .i64)))) rfl gf rfl) ?_;refine aF rfl rfl rfl (be rfl sC tD) trivial fun x=>?_;refine bh rfl rfl (bb rfl gf rfl rfl rfl) ⟨rfl,rfl,trivial⟩ ?_;refine nt (sr (mq ?_));refine lo gf ?_;obtain⟨c,u,h⟩:=aa h;refine fr 3 ?_;refine kb (GT (fs:=[.at aw (a0,(.map (some z_a0)))]) (ags:=[.rep (.arr 3 (.arr 5 (.int .i64))) x9]) [.tmp 20] rfl rfl PQ rfl (jN k a0 z_a0 x9 c u)) ?_;refine aq (nt ?_);refine aN (Z:=Unit) (α:=Bool) (fun j e=>[(0,.fn 83 (uw [.at aw (a0,(.map (some z_a0)))])),(4,Pt b1),(7,Pt b2),(8,I y5.2.1),(9,.eq (.bool y5.2.2.1)),(11,Pt x),(12,I c),(13,.rep (.slice (.arr 3 (.arr 5 (.int .i64)))) a1),(14,I (a1.length:Int)),(15,I y5.2.2.2),(28,.eq (.bool e))]) (fun j e=>[.obj b1 86 (.rep (.arr 3 (.arr 5 (.int .i64))) [[0,0,0,0,0],[0,0,0,0,0],[0,0,0,0,0]]),.obj b2 86 (.rep (.arr 3 (.arr 5 (.int .i64))) y5.1),.obj x 86 (.rep (.arr 3 (.arr 5 (.int .i64))) x9),.inv z_a0 (bO k a0)]) h (fun K h=>?_) (fun j e h=>?_)
    ·refine ab (mq ?_);refine ja (dT rfl) ?_;refine mq ?_;refine cp (s:=24) rfl (fun hb=>?_) (fun hb=>?_)
     ·replace h:=cE (zy hb) h;iterate 3 refine gn ?_
      refine pt (nl ?_);exact jz ((),true) h [2,3,1,0]
     ·replace h:=bN (tN hb) h;refine gm ?_;refine gm ?_;refine gb (bq rfl) ?_;refine pf (nl ?_);exact jz ((),decide (c < y5.2.1)) h [2,3,1,0]
    ·refine cv h (fun h=>?_) (fun h=>?_)
     ·refine ab (fr 2 ?_);refine lo gf ?_;refine mq ?_;refine fr 2 ?_;refine bh rfl rfl (bb rfl gf rfl rfl rfl) ⟨rfl,rfl,trivial⟩ ?_;refine aq ?_;refine cq (au (bn ?_));exact jz ((),(x9,c,true)) h [2,0,3]
     ·refine aX (bn ?_);exact jz ((),(y5.1,y5.2.1,y5.2.2.1)) h [0,1,3]
   ·refine ab ?_;obtain⟨y,l,h⟩:=aa h;refine jb (bf rfl l) ?_;refine mq (nl ?_);exact jz ((),(x7.1,x7.2.1,x7.2.2,y)) h [0,1,2]
  ·refine xa ?_;exact jz ((),(y5.1,y5.2.1,y5.2.2.1)) h [0,1,2]
 ·
  refine sr (fr 1 ?_);refine lo gf ?_;iterate 2 refine mq ?_
  refine fr 1 ?_;refine bh rfl rfl (bb rfl gf rfl rfl rfl) ⟨rfl,rfl,trivial⟩ ?_;refine aq ?_;refine aq (nt (ay ?_));refine bv (SE.fin (Γ':=[(4,_),(5,_),(6,_)]) [2,0,1] ⟨rfl,rfl,rfl,trivial⟩ rfl) ?_;cases h;exact aP () [.rep (.arr 3 (.arr 5 (.int .i64))) x3.1,_,_] 1 ⟨⟨_,_,_,_,_,rfl,(.tail _ (.head _)),gf,(tR),rfl⟩,rfl,rfl,trivial⟩ rfl
def uB(k:Nat)(a0:aS):Option ((List (List Int))×Int×Int):=
 (kh k a0).bind fun r2=>
 if¬(r2=0) then(some ([],0,r2)) else((kl k (a0,())).bind fun r5=>
 (lN k a0 r5).bind fun r6=>
 if¬(r6.2.2=true) then(some ([],0,11)) else((fp k (a0,()) r6.1).bind fun r8=>
 some (r8,r6.2.1,0)))
theorem yU(k:Nat)(a0:aS)(r:(List (List Int))×Int×Int)(h:uB k a0=some r):
 dw (jg Tryz.prog) 31 [.rep av a0] [] (fun _:Unit=>(bu [.rep (.slice (.slice (.int .i64))) r.1,I r.2.1,I r.2.2],[])):=by
 unfold uB at h
 replace h:=ba h
 refine dw.of 33 Tryz.func31 rfl Tryz.ntmps31 rfl fun S w0=>?_
 refine sr ?_
 refine bx fun b1=>?_
 refine cq ?_
 refine cq ?_
 refine cq ?_
 refine nt ?_
 refine ag ?_
 refine sr ?_
 refine lo dy ?_
 obtain⟨r2,l,h⟩:=aa h
 have n:=nE k a0 r2 l
 refine ja (ap [.tmp 10] rfl rfl Ni rfl n) ?_
 refine aq ?_
 refine nt ?_
 refine sr ?_
 refine mq ?_
 refine jb (g9 rfl) ?_
 refine nt ?_
 refine cn h (fun h=>?_) (fun h=>?_)
 ·
  refine sr (mq ?_);refine cq ?_;refine cq ?_;refine aq (nt (rx ?_));refine bv (mb (t:=(.slice (.slice (.int .i64)))) (x:=[]) 2 rfl .nil rfl rfl) ?_;cases h;exact aP () [_,_,_] 0 ⟨rfl,rfl,rfl,trivial⟩ rfl
 ·
  refine sk (sr (lo dy ?_));refine aF rfl rfl rfl (ap [.tmp 15] rfl rfl Ks rfl (ir a0)) ⟨rfl,trivial⟩ fun z3=>?_;refine cC (lF (bO k a0) nj) ?_;refine aq (nt (sr ?_));refine mq ?_;refine ja (Jo [.tmp 18] [.at aw (a0,(.map (some z3)))] rfl rfl) ?_;refine mq ?_;refine aF rfl rfl rfl (eh (N:=[(.tmp 20,.at aw (a0,(.map (some z3))))]) (ap [.tmp 20] rfl rfl RR rfl (oK (a0,()))) fun _ _ _ hn=>⟨tC hn.1,trivial⟩) ⟨rfl,trivial⟩ fun b4=>?_;obtain⟨r5,j,h⟩:=aa h;refine ka (ap [.tmp 21] rfl rfl RS rfl (qg k (a0,()) b4 r5 j)) ?_;obtain⟨r6,e,h⟩:=aa h;refine fr 1 ?_;refine kb (gV [.tmp 19,.tmp 22] rfl rfl RU rfl (rh k a0 z3 r5 r6 e)) ?_;refine mq ?_;refine xr ?_;refine xr ?_;refine xr ?_;refine aF rfl rfl rfl (be rfl sC tD) trivial fun b7=>?_;refine bh rfl rfl (bb rfl gf rfl rfl rfl) ⟨rfl,rfl,trivial⟩ ?_;refine aq ?_;refine aq (nt (ag (sr ?_)));refine mq ?_;refine ja (dT rfl) ?_;refine nt (cw h (fun h=>?_) (fun h=>?_))
  ·refine sr (cq ?_);refine cq ?_;refine cq (nt (rx ?_));refine bv (mb (t:=(.slice (.slice (.int .i64)))) (x:=[]) 2 rfl .nil rfl rfl) ?_;cases h;exact aP () [_,_,_] 0 ⟨rfl,rfl,rfl,trivial⟩ rfl
  ·refine sk (sr (mq ?_));refine lo gf ?_;obtain⟨r8,c,h⟩:=aa h;refine aF rfl rfl rfl (eh (N:=[(.tmp 29,.at aw (a0,(.map (some z3)))),(.tmp 30,.rep (.arr 3 (.arr 5 (.int .i64))) r6.1)]) (ap [.tmp 29,.tmp 30] rfl rfl Nh rfl (jM k (a0,()) r6.1 r8 c)) fun _ _ _ hn=>⟨(tC hn.1),hn.2.1,trivial⟩) ⟨rfl,rfl,trivial⟩ fun v9=>?_;refine mq ?_;refine aq ?_;refine aq ?_;refine cq (nt (ay ?_));refine bv (eJ [2,31] ⟨rfl,rfl,trivial⟩) ?_;cases h;exact aP () [_,_,_] 0 ⟨rfl,rfl,rfl,trivial⟩ rfl
set_option maxRecDepth 20000
set_option maxHeartbeats 4000000
def N5(b:Nat):List Int→Option Addr
 |[]=>none
 |_::_=>some ⟨b,0,none⟩
def QO:List Int→Value→Value
 |[],_=>.slice none 0 0
 |_::_,v=>v
theorem Nr(b:Nat)(l:List Int):N5 b l=none∨N5 b l=some ⟨b,0,none⟩:=by cases l <;> simp [N5]
theorem Ij(b:Nat)(l:List Int)(c:Int):N5 b (l++[c])=some ⟨b,0,none⟩:=by cases l <;> rfl
theorem Ii(l:List Int)(c:Int)(v:Value):QO (l++[c]) v=v:=by cases l <;> rfl
theorem F6:ma Tryz.prog 143 9 1 16:=.of (z:=(.string .empty)) SU (by kernel_rfl) rfl rfl rfl
theorem Na:ah Tryz.prog 93:=ah.of Tryz.func93 (by kernel_rfl) (by kernel_rfl)
theorem PN:ah Tryz.prog 22:=ah.of Tryz.func22 (by kernel_rfl) (by kernel_rfl)
theorem OA:dL Tryz.prog 25 3 true:=⟨fun w=>by kernel_rfl,fun w=>by kernel_rfl⟩
theorem Le:dL Tryz.prog 23 1 false:=⟨fun w=>by kernel_rfl,fun w=>by kernel_rfl⟩
theorem Oz:dL Tryz.prog 3 1 false:=⟨fun w=>by kernel_rfl,fun w=>by kernel_rfl⟩
def lJ(c:Int):Int:=IntKind.i32.wrap (97+IntKind.i32.wrap c)
def lq(xs:List Int):Nat→Int×List Int→Option (List Int)
 |0,_=>none
 |n+1,y=>if y.1 < (xs.length:Int) then((aR xs y.1).bind fun c=>if 0≤lJ c∧lJ c≤127∧bL (y.2.length+1) then(ck (y.1+1)).bind fun z=>lq xs n (z,y.2++[lJ c]) else none) else some y.2
def jO(k:Nat)(a1:List (List Int)):Nat→Int×List ByteArray→Option (List ByteArray)
 |0,_=>none
 |n+1,y=>if y.1 < (a1.length:Int) then((aR a1 y.1).bind fun xs=>(lq xs k (0,[])).bind fun l=>if bL (y.2.length+1) then(ck (y.1+1)).bind fun z=>jO k a1 n (z,y.2++[qC l]) else none) else some y.2
def sK(k:Nat)(a0:aS)(a1:(List (List Int))):Option (Value×Int):=
 (cu k a0 a1).bind fun e=>if¬(e=0) then some (.string .empty,e) else(jO k a1 k (0,[])).bind fun ss=>(ug k ss ⟨#[47]⟩).bind fun r=>some (.string r,0)
theorem xw(k:Nat)(a0:aS)(a1:(List (List Int)))(r:Value×Int)(h:sK k a0 a1=some r):
 bX Tryz.prog 48 [.rep av a0,.rep (.slice (.slice (.int .i64))) a1] [.inv 0 iZ] (fun _:Unit=>(bu [.eq r.1,I r.2],[.inv 0 iZ])):=by
 unfold sK at h
 replace h:=ba h
 refine bX.of 43 Tryz.func48 rfl Tryz.ntmps48 rfl fun S w0=>?_
 refine sr ?_
 refine bx fun b2=>?_
 refine cq ?_
 refine cq ?_
 refine nt ?_
 refine ag ?_
 refine sr ?_
 obtain⟨e,ee,h⟩:=aa h
 have ce:=eK k a0 a1 e ee
 refine ka (aj rfl OA (yD) rfl) ?_
 refine mq ?_
 refine fr 1 ?_
 refine kb (ap [.tmp 13,.tmp 14] rfl rfl PN rfl ce) ?_
 refine aq ?_
 refine nt ?_
 refine sr ?_
 refine mq ?_
 refine jb (g9 rfl) ?_
 refine nt ?_
 refine bJ rfl (fun hb=>?_) (fun hb=>?_)
 ·
  replace h:=cE (IR hb) h;refine sr (mq ?_);refine cq ?_;refine aq (nt (rx ?_));cases h;exact aP () [_,_] 1 ⟨rfl,rfl,trivial⟩ rfl
 replace h:=bN (we hb) h
 refine sk ?_
 refine sr ?_
 refine cq ?_
 refine nt ?_
 rw [Option.bind_assoc] at h
 refine ag ?_
 refine sr ?_
 refine mq ?_
 refine ol mm ?_
 refine fg rfl ?_
 refine cC (SE.nil 9 .str) ?_
 refine nt ?_
 refine ao ?_
 refine aK (fun v y=>[(7,.eq v),(19,.rep (.slice (.slice (.int .i64))) a1),(20,I (a1.length:Int)),(21,I y.1)]) (fun v y=>[.sl v 9 .str y.2,.inv 0 iZ]) (jO k a1) k (.slice none 0 0) (0,[]) (fun _=>rfl) h (SE.fin [0,1] ⟨rfl,rfl,rfl,rfl,trivial⟩ rfl) (fun n v7 y h=>?_)
 unfold jO at h
 refine sr ?_
 refine jb (bq rfl) ?_
 refine nt ?_
 refine ag ?_
 refine bJ rfl (fun hb=>?_) (fun hb=>?_)
 ·
  replace h:=cE (ou hb) h;refine sk (ag (ao ?_));obtain⟨xs,exs,h⟩:=aa h;refine sr (jb (aC (t:=.slice (.int .i64)) rfl mm Le exs) ?_);refine ja (ak (t:=.slice (.int .i64)) rfl Le rfl) ?_;refine aq (nt (sr ?_));refine aF rfl rfl rfl (be rfl Fz Im) trivial fun b=>?_;refine nt ?_;rw [Option.bind_assoc] at h;refine ag (sr (mq ?_));refine ol dC ?_;refine fg rfl ?_;refine cC (SE.nil 5 (.int .u8)) ?_;refine nt (ao ?_)
  refine aK (fun v q=>[(7,.eq v7),(10,.eq (bP b)),(19,.rep (.slice (.slice (.int .i64))) a1),(20,I (a1.length:Int)),(21,I y.1),(25,Ri xs),(26,I (xs.length:Int)),(27,I q.1)])
   (fun v q=>[.obj b 147 (bA (.pointer (N5 b q.2)) (QO q.2 v)),.sl (QO q.2 v) 5 (.int .u8) q.2,.sl v7 9 .str y.2,.inv 0 iZ]) (lq xs) k undef (0,[]) (fun _=>rfl) h (SE.fin [1,0,2,3] ⟨rfl,rfl,rfl,rfl,rfl,rfl,rfl,rfl,trivial⟩ rfl) (fun n2 v q h=>?_)
  unfold lq at h;refine sr (jb (bq rfl) ?_);refine nt (ag (bJ rfl (fun hb=>?_) (fun hb=>?_)))
  ·replace h:=cE (ou hb) h;refine sk (ag (ao ?_));obtain⟨c,ec,h⟩:=aa h;refine sr (jb (aC (t:=.int .i64) rfl dC Oz ec) ?_);refine ja (ak (t:=.int .i64) rfl Oz rfl) ?_;refine aq (nt ?_)
   have hk:0≤lJ c∧lJ c≤127∧bL (q.2.length+1):=by
    apply Classical.byContradiction;intro hn;rw [if_neg hn] at h;cases h
   replace h:=cE hk h;refine vO 1 rfl fun hv=>?_;refine ab (mq ?_);refine ja (oU rfl U3 TF) ?_;refine jb (Bw rfl) ?_;refine bR (Δ:=[_,_]) (F:=_) (fun _ _ _=>ax rfl _) rfl rfl (ap [.tmp 10,.tmp 33] rfl rfl Nb rfl (xB (b:=b) (p:=N5 b q.2) (v:=QO q.2 v) (l:=q.2) (r:=lJ c) (Nr b q.2) hv hk.1 hk.2.1 hk.2.2)) ⟨rfl,rfl,trivial⟩ fun v2=>?_;refine au (aM (tn (ab ?_)));obtain⟨z3,ez3,h⟩:=aa h;refine jb (bf rfl ez3) ?_;refine mq (nl ?_);exact iP (v2,(z3,q.2++[lJ c])) h (SE.fin [0,1,2,3] ⟨rfl,rfl,rfl,rfl,rfl,rfl,rfl,rfl,trivial⟩ (by simp only [Ij,Ii];rfl))
  replace h:=bN (nw hb) h;refine dH (aU (aU (bW (tn ?_))));replace h:(if bL (y.2.length+1) then(ck (y.1+1)).bind fun z=>jO k a1 n (z,y.2++[qC q.2]) else none).bind _=some r:=h
  have hk:bL (y.2.length+1):=by
   apply Classical.byContradiction;intro hn;rw [if_neg hn] at h;cases h
  replace h:=cE hk h;refine ab (mq ?_);refine bR (Δ:=[_,_]) (F:=_) (fun _ _ _=>ax rfl _) rfl rfl (ap [.tmp 10] rfl rfl H2 rfl (wA (b:=b) (l:=q.2) (fun hn=>by rw [hn];rfl))) ⟨rfl,trivial⟩ fun _=>?_;refine ja (bj (t:=.str) [(.tmp 37,.eq (.string (qC q.2)))] [qC q.2] rfl rfl F6 (.cons rfl .str .nil) rfl rfl) ?_;refine cU rfl rfl rfl (bD rfl rfl F6 (by simpa using hk)) ⟨rfl,rfl,trivial⟩ fun v'=>?_;refine aq (au (aM (tn (ab ?_))));obtain⟨z3,ez3,h⟩:=aa h;refine jb (bf rfl ez3) ?_;refine mq (nl ?_);exact jz (v',(z3,y.2++[qC q.2])) h [0,1]
 replace h:=bN (nw hb) h
 refine dH ?_
 refine aU ?_
 refine aU ?_
 refine bW ?_
 refine tn ?_
 replace h:((ug k y.2 ⟨#[47]⟩).bind fun r=>some (.string r,0)).bind some=some r:=h
 obtain⟨r1,j,h⟩:=aa h
 cases h
 have cj:=A3 k y.2 _ r1 j
 refine sr ?_
 refine cC (eJ [7] ⟨rfl,trivial⟩) ?_
 refine mq ?_
 refine jb (ap [.tmp 41,.const (.string ⟨#[47]⟩)] rfl rfl Na rfl cj) ?_
 refine aq ?_
 refine cq ?_
 refine nt ?_
 refine ay ?_
 exact aP () [_,_] 1 ⟨rfl,rfl,trivial⟩ rfl
def ku(k:Nat):Option Bool:=
 (kS k ([]:(List Int))).bind fun r1=>
 (wO k).bind fun r2=>
 (lr k r1 r2 1).bind fun r3=>
 (kS k ([]:(List Int))).bind fun r4=>
 (wO k).bind fun r5=>
 (pE k r4 r5).bind fun r6=>
 (kS k ([]:(List Int))).bind fun r7=>
 (uB k r7).bind fun r8=>
 (kS k ([]:(List Int))).bind fun r9=>
 (Ht k).bind fun E=>
 (uy k r9 E).bind fun c=>
 (kS k ([]:(List Int))).bind fun D=>
 (wO k).bind fun y=>
 (qB k D y 0 1).bind fun h=>
 (kS k ([]:(List Int))).bind fun x=>
 (wO k).bind fun u=>
 (sK k x u).bind fun e=>
 ((if r3.2.2=0 then(if r6.2=0 then(if r8.2.2=0 then(if c.2.2.2=0 then(if h.2.2=0 then(if e.2=0 then(if r6.1=3 then(if r8.2.1=0 then(if c.1=0 then(if c.2.1=2 then(if c.2.2.1=1 then(if h.2.1=2 then((dz (Ly e.1=true)).bind fun _=>
 if HW e.1 (⟨#[98,97,100,47,99]⟩:ByteArray)=true then((dE k r3.1 [0]).bind fun s=>
 if s=true then((eZ k r3.2.1 [[0,1,3],[2]]).bind fun r=>
 if r=true then((eZ k r8.1 [[2,0],[1,3]]).bind fun n=>
 if n=true then((dE k h.1 [0,1,3]).bind fun l=>
 some l) else(some false)) else(some false)) else(some false)) else(some false)) else(some false)) else(some false)) else(some false)) else(some false)) else(some false)) else(some false)) else(some false)) else(some false)) else(some false)) else(some false)) else(some false)) else(some false)):Option (Bool)).bind fun j=>
 some j
theorem qu(k:Nat)(r:Bool)(h:ku k=some r):
 dw (jg Tryz.prog) 12 [] [.inv 0 (iZ)] (fun _:Unit=>(bu [.eq (.bool r)],[.inv 0 (iZ)])):=by
 unfold ku at h
 replace h:=ba h
 refine dw.of 132 Tryz.func12 rfl Tryz.ntmps12 rfl fun S w0=>?_
 refine sr ?_
 refine cq ?_
 refine nt ?_
 refine sr ?_
 obtain⟨r1,Uf,h⟩:=aa h
 have Uo:=jH k ([]:(List Int)) r1 Uf
 refine ja (eh (N:=[(.const (.slice none 0 0),.eq (.slice none 0 0))]) (ap [.const (.slice none 0 0)] rfl rfl EU rfl Uo) fun _ _ _ hn=>⟨(kB (t:=(.slice (.int .i64))) (x:=([]:(List Int))) .nil rfl rfl hn.1),trivial⟩) ?_
 obtain⟨r2,Ue,h⟩:=aa h
 have Un:=rO k r2 Ue
 refine aE rfl (ap [] rfl rfl Kt rfl Un) trivial ?_
 obtain⟨r3,Ud,h⟩:=aa h
 have Um:=uA k r1 r2 1 r3 Ud
 refine kc (ap [.tmp 19,.tmp 20,.const (.int .i64 (1))] rfl rfl P0 rfl Um) ?_
 refine mq ?_
 refine xr ?_
 refine xr ?_
 refine xr ?_
 refine aq ?_
 refine aq ?_
 refine aq ?_
 refine nt ?_
 refine sr ?_
 obtain⟨r4,Uc,h⟩:=aa h
 have Ul:=jH k ([]:(List Int)) r4 Uc
 refine ja (eh (N:=[(.const (.slice none 0 0),.eq (.slice none 0 0))]) (ap [.const (.slice none 0 0)] rfl rfl EU rfl Ul) fun _ _ _ hn=>⟨(kB (t:=(.slice (.int .i64))) (x:=([]:(List Int))) .nil rfl rfl hn.1),trivial⟩) ?_
 obtain⟨r5,Ub,h⟩:=aa h
 have Uk:=rO k r5 Ub
 refine aE rfl (ap [] rfl rfl Kt rfl Uk) trivial ?_
 obtain⟨r6,Ua,h⟩:=aa h
 have Uj:=rj k r4 r5 r6 Ua
 refine kb (gV [.tmp 26,.tmp 27] rfl rfl Sz rfl Uj) ?_
 refine mq ?_
 refine xr ?_
 refine xr ?_
 refine aq ?_
 refine aq ?_
 refine nt ?_
 refine sr ?_
 obtain⟨r7,T9,h⟩:=aa h
 have Ui:=jH k ([]:(List Int)) r7 T9
 refine ja (eh (N:=[(.const (.slice none 0 0),.eq (.slice none 0 0))]) (ap [.const (.slice none 0 0)] rfl rfl EU rfl Ui) fun _ _ _ hn=>⟨(kB (t:=(.slice (.int .i64))) (x:=([]:(List Int))) .nil rfl rfl hn.1),trivial⟩) ?_
 obtain⟨r8,T8,h⟩:=aa h
 have Uh:=yU k r7 r8 T8
 refine ja (gV [.tmp 32] rfl rfl SA rfl Uh) ?_
 refine mq ?_
 refine xr ?_
 refine xr ?_
 refine xr ?_
 refine aq ?_
 refine aq ?_
 refine aq ?_
 refine nt ?_
 refine sr ?_
 obtain⟨r9,TZ,h⟩:=aa h
 have Ug:=jH k ([]:(List Int)) r9 TZ
 refine ja (eh (N:=[(.const (.slice none 0 0),.eq (.slice none 0 0))]) (ap [.const (.slice none 0 0)] rfl rfl EU rfl Ug) fun _ _ _ hn=>⟨(kB (t:=(.slice (.int .i64))) (x:=([]:(List Int))) .nil rfl rfl hn.1),trivial⟩) ?_
 obtain⟨E,qt,h⟩:=aa h
 have TP:=Hr k E qt
 refine aE rfl (ap [] rfl rfl Sv rfl TP) trivial ?_
 obtain⟨TY,pp,h⟩:=aa h
 have TO:=yT k r9 E TY pp
 refine kb (gV [.tmp 38,.tmp 39] rfl rfl SC rfl TO) ?_
 refine mq ?_
 refine xr ?_
 refine xr ?_
 refine xr ?_
 refine xr ?_
 refine aq ?_
 refine aq ?_
 refine aq ?_
 refine aq ?_
 refine nt ?_
 refine sr ?_
 obtain⟨D,mc,h⟩:=aa h
 have TN:=jH k ([]:(List Int)) D mc
 refine ja (eh (N:=[(.const (.slice none 0 0),.eq (.slice none 0 0))]) (ap [.const (.slice none 0 0)] rfl rfl EU rfl TN) fun _ _ _ hn=>⟨(kB (t:=(.slice (.int .i64))) (x:=([]:(List Int))) .nil rfl rfl hn.1),trivial⟩) ?_
 obtain⟨y,ac,h⟩:=aa h
 have TM:=rO k y ac
 refine aE rfl (ap [] rfl rfl Kt rfl TM) trivial ?_
 obtain⟨u,Y,h⟩:=aa h
 have TL:=vU k D y 0 1 u Y
 refine bV rfl rfl rfl (gV [.tmp 46,.tmp 47,.const (.int .i64 (0)),.const (.int .i64 (1))] rfl rfl SB rfl TL) ⟨rfl,rfl,rfl,rfl,trivial⟩ ?_
 refine mq ?_
 refine xr ?_
 refine xr ?_
 refine xr ?_
 refine aq ?_
 refine aq ?_
 refine aq ?_
 refine nt ?_
 refine sr ?_
 obtain⟨n,X,h⟩:=aa h
 have TK:=jH k ([]:(List Int)) n X
 refine ja (eh (N:=[(.const (.slice none 0 0),.eq (.slice none 0 0))]) (ap [.const (.slice none 0 0)] rfl rfl EU rfl TK) fun _ _ _ hn=>⟨(kB (t:=(.slice (.int .i64))) (x:=([]:(List Int))) .nil rfl rfl hn.1),trivial⟩) ?_
 obtain⟨l,U,h⟩:=aa h
 have TJ:=rO k l U
 refine aE rfl (ap [] rfl rfl Kt rfl TJ) trivial ?_
 obtain⟨TX,Q,h⟩:=aa h
 have se:=xw k n l TX Q
 refine kb (ap [.tmp 53,.tmp 54] rfl rfl Su rfl se) ?_
 refine mq ?_
 refine xr ?_
 refine xr ?_
 refine aq ?_
 refine aq ?_
 refine nt ?_
 refine aN (Z:=Unit) (α:=Bool) (fun e c=>[(0,.eq (.bool c))]) (fun e c=>[.inv 0 (iZ)]) h (fun K h=>?_) (fun e c h=>?_)
 ·
  refine ab (mq ?_);refine jb (fW rfl) ?_;refine mq ?_;refine cp (s:=60) rfl (fun hb=>?_) (fun hb=>?_)
  ·replace h:=cE (ou hb) h;refine gm ?_;refine gb (fW rfl) ?_;refine pt ?_;refine mq ?_;refine cp (s:=64) rfl (fun hb=>?_) (fun hb=>?_)
   ·replace h:=cE (ou hb) h;refine gm ?_;refine gb (fW rfl) ?_;refine pt ?_;refine mq ?_;refine cp (s:=68) rfl (fun hb=>?_) (fun hb=>?_)
    ·replace h:=cE (ou hb) h;refine gm ?_;refine gb (fW rfl) ?_;refine pt ?_;refine mq ?_;refine cp (s:=72) rfl (fun hb=>?_) (fun hb=>?_)
     ·replace h:=cE (ou hb) h;refine gm ?_;refine gb (fW rfl) ?_;refine pt ?_;refine mq ?_;refine cp (s:=76) rfl (fun hb=>?_) (fun hb=>?_)
      ·replace h:=cE (ou hb) h;refine gm ?_;refine gb (fW rfl) ?_;refine pt ?_;refine mq ?_;refine cp (s:=80) rfl (fun hb=>?_) (fun hb=>?_)
       ·replace h:=cE (ou hb) h;refine gm ?_;refine gb (fW rfl) ?_;refine pt ?_;refine mq ?_;refine cp (s:=84) rfl (fun hb=>?_) (fun hb=>?_)
        ·replace h:=cE (ou hb) h;refine gm ?_;refine gb (fW rfl) ?_;refine pt ?_;refine mq ?_;refine cp (s:=88) rfl (fun hb=>?_) (fun hb=>?_)
         ·replace h:=cE (ou hb) h;refine gm ?_;refine gb (fW rfl) ?_;refine pt ?_;refine mq ?_;refine cp (s:=92) rfl (fun hb=>?_) (fun hb=>?_)
          ·replace h:=cE (ou hb) h;refine gm ?_;refine gb (fW rfl) ?_;refine pt ?_;refine mq ?_;refine cp (s:=96) rfl (fun hb=>?_) (fun hb=>?_)
           ·replace h:=cE (ou hb) h;refine gm ?_;refine gb (fW rfl) ?_;refine pt ?_;refine mq ?_;refine cp (s:=100) rfl (fun hb=>?_) (fun hb=>?_)
            ·replace h:=cE (ou hb) h;refine gm ?_;refine gb (fW rfl) ?_;refine pt ?_;refine mq ?_;refine cp (s:=104) rfl (fun hb=>?_) (fun hb=>?_)
             ·replace h:=cE (ou hb) h;refine gm ?_;obtain⟨Up,F,h⟩:=aa h;refine gb (GQ rfl (aB F)) ?_;refine pt ?_;refine mq ?_;refine cp (s:=108) rfl (fun hb=>?_) (fun hb=>?_)
              ·replace h:=cE (D2 hb) h;refine gm ?_;refine ga (bj (t:=(.int .i64)) [(.const (.int .i64 (0)),_)] [0] rfl rfl dB (.cons rfl .int .nil) rfl rfl) ?_;obtain⟨TU,O,h⟩:=aa h;refine gb (ap [.tmp 109,.tmp 110] rfl rfl EV rfl (fK k r3.1 [0] TU O)) ?_;refine pt ?_;refine mq ?_;refine cp (s:=113) rfl (fun hb=>?_) (fun hb=>?_)
               ·replace h:=cE (D2 hb) h;refine gm ?_;refine gc (bj (t:=(.int .i64)) [(.const (.int .i64 (0)),_),(.const (.int .i64 (1)),_),(.const (.int .i64 (3)),_)] [0,1,3] rfl rfl dB (.cons rfl .int (.cons rfl .int (.cons rfl .int .nil))) rfl rfl) ?_;refine ga (bj (t:=(.int .i64)) [(.const (.int .i64 (2)),_)] [2] rfl rfl dB (.cons rfl .int .nil) rfl rfl) ?_;refine gb (bj (t:=(.slice (.int .i64))) [(.tmp 115,_),(.tmp 116,_)] [[0,1,3],[2]] rfl rfl oN (.cons rfl .rep (.cons rfl .rep .nil)) rfl rfl) ?_;obtain⟨TS,M,h⟩:=aa h;refine gb (ap [.tmp 114,.tmp 117] rfl rfl Ku rfl (iL k r3.2.1 [[0,1,3],[2]] TS M)) ?_;refine pt ?_;refine mq ?_;refine cp (s:=120) rfl (fun hb=>?_) (fun hb=>?_)
                ·replace h:=cE (D2 hb) h;refine gm ?_;refine gb (bj (t:=(.int .i64)) [(.const (.int .i64 (2)),_),(.const (.int .i64 (0)),_)] [2,0] rfl rfl dB (.cons rfl .int (.cons rfl .int .nil)) rfl rfl) ?_;refine gb (bj (t:=(.int .i64)) [(.const (.int .i64 (1)),_),(.const (.int .i64 (3)),_)] [1,3] rfl rfl dB (.cons rfl .int (.cons rfl .int .nil)) rfl rfl) ?_;refine gb (bj (t:=(.slice (.int .i64))) [(.tmp 122,_),(.tmp 123,_)] [[2,0],[1,3]] rfl rfl oN (.cons rfl .rep (.cons rfl .rep .nil)) rfl rfl) ?_;obtain⟨TR,J,h⟩:=aa h;refine gb (ap [.tmp 121,.tmp 124] rfl rfl Ku rfl (iL k r8.1 [[2,0],[1,3]] TR J)) ?_;refine pt ?_;refine mq ?_;refine cp (s:=127) rfl (fun hb=>?_) (fun hb=>?_)
                 ·replace h:=cE (D2 hb) h;refine gm ?_;refine gc (bj (t:=(.int .i64)) [(.const (.int .i64 (0)),_),(.const (.int .i64 (1)),_),(.const (.int .i64 (3)),_)] [0,1,3] rfl rfl dB (.cons rfl .int (.cons rfl .int (.cons rfl .int .nil))) rfl rfl) ?_;obtain⟨j,I,h⟩:=aa h;refine gb (ap [.tmp 128,.tmp 129] rfl rfl EV rfl (fK k u.1 [0,1,3] j I)) ?_;refine pt ?_;refine aq (nl ?_);exact jz ((),j) h [0]
                 ·replace h:=bN (D3 hb) h;iterate 3 refine gn ?_
                  refine pf ?_;refine aq (nl ?_);exact jz ((),false) h [0]
                ·replace h:=bN (D3 hb) h;iterate 5 refine gn ?_
                 refine pf ?_;refine mq ?_;iterate 3 refine gn ?_
                 refine pf ?_;refine aq (nl ?_);exact jz ((),false) h [0]
               ·replace h:=bN (D3 hb) h;iterate 5 refine gn ?_
                refine pf ?_;refine mq ?_;iterate 5 refine gn ?_
                refine pf ?_;refine mq ?_;iterate 3 refine gn ?_
                refine pf ?_;refine aq (nl ?_);exact jz ((),false) h [0]
              ·replace h:=bN (D3 hb) h;iterate 3 refine gn ?_
               refine pf ?_;refine mq ?_;iterate 5 refine gn ?_
               refine pf ?_;refine mq ?_;iterate 5 refine gn ?_
               refine pf ?_;refine mq ?_;iterate 3 refine gn ?_
               refine pf ?_;refine aq (nl ?_);exact jz ((),false) h [0]
             ·replace h:=bN (nw hb) h;iterate 2 refine gn ?_
              refine pf ?_;refine mq ?_;iterate 3 refine gn ?_
              refine pf ?_;refine mq ?_;iterate 5 refine gn ?_
              refine pf ?_;refine mq ?_;iterate 5 refine gn ?_
              refine pf ?_;refine mq ?_;iterate 3 refine gn ?_
              refine pf ?_;refine aq (nl ?_);exact jz ((),false) h [0]
            ·replace h:=bN (nw hb) h;iterate 2 refine gn ?_
             refine pf ?_;refine mq ?_;iterate 2 refine gn ?_
             refine pf ?_;refine mq ?_;iterate 3 refine gn ?_
             refine pf ?_;refine mq ?_;iterate 5 refine gn ?_
             refine pf ?_;refine mq ?_;iterate 5 refine gn ?_
             refine pf ?_;refine mq ?_;iterate 3 refine gn ?_
             refine pf ?_;refine aq (nl ?_);exact jz ((),false) h [0]
           ·replace h:=bN (nw hb) h;iterate 2 refine gn ?_
            refine pf ?_;refine mq ?_;iterate 2 refine gn ?_
            refine pf ?_;refine mq ?_;iterate 2 refine gn ?_
            refine pf ?_;refine mq ?_;iterate 3 refine gn ?_
            refine pf ?_;refine mq ?_;iterate 5 refine gn ?_
            refine pf ?_;refine mq ?_;iterate 5 refine gn ?_
            refine pf ?_;refine mq ?_;iterate 3 refine gn ?_
            refine pf ?_;refine aq (nl ?_);exact jz ((),false) h [0]
          ·replace h:=bN (nw hb) h;iterate 2 refine gn ?_
           refine pf ?_;refine mq ?_;iterate 2 refine gn ?_
           refine pf ?_;refine mq ?_;iterate 2 refine gn ?_
           refine pf ?_;refine mq ?_;iterate 2 refine gn ?_
           refine pf ?_;refine mq ?_;iterate 3 refine gn ?_
           refine pf ?_;refine mq ?_;iterate 5 refine gn ?_
           refine pf ?_;refine mq ?_;iterate 5 refine gn ?_
           refine pf ?_;refine mq ?_;iterate 3 refine gn ?_
           refine pf ?_;refine aq (nl ?_);exact jz ((),false) h [0]
         ·replace h:=bN (nw hb) h;iterate 2 refine gn ?_
          refine pf ?_;refine mq ?_;iterate 2 refine gn ?_
          refine pf ?_;refine mq ?_;iterate 2 refine gn ?_
          refine pf ?_;refine mq ?_;iterate 2 refine gn ?_
          refine pf ?_;refine mq ?_;iterate 2 refine gn ?_
          refine pf ?_;refine mq ?_;iterate 3 refine gn ?_
          refine pf ?_;refine mq ?_;iterate 5 refine gn ?_
          refine pf ?_;refine mq ?_;iterate 5 refine gn ?_
          refine pf ?_;refine mq ?_;iterate 3 refine gn ?_
          refine pf ?_;refine aq (nl ?_);exact jz ((),false) h [0]
        ·replace h:=bN (nw hb) h;iterate 2 refine gn ?_
         refine pf ?_;refine mq ?_;iterate 2 refine gn ?_
         refine pf ?_;refine mq ?_;iterate 2 refine gn ?_
         refine pf ?_;refine mq ?_;iterate 2 refine gn ?_
         refine pf ?_;refine mq ?_;iterate 2 refine gn ?_
         refine pf ?_;refine mq ?_;iterate 2 refine gn ?_
         refine pf ?_;refine mq ?_;iterate 3 refine gn ?_
         refine pf ?_;refine mq ?_;iterate 5 refine gn ?_
         refine pf ?_;refine mq ?_;iterate 5 refine gn ?_
         refine pf ?_;refine mq ?_;iterate 3 refine gn ?_
         refine pf ?_;refine aq (nl ?_);exact jz ((),false) h [0]
       ·replace h:=bN (nw hb) h;iterate 2 refine gn ?_
        refine pf ?_;refine mq ?_;iterate 2 refine gn ?_
        refine pf ?_;refine mq ?_;iterate 2 refine gn ?_
        refine pf ?_;refine mq ?_;iterate 2 refine gn ?_
        refine pf ?_;refine mq ?_;iterate 2 refine gn ?_
        refine pf ?_;refine mq ?_;iterate 2 refine gn ?_
        refine pf ?_;refine mq ?_;iterate 2 refine gn ?_
        refine pf ?_;refine mq ?_;iterate 3 refine gn ?_
        refine pf ?_;refine mq ?_;iterate 5 refine gn ?_
        refine pf ?_;refine mq ?_;iterate 5 refine gn ?_
        refine pf ?_;refine mq ?_;iterate 3 refine gn ?_
        refine pf ?_;refine aq (nl ?_);exact jz ((),false) h [0]
      ·replace h:=bN (nw hb) h;iterate 2 refine gn ?_
       refine pf ?_;refine mq ?_;iterate 2 refine gn ?_
       refine pf ?_;refine mq ?_;iterate 2 refine gn ?_
       refine pf ?_;refine mq ?_;iterate 2 refine gn ?_
       refine pf ?_;refine mq ?_;iterate 2 refine gn ?_
       refine pf ?_;refine mq ?_;iterate 2 refine gn ?_
       refine pf ?_;refine mq ?_;iterate 2 refine gn ?_
       refine pf ?_;refine mq ?_;iterate 2 refine gn ?_
       refine pf ?_;refine mq ?_;iterate 3 refine gn ?_
       refine pf ?_;refine mq ?_;iterate 5 refine gn ?_
       refine pf ?_;refine mq ?_;iterate 5 refine gn ?_
       refine pf ?_;refine mq ?_;iterate 3 refine gn ?_
       refine pf ?_;refine aq (nl ?_);exact jz ((),false) h [0]
     ·replace h:=bN (nw hb) h;iterate 2 refine gn ?_
      refine pf ?_;refine mq ?_;iterate 2 refine gn ?_
      refine pf ?_;refine mq ?_;iterate 2 refine gn ?_
      refine pf ?_;refine mq ?_;iterate 2 refine gn ?_
      refine pf ?_;refine mq ?_;iterate 2 refine gn ?_
      refine pf ?_;refine mq ?_;iterate 2 refine gn ?_
      refine pf ?_;refine mq ?_;iterate 2 refine gn ?_
      refine pf ?_;refine mq ?_;iterate 2 refine gn ?_
      refine pf ?_;refine mq ?_;iterate 2 refine gn ?_
      refine pf ?_;refine mq ?_;iterate 3 refine gn ?_
      refine pf ?_;refine mq ?_;iterate 5 refine gn ?_
      refine pf ?_;refine mq ?_;iterate 5 refine gn ?_
      refine pf ?_;refine mq ?_;iterate 3 refine gn ?_
      refine pf ?_;refine aq (nl ?_);exact jz ((),false) h [0]
    ·replace h:=bN (nw hb) h;iterate 2 refine gn ?_
     refine pf ?_;refine mq ?_;iterate 2 refine gn ?_
     refine pf ?_;refine mq ?_;iterate 2 refine gn ?_
     refine pf ?_;refine mq ?_;iterate 2 refine gn ?_
     refine pf ?_;refine mq ?_;iterate 2 refine gn ?_
     refine pf ?_;refine mq ?_;iterate 2 refine gn ?_
     refine pf ?_;refine mq ?_;iterate 2 refine gn ?_
     refine pf ?_;refine mq ?_;iterate 2 refine gn ?_
     refine pf ?_;refine mq ?_;iterate 2 refine gn ?_
     refine pf ?_;refine mq ?_;iterate 2 refine gn ?_
     refine pf ?_;refine mq ?_;iterate 3 refine gn ?_
     refine pf ?_;refine mq ?_;iterate 5 refine gn ?_
     refine pf ?_;refine mq ?_;iterate 5 refine gn ?_
     refine pf ?_;refine mq ?_;iterate 3 refine gn ?_
     refine pf ?_;refine aq (nl ?_);exact jz ((),false) h [0]
   ·replace h:=bN (nw hb) h;iterate 2 refine gn ?_
    refine pf ?_;refine mq ?_;iterate 2 refine gn ?_
    refine pf ?_;refine mq ?_;iterate 2 refine gn ?_
    refine pf ?_;refine mq ?_;iterate 2 refine gn ?_
    refine pf ?_;refine mq ?_;iterate 2 refine gn ?_
    refine pf ?_;refine mq ?_;iterate 2 refine gn ?_
    refine pf ?_;refine mq ?_;iterate 2 refine gn ?_
    refine pf ?_;refine mq ?_;iterate 2 refine gn ?_
    refine pf ?_;refine mq ?_;iterate 2 refine gn ?_
    refine pf ?_;refine mq ?_;iterate 2 refine gn ?_
    refine pf ?_;refine mq ?_;iterate 2 refine gn ?_
    refine pf ?_;refine mq ?_;iterate 3 refine gn ?_
    refine pf ?_;refine mq ?_;iterate 5 refine gn ?_
    refine pf ?_;refine mq ?_;iterate 5 refine gn ?_
    refine pf ?_;refine mq ?_;iterate 3 refine gn ?_
    refine pf ?_;refine aq (nl ?_);exact jz ((),false) h [0]
  ·replace h:=bN (nw hb) h;iterate 2 refine gn ?_
   refine pf ?_;refine mq ?_;iterate 2 refine gn ?_
   refine pf ?_;refine mq ?_;iterate 2 refine gn ?_
   refine pf ?_;refine mq ?_;iterate 2 refine gn ?_
   refine pf ?_;refine mq ?_;iterate 2 refine gn ?_
   refine pf ?_;refine mq ?_;iterate 2 refine gn ?_
   refine pf ?_;refine mq ?_;iterate 2 refine gn ?_
   refine pf ?_;refine mq ?_;iterate 2 refine gn ?_
   refine pf ?_;refine mq ?_;iterate 2 refine gn ?_
   refine pf ?_;refine mq ?_;iterate 2 refine gn ?_
   refine pf ?_;refine mq ?_;iterate 2 refine gn ?_
   refine pf ?_;refine mq ?_;iterate 2 refine gn ?_
   refine pf ?_;refine mq ?_;iterate 3 refine gn ?_
   refine pf ?_;refine mq ?_;iterate 5 refine gn ?_
   refine pf ?_;refine mq ?_;iterate 5 refine gn ?_
   refine pf ?_;refine mq ?_;iterate 3 refine gn ?_
   refine pf ?_;refine aq (nl ?_);exact jz ((),false) h [0]
 ·
  refine ay ?_;cases h;exact aP () [_] 1 ⟨rfl,trivial⟩ rfl
def kT(k:Nat)(a0:aS)(a1:eF)(a2:(List (List Int)))(a3:bS):Option ((List aS)×(List (List (List Int)))×bS):=
 (kw k (a3.1,a3.2.1,a3.2.2) 4 3).bind fun r3=>
 (iN k r3.1).bind fun r5=>
 (dX k a1.2).bind fun r8=>
 (dz (bL (List.length r5.2.1+List.length [(a1.1,r8)]))).bind fun _=>
 (fa k (r3.2.1,r3.2.2.1,r3.2.2.2) r3.1).bind fun e=>
 (fa k (e.2.1,e.2.2.1,e.2.2.2) r3.1).bind fun c=>
 (((ck ((r3.1.2.2.length:Int) - 1)).bind fun h=>
 if(r5.2.2.length:Int) < 3 then((aR r5.2.2 h).bind fun u=>
 (ck (u+3)).bind fun s=>
 (aR r5.2.2 h).bind fun y=>
 (aR [a2,e.1,a2,c.1] 3).bind fun r=>
 (ff k r).bind fun n=>
 (aR [a2,e.1,a2,c.1] 3).bind fun x=>
 (aR n h).bind fun j=>
 (dz (bL (List.length j+List.length [(r3.1.2.1.length:Int)]))).bind fun _=>
 some (List.set r5.2.2 (Int.toNat h) (jY 9 s),List.set [a2,e.1,a2,c.1] (Int.toNat 3) (List.set n (Int.toNat h) (j++[(r3.1.2.1.length:Int)])))) else(some (r5.2.2,[a2,e.1,a2,c.1]))):Option ((List Int)×(List (List (List Int))))).bind fun l=>
 some ([a0,r3.1,r3.1,(r5.1,r5.2.1++[(a1.1,r8)],l.1)],l.2,(c.2.1,c.2.2.1,c.2.2.2))
theorem vn(k:Nat)(a0:aS)(a1:eF)(a2:(List (List Int)))(a3:bS)(e:Nat)(r:(List aS)×(List (List (List Int)))×bS)(h:kT k a0 a1 a2 a3=some r):
 bX Tryz.prog 14 [.rep av a0,.rep aY a1,.rep (.slice (.slice (.int .i64))) a2,Pt e] [.obj e 75 (.agg (.pair (Ri a3.1) (.pair (I a3.2.1) (.eq (.int .u64 a3.2.2)))))] (fun _:Unit=>(bu [Rs av r.1,.rep (.slice (.slice (.slice (.int .i64)))) r.2.1],[.obj e 75 (.agg (.pair (Ri r.2.2.1) (.pair (I r.2.2.2.1) (.eq (.int .u64 r.2.2.2.2)))))])):=by
 unfold kT at h
 replace h:=ba h
 refine bX.of 85 Tryz.func14 rfl Tryz.ntmps14 rfl fun S w0=>?_
 refine sr ?_
 refine bx fun b1=>?_
 refine bx fun b2=>?_
 refine cq ?_
 refine cq ?_
 refine nt ?_
 refine sr ?_
 refine mq ?_
 obtain⟨r3,Up,h⟩:=aa h
 have Ut:=wi k (a3.1,a3.2.1,a3.2.2) e 4 3 r3 Up
 refine fr 2 ?_
 refine kc (ap [.tmp 14,.const (.int .i64 (4)),.const (.int .i64 (3))] rfl rfl Ss rfl Ut) ?_
 refine aF rfl rfl rfl (be rfl kf ml) trivial fun b4=>?_
 refine bh rfl rfl (bb rfl dy rfl rfl rfl) ⟨rfl,rfl,trivial⟩ ?_
 refine nt ?_
 refine sr ?_
 refine lo dy ?_
 obtain⟨r5,Uo,h⟩:=aa h
 have Us:=ua k r3.1 r5 Uo
 refine bR (Δ:=[]) (F:=_) (fun _ _ _=>ax rfl _) rfl rfl (ap [.tmp 16] rfl rfl P6 rfl Us) ⟨rfl,trivial⟩ fun z6=>?_
 refine aF rfl rfl rfl (be rfl kf ml) trivial fun b7=>?_
 refine bh rfl rfl (bb rfl dy trivial rfl rfl) ⟨rfl,rfl,trivial⟩ ?_
 refine nt ?_
 refine ag ?_
 refine bI ?_
 refine da (ar rfl bU) ?_
 refine ea 0 (aj rfl fi i9 rfl) ?_
 refine da (ar rfl kz) ?_
 refine ea 5 (aj rfl cg i9 rfl) ?_
 refine da (ar rfl jZ) ?_
 refine ea 5 (aj rfl bQ i9 rfl) ?_
 obtain⟨r8,Un,h⟩:=aa h
 have Ur:=ct k a1.2 r8 Un
 refine da (so (ap [.tmp 23] rfl rfl ue rfl Ur)) ?_
 refine db (cH [(0,.tmp 21,_),(1,.tmp 24,_)] rfl zl t4 tY (g7 ⟨rfl,rfl,trivial⟩) rfl) ?_
 refine da (bj (t:=aY) [(.tmp 25,_)] [(a1.1,r8)] rfl rfl xz (.cons trivial (.agg (.pair .int .rep)) .nil) rfl rfl) ?_
 refine df cz ?_
 obtain⟨u9,Um,h⟩:=aa h
 refine fr 1 ?_
 refine cU rfl rfl rfl (bD rfl rfl xz (aB Um)) ⟨rfl,rfl,trivial⟩ fun j=>?_
 refine fl bU ?_
 refine nX fun o11=>?_
 refine fr 1 ?_
 refine bh rfl rfl (bb rfl fi o11 rfl rfl) ⟨rfl,rfl,trivial⟩ ?_
 refine nt ?_
 refine ag ?_
 refine Fh [0,2,4,5,6,1,3,7,8,9] (by kernel_rfl) ?_
 refine aI rfl rfl rfl (aH rfl) ⟨rfl,trivial⟩ ?_
 refine dk 3 rfl rfl rfl rfl (aj rfl dy (tR) rfl) ⟨rfl,trivial⟩ ?_
 refine aI rfl rfl rfl (aH rfl) ⟨rfl,trivial⟩ ?_
 refine aI rfl rfl rfl (aH rfl) ⟨rfl,trivial⟩ ?_
 refine dk 3 rfl rfl rfl rfl (aj rfl dy (tR) rfl) ⟨rfl,trivial⟩ ?_
 refine aI rfl rfl rfl (aH rfl) ⟨rfl,trivial⟩ ?_
 refine mg 6 [false,true,false,false,false,true] [32,36] [3] [.obj b4 25 (.rep av r3.1)] rfl (by kernel_rfl) (by kernel_rfl) (by kernel_rfl) cz (fun vs hv hB=>?_)
 obtain⟨w0,Ui,rfl,TK⟩:=an hv
 obtain⟨w1,Uh,rfl,TJ⟩:=an TK
 obtain⟨w2,Ug,rfl,se⟩:=an TJ
 obtain⟨w3,Uf,rfl,qt⟩:=an se
 obtain⟨w4,Ue,rfl,pp⟩:=an qt
 obtain⟨w5,Ud,rfl,mc⟩:=an pp
 obtain rfl:=jW mc
 refine⟨[3,0,1,2,4,5,6],[.obj b7 25 (.agg (.pair (I r5.1) (.pair (.eq j) (.eq z6.2)))),.sl j 27 aY (r5.2.1++[(a1.1,r8)]),.sl z6.2 3 (.int .i64) r5.2.2,.obj e 75 (.agg (.pair (Ri r3.2.1) (.pair (I r3.2.2.1) (.eq (.int .u64 r3.2.2.2))))),.obj b2 27 (.rep aY a1),.obj b1 25 (.rep av a0)],by kernel_rfl,by decide,?_⟩
 obtain⟨x,T9,h⟩:=aa h
 have Ub:=nk k (r3.2.1,r3.2.2.1,r3.2.2.2) e r3.1 x T9
 refine iJ 3 rfl ?_
 refine vL rfl rfl rfl rfl (ap [.tmp 30,.tmp 31] rfl rfl PW rfl Ub) ⟨rfl,rfl,trivial⟩ (by kernel_rfl) ?_
 obtain⟨c,T8,h⟩:=aa h
 have Ua:=nk k (x.2.1,x.2.2.1,x.2.2.2) e r3.1 c T8
 refine vL rfl rfl rfl rfl (ap [.tmp 34,.tmp 35] rfl rfl PW rfl Ua) ⟨rfl,rfl,trivial⟩ (by kernel_rfl) ?_
 refine Cm (by kernel_rfl) ?_
 refine aF rfl rfl rfl (lY (t:=(.slice (.slice (.int .i64)))) [(.tmp 29,_),(.tmp 32,_),(.tmp 33,_),(.tmp 36,_)] [a2,x.1,a2,c.1] rfl rfl Q7 (.cons rfl .rep (.cons rfl .rep (.cons rfl .rep (.cons rfl .rep .nil)))) rfl rfl) ⟨rfl,rfl,rfl,rfl,trivial⟩ fun y=>?_
 refine aq ?_
 refine nt ?_
 refine aN (Z:=Unit) (α:=(List Int)×(List (List (List Int)))) (fun TL U=>[(4,Pt b1),(10,Pt b4),(11,Pt b7),(12,.eq y)]) (fun TL U=>[.obj b1 25 (.rep av a0),.obj b4 25 (.rep av r3.1),.obj b7 25 (.agg (.pair (I r5.1) (.pair (.eq j) (.eq z6.2)))),.sl j 27 aY (r5.2.1++[(a1.1,r8)]),.sl z6.2 3 (.int .i64) U.1,.sl y 28 (.slice (.slice (.int .i64))) U.2,.obj e 75 (.agg (.pair (Ri c.2.1) (.pair (I c.2.2.1) (.eq (.int .u64 c.2.2.2)))))]) h (fun K h=>?_) (fun TL U h=>?_)
 ·
  refine sr (fl cI ?_);refine fr 1 ?_;refine lo bQ ?_;refine ol dC ?_;obtain⟨s,TX,h⟩:=aa h;refine jb (fV rfl TX) ?_;refine aq (nt (sr ?_));refine fl cI ?_;refine fr 3 ?_;refine lo bQ ?_;refine fr 5 ?_;refine ka (c9 rfl rfl dC) ?_;refine jb (bq rfl) ?_;refine nt (ci h (fun h=>?_) (fun h=>?_))
  ·refine ag (bI ?_);refine da (ar rfl cI) ?_;refine ea 1 (aj rfl bQ i9 rfl) ?_;refine dm ?_;refine da (ar rfl cI) ?_;refine ea 1 (aj rfl bQ i9 rfl) ?_;refine dm ?_;obtain⟨UD,ac,h⟩:=aa h;refine eb 0 (aZ (t:=(.int .i64)) rfl dC cg ac) ?_;refine ea 0 (dQ (i:=Int.toNat s) (off:=0) rfl cg (fun _=>rfl) rfl (cy ac).2.2 rfl) ?_;obtain⟨D,TU,h⟩:=aa h;refine db (bf rfl TU) ?_;refine db (CZ rfl rfl) ?_;refine df cz ?_;obtain⟨UC,Y,h⟩:=aa h;refine kb (aZ (t:=(.int .i64)) rfl dC cg Y) ?_;refine bh rfl rfl (cR (i:=Int.toNat s) rfl cg rfl (gW Y) rfl .int rfl) ⟨rfl,rfl,trivial⟩ ?_;refine nt (sr ?_);iterate 2 refine mq ?_
   obtain⟨Uc,X,h⟩:=aa h;refine fr 3 ?_;refine kb (aZ (t:=(.slice (.slice (.int .i64)))) rfl LH qd X) ?_;refine ka (dQ (i:=Int.toNat 3) (off:=0) rfl qd (fun _=>rfl) rfl (cy X).2.2 rfl) ?_;obtain⟨E,TZ,h⟩:=aa h;refine bR (Δ:=[]) (F:=[.sl y 28 (.slice (.slice (.int .i64))) [a2,x.1,a2,c.1],.sl z6.2 3 (.int .i64) (List.set r5.2.2 (Int.toNat s) (jY 9 D)),.obj b7 25 (.agg (.pair (I r5.1) (.pair (.eq j) (.eq z6.2)))),.obj b4 25 (.rep av r3.1),.obj e 75 (.agg (.pair (Ri c.2.1) (.pair (I c.2.2.1) (.eq (.int .u64 c.2.2.2))))),.sl j 27 aY (r5.2.1++[(a1.1,r8)]),.obj b2 27 (.rep aY a1),.obj b1 25 (.rep av a0)]) (fun _ _ _=>ax rfl _) rfl rfl (ap [.tmp 60] rfl rfl P3 rfl (rQ k Uc E TZ)) ⟨rfl,trivial⟩ fun n=>?_;refine cC (fE List.perm_append_comm) ?_;obtain⟨UB,M,h⟩:=aa h;refine kb (aZ (t:=(.slice (.slice (.int .i64)))) rfl LH qd M) ?_;refine ID (pre:=[.sl y 28 (.slice (.slice (.int .i64))) [a2,x.1,a2,c.1],.sl z6.2 3 (.int .i64) (List.set r5.2.2 (Int.toNat s) (jY 9 D)),.obj b7 25 (.agg (.pair (I r5.1) (.pair (.eq j) (.eq z6.2)))),.obj b4 25 (.rep av r3.1),.obj e 75 (.agg (.pair (Ri c.2.1) (.pair (I c.2.2.1) (.eq (.int .u64 c.2.2.2))))),.sl j 27 aY (r5.2.1++[(a1.1,r8)]),.obj b2 27 (.rep aY a1),.obj b1 25 (.rep av a0)]) fun oz25=>?_;refine cC E5 ?_;refine bh rfl rfl (cR (i:=Int.toNat 3) rfl qd rfl (by rw [List.length_map];exact gW M) rfl (.altR oz25) oz25) ⟨rfl,rfl,trivial⟩ ?_;refine nt ?_;obtain⟨Q,J,h⟩:=aa h;refine dJ (tH (pre:=[.sl y 28 (.alt (.slice (.slice (.int .i64)))) (List.set (List.map Sum.inl [a2,x.1,a2,c.1]) (Int.toNat 3) (.inr n.1)),.sl z6.2 3 (.int .i64) (List.set r5.2.2 (Int.toNat s) (jY 9 D)),.obj b7 25 (.agg (.pair (I r5.1) (.pair (.eq j) (.eq z6.2)))),.obj b4 25 (.rep av r3.1),.obj e 75 (.agg (.pair (Ri c.2.1) (.pair (I c.2.2.1) (.eq (.int .u64 c.2.2.2))))),.sl j 27 aY (r5.2.1++[(a1.1,r8)]),.obj b2 27 (.rep aY a1),.obj b1 25 (.rep av a0)]) (pS J).2) ?_;obtain⟨UL,TY,h⟩:=aa h;refine su (Δ:=[.sl (n.2 (Int.toNat s)) 3 (.int .i64) Q,.sl n.1 23 .val (eu n.2 0 E),.sl y 28 (.alt (.slice (.slice (.int .i64)))) (List.set (List.map Sum.inl [a2,x.1,a2,c.1]) (Int.toNat 3) (.inr n.1)),.sl z6.2 3 (.int .i64) (List.set r5.2.2 (Int.toNat s) (jY 9 D)),.obj b7 25 (.agg (.pair (I r5.1) (.pair (.eq j) (.eq z6.2)))),.obj b4 25 (.rep av r3.1),.obj e 75 (.agg (.pair (Ri c.2.1) (.pair (I c.2.2.1) (.eq (.int .u64 c.2.2.2))))),.sl j 27 aY (r5.2.1++[(a1.1,r8)]),.obj b2 27 (.rep aY a1),.obj b1 25 (.rep av a0)]) (F:=(kJ n.2 0 E).eraseIdx (Int.toNat s)) (Z:=Value) (fun i=>[(4,Pt b1),(10,Pt b4),(11,Pt b7),(12,.eq y)]) (fun i=>[.sl n.1 23 .val (List.set (eu n.2 0 E) (Int.toNat s) i),.sl i 3 (.int .i64) (Q++[(r3.1.2.1.length:Int)]),.sl y 28 (.alt (.slice (.slice (.int .i64)))) (List.set (List.map Sum.inl [a2,x.1,a2,c.1]) (Int.toNat 3) (.inr n.1)),.sl z6.2 3 (.int .i64) (List.set r5.2.2 (Int.toNat s) (jY 9 D)),.obj b7 25 (.agg (.pair (I r5.1) (.pair (.eq j) (.eq z6.2)))),.obj b4 25 (.rep av r3.1),.obj e 75 (.agg (.pair (Ri c.2.1) (.pair (I c.2.2.1) (.eq (.int .u64 c.2.2.2))))),.sl j 27 aY (r5.2.1++[(a1.1,r8)]),.obj b2 27 (.rep aY a1),.obj b1 25 (.rep av a0)]) (fun S w=>?_) (fun O=>?_)
   ·refine jj ?_;refine aI rfl rfl rfl (aH rfl) ⟨rfl,trivial⟩ ?_;refine dk 2 rfl rfl rfl rfl (aZ (t:=.alt (.slice (.slice (.int .i64)))) rfl LH qd (rU M _)) ⟨rfl,rfl,trivial⟩ ?_;refine dk 2 rfl rfl rfl rfl (vb (i:=Int.toNat 3) rfl qd rfl (cy (rU M _)).2.2) ⟨rfl,trivial⟩ ?_;refine aI rfl rfl rfl (aH rfl) ⟨rfl,trivial⟩ ?_;refine aI rfl rfl rfl (aH rfl) ⟨rfl,trivial⟩ ?_;refine dk 2 rfl rfl rfl rfl (aZ (t:=.alt (.slice (.slice (.int .i64)))) rfl LH qd (rU M _)) ⟨rfl,rfl,trivial⟩ ?_;refine dk 2 rfl rfl rfl rfl (vb (i:=Int.toNat 3) rfl qd rfl (cy (rU M _)).2.2) ⟨rfl,trivial⟩ ?_;refine aI rfl rfl rfl (aH rfl) ⟨rfl,trivial⟩ ?_;refine dk 1 rfl rfl rfl rfl (aZ (t:=.val) rfl mm bQ (kE J)) ⟨rfl,rfl,trivial⟩ ?_;refine dk 1 rfl rfl rfl rfl (dQ (i:=Int.toNat s) (off:=0) rfl bQ (fun _=>rfl) rfl (cy (kE J)).2.2 rfl) ⟨rfl,trivial⟩ ?_;refine aI rfl rfl rfl (ar rfl bU) ⟨rfl,trivial⟩ ?_;refine dk 5 rfl rfl rfl rfl (aj rfl fi i9 rfl) ⟨rfl,trivial⟩ ?_;refine aI rfl rfl rfl (jE rfl rfl mL) ⟨rfl,trivial⟩ ?_;refine aI rfl rfl rfl (bj (t:=(.int .i64)) [(.tmp 75,_)] [(r3.1.2.1.length:Int)] rfl rfl dB (.cons rfl .int .nil) rfl rfl) ⟨rfl,trivial⟩ ?_;refine sw 0 rfl (fun v=>[.sl v 3 (.int .i64) (Q++[(r3.1.2.1.length:Int)])]) (fun _=>rfl) rfl rfl rfl (bD rfl rfl dB (aB TY)) ⟨rfl,rfl,trivial⟩ ?_;refine mg 15 [true,true,true,true,true,true,true,true,true,true,true,true,true,true,true] [78] [] [] rfl (by kernel_rfl) (by kernel_rfl) (by kernel_rfl) cz (fun vs hv hB=>?_);obtain⟨w0,Ui,rfl,TK⟩:=an hv;obtain⟨w1,Uh,rfl,TJ⟩:=an TK;obtain⟨w2,Ug,rfl,se⟩:=an TJ;obtain⟨w3,Uf,rfl,qt⟩:=an se;obtain⟨w4,Ue,rfl,pp⟩:=an qt;obtain⟨w5,Ud,rfl,mc⟩:=an pp;obtain⟨w6,UK,rfl,Ul⟩:=an mc;obtain⟨w7,UJ,rfl,Uk⟩:=an Ul;obtain⟨w8,UI,rfl,Uj⟩:=an Uk;obtain⟨w9,UA,rfl,TS⟩:=an Uj;obtain⟨UH,Uz,rfl,TR⟩:=an TS;obtain⟨UG,Uy,rfl,TP⟩:=an TR;obtain⟨UF,Ux,rfl,TO⟩:=an TP;obtain⟨UE,Uw,rfl,TN⟩:=an TO;obtain⟨O,Uu,rfl,TM⟩:=an TN;obtain rfl:=jW TM;refine⟨[0,1,2,3,4,5,6,7,8,9],[.sl n.1 23 .val (eu n.2 0 E),.sl y 28 (.alt (.slice (.slice (.int .i64)))) (List.set (List.map Sum.inl [a2,x.1,a2,c.1]) (Int.toNat 3) (.inr n.1)),.sl z6.2 3 (.int .i64) (List.set r5.2.2 (Int.toNat s) (jY 9 D)),.obj b7 25 (.agg (.pair (I r5.1) (.pair (.eq j) (.eq z6.2)))),.obj b4 25 (.rep av r3.1),.obj e 75 (.agg (.pair (Ri c.2.1) (.pair (I c.2.2.1) (.eq (.int .u64 c.2.2.2))))),.sl j 27 aY (r5.2.1++[(a1.1,r8)]),.obj b2 27 (.rep aY a1),.obj b1 25 (.rep av a0),.sl O 3 (.int .i64) (Q++[(r3.1.2.1.length:Int)])],by kernel_rfl,by decide,?_⟩;refine vL rfl rfl rfl rfl (aZ (t:=.val) rfl mm bQ (kE J)) ⟨rfl,rfl,trivial⟩ (by kernel_rfl) ?_;refine iJ 9 rfl ?_;refine Cj fun o29=>?_;refine iJ 1 rfl ?_;refine nW rfl rfl (cR (i:=Int.toNat s) rfl bQ rfl (gW (kE J)) rfl (.val o29) o29) ⟨rfl,rfl,trivial⟩ (by kernel_rfl) ?_;refine py ?_;refine bv (SE.fin (Γ':=[(4,Pt b1),(10,Pt b4),(11,Pt b7),(12,.eq y)]) (Δ':=[.sl n.1 23 .val (List.set (eu n.2 0 E) (Int.toNat s) O),.sl O 3 (.int .i64) (Q++[(r3.1.2.1.length:Int)]),.sl y 28 (.alt (.slice (.slice (.int .i64)))) (List.set (List.map Sum.inl [a2,x.1,a2,c.1]) (Int.toNat 3) (.inr n.1)),.sl z6.2 3 (.int .i64) (List.set r5.2.2 (Int.toNat s) (jY 9 D)),.obj b7 25 (.agg (.pair (I r5.1) (.pair (.eq j) (.eq z6.2)))),.obj b4 25 (.rep av r3.1),.obj e 75 (.agg (.pair (Ri c.2.1) (.pair (I c.2.2.1) (.eq (.int .u64 c.2.2.2))))),.sl j 27 aY (r5.2.1++[(a1.1,r8)]),.obj b2 27 (.rep aY a1),.obj b1 25 (.rep av a0)]) [0,1,2,3,4,5,6,7,8,9] ⟨rfl,rfl,rfl,rfl,trivial⟩ rfl) ?_
    exact fun a w st=>⟨rfl,(O),(SE.fin (Γ':=[(4,Pt b1),(10,Pt b4),(11,Pt b7),(12,.eq y)]) (Δ':=[.sl n.1 23 .val (List.set (eu n.2 0 E) (Int.toNat s) O),.sl O 3 (.int .i64) (Q++[(r3.1.2.1.length:Int)]),.sl y 28 (.alt (.slice (.slice (.int .i64)))) (List.set (List.map Sum.inl [a2,x.1,a2,c.1]) (Int.toNat 3) (.inr n.1)),.sl z6.2 3 (.int .i64) (List.set r5.2.2 (Int.toNat s) (jY 9 D)),.obj b7 25 (.agg (.pair (I r5.1) (.pair (.eq j) (.eq z6.2)))),.obj b4 25 (.rep av r3.1),.obj e 75 (.agg (.pair (Ri c.2.1) (.pair (I c.2.2.1) (.eq (.int .u64 c.2.2.2))))),.sl j 27 aY (r5.2.1++[(a1.1,r8)]),.obj b2 27 (.rep aY a1),.obj b1 25 (.rep av a0)]) [0,1,2,3,4,5,6,7,8,9] ⟨rfl,rfl,rfl,rfl,trivial⟩ rfl) a w st⟩
   ·show JN _ _ [(4,Pt b1),(10,Pt b4),(11,Pt b7),(12,.eq y)] ([.sl n.1 23 .val (List.set (eu n.2 0 E) (Int.toNat s) O),.sl O 3 (.int .i64) (Q++[(r3.1.2.1.length:Int)]),.sl y 28 (.alt (.slice (.slice (.int .i64)))) (List.set (List.map Sum.inl [a2,x.1,a2,c.1]) (Int.toNat 3) (.inr n.1)),.sl z6.2 3 (.int .i64) (List.set r5.2.2 (Int.toNat s) (jY 9 D)),.obj b7 25 (.agg (.pair (I r5.1) (.pair (.eq j) (.eq z6.2)))),.obj b4 25 (.rep av r3.1),.obj e 75 (.agg (.pair (Ri c.2.1) (.pair (I c.2.2.1) (.eq (.int .u64 c.2.2.2))))),.sl j 27 aY (r5.2.1++[(a1.1,r8)]),.obj b2 27 (.rep aY a1),.obj b1 25 (.rep av a0)]++(kJ n.2 0 E).eraseIdx (Int.toNat s));refine dj 1 rfl ?_;refine bv (vI (pre:=[.sl y 28 (.alt (.slice (.slice (.int .i64)))) (List.set (List.map Sum.inl [a2,x.1,a2,c.1]) (Int.toNat 3) (.inr n.1)),.sl z6.2 3 (.int .i64) (List.set r5.2.2 (Int.toNat s) (jY 9 D)),.obj b7 25 (.agg (.pair (I r5.1) (.pair (.eq j) (.eq z6.2)))),.obj b4 25 (.rep av r3.1),.obj e 75 (.agg (.pair (Ri c.2.1) (.pair (I c.2.2.1) (.eq (.int .u64 c.2.2.2))))),.sl j 27 aY (r5.2.1++[(a1.1,r8)]),.obj b2 27 (.rep aY a1),.obj b1 25 (.rep av a0)]) (z:=n) (i:=Int.toNat s) (pS J).2) ?_;refine ae (bv (Az (pre:=[.sl y 28 (.alt (.slice (.slice (.int .i64)))) (List.set (List.map Sum.inl [a2,x.1,a2,c.1]) (Int.toNat 3) (.inr n.1)),.sl z6.2 3 (.int .i64) (List.set r5.2.2 (Int.toNat s) (jY 9 D)),.obj b7 25 (.agg (.pair (I r5.1) (.pair (.eq j) (.eq z6.2)))),.obj b4 25 (.rep av r3.1),.obj e 75 (.agg (.pair (Ri c.2.1) (.pair (I c.2.2.1) (.eq (.int .u64 c.2.2.2))))),.sl j 27 aY (r5.2.1++[(a1.1,r8)]),.obj b2 27 (.rep aY a1),.obj b1 25 (.rep av a0)])) ?_);refine bv (E6 (u:=.slice (.int .i64)) (l:=[a2,x.1,a2,c.1]) (i:=Int.toNat 3)) ?_;exact jz ((),(List.set r5.2.2 (Int.toNat s) (jY 9 D),List.set [a2,x.1,a2,c.1] (Int.toNat 3) (List.set E (Int.toNat s) (Q++[(r3.1.2.1.length:Int)])))) h [7,3,2,5,1,0,4]
  ·refine aX (ae ?_);exact jz ((),(r5.2.2,[a2,x.1,a2,c.1])) h [7,2,1,5,0,3,4]
 ·
  refine sr (lo dy ?_);refine fr 1 ?_;refine lo dy ?_;refine lo dy ?_;refine fr 2 ?_;refine fr 3 ?_;refine cC (kC (off:=1) [] trivial rfl rfl) ?_;refine fr 3 ?_;refine cC (kC (off:=2) [] trivial rfl rfl) ?_;refine lo dy ?_;refine aE rfl (bj (t:=av) [(.tmp 79,_),(.tmp 80,_),(.tmp 81,_),(.tmp 82,_)] [a0,r3.1,r3.1,(r5.1,r5.2.1++[(a1.1,r8)],U.1)] rfl rfl Q8 (.cons rfl .rep (.cons rfl .rep (.cons rfl .rep (.cons trivial (.agg (.pair .int (.pair .rep .rep))) .nil)))) rfl rfl) ⟨rfl,rfl,rfl,rfl,trivial⟩ ?_;refine mq ?_;refine aq ?_;refine aq (nt (ay ?_));refine dj 3 rfl ?_;refine bv (eJ [9,12,84] ⟨rfl,rfl,rfl,trivial⟩) ?_;refine bv (SE.fin (Γ':=[(8,_),(9,_)]) [3,0,1,2] ⟨rfl,rfl,trivial⟩ rfl) ?_;cases h;exact aP () [_,_] 1 ⟨rfl,rfl,trivial⟩ rfl
def dR(k:Nat)(a3:Int)(e:(List aS)×(List (List (List Int)))×bS)(u:Int×bS)(s:Int×bS):Nat→Int→Option (Except Bool Unit)
 |0,_=>none
 |n+1,c=>
  if c < (e.1.length:Int) then((aR e.1 c).bind fun Y=>
  (jf k Y).bind fun h=>
  (aR e.2.1 c).bind fun X=>
  (ff k X).bind fun r=>
  (aR [a3,u.1,a3,s.1] c).bind fun U=>
  (lr k h r U).bind fun l=>
  (aR e.1 c).bind fun Q=>
  (aR e.2.1 c).bind fun O=>
  (aR [a3,u.1,a3,s.1] c).bind fun M=>
  (nL k Q O M).bind fun j=>
  (((kh k h).bind fun TK=>
  (aR e.1 c).bind fun I=>
  (lC k I).bind fun TJ=>
  if¬(TK=TJ) then(some true) else((cu k h r).bind fun se=>
  (aR e.1 c).bind fun F=>
  (aR e.2.1 c).bind fun E=>
  (dP k F E).bind fun qt=>
  if¬(se=qt) then(some true) else(if¬(l.2.2=j.2.2) then(some true) else((dE k l.1 j.1).bind fun pp=>
  if¬(pp=true) then(some true) else((eZ k l.2.1 j.2.1).bind fun mc=>
  if¬(mc=true) then(some true) else((aR e.1 c).bind fun D=>
  (jd k h D).bind fun ac=>
  if¬(ac=true) then(some true) else((aR e.2.1 c).bind fun y=>
  (eZ k r y).bind fun Z=>
  some (!Z)))))))):Option (Bool)).bind fun J=>
  if J=true then(some (.error false)) else((ck (c+1)).bind fun x=>
  dR k a3 e u s n x)) else(some (.ok ()))
def kK(k:Nat)(a0:aS)(a1:eF)(a2:(List (List Int)))(a3:Int)(a4:(List Int)):Option Bool:=
 (((ni k a0).bind fun r5=>
 if r5=true then(some true) else((nh k a2).bind fun r6=>
 if r6=true then(some true) else(some (decide (20 < (a1.2.length:Int)))))):Option (Bool)).bind fun x3=>
 if x3=true then((ku k).bind fun r7=>
 some r7) else((mH k a4).bind fun r8=>
 (kT k a0 a1 a2 (r8.1,r8.2.1,r8.2.2)).bind fun e=>
 (cD k (e.2.2.1,e.2.2.2.1,e.2.2.2.2) 3).bind fun c=>
 (cD k (c.2.1,c.2.2.1,c.2.2.2) 2).bind fun j=>
 bE (α:=Unit) (dR k a3 e c j k 0) (some) fun _=>
 (ku k).bind fun h=>
 some h)
theorem td(k:Nat)(a0:aS)(a1:eF)(a2:(List (List Int)))(a3:Int)(a4:(List Int))(r:Bool)(h:kK k a0 a1 a2 a3 a4=some r):
 dw (jg Tryz.prog) 3 [.rep av a0,.rep aY a1,.rep (.slice (.slice (.int .i64))) a2,I a3,Ri a4] [.inv 0 (iZ)] (fun _:Unit=>(bu [.eq (.bool r)],[.inv 0 (iZ)])):=by
 unfold kK at h
 replace h:=ba h
 refine dw.of 157 Tryz.func3 rfl Tryz.ntmps3 rfl fun S w0=>?_
 refine sr ?_
 refine bx fun b1=>?_
 refine bx fun b2=>?_
 refine cq ?_
 refine nt ?_
 refine ag ?_
 refine aN (Z:=Unit) (α:=Bool) (fun z4 x3=>[(2,.rep (.slice (.slice (.int .i64))) a2),(3,I a3),(4,Ri a4),(5,Pt b1),(6,Pt b2),(35,.eq (.bool x3))]) (fun z4 x3=>[.obj b1 25 (.rep av a0),.obj b2 27 (.rep aY a1),.inv 0 (iZ)]) h (fun K h=>?_) (fun z4 x3 h=>?_)
 ·
  refine ab (fr 1 ?_);refine lo dy ?_;obtain⟨r5,UR,h⟩:=aa h;refine ja (ap [.tmp 24] rfl rfl SK rfl (zS k a0 r5 UR)) ?_;refine mq ?_;refine cp (s:=26) rfl (fun hb=>?_) (fun hb=>?_)
  ·replace h:=cE (D2 hb) h;iterate 2 refine gn ?_
   refine pt ?_;refine mq ?_;iterate 4 refine gn ?_
   refine pt (nl ?_);exact jz ((),true) h [0,1,2]
  ·replace h:=bN (D3 hb) h;refine gm ?_;obtain⟨r6,UQ,h⟩:=aa h;refine ga (ap [.tmp 27] rfl rfl SJ rfl (zR k a2 r6 UQ)) ?_;refine pf ?_;refine mq ?_;refine cp (s:=30) rfl (fun hb=>?_) (fun hb=>?_)
   ·replace h:=cE (D2 hb) h;iterate 4 refine gn ?_
    refine pt (nl ?_);exact jz ((),true) h [0,1,2]
   ·replace h:=bN (D3 hb) h;refine ga (ar rfl jZ) ?_;refine fr 1 ?_;refine jy rfl rfl rfl rfl rfl rfl (aj rfl bQ i9 rfl) ⟨rfl,trivial⟩ ?_;refine ga (jE rfl rfl dC) ?_;refine gb (hC rfl) ?_;refine pf (nl ?_);exact jz ((),decide (20 < (a1.2.length:Int))) h [1,0,2]
 ·
  refine cv h (fun h=>?_) (fun h=>?_)
  ·refine sr ?_;obtain⟨r7,UP,h⟩:=aa h;refine fr 2 ?_;refine bV rfl rfl rfl (gV [] rfl rfl Qe rfl (qu k r7 UP)) trivial ?_;refine aq (nt (rx ?_));cases h;exact aP () [_] 1 ⟨rfl,trivial⟩ rfl
  ·refine sk (sr (mq ?_));obtain⟨r8,UO,h⟩:=aa h;refine aF rfl rfl rfl (ap [.tmp 37] rfl rfl SI rfl (vo k a4 r8 UO)) ⟨rfl,trivial⟩ fun b9=>?_;refine aq (nt (sr ?_));refine fr 1 ?_;refine lo dy ?_;refine fr 2 ?_;refine lo jQ ?_;iterate 2 refine mq ?_
   obtain⟨c,Ui,h⟩:=aa h;refine fr 2 ?_;refine bV rfl rfl rfl (ap [.tmp 40,.tmp 41,.tmp 42,.tmp 43] rfl rfl SH rfl (vn k a0 a1 a2 (r8.1,r8.2.1,r8.2.2) b9 c Ui)) ⟨rfl,rfl,rfl,rfl,trivial⟩ ?_;refine mq ?_;refine xr ?_;refine xr ?_;refine aq ?_;refine aq (nt (sr ?_));iterate 2 refine mq ?_
   obtain⟨j,Uh,h⟩:=aa h;refine kb (ap [.tmp 48,.const (.int .i64 (3))] rfl rfl Cb rfl (dS k (c.2.2.1,c.2.2.2.1,c.2.2.2.2) b9 3 j Uh)) ?_;iterate 2 refine mq ?_
   obtain⟨u,Ug,h⟩:=aa h;refine kb (ap [.tmp 51,.const (.int .i64 (2))] rfl rfl Cb rfl (dS k (j.2.1,j.2.2.1,j.2.2.2) b9 2 u Ug)) ?_;refine aE rfl (bj (t:=(.int .i64)) [(.tmp 47,_),(.tmp 49,_),(.tmp 50,_),(.tmp 52,_)] [a3,j.1,a3,u.1] rfl rfl dB (.cons rfl .int (.cons rfl .int (.cons rfl .int (.cons rfl .int .nil)))) rfl rfl) ⟨rfl,rfl,rfl,rfl,trivial⟩ ?_;refine aq (nt ?_);refine dM (Z:=Unit) (α:=Unit) (fun Q U=>[]) (fun Q U=>[.inv 0 (iZ)]) (fun e=>e=r) h (fun e h=>Option.some.inj h) (fun K hR h=>?_) (fun Q U h=>?_)
   ·refine sr (cq (nt (ao ?_)));refine aK (fun O x=>[(12,Rs av c.1),(13,.rep (.slice (.slice (.slice (.int .i64)))) c.2.1),(14,Ri [a3,j.1,a3,u.1]),(15,I x)]) (fun O x=>[.inv 0 (iZ)]) (dR k a3 c j u) k () 0 (fun _=>rfl) h (SE.fin [3] ⟨rfl,rfl,rfl,rfl,trivial⟩ rfl) (fun n O x h=>?_);unfold dR at h;refine ag (sr ?_);iterate 2 refine mq ?_
    refine ol N7 ?_;refine jb (bq rfl) ?_;refine nt (ci h (fun h=>?_) (fun h=>?_))
    ·refine sk (ag (ao (ag (jj ?_))));refine aI rfl rfl rfl (aH rfl) ⟨rfl,trivial⟩ ?_;refine aI rfl rfl rfl (aH rfl) ⟨rfl,trivial⟩ ?_;obtain⟨Uw,TR,h⟩:=aa h;refine aI rfl rfl rfl (aC (t:=av) rfl N7 dy TR) ⟨rfl,rfl,trivial⟩ ?_;refine aI rfl rfl rfl (ak (t:=av) rfl dy rfl) ⟨rfl,trivial⟩ ?_;obtain⟨l,Uf,h⟩:=aa h;refine aI rfl rfl rfl (ap [.tmp 63] rfl rfl P6 rfl (tg k Uw l Uf)) ⟨rfl,trivial⟩ ?_;refine aI rfl rfl rfl (aH rfl) ⟨rfl,trivial⟩ ?_;refine aI rfl rfl rfl (aH rfl) ⟨rfl,trivial⟩ ?_;obtain⟨Uu,TP,h⟩:=aa h;refine aI rfl rfl rfl (aC (t:=(.slice (.slice (.int .i64)))) rfl LH qd TP) ⟨rfl,rfl,trivial⟩ ?_;refine aI rfl rfl rfl (ak (t:=(.slice (.slice (.int .i64)))) rfl qd rfl) ⟨rfl,trivial⟩ ?_;obtain⟨y,Ue,h⟩:=aa h;refine aI rfl rfl rfl (so (ap [.tmp 68] rfl rfl P3 rfl (ti k Uu y Ue))) ⟨rfl,trivial⟩ ?_;refine ut (Gk 25 (.agg (.pair (I 0) (.pair (.eq (.slice none 0 0)) (.eq (.slice none 0 0)))))) (fun _=>rfl) rfl rfl rfl (be rfl kf ml) trivial ?_;refine mg 11 [true,true,true,true,true,true,true,true,true,true,true] [17] [] [] rfl (by kernel_rfl) (by kernel_rfl) (by kernel_rfl) cz (fun vs hv hB=>?_);obtain⟨w0,U4,rfl,UN⟩:=an hv;obtain⟨w1,U2,rfl,UM⟩:=an UN;obtain⟨w2,U1,rfl,UL⟩:=an UM;obtain⟨w3,U0,rfl,UK⟩:=an UL;obtain⟨w4,UZ,rfl,UJ⟩:=an UK;obtain⟨w5,UY,rfl,UI⟩:=an UJ;obtain⟨w6,UX,rfl,UH⟩:=an UI;obtain⟨w7,UW,rfl,UG⟩:=an UH;obtain⟨w8,UV,rfl,UF⟩:=an UG;obtain⟨w9,UT,rfl,ac⟩:=an UF;obtain⟨UU,US,rfl,Y⟩:=an ac;obtain rfl:=jW Y;obtain⟨J,rfl⟩:=Bh hB.2.2.2.2.2.2.2.2.2.2.1;refine⟨[0,1],[.inv 0 (iZ),.obj J 25 (.agg (.pair (I 0) (.pair (.eq (.slice none 0 0)) (.eq (.slice none 0 0)))))],by kernel_rfl,by decide,?_⟩;refine iJ 1 rfl ?_;refine nW rfl rfl (bb rfl dy rfl rfl rfl) ⟨rfl,rfl,trivial⟩ (by kernel_rfl) ?_;refine px rfl rfl rfl rfl (fu rfl) ⟨rfl,trivial⟩ (by kernel_rfl) ?_;refine py ?_;refine bv (SE.fin (Γ':=[(12,Rs av c.1),(13,.rep (.slice (.slice (.slice (.int .i64)))) c.2.1),(14,Ri [a3,j.1,a3,u.1]),(15,I x),(16,Pt J),(17,.rep (.slice (.slice (.int .i64))) y)]) (Δ':=[.obj J 25 (.rep av l),.inv 0 (iZ)]) [0,1] ⟨rfl,rfl,rfl,rfl,rfl,rfl,trivial⟩ rfl) ?_;refine tn (ag (bI ?_));refine ea 0 (aj rfl dy (tR) rfl) ?_;refine dm ?_;refine dm ?_;refine dm ?_;obtain⟨Ut,TO,h⟩:=aa h;refine db (aC (t:=(.int .i64)) rfl dC cg TO) ?_;refine da (ak (t:=(.int .i64)) rfl cg rfl) ?_;obtain⟨F,Ud,h⟩:=aa h;refine ec 1 (ap [.tmp 71,.tmp 72,.tmp 76] rfl rfl P0 rfl (uA k l y Ut F Ud)) ?_;refine dm ?_;refine da (de rfl rfl) ?_;refine da (de rfl rfl) ?_;refine da (de rfl rfl) ?_;refine da (fu rfl) ?_;refine da (fu rfl) ?_;refine df cz ?_;refine aq (nt (ag ?_));refine bI ?_;refine dm ?_;refine dm ?_;obtain⟨Us,TN,h⟩:=aa h;refine db (aC (t:=av) rfl N7 dy TN) ?_;refine da (ak (t:=av) rfl dy rfl) ?_;refine dm ?_;refine dm ?_;obtain⟨Ur,TM,h⟩:=aa h;refine db (aC (t:=(.slice (.slice (.int .i64)))) rfl LH qd TM) ?_;refine da (ak (t:=(.slice (.slice (.int .i64)))) rfl qd rfl) ?_;refine dm ?_;refine dm ?_;obtain⟨Up,TL,h⟩:=aa h;refine db (aC (t:=(.int .i64)) rfl dC cg TL) ?_
     refine da (ak (t:=(.int .i64)) rfl cg rfl) ?_;obtain⟨E,Uc,h⟩:=aa h;refine dc (ap [.tmp 85,.tmp 89,.tmp 93] rfl rfl SG rfl (Bd k Us Ur Up E Uc)) ?_;refine dm ?_;refine da (de rfl rfl) ?_;refine da (de rfl rfl) ?_;refine da (de rfl rfl) ?_;refine da (fu rfl) ?_;refine da (fu rfl) ?_;refine df cz ?_;refine aq (nt ?_);refine aN (Z:=Unit) (α:=Bool) (fun M D=>[(12,Rs av c.1),(13,.rep (.slice (.slice (.slice (.int .i64)))) c.2.1),(14,Ri [a3,j.1,a3,u.1]),(15,I x),(155,.eq (.bool D))]) (fun M D=>[.inv 0 (iZ)]) h (fun K h=>?_) (fun M D h=>?_)
     ·refine bI ?_;refine ea 0 (aj rfl dy (tR) rfl) ?_;obtain⟨UE,Ub,h⟩:=aa h;refine da (ap [.tmp 98] rfl rfl Ni rfl (nE k l UE Ub)) ?_;refine dm ?_;refine dm ?_;obtain⟨Uo,TK,h⟩:=aa h;refine db (aC (t:=av) rfl N7 dy TK) ?_;refine da (ak (t:=av) rfl dy rfl) ?_;obtain⟨UD,Ua,h⟩:=aa h;refine da (ap [.tmp 103] rfl rfl PY rfl (rC k Uo UD Ua)) ?_;refine db (g9 rfl) ?_;refine j8 rfl rfl rfl (aH rfl) ⟨rfl,trivial⟩ (fun hb=>?_) (fun hb=>?_)
      ·replace h:=cE (IR hb) h;iterate 13 refine dg ?_
       refine db (dN rfl) ?_;refine dm ?_;iterate 3 refine dg ?_
       refine db (dN rfl) ?_;refine dm ?_;iterate 4 refine dg ?_
       refine db (dN rfl) ?_;refine dm ?_;iterate 4 refine dg ?_
       refine db (dN rfl) ?_;refine dm ?_;iterate 7 refine dg ?_
       refine db (dN rfl) ?_;refine dm ?_;iterate 5 refine dg ?_
       refine df cz ?_;iterate 2 refine gn ?_
       refine pt (nl ?_);exact jz ((),true) h [1]
      ·replace h:=bN (we hb) h;refine iR 0 rfl rfl rfl rfl rfl rfl (aj rfl dy (tR) rfl) ⟨rfl,rfl,trivial⟩ ?_;refine aL rfl rfl rfl rfl rfl (aH rfl) ⟨rfl,rfl,trivial⟩ ?_;obtain⟨UC,T9,h⟩:=aa h;refine iR 1 rfl rfl rfl rfl rfl rfl (ap [.tmp 107,.tmp 108] rfl rfl Kv rfl (eK k l y UC T9)) ⟨rfl,rfl,rfl,trivial⟩ ?_;refine aL rfl rfl rfl rfl rfl (aH rfl) ⟨rfl,rfl,trivial⟩ ?_;refine aL rfl rfl rfl rfl rfl (aH rfl) ⟨rfl,rfl,trivial⟩ ?_;obtain⟨Un,TJ,h⟩:=aa h;refine aL rfl rfl rfl rfl rfl (aC (t:=av) rfl N7 dy TJ) ⟨rfl,rfl,rfl,trivial⟩ ?_;refine aL rfl rfl rfl rfl rfl (ak (t:=av) rfl dy rfl) ⟨rfl,rfl,trivial⟩ ?_;refine aL rfl rfl rfl rfl rfl (aH rfl) ⟨rfl,rfl,trivial⟩ ?_;refine aL rfl rfl rfl rfl rfl (aH rfl) ⟨rfl,rfl,trivial⟩ ?_;obtain⟨Um,se,h⟩:=aa h;refine aL rfl rfl rfl rfl rfl (aC (t:=(.slice (.slice (.int .i64)))) rfl LH qd se) ⟨rfl,rfl,rfl,trivial⟩ ?_;refine aL rfl rfl rfl rfl rfl (ak (t:=(.slice (.slice (.int .i64)))) rfl qd rfl) ⟨rfl,rfl,trivial⟩ ?_;obtain⟨UB,T8,h⟩:=aa h;refine aL rfl rfl rfl rfl rfl (ap [.tmp 113,.tmp 117] rfl rfl PX rfl (ll k Un Um UB T8)) ⟨rfl,rfl,rfl,trivial⟩ ?_;refine aL rfl rfl rfl rfl rfl (g9 rfl) ⟨rfl,rfl,rfl,trivial⟩ ?_;refine db (kO rfl) ?_;refine j8 rfl rfl rfl (aH rfl) ⟨rfl,trivial⟩ (fun hb=>?_) (fun hb=>?_)
       ·replace h:=cE (IR hb) h;iterate 3 refine dg ?_
        refine db (dN rfl) ?_;refine dm ?_;iterate 4 refine dg ?_
        refine db (dN rfl) ?_;refine dm ?_;iterate 4 refine dg ?_
        refine db (dN rfl) ?_;refine dm ?_;iterate 7 refine dg ?_
        refine db (dN rfl) ?_;refine dm ?_;iterate 5 refine dg ?_
        refine df cz ?_;iterate 2 refine gn ?_
        refine pt (nl ?_);exact jz ((),true) h [1]
       ·replace h:=bN (we hb) h;refine aL rfl rfl rfl rfl rfl (aH rfl) ⟨rfl,rfl,trivial⟩ ?_;refine aL rfl rfl rfl rfl rfl (aH rfl) ⟨rfl,rfl,trivial⟩ ?_;refine aL rfl rfl rfl rfl rfl (g9 rfl) ⟨rfl,rfl,rfl,trivial⟩ ?_;refine db (kO rfl) ?_;refine j8 rfl rfl rfl (aH rfl) ⟨rfl,trivial⟩ (fun hb=>?_) (fun hb=>?_)
        ·replace h:=cE (IR hb) h;iterate 4 refine dg ?_
         refine db (dN rfl) ?_;refine dm ?_;iterate 4 refine dg ?_
         refine db (dN rfl) ?_;refine dm ?_;iterate 7 refine dg ?_
         refine db (dN rfl) ?_;refine dm ?_;iterate 5 refine dg ?_
         refine df cz ?_;iterate 2 refine gn ?_
         refine pt (nl ?_);exact jz ((),true) h [1]
        ·replace h:=bN (we hb) h;refine aL rfl rfl rfl rfl rfl (aH rfl) ⟨rfl,rfl,trivial⟩ ?_;refine aL rfl rfl rfl rfl rfl (aH rfl) ⟨rfl,rfl,trivial⟩ ?_;obtain⟨UA,TZ,h⟩:=aa h;refine aL rfl rfl rfl rfl rfl (ap [.tmp 127,.tmp 128] rfl rfl EV rfl (fK k F.1 E.1 UA TZ)) ⟨rfl,rfl,rfl,trivial⟩ ?_;refine aL rfl rfl rfl rfl rfl (dT rfl) ⟨rfl,rfl,trivial⟩ ?_;refine db (kO rfl) ?_;refine j8 rfl rfl rfl (aH rfl) ⟨rfl,trivial⟩ (fun hb=>?_) (fun hb=>?_)
         ·replace h:=cE (zy hb) h;iterate 4 refine dg ?_
          refine db (dN rfl) ?_;refine dm ?_;iterate 7 refine dg ?_
          refine db (dN rfl) ?_;refine dm ?_;iterate 5 refine dg ?_
          refine df cz ?_;iterate 2 refine gn ?_
          refine pt (nl ?_);exact jz ((),true) h [1]
         ·replace h:=bN (tN hb) h;refine aL rfl rfl rfl rfl rfl (aH rfl) ⟨rfl,rfl,trivial⟩ ?_;refine aL rfl rfl rfl rfl rfl (aH rfl) ⟨rfl,rfl,trivial⟩ ?_;obtain⟨Uz,TY,h⟩:=aa h;refine aL rfl rfl rfl rfl rfl (ap [.tmp 133,.tmp 134] rfl rfl Ku rfl (iL k F.2.1 E.2.1 Uz TY)) ⟨rfl,rfl,rfl,trivial⟩ ?_;refine aL rfl rfl rfl rfl rfl (dT rfl) ⟨rfl,rfl,trivial⟩ ?_;refine db (kO rfl) ?_;refine j8 rfl rfl rfl (aH rfl) ⟨rfl,trivial⟩ (fun hb=>?_) (fun hb=>?_)
          ·replace h:=cE (zy hb) h;iterate 7 refine dg ?_
           refine db (dN rfl) ?_;refine dm ?_;iterate 5 refine dg ?_
           refine df cz ?_;iterate 2 refine gn ?_
           refine pt (nl ?_);exact jz ((),true) h [1]
          ·replace h:=bN (tN hb) h;refine iR 0 rfl rfl rfl rfl rfl rfl (aj rfl dy (tR) rfl) ⟨rfl,rfl,trivial⟩ ?_;refine aL rfl rfl rfl rfl rfl (aH rfl) ⟨rfl,rfl,trivial⟩ ?_;refine aL rfl rfl rfl rfl rfl (aH rfl) ⟨rfl,rfl,trivial⟩ ?_;obtain⟨Ul,qt,h⟩:=aa h;refine aL rfl rfl rfl rfl rfl (aC (t:=av) rfl N7 dy qt) ⟨rfl,rfl,rfl,trivial⟩ ?_;refine aL rfl rfl rfl rfl rfl (ak (t:=av) rfl dy rfl) ⟨rfl,rfl,trivial⟩ ?_;obtain⟨Uy,TX,h⟩:=aa h;refine aL rfl rfl rfl rfl rfl (ap [.tmp 139,.tmp 143] rfl rfl SD rfl (te k l Ul Uy TX)) ⟨rfl,rfl,rfl,trivial⟩ ?_;refine aL rfl rfl rfl rfl rfl (dT rfl) ⟨rfl,rfl,trivial⟩ ?_;refine db (kO rfl) ?_;refine j8 rfl rfl rfl (aH rfl) ⟨rfl,trivial⟩ (fun hb=>?_) (fun hb=>?_)
           ·replace h:=cE (zy hb) h;iterate 5 refine dg ?_
            refine df cz ?_;iterate 2 refine gn ?_
            refine pt (nl ?_);exact jz ((),true) h [1]
           ·replace h:=bN (tN hb) h;refine aL rfl rfl rfl rfl rfl (aH rfl) ⟨rfl,rfl,trivial⟩ ?_;refine aL rfl rfl rfl rfl rfl (aH rfl) ⟨rfl,rfl,trivial⟩ ?_;refine aL rfl rfl rfl rfl rfl (aH rfl) ⟨rfl,rfl,trivial⟩ ?_;obtain⟨Uk,pp,h⟩:=aa h;refine aL rfl rfl rfl rfl rfl (aC (t:=(.slice (.slice (.int .i64)))) rfl LH qd pp) ⟨rfl,rfl,rfl,trivial⟩ ?_;refine aL rfl rfl rfl rfl rfl (ak (t:=(.slice (.slice (.int .i64)))) rfl qd rfl) ⟨rfl,rfl,trivial⟩ ?_;refine df cz ?_;obtain⟨X,TU,h⟩:=aa h;refine gb (ap [.tmp 148,.tmp 152] rfl rfl Ku rfl (iL k y Uk X TU)) ?_;refine ga (dT rfl) ?_;refine pf (nl ?_);exact jz ((), !X) h [1]
     ·refine cv h (fun h=>?_) (fun h=>?_)
      ·refine sr (cq (nt (ay (br (bi (aV ?_))))));obtain rfl:=hR _ h;exact aP () [_] 1 ⟨rfl,trivial⟩ rfl
      ·refine aX (aM (tn (ab (mq ?_))));obtain⟨Uj,mc,h⟩:=aa h;refine jb (bf rfl mc) ?_;refine aq (nl ?_);exact jz ((),Uj) h [0]
    ·refine xa ?_;exact jz ((),()) h [0]
   ·refine sr ?_;obtain⟨Ux,TS,h⟩:=aa h;refine bV rfl rfl rfl (gV [] rfl rfl Qe rfl (qu k Ux TS)) trivial ?_;refine aq (nt (ay ?_));cases h;exact aP () [_] 1 ⟨rfl,trivial⟩ rfl
end Go.Proofs.YtghkncjelangeaaGreatDoor
