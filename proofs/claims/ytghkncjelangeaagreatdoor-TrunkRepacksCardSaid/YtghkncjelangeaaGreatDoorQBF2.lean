import Derived.Test.YtghkncjelangeaaGreatDoorQBB10
import Derived.Test.YtghkncjelangeaaGreatDoorQBB8
import Derived.Test.YtghkncjelangeaaGreatDoorQBB9
import Derived.Test.YtghkncjelangeaaGreatDoorQBB5
import Derived.Test.YtghkncjelangeaaGreatDoorQBCore45
set_option linter.unusedSimpArgs false
set_option linter.unusedVariables false
set_option maxRecDepth 4000
set_option maxHeartbeats 1000000
namespace Go.Proofs.YtghkncjelangeaaGreatDoor
open K Go Go.Proofs
def cG(k:Nat)(a0:aQ)(a1:(List (List Int))):Option Int:=
 (lP k a0).bind fun r2=>
 if¬(r2=0) then(some r2) else((lO k a0 a1).bind fun r4=>
 (RI r4).bind fun q5=>
 if q5.isSome=true then(some (q5.getD 0)) else(some 0))
theorem gw(k:Nat)(a0:aQ)(a1:(List (List Int)))(r:Int)(h:cG k a0 a1=some r):
 cd Tryz.prog 22 [.rep av a0,.rep (.slice (.slice (.int .i64))) a1] [.inv 0 (jv)] (fun _:Unit=>(bv [I r],[.inv 0 (jv)])):=by
 unfold cG at h
 replace h:=a9 h
 refine cd.of 19 Tryz.func22 rfl Tryz.ntmps22 rfl fun S w0=>?_
 refine sr ?_
 refine bx fun b1=>?_
 refine cq ?_
 refine nt ?_
 refine ae ?_
 refine sr ?_
 refine lo dQ ?_
 obtain⟨r2,e,h⟩:=aa h
 have l:=rJ k a0 r2 e
 refine ja (ap [.tmp 7] rfl rfl QK rfl l) ?_
 refine aq ?_
 refine nt ?_
 refine sr ?_
 refine mq ?_
 refine jb (iy rfl) ?_
 refine nt ?_
 refine cn h (fun h=>?_) (fun h=>?_)
 ·
  refine sr (mq ?_);refine aq (nt (rx ?_));refine bC (SE.fin (Γ':=[(4,_)]) [1,0] ⟨rfl,trivial⟩ rfl) ?_;cases h;exact aO () [_] 1 ⟨rfl,trivial⟩ rfl
 ·
  refine sk (sr (aF rfl rfl rfl (bf rfl Bv Ua) trivial fun b3=>?_));refine nt (ae (sr (fr 1 ?_)));refine lo dQ ?_;refine mq ?_;obtain⟨r4,c,h⟩:=aa h;refine jb (ap [.tmp 12,.tmp 13] rfl rfl TB rfl (rD k a0 a1 r4 c)) ?_;refine ja (Hz rfl Uh) ?_;obtain⟨q5,j,h⟩:=aa h;refine fr 2 ?_;refine fr 2 ?_;refine bU (Δ:=[_,_]) (F:=_) (fun _ _ _=>ax rfl _) rfl rfl (ap [.tmp 14,.tmp 15] rfl rfl QE rfl (Re j)) ⟨rfl,rfl,trivial⟩ fun _=>?_;refine nt (cv h (fun h=>?_) (fun h=>?_))
  ·refine sr (fl NS ?_);refine lo R9 ?_;refine aq (nt (rx ?_));refine bC (SE.fin (Γ':=[(4,_)]) [1,0,2] ⟨rfl,trivial⟩ rfl) ?_;cases h;exact aO () [_] 1 ⟨rfl,trivial⟩ rfl
  ·refine sk (sr (cq (nt (aA ?_))));refine bC (SE.fin (Γ':=[(4,_)]) [1,0,2] ⟨rfl,trivial⟩ rfl) ?_;cases h;exact aO () [_] 1 ⟨rfl,trivial⟩ rfl
def nS(k:Nat)(a0:aQ)(r7:Int×(List (List Int))):Nat→((List Int)×Int)→Option (List Int)
 |0,_=>none
 |n+1,c=>
  if c.2 < (a0.2.1.length:Int) then((((eA k r7.1 c.2).bind fun j=>
  if j=true then((dt (bH (List.length c.1+List.length [c.2]))).bind fun _=>
  some (c.1++[c.2])) else(some c.1)):Option ((List Int))).bind fun h=>
  (ck (c.2+1)).bind fun e=>
  nS k a0 r7 n (h,e)) else(some c.1)
def xX(k:Nat)(a0:aQ)(a1:(List (List Int)))(a2:Int):Option ((List Int)×(List (List Int))×Int):=
 (cG k a0 a1).bind fun r2=>
 if¬(r2=0) then(some ([],[],r2)) else((ck (a0.1 - 1)).bind fun x3=>
 (eN k a2 0 x3).bind fun r4=>
 if¬(r4=true) then(some ([],[],3)) else((dN k a1).bind fun r6=>
 (jd k (a0,()) r6 a2).bind fun r7=>
 ((nS k a0 r7 k (([]:(List Int)),0)):Option ((List Int))).bind fun x9=>
 (fw k (a0,()) r7.2).bind fun c=>
 some (x9,c,0)))
theorem BJ(k:Nat)(a0:aQ)(a1:(List (List Int)))(a2:Int)(r:(List Int)×(List (List Int))×Int)(h:xX k a0 a1 a2=some r):
 cd Tryz.prog 18 [.rep av a0,.rep (.slice (.slice (.int .i64))) a1,I a2] [.inv 0 (jv)] (fun _:Unit=>(bv [Ri r.1,.rep (.slice (.slice (.int .i64))) r.2.1,I r.2.2],[.inv 0 (jv)])):=by
 unfold xX at h
 replace h:=a9 h
 refine cd.of 55 Tryz.func18 rfl Tryz.ntmps18 rfl fun S w0=>?_
 refine sr ?_
 refine bx fun b1=>?_
 refine cq ?_
 refine cq ?_
 refine cq ?_
 refine nt ?_
 refine ae ?_
 refine sr ?_
 refine lo dQ ?_
 refine mq ?_
 obtain⟨r2,ac,h⟩:=aa h
 have mc:=gw k a0 a1 r2 ac
 refine fr 1 ?_
 refine kb (ap [.tmp 15,.tmp 16] rfl rfl Oe rfl mc) ?_
 refine aq ?_
 refine nt ?_
 refine sr ?_
 refine mq ?_
 refine jb (iy rfl) ?_
 refine nt ?_
 refine cn h (fun h=>?_) (fun h=>?_)
 ·
  refine sr (mq ?_);refine cq ?_;refine cq ?_;refine aq (nt (rx ?_));refine bC (my (t:=(.slice (.int .i64))) (x:=[]) 6 rfl .nil rfl rfl) ?_;refine bC (my (t:=(.slice (.slice (.int .i64)))) (x:=[]) 7 rfl .nil rfl rfl) ?_;cases h;exact aO () [_,_,_] 1 ⟨rfl,rfl,rfl,trivial⟩ rfl
 ·
  refine sk (ae (sr (mq ?_)));refine fl fP ?_;refine fr 1 ?_;refine lo co ?_;obtain⟨x3,Q,h⟩:=aa h;refine jb (fK rfl Q) ?_;obtain⟨r4,Y,h⟩:=aa h;refine jc (ap [.tmp 21,.const (.int .i64 (0)),.tmp 24] rfl rfl AP rfl (eY k a2 0 x3 r4 Y)) ?_;refine ja (dX rfl) ?_;refine nt (cw h (fun h=>?_) (fun h=>?_))
  ·refine sr (cq ?_);refine cq ?_;refine cq (nt (rx ?_));refine bC (my (t:=(.slice (.int .i64))) (x:=[]) 6 rfl .nil rfl rfl) ?_;refine bC (my (t:=(.slice (.slice (.int .i64)))) (x:=[]) 7 rfl .nil rfl rfl) ?_;refine bC (SE.fin (Γ':=[(6,_),(7,_),(8,_)]) [1,0] ⟨rfl,rfl,rfl,trivial⟩ rfl) ?_;cases h;exact aO () [_,_,_] 1 ⟨rfl,rfl,rfl,trivial⟩ rfl
  ·refine sk (sr (lo dQ ?_));refine aF rfl rfl rfl (ap [.tmp 27] rfl rfl Ln rfl (iL a0)) ⟨rfl,trivial⟩ fun z5=>?_;refine cC (lU (bS k a0) nG) ?_;refine aq (nt (sr ?_));iterate 2 refine mq ?_
   obtain⟨r6,X,h⟩:=aa h;refine ja (ap [.tmp 31] rfl rfl FO rfl (fy k a1 r6 X)) ?_;refine mq ?_;obtain⟨r7,U,h⟩:=aa h;refine jc (dU (N:=[(.tmp 30,.at aw (a0,(.map (some z5)))),(.tmp 32,.rep (.arr 3 (.arr 5 (.int .i64))) r6),(.tmp 33,I a2)]) (ap [.tmp 30,.tmp 32,.tmp 33] rfl rfl QH rfl (oC k (a0,()) r6 a2 r7 U)) fun _ _ _ hn=>⟨(tU hn.1),hn.2.1,hn.2.2.1,trivial⟩) ?_;refine mq ?_;refine xr ?_;refine xr ?_;refine aF rfl rfl rfl (bf rfl sS tV) trivial fun b8=>?_;refine aq ?_;refine bh rfl rfl (be rfl gu rfl rfl rfl) ⟨rfl,rfl,trivial⟩ ?_;refine nt (sr (cq (nt ?_)));refine aL (Z:=Value) (α:=(List Int)) (fun l x9=>[(10,.at aw (a0,(.map (some z5)))),(12,Pt b8),(13,.eq l)]) (fun l x9=>[.obj b8 86 (.rep (.arr 3 (.arr 5 (.int .i64))) r7.2),.sl l 3 (.int .i64) x9,.inv 0 (jv),.inv z5 (bS k a0)]) h (fun K h=>?_) (fun l x9 h=>?_)
   ·refine sr (fl bV ?_);refine fr 2 ?_;refine lo eU ?_;refine ol mG ?_;refine fk rfl ?_;refine nt (ao (dL (SE.nil 3 (.int .i64)) ?_));refine aJ (fun e c=>[(10,.at aw (a0,(.map (some z5)))),(11,.eq (.int .u8 r7.1)),(12,Pt b8),(13,.eq e),(39,I (a0.2.1.length:Int)),(40,I c.2)]) (fun e c=>[.obj b8 86 (.rep (.arr 3 (.arr 5 (.int .i64))) r7.2),.sl e 3 (.int .i64) c.1,.inv 0 (jv),.inv z5 (bS k a0)]) (nS k a0 r7) k (.slice none 0 0) (([]:(List Int)),0) (fun _=>rfl) h (SE.fin [2,0,4,3] ⟨rfl,rfl,rfl,rfl,rfl,rfl,trivial⟩ rfl) (fun n e c h=>?_);unfold nS at h;refine sr (jb (bm rfl) ?_);refine nt (ae (ci h (fun h=>?_) (fun h=>?_)))
    ·refine sk (aL (Z:=Value) (α:=(List Int)) (fun j s=>[(10,.at aw (a0,(.map (some z5)))),(11,.eq (.int .u8 r7.1)),(12,Pt b8),(13,.eq j),(39,I (a0.2.1.length:Int)),(40,I c.2)]) (fun j s=>[.obj b8 86 (.rep (.arr 3 (.arr 5 (.int .i64))) r7.2),.sl j 3 (.int .i64) s,.inv 0 (jv),.inv z5 (bS k a0)]) h (fun K h=>?_) (fun j s h=>?_))
     ·refine ao (sr (mq ?_));refine aq (nt (sr ?_));iterate 2 refine mq ?_
      obtain⟨O,E,h⟩:=aa h;refine jb (ap [.tmp 43,.tmp 44] rfl rfl Lm rfl (iJ k r7.1 c.2 O E)) ?_;refine nt (cv h (fun h=>?_) (fun h=>?_))
      ·refine ab ?_;iterate 2 refine mq ?_
       refine ja (bi (t:=(.int .i64)) [(.tmp 47,_)] [c.2] rfl rfl dw (.cons rfl .int .nil) rfl rfl) ?_;obtain⟨u16,y,h⟩:=aa h;refine fr 1 ?_;refine cF rfl rfl rfl (bz rfl rfl dw (ay y)) ⟨rfl,rfl,trivial⟩ fun J=>?_;refine aq (au (bn ?_));exact jz (J,c.1++[c.2]) h [1,0,2,3]
      ·refine aW (bn ?_);exact jz (e,c.1) h [0,1,2,3]
     ·refine ab ?_;obtain⟨F,u,h⟩:=aa h;refine jb (bb rfl u) ?_;refine mq (nl ?_);exact jz (j,(s,F)) h [0,1,2,3]
    ·refine xa ?_;exact jz (e,c.1) h [0,1,2,3]
   ·refine sr ?_;iterate 2 refine mq ?_
    refine lo gu ?_;obtain⟨M,D,h⟩:=aa h;refine aF rfl rfl rfl (dU (N:=[(.tmp 52,.at aw (a0,(.map (some z5)))),(.tmp 53,.rep (.arr 3 (.arr 5 (.int .i64))) r7.2)]) (ap [.tmp 52,.tmp 53] rfl rfl Ob rfl (j8 k (a0,()) r7.2 M D)) fun _ _ _ hn=>⟨(tU hn.1),hn.2.1,trivial⟩) ⟨rfl,rfl,trivial⟩ fun pp=>?_;refine aq ?_;refine aq ?_;refine cq (nt (aA ?_));refine dq 2 rfl ?_;refine bC (eD [6,13,51] ⟨rfl,rfl,rfl,trivial⟩) ?_;refine bC (eD [7,54] ⟨rfl,rfl,trivial⟩) ?_;refine bC (SE.fin (Γ':=[(6,_),(7,_),(8,_)]) [1,0,2] ⟨rfl,rfl,rfl,trivial⟩ rfl) ?_;cases h;exact aO () [_,_,_] 1 ⟨rfl,rfl,rfl,trivial⟩ rfl
theorem j9(k:Nat)(a0:aQ)(z_a0:Nat)(a1:(List (List Int)))(r:Int)(h:dH k a0 a1=some r):
 dy (jC Tryz.prog) 83 [.at aw (a0,(.map (some z_a0))),.rep (.arr 3 (.arr 5 (.int .i64))) a1] [.inv z_a0 (bS k a0)] (fun _:Unit=>(bv [I r],[.inv z_a0 (bS k a0)])):=by
 have h0:=h
 unfold dH at h
 replace h:=a9 h
 obtain⟨u1,eg,h⟩:=aa h
 have hg:=ay eg
 have gk:=Ik hg
 refine dy.of 28 Tryz.func83 rfl Tryz.ntmps83 rfl fun S w0=>?_
 refine sr ?_
 refine bx fun b1=>?_
 refine cq ?_
 refine nt ?_
 refine ae ?_
 refine jE 1 rfl ?_
 refine Dp fun ob hob=>?_
 obtain⟨lnn,lbb,hlR,hlk⟩:=yy (z:=z_a0) Rr MX AD gk Fv hob
 refine bJ ?_
 refine dm ?_
 refine da (dT rfl) ?_
 refine da (aI 1 false rfl Ea rfl) ?_
 refine da (ak (t:=.val) rfl MB rfl) ?_
 refine ea 1 (aj rfl gu (uD) rfl) ?_
 refine eb 0 (Fa (kv:=lD a1) (xg _) (mz.calm hob) rfl (fun _ _ _ hh=>vC hh) hlk) ?_
 refine dm ?_
 refine da (dk rfl rfl) ?_
 refine da (dk rfl rfl) ?_
 refine da (fC rfl) ?_
 refine df cD ?_
 refine aq ?_
 refine nt ?_
 refine ae ?_
 refine sr ?_
 refine mq ?_
 refine ja (dX rfl) ?_
 refine nt ?_
 refine dL (lU (bS k a0) hob) ?_
 refine bM rfl (fun hb=>?_) (fun hb=>?_)
 ·
  refine sr (mq ?_);refine fr 1 ?_;refine lo gu ?_;obtain⟨r2,c,h⟩:=aa h;refine jc (dU (N:=[(.tmp 18,.at aw (a0,(.map (some z_a0)))),(.tmp 19,.rep (.arr 3 (.arr 5 (.int .i64))) a1),(.const (.int .i64 (0)),I 0)]) (gy [.tmp 18,.tmp 19,.const (.int .i64 (0))] rfl rfl QD rfl (mL k (a0,()) a1 0 r2 c)) fun _ _ _ hn=>⟨(tU hn.1),hn.2.1,hn.2.2.1,trivial⟩) ?_;refine aq (nt ?_);refine bJ ?_;refine dm ?_;refine da (dT rfl) ?_;refine da (aI 1 false rfl Ea rfl) ?_;refine da (ak (t:=.val) rfl MB rfl) ?_;refine ea 0 (aj rfl gu (uD) rfl) ?_;refine dm ?_;refine df cD ?_;refine fr 1 ?_;have hl:dH k a0 a1=some r2:=h0.trans (show some r=some r2 from h.symm);refine bh rfl rfl (zU (kv:=lD a1) (xg _) rfl Rr AD (fun _ _ _ hh=>vC hh) gk ⟨a1,hg,rfl,hl⟩) ⟨rfl,rfl,rfl,trivial⟩ ?_;refine nt (sr (mq ?_));refine aq (nt (aA ?_));cases h;exact aO () [_] 1 ⟨rfl,trivial⟩ rfl
 ·
  obtain⟨p,hp,he,hl⟩:=hlR (by simpa using hb);obtain rfl:=xh hg hp he;replace h:some lnn=some r:=hl.symm.trans h0;refine sk (sr (mq ?_));refine aq (nt (aA ?_));cases h;exact aO () [_] 1 ⟨rfl,trivial⟩ rfl
def pQ(k:Nat)(a0:aQ)(a1:(List (List Int))):Option (Int×Int):=
 (cG k a0 a1).bind fun r2=>
 if¬(r2=0) then(some (0,r2)) else((dN k a1).bind fun r4=>
 (dH k a0 r4).bind fun r5=>
 some (r5,0))
theorem rI(k:Nat)(a0:aQ)(a1:(List (List Int)))(r:Int×Int)(h:pQ k a0 a1=some r):
 dy (jC Tryz.prog) 35 [.rep av a0,.rep (.slice (.slice (.int .i64))) a1] [.inv 0 (jv)] (fun _:Unit=>(bv [I r.1,I r.2],[.inv 0 (jv)])):=by
 unfold pQ at h
 replace h:=a9 h
 refine dy.of 18 Tryz.func35 rfl Tryz.ntmps35 rfl fun S w0=>?_
 refine sr ?_
 refine bx fun b1=>?_
 refine cq ?_
 refine cq ?_
 refine nt ?_
 refine ae ?_
 refine sr ?_
 refine lo dQ ?_
 refine mq ?_
 obtain⟨r2,j,h⟩:=aa h
 have l:=gw k a0 a1 r2 j
 refine fr 1 ?_
 refine kb (ap [.tmp 7,.tmp 8] rfl rfl Oe rfl l) ?_
 refine aq ?_
 refine nt ?_
 refine sr ?_
 refine mq ?_
 refine jb (iy rfl) ?_
 refine nt ?_
 refine cn h (fun h=>?_) (fun h=>?_)
 ·
  refine sr (mq ?_);refine cq ?_;refine aq (nt (rx ?_));cases h;exact aO () [_,_] 1 ⟨rfl,rfl,trivial⟩ rfl
 ·
  refine sk (sr (fr 1 ?_));refine lo dQ ?_;refine aF rfl rfl rfl (ap [.tmp 13] rfl rfl Ln rfl (iL a0)) ⟨rfl,trivial⟩ fun z3=>?_;refine cC (lU (bS k a0) nG) ?_;refine mq ?_;obtain⟨r4,e,h⟩:=aa h;refine ja (ap [.tmp 15] rfl rfl FO rfl (fy k a1 r4 e)) ?_;obtain⟨r5,c,h⟩:=aa h;refine kb (gy [.tmp 14,.tmp 16] rfl rfl QA rfl (j9 k a0 z3 r4 r5 c)) ?_;refine aq ?_;refine cq (nt (aA ?_));refine bC (SE.fin (Γ':=[(4,_),(5,_)]) [2,0,1] ⟨rfl,rfl,trivial⟩ rfl) ?_;cases h;exact aO () [_,_] 1 ⟨rfl,rfl,trivial⟩ rfl
set_option maxRecDepth 20000
set_option maxHeartbeats 4000000
@[reducible] def fu:Ty:=.agg (.pair (.int .i64) (.int .i64))
def Qn(x:Int×Int):Value:=.agg #[.int .i64 x.1,.int .i64 x.2]
theorem Le{S:FS}{w:World}{x:Int×Int}:(A.rep fu x).holds S w (Qn x):=⟨[_,_],⟨[_],[_],rfl,rfl,rfl⟩,rfl⟩
theorem IK{S:FS}{w:World}{x:Int×Int}{v:Value}(h:(A.rep fu x).holds S w v):(A.eq (Qn x)).holds S w v:=by
 obtain⟨cs,⟨c1,c2,rfl,h1,h2⟩,rfl⟩:=h;have h1:c1=_:=h1;have h2:c2=_:=h2;subst h1 h2;rfl
theorem hP:dR Tryz.prog 110 2 true:=⟨fun w=>by kernel_rfl,fun w=>by kernel_rfl⟩
theorem oD:dR Tryz.prog 28 1 false:=⟨fun w=>by kernel_rfl,fun w=>by kernel_rfl⟩
theorem Dx:dR Tryz.prog 23 1 false:=⟨fun w=>by kernel_rfl,fun w=>by kernel_rfl⟩
theorem ui:dR Tryz.prog 3 1 false:=⟨fun w=>by kernel_rfl,fun w=>by kernel_rfl⟩
theorem GT:dR Tryz.prog 81 1 false:=⟨fun w=>by kernel_rfl,fun w=>by kernel_rfl⟩
theorem NQ:a8 Tryz.prog 110 0 0:=a8.of (by kernel_rfl)
theorem NP:a8 Tryz.prog 110 1 1:=a8.of (by kernel_rfl)
theorem Ql:a8 Tryz.prog 107 0 0:=a8.of (by kernel_rfl)
theorem uq:a8 Tryz.prog 107 1 1:=a8.of (by kernel_rfl)
theorem yM:ah Tryz.prog 108:=ah.of Tryz.func108 (by kernel_rfl) (by kernel_rfl)
def jS(x:Int×Int)(m:Int):Nat→Int×List Int→Option (List Int)
 |0,_=>none
 |n+1,q=>if q.1 < m then((aP q.2 q.1).bind fun c=>if c=x.1 then(ck (q.1+1)).bind fun w=>jS x m n (w,q.2.set q.1.toNat x.2) else if c=x.2 then(ck (q.1+1)).bind fun w=>jS x m n (w,q.2.set q.1.toNat x.1) else(ck (q.1+1)).bind fun w=>jS x m n (w,q.2)) else some q.2
def k7(k:Nat)(x:Int×Int)(m:Int):Nat→Int×List (List Int)→Option (List (List Int))
 |0,_=>none
 |n+1,q=>if q.1 < m then((aP q.2 q.1).bind fun l=>(jS x (l.length:Int) k (0,l)).bind fun l2=>(ck (q.1+1)).bind fun w=>k7 k x m n (w,q.2.set q.1.toNat l2)) else some q.2
def ni(k:Nat)(x:Int×Int)(ls:List (List Int)):Option (List (List Int)):=k7 k x (ls.length:Int) k (0,ls)
theorem mK(k:Nat)(x:Int×Int)(ls r:List (List Int))(y:Nat)(d0:aw.den)(z:Value×(Nat→Value))(h:ni k x ls=some r):
 cd Tryz.prog 108 [.eq (bP y),.rep fu x] ([.obj y 107 (.agg (.pair (.at aw d0) (.eq z.1)))]++fJ 23 z ls) (fun _:Unit=>(bv [],[.obj y 107 (.agg (.pair (.at aw d0) (.eq z.1)))]++fJ 23 z r)):=by
 unfold ni at h
 replace h:=a9 h
 refine cd.of 45 Tryz.func108 rfl Tryz.ntmps108 rfl fun S w0=>?_
 refine sr ?_
 refine bx fun b3=>?_
 refine nt ?_
 refine sr ?_
 refine mq ?_
 refine ja (ba rfl) ?_
 refine fl uq ?_
 refine fr 1 ?_
 refine lo oD ?_
 refine cC (En (pre:=[.obj y 107 (.agg (.pair (.at aw d0) (.eq z.1))),.obj b3 110 (.rep fu x)])) ?_
 refine ka (dj rfl rfl lE) ?_
 rw [g9]
 refine cC (F7 (pre:=[.obj y 107 (.agg (.pair (.at aw d0) (.eq z.1))),.obj b3 110 (.rep fu x)])) ?_
 refine fk rfl ?_
 refine nt ?_
 refine ao ?_
 refine aJ (Z:=Unit) (α:=Int×List (List Int)) (fun _ q=>[(3,.eq (bP b3)),(11,.eq z.1),(12,I (ls.length:Int)),(13,I q.1)]) (fun _ q=>[.obj y 107 (.agg (.pair (.at aw d0) (.eq z.1))),.obj b3 110 (.rep fu x)]++fJ 23 z q.2) (k7 k x (ls.length:Int)) k () (0,ls) (fun _=>rfl) h (bu [.obj y 107 (.agg (.pair (.at aw d0) (.eq z.1))),.obj b3 110 (.rep fu x)] (fJ 23 z ls) [0,1] ⟨rfl,rfl,rfl,rfl,trivial⟩ rfl) (fun n u q h=>?_)
 unfold k7 at h
 refine sr ?_
 refine jb (bm rfl) ?_
 refine nt ?_
 refine ae ?_
 refine bM rfl (fun hb=>?_) (fun hb=>?_)
 ·
  replace h:=cE (oq hb) h;refine sk (ae (ao ?_));obtain⟨l,el,h⟩:=aa h;refine dL (tX (pre:=[.obj y 107 (.agg (.pair (.at aw d0) (.eq z.1))),.obj b3 110 (.rep fu x)]) (qc el).2) ?_;refine sr (fr 1 ?_);refine kb (aY (t:=.val) rfl lE Dx (kU el)) ?_;refine ka (dW (i:=q.1.toNat) (off:=0) rfl Dx (fun _=>rfl) rfl (cy (kU el)).2.2 rfl) ?_;refine aq (nt ?_);rw [Option.bind_assoc] at h;refine sr (mq ?_);refine fr 1 ?_;refine ka (dj rfl rfl dE) ?_;refine fk rfl ?_;refine nt (ao (aJ (Z:=Unit) (α:=Int×List Int) (fun _ q2=>[(3,.eq (bP b3)),(5,.eq (z.2 q.1.toNat)),(11,.eq z.1),(12,I (ls.length:Int)),(13,I q.1),(17,.eq (z.2 q.1.toNat)),(18,I (l.length:Int)),(19,I q2.1)]) (fun _ q2=>[.sl (z.2 q.1.toNat) 3 (.int .i64) (q2.2),.sl z.1 23 .val (eF z.2 0 q.2),.obj y 107 (.agg (.pair (.at aw d0) (.eq z.1))),.obj b3 110 (.rep fu x)]++((kY z.2 0 q.2).eraseIdx q.1.toNat)) (jS x (l.length:Int)) k () (0,l) (fun _=>rfl) h (bu [.sl (z.2 q.1.toNat) 3 (.int .i64) (l),.sl z.1 23 .val (eF z.2 0 q.2),.obj y 107 (.agg (.pair (.at aw d0) (.eq z.1))),.obj b3 110 (.rep fu x)] ((kY z.2 0 q.2).eraseIdx q.1.toNat) [0,1,2,3] ⟨rfl,rfl,rfl,rfl,rfl,rfl,rfl,rfl,trivial⟩ rfl) (fun n2 u2 q2 h=>?_)));unfold jS at h;refine sr (jb (bm rfl) ?_);refine nt (ae (bM rfl (fun hb=>?_) (fun hb=>?_)))
  ·replace h:=cE (oq hb) h;refine sk (ae (ao ?_));obtain⟨c,ec,h⟩:=aa h;refine sr (mq ?_);refine kb (aY (t:=.int .i64) rfl dE ui ec) ?_;refine ka (dW (i:=q2.1.toNat) (off:=0) rfl ui (fun _=>rfl) rfl (cy ec).2.2 rfl) ?_;refine aq ?_;refine aq (nt (sr ?_));refine mq (nt (ao (sr ?_)));refine fl NQ ?_;refine fr 3 ?_;refine lo ui ?_;refine jb (fL rfl) ?_;refine aq (nt ?_);refine ci h (fun h=>?_) (fun h=>?_)
   ·refine ab ?_;iterate 2 refine mq ?_
    refine fl NP ?_;refine lo ui ?_;refine fr 1 ?_;refine kb (aY (t:=.int .i64) rfl dE ui ec) ?_;refine bh rfl rfl (cI (i:=q2.1.toNat) rfl ui rfl (gz ec) rfl .int rfl) ⟨rfl,rfl,trivial⟩ ?_;refine au (aM (aM (tn (ab ?_))));obtain⟨w,ew,h⟩:=aa h;refine jb (bb rfl ew) ?_;refine mq (nl ?_);exact jk ((),(w,q2.2.set q2.1.toNat x.2)) h (bu [.sl (z.2 q.1.toNat) 3 (.int .i64) (q2.2.set q2.1.toNat x.2),.obj b3 110 (.rep fu x),.sl z.1 23 .val (eF z.2 0 q.2),.obj y 107 (.agg (.pair (.at aw d0) (.eq z.1)))] ((kY z.2 0 q.2).eraseIdx q.1.toNat) [0,2,3,1] ⟨rfl,rfl,rfl,rfl,rfl,rfl,rfl,rfl,trivial⟩ rfl)
   ·refine sr (fl NP ?_);refine lo ui ?_;refine jb (fL rfl) ?_;refine aq (nt ?_);refine ci h (fun h=>?_) (fun h=>?_)
    ·refine ab ?_;iterate 2 refine mq ?_
     refine fl NQ ?_;refine lo ui ?_;refine fr 1 ?_;refine kb (aY (t:=.int .i64) rfl dE ui ec) ?_;refine bh rfl rfl (cI (i:=q2.1.toNat) rfl ui rfl (gz ec) rfl .int rfl) ⟨rfl,rfl,trivial⟩ ?_;refine au (aM (aM (tn (ab ?_))));obtain⟨w,ew,h⟩:=aa h;refine jb (bb rfl ew) ?_;refine mq (nl ?_);exact jk ((),(w,q2.2.set q2.1.toNat x.1)) h (bu [.sl (z.2 q.1.toNat) 3 (.int .i64) (q2.2.set q2.1.toNat x.1),.obj b3 110 (.rep fu x),.sl z.1 23 .val (eF z.2 0 q.2),.obj y 107 (.agg (.pair (.at aw d0) (.eq z.1)))] ((kY z.2 0 q.2).eraseIdx q.1.toNat) [0,2,3,1] ⟨rfl,rfl,rfl,rfl,rfl,rfl,rfl,rfl,trivial⟩ rfl)
    ·refine aW (aM (aM (tn (ab ?_))));obtain⟨w,ew,h⟩:=aa h;refine jb (bb rfl ew) ?_;refine mq (nl ?_);exact jk ((),(w,q2.2)) h (bu [.obj b3 110 (.rep fu x),.sl (z.2 q.1.toNat) 3 (.int .i64) (q2.2),.sl z.1 23 .val (eF z.2 0 q.2),.obj y 107 (.agg (.pair (.at aw d0) (.eq z.1)))] ((kY z.2 0 q.2).eraseIdx q.1.toNat) [1,2,3,0] ⟨rfl,rfl,rfl,rfl,rfl,rfl,rfl,rfl,trivial⟩ rfl)
  replace h:=bQ (nN hb) h;refine dM (aU (aU (bZ (aM (tn (dL (Ba (pre:=[.obj y 107 (.agg (.pair (.at aw d0) (.eq z.1))),.obj b3 110 (.rep fu x)]) (l':=q2.2) (qc el).2) ?_))))));refine ab ?_;obtain⟨w,ew,h⟩:=aa (X:=ck (q.1+1)) (f:=fun w=>k7 k x (ls.length:Int) n (w,q.2.set q.1.toNat q2.2)) (K:=some) (r:=r) (by simpa using h);refine jb (bb rfl ew) ?_;refine mq (nl ?_);exact jk ((),(w,q.2.set q.1.toNat q2.2)) h (bu [.obj y 107 (.agg (.pair (.at aw d0) (.eq z.1))),.obj b3 110 (.rep fu x)] (fJ 23 z (q.2.set q.1.toNat q2.2)) [0,1] ⟨rfl,rfl,rfl,rfl,trivial⟩ rfl)
 replace h:=bQ (nN hb) h
 refine dM ?_
 refine aU ?_
 refine aU ?_
 refine bZ ?_
 cases h
 refine jD ?_
 refine bC (bu (Γ':=[]) (pre':=[.obj y 107 (.agg (.pair (.at aw d0) (.eq z.1)))]) [.obj y 107 (.agg (.pair (.at aw d0) (.eq z.1))),.obj b3 110 (.rep fu x)] (fJ 23 z q.2) [0] trivial rfl) ?_
 exact jl () [] trivial rfl
@[reducible] def JY:Ty:=.agg (.pair (.ptr aw) (.slice (.slice (.int .i64))))
theorem M7{S:FS}{w:World}{y:Nat}{d0:aw.den}{z:Value×(Nat→Value)}{ls:List (List Int)}(h:∀d∈[D.obj y 107 (.agg (.pair (.at aw d0) (.eq z.1)))]++fJ 23 z ls,d.holds S w∧∀b,d.foot=some b→S b):(A.at JY (d0,ls)).holds S w (bP y):=by
 obtain⟨⟨cs,h1,c1,c2,rfl,g1,rfl,g2⟩,h2⟩:=h _ (List.mem_cons_self ..);have h3:=Nz (fun d hd=>h d (List.mem_cons_of_mem _ hd));refine⟨y,0,_,107,(0,0),rfl,h2 y rfl,h1,c1,[z.1],?_,g1,?_⟩
 ·have l1:=aN (.ptr aw) g1;simp only [Ty.cells] at l1;match c1,l1 with
  |[u],_=>rfl
 ·obtain⟨cs,h4,h5⟩:=h3;have l1:=aN (.slice (.slice (.int .i64))) h4;simp only [Ty.cells] at l1;match cs,l1 with
  |[u],_=>rw [h5];exact h4
theorem zu{S:FS}{w:World}{a:Act}{Γ:Ga}{y:Nat}{d0:aw.den}{z:Value×(Nat→Value)}{ls:List (List Int)}(h:∀d∈[D.obj y 107 (.agg (.pair (.at aw d0) (.eq z.1)))]++fJ 23 z ls,d.holds S w∧∀b,d.foot=some b→S b)
 (hk:∀s r,lk Γ s=some r→r.holds S w (a.tmps.getD s undef)) (h0:lk Γ 0=some (.eq (bP y))):∀s r,lk [(0,A.at JY (d0,ls))] s=some r→r.holds S w (a.tmps.getD s undef):=fun s r hl=>by
 simp only [lk] at hl
 split at hl
 ·
  rename_i e
  cases hl
  subst e
  have e1:a.tmps.getD 0 undef=bP y:=hk 0 _ h0
  rw [e1]
  exact M7 h
 ·
  cases hl
theorem MP{n:Nat}{r0:A}(h:r0.flat=true):∀s r,lk [(n,r0)] s=some r→r.flat=true:=fun s r hl=>by
 simp only [lk] at hl
 split at hl
 ·
  cases hl;exact h
 ·
  cases hl
theorem NT{d0:D}(h:d0.flat=true):∀d∈[d0],d.flat=true:=fun d hd=>by
 simp only [List.mem_cons,List.not_mem_nil,or_false] at hd
 subst hd;exact h
theorem Ld{d0 d1:D}(h:d0.flat=true)(h1:d1.flat=true):∀d∈[d0,d1],d.flat=true:=fun d hd=>by
 simp only [List.mem_cons,List.not_mem_nil,or_false] at hd
 rcases hd with rfl |rfl <;> assumption
theorem zw{y:Nat}{x:Int×Int}(S:FS)(w:World):gf S w [.eq (bP y),.rep fu x] [bP y,Qn x]:=⟨_,_,rfl,rfl,_,_,rfl,Le,rfl⟩
theorem NN:a8 Tryz.prog 157 0 0:=a8.of (by kernel_rfl)
theorem GR:dR Tryz.prog 25 3 true:=⟨fun w=>by kernel_rfl,fun w=>by kernel_rfl⟩
theorem Qs:ah Tryz.prog 64:=ah.of Tryz.func64 (by kernel_rfl) (by kernel_rfl)
theorem Qu:ah Tryz.prog 56:=ah.of Tryz.func56 (by kernel_rfl) (by kernel_rfl)
theorem NX:ah Tryz.prog 83:=ah.of Tryz.func83 (by kernel_rfl) (by kernel_rfl)
def m4(k:Nat)(t:aQ)(x:Int×Int)(ls:List (List Int)):Option (Bool×List (List Int)):=
 (ni k x ls).bind fun l1=>(lO k t l1).bind fun e=>if KR e=true then(ni k x l1).bind fun l2=>some (!vF e,l2) else none
theorem sW(k:Nat)(t:aQ)(x:Int×Int)(ls:List (List Int))(r:Bool×List (List Int))(y m:Nat)(z:Value×(Nat→Value))(h:m4 k t x ls=some r):
 cd Tryz.prog 68 [.eq (bP y),.rep fu x] ([.obj y 107 (.agg (.pair (.at aw (t,.map (some m))) (.eq z.1)))]++fJ 23 z ls) (fun _:Unit=>(bv [.eq (.bool r.1)],[.obj y 107 (.agg (.pair (.at aw (t,.map (some m))) (.eq z.1)))]++fJ 23 z r.2)):=by
 unfold m4 at h
 replace h:=a9 h
 obtain⟨l1,e1,h⟩:=aa h
 obtain⟨e,e2,h⟩:=aa h
 have he:KR e=true:=by
  apply Classical.byContradiction;intro hn;rw [if_neg hn] at h;cases h
 replace h:=cE he h
 obtain⟨l2,e3,h⟩:=aa h
 cases h
 have cv:=rD k t l1 e e2
 refine L2 23 Tryz.func68 rfl Tryz.ntmps68 rfl fun S w0=>?_
 refine sr ?_
 refine bx fun b3=>?_
 refine cq ?_
 refine nt ?_
 refine sr ?_
 refine mq ?_
 refine ka (aj rfl hP (zg) rfl) ?_
 refine cC (fM (Δ':=([.obj y 107 (.agg (.pair (.at aw (t,.map (some m))) (.eq z.1)))]++fJ 23 z ls)++[.obj b3 110 (.rep fu x)]) (List.perm_append_comm (l₁:=([.obj b3 110 (.rep fu x)]:List D)))) ?_
 refine bU (Δ:=_++_) (F:=[_]) (fun _ _ _=>ax rfl _) rfl rfl (ap [.tmp 5,.tmp 6] rfl rfl yM rfl (mK k x ls l1 y (t,.map (some m)) z e1)) ⟨rfl,rfl,trivial⟩ fun _=>?_
 refine nt ?_
 refine sr ?_
 refine mq ?_
 refine cC (fM (Δ':=[.obj b3 110 (.rep fu x)]++([.obj y 107 (.agg (.pair (.at aw (t,.map (some m))) (.eq z.1)))]++fJ 23 z l1)) List.perm_append_comm) ?_
 refine ka (aj rfl hP (zg) rfl) ?_
 refine cC (sK 9 rfl fun _ _ _ h=>IK h) ?_
 refine xP (vs:=[bP y,Qn x]) [.tmp 8,.tmp 9] rfl rfl rfl rfl rfl ⟨rfl,rfl,trivial⟩ ?_
 refine au ?_
 refine ag ?_
 refine bC (fM (Δ':=([.obj y 107 (.agg (.pair (.at aw (t,.map (some m))) (.eq z.1)))]++fJ 23 z l1)++[.obj b3 110 (.rep fu x)]) (List.perm_append_comm (l₁:=([.obj b3 110 (.rep fu x)]:List D)))) ?_
 show JC _ _ _ _ _
 refine ae ?_
 refine Ez (L:=_++_) (Δ:=[_]) (Γ1:=[(0,.at JY ((t,.map (some m)),l1))]) (Z:=Unit) (fun _=>[(4,.eq (.bool (!vF e)))]) (fun _=>[.obj b3 110 (.rep fu x)]) (fun S w a hl hk=>zu hl hk rfl) (fun _=>⟨MP rfl,NT rfl⟩) (fun S w=>?_) (fun _=>?_)
 ·
  refine bJ ?_;refine dm ?_;refine da (dT rfl) ?_;refine da (aI 1 false rfl Ql rfl) ?_;refine da (ak (t:=.ptr aw) rfl GT rfl) ?_;refine da (dT rfl) ?_;refine da (aI 3 true rfl NN rfl) ?_;refine da (ak (t:=av) rfl GR rfl) ?_;refine dm ?_;refine da (dT rfl) ?_;refine da (aI 1 false rfl uq rfl) ?_;refine da (ak (t:=.slice (.slice (.int .i64))) rfl oD rfl) ?_;refine tZ (by kernel_rfl) qZ ?_;refine jb (ap [.tmp 16,.tmp 20] rfl rfl Qs rfl cv) ?_;refine jb (rV rfl Ui he) ?_;refine aq (au ?_);exact fun a w st=>⟨rfl,(),(SE.fin (Γ':=[(4,.eq (.bool (!vF e)))]) [0] ⟨rfl,trivial⟩ rfl) a w st⟩
 ·
  refine tn (aA (Ew (Δ1:=[.obj y 107 (.agg (.pair (.at aw (t,.map (some m))) (.eq z.1)))]++fJ 23 z l1) (F:=[.obj b3 110 (.rep fu x)]) yM (mK k x l1 l2 y (t,.map (some m)) z e3 _) zw (fun _=>?_)));refine bC (fM (Δ':=[.obj b3 110 (.rep fu x)]++([.obj y 107 (.agg (.pair (.at aw (t,.map (some m))) (.eq z.1)))]++fJ 23 z l2)) List.perm_append_comm) ?_;refine bC (bu (pre':=[.obj y 107 (.agg (.pair (.at aw (t,.map (some m))) (.eq z.1)))]) (Γ':=[(4,.eq (.bool (!vF e)))]) [.obj b3 110 (.rep fu x),.obj y 107 (.agg (.pair (.at aw (t,.map (some m))) (.eq z.1)))] (fJ 23 z l2) [1] ⟨rfl,trivial⟩ rfl) ?_;exact jl () [_] ⟨rfl,trivial⟩ rfl
def m5(k:Nat)(t:aQ)(x:Int×Int)(ls:List (List Int)):Option (Int×List (List Int)):=
 (ni k x ls).bind fun l1=>(dN k l1).bind fun ld=>(dH k t ld).bind fun n=>(ni k x l1).bind fun l2=>some (n,l2)
theorem sX(k:Nat)(t:aQ)(x:Int×Int)(ls:List (List Int))(r:Int×List (List Int))(y m:Nat)(z:Value×(Nat→Value))(h:m5 k t x ls=some r):
 dy (jC Tryz.prog) 70 [.eq (bP y),.rep fu x] ([.inv m (bS k t)]++([.obj y 107 (.agg (.pair (.at aw (t,.map (some m))) (.eq z.1)))]++fJ 23 z ls)) (fun _:Unit=>(bv [I r.1],[.inv m (bS k t)]++([.obj y 107 (.agg (.pair (.at aw (t,.map (some m))) (.eq z.1)))]++fJ 23 z r.2))):=by
 unfold m5 at h
 replace h:=a9 h
 obtain⟨l1,e1,h⟩:=aa h
 obtain⟨ld,e2,h⟩:=aa h
 obtain⟨n,e2',h⟩:=aa h
 obtain⟨l2,e3,h⟩:=aa h
 cases h
 have cv:=fy k l1 ld e2
 have cl:=j9 k t m ld n e2'
 refine Bm 20 Tryz.func70 rfl Tryz.ntmps70 rfl fun S w0=>?_
 refine sr ?_
 refine bx fun b3=>?_
 refine cq ?_
 refine nt ?_
 refine sr ?_
 refine mq ?_
 refine ka (aj rfl hP (zg) rfl) ?_
 refine cC (fM (Δ':=([.obj y 107 (.agg (.pair (.at aw (t,.map (some m))) (.eq z.1)))]++fJ 23 z ls)++[.obj b3 110 (.rep fu x),.inv m (bS k t)]) (List.perm_append_comm (l₁:=([.obj b3 110 (.rep fu x),.inv m (bS k t)]:List D)))) ?_
 refine bU (Δ:=_++_) (F:=[_,_]) (fun _ _ _=>ax rfl _) rfl rfl (ap [.tmp 5,.tmp 6] rfl rfl yM rfl (mK k x ls l1 y (t,.map (some m)) z e1)) ⟨rfl,rfl,trivial⟩ fun _=>?_
 refine nt ?_
 refine sr ?_
 refine mq ?_
 refine cC (fM (Δ':=[.obj b3 110 (.rep fu x),.inv m (bS k t)]++([.obj y 107 (.agg (.pair (.at aw (t,.map (some m))) (.eq z.1)))]++fJ 23 z l1)) List.perm_append_comm) ?_
 refine ka (aj rfl hP (zg) rfl) ?_
 refine cC (sK 9 rfl fun _ _ _ h=>IK h) ?_
 refine xP (vs:=[bP y,Qn x]) [.tmp 8,.tmp 9] rfl rfl rfl rfl rfl ⟨rfl,rfl,trivial⟩ ?_
 refine au ?_
 refine ag ?_
 refine bC (fM (Δ':=([.obj y 107 (.agg (.pair (.at aw (t,.map (some m))) (.eq z.1)))]++fJ 23 z l1)++[.obj b3 110 (.rep fu x),.inv m (bS k t)]) (List.perm_append_comm (l₁:=([.obj b3 110 (.rep fu x),.inv m (bS k t)]:List D)))) ?_
 show JC _ _ _ _ _
 refine ae ?_
 refine Ez (L:=_++_) (Δ:=[_,_]) (Γ1:=[(0,.at JY ((t,.map (some m)),l1))]) (Z:=Unit) (fun _=>[(4,I n)]) (fun _=>[.obj b3 110 (.rep fu x),.inv m (bS k t)]) (fun S w a hl hk=>zu hl hk rfl) (fun _=>⟨MP rfl,Ld rfl rfl⟩) (fun S w=>?_) (fun _=>?_)
 ·
  refine bJ ?_;refine dm ?_;refine da (dT rfl) ?_;refine da (aI 1 false rfl Ql rfl) ?_;refine da (ak (t:=.ptr aw) rfl GT rfl) ?_;refine dm ?_;refine da (dT rfl) ?_;refine da (aI 1 false rfl uq rfl) ?_;refine da (ak (t:=.slice (.slice (.int .i64))) rfl oD rfl) ?_;refine da (ap [.tmp 17] rfl rfl Qu rfl cv) ?_;refine tZ (by kernel_rfl) qZ ?_;refine fr 1 ?_;refine kb (gy [.tmp 13,.tmp 18] rfl rfl NX rfl cl) ?_;refine aq (au ?_);exact fun a w st=>⟨rfl,(),(SE.fin (Γ':=[(4,I n)]) [1,0] ⟨rfl,trivial⟩ rfl) a w st⟩
 ·
  refine tn (aA (Ew (Δ1:=[.obj y 107 (.agg (.pair (.at aw (t,.map (some m))) (.eq z.1)))]++fJ 23 z l1) (F:=[.obj b3 110 (.rep fu x),.inv m (bS k t)]) yM (mK k x l1 l2 y (t,.map (some m)) z e3 _) zw (fun _=>?_)));refine bC (fM (Δ':=[.obj b3 110 (.rep fu x),.inv m (bS k t)]++([.obj y 107 (.agg (.pair (.at aw (t,.map (some m))) (.eq z.1)))]++fJ 23 z l2)) List.perm_append_comm) ?_;refine bC (bu (pre':=[.inv m (bS k t),.obj y 107 (.agg (.pair (.at aw (t,.map (some m))) (.eq z.1)))]) (Γ':=[(4,I n)]) [.obj b3 110 (.rep fu x),.inv m (bS k t),.obj y 107 (.agg (.pair (.at aw (t,.map (some m))) (.eq z.1)))] (fJ 23 z l2) [1,2] ⟨rfl,trivial⟩ rfl) ?_;exact jl () [_] ⟨rfl,trivial⟩ rfl
theorem sR:∀w,(zeroValue 110).run Tryz.prog w= .ok (.agg #[.int .i64 0,.int .i64 0]) w:=fun w=>by kernel_rfl
theorem vV:∀S w,(A.cells S w (.rep fu (0,0)) (Value.cells (.agg #[.int .i64 0,.int .i64 0])).toList):=fun _ _=>⟨[_],[_],rfl,rfl,rfl⟩
theorem NY:ah Tryz.prog 70:=ah.of Tryz.func70 (by kernel_rfl) (by kernel_rfl)
abbrev MS:=Int×(Int×Int)×Int×Bool×List (List Int)
def iq(k:Nat)(t:aQ)(xs:List (Int×Int)):Nat→MS→Option ((Int×Int)×Int×Bool×List (List Int))
 |0,_=>none
 |n+1,q=>if q.1 < (xs.length:Int) then((aP xs q.1).bind fun x=>(m5 k t x q.2.2.2.2).bind fun r=>(ck (q.1+1)).bind fun w=>iq k t xs n (if(!q.2.2.2.1 || decide (r.1 < q.2.2.1))=true then(w,x,r.1,true,r.2) else(w,q.2.1,q.2.2.1,q.2.2.2.1,r.2))) else some q.2
def lY(k:Nat)(t:aQ)(xs:List (Int×Int))(ls:List (List Int)):Option ((Int×Int)×Int×Bool×List (List Int)):=iq k t xs k (0,(0,0),0,false,ls)
theorem wu(k:Nat)(t:aQ)(xs:List (Int×Int))(ls:List (List Int))(r:(Int×Int)×Int×Bool×List (List Int))(y m:Nat)(z:Value×(Nat→Value))(h:lY k t xs ls=some r):
 dy (jC Tryz.prog) 69 [.eq (.func (.func 70) #[bP y] #[]),Rs fu xs] ([.inv m (bS k t),.obj y 107 (.agg (.pair (.at aw (t,.map (some m))) (.eq z.1)))]++fJ 23 z ls) (fun _:Unit=>(bv [.rep fu r.1,I r.2.1,.eq (.bool r.2.2.1)],[.inv m (bS k t),.obj y 107 (.agg (.pair (.at aw (t,.map (some m))) (.eq z.1)))]++fJ 23 z r.2.2.2)):=by
 unfold lY at h
 replace h:=a9 h
 refine dy.of 35 Tryz.func69 rfl Tryz.ntmps69 rfl fun S w0=>?_
 refine sr ?_
 refine aF rfl rfl rfl (bf rfl sR vV) trivial fun b4=>?_
 refine cq ?_
 refine cq ?_
 refine nt ?_
 refine sr ?_
 refine aF rfl rfl rfl (bf rfl sR vV) trivial fun b7=>?_
 refine nt ?_
 refine sr ?_
 refine cq ?_
 refine cq ?_
 refine nt ?_
 refine ae ?_
 refine sr ?_
 refine mq ?_
 refine ol OB ?_
 refine fk rfl ?_
 refine nt ?_
 refine ao ?_
 refine aJ (Z:=Unit) (α:=MS) (fun _ q=>[(0,.eq (.func (.func 70) #[bP y] #[])),(4,.eq (bP b4)),(7,.eq (bP b7)),(8,I q.2.2.1),(9,.eq (.bool q.2.2.2.1)),(13,Rs fu xs),(14,I (xs.length:Int)),(15,I q.1)]) (fun _ q=>[.obj b7 110 (.rep fu q.2.1),.obj b4 110 (.rep fu (0,0)),.inv m (bS k t),.obj y 107 (.agg (.pair (.at aw (t,.map (some m))) (.eq z.1)))]++fJ 23 z q.2.2.2.2) (iq k t xs) k () (0,(0,0),0,false,ls) (fun _=>rfl) h (bu [.obj b7 110 (.rep fu (0,0)),.obj b4 110 (.rep fu (0,0)),.inv m (bS k t),.obj y 107 (.agg (.pair (.at aw (t,.map (some m))) (.eq z.1)))] (fJ 23 z ls) [0,1,2,3] ⟨rfl,rfl,rfl,rfl,rfl,rfl,rfl,rfl,trivial⟩ rfl) (fun n u q h=>?_)
 unfold iq at h
 obtain⟨q1,q2,q3,q4,q5⟩:=q
 refine sr ?_
 refine jb (bm rfl) ?_
 refine nt ?_
 refine ae ?_
 refine bM rfl (fun hb=>?_) (fun hb=>?_)
 ·
  replace h:=cE (oq hb) h;obtain⟨x,ex,h⟩:=aa h;obtain⟨r1,e,h⟩:=aa h;obtain⟨w,ew,h⟩:=aa h;have cl:=sX k t x q5 r1 y m z e;refine sk (ae (ao (sr (jb (aC (t:=fu) rfl OB hP ex) ?_))));refine ja (ak (t:=fu) rfl hP rfl) ?_;refine aF rfl rfl rfl (bf rfl sR vV) trivial fun c=>?_;refine bh rfl rfl (be rfl hP rfl rfl rfl) ⟨rfl,rfl,trivial⟩ ?_;refine nt (sr (mq ?_));refine ka (aj rfl hP (zg) rfl) ?_;refine cC (fM (Δ':=([.inv m (bS k t)]++([.obj y 107 (.agg (.pair (.at aw (t,.map (some m))) (.eq z.1)))]++fJ 23 z q5))++[.obj c 110 (.rep fu x),.obj b7 110 (.rep fu q2),.obj b4 110 (.rep fu (0,0))]) (List.perm_append_comm (l₁:=([.obj c 110 (.rep fu x),.obj b7 110 (.rep fu q2),.obj b4 110 (.rep fu (0,0))]:List D)))) ?_;refine bU (Δ:=_++_) (F:=[_,_,_]) (fun _ _ _=>ax rfl _) rfl rfl (pg (fs:=[bP y]) (cs:=[]) (ags:=[.rep fu x]) [.tmp 20] rfl rfl NY rfl cl) ⟨rfl,rfl,trivial⟩ fun _=>?_;refine aq ?_;refine cC (fM (Δ':=[.obj c 110 (.rep fu x),.obj b7 110 (.rep fu q2),.obj b4 110 (.rep fu (0,0))]++([.inv m (bS k t)]++([.obj y 107 (.agg (.pair (.at aw (t,.map (some m))) (.eq z.1)))]++fJ 23 z r1.2))) List.perm_append_comm) ?_;refine nt ?_;cases q4 with
  |false=>
   refine sr (mq ?_);refine ja (dX rfl) ?_;refine mq ?_;iterate 3 refine gn ?_
   refine pt (nt ?_);refine bM rfl (fun hb=>?_) (fun hb=>(by cases hb));refine ab (ka (aj rfl hP (zg) rfl) ?_);refine mq ?_;refine fr 1 ?_;refine bh rfl rfl (be rfl hP rfl rfl rfl) ⟨rfl,rfl,trivial⟩ ?_;refine aq ?_;refine cq (au (aM (tn (ab ?_))));refine jb (bb rfl ew) ?_;refine mq (nl ?_);exact jk ((),(w,x,r1.1,true,r1.2)) h (bu [.obj b7 110 (.rep fu x),.obj c 110 (.rep fu x),.obj b4 110 (.rep fu (0,0)),.inv m (bS k t),.obj y 107 (.agg (.pair (.at aw (t,.map (some m))) (.eq z.1)))] (fJ 23 z r1.2) [0,2,3,4] ⟨rfl,rfl,rfl,rfl,rfl,rfl,rfl,rfl,trivial⟩ rfl)
  |true=>
   refine sr (mq ?_);refine ja (dX rfl) ?_;refine mq ?_;refine gm ?_;refine gm ?_;refine gb (bm rfl) ?_;refine pf (nt ?_);refine bM rfl (fun hb=>?_) (fun hb=>?_)
   ·replace h:(iq k t xs n (w,x,r1.1,true,r1.2)).bind some=some r:=by
     have hd:r1.1 < q3:=of_decide_eq_true hb;simpa [hd] using h
    refine ab (ka (aj rfl hP (zg) rfl) ?_);refine mq ?_;refine fr 1 ?_;refine bh rfl rfl (be rfl hP rfl rfl rfl) ⟨rfl,rfl,trivial⟩ ?_;refine aq ?_;refine cq (au (aM (tn (ab ?_))));refine jb (bb rfl ew) ?_;refine mq (nl ?_);exact jk ((),(w,x,r1.1,true,r1.2)) h (bu [.obj b7 110 (.rep fu x),.obj c 110 (.rep fu x),.obj b4 110 (.rep fu (0,0)),.inv m (bS k t),.obj y 107 (.agg (.pair (.at aw (t,.map (some m))) (.eq z.1)))] (fJ 23 z r1.2) [0,2,3,4] ⟨rfl,rfl,rfl,rfl,rfl,rfl,rfl,rfl,trivial⟩ rfl)
   ·replace h:(iq k t xs n (w,q2,q3,true,r1.2)).bind some=some r:=by
     have hd:¬r1.1 < q3:=of_decide_eq_false hb;simpa [hd] using h
    refine aW (aM (tn (ab (jb (bb rfl ew) ?_))));refine mq (nl ?_);exact jk ((),(w,q2,q3,true,r1.2)) h (bu [.obj c 110 (.rep fu x),.obj b7 110 (.rep fu q2),.obj b4 110 (.rep fu (0,0)),.inv m (bS k t),.obj y 107 (.agg (.pair (.at aw (t,.map (some m))) (.eq z.1)))] (fJ 23 z r1.2) [1,2,3,4] ⟨rfl,rfl,rfl,rfl,rfl,rfl,rfl,rfl,trivial⟩ rfl)
 replace h:=bQ (nN hb) h
 refine dM ?_
 refine aU ?_
 refine aU ?_
 refine bZ ?_
 refine tn ?_
 cases h
 refine sr ?_
 refine ka (aj rfl hP (zg) rfl) ?_
 iterate 2 refine mq ?_
 refine fr 1 ?_
 refine bh rfl rfl (be rfl hP rfl rfl rfl) ⟨rfl,rfl,trivial⟩ ?_
 refine aq ?_
 refine aq ?_
 refine nt ?_
 refine aA ?_
 refine bC (fM (Δ':=([.inv m (bS k t),.obj y 107 (.agg (.pair (.at aw (t,.map (some m))) (.eq z.1)))]++fJ 23 z q5)++[.obj b4 110 (.rep fu q2),.obj b7 110 (.rep fu q2)]) (List.perm_append_comm (l₁:=([.obj b4 110 (.rep fu q2),.obj b7 110 (.rep fu q2)]:List D)))) ?_
 exact aO () [_,_,_] ([.inv m (bS k t),.obj y 107 (.agg (.pair (.at aw (t,.map (some m))) (.eq z.1)))]++fJ 23 z q5:List D).length ⟨⟨b4,110,.rep fu q2,2,true,rfl,List.mem_append.2 (.inr (List.mem_cons_self ..)),hP,zg,rfl⟩,rfl,rfl,trivial⟩ (by rw [List.take_left])
theorem qG:ah Tryz.prog 67:=ah.of Tryz.func67 (by kernel_rfl) (by kernel_rfl)
theorem Qw:ah Tryz.prog 35:=ah.of Tryz.func35 (by kernel_rfl) (by kernel_rfl)
theorem Qv:ah Tryz.prog 54:=ah.of Tryz.func54 (by kernel_rfl) (by kernel_rfl)
theorem Qq:ah Tryz.prog 68:=ah.of Tryz.func68 (by kernel_rfl) (by kernel_rfl)
theorem Qp:ah Tryz.prog 69:=ah.of Tryz.func69 (by kernel_rfl) (by kernel_rfl)
theorem Mc:dR Tryz.prog 22 1 false:=⟨fun w=>by kernel_rfl,fun w=>by kernel_rfl⟩
theorem MO:a8 Tryz.prog 25 1 1:=a8.of (by kernel_rfl)
theorem oG:mt Tryz.prog 28 23 1 24:=.of (z:=(.slice none 0 0)) lE (by kernel_rfl) rfl rfl rfl
theorem GY:mt Tryz.prog 108 110 2 16:=.of (z:=(.agg #[.int .i64 0,.int .i64 0])) OB (by kernel_rfl) rfl rfl rfl
theorem Nj:zf Tryz.prog 107 #[(0,1),(1,1)]:=⟨_,Ug,fun _=>by kernel_rfl⟩
theorem MY:∀w,(zeroValue 107).run Tryz.prog w= .ok (.agg #[.pointer none,.slice none 0 0]) w:=fun w=>by kernel_rfl
theorem Ou:∀S w,(A.cells S w (.pair (.eq (.pointer none)) (.eq (.slice none 0 0))) (Value.cells (.agg #[.pointer none,.slice none 0 0])).toList):=fun _ _=>⟨[_],_,rfl,⟨rfl,rfl⟩,rfl,rfl⟩
theorem Ni:zf Tryz.prog 110 #[(0,1),(1,1)]:=⟨_,Uf,fun _=>by kernel_rfl⟩
theorem LJ:∀S w,(A.cells S w (.pair (I 0) (I 0)) (Value.cells (.agg #[.int .i64 0,.int .i64 0])).toList):=fun _ _=>⟨[_],_,rfl,⟨rfl,rfl⟩,rfl,rfl⟩
def fH:List Bool→Ga→Ga
 |true::l,e::g=>e::fH l g
 |false::l,_::g=>fH l g
 |_,_=>[]
def mN(y:Nat)(z1:Value)(l:List Int)(v v2:Value):Ga:=[(39,.eq (bP y)),(40,.eq (bP y)),(41,.eq (bP y)),(42,.eq (.pointer (some ⟨y,0+1,none⟩))),(43,.eq z1),(44,Ri l),(45,.eq v),(46,.rep (.slice .val) [v]),(47,.eq v2),(48,.eq (bP y)),(49,.eq (.pointer (some ⟨y,0+1,none⟩)))]
def l6(b2 y:Nat)(n i:Int)(l:List Int)(a1:List (List Int)):Ga:=[(2,.eq (bP b2)),(8,I n),(10,.eq (bP y)),(12,Ri l),(33,.rep (.slice (.slice (.int .i64))) a1),(34,I (a1.length:Int)),(35,I i)]
theorem Rn{i j:Int}:AE (.agg (.pair (I i) (I j))) (.rep fu (i,j)):=fun S w cs h=>by
 obtain⟨c1,c2,e,h1,h2⟩:=h
 exact⟨c1,c2,e,h1.1,h2.1⟩
def mM(k:Nat)(a1:List (List Int)):Nat→Int×List (List Int)→Option (List (List Int))
 |0,_=>none
 |n+1,q=>if q.1 < (a1.length:Int) then((aP a1 q.1).bind fun l=>(kX k l).bind fun l2=>if bH (q.2.length+1) then(ck (q.1+1)).bind fun w=>mM k a1 n (w,q.2++[l2]) else none) else some q.2
def k9(k:Nat)(t:aQ)(i:Int):Nat→Int×List (Int×Int)×List (List Int)→Option (List (Int×Int)×List (List Int))
 |0,_=>none
 |n+1,q=>if q.1 < (t.2.1.length:Int) then((m4 k t (i,q.1) q.2.2).bind fun r=>if r.1=true then(if bH (q.2.1.length+1) then(ck (q.1+1)).bind fun w=>k9 k t i n (w,q.2.1++[(i,q.1)],r.2) else none) else(ck (q.1+1)).bind fun w=>k9 k t i n (w,q.2.1,r.2)) else some q.2
def jT(k:Nat)(t:aQ):Nat→Int×List (Int×Int)×List (List Int)→Option (List (Int×Int)×List (List Int))
 |0,_=>none
 |n+1,q=>if q.1 < (t.2.1.length:Int) then((ck (q.1+1)).bind fun w=>(k9 k t q.1 k (w,q.2)).bind fun p=>jT k t n (w,p)) else some q.2
def uN(k:Nat)(a0:aQ)(a1:(List (List Int))):Option (Int×Int×Int×Int):=
 (pQ k a0 a1).bind fun L=>if¬(L.2=0) then some (0,0,0,L.2) else
 (mM k a1 k (0,[])).bind fun ls=>(jT k a0 k (0,[],ls)).bind fun p=>(lY k a0 p.1 p.2).bind fun b=>
 if(!b.2.2.1 || decide (L.1≤b.2.1))=true then some (0,0,0,11) else some (b.1.1,b.1.2,b.2.1,0)
theorem zz(k:Nat)(a0:aQ)(a1:(List (List Int)))(r:Int×Int×Int×Int)(h:uN k a0 a1=some r):
 dy (jC Tryz.prog) 27 [.rep av a0,.rep (.slice (.slice (.int .i64))) a1] [.inv 0 jv] (fun _:Unit=>(bv [.eq (.int .i64 r.1),.eq (.int .i64 r.2.1),.eq (.int .i64 r.2.2.1),.eq (.int .i64 r.2.2.2)],[.inv 0 jv])):=by
 unfold uN at h
 replace h:=a9 h
 refine dy.of 97 Tryz.func27 rfl Tryz.ntmps27 rfl fun S w0=>?_
 refine ae ?_
 refine ab ?_
 refine aF rfl rfl rfl (oH rfl rfl) ⟨rfl,trivial⟩ fun b2=>?_
 refine dK rfl ?_
 refine dK rfl ?_
 refine dK rfl ?_
 refine dK rfl ?_
 refine au ?_
 refine ag ?_
 show JC _ _ _ _ _
 obtain⟨L,eL,h⟩:=aa h
 have cL:=rI k a0 a1 L eL
 refine ae ?_
 refine ab ?_
 refine bY rfl rfl rfl (aj rfl GR (zg) rfl) ⟨rfl,trivial⟩ ?_
 refine aB rfl rfl ?_
 refine bL 1 rfl ?_
 refine bY rfl rfl rfl (gy [.tmp 21,.tmp 22] rfl rfl Qw rfl cL) ⟨rfl,rfl,trivial⟩ ?_
 refine aB rfl rfl ?_
 refine aE rfl (dk rfl rfl) ⟨rfl,trivial⟩ ?_
 refine aE rfl (dk rfl rfl) ⟨rfl,trivial⟩ ?_
 refine dp rfl rfl ?_
 refine dp rfl rfl ?_
 refine au ?_
 refine ag ?_
 show JC _ _ _ _ _
 refine ae ?_
 refine ae ?_
 refine ab ?_
 refine aB rfl rfl ?_
 refine aE rfl (iy rfl) ⟨rfl,rfl,trivial⟩ ?_
 refine au ?_
 refine ag ?_
 show JC _ _ _ _ _
 refine bM rfl (fun hb=>?_) (fun hb=>?_)
 ·
  replace h:=cE (KH hb) h
  refine ae ?_
  refine ab ?_
  refine aB rfl rfl ?_
  refine dK rfl ?_
  refine dK rfl ?_
  refine dK rfl ?_
  refine dp rfl rfl ?_
  refine au ?_
  refine ag ?_
  show JC _ _ _ _ _
  refine aA ?_
  refine aV ?_
  obtain rfl:=Option.some.inj h
  exact aO () [_,_,_,_] 1 ⟨rfl,rfl,rfl,rfl,trivial⟩ rfl
 replace h:=bQ (yw hb) h
 refine aW ?_
 refine ag ?_
 show JC _ _ _ _ _
 rw [Option.bind_assoc] at h
 refine ae ?_
 refine ab ?_
 refine bL 1 rfl ?_
 refine bY rfl rfl rfl (aj rfl GR (zg) rfl) ⟨rfl,trivial⟩ ?_
 refine aF rfl rfl rfl (ap [.tmp 29] rfl rfl Qv rfl (iL a0)) ⟨rfl,trivial⟩ fun m=>?_
 refine cC (lU (bS k a0) nG) ?_
 refine aE rfl (cN [(0,.tmp 30,_)] rfl Nj MY Ou (il ⟨trivial,trivial⟩) rfl) ⟨rfl,trivial⟩ ?_
 refine aF rfl rfl rfl (oH rfl trivial) ⟨rfl,trivial⟩ fun y=>?_
 refine dp rfl rfl ?_
 refine au ?_
 refine ag ?_
 show JC _ _ _ _ _
 refine ae ?_
 refine ae ?_
 refine ab ?_
 refine aB rfl rfl ?_
 refine aE rfl (jm rfl rfl lE) ⟨rfl,trivial⟩ ?_
 refine fk rfl ?_
 refine cC (SE.nil 23 .val) ?_
 refine cC (fM (Δ':=[.obj y 107 (.agg (.pair (.at aw (a0,.map (some m))) (.eq (.slice none 0 0)))),.inv m (bS k a0),.obj b2 25 (.rep av a0),.inv 0 jv]++fJ 23 (.slice none 0 0,fun _=>undef) []) (List.Perm.trans (List.perm_append_comm (l₁:=([.sl (.slice none 0 0) 23 .val []]:List D))) (List.Perm.refl _))) ?_
 refine au ?_
 refine ag ?_
 show JC _ _ _ _ _
 refine ao ?_
 refine aJ (Z:=Value×(Nat→Value)) (α:=Int×List (List Int)) (fun z q=>[(2,.eq (bP b2)),(8,.eq (.int .i64 L.1)),(10,.eq (bP y)),(33,.rep (.slice (.slice (.int .i64))) a1),(34,.eq (.int .i64 (a1.length:Int))),(35,.eq (.int .i64 q.1))]) (fun z q=>[.obj y 107 (.agg (.pair (.at aw (a0,.map (some m))) (.eq z.1))),.inv m (bS k a0),.obj b2 25 (.rep av a0),.inv 0 jv]++fJ 23 z q.2) (mM k a1) k (.slice none 0 0,fun _=>undef) (0,[]) (fun _=>rfl) h (bu [.obj y 107 (.agg (.pair (.at aw (a0,.map (some m))) (.eq (.slice none 0 0)))),.inv m (bS k a0),.obj b2 25 (.rep av a0),.inv 0 jv] (fJ 23 (.slice none 0 0,fun _=>undef) []) [0,1,2,3] ⟨rfl,rfl,rfl,rfl,rfl,rfl,trivial⟩ rfl) (fun n z q h=>?_)
 unfold mM at h
 refine ae ?_
 refine ab ?_
 refine aE rfl (bm rfl) ⟨rfl,rfl,trivial⟩ ?_
 refine au ?_
 refine ag ?_
 show JC _ _ _ _ _
 refine ae ?_
 refine bM rfl (fun hb=>?_) (fun hb=>?_)
 ·
  replace h:=cE (oq hb) h
  obtain⟨q1,q2⟩:=q
  obtain⟨l,el,h⟩:=aa h
  obtain⟨l2,el2,h⟩:=aa h
  have hk:bH (q2.length+1):=by
   apply Classical.byContradiction
   intro hn
   rw [if_neg hn] at h
   cases h
  replace h:=cE hk h
  have cc:=nr k l l2 el2
  refine aW ?_
  refine ag ?_
  show JC _ _ _ _ _
  refine ae ?_
  refine ao ?_
  refine ae ?_
  refine ab ?_
  refine aE rfl (aC (t:=.slice (.int .i64)) rfl lE Dx el) ⟨rfl,rfl,trivial⟩ ?_
  refine aE rfl (ak (t:=.slice (.int .i64)) rfl Dx rfl) ⟨rfl,trivial⟩ ?_
  refine dp rfl rfl ?_
  refine au ?_
  refine ag ?_
  show JC _ _ _ _ _
  refine dL (En (pre:=[.obj y 107 (.agg (.pair (.at aw (a0,.map (some m))) (.eq z.1))),.inv m (bS k a0),.obj b2 25 (.rep av a0),.inv 0 jv])) ?_
  refine jE 1 rfl ?_
  refine dL (SE.sub (Γ':=l6 b2 y L.1 q1 l a1) ⟨rfl,rfl,rfl,rfl,rfl,rfl,rfl,trivial⟩) ?_
  generalize hB:l6 b2 y L.1 q1 l a1=B
  refine sN (Δ:=[.obj y 107 (.agg (.pair (.at aw (a0,.map (some m))) (.eq z.1))),.sl z.1 23 .val (eF z.2 0 q2)]) (F:=[.inv m (bS k a0),.obj b2 25 (.rep av a0),.inv 0 jv]++kY z.2 0 q2) (Z:=Value×Value) (fun p=>B) (fun p=>[.obj y 107 (.agg (.pair (.at aw (a0,.map (some m))) (.eq p.2))),.sl p.2 23 .val (eF z.2 0 q2++[p.1]),.sl p.1 3 (.int .i64) l2]) (fun S w=>?_) (fun p=>?_)
  ·
   subst hB
   refine Bi (I:=Value×Value) (Ge:=fun _=>l6 b2 y L.1 q1 l a1) (De:=fun p=>[.obj y 107 (.agg (.pair (.at aw (a0,.map (some m))) (.eq p.2))),.sl p.2 23 .val (eF z.2 0 q2++[p.1]),.sl p.1 3 (.int .i64) l2]) (L:=[true,true,true,true,true,true,true,true,true,true,true,true]) qZ rfl (fun J hJ hE=>?_) (by kernel_rfl) (fun p=>?_)
   ·
    have s2047:∀(v v2:Value),J 1 [true,true,true,true,true,true,true,true,true,true,true,false] (fH [true,true,true,true,true,true,true,true,true,true,true,false] (mN y z.1 l v v2)++l6 b2 y L.1 q1 l a1) [.obj y 107 (.agg (.pair (.at aw (a0,.map (some m))) (.eq z.1))),.sl v2 23 .val (eF z.2 0 q2++[v]),.sl v 3 (.int .i64) l2]:=fun v v2=>by
     subst hJ
     refine JD.step [11] (by kernel_rfl) rfl ?_
     refine cP.cons rfl ?_ ?_
     ·
      refine bL 1 rfl ?_
      refine fF fun hv=>?_
      refine bL 1 rfl ?_
      refine bh rfl rfl (be rfl oD hv rfl rfl) ⟨rfl,rfl,trivial⟩ ?_
      exact aG (hE (v,v2)) [0,1,2] ⟨rfl,rfl,rfl,rfl,rfl,rfl,rfl,trivial⟩
     exact trivial
    have s1023:∀(v v2:Value),J 2 [true,true,true,true,true,true,true,true,true,true,false,false] (fH [true,true,true,true,true,true,true,true,true,true,false,false] (mN y z.1 l v v2)++l6 b2 y L.1 q1 l a1) [.obj y 107 (.agg (.pair (.at aw (a0,.map (some m))) (.eq z.1))),.sl v2 23 .val (eF z.2 0 q2++[v]),.sl v 3 (.int .i64) l2]:=fun v v2=>by
     subst hJ
     refine JD.step [10] (by kernel_rfl) rfl ?_
     refine cP.cons rfl ?_ ?_
     ·
      refine aE rfl (ar rfl uq) ⟨rfl,trivial⟩ ?_
      exact aG (s2047 v v2) [0,1,2] ⟨rfl,rfl,rfl,rfl,rfl,rfl,rfl,rfl,rfl,rfl,rfl,rfl,rfl,rfl,rfl,rfl,rfl,rfl,trivial⟩
     exact trivial
    have s511:∀(v v2:Value),J 3 [true,true,true,true,true,true,true,true,true,false,false,false] (fH [true,true,true,true,true,true,true,true,true,false,false,false] (mN y z.1 l v v2)++l6 b2 y L.1 q1 l a1) [.obj y 107 (.agg (.pair (.at aw (a0,.map (some m))) (.eq z.1))),.sl v2 23 .val (eF z.2 0 q2++[v]),.sl v 3 (.int .i64) l2]:=fun v v2=>by
     subst hJ
     refine JD.step [9] (by kernel_rfl) rfl ?_
     refine cP.cons rfl ?_ ?_
     ·
      refine aE rfl (ba rfl) ⟨rfl,trivial⟩ ?_
      exact aG (s1023 v v2) [0,1,2] ⟨rfl,rfl,rfl,rfl,rfl,rfl,rfl,rfl,rfl,rfl,rfl,rfl,rfl,rfl,rfl,rfl,rfl,trivial⟩
     exact trivial
    have s255:∀(v:Value),J 4 [true,true,true,true,true,true,true,true,false,false,false,false] (fH [true,true,true,true,true,true,true,true,false,false,false,false] (mN y z.1 l v undef)++l6 b2 y L.1 q1 l a1) [.obj y 107 (.agg (.pair (.at aw (a0,.map (some m))) (.eq z.1))),.sl z.1 23 .val (eF z.2 0 q2),.sl v 3 (.int .i64) l2]:=fun v=>by
     subst hJ
     refine JD.step [8] (by kernel_rfl) rfl ?_
     refine cP.cons rfl ?_ ?_
     ·
      refine bL 1 rfl ?_
      refine cF rfl rfl rfl (bz rfl rfl oG (by simpa [g9] using hk)) ⟨rfl,rfl,trivial⟩ fun v2=>?_
      exact aG (s511 v v2) [1,0,2] ⟨rfl,rfl,rfl,rfl,rfl,rfl,rfl,rfl,rfl,rfl,rfl,rfl,rfl,rfl,rfl,rfl,trivial⟩
     exact trivial
    have s510:∀(v v2:Value),J 4 [false,true,true,true,true,true,true,true,true,false,false,false] (fH [false,true,true,true,true,true,true,true,true,false,false,false] (mN y z.1 l v v2)++l6 b2 y L.1 q1 l a1) [.obj y 107 (.agg (.pair (.at aw (a0,.map (some m))) (.eq z.1))),.sl v2 23 .val (eF z.2 0 q2++[v]),.sl v 3 (.int .i64) l2]:=fun v v2=>by
     subst hJ
     refine JD.step [0] (by kernel_rfl) rfl ?_
     refine cP.cons rfl ?_ ?_
     ·
      refine aB rfl rfl ?_
      exact aG (s511 v v2) [0,1,2] ⟨rfl,rfl,rfl,rfl,rfl,rfl,rfl,rfl,rfl,rfl,rfl,rfl,rfl,rfl,rfl,rfl,trivial⟩
     exact trivial
    have s127:∀(v:Value),J 5 [true,true,true,true,true,true,true,false,false,false,false,false] (fH [true,true,true,true,true,true,true,false,false,false,false,false] (mN y z.1 l v undef)++l6 b2 y L.1 q1 l a1) [.obj y 107 (.agg (.pair (.at aw (a0,.map (some m))) (.eq z.1))),.sl z.1 23 .val (eF z.2 0 q2),.sl v 3 (.int .i64) l2]:=fun v=>by
     subst hJ
     refine JD.step [7] (by kernel_rfl) rfl ?_
     refine cP.cons rfl ?_ ?_
     ·
      refine bL 2 rfl ?_
      refine fF fun hv=>?_
      refine aE rfl (bi (t:=.val) [(.tmp 45,.eq v)] [v] rfl rfl oG (.cons hv (.val hv) .nil) rfl rfl) ⟨rfl,trivial⟩ ?_
      exact aG (s255 v) [1,2,0] ⟨rfl,rfl,rfl,rfl,rfl,rfl,rfl,rfl,rfl,rfl,rfl,rfl,rfl,rfl,rfl,trivial⟩
     exact trivial
    have s239:∀(v:Value),J 5 [true,true,true,true,false,true,true,true,false,false,false,false] (fH [true,true,true,true,false,true,true,true,false,false,false,false] (mN y z.1 l v undef)++l6 b2 y L.1 q1 l a1) [.obj y 107 (.agg (.pair (.at aw (a0,.map (some m))) (.eq z.1))),.sl z.1 23 .val (eF z.2 0 q2),.sl v 3 (.int .i64) l2]:=fun v=>by
     subst hJ
     refine JD.step [4] (by kernel_rfl) rfl ?_
     refine cP.cons rfl ?_ ?_
     ·
      refine bY rfl rfl rfl (aj rfl oD jr rfl) ⟨rfl,trivial⟩ ?_
      exact aG (s255 v) [0,1,2] ⟨rfl,rfl,rfl,rfl,rfl,rfl,rfl,rfl,rfl,rfl,rfl,rfl,rfl,rfl,rfl,trivial⟩
     exact trivial
    have s254:∀(v:Value),J 5 [false,true,true,true,true,true,true,true,false,false,false,false] (fH [false,true,true,true,true,true,true,true,false,false,false,false] (mN y z.1 l v undef)++l6 b2 y L.1 q1 l a1) [.obj y 107 (.agg (.pair (.at aw (a0,.map (some m))) (.eq z.1))),.sl z.1 23 .val (eF z.2 0 q2),.sl v 3 (.int .i64) l2]:=fun v=>by
     subst hJ
     refine JD.step [0,8] (by kernel_rfl) rfl ?_
     refine cP.cons rfl ?_ ?_
     ·
      refine aB rfl rfl ?_
      exact aG (s255 v) [0,1,2] ⟨rfl,rfl,rfl,rfl,rfl,rfl,rfl,rfl,rfl,rfl,rfl,rfl,rfl,rfl,rfl,trivial⟩
     refine cP.cons rfl ?_ ?_
     ·
      refine bL 1 rfl ?_
      refine cF rfl rfl rfl (bz rfl rfl oG (by simpa [g9] using hk)) ⟨rfl,rfl,trivial⟩ fun v2=>?_
      exact aG (s510 v v2) [1,0,2] ⟨rfl,rfl,rfl,rfl,rfl,rfl,rfl,rfl,rfl,rfl,rfl,rfl,rfl,rfl,rfl,trivial⟩
     exact trivial
    have s63:J 6 [true,true,true,true,true,true,false,false,false,false,false,false] (fH [true,true,true,true,true,true,false,false,false,false,false,false] (mN y z.1 l undef undef)++l6 b2 y L.1 q1 l a1) [.obj y 107 (.agg (.pair (.at aw (a0,.map (some m))) (.eq z.1))),.sl z.1 23 .val (eF z.2 0 q2)]:=by
     subst hJ
     refine JD.step [6] (by kernel_rfl) rfl ?_
     refine cP.cons rfl ?_ ?_
     ·
      refine aF rfl rfl rfl (ap [.tmp 44] rfl rfl qG rfl cc) ⟨rfl,trivial⟩ fun v=>?_
      exact aG (s127 v) [1,2,0] ⟨rfl,rfl,rfl,rfl,rfl,rfl,rfl,rfl,rfl,rfl,rfl,rfl,rfl,rfl,trivial⟩
     exact trivial
    have s111:∀(v:Value),J 6 [true,true,true,true,false,true,true,false,false,false,false,false] (fH [true,true,true,true,false,true,true,false,false,false,false,false] (mN y z.1 l v undef)++l6 b2 y L.1 q1 l a1) [.obj y 107 (.agg (.pair (.at aw (a0,.map (some m))) (.eq z.1))),.sl z.1 23 .val (eF z.2 0 q2),.sl v 3 (.int .i64) l2]:=fun v=>by
     subst hJ
     refine JD.step [4,7] (by kernel_rfl) rfl ?_
     refine cP.cons rfl ?_ ?_
     ·
      refine bY rfl rfl rfl (aj rfl oD jr rfl) ⟨rfl,trivial⟩ ?_
      exact aG (s127 v) [0,1,2] ⟨rfl,rfl,rfl,rfl,rfl,rfl,rfl,rfl,rfl,rfl,rfl,rfl,rfl,rfl,trivial⟩
     refine cP.cons rfl ?_ ?_
     ·
      refine bL 2 rfl ?_
      refine fF fun hv=>?_
      refine aE rfl (bi (t:=.val) [(.tmp 45,.eq v)] [v] rfl rfl oG (.cons hv (.val hv) .nil) rfl rfl) ⟨rfl,trivial⟩ ?_
      exact aG (s239 v) [1,2,0] ⟨rfl,rfl,rfl,rfl,rfl,rfl,rfl,rfl,rfl,rfl,rfl,rfl,rfl,rfl,trivial⟩
     exact trivial
    have s126:∀(v:Value),J 6 [false,true,true,true,true,true,true,false,false,false,false,false] (fH [false,true,true,true,true,true,true,false,false,false,false,false] (mN y z.1 l v undef)++l6 b2 y L.1 q1 l a1) [.obj y 107 (.agg (.pair (.at aw (a0,.map (some m))) (.eq z.1))),.sl z.1 23 .val (eF z.2 0 q2),.sl v 3 (.int .i64) l2]:=fun v=>by
     subst hJ
     refine JD.step [0,7] (by kernel_rfl) rfl ?_
     refine cP.cons rfl ?_ ?_
     ·
      refine aB rfl rfl ?_
      exact aG (s127 v) [0,1,2] ⟨rfl,rfl,rfl,rfl,rfl,rfl,rfl,rfl,rfl,rfl,rfl,rfl,rfl,rfl,trivial⟩
     refine cP.cons rfl ?_ ?_
     ·
      refine bL 2 rfl ?_
      refine fF fun hv=>?_
      refine aE rfl (bi (t:=.val) [(.tmp 45,.eq v)] [v] rfl rfl oG (.cons hv (.val hv) .nil) rfl rfl) ⟨rfl,trivial⟩ ?_
      exact aG (s254 v) [1,2,0] ⟨rfl,rfl,rfl,rfl,rfl,rfl,rfl,rfl,rfl,rfl,rfl,rfl,rfl,rfl,trivial⟩
     exact trivial
    have s231:∀(v:Value),J 6 [true,true,true,false,false,true,true,true,false,false,false,false] (fH [true,true,true,false,false,true,true,true,false,false,false,false] (mN y z.1 l v undef)++l6 b2 y L.1 q1 l a1) [.obj y 107 (.agg (.pair (.at aw (a0,.map (some m))) (.eq z.1))),.sl z.1 23 .val (eF z.2 0 q2),.sl v 3 (.int .i64) l2]:=fun v=>by
     subst hJ
     refine JD.step [3] (by kernel_rfl) rfl ?_
     refine cP.cons rfl ?_ ?_
     ·
      refine aE rfl (ar rfl uq) ⟨rfl,trivial⟩ ?_
      exact aG (s239 v) [0,1,2] ⟨rfl,rfl,rfl,rfl,rfl,rfl,rfl,rfl,rfl,rfl,rfl,rfl,rfl,rfl,trivial⟩
     exact trivial
    have s238:∀(v:Value),J 6 [false,true,true,true,false,true,true,true,false,false,false,false] (fH [false,true,true,true,false,true,true,true,false,false,false,false] (mN y z.1 l v undef)++l6 b2 y L.1 q1 l a1) [.obj y 107 (.agg (.pair (.at aw (a0,.map (some m))) (.eq z.1))),.sl z.1 23 .val (eF z.2 0 q2),.sl v 3 (.int .i64) l2]:=fun v=>by
     subst hJ
     refine JD.step [0,4] (by kernel_rfl) rfl ?_
     refine cP.cons rfl ?_ ?_
     ·
      refine aB rfl rfl ?_
      exact aG (s239 v) [0,1,2] ⟨rfl,rfl,rfl,rfl,rfl,rfl,rfl,rfl,rfl,rfl,rfl,rfl,rfl,rfl,trivial⟩
     refine cP.cons rfl ?_ ?_
     ·
      refine bY rfl rfl rfl (aj rfl oD jr rfl) ⟨rfl,trivial⟩ ?_
      exact aG (s254 v) [0,1,2] ⟨rfl,rfl,rfl,rfl,rfl,rfl,rfl,rfl,rfl,rfl,rfl,rfl,rfl,rfl,trivial⟩
     exact trivial
    have s31:J 7 [true,true,true,true,true,false,false,false,false,false,false,false] (fH [true,true,true,true,true,false,false,false,false,false,false,false] (mN y z.1 l undef undef)++l6 b2 y L.1 q1 l a1) [.obj y 107 (.agg (.pair (.at aw (a0,.map (some m))) (.eq z.1))),.sl z.1 23 .val (eF z.2 0 q2)]:=by
     subst hJ
     refine JD.step [5] (by kernel_rfl) rfl ?_
     refine cP.cons rfl ?_ ?_
     ·
      refine aB rfl rfl ?_
      exact aG (s63) [0,1] ⟨rfl,rfl,rfl,rfl,rfl,rfl,rfl,rfl,rfl,rfl,rfl,rfl,rfl,trivial⟩
     exact trivial
    have s47:J 7 [true,true,true,true,false,true,false,false,false,false,false,false] (fH [true,true,true,true,false,true,false,false,false,false,false,false] (mN y z.1 l undef undef)++l6 b2 y L.1 q1 l a1) [.obj y 107 (.agg (.pair (.at aw (a0,.map (some m))) (.eq z.1))),.sl z.1 23 .val (eF z.2 0 q2)]:=by
     subst hJ
     refine JD.step [4,6] (by kernel_rfl) rfl ?_
     refine cP.cons rfl ?_ ?_
     ·
      refine bY rfl rfl rfl (aj rfl oD jr rfl) ⟨rfl,trivial⟩ ?_
      exact aG (s63) [0,1] ⟨rfl,rfl,rfl,rfl,rfl,rfl,rfl,rfl,rfl,rfl,rfl,rfl,rfl,trivial⟩
     refine cP.cons rfl ?_ ?_
     ·
      refine aF rfl rfl rfl (ap [.tmp 44] rfl rfl qG rfl cc) ⟨rfl,trivial⟩ fun v=>?_
      exact aG (s111 v) [1,2,0] ⟨rfl,rfl,rfl,rfl,rfl,rfl,rfl,rfl,rfl,rfl,rfl,rfl,rfl,trivial⟩
     exact trivial
    have s62:J 7 [false,true,true,true,true,true,false,false,false,false,false,false] (fH [false,true,true,true,true,true,false,false,false,false,false,false] (mN y z.1 l undef undef)++l6 b2 y L.1 q1 l a1) [.obj y 107 (.agg (.pair (.at aw (a0,.map (some m))) (.eq z.1))),.sl z.1 23 .val (eF z.2 0 q2)]:=by
     subst hJ
     refine JD.step [0,6] (by kernel_rfl) rfl ?_
     refine cP.cons rfl ?_ ?_
     ·
      refine aB rfl rfl ?_
      exact aG (s63) [0,1] ⟨rfl,rfl,rfl,rfl,rfl,rfl,rfl,rfl,rfl,rfl,rfl,rfl,rfl,trivial⟩
     refine cP.cons rfl ?_ ?_
     ·
      refine aF rfl rfl rfl (ap [.tmp 44] rfl rfl qG rfl cc) ⟨rfl,trivial⟩ fun v=>?_
      exact aG (s126 v) [1,2,0] ⟨rfl,rfl,rfl,rfl,rfl,rfl,rfl,rfl,rfl,rfl,rfl,rfl,rfl,trivial⟩
     exact trivial
    have s103:∀(v:Value),J 7 [true,true,true,false,false,true,true,false,false,false,false,false] (fH [true,true,true,false,false,true,true,false,false,false,false,false] (mN y z.1 l v undef)++l6 b2 y L.1 q1 l a1) [.obj y 107 (.agg (.pair (.at aw (a0,.map (some m))) (.eq z.1))),.sl z.1 23 .val (eF z.2 0 q2),.sl v 3 (.int .i64) l2]:=fun v=>by
     subst hJ
     refine JD.step [3,7] (by kernel_rfl) rfl ?_
     refine cP.cons rfl ?_ ?_
     ·
      refine aE rfl (ar rfl uq) ⟨rfl,trivial⟩ ?_
      exact aG (s111 v) [0,1,2] ⟨rfl,rfl,rfl,rfl,rfl,rfl,rfl,rfl,rfl,rfl,rfl,rfl,rfl,trivial⟩
     refine cP.cons rfl ?_ ?_
     ·
      refine bL 2 rfl ?_
      refine fF fun hv=>?_
      refine aE rfl (bi (t:=.val) [(.tmp 45,.eq v)] [v] rfl rfl oG (.cons hv (.val hv) .nil) rfl rfl) ⟨rfl,trivial⟩ ?_
      exact aG (s231 v) [1,2,0] ⟨rfl,rfl,rfl,rfl,rfl,rfl,rfl,rfl,rfl,rfl,rfl,rfl,rfl,trivial⟩
     exact trivial
    have s110:∀(v:Value),J 7 [false,true,true,true,false,true,true,false,false,false,false,false] (fH [false,true,true,true,false,true,true,false,false,false,false,false] (mN y z.1 l v undef)++l6 b2 y L.1 q1 l a1) [.obj y 107 (.agg (.pair (.at aw (a0,.map (some m))) (.eq z.1))),.sl z.1 23 .val (eF z.2 0 q2),.sl v 3 (.int .i64) l2]:=fun v=>by
     subst hJ
     refine JD.step [0,4,7] (by kernel_rfl) rfl ?_
     refine cP.cons rfl ?_ ?_
     ·
      refine aB rfl rfl ?_
      exact aG (s111 v) [0,1,2] ⟨rfl,rfl,rfl,rfl,rfl,rfl,rfl,rfl,rfl,rfl,rfl,rfl,rfl,trivial⟩
     refine cP.cons rfl ?_ ?_
     ·
      refine bY rfl rfl rfl (aj rfl oD jr rfl) ⟨rfl,trivial⟩ ?_
      exact aG (s126 v) [0,1,2] ⟨rfl,rfl,rfl,rfl,rfl,rfl,rfl,rfl,rfl,rfl,rfl,rfl,rfl,trivial⟩
     refine cP.cons rfl ?_ ?_
     ·
      refine bL 2 rfl ?_
      refine fF fun hv=>?_
      refine aE rfl (bi (t:=.val) [(.tmp 45,.eq v)] [v] rfl rfl oG (.cons hv (.val hv) .nil) rfl rfl) ⟨rfl,trivial⟩ ?_
      exact aG (s238 v) [1,2,0] ⟨rfl,rfl,rfl,rfl,rfl,rfl,rfl,rfl,rfl,rfl,rfl,rfl,rfl,trivial⟩
     exact trivial
    have s227:∀(v:Value),J 7 [true,true,false,false,false,true,true,true,false,false,false,false] (fH [true,true,false,false,false,true,true,true,false,false,false,false] (mN y z.1 l v undef)++l6 b2 y L.1 q1 l a1) [.obj y 107 (.agg (.pair (.at aw (a0,.map (some m))) (.eq z.1))),.sl z.1 23 .val (eF z.2 0 q2),.sl v 3 (.int .i64) l2]:=fun v=>by
     subst hJ
     refine JD.step [2] (by kernel_rfl) rfl ?_
     refine cP.cons rfl ?_ ?_
     ·
      refine aE rfl (ba rfl) ⟨rfl,trivial⟩ ?_
      exact aG (s231 v) [0,1,2] ⟨rfl,rfl,rfl,rfl,rfl,rfl,rfl,rfl,rfl,rfl,rfl,rfl,rfl,trivial⟩
     exact trivial
    have s230:∀(v:Value),J 7 [false,true,true,false,false,true,true,true,false,false,false,false] (fH [false,true,true,false,false,true,true,true,false,false,false,false] (mN y z.1 l v undef)++l6 b2 y L.1 q1 l a1) [.obj y 107 (.agg (.pair (.at aw (a0,.map (some m))) (.eq z.1))),.sl z.1 23 .val (eF z.2 0 q2),.sl v 3 (.int .i64) l2]:=fun v=>by
     subst hJ
     refine JD.step [0,3] (by kernel_rfl) rfl ?_
     refine cP.cons rfl ?_ ?_
     ·
      refine aB rfl rfl ?_
      exact aG (s231 v) [0,1,2] ⟨rfl,rfl,rfl,rfl,rfl,rfl,rfl,rfl,rfl,rfl,rfl,rfl,rfl,trivial⟩
     refine cP.cons rfl ?_ ?_
     ·
      refine aE rfl (ar rfl uq) ⟨rfl,trivial⟩ ?_
      exact aG (s238 v) [0,1,2] ⟨rfl,rfl,rfl,rfl,rfl,rfl,rfl,rfl,rfl,rfl,rfl,rfl,rfl,trivial⟩
     exact trivial
    have s15:J 8 [true,true,true,true,false,false,false,false,false,false,false,false] (fH [true,true,true,true,false,false,false,false,false,false,false,false] (mN y z.1 l undef undef)++l6 b2 y L.1 q1 l a1) [.obj y 107 (.agg (.pair (.at aw (a0,.map (some m))) (.eq z.1))),.sl z.1 23 .val (eF z.2 0 q2)]:=by
     subst hJ
     refine JD.step [4,5] (by kernel_rfl) rfl ?_
     refine cP.cons rfl ?_ ?_
     ·
      refine bY rfl rfl rfl (aj rfl oD jr rfl) ⟨rfl,trivial⟩ ?_
      exact aG (s31) [0,1] ⟨rfl,rfl,rfl,rfl,rfl,rfl,rfl,rfl,rfl,rfl,rfl,rfl,trivial⟩
     refine cP.cons rfl ?_ ?_
     ·
      refine aB rfl rfl ?_
      exact aG (s47) [0,1] ⟨rfl,rfl,rfl,rfl,rfl,rfl,rfl,rfl,rfl,rfl,rfl,rfl,trivial⟩
     exact trivial
    have s30:J 8 [false,true,true,true,true,false,false,false,false,false,false,false] (fH [false,true,true,true,true,false,false,false,false,false,false,false] (mN y z.1 l undef undef)++l6 b2 y L.1 q1 l a1) [.obj y 107 (.agg (.pair (.at aw (a0,.map (some m))) (.eq z.1))),.sl z.1 23 .val (eF z.2 0 q2)]:=by
     subst hJ
     refine JD.step [0,5] (by kernel_rfl) rfl ?_
     refine cP.cons rfl ?_ ?_
     ·
      refine aB rfl rfl ?_
      exact aG (s31) [0,1] ⟨rfl,rfl,rfl,rfl,rfl,rfl,rfl,rfl,rfl,rfl,rfl,rfl,trivial⟩
     refine cP.cons rfl ?_ ?_
     ·
      refine aB rfl rfl ?_
      exact aG (s62) [0,1] ⟨rfl,rfl,rfl,rfl,rfl,rfl,rfl,rfl,rfl,rfl,rfl,rfl,trivial⟩
     exact trivial
    have s39:J 8 [true,true,true,false,false,true,false,false,false,false,false,false] (fH [true,true,true,false,false,true,false,false,false,false,false,false] (mN y z.1 l undef undef)++l6 b2 y L.1 q1 l a1) [.obj y 107 (.agg (.pair (.at aw (a0,.map (some m))) (.eq z.1))),.sl z.1 23 .val (eF z.2 0 q2)]:=by
     subst hJ
     refine JD.step [3,6] (by kernel_rfl) rfl ?_
     refine cP.cons rfl ?_ ?_
     ·
      refine aE rfl (ar rfl uq) ⟨rfl,trivial⟩ ?_
      exact aG (s47) [0,1] ⟨rfl,rfl,rfl,rfl,rfl,rfl,rfl,rfl,rfl,rfl,rfl,rfl,trivial⟩
     refine cP.cons rfl ?_ ?_
     ·
      refine aF rfl rfl rfl (ap [.tmp 44] rfl rfl qG rfl cc) ⟨rfl,trivial⟩ fun v=>?_
      exact aG (s103 v) [1,2,0] ⟨rfl,rfl,rfl,rfl,rfl,rfl,rfl,rfl,rfl,rfl,rfl,rfl,trivial⟩
     exact trivial
    have s46:J 8 [false,true,true,true,false,true,false,false,false,false,false,false] (fH [false,true,true,true,false,true,false,false,false,false,false,false] (mN y z.1 l undef undef)++l6 b2 y L.1 q1 l a1) [.obj y 107 (.agg (.pair (.at aw (a0,.map (some m))) (.eq z.1))),.sl z.1 23 .val (eF z.2 0 q2)]:=by
     subst hJ
     refine JD.step [0,4,6] (by kernel_rfl) rfl ?_
     refine cP.cons rfl ?_ ?_
     ·
      refine aB rfl rfl ?_
      exact aG (s47) [0,1] ⟨rfl,rfl,rfl,rfl,rfl,rfl,rfl,rfl,rfl,rfl,rfl,rfl,trivial⟩
     refine cP.cons rfl ?_ ?_
     ·
      refine bY rfl rfl rfl (aj rfl oD jr rfl) ⟨rfl,trivial⟩ ?_
      exact aG (s62) [0,1] ⟨rfl,rfl,rfl,rfl,rfl,rfl,rfl,rfl,rfl,rfl,rfl,rfl,trivial⟩
     refine cP.cons rfl ?_ ?_
     ·
      refine aF rfl rfl rfl (ap [.tmp 44] rfl rfl qG rfl cc) ⟨rfl,trivial⟩ fun v=>?_
      exact aG (s110 v) [1,2,0] ⟨rfl,rfl,rfl,rfl,rfl,rfl,rfl,rfl,rfl,rfl,rfl,rfl,trivial⟩
     exact trivial
    have s99:∀(v:Value),J 8 [true,true,false,false,false,true,true,false,false,false,false,false] (fH [true,true,false,false,false,true,true,false,false,false,false,false] (mN y z.1 l v undef)++l6 b2 y L.1 q1 l a1) [.obj y 107 (.agg (.pair (.at aw (a0,.map (some m))) (.eq z.1))),.sl z.1 23 .val (eF z.2 0 q2),.sl v 3 (.int .i64) l2]:=fun v=>by
     subst hJ
     refine JD.step [2,7] (by kernel_rfl) rfl ?_
     refine cP.cons rfl ?_ ?_
     ·
      refine aE rfl (ba rfl) ⟨rfl,trivial⟩ ?_
      exact aG (s103 v) [0,1,2] ⟨rfl,rfl,rfl,rfl,rfl,rfl,rfl,rfl,rfl,rfl,rfl,rfl,trivial⟩
     refine cP.cons rfl ?_ ?_
     ·
      refine bL 2 rfl ?_
      refine fF fun hv=>?_
      refine aE rfl (bi (t:=.val) [(.tmp 45,.eq v)] [v] rfl rfl oG (.cons hv (.val hv) .nil) rfl rfl) ⟨rfl,trivial⟩ ?_
      exact aG (s227 v) [1,2,0] ⟨rfl,rfl,rfl,rfl,rfl,rfl,rfl,rfl,rfl,rfl,rfl,rfl,trivial⟩
     exact trivial
    have s102:∀(v:Value),J 8 [false,true,true,false,false,true,true,false,false,false,false,false] (fH [false,true,true,false,false,true,true,false,false,false,false,false] (mN y z.1 l v undef)++l6 b2 y L.1 q1 l a1) [.obj y 107 (.agg (.pair (.at aw (a0,.map (some m))) (.eq z.1))),.sl z.1 23 .val (eF z.2 0 q2),.sl v 3 (.int .i64) l2]:=fun v=>by
     subst hJ
     refine JD.step [0,3,7] (by kernel_rfl) rfl ?_
     refine cP.cons rfl ?_ ?_
     ·
      refine aB rfl rfl ?_
      exact aG (s103 v) [0,1,2] ⟨rfl,rfl,rfl,rfl,rfl,rfl,rfl,rfl,rfl,rfl,rfl,rfl,trivial⟩
     refine cP.cons rfl ?_ ?_
     ·
      refine aE rfl (ar rfl uq) ⟨rfl,trivial⟩ ?_
      exact aG (s110 v) [0,1,2] ⟨rfl,rfl,rfl,rfl,rfl,rfl,rfl,rfl,rfl,rfl,rfl,rfl,trivial⟩
     refine cP.cons rfl ?_ ?_
     ·
      refine bL 2 rfl ?_
      refine fF fun hv=>?_
      refine aE rfl (bi (t:=.val) [(.tmp 45,.eq v)] [v] rfl rfl oG (.cons hv (.val hv) .nil) rfl rfl) ⟨rfl,trivial⟩ ?_
      exact aG (s230 v) [1,2,0] ⟨rfl,rfl,rfl,rfl,rfl,rfl,rfl,rfl,rfl,rfl,rfl,rfl,trivial⟩
     exact trivial
    have s225:∀(v:Value),J 8 [true,false,false,false,false,true,true,true,false,false,false,false] (fH [true,false,false,false,false,true,true,true,false,false,false,false] (mN y z.1 l v undef)++l6 b2 y L.1 q1 l a1) [.obj y 107 (.agg (.pair (.at aw (a0,.map (some m))) (.eq z.1))),.sl z.1 23 .val (eF z.2 0 q2),.sl v 3 (.int .i64) l2]:=fun v=>by
     subst hJ
     refine JD.step [1] (by kernel_rfl) rfl ?_
     refine cP.cons rfl ?_ ?_
     ·
      refine aB rfl rfl ?_
      exact aG (s227 v) [0,1,2] ⟨rfl,rfl,rfl,rfl,rfl,rfl,rfl,rfl,rfl,rfl,rfl,rfl,trivial⟩
     exact trivial
    have s226:∀(v:Value),J 8 [false,true,false,false,false,true,true,true,false,false,false,false] (fH [false,true,false,false,false,true,true,true,false,false,false,false] (mN y z.1 l v undef)++l6 b2 y L.1 q1 l a1) [.obj y 107 (.agg (.pair (.at aw (a0,.map (some m))) (.eq z.1))),.sl z.1 23 .val (eF z.2 0 q2),.sl v 3 (.int .i64) l2]:=fun v=>by
     subst hJ
     refine JD.step [0,2] (by kernel_rfl) rfl ?_
     refine cP.cons rfl ?_ ?_
     ·
      refine aB rfl rfl ?_
      exact aG (s227 v) [0,1,2] ⟨rfl,rfl,rfl,rfl,rfl,rfl,rfl,rfl,rfl,rfl,rfl,rfl,trivial⟩
     refine cP.cons rfl ?_ ?_
     ·
      refine aE rfl (ba rfl) ⟨rfl,trivial⟩ ?_
      exact aG (s230 v) [0,1,2] ⟨rfl,rfl,rfl,rfl,rfl,rfl,rfl,rfl,rfl,rfl,rfl,rfl,trivial⟩
     exact trivial
    have s7:J 9 [true,true,true,false,false,false,false,false,false,false,false,false] (fH [true,true,true,false,false,false,false,false,false,false,false,false] (mN y z.1 l undef undef)++l6 b2 y L.1 q1 l a1) [.obj y 107 (.agg (.pair (.at aw (a0,.map (some m))) (.eq z.1))),.sl z.1 23 .val (eF z.2 0 q2)]:=by
     subst hJ
     refine JD.step [3,5] (by kernel_rfl) rfl ?_
     refine cP.cons rfl ?_ ?_
     ·
      refine aE rfl (ar rfl uq) ⟨rfl,trivial⟩ ?_
      exact aG (s15) [0,1] ⟨rfl,rfl,rfl,rfl,rfl,rfl,rfl,rfl,rfl,rfl,rfl,trivial⟩
     refine cP.cons rfl ?_ ?_
     ·
      refine aB rfl rfl ?_
      exact aG (s39) [0,1] ⟨rfl,rfl,rfl,rfl,rfl,rfl,rfl,rfl,rfl,rfl,rfl,trivial⟩
     exact trivial
    have s14:J 9 [false,true,true,true,false,false,false,false,false,false,false,false] (fH [false,true,true,true,false,false,false,false,false,false,false,false] (mN y z.1 l undef undef)++l6 b2 y L.1 q1 l a1) [.obj y 107 (.agg (.pair (.at aw (a0,.map (some m))) (.eq z.1))),.sl z.1 23 .val (eF z.2 0 q2)]:=by
     subst hJ
     refine JD.step [0,4,5] (by kernel_rfl) rfl ?_
     refine cP.cons rfl ?_ ?_
     ·
      refine aB rfl rfl ?_
      exact aG (s15) [0,1] ⟨rfl,rfl,rfl,rfl,rfl,rfl,rfl,rfl,rfl,rfl,rfl,trivial⟩
     refine cP.cons rfl ?_ ?_
     ·
      refine bY rfl rfl rfl (aj rfl oD jr rfl) ⟨rfl,trivial⟩ ?_
      exact aG (s30) [0,1] ⟨rfl,rfl,rfl,rfl,rfl,rfl,rfl,rfl,rfl,rfl,rfl,trivial⟩
     refine cP.cons rfl ?_ ?_
     ·
      refine aB rfl rfl ?_
      exact aG (s46) [0,1] ⟨rfl,rfl,rfl,rfl,rfl,rfl,rfl,rfl,rfl,rfl,rfl,trivial⟩
     exact trivial
    have s35:J 9 [true,true,false,false,false,true,false,false,false,false,false,false] (fH [true,true,false,false,false,true,false,false,false,false,false,false] (mN y z.1 l undef undef)++l6 b2 y L.1 q1 l a1) [.obj y 107 (.agg (.pair (.at aw (a0,.map (some m))) (.eq z.1))),.sl z.1 23 .val (eF z.2 0 q2)]:=by
     subst hJ
     refine JD.step [2,6] (by kernel_rfl) rfl ?_
     refine cP.cons rfl ?_ ?_
     ·
      refine aE rfl (ba rfl) ⟨rfl,trivial⟩ ?_
      exact aG (s39) [0,1] ⟨rfl,rfl,rfl,rfl,rfl,rfl,rfl,rfl,rfl,rfl,rfl,trivial⟩
     refine cP.cons rfl ?_ ?_
     ·
      refine aF rfl rfl rfl (ap [.tmp 44] rfl rfl qG rfl cc) ⟨rfl,trivial⟩ fun v=>?_
      exact aG (s99 v) [1,2,0] ⟨rfl,rfl,rfl,rfl,rfl,rfl,rfl,rfl,rfl,rfl,rfl,trivial⟩
     exact trivial
    have s38:J 9 [false,true,true,false,false,true,false,false,false,false,false,false] (fH [false,true,true,false,false,true,false,false,false,false,false,false] (mN y z.1 l undef undef)++l6 b2 y L.1 q1 l a1) [.obj y 107 (.agg (.pair (.at aw (a0,.map (some m))) (.eq z.1))),.sl z.1 23 .val (eF z.2 0 q2)]:=by
     subst hJ
     refine JD.step [0,3,6] (by kernel_rfl) rfl ?_
     refine cP.cons rfl ?_ ?_
     ·
      refine aB rfl rfl ?_
      exact aG (s39) [0,1] ⟨rfl,rfl,rfl,rfl,rfl,rfl,rfl,rfl,rfl,rfl,rfl,trivial⟩
     refine cP.cons rfl ?_ ?_
     ·
      refine aE rfl (ar rfl uq) ⟨rfl,trivial⟩ ?_
      exact aG (s46) [0,1] ⟨rfl,rfl,rfl,rfl,rfl,rfl,rfl,rfl,rfl,rfl,rfl,trivial⟩
     refine cP.cons rfl ?_ ?_
     ·
      refine aF rfl rfl rfl (ap [.tmp 44] rfl rfl qG rfl cc) ⟨rfl,trivial⟩ fun v=>?_
      exact aG (s102 v) [1,2,0] ⟨rfl,rfl,rfl,rfl,rfl,rfl,rfl,rfl,rfl,rfl,rfl,trivial⟩
     exact trivial
    have s97:∀(v:Value),J 9 [true,false,false,false,false,true,true,false,false,false,false,false] (fH [true,false,false,false,false,true,true,false,false,false,false,false] (mN y z.1 l v undef)++l6 b2 y L.1 q1 l a1) [.obj y 107 (.agg (.pair (.at aw (a0,.map (some m))) (.eq z.1))),.sl z.1 23 .val (eF z.2 0 q2),.sl v 3 (.int .i64) l2]:=fun v=>by
     subst hJ
     refine JD.step [1,7] (by kernel_rfl) rfl ?_
     refine cP.cons rfl ?_ ?_
     ·
      refine aB rfl rfl ?_
      exact aG (s99 v) [0,1,2] ⟨rfl,rfl,rfl,rfl,rfl,rfl,rfl,rfl,rfl,rfl,rfl,trivial⟩
     refine cP.cons rfl ?_ ?_
     ·
      refine bL 2 rfl ?_
      refine fF fun hv=>?_
      refine aE rfl (bi (t:=.val) [(.tmp 45,.eq v)] [v] rfl rfl oG (.cons hv (.val hv) .nil) rfl rfl) ⟨rfl,trivial⟩ ?_
      exact aG (s225 v) [1,2,0] ⟨rfl,rfl,rfl,rfl,rfl,rfl,rfl,rfl,rfl,rfl,rfl,trivial⟩
     exact trivial
    have s98:∀(v:Value),J 9 [false,true,false,false,false,true,true,false,false,false,false,false] (fH [false,true,false,false,false,true,true,false,false,false,false,false] (mN y z.1 l v undef)++l6 b2 y L.1 q1 l a1) [.obj y 107 (.agg (.pair (.at aw (a0,.map (some m))) (.eq z.1))),.sl z.1 23 .val (eF z.2 0 q2),.sl v 3 (.int .i64) l2]:=fun v=>by
     subst hJ
     refine JD.step [0,2,7] (by kernel_rfl) rfl ?_
     refine cP.cons rfl ?_ ?_
     ·
      refine aB rfl rfl ?_
      exact aG (s99 v) [0,1,2] ⟨rfl,rfl,rfl,rfl,rfl,rfl,rfl,rfl,rfl,rfl,rfl,trivial⟩
     refine cP.cons rfl ?_ ?_
     ·
      refine aE rfl (ba rfl) ⟨rfl,trivial⟩ ?_
      exact aG (s102 v) [0,1,2] ⟨rfl,rfl,rfl,rfl,rfl,rfl,rfl,rfl,rfl,rfl,rfl,trivial⟩
     refine cP.cons rfl ?_ ?_
     ·
      refine bL 2 rfl ?_
      refine fF fun hv=>?_
      refine aE rfl (bi (t:=.val) [(.tmp 45,.eq v)] [v] rfl rfl oG (.cons hv (.val hv) .nil) rfl rfl) ⟨rfl,trivial⟩ ?_
      exact aG (s226 v) [1,2,0] ⟨rfl,rfl,rfl,rfl,rfl,rfl,rfl,rfl,rfl,rfl,rfl,trivial⟩
     exact trivial
    have s224:∀(v:Value),J 9 [false,false,false,false,false,true,true,true,false,false,false,false] (fH [false,false,false,false,false,true,true,true,false,false,false,false] (mN y z.1 l v undef)++l6 b2 y L.1 q1 l a1) [.obj y 107 (.agg (.pair (.at aw (a0,.map (some m))) (.eq z.1))),.sl z.1 23 .val (eF z.2 0 q2),.sl v 3 (.int .i64) l2]:=fun v=>by
     subst hJ
     refine JD.step [0,1] (by kernel_rfl) rfl ?_
     refine cP.cons rfl ?_ ?_
     ·
      refine aB rfl rfl ?_
      exact aG (s225 v) [0,1,2] ⟨rfl,rfl,rfl,rfl,rfl,rfl,rfl,rfl,rfl,rfl,rfl,trivial⟩
     refine cP.cons rfl ?_ ?_
     ·
      refine aB rfl rfl ?_
      exact aG (s226 v) [0,1,2] ⟨rfl,rfl,rfl,rfl,rfl,rfl,rfl,rfl,rfl,rfl,rfl,trivial⟩
     exact trivial
    have s3:J 10 [true,true,false,false,false,false,false,false,false,false,false,false] (fH [true,true,false,false,false,false,false,false,false,false,false,false] (mN y z.1 l undef undef)++l6 b2 y L.1 q1 l a1) [.obj y 107 (.agg (.pair (.at aw (a0,.map (some m))) (.eq z.1))),.sl z.1 23 .val (eF z.2 0 q2)]:=by
     subst hJ
     refine JD.step [2,5] (by kernel_rfl) rfl ?_
     refine cP.cons rfl ?_ ?_
     ·
      refine aE rfl (ba rfl) ⟨rfl,trivial⟩ ?_
      exact aG (s7) [0,1] ⟨rfl,rfl,rfl,rfl,rfl,rfl,rfl,rfl,rfl,rfl,trivial⟩
     refine cP.cons rfl ?_ ?_
     ·
      refine aB rfl rfl ?_
      exact aG (s35) [0,1] ⟨rfl,rfl,rfl,rfl,rfl,rfl,rfl,rfl,rfl,rfl,trivial⟩
     exact trivial
    have s6:J 10 [false,true,true,false,false,false,false,false,false,false,false,false] (fH [false,true,true,false,false,false,false,false,false,false,false,false] (mN y z.1 l undef undef)++l6 b2 y L.1 q1 l a1) [.obj y 107 (.agg (.pair (.at aw (a0,.map (some m))) (.eq z.1))),.sl z.1 23 .val (eF z.2 0 q2)]:=by
     subst hJ
     refine JD.step [0,3,5] (by kernel_rfl) rfl ?_
     refine cP.cons rfl ?_ ?_
     ·
      refine aB rfl rfl ?_
      exact aG (s7) [0,1] ⟨rfl,rfl,rfl,rfl,rfl,rfl,rfl,rfl,rfl,rfl,trivial⟩
     refine cP.cons rfl ?_ ?_
     ·
      refine aE rfl (ar rfl uq) ⟨rfl,trivial⟩ ?_
      exact aG (s14) [0,1] ⟨rfl,rfl,rfl,rfl,rfl,rfl,rfl,rfl,rfl,rfl,trivial⟩
     refine cP.cons rfl ?_ ?_
     ·
      refine aB rfl rfl ?_
      exact aG (s38) [0,1] ⟨rfl,rfl,rfl,rfl,rfl,rfl,rfl,rfl,rfl,rfl,trivial⟩
     exact trivial
    have s33:J 10 [true,false,false,false,false,true,false,false,false,false,false,false] (fH [true,false,false,false,false,true,false,false,false,false,false,false] (mN y z.1 l undef undef)++l6 b2 y L.1 q1 l a1) [.obj y 107 (.agg (.pair (.at aw (a0,.map (some m))) (.eq z.1))),.sl z.1 23 .val (eF z.2 0 q2)]:=by
     subst hJ
     refine JD.step [1,6] (by kernel_rfl) rfl ?_
     refine cP.cons rfl ?_ ?_
     ·
      refine aB rfl rfl ?_
      exact aG (s35) [0,1] ⟨rfl,rfl,rfl,rfl,rfl,rfl,rfl,rfl,rfl,rfl,trivial⟩
     refine cP.cons rfl ?_ ?_
     ·
      refine aF rfl rfl rfl (ap [.tmp 44] rfl rfl qG rfl cc) ⟨rfl,trivial⟩ fun v=>?_
      exact aG (s97 v) [1,2,0] ⟨rfl,rfl,rfl,rfl,rfl,rfl,rfl,rfl,rfl,rfl,trivial⟩
     exact trivial
    have s34:J 10 [false,true,false,false,false,true,false,false,false,false,false,false] (fH [false,true,false,false,false,true,false,false,false,false,false,false] (mN y z.1 l undef undef)++l6 b2 y L.1 q1 l a1) [.obj y 107 (.agg (.pair (.at aw (a0,.map (some m))) (.eq z.1))),.sl z.1 23 .val (eF z.2 0 q2)]:=by
     subst hJ
     refine JD.step [0,2,6] (by kernel_rfl) rfl ?_
     refine cP.cons rfl ?_ ?_
     ·
      refine aB rfl rfl ?_
      exact aG (s35) [0,1] ⟨rfl,rfl,rfl,rfl,rfl,rfl,rfl,rfl,rfl,rfl,trivial⟩
     refine cP.cons rfl ?_ ?_
     ·
      refine aE rfl (ba rfl) ⟨rfl,trivial⟩ ?_
      exact aG (s38) [0,1] ⟨rfl,rfl,rfl,rfl,rfl,rfl,rfl,rfl,rfl,rfl,trivial⟩
     refine cP.cons rfl ?_ ?_
     ·
      refine aF rfl rfl rfl (ap [.tmp 44] rfl rfl qG rfl cc) ⟨rfl,trivial⟩ fun v=>?_
      exact aG (s98 v) [1,2,0] ⟨rfl,rfl,rfl,rfl,rfl,rfl,rfl,rfl,rfl,rfl,trivial⟩
     exact trivial
    have s96:∀(v:Value),J 10 [false,false,false,false,false,true,true,false,false,false,false,false] (fH [false,false,false,false,false,true,true,false,false,false,false,false] (mN y z.1 l v undef)++l6 b2 y L.1 q1 l a1) [.obj y 107 (.agg (.pair (.at aw (a0,.map (some m))) (.eq z.1))),.sl z.1 23 .val (eF z.2 0 q2),.sl v 3 (.int .i64) l2]:=fun v=>by
     subst hJ
     refine JD.step [0,1,7] (by kernel_rfl) rfl ?_
     refine cP.cons rfl ?_ ?_
     ·
      refine aB rfl rfl ?_
      exact aG (s97 v) [0,1,2] ⟨rfl,rfl,rfl,rfl,rfl,rfl,rfl,rfl,rfl,rfl,trivial⟩
     refine cP.cons rfl ?_ ?_
     ·
      refine aB rfl rfl ?_
      exact aG (s98 v) [0,1,2] ⟨rfl,rfl,rfl,rfl,rfl,rfl,rfl,rfl,rfl,rfl,trivial⟩
     refine cP.cons rfl ?_ ?_
     ·
      refine bL 2 rfl ?_
      refine fF fun hv=>?_
      refine aE rfl (bi (t:=.val) [(.tmp 45,.eq v)] [v] rfl rfl oG (.cons hv (.val hv) .nil) rfl rfl) ⟨rfl,trivial⟩ ?_
      exact aG (s224 v) [1,2,0] ⟨rfl,rfl,rfl,rfl,rfl,rfl,rfl,rfl,rfl,rfl,trivial⟩
     exact trivial
    have s1:J 11 [true,false,false,false,false,false,false,false,false,false,false,false] (fH [true,false,false,false,false,false,false,false,false,false,false,false] (mN y z.1 l undef undef)++l6 b2 y L.1 q1 l a1) [.obj y 107 (.agg (.pair (.at aw (a0,.map (some m))) (.eq z.1))),.sl z.1 23 .val (eF z.2 0 q2)]:=by
     subst hJ
     refine JD.step [1,5] (by kernel_rfl) rfl ?_
     refine cP.cons rfl ?_ ?_
     ·
      refine aB rfl rfl ?_
      exact aG (s3) [0,1] ⟨rfl,rfl,rfl,rfl,rfl,rfl,rfl,rfl,rfl,trivial⟩
     refine cP.cons rfl ?_ ?_
     ·
      refine aB rfl rfl ?_
      exact aG (s33) [0,1] ⟨rfl,rfl,rfl,rfl,rfl,rfl,rfl,rfl,rfl,trivial⟩
     exact trivial
    have s2:J 11 [false,true,false,false,false,false,false,false,false,false,false,false] (fH [false,true,false,false,false,false,false,false,false,false,false,false] (mN y z.1 l undef undef)++l6 b2 y L.1 q1 l a1) [.obj y 107 (.agg (.pair (.at aw (a0,.map (some m))) (.eq z.1))),.sl z.1 23 .val (eF z.2 0 q2)]:=by
     subst hJ
     refine JD.step [0,2,5] (by kernel_rfl) rfl ?_
     refine cP.cons rfl ?_ ?_
     ·
      refine aB rfl rfl ?_
      exact aG (s3) [0,1] ⟨rfl,rfl,rfl,rfl,rfl,rfl,rfl,rfl,rfl,trivial⟩
     refine cP.cons rfl ?_ ?_
     ·
      refine aE rfl (ba rfl) ⟨rfl,trivial⟩ ?_
      exact aG (s6) [0,1] ⟨rfl,rfl,rfl,rfl,rfl,rfl,rfl,rfl,rfl,trivial⟩
     refine cP.cons rfl ?_ ?_
     ·
      refine aB rfl rfl ?_
      exact aG (s34) [0,1] ⟨rfl,rfl,rfl,rfl,rfl,rfl,rfl,rfl,rfl,trivial⟩
     exact trivial
    have s32:J 11 [false,false,false,false,false,true,false,false,false,false,false,false] (fH [false,false,false,false,false,true,false,false,false,false,false,false] (mN y z.1 l undef undef)++l6 b2 y L.1 q1 l a1) [.obj y 107 (.agg (.pair (.at aw (a0,.map (some m))) (.eq z.1))),.sl z.1 23 .val (eF z.2 0 q2)]:=by
     subst hJ
     refine JD.step [0,1,6] (by kernel_rfl) rfl ?_
     refine cP.cons rfl ?_ ?_
     ·
      refine aB rfl rfl ?_
      exact aG (s33) [0,1] ⟨rfl,rfl,rfl,rfl,rfl,rfl,rfl,rfl,rfl,trivial⟩
     refine cP.cons rfl ?_ ?_
     ·
      refine aB rfl rfl ?_
      exact aG (s34) [0,1] ⟨rfl,rfl,rfl,rfl,rfl,rfl,rfl,rfl,rfl,trivial⟩
     refine cP.cons rfl ?_ ?_
     ·
      refine aF rfl rfl rfl (ap [.tmp 44] rfl rfl qG rfl cc) ⟨rfl,trivial⟩ fun v=>?_
      exact aG (s96 v) [1,2,0] ⟨rfl,rfl,rfl,rfl,rfl,rfl,rfl,rfl,rfl,trivial⟩
     exact trivial
    have s0:J 12 [false,false,false,false,false,false,false,false,false,false,false,false] (fH [false,false,false,false,false,false,false,false,false,false,false,false] (mN y z.1 l undef undef)++l6 b2 y L.1 q1 l a1) [.obj y 107 (.agg (.pair (.at aw (a0,.map (some m))) (.eq z.1))),.sl z.1 23 .val (eF z.2 0 q2)]:=by
     subst hJ
     refine JD.step [0,1,5] (by kernel_rfl) rfl ?_
     refine cP.cons rfl ?_ ?_
     ·
      refine aB rfl rfl ?_
      exact aG (s1) [0,1] ⟨rfl,rfl,rfl,rfl,rfl,rfl,rfl,rfl,trivial⟩
     refine cP.cons rfl ?_ ?_
     ·
      refine aB rfl rfl ?_
      exact aG (s2) [0,1] ⟨rfl,rfl,rfl,rfl,rfl,rfl,rfl,rfl,trivial⟩
     refine cP.cons rfl ?_ ?_
     ·
      refine aB rfl rfl ?_
      exact aG (s32) [0,1] ⟨rfl,rfl,rfl,rfl,rfl,rfl,rfl,rfl,trivial⟩
     exact trivial
    exact s0
   ·
    exact fun a w st=>⟨rfl,p,st⟩
  ·
   subst hB
   refine aM ?_
   refine ag ?_
   refine bC (fM (Δ':=.sl p.1 3 (.int .i64) l2:: .sl p.2 23 .val (eF z.2 0 q2++[p.1])::([.obj y 107 (.agg (.pair (.at aw (a0,.map (some m))) (.eq p.2))),.inv m (bS k a0),.obj b2 25 (.rep av a0),.inv 0 jv]++kY z.2 0 q2)) ?_) ?_
   ·
    exact List.Perm.trans (List.Perm.swap _ _ _) (List.Perm.trans (List.Perm.cons _ (List.Perm.swap _ _ _)) (List.Perm.swap _ _ _))
   refine bC (xM (pre:=[.obj y 107 (.agg (.pair (.at aw (a0,.map (some m))) (.eq p.2))),.inv m (bS k a0),.obj b2 25 (.rep av a0),.inv 0 jv])) ?_
   show JC _ _ _ _ _
   refine ab ?_
   obtain⟨w3,ew,h⟩:=aa h
   refine aE rfl (bb rfl ew) ⟨rfl,rfl,trivial⟩ ?_
   refine aB rfl rfl ?_
   refine au ?_
   refine ag ?_
   exact jk ((p.2,nu z.2 q2.length p.1),(w3,q2++[l2])) h (bu [.obj y 107 (.agg (.pair (.at aw (a0,.map (some m))) (.eq p.2))),.inv m (bS k a0),.obj b2 25 (.rep av a0),.inv 0 jv] (fJ 23 (p.2,nu z.2 q2.length p.1) (q2++[l2])) [0,1,2,3] ⟨rfl,rfl,rfl,rfl,rfl,rfl,trivial⟩ rfl)
 replace h:=bQ (nN hb) h
 refine dM ?_
 refine aU ?_
 refine aU ?_
 refine bZ ?_
 refine ag ?_
 show JC _ _ _ _ _
 replace h:((jT k a0 k (0,[],q.2)).bind fun p=>(lY k a0 p.1 p.2).bind fun b=>if(!b.2.2.1 || decide (L.1≤b.2.1))=true then some (0,0,0,11) else some (b.1.1,b.1.2,b.2.1,0)).bind some=some r:=h
 rw [Option.bind_assoc] at h
 generalize q.2=ls at h⊢
 refine ae ?_
 refine ab ?_
 refine dK rfl ?_
 refine cC (SE.nil 110 fu) ?_
 refine au ?_
 refine ag ?_
 show JC _ _ _ _ _
 refine dL (bu (Γ':=[(2,.eq (bP b2)),(8,.eq (.int .i64 L.1)),(10,.eq (bP y)),(13,.eq (.slice none 0 0))]) (pre':=[.inv m (bS k a0),.obj b2 25 (.rep av a0),.inv 0 jv,.sl (.slice none 0 0) 110 fu [],.obj y 107 (.agg (.pair (.at aw (a0,.map (some m))) (.eq z.1)))]) [.sl (.slice none 0 0) 110 fu [],.obj y 107 (.agg (.pair (.at aw (a0,.map (some m))) (.eq z.1))),.inv m (bS k a0),.obj b2 25 (.rep av a0),.inv 0 jv] (fJ 23 z ls) [2,3,4,0,1] ⟨rfl,rfl,rfl,rfl,trivial⟩ rfl) ?_
 refine ae ?_
 refine ae ?_
 refine ab ?_
 refine aE rfl (ar rfl MO) ⟨rfl,trivial⟩ ?_
 refine bL 1 rfl ?_
 refine bY rfl rfl rfl (aj rfl Mc jr rfl) ⟨rfl,trivial⟩ ?_
 refine aE rfl (jm rfl rfl mG) ⟨rfl,trivial⟩ ?_
 refine fk rfl ?_
 refine au ?_
 refine ag ?_
 show JC _ _ _ _ _
 refine ao ?_
 refine aJ (Z:=Value) (α:=Int×List (Int×Int)×List (List Int)) (fun c q=>[(2,.eq (bP b2)),(8,.eq (.int .i64 L.1)),(10,.eq (bP y)),(13,.eq c),(53,.eq (.int .i64 (a0.2.1.length:Int))),(54,.eq (.int .i64 q.1))]) (fun c q=>[.obj b2 25 (.rep av a0),.inv m (bS k a0),.inv 0 jv,.sl c 110 fu q.2.1,.obj y 107 (.agg (.pair (.at aw (a0,.map (some m))) (.eq z.1)))]++fJ 23 z q.2.2) (jT k a0) k (.slice none 0 0) (0,[],ls) (fun _=>rfl) h (bu [.obj b2 25 (.rep av a0),.inv m (bS k a0),.inv 0 jv,.sl (.slice none 0 0) 110 fu [],.obj y 107 (.agg (.pair (.at aw (a0,.map (some m))) (.eq z.1)))] (fJ 23 z ls) [0,1,2,3,4] ⟨rfl,rfl,rfl,rfl,rfl,rfl,trivial⟩ rfl) (fun n c q h=>?_)
 obtain⟨q1,qp,ql⟩:=q
 unfold jT at h
 refine ae ?_
 refine ab ?_
 refine aE rfl (bm rfl) ⟨rfl,rfl,trivial⟩ ?_
 refine au ?_
 refine ag ?_
 show JC _ _ _ _ _
 refine ae ?_
 refine bM rfl (fun hb=>?_) (fun hb=>?_)
 ·
  replace h:=cE (oq hb) h
  obtain⟨w,ew,h⟩:=aa h
  rw [Option.bind_assoc] at h
  refine aW ?_
  refine ag ?_
  show JC _ _ _ _ _
  refine ae ?_
  refine ao ?_
  refine ae ?_
  refine ab ?_
  refine aB rfl rfl ?_
  refine dp rfl rfl ?_
  refine au ?_
  refine ag ?_
  show JC _ _ _ _ _
  refine ae ?_
  refine ab ?_
  refine aB rfl rfl ?_
  refine aE rfl (bb rfl ew) ⟨rfl,rfl,trivial⟩ ?_
  refine dp rfl rfl ?_
  refine au ?_
  refine ag ?_
  show JC _ _ _ _ _
  refine ao ?_
  refine aJ (Z:=Value) (α:=Int×List (Int×Int)×List (List Int)) (fun c q=>[(2,.eq (bP b2)),(8,.eq (.int .i64 L.1)),(10,.eq (bP y)),(13,.eq c),(14,.eq (.int .i64 q1)),(15,.eq (.int .i64 q.1)),(53,.eq (.int .i64 (a0.2.1.length:Int))),(54,.eq (.int .i64 q1))]) (fun c q=>[.obj b2 25 (.rep av a0),.inv m (bS k a0),.inv 0 jv,.sl c 110 fu q.2.1,.obj y 107 (.agg (.pair (.at aw (a0,.map (some m))) (.eq z.1)))]++fJ 23 z q.2.2) (k9 k a0 q1) k c (w,qp,ql) (fun _=>rfl) h (bu [.obj b2 25 (.rep av a0),.inv m (bS k a0),.inv 0 jv,.sl c 110 fu qp,.obj y 107 (.agg (.pair (.at aw (a0,.map (some m))) (.eq z.1)))] (fJ 23 z ql) [0,1,2,3,4] ⟨rfl,rfl,rfl,rfl,rfl,rfl,rfl,rfl,trivial⟩ rfl) (fun n3 c q h=>?_)
  obtain⟨j,rp,rl⟩:=q
  unfold k9 at h
  refine ae ?_
  refine ae ?_
  refine ab ?_
  refine aB rfl rfl ?_
  refine aE rfl (ar rfl MO) ⟨rfl,trivial⟩ ?_
  refine bY rfl rfl rfl (aj rfl Mc jr rfl) ⟨rfl,trivial⟩ ?_
  refine aE rfl (jm rfl rfl mG) ⟨rfl,trivial⟩ ?_
  refine aE rfl (bm rfl) ⟨rfl,rfl,trivial⟩ ?_
  refine au ?_
  refine ag ?_
  show JC _ _ _ _ _
  refine bM rfl (fun hb=>?_) (fun hb=>?_)
  ·
   replace h:=cE (oq hb) h
   obtain⟨r1,Q,h⟩:=aa h
   have cv:=sW k a0 (q1,j) rl r1 y m z Q
   refine aW ?_
   refine ag ?_
   show JC _ _ _ _ _
   refine ae ?_
   refine ao ?_
   refine ae ?_
   refine ab ?_
   refine aB rfl rfl ?_
   refine aB rfl rfl ?_
   refine aE rfl (cN [(0,.tmp 66,_),(1,.tmp 67,_)] rfl Ni sR LJ (il ⟨rfl,rfl,trivial⟩) rfl) ⟨rfl,rfl,trivial⟩ ?_
   refine aF rfl rfl rfl (bf rfl sR vV) trivial fun e=>?_
   refine bh rfl rfl (be rfl hP trivial rfl rfl) ⟨rfl,rfl,trivial⟩ ?_
   refine cC (ou (a':=.rep fu (q1,j)) Rn) ?_
   refine au ?_
   refine ag ?_
   show JC _ _ _ _ _
   refine ae ?_
   refine ab ?_
   refine aB rfl rfl ?_
   refine bY rfl rfl rfl (aj rfl hP (zg) rfl) ⟨rfl,trivial⟩ ?_
   refine cC (fM (Δ':=([.obj y 107 (.agg (.pair (.at aw (a0,.map (some m))) (.eq z.1)))]++fJ 23 z rl)++[.obj e 110 (.rep fu (q1,j)),.obj b2 25 (.rep av a0),.inv m (bS k a0),.inv 0 jv,.sl c 110 fu rp]) (List.perm_append_comm (l₁:=([.obj e 110 (.rep fu (q1,j)),.obj b2 25 (.rep av a0),.inv m (bS k a0),.inv 0 jv,.sl c 110 fu rp]:List D)))) ?_
   refine bU (Δ:=_++_) (F:=[_,_,_,_,_]) (fun _ _ _=>ax rfl _) rfl rfl (ap [.tmp 69,.tmp 70] rfl rfl Qq rfl cv) ⟨rfl,rfl,trivial⟩ fun _=>?_
   refine cC (fM (Δ':=[.obj e 110 (.rep fu (q1,j)),.obj b2 25 (.rep av a0),.inv m (bS k a0),.inv 0 jv,.sl c 110 fu rp]++([.obj y 107 (.agg (.pair (.at aw (a0,.map (some m))) (.eq z.1)))]++fJ 23 z r1.2)) List.perm_append_comm) ?_
   refine au ?_
   refine ag ?_
   show JC _ _ _ _ _
   refine bM rfl (fun hb=>?_) (fun hb=>?_)
   ·
    replace h:=cE (BD hb) h
    have hk:bH (rp.length+1):=by
     apply Classical.byContradiction
     intro hn
     rw [if_neg hn] at h
     cases h
    replace h:=cE hk h
    refine ab ?_
    refine aB rfl rfl ?_
    refine bY rfl rfl rfl (aj rfl hP (zg) rfl) ⟨rfl,trivial⟩ ?_
    refine aE rfl (bi (t:=fu) [(.tmp 73,_)] [(q1,j)] rfl rfl GY (.cons rfl .rep .nil) rfl rfl) ⟨rfl,trivial⟩ ?_
    refine bL 4 rfl ?_
    refine cF rfl rfl rfl (bz rfl rfl GY (by simpa using hk)) ⟨rfl,rfl,trivial⟩ fun v'=>?_
    refine dp rfl rfl ?_
    refine au ?_
    refine aM ?_
    refine ag ?_
    show JC _ _ _ _ _
    refine ab ?_
    refine aB rfl rfl ?_
    obtain⟨w2,ew2,h⟩:=aa h
    refine aE rfl (bb rfl ew2) ⟨rfl,rfl,trivial⟩ ?_
    refine dp rfl rfl ?_
    refine au ?_
    refine ag ?_
    exact jk (v',(w2,rp++[(q1,j)],r1.2)) h (bu [.sl v' 110 fu (rp++[(q1,j)]),.obj e 110 (.rep fu (q1,j)),.obj b2 25 (.rep av a0),.inv m (bS k a0),.inv 0 jv,.obj y 107 (.agg (.pair (.at aw (a0,.map (some m))) (.eq z.1)))] (fJ 23 z r1.2) [2,3,4,0,5] ⟨rfl,rfl,rfl,rfl,rfl,rfl,rfl,rfl,trivial⟩ rfl)
   ·
    replace h:=bQ (BE hb) h
    refine aW ?_
    refine aM ?_
    refine ag ?_
    show JC _ _ _ _ _
    refine ab ?_
    refine aB rfl rfl ?_
    obtain⟨w2,ew2,h⟩:=aa h
    refine aE rfl (bb rfl ew2) ⟨rfl,rfl,trivial⟩ ?_
    refine dp rfl rfl ?_
    refine au ?_
    refine ag ?_
    exact jk (c,(w2,rp,r1.2)) h (bu [.obj e 110 (.rep fu (q1,j)),.obj b2 25 (.rep av a0),.inv m (bS k a0),.inv 0 jv,.sl c 110 fu rp,.obj y 107 (.agg (.pair (.at aw (a0,.map (some m))) (.eq z.1)))] (fJ 23 z r1.2) [1,2,3,4,5] ⟨rfl,rfl,rfl,rfl,rfl,rfl,rfl,rfl,trivial⟩ rfl)
  replace h:=bQ (nN hb) h
  refine dM ?_
  refine aU ?_
  refine aU ?_
  refine bZ ?_
  refine aM ?_
  refine ag ?_
  show JC _ _ _ _ _
  replace h:(jT k a0 n (w,rp,rl)).bind _=some r:=h
  refine ab ?_
  refine aE rfl (bb rfl ew) ⟨rfl,rfl,trivial⟩ ?_
  refine aB rfl rfl ?_
  refine au ?_
  refine ag ?_
  exact jk (c,(w,rp,rl)) h (bu [.obj b2 25 (.rep av a0),.inv m (bS k a0),.inv 0 jv,.sl c 110 fu rp,.obj y 107 (.agg (.pair (.at aw (a0,.map (some m))) (.eq z.1)))] (fJ 23 z rl) [0,1,2,3,4] ⟨rfl,rfl,rfl,rfl,rfl,rfl,trivial⟩ rfl)
 replace h:=bQ (nN hb) h
 refine dM ?_
 refine aU ?_
 refine aU ?_
 refine bZ ?_
 refine ag ?_
 show JC _ _ _ _ _
 replace h:((lY k a0 qp ql).bind fun b=>if(!b.2.2.1 || decide (L.1≤b.2.1))=true then some (0,0,0,11) else some (b.1.1,b.1.2,b.2.1,0)).bind some=some r:=h
 obtain⟨b,eb,h⟩:=aa h
 have cx:=wu k a0 qp ql b y m z eb
 refine ae ?_
 refine ab ?_
 refine aB rfl rfl ?_
 refine aE rfl (tj [.tmp 78] [] [bP y] [] rfl rfl rfl) ⟨rfl,trivial⟩ ?_
 refine bL 3 rfl ?_
 refine cC (eD [13] ⟨rfl,trivial⟩) ?_
 refine aB rfl rfl ?_
 refine cC (bu (Γ':=[(8,.eq (.int .i64 L.1)),(79,.eq (.func (.func 70) #[bP y] #[])),(80,Rs fu qp)]) (pre':=[.inv 0 jv,.obj b2 25 (.rep av a0),.inv m (bS k a0),.obj y 107 (.agg (.pair (.at aw (a0,.map (some m))) (.eq z.1)))]) [.obj b2 25 (.rep av a0),.inv m (bS k a0),.inv 0 jv,.obj y 107 (.agg (.pair (.at aw (a0,.map (some m))) (.eq z.1)))] (fJ 23 z ql) [2,0,1,3] ⟨rfl,rfl,rfl,trivial⟩ rfl) ?_
 refine cC (fM (Δ':=([.inv m (bS k a0),.obj y 107 (.agg (.pair (.at aw (a0,.map (some m))) (.eq z.1)))]++fJ 23 z ql)++[.inv 0 jv,.obj b2 25 (.rep av a0)]) (List.perm_append_comm (l₁:=([.inv 0 jv,.obj b2 25 (.rep av a0)]:List D)))) ?_
 refine bU (Δ:=_++_) (F:=[_,_]) (fun _ _ _=>ax rfl _) rfl rfl (gy [.tmp 79,.tmp 80] rfl rfl Qp rfl cx) ⟨rfl,rfl,trivial⟩ fun _=>?_
 refine cC (fM (Δ':=[.inv 0 jv,.obj b2 25 (.rep av a0)]++([.inv m (bS k a0),.obj y 107 (.agg (.pair (.at aw (a0,.map (some m))) (.eq z.1)))]++fJ 23 z b.2.2.2)) List.perm_append_comm) ?_
 refine aB rfl rfl ?_
 refine aE rfl (dk rfl rfl) ⟨rfl,trivial⟩ ?_
 refine aE rfl (dk rfl rfl) ⟨rfl,trivial⟩ ?_
 refine aE rfl (dk rfl rfl) ⟨rfl,trivial⟩ ?_
 refine aF rfl rfl rfl (bf rfl sR vV) trivial fun s=>?_
 refine bh rfl rfl (be rfl hP rfl rfl rfl) ⟨rfl,rfl,trivial⟩ ?_
 refine dp rfl rfl ?_
 refine dp rfl rfl ?_
 refine au ?_
 refine ag ?_
 show JC _ _ _ _ _
 obtain⟨bx,bn,bo,bl⟩:=b
 cases bo with
 |false=>
  replace h:some (0,0,0,11)=some r:=by simpa using h
  obtain rfl:=Option.some.inj h
  refine ae ?_
  refine ae ?_
  refine ab ?_
  refine aB rfl rfl ?_
  refine aE rfl (dX rfl) ⟨rfl,trivial⟩ ?_
  refine aB rfl rfl ?_
  refine zb rfl rfl rfl rfl rfl rfl rfl ?_
  refine zb rfl rfl rfl rfl rfl rfl rfl ?_
  refine zb rfl rfl rfl rfl rfl rfl rfl ?_
  refine aE rfl (jx rfl) ⟨rfl,rfl,trivial⟩ ?_
  refine au ?_
  refine ag ?_
  show JC _ _ _ _ _
  refine bM rfl (fun hb=>?_) (fun hb=>(by cases hb))
  refine ae ?_
  refine ab ?_
  refine dK rfl ?_
  refine dK rfl ?_
  refine dK rfl ?_
  refine dK rfl ?_
  refine au ?_
  refine ag ?_
  show JC _ _ _ _ _
  refine aA ?_
  refine aV ?_
  refine dq 1 rfl ?_
  exact aO () [_,_,_,_] 1 ⟨rfl,rfl,rfl,rfl,trivial⟩ rfl
 |true=>
  refine ae ?_
  refine ae ?_
  refine ab ?_
  refine aB rfl rfl ?_
  refine aE rfl (dX rfl) ⟨rfl,trivial⟩ ?_
  refine aB rfl rfl ?_
  refine m9 rfl rfl rfl rfl rfl rfl (aK rfl) ⟨rfl,trivial⟩ ?_
  refine m9 rfl rfl rfl rfl rfl rfl (aK rfl) ⟨rfl,trivial⟩ ?_
  refine m9 rfl rfl rfl rfl rfl rfl (qD rfl) ⟨rfl,rfl,trivial⟩ ?_
  refine aE rfl (mh rfl) ⟨rfl,rfl,trivial⟩ ?_
  refine au ?_
  refine ag ?_
  show JC _ _ _ _ _
  refine bM rfl (fun hb=>?_) (fun hb=>?_)
  ·
   have hd:L.1≤bn:=of_decide_eq_true hb
   replace h:some (0,0,0,11)=some r:=by simpa [hd] using h
   obtain rfl:=Option.some.inj h
   refine ae ?_
   refine ab ?_
   refine dK rfl ?_
   refine dK rfl ?_
   refine dK rfl ?_
   refine dK rfl ?_
   refine au ?_
   refine ag ?_
   show JC _ _ _ _ _
   refine aA ?_
   refine aV ?_
   refine dq 1 rfl ?_
   exact aO () [_,_,_,_] 1 ⟨rfl,rfl,rfl,rfl,trivial⟩ rfl
  ·
   have hd:¬L.1≤bn:=of_decide_eq_false hb
   replace h:some (bx.1,bx.2,bn,0)=some r:=by simpa [hd] using h
   refine aW ?_
   refine ag ?_
   obtain rfl:=Option.some.inj h
   show JC _ _ _ _ _
   refine ae ?_
   refine sN (Δ:=[.obj s 110 (.rep fu bx)]) (F:=[.inv 0 jv,.obj b2 25 (.rep av a0),.inv m (bS k a0),.obj y 107 (.agg (.pair (.at aw (a0,.map (some m))) (.eq z.1)))]++fJ 23 z bl) (Z:=Unit) (fun _=>[(4,.eq (.int .i64 bx.1)),(5,.eq (.int .i64 bx.2)),(6,.eq (.int .i64 bn)),(7,.eq (.int .i64 0))]) (fun _=>[.obj s 110 (.rep fu bx)]) (fun S w=>?_) (fun _=>?_)
   ·
    refine dL (SE.sub (Γ':=[(17,.eq (bP s)),(18,.eq (.int .i64 bn))]) ⟨rfl,rfl,trivial⟩) ?_
    refine jF ?_
    refine aH rfl rfl rfl (ar rfl NQ) ⟨rfl,trivial⟩ ?_
    refine dr 0 rfl rfl rfl rfl (aj rfl ui jr rfl) ⟨rfl,trivial⟩ ?_
    refine aH rfl rfl rfl (ar rfl NP) ⟨rfl,trivial⟩ ?_
    refine dr 0 rfl rfl rfl rfl (aj rfl ui jr rfl) ⟨rfl,trivial⟩ ?_
    refine aH rfl rfl rfl (aK rfl) ⟨rfl,trivial⟩ ?_
    refine mB 5 [true,true,false,false,false] [4,5,6,7] [0] [.obj s 110 (.rep fu bx)] rfl (by kernel_rfl) (by kernel_rfl) (by kernel_rfl) qZ (fun vs hv hB=>?_)
    obtain⟨u0,mc,rfl,O⟩:=an hv
    obtain⟨u1,ac,rfl,M⟩:=an O
    obtain⟨u2,Y,rfl,E⟩:=an M
    obtain⟨u3,X,rfl,x⟩:=an E
    obtain⟨u4,U,rfl,u⟩:=an x
    obtain rfl:=kw u
    refine⟨[0],[],by kernel_rfl,by decide,?_⟩
    refine pI rfl rfl rfl rfl (fC rfl) ⟨rfl,trivial⟩ (by kernel_rfl) ?_
    refine pI rfl rfl rfl rfl (fC rfl) ⟨rfl,trivial⟩ (by kernel_rfl) ?_
    refine pI rfl rfl rfl rfl (fC rfl) ⟨rfl,trivial⟩ (by kernel_rfl) ?_
    refine pI rfl rfl rfl rfl (fC rfl) ⟨rfl,trivial⟩ (by kernel_rfl) ?_
    refine pJ ?_
    exact fun a w st=>⟨rfl,(),(SE.fin (Γ':=[(4,.eq (.int .i64 bx.1)),(5,.eq (.int .i64 bx.2)),(6,.eq (.int .i64 bn)),(7,.eq (.int .i64 0))]) [0] ⟨rfl,rfl,rfl,rfl,trivial⟩ rfl) a w st⟩
   ·
    refine ag ?_
    show JC _ _ _ _ _
    refine aA ?_
    refine dq 1 rfl ?_
    exact aO () [_,_,_,_] 1 ⟨rfl,rfl,rfl,rfl,trivial⟩ rfl
def kf(k:Nat)(a0:(List Int))(a1:du)(a2:(List (List Int)))(a3:Int)(a4:Int):Option Int:=
 (fw k a1 a2).bind fun r1=>
 (aP r1 a3).bind fun x3=>
 (dN k (List.set r1 (Int.toNat a3) a0)).bind fun r4=>
 (gg k a1 r4 a4).bind fun r5=>
 some r5
theorem uh(k:Nat)(a0:(List Int))(a1:du)(l:Nat)(a2:(List (List Int)))(j:Nat)(a3:Int)(e:Nat)(a4:Int)(c:Nat)(r:Int)(h:kf k a0 a1 a2 a3 a4=some r):
 dy (jC Tryz.prog) 74 [Ri a0,Pt l,Pt j,Pt e,Pt c] [.obj l 81 (.at bO a1),.obj j 86 (.rep (.arr 3 (.arr 5 (.int .i64))) a2),.obj e 3 (I a3),.obj c 3 (I a4)] (fun _:Unit=>(bv [I r],[.obj l 81 (.at bO a1),.obj j 86 (.rep (.arr 3 (.arr 5 (.int .i64))) a2),.obj e 3 (I a3),.obj c 3 (I a4)])):=by
 unfold kf at h
 replace h:=a9 h
 refine dy.of 20 Tryz.func74 rfl Tryz.ntmps74 rfl fun S w0=>?_
 refine sr ?_
 refine cq ?_
 refine nt ?_
 refine sr ?_
 refine lo xZ ?_
 refine fr 1 ?_
 refine lo gu ?_
 obtain⟨r1,x,h⟩:=aa h
 have E:=j8 k a1 a2 r1 x
 refine aF rfl rfl rfl (ap [.tmp 8,.tmp 9] rfl rfl Ob rfl E) ⟨rfl,rfl,trivial⟩ fun v2=>?_
 refine aq ?_
 refine nt ?_
 refine sr ?_
 refine mq ?_
 refine fr 3 ?_
 refine lo co ?_
 refine mq ?_
 obtain⟨x3,n,h⟩:=aa h
 refine fr 1 ?_
 refine kb (aY (t:=(.slice (.int .i64))) rfl lE bG n) ?_
 refine bh rfl rfl (cI (i:=Int.toNat a3) rfl bG rfl (gz n) rfl .rep rfl) ⟨rfl,rfl,trivial⟩ ?_
 refine nt ?_
 refine ae ?_
 refine dL (eD [7,10,11] ⟨rfl,rfl,rfl,trivial⟩) ?_
 refine bJ ?_
 refine ea 2 (aj rfl xZ jr rfl) ?_
 refine dm ?_
 obtain⟨r4,u,h⟩:=aa h
 have D:=fy k (List.set r1 (Int.toNat a3) a0) r4 u
 refine da (ap [.tmp 16] rfl rfl FO rfl D) ?_
 refine ea 3 (aj rfl co jr rfl) ?_
 refine df cD ?_
 obtain⟨r5,s,h⟩:=aa h
 have y:=mL k a1 r4 a4 r5 s
 refine jc (gy [.tmp 15,.tmp 17,.tmp 18] rfl rfl QD rfl y) ?_
 refine aq ?_
 refine nt ?_
 refine aA ?_
 refine bC (SE.fin (Γ':=[(6,_)]) [2,1,0,3] ⟨rfl,trivial⟩ rfl) ?_
 cases h
 exact aO () [_] 4 ⟨rfl,trivial⟩ rfl
def cz(k:Nat)(a0_0:du)(a0_1:(List (List Int)))(a0_2:Int)(a0_3:Int)(a1:(List (List Int))):Nat→((List Int)×Int×Bool×Int)→Option ((List Int)×Int×Bool)
 |0,_=>none
 |n+1,y3=>
  if y3.2.2.2 < (a1.length:Int) then((((aP a1 y3.2.2.2).bind fun x7=>
  (kf k x7 a0_0 a0_1 a0_2 a0_3).bind fun r8=>
  ((if¬(y3.2.2.1=true) then(some true) else(some (decide (r8 < y3.2.1)))):Option (Bool)).bind fun x9=>
  if x9=true then(some (x7,r8,true)) else(some (y3.1,y3.2.1,y3.2.2.1))):Option ((List Int)×Int×Bool)).bind fun x5=>
  (ck (y3.2.2.2+1)).bind fun c=>
  cz k a0_0 a0_1 a0_2 a0_3 a1 n (x5.1,x5.2.1,x5.2.2,c)) else(some (y3.1,y3.2.1,y3.2.2.1))
def iM(k:Nat)(a0_0:du)(a0_1:(List (List Int)))(a0_2:Int)(a0_3:Int)(a1:(List (List Int))):Option ((List Int)×Int×Bool):=
 ((cz k a0_0 a0_1 a0_2 a0_3 a1 k ([],0,false,0)):Option ((List Int)×Int×Bool)).bind fun x1=>
 some (x1.1,x1.2.1,x1.2.2)
theorem rF(k:Nat)(a0_0:du)(c_a0_0:Nat)(a0_1:(List (List Int)))(c_a0_1:Nat)(a0_2:Int)(c_a0_2:Nat)(a0_3:Int)(c_a0_3:Nat)(a1:(List (List Int)))(r:(List Int)×Int×Bool)(h:iM k a0_0 a0_1 a0_2 a0_3 a1=some r):
 dy (jC Tryz.prog) 76 [.eq (.func (.func 74) #[] #[(Pv c_a0_0),(Pv c_a0_1),(Pv c_a0_2),(Pv c_a0_3)]),.rep (.slice (.slice (.int .i64))) a1] [.obj c_a0_0 81 (.at bO a0_0),.obj c_a0_1 86 (.rep (.arr 3 (.arr 5 (.int .i64))) a0_1),.obj c_a0_2 3 (I a0_2),.obj c_a0_3 3 (I a0_3)] (fun _:Unit=>(bv [Ri r.1,I r.2.1,.eq (.bool r.2.2)],[.obj c_a0_0 81 (.at bO a0_0),.obj c_a0_1 86 (.rep (.arr 3 (.arr 5 (.int .i64))) a0_1),.obj c_a0_2 3 (I a0_2),.obj c_a0_3 3 (I a0_3)])):=by
 unfold iM at h
 replace h:=a9 h
 refine dy.of 35 Tryz.func76 rfl Tryz.ntmps76 rfl fun S w0=>?_
 refine sr ?_
 refine cq ?_
 refine cq ?_
 refine cq ?_
 refine nt ?_
 refine sr ?_
 refine cq ?_
 refine nt ?_
 refine sr ?_
 refine cq ?_
 refine cq ?_
 refine nt ?_
 refine aL (Z:=Unit) (α:=(List Int)×Int×Bool) (fun z2 x1=>[(7,Ri x1.1),(8,I x1.2.1),(9,.eq (.bool x1.2.2))]) (fun z2 x1=>[.obj c_a0_0 81 (.at bO a0_0),.obj c_a0_1 86 (.rep (.arr 3 (.arr 5 (.int .i64))) a0_1),.obj c_a0_2 3 (I a0_2),.obj c_a0_3 3 (I a0_3)]) h (fun K h=>?_) (fun z2 x1 h=>?_)
 ·
  refine sr (mq ?_);refine ol lE ?_;refine fk rfl ?_;refine nt (ao (dL (my (t:=(.slice (.int .i64))) (x:=[]) 7 rfl .nil rfl rfl) ?_));refine aJ (fun z4 y3=>[(0,.eq (.func (.func 74) #[] #[(Pv c_a0_0),(Pv c_a0_1),(Pv c_a0_2),(Pv c_a0_3)])),(7,Ri y3.1),(8,I y3.2.1),(9,.eq (.bool y3.2.2.1)),(13,.rep (.slice (.slice (.int .i64))) a1),(14,I (a1.length:Int)),(15,I y3.2.2.2)]) (fun z4 y3=>[.obj c_a0_0 81 (.at bO a0_0),.obj c_a0_1 86 (.rep (.arr 3 (.arr 5 (.int .i64))) a0_1),.obj c_a0_2 3 (I a0_2),.obj c_a0_3 3 (I a0_3)]) (cz k a0_0 a0_1 a0_2 a0_3 a1) k () ([],0,false,0) (fun _=>rfl) h (SE.fin [0,1,2,3] ⟨rfl,rfl,rfl,rfl,rfl,rfl,rfl,trivial⟩ rfl) (fun n z4 y3 h=>?_);unfold cz at h;refine sr (jb (bm rfl) ?_);refine nt (ae (ci h (fun h=>?_) (fun h=>?_)))
  ·refine sk (aL (Z:=Unit) (α:=(List Int)×Int×Bool) (fun z6 x5=>[(0,.eq (.func (.func 74) #[] #[(Pv c_a0_0),(Pv c_a0_1),(Pv c_a0_2),(Pv c_a0_3)])),(7,Ri x5.1),(8,I x5.2.1),(9,.eq (.bool x5.2.2)),(13,.rep (.slice (.slice (.int .i64))) a1),(14,I (a1.length:Int)),(15,I y3.2.2.2)]) (fun z6 x5=>[.obj c_a0_0 81 (.at bO a0_0),.obj c_a0_1 86 (.rep (.arr 3 (.arr 5 (.int .i64))) a0_1),.obj c_a0_2 3 (I a0_2),.obj c_a0_3 3 (I a0_3)]) h (fun K h=>?_) (fun z6 x5 h=>?_))
   ·refine ao (sr ?_);obtain⟨x7,l,h⟩:=aa h;refine jb (aC (t:=(.slice (.int .i64))) rfl lE bG l) ?_;refine ja (ak (t:=(.slice (.int .i64))) rfl bG rfl) ?_;refine aq (nt (sr ?_));iterate 2 refine mq ?_
    obtain⟨r8,u,h⟩:=aa h;refine fr 3 ?_;refine fr 3 ?_;refine fr 3 ?_;refine fr 3 ?_;refine bU (Δ:=[_,_,_,_]) (F:=_) (fun _ _ _=>ax rfl _) rfl rfl (pg (fs:=[]) (cs:=[(Pv c_a0_0),(Pv c_a0_1),(Pv c_a0_2),(Pv c_a0_3)]) (ags:=[Ri x7]) [.tmp 20] rfl rfl To rfl (uh k x7 a0_0 c_a0_0 a0_1 c_a0_1 a0_2 c_a0_2 a0_3 c_a0_3 r8 u)) ⟨rfl,rfl,trivial⟩ fun _=>?_;refine aq (nt ?_);refine aL (Z:=Unit) (α:=Bool) (fun c x9=>[(0,.eq (.func (.func 74) #[] #[(Pv c_a0_0),(Pv c_a0_1),(Pv c_a0_2),(Pv c_a0_3)])),(7,Ri y3.1),(8,I y3.2.1),(9,.eq (.bool y3.2.2.1)),(11,Ri x7),(12,I r8),(13,.rep (.slice (.slice (.int .i64))) a1),(14,I (a1.length:Int)),(15,I y3.2.2.2),(28,.eq (.bool x9))]) (fun c x9=>[.obj c_a0_0 81 (.at bO a0_0),.obj c_a0_1 86 (.rep (.arr 3 (.arr 5 (.int .i64))) a0_1),.obj c_a0_2 3 (I a0_2),.obj c_a0_3 3 (I a0_3)]) h (fun K h=>?_) (fun c x9 h=>?_)
    ·refine ab (mq ?_);refine ja (dX rfl) ?_;refine mq ?_;refine cm (s:=24) rfl (fun hb=>?_) (fun hb=>?_)
     ·replace h:=cE (CE hb) h;iterate 3 refine gn ?_
      refine pt (nl ?_);exact jz ((),true) h [0,1,2,3]
     ·replace h:=bQ (vx hb) h;refine gm ?_;refine gm ?_;refine gb (bm rfl) ?_;refine pf (nl ?_);exact jz ((),decide (r8 < y3.2.1)) h [0,1,2,3]
    ·refine cv h (fun h=>?_) (fun h=>?_)
     ·refine ab ?_;iterate 2 refine mq ?_
      refine aq ?_;refine aq ?_;refine cq (au (bn ?_));exact jz ((),(x7,r8,true)) h [0,1,2,3]
     ·refine aW (bn ?_);exact jz ((),(y3.1,y3.2.1,y3.2.2.1)) h [0,1,2,3]
   ·refine ab ?_;obtain⟨j,e,h⟩:=aa h;refine jb (bb rfl e) ?_;refine mq (nl ?_);exact jz ((),(x5.1,x5.2.1,x5.2.2,j)) h [0,1,2,3]
  ·refine xa ?_;exact jz ((),(y3.1,y3.2.1,y3.2.2.1)) h [0,1,2,3]
 ·
  refine sr ?_;iterate 3 refine mq ?_
  refine aq ?_;refine aq ?_;refine aq (nt (aA ?_));cases h;exact aO () [_,_,_] 4 ⟨rfl,rfl,rfl,trivial⟩ rfl
def hH(k:Nat)(a0:aQ)(a1:(List (List Int)))(a2:Int)(a3:Int):Option ((List Int)×Int×Int):=
 (cG k a0 a1).bind fun r4=>
 if¬(r4=0) then(some ([],0,r4)) else((((ck ((a0.2.2.length:Int) - 1)).bind fun x7=>
 (eN k a2 0 x7).bind fun r8=>
 if¬(r8=true) then(some true) else((eN k a3 0 a0.1).bind fun r9=>
 some (!r9))):Option (Bool)).bind fun x5=>
 if x5=true then(some ([],0,3)) else((dN k a1).bind fun n=>
 (iI k (a0,()) n a3).bind fun e=>
 (d6 k e a2).bind fun l=>
 (gG k l).bind fun j=>
 (iK k k j).bind fun h=>
 (iM k (a0,()) e a2 a3 h).bind fun c=>
 some (c.1,c.2.1,0)))
theorem qB(k:Nat)(a0:aQ)(a1:(List (List Int)))(a2:Int)(a3:Int)(r:(List Int)×Int×Int)(h:hH k a0 a1 a2 a3=some r):
 dy (jC Tryz.prog) 29 [.rep av a0,.rep (.slice (.slice (.int .i64))) a1,I a2,I a3] [.inv 0 (jv)] (fun _:Unit=>(bv [Ri r.1,I r.2.1,I r.2.2],[.inv 0 (jv)])):=by
 unfold hH at h
 replace h:=a9 h
 refine dy.of 60 Tryz.func29 rfl Tryz.ntmps29 rfl fun S w0=>?_
 refine sr ?_
 refine bx fun b1=>?_
 refine bx fun b2=>?_
 refine bx fun b3=>?_
 refine cq ?_
 refine cq ?_
 refine cq ?_
 refine nt ?_
 refine ae ?_
 refine sr ?_
 refine fr 2 ?_
 refine lo dQ ?_
 refine mq ?_
 obtain⟨r4,UJ,h⟩:=aa h
 have UK:=gw k a0 a1 r4 UJ
 refine fr 3 ?_
 refine kb (ap [.tmp 18,.tmp 19] rfl rfl Oe rfl UK) ?_
 refine aq ?_
 refine nt ?_
 refine sr ?_
 refine mq ?_
 refine jb (iy rfl) ?_
 refine nt ?_
 refine cn h (fun h=>?_) (fun h=>?_)
 ·
  refine sr (mq ?_);refine cq ?_;refine cq ?_;refine aq (nt (rx ?_));refine bC (my (t:=(.slice (.int .i64))) (x:=[]) 8 rfl .nil rfl rfl) ?_;cases h;exact aO () [_,_,_] 1 ⟨rfl,rfl,rfl,trivial⟩ rfl
 ·
  refine sk (ae (aL (Z:=Unit) (α:=Bool) (fun z6 x5=>[(1,.rep (.slice (.slice (.int .i64))) a1),(4,Pt b1),(6,Pt b2),(7,Pt b3),(37,.eq (.bool x5))]) (fun z6 x5=>[.obj b1 25 (.rep av a0),.obj b2 3 (I a2),.obj b3 3 (I a3),.inv 0 (jv)]) h (fun K h=>?_) (fun z6 x5 h=>?_)))
  ·refine ab (fr 3 ?_);refine lo co ?_;refine fl cK ?_;refine fr 2 ?_;refine lo bG ?_;refine ol dE ?_;obtain⟨x7,UG,h⟩:=aa h;refine jb (fK rfl UG) ?_;obtain⟨r8,UI,h⟩:=aa h;refine jc (ap [.tmp 24,.const (.int .i64 (0)),.tmp 28] rfl rfl AP rfl (eY k a2 0 x7 r8 UI)) ?_;refine ja (dX rfl) ?_;refine mq ?_;refine cm (s:=31) rfl (fun hb=>?_) (fun hb=>?_)
   ·replace h:=cE (CE hb) h;iterate 5 refine gn ?_
    refine pt (nl ?_);exact jz ((),true) h [0,1,3,2]
   ·replace h:=bQ (vx hb) h;refine fr 3 ?_;refine jR rfl rfl rfl rfl rfl rfl (aj rfl co jr rfl) ⟨rfl,trivial⟩ ?_;refine ga (ar rfl fP) ?_;refine fr 1 ?_;refine jR rfl rfl rfl rfl rfl rfl (aj rfl co jr rfl) ⟨rfl,trivial⟩ ?_;obtain⟨r9,UH,h⟩:=aa h;refine gc (ap [.tmp 32,.const (.int .i64 (0)),.tmp 34] rfl rfl AP rfl (eY k a3 0 a0.1 r9 UH)) ?_;refine ga (dX rfl) ?_;refine pf (nl ?_);exact jz ((), !r9) h [0,2,1,3]
  ·refine cv h (fun h=>?_) (fun h=>?_)
   ·refine sr (cq ?_);refine cq ?_;refine cq (nt (rx ?_));refine bC (my (t:=(.slice (.int .i64))) (x:=[]) 8 rfl .nil rfl rfl) ?_;refine bC (SE.fin (Γ':=[(8,_),(9,_),(10,_)]) [3,0,1,2] ⟨rfl,rfl,rfl,trivial⟩ rfl) ?_;cases h;exact aO () [_,_,_] 1 ⟨rfl,rfl,rfl,trivial⟩ rfl
   ·refine sk (sr (lo dQ ?_));refine aF rfl rfl rfl (ap [.tmp 38] rfl rfl Ln rfl (iL a0)) ⟨rfl,trivial⟩ fun c=>?_;refine cC (lU (bS k a0) nG) ?_;refine aF rfl rfl rfl (bf rfl RX Ub) trivial fun j=>?_;refine bh rfl rfl (be rfl xZ trivial rfl rfl) ⟨rfl,rfl,trivial⟩ ?_;refine nt (ae (jF ?_));refine dr 0 rfl rfl rfl rfl (aj rfl xZ jr rfl) ⟨rfl,trivial⟩ ?_;refine aH rfl rfl rfl (aK rfl) ⟨rfl,trivial⟩ ?_;obtain⟨u,U,h⟩:=aa h;refine aH rfl rfl rfl (ap [.tmp 41] rfl rfl FO rfl (fy k a1 u U)) ⟨rfl,trivial⟩ ?_;refine dr 4 rfl rfl rfl rfl (aj rfl co jr rfl) ⟨rfl,trivial⟩ ?_;obtain⟨l,Q,h⟩:=aa h;refine aH rfl rfl rfl (dU (N:=[(.tmp 40,.at aw (a0,(.map (some c)))),(.tmp 42,.rep (.arr 3 (.arr 5 (.int .i64))) u),(.tmp 43,I a3)]) (ap [.tmp 40,.tmp 42,.tmp 43] rfl rfl Tt rfl (rE k (a0,()) u a3 l Q)) fun _ _ _ hn=>⟨(tU hn.1),hn.2.1,hn.2.2.1,trivial⟩) ⟨rfl,rfl,rfl,trivial⟩ ?_;refine uJ (Ha 86 (.rep (.arr 3 (.arr 5 (.int .i64))) [[0,0,0,0,0],[0,0,0,0,0],[0,0,0,0,0]])) (fun _=>rfl) rfl rfl rfl (bf rfl sS tV) trivial ?_;refine mB 6 [true,true,true,true,true,true] [] [] [] rfl (by kernel_rfl) (by kernel_rfl) (by kernel_rfl) cD (fun vs hv hB=>?_);obtain⟨w0,UR,rfl,se⟩:=an hv;obtain⟨w1,UQ,rfl,qt⟩:=an se;obtain⟨w2,UP,rfl,pp⟩:=an qt;obtain⟨w3,UO,rfl,mc⟩:=an pp;obtain⟨w4,UN,rfl,ac⟩:=an mc;obtain⟨w5,UM,rfl,Y⟩:=an ac;obtain rfl:=kw Y;obtain⟨e,rfl⟩:=B0 hB.2.2.2.2.2.1;refine⟨[0,1,2,3,4,5,6],[.obj j 81 (.at aw (a0,(.map (some c)))),.inv c (bS k a0),.obj b1 25 (.rep av a0),.obj b2 3 (I a2),.obj b3 3 (I a3),.inv 0 (jv),.obj e 86 (.rep (.arr 3 (.arr 5 (.int .i64))) [[0,0,0,0,0],[0,0,0,0,0],[0,0,0,0,0]])],by kernel_rfl,by decide,?_⟩;refine i9 6 rfl ?_;refine ov rfl rfl (be rfl gu rfl rfl rfl) ⟨rfl,rfl,trivial⟩ (by kernel_rfl) ?_;refine pJ ?_;refine bC (SE.fin (Γ':=[(6,Pt b2),(7,Pt b3),(12,Pt j),(13,Pt e)]) (Δ':=[.obj e 86 (.rep (.arr 3 (.arr 5 (.int .i64))) l),.obj j 81 (.at aw (a0,(.map (some c)))),.inv c (bS k a0),.obj b1 25 (.rep av a0),.obj b2 3 (I a2),.obj b3 3 (I a3),.inv 0 (jv)]) [0,1,2,3,4,5,6] ⟨rfl,rfl,rfl,rfl,trivial⟩ rfl) ?_;refine tn (sr (aE rfl (tj [] [.tmp 12,.tmp 13,.tmp 6,.tmp 7] [] [(Pv j),(Pv e),(Pv b2),(Pv b3)] rfl rfl rfl) ⟨rfl,rfl,rfl,rfl,trivial⟩ ?_));refine aq (nt (sr ?_));refine mq ?_;refine lo gu ?_;refine fr 4 ?_;refine lo co ?_;obtain⟨n,O,h⟩:=aa h;refine jb (ap [.tmp 48,.tmp 49] rfl rfl Lj rfl (gC k l a2 n O)) ?_;refine aF rfl rfl rfl (ap [.tmp 50] rfl rfl Tj rfl (rM n)) ⟨rfl,trivial⟩ fun UL=>?_;obtain⟨D,M,h⟩:=aa h;refine ka (ap [.tmp 51] rfl rfl Tm rfl (rN k n UL D M)) ?_;obtain⟨y,J,h⟩:=aa h;refine ja (ap [.tmp 52] rfl rfl QC rfl (wq k k D y J)) ?_;refine fr 3 ?_;refine cC (ou (a:=.at aw (a0,(.map (some c)))) (a':=.at bO (a0,())) Oy) ?_
    obtain⟨X,E,h⟩:=aa h;refine fr 6 ?_;refine fr 3 ?_;refine fr 4 ?_;refine fr 3 ?_;refine bU (Δ:=[_,_,_,_]) (F:=_) (fun _ _ _=>ax rfl _) rfl rfl (gy [.tmp 47,.tmp 53] rfl rfl Tn rfl (rF k (a0,()) j l e a2 b2 a3 b3 y X E)) ⟨rfl,rfl,trivial⟩ fun _=>?_;refine mq ?_;refine xr ?_;refine xr ?_;refine xr ?_;refine aq ?_;refine aq ?_;refine aq (nt (sr ?_));iterate 2 refine mq ?_
    refine aq ?_;refine aq ?_;refine cq (nt (aA ?_));refine bC (SE.fin (Γ':=[(8,_),(9,_),(10,_)]) [7,0,1,2,3,4,5,6] ⟨rfl,rfl,rfl,trivial⟩ rfl) ?_;cases h;exact aO () [_,_,_] 1 ⟨rfl,rfl,rfl,trivial⟩ rfl
def ix(k:Nat)(a0:aQ)(a1:(List (List (List Int)))):Nat→((List (List Int))×Int×Bool×Int)→Option ((List (List Int))×Int×Bool)
 |0,_=>none
 |n+1,y5=>
  if y5.2.2.2 < (a1.length:Int) then((((aP a1 y5.2.2.2).bind fun x9=>
  (dH k a0 x9).bind fun c=>
  ((if¬(y5.2.2.1=true) then(some true) else(some (decide (c < y5.2.1)))):Option (Bool)).bind fun h=>
  if h=true then(some (x9,c,true)) else(some (y5.1,y5.2.1,y5.2.2.1))):Option ((List (List Int))×Int×Bool)).bind fun x7=>
  (ck (y5.2.2.2+1)).bind fun e=>
  ix k a0 a1 n (x7.1,x7.2.1,x7.2.2,e)) else(some (y5.1,y5.2.1,y5.2.2.1))
def lZ(k:Nat)(a0:aQ)(a1:(List (List (List Int)))):Option ((List (List Int))×Int×Bool):=
 ((ix k a0 a1 k ([[0,0,0,0,0],[0,0,0,0,0],[0,0,0,0,0]],0,false,0)):Option ((List (List Int))×Int×Bool)).bind fun x3=>
 some (x3.1,x3.2.1,x3.2.2)
theorem rG(k:Nat)(a0:aQ)(z_a0:Nat)(a1:(List (List (List Int))))(r:(List (List Int))×Int×Bool)(h:lZ k a0 a1=some r):
 dy (jC Tryz.prog) 82 [.fn 83 (uM [.at aw (a0,(.map (some z_a0)))]),.rep (.slice (.arr 3 (.arr 5 (.int .i64)))) a1] [.inv z_a0 (bS k a0)] (fun _:Unit=>(bv [.rep (.arr 3 (.arr 5 (.int .i64))) r.1,I r.2.1,.eq (.bool r.2.2)],[.inv z_a0 (bS k a0)])):=by
 unfold lZ at h
 replace h:=a9 h
 refine dy.of 35 Tryz.func82 rfl Tryz.ntmps82 rfl fun S w0=>?_
 refine sr ?_
 refine aF rfl rfl rfl (bf rfl sS tV) trivial fun b1=>?_
 refine cq ?_
 refine cq ?_
 refine nt ?_
 refine sr ?_
 refine aF rfl rfl rfl (bf rfl sS tV) trivial fun b2=>?_
 refine nt ?_
 refine sr ?_
 refine cq ?_
 refine cq ?_
 refine nt ?_
 refine aL (Z:=Unit) (α:=(List (List Int))×Int×Bool) (fun z4 x3=>[(4,Pt b1),(7,Pt b2),(8,I x3.2.1),(9,.eq (.bool x3.2.2))]) (fun z4 x3=>[.obj b1 86 (.rep (.arr 3 (.arr 5 (.int .i64))) [[0,0,0,0,0],[0,0,0,0,0],[0,0,0,0,0]]),.obj b2 86 (.rep (.arr 3 (.arr 5 (.int .i64))) x3.1),.inv z_a0 (bS k a0)]) h (fun K h=>?_) (fun z4 x3 h=>?_)
 ·
  refine sr (mq ?_);refine ol Rt ?_;refine fk rfl ?_;refine nt (ao (aJ (fun z6 y5=>[(0,.fn 83 (uM [.at aw (a0,(.map (some z_a0)))])),(4,Pt b1),(7,Pt b2),(8,I y5.2.1),(9,.eq (.bool y5.2.2.1)),(13,.rep (.slice (.arr 3 (.arr 5 (.int .i64)))) a1),(14,I (a1.length:Int)),(15,I y5.2.2.2)]) (fun z6 y5=>[.obj b1 86 (.rep (.arr 3 (.arr 5 (.int .i64))) [[0,0,0,0,0],[0,0,0,0,0],[0,0,0,0,0]]),.obj b2 86 (.rep (.arr 3 (.arr 5 (.int .i64))) y5.1),.inv z_a0 (bS k a0)]) (ix k a0 a1) k () ([[0,0,0,0,0],[0,0,0,0,0],[0,0,0,0,0]],0,false,0) (fun _=>rfl) h (SE.fin [1,0,2] ⟨rfl,rfl,rfl,rfl,rfl,rfl,rfl,rfl,trivial⟩ rfl) (fun n z6 y5 h=>?_)));unfold ix at h;refine sr (jb (bm rfl) ?_);refine nt (ae (ci h (fun h=>?_) (fun h=>?_)))
  ·refine sk (aL (Z:=Unit) (α:=(List (List Int))×Int×Bool) (fun z8 x7=>[(0,.fn 83 (uM [.at aw (a0,(.map (some z_a0)))])),(4,Pt b1),(7,Pt b2),(8,I x7.2.1),(9,.eq (.bool x7.2.2)),(13,.rep (.slice (.arr 3 (.arr 5 (.int .i64)))) a1),(14,I (a1.length:Int)),(15,I y5.2.2.2)]) (fun z8 x7=>[.obj b1 86 (.rep (.arr 3 (.arr 5 (.int .i64))) [[0,0,0,0,0],[0,0,0,0,0],[0,0,0,0,0]]),.obj b2 86 (.rep (.arr 3 (.arr 5 (.int .i64))) x7.1),.inv z_a0 (bS k a0)]) h (fun K h=>?_) (fun z8 x7 h=>?_))
   ·refine ao (sr ?_);obtain⟨x9,D,h⟩:=aa h;refine jb (aC (t:=(.arr 3 (.arr 5 (.int .i64)))) rfl Rt gu D) ?_;refine ja (ak (t:=(.arr 3 (.arr 5 (.int .i64)))) rfl gu rfl) ?_;refine aF rfl rfl rfl (bf rfl sS tV) trivial fun x=>?_;refine bh rfl rfl (be rfl gu rfl rfl rfl) ⟨rfl,rfl,trivial⟩ ?_;refine nt (sr (mq ?_));refine lo gu ?_;obtain⟨c,u,h⟩:=aa h;refine fr 3 ?_;refine kb (HF (fs:=[.at aw (a0,(.map (some z_a0)))]) (ags:=[.rep (.arr 3 (.arr 5 (.int .i64))) x9]) [.tmp 20] rfl rfl QA rfl (j9 k a0 z_a0 x9 c u)) ?_;refine aq (nt ?_);refine aL (Z:=Unit) (α:=Bool) (fun j e=>[(0,.fn 83 (uM [.at aw (a0,(.map (some z_a0)))])),(4,Pt b1),(7,Pt b2),(8,I y5.2.1),(9,.eq (.bool y5.2.2.1)),(11,Pt x),(12,I c),(13,.rep (.slice (.arr 3 (.arr 5 (.int .i64)))) a1),(14,I (a1.length:Int)),(15,I y5.2.2.2),(28,.eq (.bool e))]) (fun j e=>[.obj b1 86 (.rep (.arr 3 (.arr 5 (.int .i64))) [[0,0,0,0,0],[0,0,0,0,0],[0,0,0,0,0]]),.obj b2 86 (.rep (.arr 3 (.arr 5 (.int .i64))) y5.1),.obj x 86 (.rep (.arr 3 (.arr 5 (.int .i64))) x9),.inv z_a0 (bS k a0)]) h (fun K h=>?_) (fun j e h=>?_)
    ·refine ab (mq ?_);refine ja (dX rfl) ?_;refine mq ?_;refine cm (s:=24) rfl (fun hb=>?_) (fun hb=>?_)
     ·replace h:=cE (CE hb) h;iterate 3 refine gn ?_
      refine pt (nl ?_);exact jz ((),true) h [2,3,1,0]
     ·replace h:=bQ (vx hb) h;refine gm ?_;refine gm ?_;refine gb (bm rfl) ?_;refine pf (nl ?_);exact jz ((),decide (c < y5.2.1)) h [2,3,1,0]
    ·refine cv h (fun h=>?_) (fun h=>?_)
     ·refine ab (fr 2 ?_);refine lo gu ?_;refine mq ?_;refine fr 2 ?_;refine bh rfl rfl (be rfl gu rfl rfl rfl) ⟨rfl,rfl,trivial⟩ ?_;refine aq ?_;refine cq (au (bn ?_));exact jz ((),(x9,c,true)) h [2,0,3]
     ·refine aW (bn ?_);exact jz ((),(y5.1,y5.2.1,y5.2.2.1)) h [0,1,3]
   ·refine ab ?_;obtain⟨y,l,h⟩:=aa h;refine jb (bb rfl l) ?_;refine mq (nl ?_);exact jz ((),(x7.1,x7.2.1,x7.2.2,y)) h [0,1,2]
  ·refine xa ?_;exact jz ((),(y5.1,y5.2.1,y5.2.2.1)) h [0,1,2]
 ·
  refine sr (fr 1 ?_);refine lo gu ?_;iterate 2 refine mq ?_
  refine fr 1 ?_;refine bh rfl rfl (be rfl gu rfl rfl rfl) ⟨rfl,rfl,trivial⟩ ?_;refine aq ?_;refine aq (nt (aA ?_));refine bC (SE.fin (Γ':=[(4,_),(5,_),(6,_)]) [2,0,1] ⟨rfl,rfl,rfl,trivial⟩ rfl) ?_;cases h;exact aO () [.rep (.arr 3 (.arr 5 (.int .i64))) x3.1,_,_] 1 ⟨⟨_,_,_,_,_,rfl,(.tail _ (.head _)),gu,(uD),rfl⟩,rfl,rfl,trivial⟩ rfl
def uO(k:Nat)(a0:aQ):Option ((List (List Int))×Int×Int):=
 (lP k a0).bind fun r2=>
 if¬(r2=0) then(some ([],0,r2)) else((kH k (a0,())).bind fun r5=>
 (lZ k a0 r5).bind fun r6=>
 if¬(r6.2.2=true) then(some ([],0,11)) else((fw k (a0,()) r6.1).bind fun r8=>
 some (r8,r6.2.1,0)))
theorem zA(k:Nat)(a0:aQ)(r:(List (List Int))×Int×Int)(h:uO k a0=some r):
 dy (jC Tryz.prog) 31 [.rep av a0] [] (fun _:Unit=>(bv [.rep (.slice (.slice (.int .i64))) r.1,I r.2.1,I r.2.2],[])):=by
 unfold uO at h
 replace h:=a9 h
 refine dy.of 33 Tryz.func31 rfl Tryz.ntmps31 rfl fun S w0=>?_
 refine sr ?_
 refine bx fun b1=>?_
 refine cq ?_
 refine cq ?_
 refine cq ?_
 refine nt ?_
 refine ae ?_
 refine sr ?_
 refine lo dQ ?_
 obtain⟨r2,l,h⟩:=aa h
 have n:=rJ k a0 r2 l
 refine ja (ap [.tmp 10] rfl rfl QK rfl n) ?_
 refine aq ?_
 refine nt ?_
 refine sr ?_
 refine mq ?_
 refine jb (iy rfl) ?_
 refine nt ?_
 refine cn h (fun h=>?_) (fun h=>?_)
 ·
  refine sr (mq ?_);refine cq ?_;refine cq ?_;refine aq (nt (rx ?_));refine bC (my (t:=(.slice (.slice (.int .i64)))) (x:=[]) 2 rfl .nil rfl rfl) ?_;cases h;exact aO () [_,_,_] 0 ⟨rfl,rfl,rfl,trivial⟩ rfl
 ·
  refine sk (sr (lo dQ ?_));refine aF rfl rfl rfl (ap [.tmp 15] rfl rfl Ln rfl (iL a0)) ⟨rfl,trivial⟩ fun z3=>?_;refine cC (lU (bS k a0) nG) ?_;refine aq (nt (sr ?_));refine mq ?_;refine ja (Kr [.tmp 18] [.at aw (a0,(.map (some z3)))] rfl rfl) ?_;refine mq ?_;refine aF rfl rfl rfl (dU (N:=[(.tmp 20,.at aw (a0,(.map (some z3))))]) (ap [.tmp 20] rfl rfl Td rfl (oV (a0,()))) fun _ _ _ hn=>⟨tU hn.1,trivial⟩) ⟨rfl,trivial⟩ fun b4=>?_;obtain⟨r5,j,h⟩:=aa h;refine ka (ap [.tmp 21] rfl rfl Tf rfl (qn k (a0,()) b4 r5 j)) ?_;obtain⟨r6,e,h⟩:=aa h;refine fr 1 ?_;refine kb (gy [.tmp 19,.tmp 22] rfl rfl Ti rfl (rG k a0 z3 r5 r6 e)) ?_;refine mq ?_;refine xr ?_;refine xr ?_;refine xr ?_;refine aF rfl rfl rfl (bf rfl sS tV) trivial fun b7=>?_;refine bh rfl rfl (be rfl gu rfl rfl rfl) ⟨rfl,rfl,trivial⟩ ?_;refine aq ?_;refine aq (nt (ae (sr ?_)));refine mq ?_;refine ja (dX rfl) ?_;refine nt (cw h (fun h=>?_) (fun h=>?_))
  ·refine sr (cq ?_);refine cq ?_;refine cq (nt (rx ?_));refine bC (my (t:=(.slice (.slice (.int .i64)))) (x:=[]) 2 rfl .nil rfl rfl) ?_;cases h;exact aO () [_,_,_] 0 ⟨rfl,rfl,rfl,trivial⟩ rfl
  ·refine sk (sr (mq ?_));refine lo gu ?_;obtain⟨r8,c,h⟩:=aa h;refine aF rfl rfl rfl (dU (N:=[(.tmp 29,.at aw (a0,(.map (some z3)))),(.tmp 30,.rep (.arr 3 (.arr 5 (.int .i64))) r6.1)]) (ap [.tmp 29,.tmp 30] rfl rfl Ob rfl (j8 k (a0,()) r6.1 r8 c)) fun _ _ _ hn=>⟨(tU hn.1),hn.2.1,trivial⟩) ⟨rfl,rfl,trivial⟩ fun v9=>?_;refine mq ?_;refine aq ?_;refine aq ?_;refine cq (nt (aA ?_));refine bC (eD [2,31] ⟨rfl,rfl,trivial⟩) ?_;cases h;exact aO () [_,_,_] 0 ⟨rfl,rfl,rfl,trivial⟩ rfl
set_option maxRecDepth 20000
set_option maxHeartbeats 4000000
def OS(b:Nat):List Int→Option Addr
 |[]=>none
 |_::_=>some ⟨b,0,none⟩
def RH:List Int→Value→Value
 |[],_=>.slice none 0 0
 |_::_,v=>v
theorem Om(b:Nat)(l:List Int):OS b l=none∨OS b l=some ⟨b,0,none⟩:=by cases l <;> simp [OS]
theorem I4(b:Nat)(l:List Int)(c:Int):OS b (l++[c])=some ⟨b,0,none⟩:=by cases l <;> rfl
theorem I3(l:List Int)(c:Int)(v:Value):RH (l++[c]) v=v:=by cases l <;> rfl
theorem G1:mt Tryz.prog 143 9 1 16:=.of (z:=(.string .empty)) Ue (by kernel_rfl) rfl rfl rfl
theorem N8:ah Tryz.prog 93:=ah.of Tryz.func93 (by kernel_rfl) (by kernel_rfl)
theorem Qx:ah Tryz.prog 22:=ah.of Tryz.func22 (by kernel_rfl) (by kernel_rfl)
theorem Po:dR Tryz.prog 25 3 true:=⟨fun w=>by kernel_rfl,fun w=>by kernel_rfl⟩
theorem Me:dR Tryz.prog 23 1 false:=⟨fun w=>by kernel_rfl,fun w=>by kernel_rfl⟩
theorem Pn:dR Tryz.prog 3 1 false:=⟨fun w=>by kernel_rfl,fun w=>by kernel_rfl⟩
def lX(c:Int):Int:=IntKind.i32.wrap (97+IntKind.i32.wrap c)
def lJ(xs:List Int):Nat→Int×List Int→Option (List Int)
 |0,_=>none
 |n+1,y=>if y.1 < (xs.length:Int) then((aP xs y.1).bind fun c=>if 0≤lX c∧lX c≤127∧bH (y.2.length+1) then(ck (y.1+1)).bind fun z=>lJ xs n (z,y.2++[lX c]) else none) else some y.2
def kd(k:Nat)(a1:List (List Int)):Nat→Int×List ByteArray→Option (List ByteArray)
 |0,_=>none
 |n+1,y=>if y.1 < (a1.length:Int) then((aP a1 y.1).bind fun xs=>(lJ xs k (0,[])).bind fun l=>if bH (y.2.length+1) then(ck (y.1+1)).bind fun z=>kd k a1 n (z,y.2++[qL l]) else none) else some y.2
def sZ(k:Nat)(a0:aQ)(a1:(List (List Int))):Option (Value×Int):=
 (cG k a0 a1).bind fun e=>if¬(e=0) then some (.string .empty,e) else(kd k a1 k (0,[])).bind fun ss=>(ux k ss ⟨#[47]⟩).bind fun r=>some (.string r,0)
theorem xW(k:Nat)(a0:aQ)(a1:(List (List Int)))(r:Value×Int)(h:sZ k a0 a1=some r):
 cd Tryz.prog 48 [.rep av a0,.rep (.slice (.slice (.int .i64))) a1] [.inv 0 jv] (fun _:Unit=>(bv [.eq r.1,I r.2],[.inv 0 jv])):=by
 unfold sZ at h
 replace h:=a9 h
 refine cd.of 43 Tryz.func48 rfl Tryz.ntmps48 rfl fun S w0=>?_
 refine sr ?_
 refine bx fun b2=>?_
 refine cq ?_
 refine cq ?_
 refine nt ?_
 refine ae ?_
 refine sr ?_
 obtain⟨e,ee,h⟩:=aa h
 have ce:=gw k a0 a1 e ee
 refine ka (aj rfl Po (zg) rfl) ?_
 refine mq ?_
 refine fr 1 ?_
 refine kb (ap [.tmp 13,.tmp 14] rfl rfl Qx rfl ce) ?_
 refine aq ?_
 refine nt ?_
 refine sr ?_
 refine mq ?_
 refine jb (iy rfl) ?_
 refine nt ?_
 refine bM rfl (fun hb=>?_) (fun hb=>?_)
 ·
  replace h:=cE (KH hb) h;refine sr (mq ?_);refine cq ?_;refine aq (nt (rx ?_));cases h;exact aO () [_,_] 1 ⟨rfl,rfl,trivial⟩ rfl
 replace h:=bQ (yw hb) h
 refine sk ?_
 refine sr ?_
 refine cq ?_
 refine nt ?_
 rw [Option.bind_assoc] at h
 refine ae ?_
 refine sr ?_
 refine mq ?_
 refine ol lE ?_
 refine fk rfl ?_
 refine cC (SE.nil 9 .str) ?_
 refine nt ?_
 refine ao ?_
 refine aJ (fun v y=>[(7,.eq v),(19,.rep (.slice (.slice (.int .i64))) a1),(20,I (a1.length:Int)),(21,I y.1)]) (fun v y=>[.sl v 9 .str y.2,.inv 0 jv]) (kd k a1) k (.slice none 0 0) (0,[]) (fun _=>rfl) h (SE.fin [0,1] ⟨rfl,rfl,rfl,rfl,trivial⟩ rfl) (fun n v7 y h=>?_)
 unfold kd at h
 refine sr ?_
 refine jb (bm rfl) ?_
 refine nt ?_
 refine ae ?_
 refine bM rfl (fun hb=>?_) (fun hb=>?_)
 ·
  replace h:=cE (oq hb) h;refine sk (ae (ao ?_));obtain⟨xs,exs,h⟩:=aa h;refine sr (jb (aC (t:=.slice (.int .i64)) rfl lE Me exs) ?_);refine ja (ak (t:=.slice (.int .i64)) rfl Me rfl) ?_;refine aq (nt (sr ?_));refine aF rfl rfl rfl (bf rfl Gu I8) trivial fun b=>?_;refine nt ?_;rw [Option.bind_assoc] at h;refine ae (sr (mq ?_));refine ol dE ?_;refine fk rfl ?_;refine cC (SE.nil 5 (.int .u8)) ?_;refine nt (ao ?_)
  refine aJ (fun v q=>[(7,.eq v7),(10,.eq (bP b)),(19,.rep (.slice (.slice (.int .i64))) a1),(20,I (a1.length:Int)),(21,I y.1),(25,Ri xs),(26,I (xs.length:Int)),(27,I q.1)])
   (fun v q=>[.obj b 147 (bA (.pointer (OS b q.2)) (RH q.2 v)),.sl (RH q.2 v) 5 (.int .u8) q.2,.sl v7 9 .str y.2,.inv 0 jv]) (lJ xs) k undef (0,[]) (fun _=>rfl) h (SE.fin [1,0,2,3] ⟨rfl,rfl,rfl,rfl,rfl,rfl,rfl,rfl,trivial⟩ rfl) (fun n2 v q h=>?_)
  unfold lJ at h;refine sr (jb (bm rfl) ?_);refine nt (ae (bM rfl (fun hb=>?_) (fun hb=>?_)))
  ·replace h:=cE (oq hb) h;refine sk (ae (ao ?_));obtain⟨c,ec,h⟩:=aa h;refine sr (jb (aC (t:=.int .i64) rfl dE Pn ec) ?_);refine ja (ak (t:=.int .i64) rfl Pn rfl) ?_;refine aq (nt ?_)
   have hk:0≤lX c∧lX c≤127∧bH (q.2.length+1):=by
    apply Classical.byContradiction;intro hn;rw [if_neg hn] at h;cases h
   replace h:=cE hk h;refine wi 1 rfl fun hv=>?_;refine ab (mq ?_);refine ja (pe rfl U3 UE) ?_;refine jb (CC rfl) ?_;refine bU (Δ:=[_,_]) (F:=_) (fun _ _ _=>ax rfl _) rfl rfl (ap [.tmp 10,.tmp 33] rfl rfl N9 rfl (yb (b:=b) (p:=OS b q.2) (v:=RH q.2 v) (l:=q.2) (r:=lX c) (Om b q.2) hv hk.1 hk.2.1 hk.2.2)) ⟨rfl,rfl,trivial⟩ fun v2=>?_;refine au (aM (tn (ab ?_)));obtain⟨z3,ez3,h⟩:=aa h;refine jb (bb rfl ez3) ?_;refine mq (nl ?_);exact jk (v2,(z3,q.2++[lX c])) h (SE.fin [0,1,2,3] ⟨rfl,rfl,rfl,rfl,rfl,rfl,rfl,rfl,trivial⟩ (by simp only [I4,I3];rfl))
  replace h:=bQ (nN hb) h;refine dM (aU (aU (bZ (tn ?_))));replace h:(if bH (y.2.length+1) then(ck (y.1+1)).bind fun z=>kd k a1 n (z,y.2++[qL q.2]) else none).bind _=some r:=h
  have hk:bH (y.2.length+1):=by
   apply Classical.byContradiction;intro hn;rw [if_neg hn] at h;cases h
  replace h:=cE hk h;refine ab (mq ?_);refine bU (Δ:=[_,_]) (F:=_) (fun _ _ _=>ax rfl _) rfl rfl (ap [.tmp 10] rfl rfl IO rfl (wV (b:=b) (l:=q.2) (fun hn=>by rw [hn];rfl))) ⟨rfl,trivial⟩ fun _=>?_;refine ja (bi (t:=.str) [(.tmp 37,.eq (.string (qL q.2)))] [qL q.2] rfl rfl G1 (.cons rfl .str .nil) rfl rfl) ?_;refine cF rfl rfl rfl (bz rfl rfl G1 (by simpa using hk)) ⟨rfl,rfl,trivial⟩ fun v'=>?_;refine aq (au (aM (tn (ab ?_))));obtain⟨z3,ez3,h⟩:=aa h;refine jb (bb rfl ez3) ?_;refine mq (nl ?_);exact jz (v',(z3,y.2++[qL q.2])) h [0,1]
 replace h:=bQ (nN hb) h
 refine dM ?_
 refine aU ?_
 refine aU ?_
 refine bZ ?_
 refine tn ?_
 replace h:((ux k y.2 ⟨#[47]⟩).bind fun r=>some (.string r,0)).bind some=some r:=h
 obtain⟨r1,j,h⟩:=aa h
 cases h
 have cj:=BO k y.2 _ r1 j
 refine sr ?_
 refine cC (eD [7] ⟨rfl,trivial⟩) ?_
 refine mq ?_
 refine jb (ap [.tmp 41,.const (.string ⟨#[47]⟩)] rfl rfl N8 rfl cj) ?_
 refine aq ?_
 refine cq ?_
 refine nt ?_
 refine aA ?_
 exact aO () [_,_] 1 ⟨rfl,rfl,trivial⟩ rfl
def kL(k:Nat):Option Bool:=
 (li k ([]:(List Int))).bind fun r1=>
 (xl k).bind fun r2=>
 (xX k r1 r2 1).bind fun r3=>
 (li k ([]:(List Int))).bind fun r4=>
 (xl k).bind fun r5=>
 (pQ k r4 r5).bind fun r6=>
 (li k ([]:(List Int))).bind fun r7=>
 (uO k r7).bind fun r8=>
 (li k ([]:(List Int))).bind fun r9=>
 (Ii k).bind fun E=>
 (uN k r9 E).bind fun c=>
 (li k ([]:(List Int))).bind fun D=>
 (xl k).bind fun y=>
 (hH k D y 0 1).bind fun h=>
 (li k ([]:(List Int))).bind fun x=>
 (xl k).bind fun u=>
 (sZ k x u).bind fun e=>
 ((if r3.2.2=0 then(if r6.2=0 then(if r8.2.2=0 then(if c.2.2.2=0 then(if h.2.2=0 then(if e.2=0 then(if r6.1=3 then(if r8.2.1=0 then(if c.1=0 then(if c.2.1=2 then(if c.2.2.1=1 then(if h.2.1=2 then((dt (MM e.1=true)).bind fun _=>
 if IL e.1 (⟨#[98,97,100,47,99]⟩:ByteArray)=true then((dI k r3.1 [0]).bind fun s=>
 if s=true then((gl k r3.2.1 [[0,1,3],[2]]).bind fun r=>
 if r=true then((gl k r8.1 [[2,0],[1,3]]).bind fun n=>
 if n=true then((dI k h.1 [0,1,3]).bind fun l=>
 some l) else(some false)) else(some false)) else(some false)) else(some false)) else(some false)) else(some false)) else(some false)) else(some false)) else(some false)) else(some false)) else(some false)) else(some false)) else(some false)) else(some false)) else(some false)) else(some false)):Option (Bool)).bind fun j=>
 some j
theorem qF(k:Nat)(r:Bool)(h:kL k=some r):
 dy (jC Tryz.prog) 12 [] [.inv 0 (jv)] (fun _:Unit=>(bv [.eq (.bool r)],[.inv 0 (jv)])):=by
 unfold kL at h
 replace h:=a9 h
 refine dy.of 132 Tryz.func12 rfl Tryz.ntmps12 rfl fun S w0=>?_
 refine sr ?_
 refine cq ?_
 refine nt ?_
 refine sr ?_
 obtain⟨r1,U0,h⟩:=aa h
 have Vd:=jX k ([]:(List Int)) r1 U0
 refine ja (dU (N:=[(.const (.slice none 0 0),.eq (.slice none 0 0))]) (ap [.const (.slice none 0 0)] rfl rfl FP rfl Vd) fun _ _ _ hn=>⟨(j0 (t:=(.slice (.int .i64))) (x:=([]:(List Int))) .nil rfl rfl hn.1),trivial⟩) ?_
 obtain⟨r2,UZ,h⟩:=aa h
 have Vb:=sb k r2 UZ
 refine aE rfl (ap [] rfl rfl Lp rfl Vb) trivial ?_
 obtain⟨r3,UY,h⟩:=aa h
 have Va:=BJ k r1 r2 1 r3 UY
 refine kc (ap [.tmp 19,.tmp 20,.const (.int .i64 (1))] rfl rfl TS rfl Va) ?_
 refine mq ?_
 refine xr ?_
 refine xr ?_
 refine xr ?_
 refine aq ?_
 refine aq ?_
 refine aq ?_
 refine nt ?_
 refine sr ?_
 obtain⟨r4,UX,h⟩:=aa h
 have U8:=jX k ([]:(List Int)) r4 UX
 refine ja (dU (N:=[(.const (.slice none 0 0),.eq (.slice none 0 0))]) (ap [.const (.slice none 0 0)] rfl rfl FP rfl U8) fun _ _ _ hn=>⟨(j0 (t:=(.slice (.int .i64))) (x:=([]:(List Int))) .nil rfl rfl hn.1),trivial⟩) ?_
 obtain⟨r5,UW,h⟩:=aa h
 have U7:=sb k r5 UW
 refine aE rfl (ap [] rfl rfl Lp rfl U7) trivial ?_
 obtain⟨r6,UV,h⟩:=aa h
 have U6:=rI k r4 r5 r6 UV
 refine kb (gy [.tmp 26,.tmp 27] rfl rfl TK rfl U6) ?_
 refine mq ?_
 refine xr ?_
 refine xr ?_
 refine aq ?_
 refine aq ?_
 refine nt ?_
 refine sr ?_
 obtain⟨r7,UU,h⟩:=aa h
 have U4:=jX k ([]:(List Int)) r7 UU
 refine ja (dU (N:=[(.const (.slice none 0 0),.eq (.slice none 0 0))]) (ap [.const (.slice none 0 0)] rfl rfl FP rfl U4) fun _ _ _ hn=>⟨(j0 (t:=(.slice (.int .i64))) (x:=([]:(List Int))) .nil rfl rfl hn.1),trivial⟩) ?_
 obtain⟨r8,UT,h⟩:=aa h
 have U2:=zA k r7 r8 UT
 refine ja (gy [.tmp 32] rfl rfl TL rfl U2) ?_
 refine mq ?_
 refine xr ?_
 refine xr ?_
 refine xr ?_
 refine aq ?_
 refine aq ?_
 refine aq ?_
 refine nt ?_
 refine sr ?_
 obtain⟨r9,US,h⟩:=aa h
 have U1:=jX k ([]:(List Int)) r9 US
 refine ja (dU (N:=[(.const (.slice none 0 0),.eq (.slice none 0 0))]) (ap [.const (.slice none 0 0)] rfl rfl FP rfl U1) fun _ _ _ hn=>⟨(j0 (t:=(.slice (.int .i64))) (x:=([]:(List Int))) .nil rfl rfl hn.1),trivial⟩) ?_
 obtain⟨E,qt,h⟩:=aa h
 have UM:=Ih k E qt
 refine aE rfl (ap [] rfl rfl TJ rfl UM) trivial ?_
 obtain⟨UR,pp,h⟩:=aa h
 have UL:=zz k r9 E UR pp
 refine kb (gy [.tmp 38,.tmp 39] rfl rfl TN rfl UL) ?_
 refine mq ?_
 refine xr ?_
 refine xr ?_
 refine xr ?_
 refine xr ?_
 refine aq ?_
 refine aq ?_
 refine aq ?_
 refine aq ?_
 refine nt ?_
 refine sr ?_
 obtain⟨D,mc,h⟩:=aa h
 have UK:=jX k ([]:(List Int)) D mc
 refine ja (dU (N:=[(.const (.slice none 0 0),.eq (.slice none 0 0))]) (ap [.const (.slice none 0 0)] rfl rfl FP rfl UK) fun _ _ _ hn=>⟨(j0 (t:=(.slice (.int .i64))) (x:=([]:(List Int))) .nil rfl rfl hn.1),trivial⟩) ?_
 obtain⟨y,ac,h⟩:=aa h
 have UJ:=sb k y ac
 refine aE rfl (ap [] rfl rfl Lp rfl UJ) trivial ?_
 obtain⟨u,Y,h⟩:=aa h
 have UI:=qB k D y 0 1 u Y
 refine bY rfl rfl rfl (gy [.tmp 46,.tmp 47,.const (.int .i64 (0)),.const (.int .i64 (1))] rfl rfl QJ rfl UI) ⟨rfl,rfl,rfl,rfl,trivial⟩ ?_
 refine mq ?_
 refine xr ?_
 refine xr ?_
 refine xr ?_
 refine aq ?_
 refine aq ?_
 refine aq ?_
 refine nt ?_
 refine sr ?_
 obtain⟨n,X,h⟩:=aa h
 have UH:=jX k ([]:(List Int)) n X
 refine ja (dU (N:=[(.const (.slice none 0 0),.eq (.slice none 0 0))]) (ap [.const (.slice none 0 0)] rfl rfl FP rfl UH) fun _ _ _ hn=>⟨(j0 (t:=(.slice (.int .i64))) (x:=([]:(List Int))) .nil rfl rfl hn.1),trivial⟩) ?_
 obtain⟨l,U,h⟩:=aa h
 have UG:=sb k l U
 refine aE rfl (ap [] rfl rfl Lp rfl UG) trivial ?_
 obtain⟨UQ,Q,h⟩:=aa h
 have se:=xW k n l UQ Q
 refine kb (ap [.tmp 53,.tmp 54] rfl rfl TG rfl se) ?_
 refine mq ?_
 refine xr ?_
 refine xr ?_
 refine aq ?_
 refine aq ?_
 refine nt ?_
 refine aL (Z:=Unit) (α:=Bool) (fun e c=>[(0,.eq (.bool c))]) (fun e c=>[.inv 0 (jv)]) h (fun K h=>?_) (fun e c h=>?_)
 ·
  refine ab (mq ?_);refine jb (fL rfl) ?_;refine mq ?_;refine cm (s:=60) rfl (fun hb=>?_) (fun hb=>?_)
  ·replace h:=cE (oq hb) h;refine gm ?_;refine gb (fL rfl) ?_;refine pt ?_;refine mq ?_;refine cm (s:=64) rfl (fun hb=>?_) (fun hb=>?_)
   ·replace h:=cE (oq hb) h;refine gm ?_;refine gb (fL rfl) ?_;refine pt ?_;refine mq ?_;refine cm (s:=68) rfl (fun hb=>?_) (fun hb=>?_)
    ·replace h:=cE (oq hb) h;refine gm ?_;refine gb (fL rfl) ?_;refine pt ?_;refine mq ?_;refine cm (s:=72) rfl (fun hb=>?_) (fun hb=>?_)
     ·replace h:=cE (oq hb) h;refine gm ?_;refine gb (fL rfl) ?_;refine pt ?_;refine mq ?_;refine cm (s:=76) rfl (fun hb=>?_) (fun hb=>?_)
      ·replace h:=cE (oq hb) h;refine gm ?_;refine gb (fL rfl) ?_;refine pt ?_;refine mq ?_;refine cm (s:=80) rfl (fun hb=>?_) (fun hb=>?_)
       ·replace h:=cE (oq hb) h;refine gm ?_;refine gb (fL rfl) ?_;refine pt ?_;refine mq ?_;refine cm (s:=84) rfl (fun hb=>?_) (fun hb=>?_)
        ·replace h:=cE (oq hb) h;refine gm ?_;refine gb (fL rfl) ?_;refine pt ?_;refine mq ?_;refine cm (s:=88) rfl (fun hb=>?_) (fun hb=>?_)
         ·replace h:=cE (oq hb) h;refine gm ?_;refine gb (fL rfl) ?_;refine pt ?_;refine mq ?_;refine cm (s:=92) rfl (fun hb=>?_) (fun hb=>?_)
          ·replace h:=cE (oq hb) h;refine gm ?_;refine gb (fL rfl) ?_;refine pt ?_;refine mq ?_;refine cm (s:=96) rfl (fun hb=>?_) (fun hb=>?_)
           ·replace h:=cE (oq hb) h;refine gm ?_;refine gb (fL rfl) ?_;refine pt ?_;refine mq ?_;refine cm (s:=100) rfl (fun hb=>?_) (fun hb=>?_)
            ·replace h:=cE (oq hb) h;refine gm ?_;refine gb (fL rfl) ?_;refine pt ?_;refine mq ?_;refine cm (s:=104) rfl (fun hb=>?_) (fun hb=>?_)
             ·replace h:=cE (oq hb) h;refine gm ?_;obtain⟨Ve,F,h⟩:=aa h;refine gb (HD rfl (ay F)) ?_;refine pt ?_;refine mq ?_;refine cm (s:=108) rfl (fun hb=>?_) (fun hb=>?_)
              ·replace h:=cE (BD hb) h;refine gm ?_;refine ga (bi (t:=(.int .i64)) [(.const (.int .i64 (0)),_)] [0] rfl rfl dw (.cons rfl .int .nil) rfl rfl) ?_;obtain⟨UP,O,h⟩:=aa h;refine gb (ap [.tmp 109,.tmp 110] rfl rfl FQ rfl (fS k r3.1 [0] UP O)) ?_;refine pt ?_;refine mq ?_;refine cm (s:=113) rfl (fun hb=>?_) (fun hb=>?_)
               ·replace h:=cE (BD hb) h;refine gm ?_;refine gc (bi (t:=(.int .i64)) [(.const (.int .i64 (0)),_),(.const (.int .i64 (1)),_),(.const (.int .i64 (3)),_)] [0,1,3] rfl rfl dw (.cons rfl .int (.cons rfl .int (.cons rfl .int .nil))) rfl rfl) ?_;refine ga (bi (t:=(.int .i64)) [(.const (.int .i64 (2)),_)] [2] rfl rfl dw (.cons rfl .int .nil) rfl rfl) ?_;refine gb (bi (t:=(.slice (.int .i64))) [(.tmp 115,_),(.tmp 116,_)] [[0,1,3],[2]] rfl rfl m7 (.cons rfl .rep (.cons rfl .rep .nil)) rfl rfl) ?_;obtain⟨UO,M,h⟩:=aa h;refine gb (ap [.tmp 114,.tmp 117] rfl rfl Oc rfl (kN k r3.2.1 [[0,1,3],[2]] UO M)) ?_;refine pt ?_;refine mq ?_;refine cm (s:=120) rfl (fun hb=>?_) (fun hb=>?_)
                ·replace h:=cE (BD hb) h;refine gm ?_;refine gb (bi (t:=(.int .i64)) [(.const (.int .i64 (2)),_),(.const (.int .i64 (0)),_)] [2,0] rfl rfl dw (.cons rfl .int (.cons rfl .int .nil)) rfl rfl) ?_;refine gb (bi (t:=(.int .i64)) [(.const (.int .i64 (1)),_),(.const (.int .i64 (3)),_)] [1,3] rfl rfl dw (.cons rfl .int (.cons rfl .int .nil)) rfl rfl) ?_;refine gb (bi (t:=(.slice (.int .i64))) [(.tmp 122,_),(.tmp 123,_)] [[2,0],[1,3]] rfl rfl m7 (.cons rfl .rep (.cons rfl .rep .nil)) rfl rfl) ?_;obtain⟨UN,J,h⟩:=aa h;refine gb (ap [.tmp 121,.tmp 124] rfl rfl Oc rfl (kN k r8.1 [[2,0],[1,3]] UN J)) ?_;refine pt ?_;refine mq ?_;refine cm (s:=127) rfl (fun hb=>?_) (fun hb=>?_)
                 ·replace h:=cE (BD hb) h;refine gm ?_;refine gc (bi (t:=(.int .i64)) [(.const (.int .i64 (0)),_),(.const (.int .i64 (1)),_),(.const (.int .i64 (3)),_)] [0,1,3] rfl rfl dw (.cons rfl .int (.cons rfl .int (.cons rfl .int .nil))) rfl rfl) ?_;obtain⟨j,I,h⟩:=aa h;refine gb (ap [.tmp 128,.tmp 129] rfl rfl FQ rfl (fS k u.1 [0,1,3] j I)) ?_;refine pt ?_;refine aq (nl ?_);exact jz ((),j) h [0]
                 ·replace h:=bQ (BE hb) h;iterate 3 refine gn ?_
                  refine pf ?_;refine aq (nl ?_);exact jz ((),false) h [0]
                ·replace h:=bQ (BE hb) h;iterate 5 refine gn ?_
                 refine pf ?_;refine mq ?_;iterate 3 refine gn ?_
                 refine pf ?_;refine aq (nl ?_);exact jz ((),false) h [0]
               ·replace h:=bQ (BE hb) h;iterate 5 refine gn ?_
                refine pf ?_;refine mq ?_;iterate 5 refine gn ?_
                refine pf ?_;refine mq ?_;iterate 3 refine gn ?_
                refine pf ?_;refine aq (nl ?_);exact jz ((),false) h [0]
              ·replace h:=bQ (BE hb) h;iterate 3 refine gn ?_
               refine pf ?_;refine mq ?_;iterate 5 refine gn ?_
               refine pf ?_;refine mq ?_;iterate 5 refine gn ?_
               refine pf ?_;refine mq ?_;iterate 3 refine gn ?_
               refine pf ?_;refine aq (nl ?_);exact jz ((),false) h [0]
             ·replace h:=bQ (nN hb) h;iterate 2 refine gn ?_
              refine pf ?_;refine mq ?_;iterate 3 refine gn ?_
              refine pf ?_;refine mq ?_;iterate 5 refine gn ?_
              refine pf ?_;refine mq ?_;iterate 5 refine gn ?_
              refine pf ?_;refine mq ?_;iterate 3 refine gn ?_
              refine pf ?_;refine aq (nl ?_);exact jz ((),false) h [0]
            ·replace h:=bQ (nN hb) h;iterate 2 refine gn ?_
             refine pf ?_;refine mq ?_;iterate 2 refine gn ?_
             refine pf ?_;refine mq ?_;iterate 3 refine gn ?_
             refine pf ?_;refine mq ?_;iterate 5 refine gn ?_
             refine pf ?_;refine mq ?_;iterate 5 refine gn ?_
             refine pf ?_;refine mq ?_;iterate 3 refine gn ?_
             refine pf ?_;refine aq (nl ?_);exact jz ((),false) h [0]
           ·replace h:=bQ (nN hb) h;iterate 2 refine gn ?_
            refine pf ?_;refine mq ?_;iterate 2 refine gn ?_
            refine pf ?_;refine mq ?_;iterate 2 refine gn ?_
            refine pf ?_;refine mq ?_;iterate 3 refine gn ?_
            refine pf ?_;refine mq ?_;iterate 5 refine gn ?_
            refine pf ?_;refine mq ?_;iterate 5 refine gn ?_
            refine pf ?_;refine mq ?_;iterate 3 refine gn ?_
            refine pf ?_;refine aq (nl ?_);exact jz ((),false) h [0]
          ·replace h:=bQ (nN hb) h;iterate 2 refine gn ?_
           refine pf ?_;refine mq ?_;iterate 2 refine gn ?_
           refine pf ?_;refine mq ?_;iterate 2 refine gn ?_
           refine pf ?_;refine mq ?_;iterate 2 refine gn ?_
           refine pf ?_;refine mq ?_;iterate 3 refine gn ?_
           refine pf ?_;refine mq ?_;iterate 5 refine gn ?_
           refine pf ?_;refine mq ?_;iterate 5 refine gn ?_
           refine pf ?_;refine mq ?_;iterate 3 refine gn ?_
           refine pf ?_;refine aq (nl ?_);exact jz ((),false) h [0]
         ·replace h:=bQ (nN hb) h;iterate 2 refine gn ?_
          refine pf ?_;refine mq ?_;iterate 2 refine gn ?_
          refine pf ?_;refine mq ?_;iterate 2 refine gn ?_
          refine pf ?_;refine mq ?_;iterate 2 refine gn ?_
          refine pf ?_;refine mq ?_;iterate 2 refine gn ?_
          refine pf ?_;refine mq ?_;iterate 3 refine gn ?_
          refine pf ?_;refine mq ?_;iterate 5 refine gn ?_
          refine pf ?_;refine mq ?_;iterate 5 refine gn ?_
          refine pf ?_;refine mq ?_;iterate 3 refine gn ?_
          refine pf ?_;refine aq (nl ?_);exact jz ((),false) h [0]
        ·replace h:=bQ (nN hb) h;iterate 2 refine gn ?_
         refine pf ?_;refine mq ?_;iterate 2 refine gn ?_
         refine pf ?_;refine mq ?_;iterate 2 refine gn ?_
         refine pf ?_;refine mq ?_;iterate 2 refine gn ?_
         refine pf ?_;refine mq ?_;iterate 2 refine gn ?_
         refine pf ?_;refine mq ?_;iterate 2 refine gn ?_
         refine pf ?_;refine mq ?_;iterate 3 refine gn ?_
         refine pf ?_;refine mq ?_;iterate 5 refine gn ?_
         refine pf ?_;refine mq ?_;iterate 5 refine gn ?_
         refine pf ?_;refine mq ?_;iterate 3 refine gn ?_
         refine pf ?_;refine aq (nl ?_);exact jz ((),false) h [0]
       ·replace h:=bQ (nN hb) h;iterate 2 refine gn ?_
        refine pf ?_;refine mq ?_;iterate 2 refine gn ?_
        refine pf ?_;refine mq ?_;iterate 2 refine gn ?_
        refine pf ?_;refine mq ?_;iterate 2 refine gn ?_
        refine pf ?_;refine mq ?_;iterate 2 refine gn ?_
        refine pf ?_;refine mq ?_;iterate 2 refine gn ?_
        refine pf ?_;refine mq ?_;iterate 2 refine gn ?_
        refine pf ?_;refine mq ?_;iterate 3 refine gn ?_
        refine pf ?_;refine mq ?_;iterate 5 refine gn ?_
        refine pf ?_;refine mq ?_;iterate 5 refine gn ?_
        refine pf ?_;refine mq ?_;iterate 3 refine gn ?_
        refine pf ?_;refine aq (nl ?_);exact jz ((),false) h [0]
      ·replace h:=bQ (nN hb) h;iterate 2 refine gn ?_
       refine pf ?_;refine mq ?_;iterate 2 refine gn ?_
       refine pf ?_;refine mq ?_;iterate 2 refine gn ?_
       refine pf ?_;refine mq ?_;iterate 2 refine gn ?_
       refine pf ?_;refine mq ?_;iterate 2 refine gn ?_
       refine pf ?_;refine mq ?_;iterate 2 refine gn ?_
       refine pf ?_;refine mq ?_;iterate 2 refine gn ?_
       refine pf ?_;refine mq ?_;iterate 2 refine gn ?_
       refine pf ?_;refine mq ?_;iterate 3 refine gn ?_
       refine pf ?_;refine mq ?_;iterate 5 refine gn ?_
       refine pf ?_;refine mq ?_;iterate 5 refine gn ?_
       refine pf ?_;refine mq ?_;iterate 3 refine gn ?_
       refine pf ?_;refine aq (nl ?_);exact jz ((),false) h [0]
     ·replace h:=bQ (nN hb) h;iterate 2 refine gn ?_
      refine pf ?_;refine mq ?_;iterate 2 refine gn ?_
      refine pf ?_;refine mq ?_;iterate 2 refine gn ?_
      refine pf ?_;refine mq ?_;iterate 2 refine gn ?_
      refine pf ?_;refine mq ?_;iterate 2 refine gn ?_
      refine pf ?_;refine mq ?_;iterate 2 refine gn ?_
      refine pf ?_;refine mq ?_;iterate 2 refine gn ?_
      refine pf ?_;refine mq ?_;iterate 2 refine gn ?_
      refine pf ?_;refine mq ?_;iterate 2 refine gn ?_
      refine pf ?_;refine mq ?_;iterate 3 refine gn ?_
      refine pf ?_;refine mq ?_;iterate 5 refine gn ?_
      refine pf ?_;refine mq ?_;iterate 5 refine gn ?_
      refine pf ?_;refine mq ?_;iterate 3 refine gn ?_
      refine pf ?_;refine aq (nl ?_);exact jz ((),false) h [0]
    ·replace h:=bQ (nN hb) h;iterate 2 refine gn ?_
     refine pf ?_;refine mq ?_;iterate 2 refine gn ?_
     refine pf ?_;refine mq ?_;iterate 2 refine gn ?_
     refine pf ?_;refine mq ?_;iterate 2 refine gn ?_
     refine pf ?_;refine mq ?_;iterate 2 refine gn ?_
     refine pf ?_;refine mq ?_;iterate 2 refine gn ?_
     refine pf ?_;refine mq ?_;iterate 2 refine gn ?_
     refine pf ?_;refine mq ?_;iterate 2 refine gn ?_
     refine pf ?_;refine mq ?_;iterate 2 refine gn ?_
     refine pf ?_;refine mq ?_;iterate 2 refine gn ?_
     refine pf ?_;refine mq ?_;iterate 3 refine gn ?_
     refine pf ?_;refine mq ?_;iterate 5 refine gn ?_
     refine pf ?_;refine mq ?_;iterate 5 refine gn ?_
     refine pf ?_;refine mq ?_;iterate 3 refine gn ?_
     refine pf ?_;refine aq (nl ?_);exact jz ((),false) h [0]
   ·replace h:=bQ (nN hb) h;iterate 2 refine gn ?_
    refine pf ?_;refine mq ?_;iterate 2 refine gn ?_
    refine pf ?_;refine mq ?_;iterate 2 refine gn ?_
    refine pf ?_;refine mq ?_;iterate 2 refine gn ?_
    refine pf ?_;refine mq ?_;iterate 2 refine gn ?_
    refine pf ?_;refine mq ?_;iterate 2 refine gn ?_
    refine pf ?_;refine mq ?_;iterate 2 refine gn ?_
    refine pf ?_;refine mq ?_;iterate 2 refine gn ?_
    refine pf ?_;refine mq ?_;iterate 2 refine gn ?_
    refine pf ?_;refine mq ?_;iterate 2 refine gn ?_
    refine pf ?_;refine mq ?_;iterate 2 refine gn ?_
    refine pf ?_;refine mq ?_;iterate 3 refine gn ?_
    refine pf ?_;refine mq ?_;iterate 5 refine gn ?_
    refine pf ?_;refine mq ?_;iterate 5 refine gn ?_
    refine pf ?_;refine mq ?_;iterate 3 refine gn ?_
    refine pf ?_;refine aq (nl ?_);exact jz ((),false) h [0]
  ·replace h:=bQ (nN hb) h;iterate 2 refine gn ?_
   refine pf ?_;refine mq ?_;iterate 2 refine gn ?_
   refine pf ?_;refine mq ?_;iterate 2 refine gn ?_
   refine pf ?_;refine mq ?_;iterate 2 refine gn ?_
   refine pf ?_;refine mq ?_;iterate 2 refine gn ?_
   refine pf ?_;refine mq ?_;iterate 2 refine gn ?_
   refine pf ?_;refine mq ?_;iterate 2 refine gn ?_
   refine pf ?_;refine mq ?_;iterate 2 refine gn ?_
   refine pf ?_;refine mq ?_;iterate 2 refine gn ?_
   refine pf ?_;refine mq ?_;iterate 2 refine gn ?_
   refine pf ?_;refine mq ?_;iterate 2 refine gn ?_
   refine pf ?_;refine mq ?_;iterate 2 refine gn ?_
   refine pf ?_;refine mq ?_;iterate 3 refine gn ?_
   refine pf ?_;refine mq ?_;iterate 5 refine gn ?_
   refine pf ?_;refine mq ?_;iterate 5 refine gn ?_
   refine pf ?_;refine mq ?_;iterate 3 refine gn ?_
   refine pf ?_;refine aq (nl ?_);exact jz ((),false) h [0]
 ·
  refine aA ?_;cases h;exact aO () [_] 1 ⟨rfl,trivial⟩ rfl
def lj(k:Nat)(a0:aQ)(a1:eM)(a2:(List (List Int)))(a3:bR):Option ((List aQ)×(List (List (List Int)))×bR):=
 (kM k (a3.1,a3.2.1,a3.2.2) 4 3).bind fun r3=>
 (ji k r3.1).bind fun r5=>
 (eh k a1.2).bind fun r8=>
 (dt (bH (List.length r5.2.1+List.length [(a1.1,r8)]))).bind fun _=>
 (fh k (r3.2.1,r3.2.2.1,r3.2.2.2) r3.1).bind fun e=>
 (fh k (e.2.1,e.2.2.1,e.2.2.2) r3.1).bind fun c=>
 (((ck ((r3.1.2.2.length:Int) - 1)).bind fun h=>
 if(r5.2.2.length:Int) < 3 then((aP r5.2.2 h).bind fun u=>
 (ck (u+3)).bind fun s=>
 (aP r5.2.2 h).bind fun y=>
 (aP [a2,e.1,a2,c.1] 3).bind fun r=>
 (fj k r).bind fun n=>
 (aP [a2,e.1,a2,c.1] 3).bind fun x=>
 (aP n h).bind fun j=>
 (dt (bH (List.length j+List.length [(r3.1.2.1.length:Int)]))).bind fun _=>
 some (List.set r5.2.2 (Int.toNat h) (ky 9 s),List.set [a2,e.1,a2,c.1] (Int.toNat 3) (List.set n (Int.toNat h) (j++[(r3.1.2.1.length:Int)])))) else(some (r5.2.2,[a2,e.1,a2,c.1]))):Option ((List Int)×(List (List (List Int))))).bind fun l=>
 some ([a0,r3.1,r3.1,(r5.1,r5.2.1++[(a1.1,r8)],l.1)],l.2,(c.2.1,c.2.2.1,c.2.2.2))
theorem vD(k:Nat)(a0:aQ)(a1:eM)(a2:(List (List Int)))(a3:bR)(e:Nat)(r:(List aQ)×(List (List (List Int)))×bR)(h:lj k a0 a1 a2 a3=some r):
 cd Tryz.prog 14 [.rep av a0,.rep aZ a1,.rep (.slice (.slice (.int .i64))) a2,Pt e] [.obj e 75 (.agg (.pair (Ri a3.1) (.pair (I a3.2.1) (.eq (.int .u64 a3.2.2)))))] (fun _:Unit=>(bv [Rs av r.1,.rep (.slice (.slice (.slice (.int .i64)))) r.2.1],[.obj e 75 (.agg (.pair (Ri r.2.2.1) (.pair (I r.2.2.2.1) (.eq (.int .u64 r.2.2.2.2)))))])):=by
 unfold lj at h
 replace h:=a9 h
 refine cd.of 85 Tryz.func14 rfl Tryz.ntmps14 rfl fun S w0=>?_
 refine sr ?_
 refine bx fun b1=>?_
 refine bx fun b2=>?_
 refine cq ?_
 refine cq ?_
 refine nt ?_
 refine sr ?_
 refine mq ?_
 obtain⟨r3,Ve,h⟩:=aa h
 have Vh:=wJ k (a3.1,a3.2.1,a3.2.2) e 4 3 r3 Ve
 refine fr 2 ?_
 refine kc (ap [.tmp 14,.const (.int .i64 (4)),.const (.int .i64 (3))] rfl rfl TF rfl Vh) ?_
 refine aF rfl rfl rfl (bf rfl kE mF) trivial fun b4=>?_
 refine bh rfl rfl (be rfl dQ rfl rfl rfl) ⟨rfl,rfl,trivial⟩ ?_
 refine nt ?_
 refine sr ?_
 refine lo dQ ?_
 obtain⟨r5,Vd,h⟩:=aa h
 have Vg:=uo k r3.1 r5 Vd
 refine bU (Δ:=[]) (F:=_) (fun _ _ _=>ax rfl _) rfl rfl (ap [.tmp 16] rfl rfl QR rfl Vg) ⟨rfl,trivial⟩ fun z6=>?_
 refine aF rfl rfl rfl (bf rfl kE mF) trivial fun b7=>?_
 refine bh rfl rfl (be rfl dQ trivial rfl rfl) ⟨rfl,rfl,trivial⟩ ?_
 refine nt ?_
 refine ae ?_
 refine bJ ?_
 refine da (ar rfl bV) ?_
 refine ea 0 (aj rfl eU jr rfl) ?_
 refine da (ar rfl kQ) ?_
 refine ea 5 (aj rfl co jr rfl) ?_
 refine da (ar rfl kz) ?_
 refine ea 5 (aj rfl bG jr rfl) ?_
 obtain⟨r8,Vb,h⟩:=aa h
 have Vf:=cu k a1.2 r8 Vb
 refine da (sL (ap [.tmp 23] rfl rfl uu rfl Vf)) ?_
 refine db (cN [(0,.tmp 21,_),(1,.tmp 24,_)] rfl zQ ug ud (il ⟨rfl,rfl,trivial⟩) rfl) ?_
 refine da (bi (t:=aZ) [(.tmp 25,_)] [(a1.1,r8)] rfl rfl ya (.cons trivial (.agg (.pair .int .rep)) .nil) rfl rfl) ?_
 refine df cD ?_
 obtain⟨u9,Va,h⟩:=aa h
 refine fr 1 ?_
 refine cF rfl rfl rfl (bz rfl rfl ya (ay Va)) ⟨rfl,rfl,trivial⟩ fun j=>?_
 refine fl bV ?_
 refine ow fun o11=>?_
 refine fr 1 ?_
 refine bh rfl rfl (be rfl eU o11 rfl rfl) ⟨rfl,rfl,trivial⟩ ?_
 refine nt ?_
 refine ae ?_
 refine Gk [0,2,4,5,6,1,3,7,8,9] (by kernel_rfl) ?_
 refine aH rfl rfl rfl (aK rfl) ⟨rfl,trivial⟩ ?_
 refine dr 3 rfl rfl rfl rfl (aj rfl dQ (uD) rfl) ⟨rfl,trivial⟩ ?_
 refine aH rfl rfl rfl (aK rfl) ⟨rfl,trivial⟩ ?_
 refine aH rfl rfl rfl (aK rfl) ⟨rfl,trivial⟩ ?_
 refine dr 3 rfl rfl rfl rfl (aj rfl dQ (uD) rfl) ⟨rfl,trivial⟩ ?_
 refine aH rfl rfl rfl (aK rfl) ⟨rfl,trivial⟩ ?_
 refine mB 6 [false,true,false,false,false,true] [32,36] [3] [.obj b4 25 (.rep av r3.1)] rfl (by kernel_rfl) (by kernel_rfl) (by kernel_rfl) cD (fun vs hv hB=>?_)
 obtain⟨w0,U4,rfl,UH⟩:=an hv
 obtain⟨w1,U2,rfl,UG⟩:=an UH
 obtain⟨w2,U1,rfl,se⟩:=an UG
 obtain⟨w3,U0,rfl,qt⟩:=an se
 obtain⟨w4,UZ,rfl,pp⟩:=an qt
 obtain⟨w5,UY,rfl,mc⟩:=an pp
 obtain rfl:=kw mc
 refine⟨[3,0,1,2,4,5,6],[.obj b7 25 (.agg (.pair (I r5.1) (.pair (.eq j) (.eq z6.2)))),.sl j 27 aZ (r5.2.1++[(a1.1,r8)]),.sl z6.2 3 (.int .i64) r5.2.2,.obj e 75 (.agg (.pair (Ri r3.2.1) (.pair (I r3.2.2.1) (.eq (.int .u64 r3.2.2.2))))),.obj b2 27 (.rep aZ a1),.obj b1 25 (.rep av a0)],by kernel_rfl,by decide,?_⟩
 obtain⟨x,UU,h⟩:=aa h
 have UW:=nH k (r3.2.1,r3.2.2.1,r3.2.2.2) e r3.1 x UU
 refine i9 3 rfl ?_
 refine we rfl rfl rfl rfl (ap [.tmp 30,.tmp 31] rfl rfl QI rfl UW) ⟨rfl,rfl,trivial⟩ (by kernel_rfl) ?_
 obtain⟨c,UT,h⟩:=aa h
 have UV:=nH k (x.2.1,x.2.2.1,x.2.2.2) e r3.1 c UT
 refine we rfl rfl rfl rfl (ap [.tmp 34,.tmp 35] rfl rfl QI rfl UV) ⟨rfl,rfl,trivial⟩ (by kernel_rfl) ?_
 refine Do (by kernel_rfl) ?_
 refine aF rfl rfl rfl (jP (t:=(.slice (.slice (.int .i64)))) [(.tmp 29,_),(.tmp 32,_),(.tmp 33,_),(.tmp 36,_)] [a2,x.1,a2,c.1] rfl rfl Sj (.cons rfl .rep (.cons rfl .rep (.cons rfl .rep (.cons rfl .rep .nil)))) rfl rfl) ⟨rfl,rfl,rfl,rfl,trivial⟩ fun y=>?_
 refine aq ?_
 refine nt ?_
 refine aL (Z:=Unit) (α:=(List Int)×(List (List (List Int)))) (fun UI U=>[(4,Pt b1),(10,Pt b4),(11,Pt b7),(12,.eq y)]) (fun UI U=>[.obj b1 25 (.rep av a0),.obj b4 25 (.rep av r3.1),.obj b7 25 (.agg (.pair (I r5.1) (.pair (.eq j) (.eq z6.2)))),.sl j 27 aZ (r5.2.1++[(a1.1,r8)]),.sl z6.2 3 (.int .i64) U.1,.sl y 28 (.slice (.slice (.int .i64))) U.2,.obj e 75 (.agg (.pair (Ri c.2.1) (.pair (I c.2.2.1) (.eq (.int .u64 c.2.2.2)))))]) h (fun K h=>?_) (fun UI U h=>?_)
 ·
  refine sr (fl cK ?_);refine fr 1 ?_;refine lo bG ?_;refine ol dE ?_;obtain⟨s,UQ,h⟩:=aa h;refine jb (fK rfl UQ) ?_;refine aq (nt (sr ?_));refine fl cK ?_;refine fr 3 ?_;refine lo bG ?_;refine fr 5 ?_;refine ka (dj rfl rfl dE) ?_;refine jb (bm rfl) ?_;refine nt (ci h (fun h=>?_) (fun h=>?_))
  ·refine ae (bJ ?_);refine da (ar rfl cK) ?_;refine ea 1 (aj rfl bG jr rfl) ?_;refine dm ?_;refine da (ar rfl cK) ?_;refine ea 1 (aj rfl bG jr rfl) ?_;refine dm ?_;obtain⟨Vq,ac,h⟩:=aa h;refine eb 0 (aY (t:=(.int .i64)) rfl dE co ac) ?_;refine ea 0 (dW (i:=Int.toNat s) (off:=0) rfl co (fun _=>rfl) rfl (cy ac).2.2 rfl) ?_;obtain⟨D,UP,h⟩:=aa h;refine db (bb rfl UP) ?_;refine db (DU rfl rfl) ?_;refine df cD ?_;obtain⟨Vp,Y,h⟩:=aa h;refine kb (aY (t:=(.int .i64)) rfl dE co Y) ?_;refine bh rfl rfl (cI (i:=Int.toNat s) rfl co rfl (gz Y) rfl .int rfl) ⟨rfl,rfl,trivial⟩ ?_;refine nt (sr ?_);iterate 2 refine mq ?_
   obtain⟨UX,X,h⟩:=aa h;refine fr 3 ?_;refine kb (aY (t:=(.slice (.slice (.int .i64)))) rfl OA rK X) ?_;refine ka (dW (i:=Int.toNat 3) (off:=0) rfl rK (fun _=>rfl) rfl (cy X).2.2 rfl) ?_;obtain⟨E,US,h⟩:=aa h;refine bU (Δ:=[]) (F:=[.sl y 28 (.slice (.slice (.int .i64))) [a2,x.1,a2,c.1],.sl z6.2 3 (.int .i64) (List.set r5.2.2 (Int.toNat s) (ky 9 D)),.obj b7 25 (.agg (.pair (I r5.1) (.pair (.eq j) (.eq z6.2)))),.obj b4 25 (.rep av r3.1),.obj e 75 (.agg (.pair (Ri c.2.1) (.pair (I c.2.2.1) (.eq (.int .u64 c.2.2.2))))),.sl j 27 aZ (r5.2.1++[(a1.1,r8)]),.obj b2 27 (.rep aZ a1),.obj b1 25 (.rep av a0)]) (fun _ _ _=>ax rfl _) rfl rfl (ap [.tmp 60] rfl rfl QO rfl (sd k UX E US)) ⟨rfl,trivial⟩ fun n=>?_;refine cC (fM List.perm_append_comm) ?_;obtain⟨Vo,M,h⟩:=aa h;refine kb (aY (t:=(.slice (.slice (.int .i64)))) rfl OA rK M) ?_;refine Jq (pre:=[.sl y 28 (.slice (.slice (.int .i64))) [a2,x.1,a2,c.1],.sl z6.2 3 (.int .i64) (List.set r5.2.2 (Int.toNat s) (ky 9 D)),.obj b7 25 (.agg (.pair (I r5.1) (.pair (.eq j) (.eq z6.2)))),.obj b4 25 (.rep av r3.1),.obj e 75 (.agg (.pair (Ri c.2.1) (.pair (I c.2.2.1) (.eq (.int .u64 c.2.2.2))))),.sl j 27 aZ (r5.2.1++[(a1.1,r8)]),.obj b2 27 (.rep aZ a1),.obj b1 25 (.rep av a0)]) fun oz25=>?_;refine cC F5 ?_;refine bh rfl rfl (cI (i:=Int.toNat 3) rfl rK rfl (by rw [List.length_map];exact gz M) rfl (.altR oz25) oz25) ⟨rfl,rfl,trivial⟩ ?_;refine nt ?_;obtain⟨Q,J,h⟩:=aa h;refine dL (tX (pre:=[.sl y 28 (.alt (.slice (.slice (.int .i64)))) (List.set (List.map Sum.inl [a2,x.1,a2,c.1]) (Int.toNat 3) (.inr n.1)),.sl z6.2 3 (.int .i64) (List.set r5.2.2 (Int.toNat s) (ky 9 D)),.obj b7 25 (.agg (.pair (I r5.1) (.pair (.eq j) (.eq z6.2)))),.obj b4 25 (.rep av r3.1),.obj e 75 (.agg (.pair (Ri c.2.1) (.pair (I c.2.2.1) (.eq (.int .u64 c.2.2.2))))),.sl j 27 aZ (r5.2.1++[(a1.1,r8)]),.obj b2 27 (.rep aZ a1),.obj b1 25 (.rep av a0)]) (qc J).2) ?_;obtain⟨Vy,UR,h⟩:=aa h;refine sN (Δ:=[.sl (n.2 (Int.toNat s)) 3 (.int .i64) Q,.sl n.1 23 .val (eF n.2 0 E),.sl y 28 (.alt (.slice (.slice (.int .i64)))) (List.set (List.map Sum.inl [a2,x.1,a2,c.1]) (Int.toNat 3) (.inr n.1)),.sl z6.2 3 (.int .i64) (List.set r5.2.2 (Int.toNat s) (ky 9 D)),.obj b7 25 (.agg (.pair (I r5.1) (.pair (.eq j) (.eq z6.2)))),.obj b4 25 (.rep av r3.1),.obj e 75 (.agg (.pair (Ri c.2.1) (.pair (I c.2.2.1) (.eq (.int .u64 c.2.2.2))))),.sl j 27 aZ (r5.2.1++[(a1.1,r8)]),.obj b2 27 (.rep aZ a1),.obj b1 25 (.rep av a0)]) (F:=(kY n.2 0 E).eraseIdx (Int.toNat s)) (Z:=Value) (fun i=>[(4,Pt b1),(10,Pt b4),(11,Pt b7),(12,.eq y)]) (fun i=>[.sl n.1 23 .val (List.set (eF n.2 0 E) (Int.toNat s) i),.sl i 3 (.int .i64) (Q++[(r3.1.2.1.length:Int)]),.sl y 28 (.alt (.slice (.slice (.int .i64)))) (List.set (List.map Sum.inl [a2,x.1,a2,c.1]) (Int.toNat 3) (.inr n.1)),.sl z6.2 3 (.int .i64) (List.set r5.2.2 (Int.toNat s) (ky 9 D)),.obj b7 25 (.agg (.pair (I r5.1) (.pair (.eq j) (.eq z6.2)))),.obj b4 25 (.rep av r3.1),.obj e 75 (.agg (.pair (Ri c.2.1) (.pair (I c.2.2.1) (.eq (.int .u64 c.2.2.2))))),.sl j 27 aZ (r5.2.1++[(a1.1,r8)]),.obj b2 27 (.rep aZ a1),.obj b1 25 (.rep av a0)]) (fun S w=>?_) (fun O=>?_)
   ·refine jF ?_;refine aH rfl rfl rfl (aK rfl) ⟨rfl,trivial⟩ ?_;refine dr 2 rfl rfl rfl rfl (aY (t:=.alt (.slice (.slice (.int .i64)))) rfl OA rK (sj M _)) ⟨rfl,rfl,trivial⟩ ?_;refine dr 2 rfl rfl rfl rfl (vu (i:=Int.toNat 3) rfl rK rfl (cy (sj M _)).2.2) ⟨rfl,trivial⟩ ?_;refine aH rfl rfl rfl (aK rfl) ⟨rfl,trivial⟩ ?_;refine aH rfl rfl rfl (aK rfl) ⟨rfl,trivial⟩ ?_;refine dr 2 rfl rfl rfl rfl (aY (t:=.alt (.slice (.slice (.int .i64)))) rfl OA rK (sj M _)) ⟨rfl,rfl,trivial⟩ ?_;refine dr 2 rfl rfl rfl rfl (vu (i:=Int.toNat 3) rfl rK rfl (cy (sj M _)).2.2) ⟨rfl,trivial⟩ ?_;refine aH rfl rfl rfl (aK rfl) ⟨rfl,trivial⟩ ?_;refine dr 1 rfl rfl rfl rfl (aY (t:=.val) rfl lE bG (kU J)) ⟨rfl,rfl,trivial⟩ ?_;refine dr 1 rfl rfl rfl rfl (dW (i:=Int.toNat s) (off:=0) rfl bG (fun _=>rfl) rfl (cy (kU J)).2.2 rfl) ⟨rfl,trivial⟩ ?_;refine aH rfl rfl rfl (ar rfl bV) ⟨rfl,trivial⟩ ?_;refine dr 5 rfl rfl rfl rfl (aj rfl eU jr rfl) ⟨rfl,trivial⟩ ?_;refine aH rfl rfl rfl (jm rfl rfl mG) ⟨rfl,trivial⟩ ?_;refine aH rfl rfl rfl (bi (t:=(.int .i64)) [(.tmp 75,_)] [(r3.1.2.1.length:Int)] rfl rfl dw (.cons rfl .int .nil) rfl rfl) ⟨rfl,trivial⟩ ?_;refine sO 0 rfl (fun v=>[.sl v 3 (.int .i64) (Q++[(r3.1.2.1.length:Int)])]) (fun _=>rfl) rfl rfl rfl (bz rfl rfl dw (ay UR)) ⟨rfl,rfl,trivial⟩ ?_;refine mB 15 [true,true,true,true,true,true,true,true,true,true,true,true,true,true,true] [78] [] [] rfl (by kernel_rfl) (by kernel_rfl) (by kernel_rfl) cD (fun vs hv hB=>?_);obtain⟨w0,U4,rfl,UH⟩:=an hv;obtain⟨w1,U2,rfl,UG⟩:=an UH;obtain⟨w2,U1,rfl,se⟩:=an UG;obtain⟨w3,U0,rfl,qt⟩:=an se;obtain⟨w4,UZ,rfl,pp⟩:=an qt;obtain⟨w5,UY,rfl,mc⟩:=an pp;obtain⟨w6,Vx,rfl,U8⟩:=an mc;obtain⟨w7,Vw,rfl,U7⟩:=an U8;obtain⟨w8,Vv,rfl,U6⟩:=an U7;obtain⟨w9,Vn,rfl,UO⟩:=an U6;obtain⟨Vu,Vm,rfl,UN⟩:=an UO;obtain⟨Vt,Vl,rfl,UM⟩:=an UN;obtain⟨Vs,Vk,rfl,UL⟩:=an UM;obtain⟨Vr,Vj,rfl,UK⟩:=an UL;obtain⟨O,Vi,rfl,UJ⟩:=an UK;obtain rfl:=kw UJ;refine⟨[0,1,2,3,4,5,6,7,8,9],[.sl n.1 23 .val (eF n.2 0 E),.sl y 28 (.alt (.slice (.slice (.int .i64)))) (List.set (List.map Sum.inl [a2,x.1,a2,c.1]) (Int.toNat 3) (.inr n.1)),.sl z6.2 3 (.int .i64) (List.set r5.2.2 (Int.toNat s) (ky 9 D)),.obj b7 25 (.agg (.pair (I r5.1) (.pair (.eq j) (.eq z6.2)))),.obj b4 25 (.rep av r3.1),.obj e 75 (.agg (.pair (Ri c.2.1) (.pair (I c.2.2.1) (.eq (.int .u64 c.2.2.2))))),.sl j 27 aZ (r5.2.1++[(a1.1,r8)]),.obj b2 27 (.rep aZ a1),.obj b1 25 (.rep av a0),.sl O 3 (.int .i64) (Q++[(r3.1.2.1.length:Int)])],by kernel_rfl,by decide,?_⟩;refine we rfl rfl rfl rfl (aY (t:=.val) rfl lE bG (kU J)) ⟨rfl,rfl,trivial⟩ (by kernel_rfl) ?_;refine i9 9 rfl ?_;refine Dm fun o29=>?_;refine i9 1 rfl ?_;refine ov rfl rfl (cI (i:=Int.toNat s) rfl bG rfl (gz (kU J)) rfl (.val o29) o29) ⟨rfl,rfl,trivial⟩ (by kernel_rfl) ?_;refine pJ ?_;refine bC (SE.fin (Γ':=[(4,Pt b1),(10,Pt b4),(11,Pt b7),(12,.eq y)]) (Δ':=[.sl n.1 23 .val (List.set (eF n.2 0 E) (Int.toNat s) O),.sl O 3 (.int .i64) (Q++[(r3.1.2.1.length:Int)]),.sl y 28 (.alt (.slice (.slice (.int .i64)))) (List.set (List.map Sum.inl [a2,x.1,a2,c.1]) (Int.toNat 3) (.inr n.1)),.sl z6.2 3 (.int .i64) (List.set r5.2.2 (Int.toNat s) (ky 9 D)),.obj b7 25 (.agg (.pair (I r5.1) (.pair (.eq j) (.eq z6.2)))),.obj b4 25 (.rep av r3.1),.obj e 75 (.agg (.pair (Ri c.2.1) (.pair (I c.2.2.1) (.eq (.int .u64 c.2.2.2))))),.sl j 27 aZ (r5.2.1++[(a1.1,r8)]),.obj b2 27 (.rep aZ a1),.obj b1 25 (.rep av a0)]) [0,1,2,3,4,5,6,7,8,9] ⟨rfl,rfl,rfl,rfl,trivial⟩ rfl) ?_
    exact fun a w st=>⟨rfl,(O),(SE.fin (Γ':=[(4,Pt b1),(10,Pt b4),(11,Pt b7),(12,.eq y)]) (Δ':=[.sl n.1 23 .val (List.set (eF n.2 0 E) (Int.toNat s) O),.sl O 3 (.int .i64) (Q++[(r3.1.2.1.length:Int)]),.sl y 28 (.alt (.slice (.slice (.int .i64)))) (List.set (List.map Sum.inl [a2,x.1,a2,c.1]) (Int.toNat 3) (.inr n.1)),.sl z6.2 3 (.int .i64) (List.set r5.2.2 (Int.toNat s) (ky 9 D)),.obj b7 25 (.agg (.pair (I r5.1) (.pair (.eq j) (.eq z6.2)))),.obj b4 25 (.rep av r3.1),.obj e 75 (.agg (.pair (Ri c.2.1) (.pair (I c.2.2.1) (.eq (.int .u64 c.2.2.2))))),.sl j 27 aZ (r5.2.1++[(a1.1,r8)]),.obj b2 27 (.rep aZ a1),.obj b1 25 (.rep av a0)]) [0,1,2,3,4,5,6,7,8,9] ⟨rfl,rfl,rfl,rfl,trivial⟩ rfl) a w st⟩
   ·show JN _ _ [(4,Pt b1),(10,Pt b4),(11,Pt b7),(12,.eq y)] ([.sl n.1 23 .val (List.set (eF n.2 0 E) (Int.toNat s) O),.sl O 3 (.int .i64) (Q++[(r3.1.2.1.length:Int)]),.sl y 28 (.alt (.slice (.slice (.int .i64)))) (List.set (List.map Sum.inl [a2,x.1,a2,c.1]) (Int.toNat 3) (.inr n.1)),.sl z6.2 3 (.int .i64) (List.set r5.2.2 (Int.toNat s) (ky 9 D)),.obj b7 25 (.agg (.pair (I r5.1) (.pair (.eq j) (.eq z6.2)))),.obj b4 25 (.rep av r3.1),.obj e 75 (.agg (.pair (Ri c.2.1) (.pair (I c.2.2.1) (.eq (.int .u64 c.2.2.2))))),.sl j 27 aZ (r5.2.1++[(a1.1,r8)]),.obj b2 27 (.rep aZ a1),.obj b1 25 (.rep av a0)]++(kY n.2 0 E).eraseIdx (Int.toNat s));refine dq 1 rfl ?_;refine bC (wc (pre:=[.sl y 28 (.alt (.slice (.slice (.int .i64)))) (List.set (List.map Sum.inl [a2,x.1,a2,c.1]) (Int.toNat 3) (.inr n.1)),.sl z6.2 3 (.int .i64) (List.set r5.2.2 (Int.toNat s) (ky 9 D)),.obj b7 25 (.agg (.pair (I r5.1) (.pair (.eq j) (.eq z6.2)))),.obj b4 25 (.rep av r3.1),.obj e 75 (.agg (.pair (Ri c.2.1) (.pair (I c.2.2.1) (.eq (.int .u64 c.2.2.2))))),.sl j 27 aZ (r5.2.1++[(a1.1,r8)]),.obj b2 27 (.rep aZ a1),.obj b1 25 (.rep av a0)]) (z:=n) (i:=Int.toNat s) (qc J).2) ?_;refine ag (bC (A9 (pre:=[.sl y 28 (.alt (.slice (.slice (.int .i64)))) (List.set (List.map Sum.inl [a2,x.1,a2,c.1]) (Int.toNat 3) (.inr n.1)),.sl z6.2 3 (.int .i64) (List.set r5.2.2 (Int.toNat s) (ky 9 D)),.obj b7 25 (.agg (.pair (I r5.1) (.pair (.eq j) (.eq z6.2)))),.obj b4 25 (.rep av r3.1),.obj e 75 (.agg (.pair (Ri c.2.1) (.pair (I c.2.2.1) (.eq (.int .u64 c.2.2.2))))),.sl j 27 aZ (r5.2.1++[(a1.1,r8)]),.obj b2 27 (.rep aZ a1),.obj b1 25 (.rep av a0)])) ?_);refine bC (F6 (u:=.slice (.int .i64)) (l:=[a2,x.1,a2,c.1]) (i:=Int.toNat 3)) ?_;exact jz ((),(List.set r5.2.2 (Int.toNat s) (ky 9 D),List.set [a2,x.1,a2,c.1] (Int.toNat 3) (List.set E (Int.toNat s) (Q++[(r3.1.2.1.length:Int)])))) h [7,3,2,5,1,0,4]
  ·refine aW (ag ?_);exact jz ((),(r5.2.2,[a2,x.1,a2,c.1])) h [7,2,1,5,0,3,4]
 ·
  refine sr (lo dQ ?_);refine fr 1 ?_;refine lo dQ ?_;refine lo dQ ?_;refine fr 2 ?_;refine fr 3 ?_;refine cC (kS (off:=1) [] trivial rfl rfl) ?_;refine fr 3 ?_;refine cC (kS (off:=2) [] trivial rfl rfl) ?_;refine lo dQ ?_;refine aE rfl (bi (t:=av) [(.tmp 79,_),(.tmp 80,_),(.tmp 81,_),(.tmp 82,_)] [a0,r3.1,r3.1,(r5.1,r5.2.1++[(a1.1,r8)],U.1)] rfl rfl Sl (.cons rfl .rep (.cons rfl .rep (.cons rfl .rep (.cons trivial (.agg (.pair .int (.pair .rep .rep))) .nil)))) rfl rfl) ⟨rfl,rfl,rfl,rfl,trivial⟩ ?_;refine mq ?_;refine aq ?_;refine aq (nt (aA ?_));refine dq 3 rfl ?_;refine bC (eD [9,12,84] ⟨rfl,rfl,rfl,trivial⟩) ?_;refine bC (SE.fin (Γ':=[(8,_),(9,_)]) [3,0,1,2] ⟨rfl,rfl,trivial⟩ rfl) ?_;cases h;exact aO () [_,_] 1 ⟨rfl,rfl,trivial⟩ rfl
def de(k:Nat)(a3:Int)(a4:Int)(e:(List aQ)×(List (List (List Int)))×bR)(u:Int×bR)(s:Int×bR)(r:Int×bR)(l:Int×bR):Nat→Int→Option (Except Bool Unit)
 |0,_=>none
 |n+1,c=>
  if c < (e.1.length:Int) then((aP e.1 c).bind fun Z=>
  (jB k Z).bind fun y=>
  (aP e.2.1 c).bind fun Y=>
  (fj k Y).bind fun x=>
  (aP [a3,u.1,a3,s.1] c).bind fun X=>
  (aP [a4,r.1,a4,l.1] c).bind fun U=>
  (hH k y x X U).bind fun j=>
  (aP e.1 c).bind fun Q=>
  (aP e.2.1 c).bind fun O=>
  (aP [a3,u.1,a3,s.1] c).bind fun M=>
  (aP [a4,r.1,a4,l.1] c).bind fun J=>
  (iR k Q O M J).bind fun h=>
  ((if¬(j.2.1=h.2.1) then(some true) else(if¬(j.2.2=h.2.2) then(some true) else((dI k j.1 h.1).bind fun pp=>
  if¬(pp=true) then(some true) else((aP e.1 c).bind fun F=>
  (jy k y F).bind fun mc=>
  if¬(mc=true) then(some true) else((aP e.2.1 c).bind fun E=>
  (gl k x E).bind fun ac=>
  some (!ac)))))):Option (Bool)).bind fun I=>
  if I=true then(some (.error false)) else((ck (c+1)).bind fun D=>
  de k a3 a4 e u s r l n D)) else(some (.ok ()))
def jg(k:Nat)(a0:aQ)(a1:eM)(a2:(List (List Int)))(a3:Int)(a4:Int)(a5:(List Int)):Option Bool:=
 (((nE k a0).bind fun r5=>
 if r5=true then(some true) else((nD k a2).bind fun r6=>
 if r6=true then(some true) else(some (decide (20 < (a1.2.length:Int)))))):Option (Bool)).bind fun x3=>
 if x3=true then((kL k).bind fun r7=>
 some r7) else((mU k a5).bind fun r8=>
 (lj k a0 a1 a2 (r8.1,r8.2.1,r8.2.2)).bind fun j=>
 (bW k (j.2.2.1,j.2.2.2.1,j.2.2.2.2) 2).bind fun h=>
 (bW k (h.2.1,h.2.2.1,h.2.2.2) 1).bind fun e=>
 (bW k (e.2.1,e.2.2.1,e.2.2.2) 4).bind fun c=>
 (bW k (c.2.1,c.2.2.1,c.2.2.2) 3).bind fun n=>
 bE (α:=Unit) (de k a3 a4 j h e c n k 0) (some) fun _=>
 (kL k).bind fun l=>
 some l)
theorem qw(k:Nat)(a0:aQ)(a1:eM)(a2:(List (List Int)))(a3:Int)(a4:Int)(a5:(List Int))(r:Bool)(h:jg k a0 a1 a2 a3 a4 a5=some r):
 dy (jC Tryz.prog) 5 [.rep av a0,.rep aZ a1,.rep (.slice (.slice (.int .i64))) a2,I a3,I a4,Ri a5] [.inv 0 (jv)] (fun _:Unit=>(bv [.eq (.bool r)],[.inv 0 (jv)])):=by
 unfold jg at h
 replace h:=a9 h
 refine dy.of 149 Tryz.func5 rfl Tryz.ntmps5 rfl fun S w0=>?_
 refine sr ?_
 refine bx fun b1=>?_
 refine bx fun b2=>?_
 refine cq ?_
 refine nt ?_
 refine ae ?_
 refine aL (Z:=Unit) (α:=Bool) (fun z4 x3=>[(2,.rep (.slice (.slice (.int .i64))) a2),(3,I a3),(4,I a4),(5,Ri a5),(6,Pt b1),(7,Pt b2),(38,.eq (.bool x3))]) (fun z4 x3=>[.obj b1 25 (.rep av a0),.obj b2 27 (.rep aZ a1),.inv 0 (jv)]) h (fun K h=>?_) (fun z4 x3 h=>?_)
 ·
  refine ab (fr 1 ?_);refine lo dQ ?_;obtain⟨r5,Vw,h⟩:=aa h;refine ja (ap [.tmp 27] rfl rfl TZ rfl (AB k a0 r5 Vw)) ?_;refine mq ?_;refine cm (s:=29) rfl (fun hb=>?_) (fun hb=>?_)
  ·replace h:=cE (BD hb) h;iterate 2 refine gn ?_
   refine pt ?_;refine mq ?_;iterate 4 refine gn ?_
   refine pt (nl ?_);exact jz ((),true) h [0,1,2]
  ·replace h:=bQ (BE hb) h;refine gm ?_;obtain⟨r6,Vv,h⟩:=aa h;refine ga (ap [.tmp 30] rfl rfl TY rfl (AA k a2 r6 Vv)) ?_;refine pf ?_;refine mq ?_;refine cm (s:=33) rfl (fun hb=>?_) (fun hb=>?_)
   ·replace h:=cE (BD hb) h;iterate 4 refine gn ?_
    refine pt (nl ?_);exact jz ((),true) h [0,1,2]
   ·replace h:=bQ (BE hb) h;refine ga (ar rfl kz) ?_;refine fr 1 ?_;refine jR rfl rfl rfl rfl rfl rfl (aj rfl bG jr rfl) ⟨rfl,trivial⟩ ?_;refine ga (jm rfl rfl dE) ?_;refine gb (iz rfl) ?_;refine pf (nl ?_);exact jz ((),decide (20 < (a1.2.length:Int))) h [1,0,2]
 ·
  refine cv h (fun h=>?_) (fun h=>?_)
  ·refine sr ?_;obtain⟨r7,Vu,h⟩:=aa h;refine fr 2 ?_;refine bY rfl rfl rfl (gy [] rfl rfl Q0 rfl (qF k r7 Vu)) trivial ?_;refine aq (nt (rx ?_));cases h;exact aO () [_] 1 ⟨rfl,trivial⟩ rfl
  ·refine sk (sr (mq ?_));obtain⟨r8,Vt,h⟩:=aa h;refine aF rfl rfl rfl (ap [.tmp 40] rfl rfl TX rfl (vE k a5 r8 Vt)) ⟨rfl,trivial⟩ fun b9=>?_;refine aq (nt (sr ?_));refine fr 1 ?_;refine lo dQ ?_;refine fr 2 ?_;refine lo kh ?_;iterate 2 refine mq ?_
   obtain⟨c,U1,h⟩:=aa h;refine fr 2 ?_;refine bY rfl rfl rfl (ap [.tmp 43,.tmp 44,.tmp 45,.tmp 46] rfl rfl TU rfl (vD k a0 a1 a2 (r8.1,r8.2.1,r8.2.2) b9 c U1)) ⟨rfl,rfl,rfl,rfl,trivial⟩ ?_;refine mq ?_;refine xr ?_;refine xr ?_;refine aq ?_;refine aq (nt (sr ?_));iterate 2 refine mq ?_
   obtain⟨u,U0,h⟩:=aa h;refine kb (ap [.tmp 51,.const (.int .i64 (2))] rfl rfl yN rfl (c9 k (c.2.2.1,c.2.2.2.1,c.2.2.2.2) b9 2 u U0)) ?_;iterate 2 refine mq ?_
   obtain⟨l,UZ,h⟩:=aa h;refine kb (ap [.tmp 54,.const (.int .i64 (1))] rfl rfl yN rfl (c9 k (u.2.1,u.2.2.1,u.2.2.2) b9 1 l UZ)) ?_;refine aE rfl (bi (t:=(.int .i64)) [(.tmp 50,_),(.tmp 52,_),(.tmp 53,_),(.tmp 55,_)] [a3,u.1,a3,l.1] rfl rfl dw (.cons rfl .int (.cons rfl .int (.cons rfl .int (.cons rfl .int .nil)))) rfl rfl) ⟨rfl,rfl,rfl,rfl,trivial⟩ ?_;iterate 2 refine mq ?_
   obtain⟨j,UY,h⟩:=aa h;refine kb (ap [.tmp 58,.const (.int .i64 (4))] rfl rfl yN rfl (c9 k (l.2.1,l.2.2.1,l.2.2.2) b9 4 j UY)) ?_;iterate 2 refine mq ?_
   obtain⟨x,UX,h⟩:=aa h;refine kb (ap [.tmp 61,.const (.int .i64 (3))] rfl rfl yN rfl (c9 k (j.2.1,j.2.2.1,j.2.2.2) b9 3 x UX)) ?_;refine aE rfl (bi (t:=(.int .i64)) [(.tmp 57,_),(.tmp 59,_),(.tmp 60,_),(.tmp 62,_)] [a4,j.1,a4,x.1] rfl rfl dw (.cons rfl .int (.cons rfl .int (.cons rfl .int (.cons rfl .int .nil)))) rfl rfl) ⟨rfl,rfl,rfl,rfl,trivial⟩ ?_;refine aq ?_;refine aq (nt ?_);refine dS (Z:=Unit) (α:=Unit) (fun Q U=>[]) (fun Q U=>[.inv 0 (jv)]) (fun e=>e=r) h (fun e h=>Option.some.inj h) (fun K hR h=>?_) (fun Q U h=>?_)
   ·refine sr (cq (nt (ao ?_)));refine aJ (fun O y=>[(14,Rs av c.1),(15,.rep (.slice (.slice (.slice (.int .i64)))) c.2.1),(16,Ri [a3,u.1,a3,l.1]),(17,Ri [a4,j.1,a4,x.1]),(18,I y)]) (fun O y=>[.inv 0 (jv)]) (de k a3 a4 c u l j x) k () 0 (fun _=>rfl) h (SE.fin [3] ⟨rfl,rfl,rfl,rfl,rfl,trivial⟩ rfl) (fun n O y h=>?_);unfold de at h;refine ae (sr ?_);iterate 2 refine mq ?_
    refine ol RP ?_;refine jb (bm rfl) ?_;refine nt (ci h (fun h=>?_) (fun h=>?_))
    ·refine sk (ae (ao (ae (jF ?_))));refine aH rfl rfl rfl (aK rfl) ⟨rfl,trivial⟩ ?_;refine aH rfl rfl rfl (aK rfl) ⟨rfl,trivial⟩ ?_;obtain⟨Vg,UO,h⟩:=aa h;refine aH rfl rfl rfl (aC (t:=av) rfl RP dQ UO) ⟨rfl,rfl,trivial⟩ ?_;refine aH rfl rfl rfl (ak (t:=av) rfl dQ rfl) ⟨rfl,trivial⟩ ?_;obtain⟨E,UW,h⟩:=aa h;refine aH rfl rfl rfl (ap [.tmp 73] rfl rfl QR rfl (tI k Vg E UW)) ⟨rfl,trivial⟩ ?_;refine aH rfl rfl rfl (aK rfl) ⟨rfl,trivial⟩ ?_;refine aH rfl rfl rfl (aK rfl) ⟨rfl,trivial⟩ ?_;obtain⟨Vf,UN,h⟩:=aa h;refine aH rfl rfl rfl (aC (t:=(.slice (.slice (.int .i64)))) rfl OA rK UN) ⟨rfl,rfl,trivial⟩ ?_;refine aH rfl rfl rfl (ak (t:=(.slice (.slice (.int .i64)))) rfl rK rfl) ⟨rfl,trivial⟩ ?_;obtain⟨D,UV,h⟩:=aa h;refine aH rfl rfl rfl (sL (ap [.tmp 78] rfl rfl QO rfl (tJ k Vf D UV))) ⟨rfl,trivial⟩ ?_;refine uJ (Ha 25 (.agg (.pair (I 0) (.pair (.eq (.slice none 0 0)) (.eq (.slice none 0 0)))))) (fun _=>rfl) rfl rfl rfl (bf rfl kE mF) trivial ?_;refine mB 11 [true,true,true,true,true,true,true,true,true,true,true] [20] [] [] rfl (by kernel_rfl) (by kernel_rfl) (by kernel_rfl) cD (fun vs hv hB=>?_);obtain⟨w0,VI,rfl,Vs⟩:=an hv;obtain⟨w1,VH,rfl,Vr⟩:=an Vs;obtain⟨w2,VG,rfl,Vq⟩:=an Vr;obtain⟨w3,VF,rfl,Vp⟩:=an Vq;obtain⟨w4,VE,rfl,Vo⟩:=an Vp;obtain⟨w5,VD,rfl,Vn⟩:=an Vo;obtain⟨w6,VC,rfl,Vm⟩:=an Vn;obtain⟨w7,VB,rfl,Vl⟩:=an Vm;obtain⟨w8,VA,rfl,Vk⟩:=an Vl;obtain⟨w9,Vy,rfl,pp⟩:=an Vk;obtain⟨Vz,Vx,rfl,mc⟩:=an pp;obtain rfl:=kw mc;obtain⟨J,rfl⟩:=B0 hB.2.2.2.2.2.2.2.2.2.2.1;refine⟨[0,1],[.inv 0 (jv),.obj J 25 (.agg (.pair (I 0) (.pair (.eq (.slice none 0 0)) (.eq (.slice none 0 0)))))],by kernel_rfl,by decide,?_⟩;refine i9 1 rfl ?_;refine ov rfl rfl (be rfl dQ rfl rfl rfl) ⟨rfl,rfl,trivial⟩ (by kernel_rfl) ?_;refine pI rfl rfl rfl rfl (fC rfl) ⟨rfl,trivial⟩ (by kernel_rfl) ?_;refine pJ ?_;refine bC (SE.fin (Γ':=[(14,Rs av c.1),(15,.rep (.slice (.slice (.slice (.int .i64)))) c.2.1),(16,Ri [a3,u.1,a3,l.1]),(17,Ri [a4,j.1,a4,x.1]),(18,I y),(19,Pt J),(20,.rep (.slice (.slice (.int .i64))) D)]) (Δ':=[.obj J 25 (.rep av E),.inv 0 (jv)]) [0,1] ⟨rfl,rfl,rfl,rfl,rfl,rfl,rfl,trivial⟩ rfl) ?_;refine tn (ae (bJ ?_));refine ea 0 (aj rfl dQ (uD) rfl) ?_;refine dm ?_;refine dm ?_;refine dm ?_;obtain⟨Ve,UM,h⟩:=aa h;refine db (aC (t:=(.int .i64)) rfl dE co UM) ?_;refine da (ak (t:=(.int .i64)) rfl co rfl) ?_;refine dm ?_;refine dm ?_;obtain⟨Vd,UL,h⟩:=aa h;refine db (aC (t:=(.int .i64)) rfl dE co UL) ?_;refine da (ak (t:=(.int .i64)) rfl co rfl) ?_;obtain⟨ac,UU,h⟩:=aa h;refine nb 1 rfl rfl rfl rfl (gy [.tmp 81,.tmp 82,.tmp 86,.tmp 90] rfl rfl QJ rfl (qB k E D Ve Vd ac UU)) ⟨rfl,rfl,rfl,rfl,trivial⟩ ?_;refine dm ?_;refine da (dk rfl rfl) ?_;refine da (dk rfl rfl) ?_;refine da (dk rfl rfl) ?_;refine da (fC rfl) ?_;refine da (fC rfl) ?_;refine df cD ?_;refine aq (nt (ae ?_));refine bJ ?_;refine dm ?_;refine dm ?_;obtain⟨Vb,UK,h⟩:=aa h;refine db (aC (t:=av) rfl RP dQ UK) ?_;refine da (ak (t:=av) rfl dQ rfl) ?_;refine dm ?_;refine dm ?_;obtain⟨Va,UJ,h⟩:=aa h
     refine db (aC (t:=(.slice (.slice (.int .i64)))) rfl OA rK UJ) ?_;refine da (ak (t:=(.slice (.slice (.int .i64)))) rfl rK rfl) ?_;refine dm ?_;refine dm ?_;obtain⟨U8,UI,h⟩:=aa h;refine db (aC (t:=(.int .i64)) rfl dE co UI) ?_;refine da (ak (t:=(.int .i64)) rfl co rfl) ?_;refine dm ?_;refine dm ?_;obtain⟨U7,UH,h⟩:=aa h;refine db (aC (t:=(.int .i64)) rfl dE co UH) ?_;refine da (ak (t:=(.int .i64)) rfl co rfl) ?_;obtain⟨Y,UT,h⟩:=aa h;refine dx rfl rfl rfl (ap [.tmp 99,.tmp 103,.tmp 107,.tmp 111] rfl rfl TM rfl (wy k Vb Va U8 U7 Y UT)) ⟨rfl,rfl,rfl,rfl,trivial⟩ ?_;refine dm ?_;refine da (dk rfl rfl) ?_;refine da (dk rfl rfl) ?_;refine da (dk rfl rfl) ?_;refine da (fC rfl) ?_;refine da (fC rfl) ?_;refine df cD ?_;refine aq (nt ?_);refine aL (Z:=Unit) (α:=Bool) (fun M F=>[(14,Rs av c.1),(15,.rep (.slice (.slice (.slice (.int .i64)))) c.2.1),(16,Ri [a3,u.1,a3,l.1]),(17,Ri [a4,j.1,a4,x.1]),(18,I y),(147,.eq (.bool F))]) (fun M F=>[.inv 0 (jv)]) h (fun K h=>?_) (fun M F h=>?_)
     ·refine bJ ?_;refine dm ?_;refine dm ?_;refine db (iy rfl) ?_;refine kZ rfl rfl rfl (aK rfl) ⟨rfl,trivial⟩ (fun hb=>?_) (fun hb=>?_)
      ·replace h:=cE (KH hb) h;iterate 3 refine dg ?_
       refine db (jx rfl) ?_;refine dm ?_;iterate 4 refine dg ?_
       refine db (jx rfl) ?_;refine dm ?_;iterate 7 refine dg ?_
       refine db (jx rfl) ?_;refine dm ?_;iterate 5 refine dg ?_
       refine df cD ?_;iterate 2 refine gn ?_
       refine pt (nl ?_);exact jz ((),true) h [1]
      ·replace h:=bQ (yw hb) h;refine aX rfl rfl rfl rfl rfl (aK rfl) ⟨rfl,rfl,trivial⟩ ?_;refine aX rfl rfl rfl rfl rfl (aK rfl) ⟨rfl,rfl,trivial⟩ ?_;refine aX rfl rfl rfl rfl rfl (iy rfl) ⟨rfl,rfl,rfl,trivial⟩ ?_;refine db (mh rfl) ?_;refine kZ rfl rfl rfl (aK rfl) ⟨rfl,trivial⟩ (fun hb=>?_) (fun hb=>?_)
       ·replace h:=cE (KH hb) h;iterate 4 refine dg ?_
        refine db (jx rfl) ?_;refine dm ?_;iterate 7 refine dg ?_
        refine db (jx rfl) ?_;refine dm ?_;iterate 5 refine dg ?_
        refine df cD ?_;iterate 2 refine gn ?_
        refine pt (nl ?_);exact jz ((),true) h [1]
       ·replace h:=bQ (yw hb) h;refine aX rfl rfl rfl rfl rfl (aK rfl) ⟨rfl,rfl,trivial⟩ ?_;refine aX rfl rfl rfl rfl rfl (aK rfl) ⟨rfl,rfl,trivial⟩ ?_;obtain⟨Vj,US,h⟩:=aa h;refine aX rfl rfl rfl rfl rfl (ap [.tmp 125,.tmp 126] rfl rfl FQ rfl (fS k ac.1 Y.1 Vj US)) ⟨rfl,rfl,rfl,trivial⟩ ?_;refine aX rfl rfl rfl rfl rfl (dX rfl) ⟨rfl,rfl,trivial⟩ ?_;refine db (mh rfl) ?_;refine kZ rfl rfl rfl (aK rfl) ⟨rfl,trivial⟩ (fun hb=>?_) (fun hb=>?_)
        ·replace h:=cE (CE hb) h;iterate 7 refine dg ?_
         refine db (jx rfl) ?_;refine dm ?_;iterate 5 refine dg ?_
         refine df cD ?_;iterate 2 refine gn ?_
         refine pt (nl ?_);exact jz ((),true) h [1]
        ·replace h:=bQ (vx hb) h;refine jL 0 rfl rfl rfl rfl rfl rfl (aj rfl dQ (uD) rfl) ⟨rfl,rfl,trivial⟩ ?_;refine aX rfl rfl rfl rfl rfl (aK rfl) ⟨rfl,rfl,trivial⟩ ?_;refine aX rfl rfl rfl rfl rfl (aK rfl) ⟨rfl,rfl,trivial⟩ ?_;obtain⟨U6,UG,h⟩:=aa h;refine aX rfl rfl rfl rfl rfl (aC (t:=av) rfl RP dQ UG) ⟨rfl,rfl,rfl,trivial⟩ ?_;refine aX rfl rfl rfl rfl rfl (ak (t:=av) rfl dQ rfl) ⟨rfl,rfl,trivial⟩ ?_;obtain⟨Vi,UR,h⟩:=aa h;refine aX rfl rfl rfl rfl rfl (ap [.tmp 131,.tmp 135] rfl rfl TO rfl (tG k E U6 Vi UR)) ⟨rfl,rfl,rfl,trivial⟩ ?_;refine aX rfl rfl rfl rfl rfl (dX rfl) ⟨rfl,rfl,trivial⟩ ?_;refine db (mh rfl) ?_;refine kZ rfl rfl rfl (aK rfl) ⟨rfl,trivial⟩ (fun hb=>?_) (fun hb=>?_)
         ·replace h:=cE (CE hb) h;iterate 5 refine dg ?_
          refine df cD ?_;iterate 2 refine gn ?_
          refine pt (nl ?_);exact jz ((),true) h [1]
         ·replace h:=bQ (vx hb) h;refine aX rfl rfl rfl rfl rfl (aK rfl) ⟨rfl,rfl,trivial⟩ ?_;refine aX rfl rfl rfl rfl rfl (aK rfl) ⟨rfl,rfl,trivial⟩ ?_;refine aX rfl rfl rfl rfl rfl (aK rfl) ⟨rfl,rfl,trivial⟩ ?_;obtain⟨U4,se,h⟩:=aa h;refine aX rfl rfl rfl rfl rfl (aC (t:=(.slice (.slice (.int .i64)))) rfl OA rK se) ⟨rfl,rfl,rfl,trivial⟩ ?_;refine aX rfl rfl rfl rfl rfl (ak (t:=(.slice (.slice (.int .i64)))) rfl rK rfl) ⟨rfl,rfl,trivial⟩ ?_;refine df cD ?_;obtain⟨X,UQ,h⟩:=aa h;refine gb (ap [.tmp 140,.tmp 144] rfl rfl Oc rfl (kN k D U4 X UQ)) ?_;refine ga (dX rfl) ?_;refine pf (nl ?_);exact jz ((), !X) h [1]
     ·refine cv h (fun h=>?_) (fun h=>?_)
      ·refine sr (cq (nt (aA (br (bj (aV ?_))))));obtain rfl:=hR _ h;exact aO () [_] 1 ⟨rfl,trivial⟩ rfl
      ·refine aW (aM (tn (ab (mq ?_))));obtain⟨U2,qt,h⟩:=aa h;refine jb (bb rfl qt) ?_;refine aq (nl ?_);exact jz ((),U2) h [0]
    ·refine xa ?_;exact jz ((),()) h [0]
   ·refine sr ?_;obtain⟨Vh,UP,h⟩:=aa h;refine bY rfl rfl rfl (gy [] rfl rfl Q0 rfl (qF k Vh UP)) trivial ?_;refine aq (nt (aA ?_));cases h;exact aO () [_] 1 ⟨rfl,trivial⟩ rfl
end Go.Proofs.YtghkncjelangeaaGreatDoor
