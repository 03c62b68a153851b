import Derived.Test.YtcnpijmfgfnpiaaGreatDoorXZB10
import Derived.Test.YtcnpijmfgfnpiaaGreatDoorXZB8
import Derived.Test.YtcnpijmfgfnpiaaGreatDoorXZB9
import Derived.Test.YtcnpijmfgfnpiaaGreatDoorXZB5
import Derived.Test.YtcnpijmfgfnpiaaGreatDoorXZCore48
set_option linter.unusedSimpArgs false
set_option linter.unusedVariables false
set_option maxRecDepth 4000
set_option maxHeartbeats 1000000
namespace Go.Proofs.YtcnpijmfgfnpiaaGreatDoor
open K Go Go.Proofs
def cG(k:Nat)(a0:bh)(a1:(List (List Int))):Option Int:=
 (kA k a0).bind fun r2=>
 if¬(r2=0) then(some r2) else((kz k a0 a1).bind fun r4=>
 (Qg r4).bind fun q5=>
 if q5.isSome=true then(some (q5.getD 0)) else(some 0))
theorem fA(k:Nat)(a0:bh)(a1:(List (List Int)))(r:Int)(h:cG k a0 a1=some r):
 co Tryz.prog 35 [.rep aH a0,.rep (.slice (.slice (.int .i64))) a1] [.inv 0 (gx)] (fun _:Unit=>(bz [I r],[.inv 0 (gx)])):=by
 unfold cG at h
 replace h:=be h
 refine co.of 19 Tryz.func35 rfl Tryz.ntmps35 rfl fun S w0=>?_
 refine sr ?_
 refine bx fun b1=>?_
 refine cq ?_
 refine nt ?_
 refine ah ?_
 refine sr ?_
 refine lo fE ?_
 obtain⟨r2,e,h⟩:=ab h
 have l:=qI k a0 r2 e
 refine ja (an [.tmp 7] rfl rfl OZ rfl l) ?_
 refine aq ?_
 refine nt ?_
 refine sr ?_
 refine mq ?_
 refine jb (kf rfl) ?_
 refine nt ?_
 refine cn h (fun h=>?_) (fun h=>?_)
 ·
  refine sr (mq ?_);refine aq (nt (rx ?_));refine bN (SE.fin (Γ':=[(4,_)]) [1,0] ⟨rfl,trivial⟩ rfl) ?_;cases h;exact aK () [_] 1 ⟨rfl,trivial⟩ rfl
 ·
  refine sk (sr (aB rfl rfl rfl (aS rfl tK PV) trivial fun b3=>?_));refine nt (ah (sr (fr 1 ?_)));refine lo fE ?_;refine mq ?_;obtain⟨r4,c,h⟩:=ab h;refine jb (an [.tmp 12,.tmp 13] rfl rfl QR rfl (qC k a0 a1 r4 c)) ?_;refine ja (FK rfl Rb) ?_;obtain⟨q5,j,h⟩:=ab h;refine fr 2 ?_;refine fr 2 ?_;refine bG (Δ:=[_,_]) (F:=_) (fun _ _ _=>au rfl _) rfl rfl (an [.tmp 14,.tmp 15] rfl rfl OT rfl (PO j)) ⟨rfl,rfl,trivial⟩ fun _=>?_;refine nt (cv h (fun h=>?_) (fun h=>?_))
  ·refine sr (fl Jj ?_);refine lo Qs ?_;refine aq (nt (rx ?_));refine bN (SE.fin (Γ':=[(4,_)]) [1,0,2] ⟨rfl,trivial⟩ rfl) ?_;cases h;exact aK () [_] 1 ⟨rfl,trivial⟩ rfl
  ·refine sk (sr (cq (nt (aC ?_))));refine bN (SE.fin (Γ':=[(4,_)]) [1,0,2] ⟨rfl,trivial⟩ rfl) ?_;cases h;exact aK () [_] 1 ⟨rfl,trivial⟩ rfl
def mP(k:Nat)(a0:bh)(r7:Int×(List (List Int))):Nat→((List Int)×Int)→Option (List Int)
 |0,_=>none
 |n+1,c=>
  if c.2 < (a0.2.1.length:Int) then((((dB k r7.1 c.2).bind fun j=>
  if j=true then((eK (bR (List.length c.1+List.length [c.2]))).bind fun _=>
  some (c.1++[c.2])) else(some c.1)):Option ((List Int))).bind fun h=>
  (ck (c.2+1)).bind fun e=>
  mP k a0 r7 n (h,e)) else(some c.1)
def wO(k:Nat)(a0:bh)(a1:(List (List Int)))(a2:Int):Option ((List Int)×(List (List Int))×Int):=
 (cG k a0 a1).bind fun r2=>
 if¬(r2=0) then(some ([],[],r2)) else((ck (a0.1 - 1)).bind fun x3=>
 (dP k a2 0 x3).bind fun r4=>
 if¬(r4=true) then(some ([],[],3)) else((dC k a1).bind fun r6=>
 (kl k (a0,()) r6 a2).bind fun r7=>
 ((mP k a0 r7 k (([]:(List Int)),0)):Option ((List Int))).bind fun x9=>
 (eF k (a0,()) r7.2).bind fun c=>
 some (x9,c,0)))
theorem Ag(k:Nat)(a0:bh)(a1:(List (List Int)))(a2:Int)(r:(List Int)×(List (List Int))×Int)(h:wO k a0 a1 a2=some r):
 co Tryz.prog 31 [.rep aH a0,.rep (.slice (.slice (.int .i64))) a1,I a2] [.inv 0 (gx)] (fun _:Unit=>(bz [Ri r.1,.rep (.slice (.slice (.int .i64))) r.2.1,I r.2.2],[.inv 0 (gx)])):=by
 unfold wO at h
 replace h:=be h
 refine co.of 55 Tryz.func31 rfl Tryz.ntmps31 rfl fun S w0=>?_
 refine sr ?_
 refine bx fun b1=>?_
 refine cq ?_
 refine cq ?_
 refine cq ?_
 refine nt ?_
 refine ah ?_
 refine sr ?_
 refine lo fE ?_
 refine mq ?_
 obtain⟨r2,ac,h⟩:=ab h
 have mc:=fA k a0 a1 r2 ac
 refine fr 1 ?_
 refine kb (an [.tmp 15,.tmp 16] rfl rfl MA rfl mc) ?_
 refine aq ?_
 refine nt ?_
 refine sr ?_
 refine mq ?_
 refine jb (kf rfl) ?_
 refine nt ?_
 refine cn h (fun h=>?_) (fun h=>?_)
 ·
  refine sr (mq ?_);refine cq ?_;refine cq ?_;refine aq (nt (rx ?_));refine bN (m9 (t:=(.slice (.int .i64))) (x:=[]) 6 rfl .nil rfl rfl) ?_;refine bN (m9 (t:=(.slice (.slice (.int .i64)))) (x:=[]) 7 rfl .nil rfl rfl) ?_;cases h;exact aK () [_,_,_] 1 ⟨rfl,rfl,rfl,trivial⟩ rfl
 ·
  refine sk (ah (sr (mq ?_)));refine fl gy ?_;refine fr 1 ?_;refine lo dJ ?_;obtain⟨x3,Q,h⟩:=ab h;refine jb (fH rfl Q) ?_;obtain⟨r4,Y,h⟩:=ab h;refine jc (an [.tmp 21,.const (.int .i64 (0)),.tmp 24] rfl rfl zu rfl (d6 k a2 0 x3 r4 Y)) ?_;refine ja (fJ rfl) ?_;refine nt (cw h (fun h=>?_) (fun h=>?_))
  ·refine sr (cq ?_);refine cq ?_;refine cq (nt (rx ?_));refine bN (m9 (t:=(.slice (.int .i64))) (x:=[]) 6 rfl .nil rfl rfl) ?_;refine bN (m9 (t:=(.slice (.slice (.int .i64)))) (x:=[]) 7 rfl .nil rfl rfl) ?_;refine bN (SE.fin (Γ':=[(6,_),(7,_),(8,_)]) [1,0] ⟨rfl,rfl,rfl,trivial⟩ rfl) ?_;cases h;exact aK () [_,_,_] 1 ⟨rfl,rfl,rfl,trivial⟩ rfl
  ·refine sk (sr (lo fE ?_));refine aB rfl rfl rfl (an [.tmp 27] rfl rfl Jp rfl (gX a0)) ⟨rfl,trivial⟩ fun z5=>?_;refine bX (kE (bu k a0) mB) ?_;refine aq (nt (sr ?_));iterate 2 refine mq ?_
   obtain⟨r6,X,h⟩:=ab h;refine ja (an [.tmp 31] rfl rfl D9 rfl (eG k a1 r6 X)) ?_;refine mq ?_;obtain⟨r7,U,h⟩:=ab h;refine jc (cP (N:=[(.tmp 30,.at ap (a0,(.map (some z5)))),(.tmp 32,.rep (.arr 3 (.arr 5 (.int .i64))) r6),(.tmp 33,I a2)]) (an [.tmp 30,.tmp 32,.tmp 33] rfl rfl OU rfl (nk k (a0,()) r6 a2 r7 U)) fun _ _ _ hn=>⟨(sG hn.1),hn.2.1,hn.2.2.1,trivial⟩) ?_;refine mq ?_;refine xr ?_;refine xr ?_;refine aB rfl rfl rfl (aS rfl l7 mH) trivial fun b8=>?_;refine aq ?_;refine aX rfl rfl (aP rfl cQ rfl rfl rfl) ⟨rfl,rfl,trivial⟩ ?_;refine nt (sr (cq (nt ?_)));refine aW (Z:=Value) (α:=(List Int)) (fun l x9=>[(10,.at ap (a0,(.map (some z5)))),(12,Pt b8),(13,.eq l)]) (fun l x9=>[.obj b8 107 (.rep (.arr 3 (.arr 5 (.int .i64))) r7.2),.sl l 3 (.int .i64) x9,.inv 0 (gx),.inv z5 (bu k a0)]) h (fun K h=>?_) (fun l x9 h=>?_)
   ·refine sr (fl du ?_);refine fr 2 ?_;refine lo jt ?_;refine ol ta ?_;refine eB rfl ?_;refine nt (ao (fX (SE.nil 3 (.int .i64)) ?_));refine aR (fun e c=>[(10,.at ap (a0,(.map (some z5)))),(11,.eq (.int .u8 r7.1)),(12,Pt b8),(13,.eq e),(39,I (a0.2.1.length:Int)),(40,I c.2)]) (fun e c=>[.obj b8 107 (.rep (.arr 3 (.arr 5 (.int .i64))) r7.2),.sl e 3 (.int .i64) c.1,.inv 0 (gx),.inv z5 (bu k a0)]) (mP k a0 r7) k (.slice none 0 0) (([]:(List Int)),0) (fun _=>rfl) h (SE.fin [2,0,4,3] ⟨rfl,rfl,rfl,rfl,rfl,rfl,trivial⟩ rfl) (fun n e c h=>?_);unfold mP at h;refine sr (jb (bJ rfl) ?_);refine nt (ah (ci h (fun h=>?_) (fun h=>?_)))
    ·refine sk (aW (Z:=Value) (α:=(List Int)) (fun j s=>[(10,.at ap (a0,(.map (some z5)))),(11,.eq (.int .u8 r7.1)),(12,Pt b8),(13,.eq j),(39,I (a0.2.1.length:Int)),(40,I c.2)]) (fun j s=>[.obj b8 107 (.rep (.arr 3 (.arr 5 (.int .i64))) r7.2),.sl j 3 (.int .i64) s,.inv 0 (gx),.inv z5 (bu k a0)]) h (fun K h=>?_) (fun j s h=>?_))
     ·refine ao (sr (mq ?_));refine aq (nt (sr ?_));iterate 2 refine mq ?_
      obtain⟨O,E,h⟩:=ab h;refine jb (an [.tmp 43,.tmp 44] rfl rfl Jo rfl (gW k r7.1 c.2 O E)) ?_;refine nt (cv h (fun h=>?_) (fun h=>?_))
      ·refine aa ?_;iterate 2 refine mq ?_
       refine ja (bq (t:=(.int .i64)) [(.tmp 47,_)] [c.2] rfl rfl fq (.cons rfl .int .nil) rfl rfl) ?_;obtain⟨u16,y,h⟩:=ab h;refine fr 1 ?_;refine dG rfl rfl rfl (cC rfl rfl fq (aE y)) ⟨rfl,rfl,trivial⟩ fun J=>?_;refine aq (ak (bn ?_));exact jz (J,c.1++[c.2]) h [1,0,2,3]
      ·refine aV (bn ?_);exact jz (e,c.1) h [0,1,2,3]
     ·refine aa ?_;obtain⟨F,u,h⟩:=ab h;refine jb (bD rfl u) ?_;refine mq (nl ?_);exact jz (j,(s,F)) h [0,1,2,3]
    ·refine xa ?_;exact jz (e,c.1) h [0,1,2,3]
   ·refine sr ?_;iterate 2 refine mq ?_
    refine lo cQ ?_;obtain⟨M,D,h⟩:=ab h;refine aB rfl rfl rfl (cP (N:=[(.tmp 52,.at ap (a0,(.map (some z5)))),(.tmp 53,.rep (.arr 3 (.arr 5 (.int .i64))) r7.2)]) (an [.tmp 52,.tmp 53] rfl rfl Mc rfl (i7 k (a0,()) r7.2 M D)) fun _ _ _ hn=>⟨(sG hn.1),hn.2.1,trivial⟩) ⟨rfl,rfl,trivial⟩ fun pp=>?_;refine aq ?_;refine aq ?_;refine cq (nt (aC ?_));refine eP 2 rfl ?_;refine bN (ix [6,13,51] ⟨rfl,rfl,rfl,trivial⟩) ?_;refine bN (ix [7,54] ⟨rfl,rfl,trivial⟩) ?_;refine bN (SE.fin (Γ':=[(6,_),(7,_),(8,_)]) [1,0,2] ⟨rfl,rfl,rfl,trivial⟩ rfl) ?_;cases h;exact aK () [_,_,_] 1 ⟨rfl,rfl,rfl,trivial⟩ rfl
theorem i8(k:Nat)(a0:bh)(z_a0:Nat)(a1:(List (List Int)))(r:Int)(h:cy k a0 a1=some r):
 dc (iu Tryz.prog) 111 [.at ap (a0,(.map (some z_a0))),.rep (.arr 3 (.arr 5 (.int .i64))) a1] [.inv z_a0 (bu k a0)] (fun _:Unit=>(bz [I r],[.inv z_a0 (bu k a0)])):=by
 have h0:=h
 unfold cy at h
 replace h:=be h
 obtain⟨u1,eg,h⟩:=ab h
 have hg:=aE eg
 have gk:=GK hg
 refine dc.of 28 Tryz.func111 rfl Tryz.ntmps111 rfl fun S w0=>?_
 refine sr ?_
 refine bx fun b1=>?_
 refine cq ?_
 refine nt ?_
 refine ah ?_
 refine iD 1 rfl ?_
 refine Bm fun ob hob=>?_
 obtain⟨lnn,lbb,hlR,hlk⟩:=xh (z:=z_a0) P0 KX zj gk DT hob
 refine cm ?_
 refine dm ?_
 refine da (dn rfl) ?_
 refine da (aI 1 false rfl B0 rfl) ?_
 refine da (ar (t:=.val) rfl Ks rfl) ?_
 refine ea 1 (aj rfl cQ (vR) rfl) ?_
 refine eb 0 (DC (kv:=kg a1) (vW _) (ll.calm hob) rfl (fun _ _ _ hh=>uq hh) hlk) ?_
 refine dm ?_
 refine da (gq rfl rfl) ?_
 refine da (gq rfl rfl) ?_
 refine da (jO rfl) ?_
 refine df fN ?_
 refine aq ?_
 refine nt ?_
 refine ah ?_
 refine sr ?_
 refine mq ?_
 refine ja (fJ rfl) ?_
 refine nt ?_
 refine fX (kE (bu k a0) hob) ?_
 refine bm rfl (fun hb=>?_) (fun hb=>?_)
 ·
  refine sr (mq ?_);refine fr 1 ?_;refine lo cQ ?_;obtain⟨r2,c,h⟩:=ab h;refine jc (cP (N:=[(.tmp 18,.at ap (a0,(.map (some z_a0)))),(.tmp 19,.rep (.arr 3 (.arr 5 (.int .i64))) a1),(.const (.int .i64 (0)),I 0)]) (fh [.tmp 18,.tmp 19,.const (.int .i64 (0))] rfl rfl KR rfl (lA k (a0,()) a1 0 r2 c)) fun _ _ _ hn=>⟨(sG hn.1),hn.2.1,hn.2.2.1,trivial⟩) ?_;refine aq (nt ?_);refine cm ?_;refine dm ?_;refine da (dn rfl) ?_;refine da (aI 1 false rfl B0 rfl) ?_;refine da (ar (t:=.val) rfl Ks rfl) ?_;refine ea 0 (aj rfl cQ (vR) rfl) ?_;refine dm ?_;refine df fN ?_;refine fr 1 ?_;have hl:cy k a0 a1=some r2:=h0.trans (show some r=some r2 from h.symm);refine aX rfl rfl (yK (kv:=kg a1) (vW _) rfl P0 zj (fun _ _ _ hh=>uq hh) gk ⟨a1,hg,rfl,hl⟩) ⟨rfl,rfl,rfl,trivial⟩ ?_;refine nt (sr (mq ?_));refine aq (nt (aC ?_));cases h;exact aK () [_] 1 ⟨rfl,trivial⟩ rfl
 ·
  obtain⟨p,hp,he,hl⟩:=hlR (by simpa using hb);obtain rfl:=vX hg hp he;replace h:some lnn=some r:=hl.symm.trans h0;refine sk (sr (mq ?_));refine aq (nt (aC ?_));cases h;exact aK () [_] 1 ⟨rfl,trivial⟩ rfl
def oN(k:Nat)(a0:bh)(a1:(List (List Int))):Option (Int×Int):=
 (cG k a0 a1).bind fun r2=>
 if¬(r2=0) then(some (0,r2)) else((dC k a1).bind fun r4=>
 (cy k a0 r4).bind fun r5=>
 some (r5,0))
theorem qH(k:Nat)(a0:bh)(a1:(List (List Int)))(r:Int×Int)(h:oN k a0 a1=some r):
 dc (iu Tryz.prog) 48 [.rep aH a0,.rep (.slice (.slice (.int .i64))) a1] [.inv 0 (gx)] (fun _:Unit=>(bz [I r.1,I r.2],[.inv 0 (gx)])):=by
 unfold oN at h
 replace h:=be h
 refine dc.of 18 Tryz.func48 rfl Tryz.ntmps48 rfl fun S w0=>?_
 refine sr ?_
 refine bx fun b1=>?_
 refine cq ?_
 refine cq ?_
 refine nt ?_
 refine ah ?_
 refine sr ?_
 refine lo fE ?_
 refine mq ?_
 obtain⟨r2,j,h⟩:=ab h
 have l:=fA k a0 a1 r2 j
 refine fr 1 ?_
 refine kb (an [.tmp 7,.tmp 8] rfl rfl MA rfl l) ?_
 refine aq ?_
 refine nt ?_
 refine sr ?_
 refine mq ?_
 refine jb (kf rfl) ?_
 refine nt ?_
 refine cn h (fun h=>?_) (fun h=>?_)
 ·
  refine sr (mq ?_);refine cq ?_;refine aq (nt (rx ?_));cases h;exact aK () [_,_] 1 ⟨rfl,rfl,trivial⟩ rfl
 ·
  refine sk (sr (fr 1 ?_));refine lo fE ?_;refine aB rfl rfl rfl (an [.tmp 13] rfl rfl Jp rfl (gX a0)) ⟨rfl,trivial⟩ fun z3=>?_;refine bX (kE (bu k a0) mB) ?_;refine mq ?_;obtain⟨r4,e,h⟩:=ab h;refine ja (an [.tmp 15] rfl rfl D9 rfl (eG k a1 r4 e)) ?_;obtain⟨r5,c,h⟩:=ab h;refine kb (fh [.tmp 14,.tmp 16] rfl rfl KP rfl (i8 k a0 z3 r4 r5 c)) ?_;refine aq ?_;refine cq (nt (aC ?_));refine bN (SE.fin (Γ':=[(4,_),(5,_)]) [2,0,1] ⟨rfl,rfl,trivial⟩ rfl) ?_;cases h;exact aK () [_,_] 1 ⟨rfl,rfl,trivial⟩ rfl
set_option maxRecDepth 20000
set_option maxHeartbeats 4000000
@[reducible] def eE:Ty:=.agg (.pair (.int .i64) (.int .i64))
def OK(x:Int×Int):Value:=.agg #[.int .i64 x.1,.int .i64 x.2]
theorem Jl{S:FS}{w:World}{x:Int×Int}:(A.rep eE x).holds S w (OK x):=⟨[_,_],⟨[_],[_],rfl,rfl,rfl⟩,rfl⟩
theorem G8{S:FS}{w:World}{x:Int×Int}{v:Value}(h:(A.rep eE x).holds S w v):(A.eq (OK x)).holds S w v:=by
 obtain⟨cs,⟨c1,c2,rfl,h1,h2⟩,rfl⟩:=h;have h1:c1=_:=h1;have h2:c2=_:=h2;subst h1 h2;rfl
theorem fZ:dp Tryz.prog 131 2 true:=⟨fun w=>by kernel_rfl,fun w=>by kernel_rfl⟩
theorem nm:dp Tryz.prog 28 1 false:=⟨fun w=>by kernel_rfl,fun w=>by kernel_rfl⟩
theorem By:dp Tryz.prog 23 1 false:=⟨fun w=>by kernel_rfl,fun w=>by kernel_rfl⟩
theorem tf:dp Tryz.prog 3 1 false:=⟨fun w=>by kernel_rfl,fun w=>by kernel_rfl⟩
theorem E2:dp Tryz.prog 102 1 false:=⟨fun w=>by kernel_rfl,fun w=>by kernel_rfl⟩
theorem LP:aN Tryz.prog 131 0 0:=aN.of (by kernel_rfl)
theorem LO:aN Tryz.prog 131 1 1:=aN.of (by kernel_rfl)
theorem OJ:aN Tryz.prog 128 0 0:=aN.of (by kernel_rfl)
theorem tj:aN Tryz.prog 128 1 1:=aN.of (by kernel_rfl)
theorem xF:ag Tryz.prog 136:=ag.of Tryz.func136 (by kernel_rfl) (by kernel_rfl)
def iQ(x:Int×Int)(m:Int):Nat→Int×List Int→Option (List Int)
 |0,_=>none
 |n+1,q=>if q.1 < m then((bv q.2 q.1).bind fun c=>if c=x.1 then(ck (q.1+1)).bind fun w=>iQ x m n (w,q.2.set q.1.toNat x.2) else if c=x.2 then(ck (q.1+1)).bind fun w=>iQ x m n (w,q.2.set q.1.toNat x.1) else(ck (q.1+1)).bind fun w=>iQ x m n (w,q.2)) else some q.2
def jM(k:Nat)(x:Int×Int)(m:Int):Nat→Int×List (List Int)→Option (List (List Int))
 |0,_=>none
 |n+1,q=>if q.1 < m then((bv q.2 q.1).bind fun l=>(iQ x (l.length:Int) k (0,l)).bind fun l2=>(ck (q.1+1)).bind fun w=>jM k x m n (w,q.2.set q.1.toNat l2)) else some q.2
def mb(k:Nat)(x:Int×Int)(ls:List (List Int)):Option (List (List Int)):=jM k x (ls.length:Int) k (0,ls)
theorem lz(k:Nat)(x:Int×Int)(ls r:List (List Int))(y:Nat)(d0:ap.den)(z:Value×(Nat→Value))(h:mb k x ls=some r):
 co Tryz.prog 136 [.eq (bP y),.rep eE x] ([.obj y 128 (.agg (.pair (.at ap d0) (.eq z.1)))]++iS 23 z ls) (fun _:Unit=>(bz [],[.obj y 128 (.agg (.pair (.at ap d0) (.eq z.1)))]++iS 23 z r)):=by
 unfold mb at h
 replace h:=be h
 refine co.of 45 Tryz.func136 rfl Tryz.ntmps136 rfl fun S w0=>?_
 refine sr ?_
 refine bx fun b3=>?_
 refine nt ?_
 refine sr ?_
 refine mq ?_
 refine ja (aQ rfl) ?_
 refine fl tj ?_
 refine fr 1 ?_
 refine lo nm ?_
 refine bX (CG (pre:=[.obj y 128 (.agg (.pair (.at ap d0) (.eq z.1))),.obj b3 131 (.rep eE x)])) ?_
 refine ka (eV rfl rfl s9) ?_
 rw [gI]
 refine bX (Ek (pre:=[.obj y 128 (.agg (.pair (.at ap d0) (.eq z.1))),.obj b3 131 (.rep eE x)])) ?_
 refine eB rfl ?_
 refine nt ?_
 refine ao ?_
 refine aR (Z:=Unit) (α:=Int×List (List Int)) (fun _ q=>[(3,.eq (bP b3)),(11,.eq z.1),(12,I (ls.length:Int)),(13,I q.1)]) (fun _ q=>[.obj y 128 (.agg (.pair (.at ap d0) (.eq z.1))),.obj b3 131 (.rep eE x)]++iS 23 z q.2) (jM k x (ls.length:Int)) k () (0,ls) (fun _=>rfl) h (bB [.obj y 128 (.agg (.pair (.at ap d0) (.eq z.1))),.obj b3 131 (.rep eE x)] (iS 23 z ls) [0,1] ⟨rfl,rfl,rfl,rfl,trivial⟩ rfl) (fun n u q h=>?_)
 unfold jM at h
 refine sr ?_
 refine jb (bJ rfl) ?_
 refine nt ?_
 refine ah ?_
 refine bm rfl (fun hb=>?_) (fun hb=>?_)
 ·
  replace h:=cZ (pH hb) h;refine sk (ah (ao ?_));obtain⟨l,el,h⟩:=ab h;refine fX (Ej (pre:=[.obj y 128 (.agg (.pair (.at ap d0) (.eq z.1))),.obj b3 131 (.rep eE x)]) (BU el).2) ?_;refine sr (fr 1 ?_);refine kb (bT (t:=.val) rfl s9 By (Bt el)) ?_;refine ka (jw (i:=q.1.toNat) (off:=0) rfl By (fun _=>rfl) rfl (dt (Bt el)).2.2 rfl) ?_;refine aq (nt ?_);rw [Option.bind_assoc] at h;refine sr (mq ?_);refine fr 1 ?_;refine ka (eV rfl rfl ip) ?_;refine eB rfl ?_;refine nt (ao (aR (Z:=Unit) (α:=Int×List Int) (fun _ q2=>[(3,.eq (bP b3)),(5,.eq (z.2 q.1.toNat)),(11,.eq z.1),(12,I (ls.length:Int)),(13,I q.1),(17,.eq (z.2 q.1.toNat)),(18,I (l.length:Int)),(19,I q2.1)]) (fun _ q2=>[.sl (z.2 q.1.toNat) 3 (.int .i64) (q2.2),.sl z.1 23 .val (fR z.2 0 q.2),.obj y 128 (.agg (.pair (.at ap d0) (.eq z.1))),.obj b3 131 (.rep eE x)]++((lF z.2 0 q.2).eraseIdx q.1.toNat)) (iQ x (l.length:Int)) k () (0,l) (fun _=>rfl) h (bB [.sl (z.2 q.1.toNat) 3 (.int .i64) (l),.sl z.1 23 .val (fR z.2 0 q.2),.obj y 128 (.agg (.pair (.at ap d0) (.eq z.1))),.obj b3 131 (.rep eE x)] ((lF z.2 0 q.2).eraseIdx q.1.toNat) [0,1,2,3] ⟨rfl,rfl,rfl,rfl,rfl,rfl,rfl,rfl,trivial⟩ rfl) (fun n2 u2 q2 h=>?_)));unfold iQ at h;refine sr (jb (bJ rfl) ?_);refine nt (ah (bm rfl (fun hb=>?_) (fun hb=>?_)))
  ·replace h:=cZ (pH hb) h;refine sk (ah (ao ?_));obtain⟨c,ec,h⟩:=ab h;refine sr (mq ?_);refine kb (bT (t:=.int .i64) rfl ip tf ec) ?_;refine ka (jw (i:=q2.1.toNat) (off:=0) rfl tf (fun _=>rfl) rfl (dt ec).2.2 rfl) ?_;refine aq ?_;refine aq (nt (sr ?_));refine mq (nt (ao (sr ?_)));refine fl LP ?_;refine fr 3 ?_;refine lo tf ?_;refine jb (fK rfl) ?_;refine aq (nt ?_);refine ci h (fun h=>?_) (fun h=>?_)
   ·refine aa ?_;iterate 2 refine mq ?_
    refine fl LO ?_;refine lo tf ?_;refine fr 1 ?_;refine kb (bT (t:=.int .i64) rfl ip tf ec) ?_;refine aX rfl rfl (fg (i:=q2.1.toNat) rfl tf rfl (kw ec) rfl .int rfl) ⟨rfl,rfl,trivial⟩ ?_;refine ak (aO (aO (tn (aa ?_))));obtain⟨w,ew,h⟩:=ab h;refine jb (bD rfl ew) ?_;refine mq (nl ?_);exact j9 ((),(w,q2.2.set q2.1.toNat x.2)) h (bB [.sl (z.2 q.1.toNat) 3 (.int .i64) (q2.2.set q2.1.toNat x.2),.obj b3 131 (.rep eE x),.sl z.1 23 .val (fR z.2 0 q.2),.obj y 128 (.agg (.pair (.at ap d0) (.eq z.1)))] ((lF z.2 0 q.2).eraseIdx q.1.toNat) [0,2,3,1] ⟨rfl,rfl,rfl,rfl,rfl,rfl,rfl,rfl,trivial⟩ rfl)
   ·refine sr (fl LO ?_);refine lo tf ?_;refine jb (fK rfl) ?_;refine aq (nt ?_);refine ci h (fun h=>?_) (fun h=>?_)
    ·refine aa ?_;iterate 2 refine mq ?_
     refine fl LP ?_;refine lo tf ?_;refine fr 1 ?_;refine kb (bT (t:=.int .i64) rfl ip tf ec) ?_;refine aX rfl rfl (fg (i:=q2.1.toNat) rfl tf rfl (kw ec) rfl .int rfl) ⟨rfl,rfl,trivial⟩ ?_;refine ak (aO (aO (tn (aa ?_))));obtain⟨w,ew,h⟩:=ab h;refine jb (bD rfl ew) ?_;refine mq (nl ?_);exact j9 ((),(w,q2.2.set q2.1.toNat x.1)) h (bB [.sl (z.2 q.1.toNat) 3 (.int .i64) (q2.2.set q2.1.toNat x.1),.obj b3 131 (.rep eE x),.sl z.1 23 .val (fR z.2 0 q.2),.obj y 128 (.agg (.pair (.at ap d0) (.eq z.1)))] ((lF z.2 0 q.2).eraseIdx q.1.toNat) [0,2,3,1] ⟨rfl,rfl,rfl,rfl,rfl,rfl,rfl,rfl,trivial⟩ rfl)
    ·refine aV (aO (aO (tn (aa ?_))));obtain⟨w,ew,h⟩:=ab h;refine jb (bD rfl ew) ?_;refine mq (nl ?_);exact j9 ((),(w,q2.2)) h (bB [.obj b3 131 (.rep eE x),.sl (z.2 q.1.toNat) 3 (.int .i64) (q2.2),.sl z.1 23 .val (fR z.2 0 q.2),.obj y 128 (.agg (.pair (.at ap d0) (.eq z.1)))] ((lF z.2 0 q.2).eraseIdx q.1.toNat) [1,2,3,0] ⟨rfl,rfl,rfl,rfl,rfl,rfl,rfl,rfl,trivial⟩ rfl)
  replace h:=bS (pe hb) h;refine eS (aY (aY (bZ (aO (tn (fX (zO (pre:=[.obj y 128 (.agg (.pair (.at ap d0) (.eq z.1))),.obj b3 131 (.rep eE x)]) (l':=q2.2) (BU el).2) ?_))))));refine aa ?_;obtain⟨w,ew,h⟩:=ab (X:=ck (q.1+1)) (f:=fun w=>jM k x (ls.length:Int) n (w,q.2.set q.1.toNat q2.2)) (K:=some) (r:=r) (by simpa using h);refine jb (bD rfl ew) ?_;refine mq (nl ?_);exact j9 ((),(w,q.2.set q.1.toNat q2.2)) h (bB [.obj y 128 (.agg (.pair (.at ap d0) (.eq z.1))),.obj b3 131 (.rep eE x)] (iS 23 z (q.2.set q.1.toNat q2.2)) [0,1] ⟨rfl,rfl,rfl,rfl,trivial⟩ rfl)
 replace h:=bS (pe hb) h
 refine eS ?_
 refine aY ?_
 refine aY ?_
 refine bZ ?_
 cases h
 refine iC ?_
 refine bN (bB (Γ':=[]) (pre':=[.obj y 128 (.agg (.pair (.at ap d0) (.eq z.1)))]) [.obj y 128 (.agg (.pair (.at ap d0) (.eq z.1))),.obj b3 131 (.rep eE x)] (iS 23 z q.2) [0] trivial rfl) ?_
 exact im () [] trivial rfl
@[reducible] def If:Ty:=.agg (.pair (.ptr ap) (.slice (.slice (.int .i64))))
theorem K4{S:FS}{w:World}{y:Nat}{d0:ap.den}{z:Value×(Nat→Value)}{ls:List (List Int)}(h:∀d∈[D.obj y 128 (.agg (.pair (.at ap d0) (.eq z.1)))]++iS 23 z ls,d.holds S w∧∀b,d.foot=some b→S b):(A.at If (d0,ls)).holds S w (bP y):=by
 obtain⟨⟨cs,h1,c1,c2,rfl,g1,rfl,g2⟩,h2⟩:=h _ (List.mem_cons_self ..);have h3:=LA (fun d hd=>h d (List.mem_cons_of_mem _ hd));refine⟨y,0,_,128,(0,0),rfl,h2 y rfl,h1,c1,[z.1],?_,g1,?_⟩
 ·have l1:=aF (.ptr ap) g1;simp only [Ty.cells] at l1;match c1,l1 with
  |[u],_=>rfl
 ·obtain⟨cs,h4,h5⟩:=h3;have l1:=aF (.slice (.slice (.int .i64))) h4;simp only [Ty.cells] at l1;match cs,l1 with
  |[u],_=>rw [h5];exact h4
theorem ym{S:FS}{w:World}{a:Act}{Γ:Ga}{y:Nat}{d0:ap.den}{z:Value×(Nat→Value)}{ls:List (List Int)}(h:∀d∈[D.obj y 128 (.agg (.pair (.at ap d0) (.eq z.1)))]++iS 23 z ls,d.holds S w∧∀b,d.foot=some b→S b)
 (hk:∀s r,lk Γ s=some r→r.holds S w (a.tmps.getD s undef)) (h0:lk Γ 0=some (.eq (bP y))):∀s r,lk [(0,A.at If (d0,ls))] s=some r→r.holds S w (a.tmps.getD s undef):=fun s r hl=>by
 simp only [lk] at hl
 split at hl
 ·
  rename_i e
  cases hl
  subst e
  have e1:a.tmps.getD 0 undef=bP y:=hk 0 _ h0
  rw [e1]
  exact K4 h
 ·
  cases hl
theorem KI{n:Nat}{r0:A}(h:r0.flat=true):∀s r,lk [(n,r0)] s=some r→r.flat=true:=fun s r hl=>by
 simp only [lk] at hl
 split at hl
 ·
  cases hl;exact h
 ·
  cases hl
theorem LR{d0:D}(h:d0.flat=true):∀d∈[d0],d.flat=true:=fun d hd=>by
 simp only [List.mem_cons,List.not_mem_nil,or_false] at hd
 subst hd;exact h
theorem Jk{d0 d1:D}(h:d0.flat=true)(h1:d1.flat=true):∀d∈[d0,d1],d.flat=true:=fun d hd=>by
 simp only [List.mem_cons,List.not_mem_nil,or_false] at hd
 rcases hd with rfl |rfl <;> assumption
theorem yn{y:Nat}{x:Int×Int}(S:FS)(w:World):fy S w [.eq (bP y),.rep eE x] [bP y,OK x]:=⟨_,_,rfl,rfl,_,_,rfl,Jl,rfl⟩
theorem LN:aN Tryz.prog 173 0 0:=aN.of (by kernel_rfl)
theorem E1:dp Tryz.prog 25 3 true:=⟨fun w=>by kernel_rfl,fun w=>by kernel_rfl⟩
theorem OO:ag Tryz.prog 94:=ag.of Tryz.func94 (by kernel_rfl) (by kernel_rfl)
theorem OP:ag Tryz.prog 86:=ag.of Tryz.func86 (by kernel_rfl) (by kernel_rfl)
theorem LW:ag Tryz.prog 111:=ag.of Tryz.func111 (by kernel_rfl) (by kernel_rfl)
def lS(k:Nat)(t:bh)(x:Int×Int)(ls:List (List Int)):Option (Bool×List (List Int)):=
 (mb k x ls).bind fun l1=>(kz k t l1).bind fun e=>if IW e=true then(mb k x l1).bind fun l2=>some (!uv e,l2) else none
theorem rL(k:Nat)(t:bh)(x:Int×Int)(ls:List (List Int))(r:Bool×List (List Int))(y m:Nat)(z:Value×(Nat→Value))(h:lS k t x ls=some r):
 co Tryz.prog 98 [.eq (bP y),.rep eE x] ([.obj y 128 (.agg (.pair (.at ap (t,.map (some m))) (.eq z.1)))]++iS 23 z ls) (fun _:Unit=>(bz [.eq (.bool r.1)],[.obj y 128 (.agg (.pair (.at ap (t,.map (some m))) (.eq z.1)))]++iS 23 z r.2)):=by
 unfold lS at h
 replace h:=be h
 obtain⟨l1,e1,h⟩:=ab h
 obtain⟨e,e2,h⟩:=ab h
 have he:IW e=true:=by
  apply Classical.byContradiction;intro hn;rw [if_neg hn] at h;cases h
 replace h:=cZ he h
 obtain⟨l2,e3,h⟩:=ab h
 cases h
 have cv:=qC k t l1 e e2
 refine J6 23 Tryz.func98 rfl Tryz.ntmps98 rfl fun S w0=>?_
 refine sr ?_
 refine bx fun b3=>?_
 refine cq ?_
 refine nt ?_
 refine sr ?_
 refine mq ?_
 refine ka (aj rfl fZ (yb) rfl) ?_
 refine bX (iq (Δ':=([.obj y 128 (.agg (.pair (.at ap (t,.map (some m))) (.eq z.1)))]++iS 23 z ls)++[.obj b3 131 (.rep eE x)]) (List.perm_append_comm (l₁:=([.obj b3 131 (.rep eE x)]:List D)))) ?_
 refine bG (Δ:=_++_) (F:=[_]) (fun _ _ _=>au rfl _) rfl rfl (an [.tmp 5,.tmp 6] rfl rfl xF rfl (lz k x ls l1 y (t,.map (some m)) z e1)) ⟨rfl,rfl,trivial⟩ fun _=>?_
 refine nt ?_
 refine sr ?_
 refine mq ?_
 refine bX (iq (Δ':=[.obj b3 131 (.rep eE x)]++([.obj y 128 (.agg (.pair (.at ap (t,.map (some m))) (.eq z.1)))]++iS 23 z l1)) List.perm_append_comm) ?_
 refine ka (aj rfl fZ (yb) rfl) ?_
 refine bX (rC 9 rfl fun _ _ _ h=>G8 h) ?_
 refine wJ (vs:=[bP y,OK x]) [.tmp 8,.tmp 9] rfl rfl rfl rfl rfl ⟨rfl,rfl,trivial⟩ ?_
 refine ak ?_
 refine ae ?_
 refine bN (iq (Δ':=([.obj y 128 (.agg (.pair (.at ap (t,.map (some m))) (.eq z.1)))]++iS 23 z l1)++[.obj b3 131 (.rep eE x)]) (List.perm_append_comm (l₁:=([.obj b3 131 (.rep eE x)]:List D)))) ?_
 show JC _ _ _ _ _
 refine ah ?_
 refine CO (L:=_++_) (Δ:=[_]) (Γ1:=[(0,.at If ((t,.map (some m)),l1))]) (Z:=Unit) (fun _=>[(4,.eq (.bool (!uv e)))]) (fun _=>[.obj b3 131 (.rep eE x)]) (fun S w a hl hk=>ym hl hk rfl) (fun _=>⟨KI rfl,LR rfl⟩) (fun S w=>?_) (fun _=>?_)
 ·
  refine cm ?_;refine dm ?_;refine da (dn rfl) ?_;refine da (aI 1 false rfl OJ rfl) ?_;refine da (ar (t:=.ptr ap) rfl E2 rfl) ?_;refine da (dn rfl) ?_;refine da (aI 3 true rfl LN rfl) ?_;refine da (ar (t:=aH) rfl E1 rfl) ?_;refine dm ?_;refine da (dn rfl) ?_;refine da (aI 1 false rfl tj rfl) ?_;refine da (ar (t:=.slice (.slice (.int .i64))) rfl nm rfl) ?_;refine sP (by kernel_rfl) qi ?_;refine jb (an [.tmp 16,.tmp 20] rfl rfl OO rfl cv) ?_;refine jb (qS rfl Re he) ?_;refine aq (ak ?_);exact fun a w st=>⟨rfl,(),(SE.fin (Γ':=[(4,.eq (.bool (!uv e)))]) [0] ⟨rfl,trivial⟩ rfl) a w st⟩
 ·
  refine tn (aC (CM (Δ1:=[.obj y 128 (.agg (.pair (.at ap (t,.map (some m))) (.eq z.1)))]++iS 23 z l1) (F:=[.obj b3 131 (.rep eE x)]) xF (lz k x l1 l2 y (t,.map (some m)) z e3 _) yn (fun _=>?_)));refine bN (iq (Δ':=[.obj b3 131 (.rep eE x)]++([.obj y 128 (.agg (.pair (.at ap (t,.map (some m))) (.eq z.1)))]++iS 23 z l2)) List.perm_append_comm) ?_;refine bN (bB (pre':=[.obj y 128 (.agg (.pair (.at ap (t,.map (some m))) (.eq z.1)))]) (Γ':=[(4,.eq (.bool (!uv e)))]) [.obj b3 131 (.rep eE x),.obj y 128 (.agg (.pair (.at ap (t,.map (some m))) (.eq z.1)))] (iS 23 z l2) [1] ⟨rfl,trivial⟩ rfl) ?_;exact im () [_] ⟨rfl,trivial⟩ rfl
def lT(k:Nat)(t:bh)(x:Int×Int)(ls:List (List Int)):Option (Int×List (List Int)):=
 (mb k x ls).bind fun l1=>(dC k l1).bind fun ld=>(cy k t ld).bind fun n=>(mb k x l1).bind fun l2=>some (n,l2)
theorem rM(k:Nat)(t:bh)(x:Int×Int)(ls:List (List Int))(r:Int×List (List Int))(y m:Nat)(z:Value×(Nat→Value))(h:lT k t x ls=some r):
 dc (iu Tryz.prog) 100 [.eq (bP y),.rep eE x] ([.inv m (bu k t)]++([.obj y 128 (.agg (.pair (.at ap (t,.map (some m))) (.eq z.1)))]++iS 23 z ls)) (fun _:Unit=>(bz [I r.1],[.inv m (bu k t)]++([.obj y 128 (.agg (.pair (.at ap (t,.map (some m))) (.eq z.1)))]++iS 23 z r.2))):=by
 unfold lT at h
 replace h:=be h
 obtain⟨l1,e1,h⟩:=ab h
 obtain⟨ld,e2,h⟩:=ab h
 obtain⟨n,e2',h⟩:=ab h
 obtain⟨l2,e3,h⟩:=ab h
 cases h
 have cv:=eG k l1 ld e2
 have cl:=i8 k t m ld n e2'
 refine zV 20 Tryz.func100 rfl Tryz.ntmps100 rfl fun S w0=>?_
 refine sr ?_
 refine bx fun b3=>?_
 refine cq ?_
 refine nt ?_
 refine sr ?_
 refine mq ?_
 refine ka (aj rfl fZ (yb) rfl) ?_
 refine bX (iq (Δ':=([.obj y 128 (.agg (.pair (.at ap (t,.map (some m))) (.eq z.1)))]++iS 23 z ls)++[.obj b3 131 (.rep eE x),.inv m (bu k t)]) (List.perm_append_comm (l₁:=([.obj b3 131 (.rep eE x),.inv m (bu k t)]:List D)))) ?_
 refine bG (Δ:=_++_) (F:=[_,_]) (fun _ _ _=>au rfl _) rfl rfl (an [.tmp 5,.tmp 6] rfl rfl xF rfl (lz k x ls l1 y (t,.map (some m)) z e1)) ⟨rfl,rfl,trivial⟩ fun _=>?_
 refine nt ?_
 refine sr ?_
 refine mq ?_
 refine bX (iq (Δ':=[.obj b3 131 (.rep eE x),.inv m (bu k t)]++([.obj y 128 (.agg (.pair (.at ap (t,.map (some m))) (.eq z.1)))]++iS 23 z l1)) List.perm_append_comm) ?_
 refine ka (aj rfl fZ (yb) rfl) ?_
 refine bX (rC 9 rfl fun _ _ _ h=>G8 h) ?_
 refine wJ (vs:=[bP y,OK x]) [.tmp 8,.tmp 9] rfl rfl rfl rfl rfl ⟨rfl,rfl,trivial⟩ ?_
 refine ak ?_
 refine ae ?_
 refine bN (iq (Δ':=([.obj y 128 (.agg (.pair (.at ap (t,.map (some m))) (.eq z.1)))]++iS 23 z l1)++[.obj b3 131 (.rep eE x),.inv m (bu k t)]) (List.perm_append_comm (l₁:=([.obj b3 131 (.rep eE x),.inv m (bu k t)]:List D)))) ?_
 show JC _ _ _ _ _
 refine ah ?_
 refine CO (L:=_++_) (Δ:=[_,_]) (Γ1:=[(0,.at If ((t,.map (some m)),l1))]) (Z:=Unit) (fun _=>[(4,I n)]) (fun _=>[.obj b3 131 (.rep eE x),.inv m (bu k t)]) (fun S w a hl hk=>ym hl hk rfl) (fun _=>⟨KI rfl,Jk rfl rfl⟩) (fun S w=>?_) (fun _=>?_)
 ·
  refine cm ?_;refine dm ?_;refine da (dn rfl) ?_;refine da (aI 1 false rfl OJ rfl) ?_;refine da (ar (t:=.ptr ap) rfl E2 rfl) ?_;refine dm ?_;refine da (dn rfl) ?_;refine da (aI 1 false rfl tj rfl) ?_;refine da (ar (t:=.slice (.slice (.int .i64))) rfl nm rfl) ?_;refine da (an [.tmp 17] rfl rfl OP rfl cv) ?_;refine sP (by kernel_rfl) qi ?_;refine fr 1 ?_;refine kb (fh [.tmp 13,.tmp 18] rfl rfl LW rfl cl) ?_;refine aq (ak ?_);exact fun a w st=>⟨rfl,(),(SE.fin (Γ':=[(4,I n)]) [1,0] ⟨rfl,trivial⟩ rfl) a w st⟩
 ·
  refine tn (aC (CM (Δ1:=[.obj y 128 (.agg (.pair (.at ap (t,.map (some m))) (.eq z.1)))]++iS 23 z l1) (F:=[.obj b3 131 (.rep eE x),.inv m (bu k t)]) xF (lz k x l1 l2 y (t,.map (some m)) z e3 _) yn (fun _=>?_)));refine bN (iq (Δ':=[.obj b3 131 (.rep eE x),.inv m (bu k t)]++([.obj y 128 (.agg (.pair (.at ap (t,.map (some m))) (.eq z.1)))]++iS 23 z l2)) List.perm_append_comm) ?_;refine bN (bB (pre':=[.inv m (bu k t),.obj y 128 (.agg (.pair (.at ap (t,.map (some m))) (.eq z.1)))]) (Γ':=[(4,I n)]) [.obj b3 131 (.rep eE x),.inv m (bu k t),.obj y 128 (.agg (.pair (.at ap (t,.map (some m))) (.eq z.1)))] (iS 23 z l2) [1,2] ⟨rfl,trivial⟩ rfl) ?_;exact im () [_] ⟨rfl,trivial⟩ rfl
theorem rH:∀w,(zeroValue 131).run Tryz.prog w= .ok (.agg #[.int .i64 0,.int .i64 0]) w:=fun w=>by kernel_rfl
theorem uN:∀S w,(A.cells S w (.rep eE (0,0)) (Value.cells (.agg #[.int .i64 0,.int .i64 0])).toList):=fun _ _=>⟨[_],[_],rfl,rfl,rfl⟩
theorem LX:ag Tryz.prog 100:=ag.of Tryz.func100 (by kernel_rfl) (by kernel_rfl)
abbrev KT:=Int×(Int×Int)×Int×Bool×List (List Int)
def gl(k:Nat)(t:bh)(xs:List (Int×Int)):Nat→KT→Option ((Int×Int)×Int×Bool×List (List Int))
 |0,_=>none
 |n+1,q=>if q.1 < (xs.length:Int) then((bv xs q.1).bind fun x=>(lT k t x q.2.2.2.2).bind fun r=>(ck (q.1+1)).bind fun w=>gl k t xs n (if(!q.2.2.2.1 || decide (r.1 < q.2.2.1))=true then(w,x,r.1,true,r.2) else(w,q.2.1,q.2.2.1,q.2.2.2.1,r.2))) else some q.2
def kL(k:Nat)(t:bh)(xs:List (Int×Int))(ls:List (List Int)):Option ((Int×Int)×Int×Bool×List (List Int)):=gl k t xs k (0,(0,0),0,false,ls)
theorem uZ(k:Nat)(t:bh)(xs:List (Int×Int))(ls:List (List Int))(r:(Int×Int)×Int×Bool×List (List Int))(y m:Nat)(z:Value×(Nat→Value))(h:kL k t xs ls=some r):
 dc (iu Tryz.prog) 99 [.eq (.func (.func 100) #[bP y] #[]),Rs eE xs] ([.inv m (bu k t),.obj y 128 (.agg (.pair (.at ap (t,.map (some m))) (.eq z.1)))]++iS 23 z ls) (fun _:Unit=>(bz [.rep eE r.1,I r.2.1,.eq (.bool r.2.2.1)],[.inv m (bu k t),.obj y 128 (.agg (.pair (.at ap (t,.map (some m))) (.eq z.1)))]++iS 23 z r.2.2.2)):=by
 unfold kL at h
 replace h:=be h
 refine dc.of 35 Tryz.func99 rfl Tryz.ntmps99 rfl fun S w0=>?_
 refine sr ?_
 refine aB rfl rfl rfl (aS rfl rH uN) trivial fun b4=>?_
 refine cq ?_
 refine cq ?_
 refine nt ?_
 refine sr ?_
 refine aB rfl rfl rfl (aS rfl rH uN) trivial fun b7=>?_
 refine nt ?_
 refine sr ?_
 refine cq ?_
 refine cq ?_
 refine nt ?_
 refine ah ?_
 refine sr ?_
 refine mq ?_
 refine ol MR ?_
 refine eB rfl ?_
 refine nt ?_
 refine ao ?_
 refine aR (Z:=Unit) (α:=KT) (fun _ q=>[(0,.eq (.func (.func 100) #[bP y] #[])),(4,.eq (bP b4)),(7,.eq (bP b7)),(8,I q.2.2.1),(9,.eq (.bool q.2.2.2.1)),(13,Rs eE xs),(14,I (xs.length:Int)),(15,I q.1)]) (fun _ q=>[.obj b7 131 (.rep eE q.2.1),.obj b4 131 (.rep eE (0,0)),.inv m (bu k t),.obj y 128 (.agg (.pair (.at ap (t,.map (some m))) (.eq z.1)))]++iS 23 z q.2.2.2.2) (gl k t xs) k () (0,(0,0),0,false,ls) (fun _=>rfl) h (bB [.obj b7 131 (.rep eE (0,0)),.obj b4 131 (.rep eE (0,0)),.inv m (bu k t),.obj y 128 (.agg (.pair (.at ap (t,.map (some m))) (.eq z.1)))] (iS 23 z ls) [0,1,2,3] ⟨rfl,rfl,rfl,rfl,rfl,rfl,rfl,rfl,trivial⟩ rfl) (fun n u q h=>?_)
 unfold gl at h
 obtain⟨q1,q2,q3,q4,q5⟩:=q
 refine sr ?_
 refine jb (bJ rfl) ?_
 refine nt ?_
 refine ah ?_
 refine bm rfl (fun hb=>?_) (fun hb=>?_)
 ·
  replace h:=cZ (pH hb) h;obtain⟨x,ex,h⟩:=ab h;obtain⟨r1,e,h⟩:=ab h;obtain⟨w,ew,h⟩:=ab h;have cl:=rM k t x q5 r1 y m z e;refine sk (ah (ao (sr (jb (a8 (t:=eE) rfl MR fZ ex) ?_))));refine ja (ar (t:=eE) rfl fZ rfl) ?_;refine aB rfl rfl rfl (aS rfl rH uN) trivial fun c=>?_;refine aX rfl rfl (aP rfl fZ rfl rfl rfl) ⟨rfl,rfl,trivial⟩ ?_;refine nt (sr (mq ?_));refine ka (aj rfl fZ (yb) rfl) ?_;refine bX (iq (Δ':=([.inv m (bu k t)]++([.obj y 128 (.agg (.pair (.at ap (t,.map (some m))) (.eq z.1)))]++iS 23 z q5))++[.obj c 131 (.rep eE x),.obj b7 131 (.rep eE q2),.obj b4 131 (.rep eE (0,0))]) (List.perm_append_comm (l₁:=([.obj c 131 (.rep eE x),.obj b7 131 (.rep eE q2),.obj b4 131 (.rep eE (0,0))]:List D)))) ?_;refine bG (Δ:=_++_) (F:=[_,_,_]) (fun _ _ _=>au rfl _) rfl rfl (nR (fs:=[bP y]) (cs:=[]) (ags:=[.rep eE x]) [.tmp 20] rfl rfl LX rfl cl) ⟨rfl,rfl,trivial⟩ fun _=>?_;refine aq ?_;refine bX (iq (Δ':=[.obj c 131 (.rep eE x),.obj b7 131 (.rep eE q2),.obj b4 131 (.rep eE (0,0))]++([.inv m (bu k t)]++([.obj y 128 (.agg (.pair (.at ap (t,.map (some m))) (.eq z.1)))]++iS 23 z r1.2))) List.perm_append_comm) ?_;refine nt ?_;cases q4 with
  |false=>
   refine sr (mq ?_);refine ja (fJ rfl) ?_;refine mq ?_;iterate 3 refine gn ?_
   refine pt (nt ?_);refine bm rfl (fun hb=>?_) (fun hb=>(by cases hb));refine aa (ka (aj rfl fZ (yb) rfl) ?_);refine mq ?_;refine fr 1 ?_;refine aX rfl rfl (aP rfl fZ rfl rfl rfl) ⟨rfl,rfl,trivial⟩ ?_;refine aq ?_;refine cq (ak (aO (tn (aa ?_))));refine jb (bD rfl ew) ?_;refine mq (nl ?_);exact j9 ((),(w,x,r1.1,true,r1.2)) h (bB [.obj b7 131 (.rep eE x),.obj c 131 (.rep eE x),.obj b4 131 (.rep eE (0,0)),.inv m (bu k t),.obj y 128 (.agg (.pair (.at ap (t,.map (some m))) (.eq z.1)))] (iS 23 z r1.2) [0,2,3,4] ⟨rfl,rfl,rfl,rfl,rfl,rfl,rfl,rfl,trivial⟩ rfl)
  |true=>
   refine sr (mq ?_);refine ja (fJ rfl) ?_;refine mq ?_;refine gm ?_;refine gm ?_;refine gb (bJ rfl) ?_;refine pf (nt ?_);refine bm rfl (fun hb=>?_) (fun hb=>?_)
   ·replace h:(gl k t xs n (w,x,r1.1,true,r1.2)).bind some=some r:=by
     have hd:r1.1 < q3:=of_decide_eq_true hb;simpa [hd] using h
    refine aa (ka (aj rfl fZ (yb) rfl) ?_);refine mq ?_;refine fr 1 ?_;refine aX rfl rfl (aP rfl fZ rfl rfl rfl) ⟨rfl,rfl,trivial⟩ ?_;refine aq ?_;refine cq (ak (aO (tn (aa ?_))));refine jb (bD rfl ew) ?_;refine mq (nl ?_);exact j9 ((),(w,x,r1.1,true,r1.2)) h (bB [.obj b7 131 (.rep eE x),.obj c 131 (.rep eE x),.obj b4 131 (.rep eE (0,0)),.inv m (bu k t),.obj y 128 (.agg (.pair (.at ap (t,.map (some m))) (.eq z.1)))] (iS 23 z r1.2) [0,2,3,4] ⟨rfl,rfl,rfl,rfl,rfl,rfl,rfl,rfl,trivial⟩ rfl)
   ·replace h:(gl k t xs n (w,q2,q3,true,r1.2)).bind some=some r:=by
     have hd:¬r1.1 < q3:=of_decide_eq_false hb;simpa [hd] using h
    refine aV (aO (tn (aa (jb (bD rfl ew) ?_))));refine mq (nl ?_);exact j9 ((),(w,q2,q3,true,r1.2)) h (bB [.obj c 131 (.rep eE x),.obj b7 131 (.rep eE q2),.obj b4 131 (.rep eE (0,0)),.inv m (bu k t),.obj y 128 (.agg (.pair (.at ap (t,.map (some m))) (.eq z.1)))] (iS 23 z r1.2) [1,2,3,4] ⟨rfl,rfl,rfl,rfl,rfl,rfl,rfl,rfl,trivial⟩ rfl)
 replace h:=bS (pe hb) h
 refine eS ?_
 refine aY ?_
 refine aY ?_
 refine bZ ?_
 refine tn ?_
 cases h
 refine sr ?_
 refine ka (aj rfl fZ (yb) rfl) ?_
 iterate 2 refine mq ?_
 refine fr 1 ?_
 refine aX rfl rfl (aP rfl fZ rfl rfl rfl) ⟨rfl,rfl,trivial⟩ ?_
 refine aq ?_
 refine aq ?_
 refine nt ?_
 refine aC ?_
 refine bN (iq (Δ':=([.inv m (bu k t),.obj y 128 (.agg (.pair (.at ap (t,.map (some m))) (.eq z.1)))]++iS 23 z q5)++[.obj b4 131 (.rep eE q2),.obj b7 131 (.rep eE q2)]) (List.perm_append_comm (l₁:=([.obj b4 131 (.rep eE q2),.obj b7 131 (.rep eE q2)]:List D)))) ?_
 exact aK () [_,_,_] ([.inv m (bu k t),.obj y 128 (.agg (.pair (.at ap (t,.map (some m))) (.eq z.1)))]++iS 23 z q5:List D).length ⟨⟨b4,131,.rep eE q2,2,true,rfl,List.mem_append.2 (.inr (List.mem_cons_self ..)),fZ,yb,rfl⟩,rfl,rfl,trivial⟩ (by rw [List.take_left])
theorem pG:ag Tryz.prog 97:=ag.of Tryz.func97 (by kernel_rfl) (by kernel_rfl)
theorem OR:ag Tryz.prog 48:=ag.of Tryz.func48 (by kernel_rfl) (by kernel_rfl)
theorem OQ:ag Tryz.prog 84:=ag.of Tryz.func84 (by kernel_rfl) (by kernel_rfl)
theorem ON:ag Tryz.prog 98:=ag.of Tryz.func98 (by kernel_rfl) (by kernel_rfl)
theorem OM:ag Tryz.prog 99:=ag.of Tryz.func99 (by kernel_rfl) (by kernel_rfl)
theorem Kq:dp Tryz.prog 22 1 false:=⟨fun w=>by kernel_rfl,fun w=>by kernel_rfl⟩
theorem KH:aN Tryz.prog 25 1 1:=aN.of (by kernel_rfl)
theorem nn:lu Tryz.prog 28 23 1 24:=.of (z:=(.slice none 0 0)) s9 (by kernel_rfl) rfl rfl rfl
theorem E5:lu Tryz.prog 129 131 2 16:=.of (z:=(.agg #[.int .i64 0,.int .i64 0])) MR (by kernel_rfl) rfl rfl rfl
theorem Lh:xY Tryz.prog 128 #[(0,1),(1,1)]:=⟨_,Q9,fun _=>by kernel_rfl⟩
theorem KZ:∀w,(zeroValue 128).run Tryz.prog w= .ok (.agg #[.pointer none,.slice none 0 0]) w:=fun w=>by kernel_rfl
theorem ML:∀S w,(A.cells S w (.pair (.eq (.pointer none)) (.eq (.slice none 0 0))) (Value.cells (.agg #[.pointer none,.slice none 0 0])).toList):=fun _ _=>⟨[_],_,rfl,⟨rfl,rfl⟩,rfl,rfl⟩
theorem Le:xY Tryz.prog 131 #[(0,1),(1,1)]:=⟨_,Q8,fun _=>by kernel_rfl⟩
theorem JJ:∀S w,(A.cells S w (.pair (I 0) (I 0)) (Value.cells (.agg #[.int .i64 0,.int .i64 0])).toList):=fun _ _=>⟨[_],_,rfl,⟨rfl,rfl⟩,rfl,rfl⟩
def eT:List Bool→Ga→Ga
 |true::l,e::g=>e::eT l g
 |false::l,_::g=>eT l g
 |_,_=>[]
def lD(y:Nat)(z1:Value)(l:List Int)(v v2:Value):Ga:=[(39,.eq (bP y)),(40,.eq (bP y)),(41,.eq (bP y)),(42,.eq (.pointer (some ⟨y,0+1,none⟩))),(43,.eq z1),(44,Ri l),(45,.eq v),(46,.rep (.slice .val) [v]),(47,.eq v2),(48,.eq (bP y)),(49,.eq (.pointer (some ⟨y,0+1,none⟩)))]
def kN(b2 y:Nat)(n i:Int)(l:List Int)(a1:List (List Int)):Ga:=[(2,.eq (bP b2)),(8,I n),(10,.eq (bP y)),(12,Ri l),(33,.rep (.slice (.slice (.int .i64))) a1),(34,I (a1.length:Int)),(35,I i)]
theorem PX{i j:Int}:AE (.agg (.pair (I i) (I j))) (.rep eE (i,j)):=fun S w cs h=>by
 obtain⟨c1,c2,e,h1,h2⟩:=h
 exact⟨c1,c2,e,h1.1,h2.1⟩
def lB(k:Nat)(a1:List (List Int)):Nat→Int×List (List Int)→Option (List (List Int))
 |0,_=>none
 |n+1,q=>if q.1 < (a1.length:Int) then((bv a1 q.1).bind fun l=>(jH k l).bind fun l2=>if bR (q.2.length+1) then(ck (q.1+1)).bind fun w=>lB k a1 n (w,q.2++[l2]) else none) else some q.2
def jN(k:Nat)(t:bh)(i:Int):Nat→Int×List (Int×Int)×List (List Int)→Option (List (Int×Int)×List (List Int))
 |0,_=>none
 |n+1,q=>if q.1 < (t.2.1.length:Int) then((lS k t (i,q.1) q.2.2).bind fun r=>if r.1=true then(if bR (q.2.1.length+1) then(ck (q.1+1)).bind fun w=>jN k t i n (w,q.2.1++[(i,q.1)],r.2) else none) else(ck (q.1+1)).bind fun w=>jN k t i n (w,q.2.1,r.2)) else some q.2
def iR(k:Nat)(t:bh):Nat→Int×List (Int×Int)×List (List Int)→Option (List (Int×Int)×List (List Int))
 |0,_=>none
 |n+1,q=>if q.1 < (t.2.1.length:Int) then((ck (q.1+1)).bind fun w=>(jN k t q.1 k (w,q.2)).bind fun p=>iR k t n (w,p)) else some q.2
def tO(k:Nat)(a0:bh)(a1:(List (List Int))):Option (Int×Int×Int×Int):=
 (oN k a0 a1).bind fun L=>if¬(L.2=0) then some (0,0,0,L.2) else
 (lB k a1 k (0,[])).bind fun ls=>(iR k a0 k (0,[],ls)).bind fun p=>(kL k a0 p.1 p.2).bind fun b=>
 if(!b.2.2.1 || decide (L.1≤b.2.1))=true then some (0,0,0,11) else some (b.1.1,b.1.2,b.2.1,0)
theorem yq(k:Nat)(a0:bh)(a1:(List (List Int)))(r:Int×Int×Int×Int)(h:tO k a0 a1=some r):
 dc (iu Tryz.prog) 40 [.rep aH a0,.rep (.slice (.slice (.int .i64))) a1] [.inv 0 gx] (fun _:Unit=>(bz [.eq (.int .i64 r.1),.eq (.int .i64 r.2.1),.eq (.int .i64 r.2.2.1),.eq (.int .i64 r.2.2.2)],[.inv 0 gx])):=by
 unfold tO at h
 replace h:=be h
 refine dc.of 97 Tryz.func40 rfl Tryz.ntmps40 rfl fun S w0=>?_
 refine ah ?_
 refine aa ?_
 refine aB rfl rfl rfl (nq rfl rfl) ⟨rfl,trivial⟩ fun b2=>?_
 refine dx rfl ?_
 refine dx rfl ?_
 refine dx rfl ?_
 refine dx rfl ?_
 refine ak ?_
 refine ae ?_
 show JC _ _ _ _ _
 obtain⟨L,eL,h⟩:=ab h
 have cL:=qH k a0 a1 L eL
 refine ah ?_
 refine aa ?_
 refine bI rfl rfl rfl (aj rfl E1 (yb) rfl) ⟨rfl,trivial⟩ ?_
 refine ax rfl rfl ?_
 refine bg 1 rfl ?_
 refine bI rfl rfl rfl (fh [.tmp 21,.tmp 22] rfl rfl OR rfl cL) ⟨rfl,rfl,trivial⟩ ?_
 refine ax rfl rfl ?_
 refine ay rfl (gq rfl rfl) ⟨rfl,trivial⟩ ?_
 refine ay rfl (gq rfl rfl) ⟨rfl,trivial⟩ ?_
 refine c9 rfl rfl ?_
 refine c9 rfl rfl ?_
 refine ak ?_
 refine ae ?_
 show JC _ _ _ _ _
 refine ah ?_
 refine ah ?_
 refine aa ?_
 refine ax rfl rfl ?_
 refine ay rfl (kf rfl) ⟨rfl,rfl,trivial⟩ ?_
 refine ak ?_
 refine ae ?_
 show JC _ _ _ _ _
 refine bm rfl (fun hb=>?_) (fun hb=>?_)
 ·
  replace h:=cZ (Qc hb) h
  refine ah ?_
  refine aa ?_
  refine ax rfl rfl ?_
  refine dx rfl ?_
  refine dx rfl ?_
  refine dx rfl ?_
  refine c9 rfl rfl ?_
  refine ak ?_
  refine ae ?_
  show JC _ _ _ _ _
  refine aC ?_
  refine ba ?_
  obtain rfl:=Option.some.inj h
  exact aK () [_,_,_,_] 1 ⟨rfl,rfl,rfl,rfl,trivial⟩ rfl
 replace h:=bS (IN hb) h
 refine aV ?_
 refine ae ?_
 show JC _ _ _ _ _
 rw [Option.bind_assoc] at h
 refine ah ?_
 refine aa ?_
 refine bg 1 rfl ?_
 refine bI rfl rfl rfl (aj rfl E1 (yb) rfl) ⟨rfl,trivial⟩ ?_
 refine aB rfl rfl rfl (an [.tmp 29] rfl rfl OQ rfl (gX a0)) ⟨rfl,trivial⟩ fun m=>?_
 refine bX (kE (bu k a0) mB) ?_
 refine ay rfl (cO [(0,.tmp 30,_)] rfl Lh KZ ML (io ⟨trivial,trivial⟩) rfl) ⟨rfl,trivial⟩ ?_
 refine aB rfl rfl rfl (nq rfl trivial) ⟨rfl,trivial⟩ fun y=>?_
 refine c9 rfl rfl ?_
 refine ak ?_
 refine ae ?_
 show JC _ _ _ _ _
 refine ah ?_
 refine ah ?_
 refine aa ?_
 refine ax rfl rfl ?_
 refine ay rfl (mt rfl rfl s9) ⟨rfl,trivial⟩ ?_
 refine eB rfl ?_
 refine bX (SE.nil 23 .val) ?_
 refine bX (iq (Δ':=[.obj y 128 (.agg (.pair (.at ap (a0,.map (some m))) (.eq (.slice none 0 0)))),.inv m (bu k a0),.obj b2 25 (.rep aH a0),.inv 0 gx]++iS 23 (.slice none 0 0,fun _=>undef) []) (List.Perm.trans (List.perm_append_comm (l₁:=([.sl (.slice none 0 0) 23 .val []]:List D))) (List.Perm.refl _))) ?_
 refine ak ?_
 refine ae ?_
 show JC _ _ _ _ _
 refine ao ?_
 refine aR (Z:=Value×(Nat→Value)) (α:=Int×List (List Int)) (fun z q=>[(2,.eq (bP b2)),(8,.eq (.int .i64 L.1)),(10,.eq (bP y)),(33,.rep (.slice (.slice (.int .i64))) a1),(34,.eq (.int .i64 (a1.length:Int))),(35,.eq (.int .i64 q.1))]) (fun z q=>[.obj y 128 (.agg (.pair (.at ap (a0,.map (some m))) (.eq z.1))),.inv m (bu k a0),.obj b2 25 (.rep aH a0),.inv 0 gx]++iS 23 z q.2) (lB k a1) k (.slice none 0 0,fun _=>undef) (0,[]) (fun _=>rfl) h (bB [.obj y 128 (.agg (.pair (.at ap (a0,.map (some m))) (.eq (.slice none 0 0)))),.inv m (bu k a0),.obj b2 25 (.rep aH a0),.inv 0 gx] (iS 23 (.slice none 0 0,fun _=>undef) []) [0,1,2,3] ⟨rfl,rfl,rfl,rfl,rfl,rfl,trivial⟩ rfl) (fun n z q h=>?_)
 unfold lB at h
 refine ah ?_
 refine aa ?_
 refine ay rfl (bJ rfl) ⟨rfl,rfl,trivial⟩ ?_
 refine ak ?_
 refine ae ?_
 show JC _ _ _ _ _
 refine ah ?_
 refine bm rfl (fun hb=>?_) (fun hb=>?_)
 ·
  replace h:=cZ (pH hb) h
  obtain⟨q1,q2⟩:=q
  obtain⟨l,el,h⟩:=ab h
  obtain⟨l2,el2,h⟩:=ab h
  have hk:bR (q2.length+1):=by
   apply Classical.byContradiction
   intro hn
   rw [if_neg hn] at h
   cases h
  replace h:=cZ hk h
  have cc:=mm k l l2 el2
  refine aV ?_
  refine ae ?_
  show JC _ _ _ _ _
  refine ah ?_
  refine ao ?_
  refine ah ?_
  refine aa ?_
  refine ay rfl (a8 (t:=.slice (.int .i64)) rfl s9 By el) ⟨rfl,rfl,trivial⟩ ?_
  refine ay rfl (ar (t:=.slice (.int .i64)) rfl By rfl) ⟨rfl,trivial⟩ ?_
  refine c9 rfl rfl ?_
  refine ak ?_
  refine ae ?_
  show JC _ _ _ _ _
  refine fX (CG (pre:=[.obj y 128 (.agg (.pair (.at ap (a0,.map (some m))) (.eq z.1))),.inv m (bu k a0),.obj b2 25 (.rep aH a0),.inv 0 gx])) ?_
  refine iD 1 rfl ?_
  refine fX (SE.sub (Γ':=kN b2 y L.1 q1 l a1) ⟨rfl,rfl,rfl,rfl,rfl,rfl,rfl,trivial⟩) ?_
  generalize hB:kN b2 y L.1 q1 l a1=B
  refine zS (Δ:=[.obj y 128 (.agg (.pair (.at ap (a0,.map (some m))) (.eq z.1))),.sl z.1 23 .val (fR z.2 0 q2)]) (F:=[.inv m (bu k a0),.obj b2 25 (.rep aH a0),.inv 0 gx]++lF z.2 0 q2) (Z:=Value×Value) (fun p=>B) (fun p=>[.obj y 128 (.agg (.pair (.at ap (a0,.map (some m))) (.eq p.2))),.sl p.2 23 .val (fR z.2 0 q2++[p.1]),.sl p.1 3 (.int .i64) l2]) (fun S w=>?_) (fun p=>?_)
  ·
   subst hB
   refine zT (I:=Value×Value) (Ge:=fun _=>kN b2 y L.1 q1 l a1) (De:=fun p=>[.obj y 128 (.agg (.pair (.at ap (a0,.map (some m))) (.eq p.2))),.sl p.2 23 .val (fR z.2 0 q2++[p.1]),.sl p.1 3 (.int .i64) l2]) (L:=[true,true,true,true,true,true,true,true,true,true,true,true]) qi rfl (fun J hJ hE=>?_) (by kernel_rfl) (fun p=>?_)
   ·
    have s2047:∀(v v2:Value),J 1 [true,true,true,true,true,true,true,true,true,true,true,false] (eT [true,true,true,true,true,true,true,true,true,true,true,false] (lD y z.1 l v v2)++kN b2 y L.1 q1 l a1) [.obj y 128 (.agg (.pair (.at ap (a0,.map (some m))) (.eq z.1))),.sl v2 23 .val (fR z.2 0 q2++[v]),.sl v 3 (.int .i64) l2]:=fun v v2=>by
     subst hJ
     refine JD.step [11] (by kernel_rfl) rfl ?_
     refine cp.cons rfl ?_ ?_
     ·
      refine bg 1 rfl ?_
      refine fQ fun hv=>?_
      refine bg 1 rfl ?_
      refine aX rfl rfl (aP rfl nm hv rfl rfl) ⟨rfl,rfl,trivial⟩ ?_
      exact aA (hE (v,v2)) [0,1,2] ⟨rfl,rfl,rfl,rfl,rfl,rfl,rfl,trivial⟩
     exact trivial
    have s1023:∀(v v2:Value),J 2 [true,true,true,true,true,true,true,true,true,true,false,false] (eT [true,true,true,true,true,true,true,true,true,true,false,false] (lD y z.1 l v v2)++kN b2 y L.1 q1 l a1) [.obj y 128 (.agg (.pair (.at ap (a0,.map (some m))) (.eq z.1))),.sl v2 23 .val (fR z.2 0 q2++[v]),.sl v 3 (.int .i64) l2]:=fun v v2=>by
     subst hJ
     refine JD.step [10] (by kernel_rfl) rfl ?_
     refine cp.cons rfl ?_ ?_
     ·
      refine ay rfl (av rfl tj) ⟨rfl,trivial⟩ ?_
      exact aA (s2047 v v2) [0,1,2] ⟨rfl,rfl,rfl,rfl,rfl,rfl,rfl,rfl,rfl,rfl,rfl,rfl,rfl,rfl,rfl,rfl,rfl,rfl,trivial⟩
     exact trivial
    have s511:∀(v v2:Value),J 3 [true,true,true,true,true,true,true,true,true,false,false,false] (eT [true,true,true,true,true,true,true,true,true,false,false,false] (lD y z.1 l v v2)++kN b2 y L.1 q1 l a1) [.obj y 128 (.agg (.pair (.at ap (a0,.map (some m))) (.eq z.1))),.sl v2 23 .val (fR z.2 0 q2++[v]),.sl v 3 (.int .i64) l2]:=fun v v2=>by
     subst hJ
     refine JD.step [9] (by kernel_rfl) rfl ?_
     refine cp.cons rfl ?_ ?_
     ·
      refine ay rfl (aQ rfl) ⟨rfl,trivial⟩ ?_
      exact aA (s1023 v v2) [0,1,2] ⟨rfl,rfl,rfl,rfl,rfl,rfl,rfl,rfl,rfl,rfl,rfl,rfl,rfl,rfl,rfl,rfl,rfl,trivial⟩
     exact trivial
    have s255:∀(v:Value),J 4 [true,true,true,true,true,true,true,true,false,false,false,false] (eT [true,true,true,true,true,true,true,true,false,false,false,false] (lD y z.1 l v undef)++kN b2 y L.1 q1 l a1) [.obj y 128 (.agg (.pair (.at ap (a0,.map (some m))) (.eq z.1))),.sl z.1 23 .val (fR z.2 0 q2),.sl v 3 (.int .i64) l2]:=fun v=>by
     subst hJ
     refine JD.step [8] (by kernel_rfl) rfl ?_
     refine cp.cons rfl ?_ ?_
     ·
      refine bg 1 rfl ?_
      refine dG rfl rfl rfl (cC rfl rfl nn (by simpa [gI] using hk)) ⟨rfl,rfl,trivial⟩ fun v2=>?_
      exact aA (s511 v v2) [1,0,2] ⟨rfl,rfl,rfl,rfl,rfl,rfl,rfl,rfl,rfl,rfl,rfl,rfl,rfl,rfl,rfl,rfl,trivial⟩
     exact trivial
    have s510:∀(v v2:Value),J 4 [false,true,true,true,true,true,true,true,true,false,false,false] (eT [false,true,true,true,true,true,true,true,true,false,false,false] (lD y z.1 l v v2)++kN b2 y L.1 q1 l a1) [.obj y 128 (.agg (.pair (.at ap (a0,.map (some m))) (.eq z.1))),.sl v2 23 .val (fR z.2 0 q2++[v]),.sl v 3 (.int .i64) l2]:=fun v v2=>by
     subst hJ
     refine JD.step [0] (by kernel_rfl) rfl ?_
     refine cp.cons rfl ?_ ?_
     ·
      refine ax rfl rfl ?_
      exact aA (s511 v v2) [0,1,2] ⟨rfl,rfl,rfl,rfl,rfl,rfl,rfl,rfl,rfl,rfl,rfl,rfl,rfl,rfl,rfl,rfl,trivial⟩
     exact trivial
    have s127:∀(v:Value),J 5 [true,true,true,true,true,true,true,false,false,false,false,false] (eT [true,true,true,true,true,true,true,false,false,false,false,false] (lD y z.1 l v undef)++kN b2 y L.1 q1 l a1) [.obj y 128 (.agg (.pair (.at ap (a0,.map (some m))) (.eq z.1))),.sl z.1 23 .val (fR z.2 0 q2),.sl v 3 (.int .i64) l2]:=fun v=>by
     subst hJ
     refine JD.step [7] (by kernel_rfl) rfl ?_
     refine cp.cons rfl ?_ ?_
     ·
      refine bg 2 rfl ?_
      refine fQ fun hv=>?_
      refine ay rfl (bq (t:=.val) [(.tmp 45,.eq v)] [v] rfl rfl nn (.cons hv (.val hv) .nil) rfl rfl) ⟨rfl,trivial⟩ ?_
      exact aA (s255 v) [1,2,0] ⟨rfl,rfl,rfl,rfl,rfl,rfl,rfl,rfl,rfl,rfl,rfl,rfl,rfl,rfl,rfl,trivial⟩
     exact trivial
    have s239:∀(v:Value),J 5 [true,true,true,true,false,true,true,true,false,false,false,false] (eT [true,true,true,true,false,true,true,true,false,false,false,false] (lD y z.1 l v undef)++kN b2 y L.1 q1 l a1) [.obj y 128 (.agg (.pair (.at ap (a0,.map (some m))) (.eq z.1))),.sl z.1 23 .val (fR z.2 0 q2),.sl v 3 (.int .i64) l2]:=fun v=>by
     subst hJ
     refine JD.step [4] (by kernel_rfl) rfl ?_
     refine cp.cons rfl ?_ ?_
     ·
      refine bI rfl rfl rfl (aj rfl nm lq rfl) ⟨rfl,trivial⟩ ?_
      exact aA (s255 v) [0,1,2] ⟨rfl,rfl,rfl,rfl,rfl,rfl,rfl,rfl,rfl,rfl,rfl,rfl,rfl,rfl,rfl,trivial⟩
     exact trivial
    have s254:∀(v:Value),J 5 [false,true,true,true,true,true,true,true,false,false,false,false] (eT [false,true,true,true,true,true,true,true,false,false,false,false] (lD y z.1 l v undef)++kN b2 y L.1 q1 l a1) [.obj y 128 (.agg (.pair (.at ap (a0,.map (some m))) (.eq z.1))),.sl z.1 23 .val (fR z.2 0 q2),.sl v 3 (.int .i64) l2]:=fun v=>by
     subst hJ
     refine JD.step [0,8] (by kernel_rfl) rfl ?_
     refine cp.cons rfl ?_ ?_
     ·
      refine ax rfl rfl ?_
      exact aA (s255 v) [0,1,2] ⟨rfl,rfl,rfl,rfl,rfl,rfl,rfl,rfl,rfl,rfl,rfl,rfl,rfl,rfl,rfl,trivial⟩
     refine cp.cons rfl ?_ ?_
     ·
      refine bg 1 rfl ?_
      refine dG rfl rfl rfl (cC rfl rfl nn (by simpa [gI] using hk)) ⟨rfl,rfl,trivial⟩ fun v2=>?_
      exact aA (s510 v v2) [1,0,2] ⟨rfl,rfl,rfl,rfl,rfl,rfl,rfl,rfl,rfl,rfl,rfl,rfl,rfl,rfl,rfl,trivial⟩
     exact trivial
    have s63:J 6 [true,true,true,true,true,true,false,false,false,false,false,false] (eT [true,true,true,true,true,true,false,false,false,false,false,false] (lD y z.1 l undef undef)++kN b2 y L.1 q1 l a1) [.obj y 128 (.agg (.pair (.at ap (a0,.map (some m))) (.eq z.1))),.sl z.1 23 .val (fR z.2 0 q2)]:=by
     subst hJ
     refine JD.step [6] (by kernel_rfl) rfl ?_
     refine cp.cons rfl ?_ ?_
     ·
      refine aB rfl rfl rfl (an [.tmp 44] rfl rfl pG rfl cc) ⟨rfl,trivial⟩ fun v=>?_
      exact aA (s127 v) [1,2,0] ⟨rfl,rfl,rfl,rfl,rfl,rfl,rfl,rfl,rfl,rfl,rfl,rfl,rfl,rfl,trivial⟩
     exact trivial
    have s111:∀(v:Value),J 6 [true,true,true,true,false,true,true,false,false,false,false,false] (eT [true,true,true,true,false,true,true,false,false,false,false,false] (lD y z.1 l v undef)++kN b2 y L.1 q1 l a1) [.obj y 128 (.agg (.pair (.at ap (a0,.map (some m))) (.eq z.1))),.sl z.1 23 .val (fR z.2 0 q2),.sl v 3 (.int .i64) l2]:=fun v=>by
     subst hJ
     refine JD.step [4,7] (by kernel_rfl) rfl ?_
     refine cp.cons rfl ?_ ?_
     ·
      refine bI rfl rfl rfl (aj rfl nm lq rfl) ⟨rfl,trivial⟩ ?_
      exact aA (s127 v) [0,1,2] ⟨rfl,rfl,rfl,rfl,rfl,rfl,rfl,rfl,rfl,rfl,rfl,rfl,rfl,rfl,trivial⟩
     refine cp.cons rfl ?_ ?_
     ·
      refine bg 2 rfl ?_
      refine fQ fun hv=>?_
      refine ay rfl (bq (t:=.val) [(.tmp 45,.eq v)] [v] rfl rfl nn (.cons hv (.val hv) .nil) rfl rfl) ⟨rfl,trivial⟩ ?_
      exact aA (s239 v) [1,2,0] ⟨rfl,rfl,rfl,rfl,rfl,rfl,rfl,rfl,rfl,rfl,rfl,rfl,rfl,rfl,trivial⟩
     exact trivial
    have s126:∀(v:Value),J 6 [false,true,true,true,true,true,true,false,false,false,false,false] (eT [false,true,true,true,true,true,true,false,false,false,false,false] (lD y z.1 l v undef)++kN b2 y L.1 q1 l a1) [.obj y 128 (.agg (.pair (.at ap (a0,.map (some m))) (.eq z.1))),.sl z.1 23 .val (fR z.2 0 q2),.sl v 3 (.int .i64) l2]:=fun v=>by
     subst hJ
     refine JD.step [0,7] (by kernel_rfl) rfl ?_
     refine cp.cons rfl ?_ ?_
     ·
      refine ax rfl rfl ?_
      exact aA (s127 v) [0,1,2] ⟨rfl,rfl,rfl,rfl,rfl,rfl,rfl,rfl,rfl,rfl,rfl,rfl,rfl,rfl,trivial⟩
     refine cp.cons rfl ?_ ?_
     ·
      refine bg 2 rfl ?_
      refine fQ fun hv=>?_
      refine ay rfl (bq (t:=.val) [(.tmp 45,.eq v)] [v] rfl rfl nn (.cons hv (.val hv) .nil) rfl rfl) ⟨rfl,trivial⟩ ?_
      exact aA (s254 v) [1,2,0] ⟨rfl,rfl,rfl,rfl,rfl,rfl,rfl,rfl,rfl,rfl,rfl,rfl,rfl,rfl,trivial⟩
     exact trivial
    have s231:∀(v:Value),J 6 [true,true,true,false,false,true,true,true,false,false,false,false] (eT [true,true,true,false,false,true,true,true,false,false,false,false] (lD y z.1 l v undef)++kN b2 y L.1 q1 l a1) [.obj y 128 (.agg (.pair (.at ap (a0,.map (some m))) (.eq z.1))),.sl z.1 23 .val (fR z.2 0 q2),.sl v 3 (.int .i64) l2]:=fun v=>by
     subst hJ
     refine JD.step [3] (by kernel_rfl) rfl ?_
     refine cp.cons rfl ?_ ?_
     ·
      refine ay rfl (av rfl tj) ⟨rfl,trivial⟩ ?_
      exact aA (s239 v) [0,1,2] ⟨rfl,rfl,rfl,rfl,rfl,rfl,rfl,rfl,rfl,rfl,rfl,rfl,rfl,rfl,trivial⟩
     exact trivial
    have s238:∀(v:Value),J 6 [false,true,true,true,false,true,true,true,false,false,false,false] (eT [false,true,true,true,false,true,true,true,false,false,false,false] (lD y z.1 l v undef)++kN b2 y L.1 q1 l a1) [.obj y 128 (.agg (.pair (.at ap (a0,.map (some m))) (.eq z.1))),.sl z.1 23 .val (fR z.2 0 q2),.sl v 3 (.int .i64) l2]:=fun v=>by
     subst hJ
     refine JD.step [0,4] (by kernel_rfl) rfl ?_
     refine cp.cons rfl ?_ ?_
     ·
      refine ax rfl rfl ?_
      exact aA (s239 v) [0,1,2] ⟨rfl,rfl,rfl,rfl,rfl,rfl,rfl,rfl,rfl,rfl,rfl,rfl,rfl,rfl,trivial⟩
     refine cp.cons rfl ?_ ?_
     ·
      refine bI rfl rfl rfl (aj rfl nm lq rfl) ⟨rfl,trivial⟩ ?_
      exact aA (s254 v) [0,1,2] ⟨rfl,rfl,rfl,rfl,rfl,rfl,rfl,rfl,rfl,rfl,rfl,rfl,rfl,rfl,trivial⟩
     exact trivial
    have s31:J 7 [true,true,true,true,true,false,false,false,false,false,false,false] (eT [true,true,true,true,true,false,false,false,false,false,false,false] (lD y z.1 l undef undef)++kN b2 y L.1 q1 l a1) [.obj y 128 (.agg (.pair (.at ap (a0,.map (some m))) (.eq z.1))),.sl z.1 23 .val (fR z.2 0 q2)]:=by
     subst hJ
     refine JD.step [5] (by kernel_rfl) rfl ?_
     refine cp.cons rfl ?_ ?_
     ·
      refine ax rfl rfl ?_
      exact aA (s63) [0,1] ⟨rfl,rfl,rfl,rfl,rfl,rfl,rfl,rfl,rfl,rfl,rfl,rfl,rfl,trivial⟩
     exact trivial
    have s47:J 7 [true,true,true,true,false,true,false,false,false,false,false,false] (eT [true,true,true,true,false,true,false,false,false,false,false,false] (lD y z.1 l undef undef)++kN b2 y L.1 q1 l a1) [.obj y 128 (.agg (.pair (.at ap (a0,.map (some m))) (.eq z.1))),.sl z.1 23 .val (fR z.2 0 q2)]:=by
     subst hJ
     refine JD.step [4,6] (by kernel_rfl) rfl ?_
     refine cp.cons rfl ?_ ?_
     ·
      refine bI rfl rfl rfl (aj rfl nm lq rfl) ⟨rfl,trivial⟩ ?_
      exact aA (s63) [0,1] ⟨rfl,rfl,rfl,rfl,rfl,rfl,rfl,rfl,rfl,rfl,rfl,rfl,rfl,trivial⟩
     refine cp.cons rfl ?_ ?_
     ·
      refine aB rfl rfl rfl (an [.tmp 44] rfl rfl pG rfl cc) ⟨rfl,trivial⟩ fun v=>?_
      exact aA (s111 v) [1,2,0] ⟨rfl,rfl,rfl,rfl,rfl,rfl,rfl,rfl,rfl,rfl,rfl,rfl,rfl,trivial⟩
     exact trivial
    have s62:J 7 [false,true,true,true,true,true,false,false,false,false,false,false] (eT [false,true,true,true,true,true,false,false,false,false,false,false] (lD y z.1 l undef undef)++kN b2 y L.1 q1 l a1) [.obj y 128 (.agg (.pair (.at ap (a0,.map (some m))) (.eq z.1))),.sl z.1 23 .val (fR z.2 0 q2)]:=by
     subst hJ
     refine JD.step [0,6] (by kernel_rfl) rfl ?_
     refine cp.cons rfl ?_ ?_
     ·
      refine ax rfl rfl ?_
      exact aA (s63) [0,1] ⟨rfl,rfl,rfl,rfl,rfl,rfl,rfl,rfl,rfl,rfl,rfl,rfl,rfl,trivial⟩
     refine cp.cons rfl ?_ ?_
     ·
      refine aB rfl rfl rfl (an [.tmp 44] rfl rfl pG rfl cc) ⟨rfl,trivial⟩ fun v=>?_
      exact aA (s126 v) [1,2,0] ⟨rfl,rfl,rfl,rfl,rfl,rfl,rfl,rfl,rfl,rfl,rfl,rfl,rfl,trivial⟩
     exact trivial
    have s103:∀(v:Value),J 7 [true,true,true,false,false,true,true,false,false,false,false,false] (eT [true,true,true,false,false,true,true,false,false,false,false,false] (lD y z.1 l v undef)++kN b2 y L.1 q1 l a1) [.obj y 128 (.agg (.pair (.at ap (a0,.map (some m))) (.eq z.1))),.sl z.1 23 .val (fR z.2 0 q2),.sl v 3 (.int .i64) l2]:=fun v=>by
     subst hJ
     refine JD.step [3,7] (by kernel_rfl) rfl ?_
     refine cp.cons rfl ?_ ?_
     ·
      refine ay rfl (av rfl tj) ⟨rfl,trivial⟩ ?_
      exact aA (s111 v) [0,1,2] ⟨rfl,rfl,rfl,rfl,rfl,rfl,rfl,rfl,rfl,rfl,rfl,rfl,rfl,trivial⟩
     refine cp.cons rfl ?_ ?_
     ·
      refine bg 2 rfl ?_
      refine fQ fun hv=>?_
      refine ay rfl (bq (t:=.val) [(.tmp 45,.eq v)] [v] rfl rfl nn (.cons hv (.val hv) .nil) rfl rfl) ⟨rfl,trivial⟩ ?_
      exact aA (s231 v) [1,2,0] ⟨rfl,rfl,rfl,rfl,rfl,rfl,rfl,rfl,rfl,rfl,rfl,rfl,rfl,trivial⟩
     exact trivial
    have s110:∀(v:Value),J 7 [false,true,true,true,false,true,true,false,false,false,false,false] (eT [false,true,true,true,false,true,true,false,false,false,false,false] (lD y z.1 l v undef)++kN b2 y L.1 q1 l a1) [.obj y 128 (.agg (.pair (.at ap (a0,.map (some m))) (.eq z.1))),.sl z.1 23 .val (fR z.2 0 q2),.sl v 3 (.int .i64) l2]:=fun v=>by
     subst hJ
     refine JD.step [0,4,7] (by kernel_rfl) rfl ?_
     refine cp.cons rfl ?_ ?_
     ·
      refine ax rfl rfl ?_
      exact aA (s111 v) [0,1,2] ⟨rfl,rfl,rfl,rfl,rfl,rfl,rfl,rfl,rfl,rfl,rfl,rfl,rfl,trivial⟩
     refine cp.cons rfl ?_ ?_
     ·
      refine bI rfl rfl rfl (aj rfl nm lq rfl) ⟨rfl,trivial⟩ ?_
      exact aA (s126 v) [0,1,2] ⟨rfl,rfl,rfl,rfl,rfl,rfl,rfl,rfl,rfl,rfl,rfl,rfl,rfl,trivial⟩
     refine cp.cons rfl ?_ ?_
     ·
      refine bg 2 rfl ?_
      refine fQ fun hv=>?_
      refine ay rfl (bq (t:=.val) [(.tmp 45,.eq v)] [v] rfl rfl nn (.cons hv (.val hv) .nil) rfl rfl) ⟨rfl,trivial⟩ ?_
      exact aA (s238 v) [1,2,0] ⟨rfl,rfl,rfl,rfl,rfl,rfl,rfl,rfl,rfl,rfl,rfl,rfl,rfl,trivial⟩
     exact trivial
    have s227:∀(v:Value),J 7 [true,true,false,false,false,true,true,true,false,false,false,false] (eT [true,true,false,false,false,true,true,true,false,false,false,false] (lD y z.1 l v undef)++kN b2 y L.1 q1 l a1) [.obj y 128 (.agg (.pair (.at ap (a0,.map (some m))) (.eq z.1))),.sl z.1 23 .val (fR z.2 0 q2),.sl v 3 (.int .i64) l2]:=fun v=>by
     subst hJ
     refine JD.step [2] (by kernel_rfl) rfl ?_
     refine cp.cons rfl ?_ ?_
     ·
      refine ay rfl (aQ rfl) ⟨rfl,trivial⟩ ?_
      exact aA (s231 v) [0,1,2] ⟨rfl,rfl,rfl,rfl,rfl,rfl,rfl,rfl,rfl,rfl,rfl,rfl,rfl,trivial⟩
     exact trivial
    have s230:∀(v:Value),J 7 [false,true,true,false,false,true,true,true,false,false,false,false] (eT [false,true,true,false,false,true,true,true,false,false,false,false] (lD y z.1 l v undef)++kN b2 y L.1 q1 l a1) [.obj y 128 (.agg (.pair (.at ap (a0,.map (some m))) (.eq z.1))),.sl z.1 23 .val (fR z.2 0 q2),.sl v 3 (.int .i64) l2]:=fun v=>by
     subst hJ
     refine JD.step [0,3] (by kernel_rfl) rfl ?_
     refine cp.cons rfl ?_ ?_
     ·
      refine ax rfl rfl ?_
      exact aA (s231 v) [0,1,2] ⟨rfl,rfl,rfl,rfl,rfl,rfl,rfl,rfl,rfl,rfl,rfl,rfl,rfl,trivial⟩
     refine cp.cons rfl ?_ ?_
     ·
      refine ay rfl (av rfl tj) ⟨rfl,trivial⟩ ?_
      exact aA (s238 v) [0,1,2] ⟨rfl,rfl,rfl,rfl,rfl,rfl,rfl,rfl,rfl,rfl,rfl,rfl,rfl,trivial⟩
     exact trivial
    have s15:J 8 [true,true,true,true,false,false,false,false,false,false,false,false] (eT [true,true,true,true,false,false,false,false,false,false,false,false] (lD y z.1 l undef undef)++kN b2 y L.1 q1 l a1) [.obj y 128 (.agg (.pair (.at ap (a0,.map (some m))) (.eq z.1))),.sl z.1 23 .val (fR z.2 0 q2)]:=by
     subst hJ
     refine JD.step [4,5] (by kernel_rfl) rfl ?_
     refine cp.cons rfl ?_ ?_
     ·
      refine bI rfl rfl rfl (aj rfl nm lq rfl) ⟨rfl,trivial⟩ ?_
      exact aA (s31) [0,1] ⟨rfl,rfl,rfl,rfl,rfl,rfl,rfl,rfl,rfl,rfl,rfl,rfl,trivial⟩
     refine cp.cons rfl ?_ ?_
     ·
      refine ax rfl rfl ?_
      exact aA (s47) [0,1] ⟨rfl,rfl,rfl,rfl,rfl,rfl,rfl,rfl,rfl,rfl,rfl,rfl,trivial⟩
     exact trivial
    have s30:J 8 [false,true,true,true,true,false,false,false,false,false,false,false] (eT [false,true,true,true,true,false,false,false,false,false,false,false] (lD y z.1 l undef undef)++kN b2 y L.1 q1 l a1) [.obj y 128 (.agg (.pair (.at ap (a0,.map (some m))) (.eq z.1))),.sl z.1 23 .val (fR z.2 0 q2)]:=by
     subst hJ
     refine JD.step [0,5] (by kernel_rfl) rfl ?_
     refine cp.cons rfl ?_ ?_
     ·
      refine ax rfl rfl ?_
      exact aA (s31) [0,1] ⟨rfl,rfl,rfl,rfl,rfl,rfl,rfl,rfl,rfl,rfl,rfl,rfl,trivial⟩
     refine cp.cons rfl ?_ ?_
     ·
      refine ax rfl rfl ?_
      exact aA (s62) [0,1] ⟨rfl,rfl,rfl,rfl,rfl,rfl,rfl,rfl,rfl,rfl,rfl,rfl,trivial⟩
     exact trivial
    have s39:J 8 [true,true,true,false,false,true,false,false,false,false,false,false] (eT [true,true,true,false,false,true,false,false,false,false,false,false] (lD y z.1 l undef undef)++kN b2 y L.1 q1 l a1) [.obj y 128 (.agg (.pair (.at ap (a0,.map (some m))) (.eq z.1))),.sl z.1 23 .val (fR z.2 0 q2)]:=by
     subst hJ
     refine JD.step [3,6] (by kernel_rfl) rfl ?_
     refine cp.cons rfl ?_ ?_
     ·
      refine ay rfl (av rfl tj) ⟨rfl,trivial⟩ ?_
      exact aA (s47) [0,1] ⟨rfl,rfl,rfl,rfl,rfl,rfl,rfl,rfl,rfl,rfl,rfl,rfl,trivial⟩
     refine cp.cons rfl ?_ ?_
     ·
      refine aB rfl rfl rfl (an [.tmp 44] rfl rfl pG rfl cc) ⟨rfl,trivial⟩ fun v=>?_
      exact aA (s103 v) [1,2,0] ⟨rfl,rfl,rfl,rfl,rfl,rfl,rfl,rfl,rfl,rfl,rfl,rfl,trivial⟩
     exact trivial
    have s46:J 8 [false,true,true,true,false,true,false,false,false,false,false,false] (eT [false,true,true,true,false,true,false,false,false,false,false,false] (lD y z.1 l undef undef)++kN b2 y L.1 q1 l a1) [.obj y 128 (.agg (.pair (.at ap (a0,.map (some m))) (.eq z.1))),.sl z.1 23 .val (fR z.2 0 q2)]:=by
     subst hJ
     refine JD.step [0,4,6] (by kernel_rfl) rfl ?_
     refine cp.cons rfl ?_ ?_
     ·
      refine ax rfl rfl ?_
      exact aA (s47) [0,1] ⟨rfl,rfl,rfl,rfl,rfl,rfl,rfl,rfl,rfl,rfl,rfl,rfl,trivial⟩
     refine cp.cons rfl ?_ ?_
     ·
      refine bI rfl rfl rfl (aj rfl nm lq rfl) ⟨rfl,trivial⟩ ?_
      exact aA (s62) [0,1] ⟨rfl,rfl,rfl,rfl,rfl,rfl,rfl,rfl,rfl,rfl,rfl,rfl,trivial⟩
     refine cp.cons rfl ?_ ?_
     ·
      refine aB rfl rfl rfl (an [.tmp 44] rfl rfl pG rfl cc) ⟨rfl,trivial⟩ fun v=>?_
      exact aA (s110 v) [1,2,0] ⟨rfl,rfl,rfl,rfl,rfl,rfl,rfl,rfl,rfl,rfl,rfl,rfl,trivial⟩
     exact trivial
    have s99:∀(v:Value),J 8 [true,true,false,false,false,true,true,false,false,false,false,false] (eT [true,true,false,false,false,true,true,false,false,false,false,false] (lD y z.1 l v undef)++kN b2 y L.1 q1 l a1) [.obj y 128 (.agg (.pair (.at ap (a0,.map (some m))) (.eq z.1))),.sl z.1 23 .val (fR z.2 0 q2),.sl v 3 (.int .i64) l2]:=fun v=>by
     subst hJ
     refine JD.step [2,7] (by kernel_rfl) rfl ?_
     refine cp.cons rfl ?_ ?_
     ·
      refine ay rfl (aQ rfl) ⟨rfl,trivial⟩ ?_
      exact aA (s103 v) [0,1,2] ⟨rfl,rfl,rfl,rfl,rfl,rfl,rfl,rfl,rfl,rfl,rfl,rfl,trivial⟩
     refine cp.cons rfl ?_ ?_
     ·
      refine bg 2 rfl ?_
      refine fQ fun hv=>?_
      refine ay rfl (bq (t:=.val) [(.tmp 45,.eq v)] [v] rfl rfl nn (.cons hv (.val hv) .nil) rfl rfl) ⟨rfl,trivial⟩ ?_
      exact aA (s227 v) [1,2,0] ⟨rfl,rfl,rfl,rfl,rfl,rfl,rfl,rfl,rfl,rfl,rfl,rfl,trivial⟩
     exact trivial
    have s102:∀(v:Value),J 8 [false,true,true,false,false,true,true,false,false,false,false,false] (eT [false,true,true,false,false,true,true,false,false,false,false,false] (lD y z.1 l v undef)++kN b2 y L.1 q1 l a1) [.obj y 128 (.agg (.pair (.at ap (a0,.map (some m))) (.eq z.1))),.sl z.1 23 .val (fR z.2 0 q2),.sl v 3 (.int .i64) l2]:=fun v=>by
     subst hJ
     refine JD.step [0,3,7] (by kernel_rfl) rfl ?_
     refine cp.cons rfl ?_ ?_
     ·
      refine ax rfl rfl ?_
      exact aA (s103 v) [0,1,2] ⟨rfl,rfl,rfl,rfl,rfl,rfl,rfl,rfl,rfl,rfl,rfl,rfl,trivial⟩
     refine cp.cons rfl ?_ ?_
     ·
      refine ay rfl (av rfl tj) ⟨rfl,trivial⟩ ?_
      exact aA (s110 v) [0,1,2] ⟨rfl,rfl,rfl,rfl,rfl,rfl,rfl,rfl,rfl,rfl,rfl,rfl,trivial⟩
     refine cp.cons rfl ?_ ?_
     ·
      refine bg 2 rfl ?_
      refine fQ fun hv=>?_
      refine ay rfl (bq (t:=.val) [(.tmp 45,.eq v)] [v] rfl rfl nn (.cons hv (.val hv) .nil) rfl rfl) ⟨rfl,trivial⟩ ?_
      exact aA (s230 v) [1,2,0] ⟨rfl,rfl,rfl,rfl,rfl,rfl,rfl,rfl,rfl,rfl,rfl,rfl,trivial⟩
     exact trivial
    have s225:∀(v:Value),J 8 [true,false,false,false,false,true,true,true,false,false,false,false] (eT [true,false,false,false,false,true,true,true,false,false,false,false] (lD y z.1 l v undef)++kN b2 y L.1 q1 l a1) [.obj y 128 (.agg (.pair (.at ap (a0,.map (some m))) (.eq z.1))),.sl z.1 23 .val (fR z.2 0 q2),.sl v 3 (.int .i64) l2]:=fun v=>by
     subst hJ
     refine JD.step [1] (by kernel_rfl) rfl ?_
     refine cp.cons rfl ?_ ?_
     ·
      refine ax rfl rfl ?_
      exact aA (s227 v) [0,1,2] ⟨rfl,rfl,rfl,rfl,rfl,rfl,rfl,rfl,rfl,rfl,rfl,rfl,trivial⟩
     exact trivial
    have s226:∀(v:Value),J 8 [false,true,false,false,false,true,true,true,false,false,false,false] (eT [false,true,false,false,false,true,true,true,false,false,false,false] (lD y z.1 l v undef)++kN b2 y L.1 q1 l a1) [.obj y 128 (.agg (.pair (.at ap (a0,.map (some m))) (.eq z.1))),.sl z.1 23 .val (fR z.2 0 q2),.sl v 3 (.int .i64) l2]:=fun v=>by
     subst hJ
     refine JD.step [0,2] (by kernel_rfl) rfl ?_
     refine cp.cons rfl ?_ ?_
     ·
      refine ax rfl rfl ?_
      exact aA (s227 v) [0,1,2] ⟨rfl,rfl,rfl,rfl,rfl,rfl,rfl,rfl,rfl,rfl,rfl,rfl,trivial⟩
     refine cp.cons rfl ?_ ?_
     ·
      refine ay rfl (aQ rfl) ⟨rfl,trivial⟩ ?_
      exact aA (s230 v) [0,1,2] ⟨rfl,rfl,rfl,rfl,rfl,rfl,rfl,rfl,rfl,rfl,rfl,rfl,trivial⟩
     exact trivial
    have s7:J 9 [true,true,true,false,false,false,false,false,false,false,false,false] (eT [true,true,true,false,false,false,false,false,false,false,false,false] (lD y z.1 l undef undef)++kN b2 y L.1 q1 l a1) [.obj y 128 (.agg (.pair (.at ap (a0,.map (some m))) (.eq z.1))),.sl z.1 23 .val (fR z.2 0 q2)]:=by
     subst hJ
     refine JD.step [3,5] (by kernel_rfl) rfl ?_
     refine cp.cons rfl ?_ ?_
     ·
      refine ay rfl (av rfl tj) ⟨rfl,trivial⟩ ?_
      exact aA (s15) [0,1] ⟨rfl,rfl,rfl,rfl,rfl,rfl,rfl,rfl,rfl,rfl,rfl,trivial⟩
     refine cp.cons rfl ?_ ?_
     ·
      refine ax rfl rfl ?_
      exact aA (s39) [0,1] ⟨rfl,rfl,rfl,rfl,rfl,rfl,rfl,rfl,rfl,rfl,rfl,trivial⟩
     exact trivial
    have s14:J 9 [false,true,true,true,false,false,false,false,false,false,false,false] (eT [false,true,true,true,false,false,false,false,false,false,false,false] (lD y z.1 l undef undef)++kN b2 y L.1 q1 l a1) [.obj y 128 (.agg (.pair (.at ap (a0,.map (some m))) (.eq z.1))),.sl z.1 23 .val (fR z.2 0 q2)]:=by
     subst hJ
     refine JD.step [0,4,5] (by kernel_rfl) rfl ?_
     refine cp.cons rfl ?_ ?_
     ·
      refine ax rfl rfl ?_
      exact aA (s15) [0,1] ⟨rfl,rfl,rfl,rfl,rfl,rfl,rfl,rfl,rfl,rfl,rfl,trivial⟩
     refine cp.cons rfl ?_ ?_
     ·
      refine bI rfl rfl rfl (aj rfl nm lq rfl) ⟨rfl,trivial⟩ ?_
      exact aA (s30) [0,1] ⟨rfl,rfl,rfl,rfl,rfl,rfl,rfl,rfl,rfl,rfl,rfl,trivial⟩
     refine cp.cons rfl ?_ ?_
     ·
      refine ax rfl rfl ?_
      exact aA (s46) [0,1] ⟨rfl,rfl,rfl,rfl,rfl,rfl,rfl,rfl,rfl,rfl,rfl,trivial⟩
     exact trivial
    have s35:J 9 [true,true,false,false,false,true,false,false,false,false,false,false] (eT [true,true,false,false,false,true,false,false,false,false,false,false] (lD y z.1 l undef undef)++kN b2 y L.1 q1 l a1) [.obj y 128 (.agg (.pair (.at ap (a0,.map (some m))) (.eq z.1))),.sl z.1 23 .val (fR z.2 0 q2)]:=by
     subst hJ
     refine JD.step [2,6] (by kernel_rfl) rfl ?_
     refine cp.cons rfl ?_ ?_
     ·
      refine ay rfl (aQ rfl) ⟨rfl,trivial⟩ ?_
      exact aA (s39) [0,1] ⟨rfl,rfl,rfl,rfl,rfl,rfl,rfl,rfl,rfl,rfl,rfl,trivial⟩
     refine cp.cons rfl ?_ ?_
     ·
      refine aB rfl rfl rfl (an [.tmp 44] rfl rfl pG rfl cc) ⟨rfl,trivial⟩ fun v=>?_
      exact aA (s99 v) [1,2,0] ⟨rfl,rfl,rfl,rfl,rfl,rfl,rfl,rfl,rfl,rfl,rfl,trivial⟩
     exact trivial
    have s38:J 9 [false,true,true,false,false,true,false,false,false,false,false,false] (eT [false,true,true,false,false,true,false,false,false,false,false,false] (lD y z.1 l undef undef)++kN b2 y L.1 q1 l a1) [.obj y 128 (.agg (.pair (.at ap (a0,.map (some m))) (.eq z.1))),.sl z.1 23 .val (fR z.2 0 q2)]:=by
     subst hJ
     refine JD.step [0,3,6] (by kernel_rfl) rfl ?_
     refine cp.cons rfl ?_ ?_
     ·
      refine ax rfl rfl ?_
      exact aA (s39) [0,1] ⟨rfl,rfl,rfl,rfl,rfl,rfl,rfl,rfl,rfl,rfl,rfl,trivial⟩
     refine cp.cons rfl ?_ ?_
     ·
      refine ay rfl (av rfl tj) ⟨rfl,trivial⟩ ?_
      exact aA (s46) [0,1] ⟨rfl,rfl,rfl,rfl,rfl,rfl,rfl,rfl,rfl,rfl,rfl,trivial⟩
     refine cp.cons rfl ?_ ?_
     ·
      refine aB rfl rfl rfl (an [.tmp 44] rfl rfl pG rfl cc) ⟨rfl,trivial⟩ fun v=>?_
      exact aA (s102 v) [1,2,0] ⟨rfl,rfl,rfl,rfl,rfl,rfl,rfl,rfl,rfl,rfl,rfl,trivial⟩
     exact trivial
    have s97:∀(v:Value),J 9 [true,false,false,false,false,true,true,false,false,false,false,false] (eT [true,false,false,false,false,true,true,false,false,false,false,false] (lD y z.1 l v undef)++kN b2 y L.1 q1 l a1) [.obj y 128 (.agg (.pair (.at ap (a0,.map (some m))) (.eq z.1))),.sl z.1 23 .val (fR z.2 0 q2),.sl v 3 (.int .i64) l2]:=fun v=>by
     subst hJ
     refine JD.step [1,7] (by kernel_rfl) rfl ?_
     refine cp.cons rfl ?_ ?_
     ·
      refine ax rfl rfl ?_
      exact aA (s99 v) [0,1,2] ⟨rfl,rfl,rfl,rfl,rfl,rfl,rfl,rfl,rfl,rfl,rfl,trivial⟩
     refine cp.cons rfl ?_ ?_
     ·
      refine bg 2 rfl ?_
      refine fQ fun hv=>?_
      refine ay rfl (bq (t:=.val) [(.tmp 45,.eq v)] [v] rfl rfl nn (.cons hv (.val hv) .nil) rfl rfl) ⟨rfl,trivial⟩ ?_
      exact aA (s225 v) [1,2,0] ⟨rfl,rfl,rfl,rfl,rfl,rfl,rfl,rfl,rfl,rfl,rfl,trivial⟩
     exact trivial
    have s98:∀(v:Value),J 9 [false,true,false,false,false,true,true,false,false,false,false,false] (eT [false,true,false,false,false,true,true,false,false,false,false,false] (lD y z.1 l v undef)++kN b2 y L.1 q1 l a1) [.obj y 128 (.agg (.pair (.at ap (a0,.map (some m))) (.eq z.1))),.sl z.1 23 .val (fR z.2 0 q2),.sl v 3 (.int .i64) l2]:=fun v=>by
     subst hJ
     refine JD.step [0,2,7] (by kernel_rfl) rfl ?_
     refine cp.cons rfl ?_ ?_
     ·
      refine ax rfl rfl ?_
      exact aA (s99 v) [0,1,2] ⟨rfl,rfl,rfl,rfl,rfl,rfl,rfl,rfl,rfl,rfl,rfl,trivial⟩
     refine cp.cons rfl ?_ ?_
     ·
      refine ay rfl (aQ rfl) ⟨rfl,trivial⟩ ?_
      exact aA (s102 v) [0,1,2] ⟨rfl,rfl,rfl,rfl,rfl,rfl,rfl,rfl,rfl,rfl,rfl,trivial⟩
     refine cp.cons rfl ?_ ?_
     ·
      refine bg 2 rfl ?_
      refine fQ fun hv=>?_
      refine ay rfl (bq (t:=.val) [(.tmp 45,.eq v)] [v] rfl rfl nn (.cons hv (.val hv) .nil) rfl rfl) ⟨rfl,trivial⟩ ?_
      exact aA (s226 v) [1,2,0] ⟨rfl,rfl,rfl,rfl,rfl,rfl,rfl,rfl,rfl,rfl,rfl,trivial⟩
     exact trivial
    have s224:∀(v:Value),J 9 [false,false,false,false,false,true,true,true,false,false,false,false] (eT [false,false,false,false,false,true,true,true,false,false,false,false] (lD y z.1 l v undef)++kN b2 y L.1 q1 l a1) [.obj y 128 (.agg (.pair (.at ap (a0,.map (some m))) (.eq z.1))),.sl z.1 23 .val (fR z.2 0 q2),.sl v 3 (.int .i64) l2]:=fun v=>by
     subst hJ
     refine JD.step [0,1] (by kernel_rfl) rfl ?_
     refine cp.cons rfl ?_ ?_
     ·
      refine ax rfl rfl ?_
      exact aA (s225 v) [0,1,2] ⟨rfl,rfl,rfl,rfl,rfl,rfl,rfl,rfl,rfl,rfl,rfl,trivial⟩
     refine cp.cons rfl ?_ ?_
     ·
      refine ax rfl rfl ?_
      exact aA (s226 v) [0,1,2] ⟨rfl,rfl,rfl,rfl,rfl,rfl,rfl,rfl,rfl,rfl,rfl,trivial⟩
     exact trivial
    have s3:J 10 [true,true,false,false,false,false,false,false,false,false,false,false] (eT [true,true,false,false,false,false,false,false,false,false,false,false] (lD y z.1 l undef undef)++kN b2 y L.1 q1 l a1) [.obj y 128 (.agg (.pair (.at ap (a0,.map (some m))) (.eq z.1))),.sl z.1 23 .val (fR z.2 0 q2)]:=by
     subst hJ
     refine JD.step [2,5] (by kernel_rfl) rfl ?_
     refine cp.cons rfl ?_ ?_
     ·
      refine ay rfl (aQ rfl) ⟨rfl,trivial⟩ ?_
      exact aA (s7) [0,1] ⟨rfl,rfl,rfl,rfl,rfl,rfl,rfl,rfl,rfl,rfl,trivial⟩
     refine cp.cons rfl ?_ ?_
     ·
      refine ax rfl rfl ?_
      exact aA (s35) [0,1] ⟨rfl,rfl,rfl,rfl,rfl,rfl,rfl,rfl,rfl,rfl,trivial⟩
     exact trivial
    have s6:J 10 [false,true,true,false,false,false,false,false,false,false,false,false] (eT [false,true,true,false,false,false,false,false,false,false,false,false] (lD y z.1 l undef undef)++kN b2 y L.1 q1 l a1) [.obj y 128 (.agg (.pair (.at ap (a0,.map (some m))) (.eq z.1))),.sl z.1 23 .val (fR z.2 0 q2)]:=by
     subst hJ
     refine JD.step [0,3,5] (by kernel_rfl) rfl ?_
     refine cp.cons rfl ?_ ?_
     ·
      refine ax rfl rfl ?_
      exact aA (s7) [0,1] ⟨rfl,rfl,rfl,rfl,rfl,rfl,rfl,rfl,rfl,rfl,trivial⟩
     refine cp.cons rfl ?_ ?_
     ·
      refine ay rfl (av rfl tj) ⟨rfl,trivial⟩ ?_
      exact aA (s14) [0,1] ⟨rfl,rfl,rfl,rfl,rfl,rfl,rfl,rfl,rfl,rfl,trivial⟩
     refine cp.cons rfl ?_ ?_
     ·
      refine ax rfl rfl ?_
      exact aA (s38) [0,1] ⟨rfl,rfl,rfl,rfl,rfl,rfl,rfl,rfl,rfl,rfl,trivial⟩
     exact trivial
    have s33:J 10 [true,false,false,false,false,true,false,false,false,false,false,false] (eT [true,false,false,false,false,true,false,false,false,false,false,false] (lD y z.1 l undef undef)++kN b2 y L.1 q1 l a1) [.obj y 128 (.agg (.pair (.at ap (a0,.map (some m))) (.eq z.1))),.sl z.1 23 .val (fR z.2 0 q2)]:=by
     subst hJ
     refine JD.step [1,6] (by kernel_rfl) rfl ?_
     refine cp.cons rfl ?_ ?_
     ·
      refine ax rfl rfl ?_
      exact aA (s35) [0,1] ⟨rfl,rfl,rfl,rfl,rfl,rfl,rfl,rfl,rfl,rfl,trivial⟩
     refine cp.cons rfl ?_ ?_
     ·
      refine aB rfl rfl rfl (an [.tmp 44] rfl rfl pG rfl cc) ⟨rfl,trivial⟩ fun v=>?_
      exact aA (s97 v) [1,2,0] ⟨rfl,rfl,rfl,rfl,rfl,rfl,rfl,rfl,rfl,rfl,trivial⟩
     exact trivial
    have s34:J 10 [false,true,false,false,false,true,false,false,false,false,false,false] (eT [false,true,false,false,false,true,false,false,false,false,false,false] (lD y z.1 l undef undef)++kN b2 y L.1 q1 l a1) [.obj y 128 (.agg (.pair (.at ap (a0,.map (some m))) (.eq z.1))),.sl z.1 23 .val (fR z.2 0 q2)]:=by
     subst hJ
     refine JD.step [0,2,6] (by kernel_rfl) rfl ?_
     refine cp.cons rfl ?_ ?_
     ·
      refine ax rfl rfl ?_
      exact aA (s35) [0,1] ⟨rfl,rfl,rfl,rfl,rfl,rfl,rfl,rfl,rfl,rfl,trivial⟩
     refine cp.cons rfl ?_ ?_
     ·
      refine ay rfl (aQ rfl) ⟨rfl,trivial⟩ ?_
      exact aA (s38) [0,1] ⟨rfl,rfl,rfl,rfl,rfl,rfl,rfl,rfl,rfl,rfl,trivial⟩
     refine cp.cons rfl ?_ ?_
     ·
      refine aB rfl rfl rfl (an [.tmp 44] rfl rfl pG rfl cc) ⟨rfl,trivial⟩ fun v=>?_
      exact aA (s98 v) [1,2,0] ⟨rfl,rfl,rfl,rfl,rfl,rfl,rfl,rfl,rfl,rfl,trivial⟩
     exact trivial
    have s96:∀(v:Value),J 10 [false,false,false,false,false,true,true,false,false,false,false,false] (eT [false,false,false,false,false,true,true,false,false,false,false,false] (lD y z.1 l v undef)++kN b2 y L.1 q1 l a1) [.obj y 128 (.agg (.pair (.at ap (a0,.map (some m))) (.eq z.1))),.sl z.1 23 .val (fR z.2 0 q2),.sl v 3 (.int .i64) l2]:=fun v=>by
     subst hJ
     refine JD.step [0,1,7] (by kernel_rfl) rfl ?_
     refine cp.cons rfl ?_ ?_
     ·
      refine ax rfl rfl ?_
      exact aA (s97 v) [0,1,2] ⟨rfl,rfl,rfl,rfl,rfl,rfl,rfl,rfl,rfl,rfl,trivial⟩
     refine cp.cons rfl ?_ ?_
     ·
      refine ax rfl rfl ?_
      exact aA (s98 v) [0,1,2] ⟨rfl,rfl,rfl,rfl,rfl,rfl,rfl,rfl,rfl,rfl,trivial⟩
     refine cp.cons rfl ?_ ?_
     ·
      refine bg 2 rfl ?_
      refine fQ fun hv=>?_
      refine ay rfl (bq (t:=.val) [(.tmp 45,.eq v)] [v] rfl rfl nn (.cons hv (.val hv) .nil) rfl rfl) ⟨rfl,trivial⟩ ?_
      exact aA (s224 v) [1,2,0] ⟨rfl,rfl,rfl,rfl,rfl,rfl,rfl,rfl,rfl,rfl,trivial⟩
     exact trivial
    have s1:J 11 [true,false,false,false,false,false,false,false,false,false,false,false] (eT [true,false,false,false,false,false,false,false,false,false,false,false] (lD y z.1 l undef undef)++kN b2 y L.1 q1 l a1) [.obj y 128 (.agg (.pair (.at ap (a0,.map (some m))) (.eq z.1))),.sl z.1 23 .val (fR z.2 0 q2)]:=by
     subst hJ
     refine JD.step [1,5] (by kernel_rfl) rfl ?_
     refine cp.cons rfl ?_ ?_
     ·
      refine ax rfl rfl ?_
      exact aA (s3) [0,1] ⟨rfl,rfl,rfl,rfl,rfl,rfl,rfl,rfl,rfl,trivial⟩
     refine cp.cons rfl ?_ ?_
     ·
      refine ax rfl rfl ?_
      exact aA (s33) [0,1] ⟨rfl,rfl,rfl,rfl,rfl,rfl,rfl,rfl,rfl,trivial⟩
     exact trivial
    have s2:J 11 [false,true,false,false,false,false,false,false,false,false,false,false] (eT [false,true,false,false,false,false,false,false,false,false,false,false] (lD y z.1 l undef undef)++kN b2 y L.1 q1 l a1) [.obj y 128 (.agg (.pair (.at ap (a0,.map (some m))) (.eq z.1))),.sl z.1 23 .val (fR z.2 0 q2)]:=by
     subst hJ
     refine JD.step [0,2,5] (by kernel_rfl) rfl ?_
     refine cp.cons rfl ?_ ?_
     ·
      refine ax rfl rfl ?_
      exact aA (s3) [0,1] ⟨rfl,rfl,rfl,rfl,rfl,rfl,rfl,rfl,rfl,trivial⟩
     refine cp.cons rfl ?_ ?_
     ·
      refine ay rfl (aQ rfl) ⟨rfl,trivial⟩ ?_
      exact aA (s6) [0,1] ⟨rfl,rfl,rfl,rfl,rfl,rfl,rfl,rfl,rfl,trivial⟩
     refine cp.cons rfl ?_ ?_
     ·
      refine ax rfl rfl ?_
      exact aA (s34) [0,1] ⟨rfl,rfl,rfl,rfl,rfl,rfl,rfl,rfl,rfl,trivial⟩
     exact trivial
    have s32:J 11 [false,false,false,false,false,true,false,false,false,false,false,false] (eT [false,false,false,false,false,true,false,false,false,false,false,false] (lD y z.1 l undef undef)++kN b2 y L.1 q1 l a1) [.obj y 128 (.agg (.pair (.at ap (a0,.map (some m))) (.eq z.1))),.sl z.1 23 .val (fR z.2 0 q2)]:=by
     subst hJ
     refine JD.step [0,1,6] (by kernel_rfl) rfl ?_
     refine cp.cons rfl ?_ ?_
     ·
      refine ax rfl rfl ?_
      exact aA (s33) [0,1] ⟨rfl,rfl,rfl,rfl,rfl,rfl,rfl,rfl,rfl,trivial⟩
     refine cp.cons rfl ?_ ?_
     ·
      refine ax rfl rfl ?_
      exact aA (s34) [0,1] ⟨rfl,rfl,rfl,rfl,rfl,rfl,rfl,rfl,rfl,trivial⟩
     refine cp.cons rfl ?_ ?_
     ·
      refine aB rfl rfl rfl (an [.tmp 44] rfl rfl pG rfl cc) ⟨rfl,trivial⟩ fun v=>?_
      exact aA (s96 v) [1,2,0] ⟨rfl,rfl,rfl,rfl,rfl,rfl,rfl,rfl,rfl,trivial⟩
     exact trivial
    have s0:J 12 [false,false,false,false,false,false,false,false,false,false,false,false] (eT [false,false,false,false,false,false,false,false,false,false,false,false] (lD y z.1 l undef undef)++kN b2 y L.1 q1 l a1) [.obj y 128 (.agg (.pair (.at ap (a0,.map (some m))) (.eq z.1))),.sl z.1 23 .val (fR z.2 0 q2)]:=by
     subst hJ
     refine JD.step [0,1,5] (by kernel_rfl) rfl ?_
     refine cp.cons rfl ?_ ?_
     ·
      refine ax rfl rfl ?_
      exact aA (s1) [0,1] ⟨rfl,rfl,rfl,rfl,rfl,rfl,rfl,rfl,trivial⟩
     refine cp.cons rfl ?_ ?_
     ·
      refine ax rfl rfl ?_
      exact aA (s2) [0,1] ⟨rfl,rfl,rfl,rfl,rfl,rfl,rfl,rfl,trivial⟩
     refine cp.cons rfl ?_ ?_
     ·
      refine ax rfl rfl ?_
      exact aA (s32) [0,1] ⟨rfl,rfl,rfl,rfl,rfl,rfl,rfl,rfl,trivial⟩
     exact trivial
    exact s0
   ·
    exact fun a w st=>⟨rfl,p,st⟩
  ·
   subst hB
   refine aO ?_
   refine ae ?_
   refine bN (iq (Δ':=.sl p.1 3 (.int .i64) l2:: .sl p.2 23 .val (fR z.2 0 q2++[p.1])::([.obj y 128 (.agg (.pair (.at ap (a0,.map (some m))) (.eq p.2))),.inv m (bu k a0),.obj b2 25 (.rep aH a0),.inv 0 gx]++lF z.2 0 q2)) ?_) ?_
   ·
    exact List.Perm.trans (List.Perm.swap _ _ _) (List.Perm.trans (List.Perm.cons _ (List.Perm.swap _ _ _)) (List.Perm.swap _ _ _))
   refine bN (Ei (pre:=[.obj y 128 (.agg (.pair (.at ap (a0,.map (some m))) (.eq p.2))),.inv m (bu k a0),.obj b2 25 (.rep aH a0),.inv 0 gx])) ?_
   show JC _ _ _ _ _
   refine aa ?_
   obtain⟨w3,ew,h⟩:=ab h
   refine ay rfl (bD rfl ew) ⟨rfl,rfl,trivial⟩ ?_
   refine ax rfl rfl ?_
   refine ak ?_
   refine ae ?_
   exact j9 ((p.2,rS z.2 q2.length p.1),(w3,q2++[l2])) h (bB [.obj y 128 (.agg (.pair (.at ap (a0,.map (some m))) (.eq p.2))),.inv m (bu k a0),.obj b2 25 (.rep aH a0),.inv 0 gx] (iS 23 (p.2,rS z.2 q2.length p.1) (q2++[l2])) [0,1,2,3] ⟨rfl,rfl,rfl,rfl,rfl,rfl,trivial⟩ rfl)
 replace h:=bS (pe hb) h
 refine eS ?_
 refine aY ?_
 refine aY ?_
 refine bZ ?_
 refine ae ?_
 show JC _ _ _ _ _
 replace h:((iR k a0 k (0,[],q.2)).bind fun p=>(kL k a0 p.1 p.2).bind fun b=>if(!b.2.2.1 || decide (L.1≤b.2.1))=true then some (0,0,0,11) else some (b.1.1,b.1.2,b.2.1,0)).bind some=some r:=h
 rw [Option.bind_assoc] at h
 generalize q.2=ls at h⊢
 refine ah ?_
 refine aa ?_
 refine dx rfl ?_
 refine bX (SE.nil 131 eE) ?_
 refine ak ?_
 refine ae ?_
 show JC _ _ _ _ _
 refine fX (bB (Γ':=[(2,.eq (bP b2)),(8,.eq (.int .i64 L.1)),(10,.eq (bP y)),(13,.eq (.slice none 0 0))]) (pre':=[.inv m (bu k a0),.obj b2 25 (.rep aH a0),.inv 0 gx,.sl (.slice none 0 0) 131 eE [],.obj y 128 (.agg (.pair (.at ap (a0,.map (some m))) (.eq z.1)))]) [.sl (.slice none 0 0) 131 eE [],.obj y 128 (.agg (.pair (.at ap (a0,.map (some m))) (.eq z.1))),.inv m (bu k a0),.obj b2 25 (.rep aH a0),.inv 0 gx] (iS 23 z ls) [2,3,4,0,1] ⟨rfl,rfl,rfl,rfl,trivial⟩ rfl) ?_
 refine ah ?_
 refine ah ?_
 refine aa ?_
 refine ay rfl (av rfl KH) ⟨rfl,trivial⟩ ?_
 refine bg 1 rfl ?_
 refine bI rfl rfl rfl (aj rfl Kq lq rfl) ⟨rfl,trivial⟩ ?_
 refine ay rfl (mt rfl rfl ta) ⟨rfl,trivial⟩ ?_
 refine eB rfl ?_
 refine ak ?_
 refine ae ?_
 show JC _ _ _ _ _
 refine ao ?_
 refine aR (Z:=Value) (α:=Int×List (Int×Int)×List (List Int)) (fun c q=>[(2,.eq (bP b2)),(8,.eq (.int .i64 L.1)),(10,.eq (bP y)),(13,.eq c),(53,.eq (.int .i64 (a0.2.1.length:Int))),(54,.eq (.int .i64 q.1))]) (fun c q=>[.obj b2 25 (.rep aH a0),.inv m (bu k a0),.inv 0 gx,.sl c 131 eE q.2.1,.obj y 128 (.agg (.pair (.at ap (a0,.map (some m))) (.eq z.1)))]++iS 23 z q.2.2) (iR k a0) k (.slice none 0 0) (0,[],ls) (fun _=>rfl) h (bB [.obj b2 25 (.rep aH a0),.inv m (bu k a0),.inv 0 gx,.sl (.slice none 0 0) 131 eE [],.obj y 128 (.agg (.pair (.at ap (a0,.map (some m))) (.eq z.1)))] (iS 23 z ls) [0,1,2,3,4] ⟨rfl,rfl,rfl,rfl,rfl,rfl,trivial⟩ rfl) (fun n c q h=>?_)
 obtain⟨q1,qp,ql⟩:=q
 unfold iR at h
 refine ah ?_
 refine aa ?_
 refine ay rfl (bJ rfl) ⟨rfl,rfl,trivial⟩ ?_
 refine ak ?_
 refine ae ?_
 show JC _ _ _ _ _
 refine ah ?_
 refine bm rfl (fun hb=>?_) (fun hb=>?_)
 ·
  replace h:=cZ (pH hb) h
  obtain⟨w,ew,h⟩:=ab h
  rw [Option.bind_assoc] at h
  refine aV ?_
  refine ae ?_
  show JC _ _ _ _ _
  refine ah ?_
  refine ao ?_
  refine ah ?_
  refine aa ?_
  refine ax rfl rfl ?_
  refine c9 rfl rfl ?_
  refine ak ?_
  refine ae ?_
  show JC _ _ _ _ _
  refine ah ?_
  refine aa ?_
  refine ax rfl rfl ?_
  refine ay rfl (bD rfl ew) ⟨rfl,rfl,trivial⟩ ?_
  refine c9 rfl rfl ?_
  refine ak ?_
  refine ae ?_
  show JC _ _ _ _ _
  refine ao ?_
  refine aR (Z:=Value) (α:=Int×List (Int×Int)×List (List Int)) (fun c q=>[(2,.eq (bP b2)),(8,.eq (.int .i64 L.1)),(10,.eq (bP y)),(13,.eq c),(14,.eq (.int .i64 q1)),(15,.eq (.int .i64 q.1)),(53,.eq (.int .i64 (a0.2.1.length:Int))),(54,.eq (.int .i64 q1))]) (fun c q=>[.obj b2 25 (.rep aH a0),.inv m (bu k a0),.inv 0 gx,.sl c 131 eE q.2.1,.obj y 128 (.agg (.pair (.at ap (a0,.map (some m))) (.eq z.1)))]++iS 23 z q.2.2) (jN k a0 q1) k c (w,qp,ql) (fun _=>rfl) h (bB [.obj b2 25 (.rep aH a0),.inv m (bu k a0),.inv 0 gx,.sl c 131 eE qp,.obj y 128 (.agg (.pair (.at ap (a0,.map (some m))) (.eq z.1)))] (iS 23 z ql) [0,1,2,3,4] ⟨rfl,rfl,rfl,rfl,rfl,rfl,rfl,rfl,trivial⟩ rfl) (fun n3 c q h=>?_)
  obtain⟨j,rp,rl⟩:=q
  unfold jN at h
  refine ah ?_
  refine ah ?_
  refine aa ?_
  refine ax rfl rfl ?_
  refine ay rfl (av rfl KH) ⟨rfl,trivial⟩ ?_
  refine bI rfl rfl rfl (aj rfl Kq lq rfl) ⟨rfl,trivial⟩ ?_
  refine ay rfl (mt rfl rfl ta) ⟨rfl,trivial⟩ ?_
  refine ay rfl (bJ rfl) ⟨rfl,rfl,trivial⟩ ?_
  refine ak ?_
  refine ae ?_
  show JC _ _ _ _ _
  refine bm rfl (fun hb=>?_) (fun hb=>?_)
  ·
   replace h:=cZ (pH hb) h
   obtain⟨r1,Q,h⟩:=ab h
   have cv:=rL k a0 (q1,j) rl r1 y m z Q
   refine aV ?_
   refine ae ?_
   show JC _ _ _ _ _
   refine ah ?_
   refine ao ?_
   refine ah ?_
   refine aa ?_
   refine ax rfl rfl ?_
   refine ax rfl rfl ?_
   refine ay rfl (cO [(0,.tmp 66,_),(1,.tmp 67,_)] rfl Le rH JJ (io ⟨rfl,rfl,trivial⟩) rfl) ⟨rfl,rfl,trivial⟩ ?_
   refine aB rfl rfl rfl (aS rfl rH uN) trivial fun e=>?_
   refine aX rfl rfl (aP rfl fZ trivial rfl rfl) ⟨rfl,rfl,trivial⟩ ?_
   refine bX (pn (a':=.rep eE (q1,j)) PX) ?_
   refine ak ?_
   refine ae ?_
   show JC _ _ _ _ _
   refine ah ?_
   refine aa ?_
   refine ax rfl rfl ?_
   refine bI rfl rfl rfl (aj rfl fZ (yb) rfl) ⟨rfl,trivial⟩ ?_
   refine bX (iq (Δ':=([.obj y 128 (.agg (.pair (.at ap (a0,.map (some m))) (.eq z.1)))]++iS 23 z rl)++[.obj e 131 (.rep eE (q1,j)),.obj b2 25 (.rep aH a0),.inv m (bu k a0),.inv 0 gx,.sl c 131 eE rp]) (List.perm_append_comm (l₁:=([.obj e 131 (.rep eE (q1,j)),.obj b2 25 (.rep aH a0),.inv m (bu k a0),.inv 0 gx,.sl c 131 eE rp]:List D)))) ?_
   refine bG (Δ:=_++_) (F:=[_,_,_,_,_]) (fun _ _ _=>au rfl _) rfl rfl (an [.tmp 69,.tmp 70] rfl rfl ON rfl cv) ⟨rfl,rfl,trivial⟩ fun _=>?_
   refine bX (iq (Δ':=[.obj e 131 (.rep eE (q1,j)),.obj b2 25 (.rep aH a0),.inv m (bu k a0),.inv 0 gx,.sl c 131 eE rp]++([.obj y 128 (.agg (.pair (.at ap (a0,.map (some m))) (.eq z.1)))]++iS 23 z r1.2)) List.perm_append_comm) ?_
   refine ak ?_
   refine ae ?_
   show JC _ _ _ _ _
   refine bm rfl (fun hb=>?_) (fun hb=>?_)
   ·
    replace h:=cZ (EB hb) h
    have hk:bR (rp.length+1):=by
     apply Classical.byContradiction
     intro hn
     rw [if_neg hn] at h
     cases h
    replace h:=cZ hk h
    refine aa ?_
    refine ax rfl rfl ?_
    refine bI rfl rfl rfl (aj rfl fZ (yb) rfl) ⟨rfl,trivial⟩ ?_
    refine ay rfl (bq (t:=eE) [(.tmp 73,_)] [(q1,j)] rfl rfl E5 (.cons rfl .rep .nil) rfl rfl) ⟨rfl,trivial⟩ ?_
    refine bg 4 rfl ?_
    refine dG rfl rfl rfl (cC rfl rfl E5 (by simpa using hk)) ⟨rfl,rfl,trivial⟩ fun v'=>?_
    refine c9 rfl rfl ?_
    refine ak ?_
    refine aO ?_
    refine ae ?_
    show JC _ _ _ _ _
    refine aa ?_
    refine ax rfl rfl ?_
    obtain⟨w2,ew2,h⟩:=ab h
    refine ay rfl (bD rfl ew2) ⟨rfl,rfl,trivial⟩ ?_
    refine c9 rfl rfl ?_
    refine ak ?_
    refine ae ?_
    exact j9 (v',(w2,rp++[(q1,j)],r1.2)) h (bB [.sl v' 131 eE (rp++[(q1,j)]),.obj e 131 (.rep eE (q1,j)),.obj b2 25 (.rep aH a0),.inv m (bu k a0),.inv 0 gx,.obj y 128 (.agg (.pair (.at ap (a0,.map (some m))) (.eq z.1)))] (iS 23 z r1.2) [2,3,4,0,5] ⟨rfl,rfl,rfl,rfl,rfl,rfl,rfl,rfl,trivial⟩ rfl)
   ·
    replace h:=bS (EC hb) h
    refine aV ?_
    refine aO ?_
    refine ae ?_
    show JC _ _ _ _ _
    refine aa ?_
    refine ax rfl rfl ?_
    obtain⟨w2,ew2,h⟩:=ab h
    refine ay rfl (bD rfl ew2) ⟨rfl,rfl,trivial⟩ ?_
    refine c9 rfl rfl ?_
    refine ak ?_
    refine ae ?_
    exact j9 (c,(w2,rp,r1.2)) h (bB [.obj e 131 (.rep eE (q1,j)),.obj b2 25 (.rep aH a0),.inv m (bu k a0),.inv 0 gx,.sl c 131 eE rp,.obj y 128 (.agg (.pair (.at ap (a0,.map (some m))) (.eq z.1)))] (iS 23 z r1.2) [1,2,3,4,5] ⟨rfl,rfl,rfl,rfl,rfl,rfl,rfl,rfl,trivial⟩ rfl)
  replace h:=bS (pe hb) h
  refine eS ?_
  refine aY ?_
  refine aY ?_
  refine bZ ?_
  refine aO ?_
  refine ae ?_
  show JC _ _ _ _ _
  replace h:(iR k a0 n (w,rp,rl)).bind _=some r:=h
  refine aa ?_
  refine ay rfl (bD rfl ew) ⟨rfl,rfl,trivial⟩ ?_
  refine ax rfl rfl ?_
  refine ak ?_
  refine ae ?_
  exact j9 (c,(w,rp,rl)) h (bB [.obj b2 25 (.rep aH a0),.inv m (bu k a0),.inv 0 gx,.sl c 131 eE rp,.obj y 128 (.agg (.pair (.at ap (a0,.map (some m))) (.eq z.1)))] (iS 23 z rl) [0,1,2,3,4] ⟨rfl,rfl,rfl,rfl,rfl,rfl,trivial⟩ rfl)
 replace h:=bS (pe hb) h
 refine eS ?_
 refine aY ?_
 refine aY ?_
 refine bZ ?_
 refine ae ?_
 show JC _ _ _ _ _
 replace h:((kL k a0 qp ql).bind fun b=>if(!b.2.2.1 || decide (L.1≤b.2.1))=true then some (0,0,0,11) else some (b.1.1,b.1.2,b.2.1,0)).bind some=some r:=h
 obtain⟨b,eb,h⟩:=ab h
 have cx:=uZ k a0 qp ql b y m z eb
 refine ah ?_
 refine aa ?_
 refine ax rfl rfl ?_
 refine ay rfl (rZ [.tmp 78] [] [bP y] [] rfl rfl rfl) ⟨rfl,trivial⟩ ?_
 refine bg 3 rfl ?_
 refine bX (ix [13] ⟨rfl,trivial⟩) ?_
 refine ax rfl rfl ?_
 refine bX (bB (Γ':=[(8,.eq (.int .i64 L.1)),(79,.eq (.func (.func 100) #[bP y] #[])),(80,Rs eE qp)]) (pre':=[.inv 0 gx,.obj b2 25 (.rep aH a0),.inv m (bu k a0),.obj y 128 (.agg (.pair (.at ap (a0,.map (some m))) (.eq z.1)))]) [.obj b2 25 (.rep aH a0),.inv m (bu k a0),.inv 0 gx,.obj y 128 (.agg (.pair (.at ap (a0,.map (some m))) (.eq z.1)))] (iS 23 z ql) [2,0,1,3] ⟨rfl,rfl,rfl,trivial⟩ rfl) ?_
 refine bX (iq (Δ':=([.inv m (bu k a0),.obj y 128 (.agg (.pair (.at ap (a0,.map (some m))) (.eq z.1)))]++iS 23 z ql)++[.inv 0 gx,.obj b2 25 (.rep aH a0)]) (List.perm_append_comm (l₁:=([.inv 0 gx,.obj b2 25 (.rep aH a0)]:List D)))) ?_
 refine bG (Δ:=_++_) (F:=[_,_]) (fun _ _ _=>au rfl _) rfl rfl (fh [.tmp 79,.tmp 80] rfl rfl OM rfl cx) ⟨rfl,rfl,trivial⟩ fun _=>?_
 refine bX (iq (Δ':=[.inv 0 gx,.obj b2 25 (.rep aH a0)]++([.inv m (bu k a0),.obj y 128 (.agg (.pair (.at ap (a0,.map (some m))) (.eq z.1)))]++iS 23 z b.2.2.2)) List.perm_append_comm) ?_
 refine ax rfl rfl ?_
 refine ay rfl (gq rfl rfl) ⟨rfl,trivial⟩ ?_
 refine ay rfl (gq rfl rfl) ⟨rfl,trivial⟩ ?_
 refine ay rfl (gq rfl rfl) ⟨rfl,trivial⟩ ?_
 refine aB rfl rfl rfl (aS rfl rH uN) trivial fun s=>?_
 refine aX rfl rfl (aP rfl fZ rfl rfl rfl) ⟨rfl,rfl,trivial⟩ ?_
 refine c9 rfl rfl ?_
 refine c9 rfl rfl ?_
 refine ak ?_
 refine ae ?_
 show JC _ _ _ _ _
 obtain⟨bx,bn,bo,bl⟩:=b
 cases bo with
 |false=>
  replace h:some (0,0,0,11)=some r:=by simpa using h
  obtain rfl:=Option.some.inj h
  refine ah ?_
  refine ah ?_
  refine aa ?_
  refine ax rfl rfl ?_
  refine ay rfl (fJ rfl) ⟨rfl,trivial⟩ ?_
  refine ax rfl rfl ?_
  refine xT rfl rfl rfl rfl rfl rfl rfl ?_
  refine xT rfl rfl rfl rfl rfl rfl rfl ?_
  refine xT rfl rfl rfl rfl rfl rfl rfl ?_
  refine ay rfl (mo rfl) ⟨rfl,rfl,trivial⟩ ?_
  refine ak ?_
  refine ae ?_
  show JC _ _ _ _ _
  refine bm rfl (fun hb=>?_) (fun hb=>(by cases hb))
  refine ah ?_
  refine aa ?_
  refine dx rfl ?_
  refine dx rfl ?_
  refine dx rfl ?_
  refine dx rfl ?_
  refine ak ?_
  refine ae ?_
  show JC _ _ _ _ _
  refine aC ?_
  refine ba ?_
  refine eP 1 rfl ?_
  exact aK () [_,_,_,_] 1 ⟨rfl,rfl,rfl,rfl,trivial⟩ rfl
 |true=>
  refine ah ?_
  refine ah ?_
  refine aa ?_
  refine ax rfl rfl ?_
  refine ay rfl (fJ rfl) ⟨rfl,trivial⟩ ?_
  refine ax rfl rfl ?_
  refine lY rfl rfl rfl rfl rfl rfl (bU rfl) ⟨rfl,trivial⟩ ?_
  refine lY rfl rfl rfl rfl rfl rfl (bU rfl) ⟨rfl,trivial⟩ ?_
  refine lY rfl rfl rfl rfl rfl rfl (sU rfl) ⟨rfl,rfl,trivial⟩ ?_
  refine ay rfl (nP rfl) ⟨rfl,rfl,trivial⟩ ?_
  refine ak ?_
  refine ae ?_
  show JC _ _ _ _ _
  refine bm rfl (fun hb=>?_) (fun hb=>?_)
  ·
   have hd:L.1≤bn:=of_decide_eq_true hb
   replace h:some (0,0,0,11)=some r:=by simpa [hd] using h
   obtain rfl:=Option.some.inj h
   refine ah ?_
   refine aa ?_
   refine dx rfl ?_
   refine dx rfl ?_
   refine dx rfl ?_
   refine dx rfl ?_
   refine ak ?_
   refine ae ?_
   show JC _ _ _ _ _
   refine aC ?_
   refine ba ?_
   refine eP 1 rfl ?_
   exact aK () [_,_,_,_] 1 ⟨rfl,rfl,rfl,rfl,trivial⟩ rfl
  ·
   have hd:¬L.1≤bn:=of_decide_eq_false hb
   replace h:some (bx.1,bx.2,bn,0)=some r:=by simpa [hd] using h
   refine aV ?_
   refine ae ?_
   obtain rfl:=Option.some.inj h
   show JC _ _ _ _ _
   refine ah ?_
   refine zS (Δ:=[.obj s 131 (.rep eE bx)]) (F:=[.inv 0 gx,.obj b2 25 (.rep aH a0),.inv m (bu k a0),.obj y 128 (.agg (.pair (.at ap (a0,.map (some m))) (.eq z.1)))]++iS 23 z bl) (Z:=Unit) (fun _=>[(4,.eq (.int .i64 bx.1)),(5,.eq (.int .i64 bx.2)),(6,.eq (.int .i64 bn)),(7,.eq (.int .i64 0))]) (fun _=>[.obj s 131 (.rep eE bx)]) (fun S w=>?_) (fun _=>?_)
   ·
    refine fX (SE.sub (Γ':=[(17,.eq (bP s)),(18,.eq (.int .i64 bn))]) ⟨rfl,rfl,trivial⟩) ?_
    refine mI ?_
    refine cJ rfl rfl rfl (av rfl LP) ⟨rfl,trivial⟩ ?_
    refine gB 0 rfl rfl rfl rfl (aj rfl tf lq rfl) ⟨rfl,trivial⟩ ?_
    refine cJ rfl rfl rfl (av rfl LO) ⟨rfl,trivial⟩ ?_
    refine gB 0 rfl rfl rfl rfl (aj rfl tf lq rfl) ⟨rfl,trivial⟩ ?_
    refine cJ rfl rfl rfl (bU rfl) ⟨rfl,trivial⟩ ?_
    refine sO 5 [true,true,false,false,false] [4,5,6,7] [0] [.obj s 131 (.rep eE bx)] rfl (by kernel_rfl) (by kernel_rfl) (by kernel_rfl) qi (fun vs hv hB=>?_)
    obtain⟨u0,mc,rfl,O⟩:=aD hv
    obtain⟨u1,ac,rfl,M⟩:=aD O
    obtain⟨u2,Y,rfl,E⟩:=aD M
    obtain⟨u3,X,rfl,x⟩:=aD E
    obtain⟨u4,U,rfl,u⟩:=aD x
    obtain rfl:=oZ u
    refine⟨[0],[],by kernel_rfl,by decide,?_⟩
    refine sM rfl rfl rfl rfl (jO rfl) ⟨rfl,trivial⟩ (by kernel_rfl) ?_
    refine sM rfl rfl rfl rfl (jO rfl) ⟨rfl,trivial⟩ (by kernel_rfl) ?_
    refine sM rfl rfl rfl rfl (jO rfl) ⟨rfl,trivial⟩ (by kernel_rfl) ?_
    refine sM rfl rfl rfl rfl (jO rfl) ⟨rfl,trivial⟩ (by kernel_rfl) ?_
    refine uR ?_
    exact fun a w st=>⟨rfl,(),(SE.fin (Γ':=[(4,.eq (.int .i64 bx.1)),(5,.eq (.int .i64 bx.2)),(6,.eq (.int .i64 bn)),(7,.eq (.int .i64 0))]) [0] ⟨rfl,rfl,rfl,rfl,trivial⟩ rfl) a w st⟩
   ·
    refine ae ?_
    show JC _ _ _ _ _
    refine aC ?_
    refine eP 1 rfl ?_
    exact aK () [_,_,_,_] 1 ⟨rfl,rfl,rfl,rfl,trivial⟩ rfl
def mO(k:Nat)(a0:(List Int))(a1:cS)(a2:(List (List Int)))(a3:Int)(a4:Int):Option Int:=
 (eF k a1 a2).bind fun r1=>
 (bv r1 a3).bind fun x3=>
 (dC k (List.set r1 (Int.toNat a3) a0)).bind fun r4=>
 (fo k a1 r4 a4).bind fun r5=>
 some r5
theorem te(k:Nat)(a0:(List Int))(a1:cS)(l:Nat)(a2:(List (List Int)))(j:Nat)(a3:Int)(e:Nat)(a4:Int)(c:Nat)(r:Int)(h:mO k a0 a1 a2 a3 a4=some r):
 dc (iu Tryz.prog) 104 [Ri a0,Pt l,Pt j,Pt e,Pt c] [.obj l 102 (.at bj a1),.obj j 107 (.rep (.arr 3 (.arr 5 (.int .i64))) a2),.obj e 3 (I a3),.obj c 3 (I a4)] (fun _:Unit=>(bz [I r],[.obj l 102 (.at bj a1),.obj j 107 (.rep (.arr 3 (.arr 5 (.int .i64))) a2),.obj e 3 (I a3),.obj c 3 (I a4)])):=by
 unfold mO at h
 replace h:=be h
 refine dc.of 20 Tryz.func104 rfl Tryz.ntmps104 rfl fun S w0=>?_
 refine sr ?_
 refine cq ?_
 refine nt ?_
 refine sr ?_
 refine lo qJ ?_
 refine fr 1 ?_
 refine lo cQ ?_
 obtain⟨r1,x,h⟩:=ab h
 have E:=i7 k a1 a2 r1 x
 refine aB rfl rfl rfl (an [.tmp 8,.tmp 9] rfl rfl Mc rfl E) ⟨rfl,rfl,trivial⟩ fun v2=>?_
 refine aq ?_
 refine nt ?_
 refine sr ?_
 refine mq ?_
 refine fr 3 ?_
 refine lo dJ ?_
 refine mq ?_
 obtain⟨x3,n,h⟩:=ab h
 refine fr 1 ?_
 refine kb (bT (t:=(.slice (.int .i64))) rfl s9 de n) ?_
 refine aX rfl rfl (fg (i:=Int.toNat a3) rfl de rfl (kw n) rfl .rep rfl) ⟨rfl,rfl,trivial⟩ ?_
 refine nt ?_
 refine ah ?_
 refine fX (ix [7,10,11] ⟨rfl,rfl,rfl,trivial⟩) ?_
 refine cm ?_
 refine ea 2 (aj rfl qJ lq rfl) ?_
 refine dm ?_
 obtain⟨r4,u,h⟩:=ab h
 have D:=eG k (List.set r1 (Int.toNat a3) a0) r4 u
 refine da (an [.tmp 16] rfl rfl D9 rfl D) ?_
 refine ea 3 (aj rfl dJ lq rfl) ?_
 refine df fN ?_
 obtain⟨r5,s,h⟩:=ab h
 have y:=lA k a1 r4 a4 r5 s
 refine jc (fh [.tmp 15,.tmp 17,.tmp 18] rfl rfl KR rfl y) ?_
 refine aq ?_
 refine nt ?_
 refine aC ?_
 refine bN (SE.fin (Γ':=[(6,_)]) [2,1,0,3] ⟨rfl,trivial⟩ rfl) ?_
 cases h
 exact aK () [_] 4 ⟨rfl,trivial⟩ rfl
def gK(k:Nat)(a0_0:cS)(a0_1:(List (List Int)))(a0_2:Int)(a0_3:Int)(a1:(List (List Int))):Nat→((List Int)×Int×Bool×Int)→Option ((List Int)×Int×Bool)
 |0,_=>none
 |n+1,y3=>
  if y3.2.2.2 < (a1.length:Int) then((((bv a1 y3.2.2.2).bind fun x7=>
  (mO k x7 a0_0 a0_1 a0_2 a0_3).bind fun r8=>
  ((if¬(y3.2.2.1=true) then(some true) else(some (decide (r8 < y3.2.1)))):Option (Bool)).bind fun x9=>
  if x9=true then(some (x7,r8,true)) else(some (y3.1,y3.2.1,y3.2.2.1))):Option ((List Int)×Int×Bool)).bind fun x5=>
  (ck (y3.2.2.2+1)).bind fun c=>
  gK k a0_0 a0_1 a0_2 a0_3 a1 n (x5.1,x5.2.1,x5.2.2,c)) else(some (y3.1,y3.2.1,y3.2.2.1))
def kM(k:Nat)(a0_0:cS)(a0_1:(List (List Int)))(a0_2:Int)(a0_3:Int)(a1:(List (List Int))):Option ((List Int)×Int×Bool):=
 ((gK k a0_0 a0_1 a0_2 a0_3 a1 k ([],0,false,0)):Option ((List Int)×Int×Bool)).bind fun x1=>
 some (x1.1,x1.2.1,x1.2.2)
theorem qE(k:Nat)(a0_0:cS)(c_a0_0:Nat)(a0_1:(List (List Int)))(c_a0_1:Nat)(a0_2:Int)(c_a0_2:Nat)(a0_3:Int)(c_a0_3:Nat)(a1:(List (List Int)))(r:(List Int)×Int×Bool)(h:kM k a0_0 a0_1 a0_2 a0_3 a1=some r):
 dc (iu Tryz.prog) 106 [.eq (.func (.func 104) #[] #[(Pv c_a0_0),(Pv c_a0_1),(Pv c_a0_2),(Pv c_a0_3)]),.rep (.slice (.slice (.int .i64))) a1] [.obj c_a0_0 102 (.at bj a0_0),.obj c_a0_1 107 (.rep (.arr 3 (.arr 5 (.int .i64))) a0_1),.obj c_a0_2 3 (I a0_2),.obj c_a0_3 3 (I a0_3)] (fun _:Unit=>(bz [Ri r.1,I r.2.1,.eq (.bool r.2.2)],[.obj c_a0_0 102 (.at bj a0_0),.obj c_a0_1 107 (.rep (.arr 3 (.arr 5 (.int .i64))) a0_1),.obj c_a0_2 3 (I a0_2),.obj c_a0_3 3 (I a0_3)])):=by
 unfold kM at h
 replace h:=be h
 refine dc.of 35 Tryz.func106 rfl Tryz.ntmps106 rfl fun S w0=>?_
 refine sr ?_
 refine cq ?_
 refine cq ?_
 refine cq ?_
 refine nt ?_
 refine sr ?_
 refine cq ?_
 refine nt ?_
 refine sr ?_
 refine cq ?_
 refine cq ?_
 refine nt ?_
 refine aW (Z:=Unit) (α:=(List Int)×Int×Bool) (fun z2 x1=>[(7,Ri x1.1),(8,I x1.2.1),(9,.eq (.bool x1.2.2))]) (fun z2 x1=>[.obj c_a0_0 102 (.at bj a0_0),.obj c_a0_1 107 (.rep (.arr 3 (.arr 5 (.int .i64))) a0_1),.obj c_a0_2 3 (I a0_2),.obj c_a0_3 3 (I a0_3)]) h (fun K h=>?_) (fun z2 x1 h=>?_)
 ·
  refine sr (mq ?_);refine ol s9 ?_;refine eB rfl ?_;refine nt (ao (fX (m9 (t:=(.slice (.int .i64))) (x:=[]) 7 rfl .nil rfl rfl) ?_));refine aR (fun z4 y3=>[(0,.eq (.func (.func 104) #[] #[(Pv c_a0_0),(Pv c_a0_1),(Pv c_a0_2),(Pv c_a0_3)])),(7,Ri y3.1),(8,I y3.2.1),(9,.eq (.bool y3.2.2.1)),(13,.rep (.slice (.slice (.int .i64))) a1),(14,I (a1.length:Int)),(15,I y3.2.2.2)]) (fun z4 y3=>[.obj c_a0_0 102 (.at bj a0_0),.obj c_a0_1 107 (.rep (.arr 3 (.arr 5 (.int .i64))) a0_1),.obj c_a0_2 3 (I a0_2),.obj c_a0_3 3 (I a0_3)]) (gK k a0_0 a0_1 a0_2 a0_3 a1) k () ([],0,false,0) (fun _=>rfl) h (SE.fin [0,1,2,3] ⟨rfl,rfl,rfl,rfl,rfl,rfl,rfl,trivial⟩ rfl) (fun n z4 y3 h=>?_);unfold gK at h;refine sr (jb (bJ rfl) ?_);refine nt (ah (ci h (fun h=>?_) (fun h=>?_)))
  ·refine sk (aW (Z:=Unit) (α:=(List Int)×Int×Bool) (fun z6 x5=>[(0,.eq (.func (.func 104) #[] #[(Pv c_a0_0),(Pv c_a0_1),(Pv c_a0_2),(Pv c_a0_3)])),(7,Ri x5.1),(8,I x5.2.1),(9,.eq (.bool x5.2.2)),(13,.rep (.slice (.slice (.int .i64))) a1),(14,I (a1.length:Int)),(15,I y3.2.2.2)]) (fun z6 x5=>[.obj c_a0_0 102 (.at bj a0_0),.obj c_a0_1 107 (.rep (.arr 3 (.arr 5 (.int .i64))) a0_1),.obj c_a0_2 3 (I a0_2),.obj c_a0_3 3 (I a0_3)]) h (fun K h=>?_) (fun z6 x5 h=>?_))
   ·refine ao (sr ?_);obtain⟨x7,l,h⟩:=ab h;refine jb (a8 (t:=(.slice (.int .i64))) rfl s9 de l) ?_;refine ja (ar (t:=(.slice (.int .i64))) rfl de rfl) ?_;refine aq (nt (sr ?_));iterate 2 refine mq ?_
    obtain⟨r8,u,h⟩:=ab h;refine fr 3 ?_;refine fr 3 ?_;refine fr 3 ?_;refine fr 3 ?_;refine bG (Δ:=[_,_,_,_]) (F:=_) (fun _ _ _=>au rfl _) rfl rfl (nR (fs:=[]) (cs:=[(Pv c_a0_0),(Pv c_a0_1),(Pv c_a0_2),(Pv c_a0_3)]) (ags:=[Ri x7]) [.tmp 20] rfl rfl PI rfl (te k x7 a0_0 c_a0_0 a0_1 c_a0_1 a0_2 c_a0_2 a0_3 c_a0_3 r8 u)) ⟨rfl,rfl,trivial⟩ fun _=>?_;refine aq (nt ?_);refine aW (Z:=Unit) (α:=Bool) (fun c x9=>[(0,.eq (.func (.func 104) #[] #[(Pv c_a0_0),(Pv c_a0_1),(Pv c_a0_2),(Pv c_a0_3)])),(7,Ri y3.1),(8,I y3.2.1),(9,.eq (.bool y3.2.2.1)),(11,Ri x7),(12,I r8),(13,.rep (.slice (.slice (.int .i64))) a1),(14,I (a1.length:Int)),(15,I y3.2.2.2),(28,.eq (.bool x9))]) (fun c x9=>[.obj c_a0_0 102 (.at bj a0_0),.obj c_a0_1 107 (.rep (.arr 3 (.arr 5 (.int .i64))) a0_1),.obj c_a0_2 3 (I a0_2),.obj c_a0_3 3 (I a0_3)]) h (fun K h=>?_) (fun c x9 h=>?_)
    ·refine aa (mq ?_);refine ja (fJ rfl) ?_;refine mq ?_;refine cg (s:=24) rfl (fun hb=>?_) (fun hb=>?_)
     ·replace h:=cZ (AL hb) h;iterate 3 refine gn ?_
      refine pt (nl ?_);exact jz ((),true) h [0,1,2,3]
     ·replace h:=bS (uh hb) h;refine gm ?_;refine gm ?_;refine gb (bJ rfl) ?_;refine pf (nl ?_);exact jz ((),decide (r8 < y3.2.1)) h [0,1,2,3]
    ·refine cv h (fun h=>?_) (fun h=>?_)
     ·refine aa ?_;iterate 2 refine mq ?_
      refine aq ?_;refine aq ?_;refine cq (ak (bn ?_));exact jz ((),(x7,r8,true)) h [0,1,2,3]
     ·refine aV (bn ?_);exact jz ((),(y3.1,y3.2.1,y3.2.2.1)) h [0,1,2,3]
   ·refine aa ?_;obtain⟨j,e,h⟩:=ab h;refine jb (bD rfl e) ?_;refine mq (nl ?_);exact jz ((),(x5.1,x5.2.1,x5.2.2,j)) h [0,1,2,3]
  ·refine xa ?_;exact jz ((),(y3.1,y3.2.1,y3.2.2.1)) h [0,1,2,3]
 ·
  refine sr ?_;iterate 3 refine mq ?_
  refine aq ?_;refine aq ?_;refine aq (nt (aC ?_));cases h;exact aK () [_,_,_] 4 ⟨rfl,rfl,rfl,trivial⟩ rfl
def pN(k:Nat)(a0:bh)(a1:(List (List Int)))(a2:Int)(a3:Int):Option ((List Int)×Int×Int):=
 (cG k a0 a1).bind fun r4=>
 if¬(r4=0) then(some ([],0,r4)) else((((ck ((a0.2.2.length:Int) - 1)).bind fun x7=>
 (dP k a2 0 x7).bind fun r8=>
 if¬(r8=true) then(some true) else((dP k a3 0 a0.1).bind fun r9=>
 some (!r9))):Option (Bool)).bind fun x5=>
 if x5=true then(some ([],0,3)) else((dC k a1).bind fun n=>
 (kH k (a0,()) n a3).bind fun e=>
 (dz k e a2).bind fun l=>
 (kP k l).bind fun j=>
 (kK k k j).bind fun h=>
 (kM k (a0,()) e a2 a3 h).bind fun c=>
 some (c.1,c.2.1,0)))
theorem va(k:Nat)(a0:bh)(a1:(List (List Int)))(a2:Int)(a3:Int)(r:(List Int)×Int×Int)(h:pN k a0 a1 a2 a3=some r):
 dc (iu Tryz.prog) 42 [.rep aH a0,.rep (.slice (.slice (.int .i64))) a1,I a2,I a3] [.inv 0 (gx)] (fun _:Unit=>(bz [Ri r.1,I r.2.1,I r.2.2],[.inv 0 (gx)])):=by
 unfold pN at h
 replace h:=be h
 refine dc.of 60 Tryz.func42 rfl Tryz.ntmps42 rfl fun S w0=>?_
 refine sr ?_
 refine bx fun b1=>?_
 refine bx fun b2=>?_
 refine bx fun b3=>?_
 refine cq ?_
 refine cq ?_
 refine cq ?_
 refine nt ?_
 refine ah ?_
 refine sr ?_
 refine fr 2 ?_
 refine lo fE ?_
 refine mq ?_
 obtain⟨r4,RO,h⟩:=ab h
 have RP:=fA k a0 a1 r4 RO
 refine fr 3 ?_
 refine kb (an [.tmp 18,.tmp 19] rfl rfl MA rfl RP) ?_
 refine aq ?_
 refine nt ?_
 refine sr ?_
 refine mq ?_
 refine jb (kf rfl) ?_
 refine nt ?_
 refine cn h (fun h=>?_) (fun h=>?_)
 ·
  refine sr (mq ?_);refine cq ?_;refine cq ?_;refine aq (nt (rx ?_));refine bN (m9 (t:=(.slice (.int .i64))) (x:=[]) 8 rfl .nil rfl rfl) ?_;cases h;exact aK () [_,_,_] 1 ⟨rfl,rfl,rfl,trivial⟩ rfl
 ·
  refine sk (ah (aW (Z:=Unit) (α:=Bool) (fun z6 x5=>[(1,.rep (.slice (.slice (.int .i64))) a1),(4,Pt b1),(6,Pt b2),(7,Pt b3),(37,.eq (.bool x5))]) (fun z6 x5=>[.obj b1 25 (.rep aH a0),.obj b2 3 (I a2),.obj b3 3 (I a3),.inv 0 (gx)]) h (fun K h=>?_) (fun z6 x5 h=>?_)))
  ·refine aa (fr 3 ?_);refine lo dJ ?_;refine fl eI ?_;refine fr 2 ?_;refine lo de ?_;refine ol ip ?_;obtain⟨x7,RJ,h⟩:=ab h;refine jb (fH rfl RJ) ?_;obtain⟨r8,RN,h⟩:=ab h;refine jc (an [.tmp 24,.const (.int .i64 (0)),.tmp 28] rfl rfl zu rfl (d6 k a2 0 x7 r8 RN)) ?_;refine ja (fJ rfl) ?_;refine mq ?_;refine cg (s:=31) rfl (fun hb=>?_) (fun hb=>?_)
   ·replace h:=cZ (AL hb) h;iterate 5 refine gn ?_
    refine pt (nl ?_);exact jz ((),true) h [0,1,3,2]
   ·replace h:=bS (uh hb) h;refine fr 3 ?_;refine oG rfl rfl rfl rfl rfl rfl (aj rfl dJ lq rfl) ⟨rfl,trivial⟩ ?_;refine ga (av rfl gy) ?_;refine fr 1 ?_;refine oG rfl rfl rfl rfl rfl rfl (aj rfl dJ lq rfl) ⟨rfl,trivial⟩ ?_;obtain⟨r9,RL,h⟩:=ab h;refine gc (an [.tmp 32,.const (.int .i64 (0)),.tmp 34] rfl rfl zu rfl (d6 k a3 0 a0.1 r9 RL)) ?_;refine ga (fJ rfl) ?_;refine pf (nl ?_);exact jz ((), !r9) h [0,2,1,3]
  ·refine cv h (fun h=>?_) (fun h=>?_)
   ·refine sr (cq ?_);refine cq ?_;refine cq (nt (rx ?_));refine bN (m9 (t:=(.slice (.int .i64))) (x:=[]) 8 rfl .nil rfl rfl) ?_;refine bN (SE.fin (Γ':=[(8,_),(9,_),(10,_)]) [3,0,1,2] ⟨rfl,rfl,rfl,trivial⟩ rfl) ?_;cases h;exact aK () [_,_,_] 1 ⟨rfl,rfl,rfl,trivial⟩ rfl
   ·refine sk (sr (lo fE ?_));refine aB rfl rfl rfl (an [.tmp 38] rfl rfl Jp rfl (gX a0)) ⟨rfl,trivial⟩ fun c=>?_;refine bX (kE (bu k a0) mB) ?_;refine aB rfl rfl rfl (aS rfl Nv PW) trivial fun j=>?_;refine aX rfl rfl (aP rfl qJ trivial rfl rfl) ⟨rfl,rfl,trivial⟩ ?_;refine nt (ah (mI ?_));refine gB 0 rfl rfl rfl rfl (aj rfl qJ lq rfl) ⟨rfl,trivial⟩ ?_;refine cJ rfl rfl rfl (bU rfl) ⟨rfl,trivial⟩ ?_;obtain⟨u,U,h⟩:=ab h;refine cJ rfl rfl rfl (an [.tmp 41] rfl rfl D9 rfl (eG k a1 u U)) ⟨rfl,trivial⟩ ?_;refine gB 4 rfl rfl rfl rfl (aj rfl dJ lq rfl) ⟨rfl,trivial⟩ ?_;obtain⟨l,Q,h⟩:=ab h;refine cJ rfl rfl rfl (cP (N:=[(.tmp 40,.at ap (a0,(.map (some c)))),(.tmp 42,.rep (.arr 3 (.arr 5 (.int .i64))) u),(.tmp 43,I a3)]) (an [.tmp 40,.tmp 42,.tmp 43] rfl rfl PK rfl (qD k (a0,()) u a3 l Q)) fun _ _ _ hn=>⟨(sG hn.1),hn.2.1,hn.2.2.1,trivial⟩) ⟨rfl,rfl,rfl,trivial⟩ ?_;refine jK (Ax 107 (.rep (.arr 3 (.arr 5 (.int .i64))) [[0,0,0,0,0],[0,0,0,0,0],[0,0,0,0,0]])) (fun _=>rfl) rfl rfl rfl (aS rfl l7 mH) trivial ?_;refine sO 6 [true,true,true,true,true,true] [] [] [] rfl (by kernel_rfl) (by kernel_rfl) (by kernel_rfl) fN (fun vs hv hB=>?_);obtain⟨w0,RY,rfl,se⟩:=aD hv;obtain⟨w1,RX,rfl,qt⟩:=aD se;obtain⟨w2,RV,rfl,pp⟩:=aD qt;obtain⟨w3,RU,rfl,mc⟩:=aD pp;obtain⟨w4,RS,rfl,ac⟩:=aD mc;obtain⟨w5,RR,rfl,Y⟩:=aD ac;obtain rfl:=oZ Y;obtain⟨e,rfl⟩:=t9 hB.2.2.2.2.2.1;refine⟨[0,1,2,3,4,5,6],[.obj j 102 (.at ap (a0,(.map (some c)))),.inv c (bu k a0),.obj b1 25 (.rep aH a0),.obj b2 3 (I a2),.obj b3 3 (I a3),.inv 0 (gx),.obj e 107 (.rep (.arr 3 (.arr 5 (.int .i64))) [[0,0,0,0,0],[0,0,0,0,0],[0,0,0,0,0]])],by kernel_rfl,by decide,?_⟩;refine eO 6 rfl ?_;refine oC rfl rfl (aP rfl cQ rfl rfl rfl) ⟨rfl,rfl,trivial⟩ (by kernel_rfl) ?_;refine uR ?_;refine bN (SE.fin (Γ':=[(6,Pt b2),(7,Pt b3),(12,Pt j),(13,Pt e)]) (Δ':=[.obj e 107 (.rep (.arr 3 (.arr 5 (.int .i64))) l),.obj j 102 (.at ap (a0,(.map (some c)))),.inv c (bu k a0),.obj b1 25 (.rep aH a0),.obj b2 3 (I a2),.obj b3 3 (I a3),.inv 0 (gx)]) [0,1,2,3,4,5,6] ⟨rfl,rfl,rfl,rfl,trivial⟩ rfl) ?_;refine tn (sr (ay rfl (rZ [] [.tmp 12,.tmp 13,.tmp 6,.tmp 7] [] [(Pv j),(Pv e),(Pv b2),(Pv b3)] rfl rfl rfl) ⟨rfl,rfl,rfl,rfl,trivial⟩ ?_));refine aq (nt (sr ?_));refine mq ?_;refine lo cQ ?_;refine fr 4 ?_;refine lo dJ ?_;obtain⟨n,O,h⟩:=ab h;refine jb (an [.tmp 48,.tmp 49] rfl rfl Cf rfl (fD k l a2 n O)) ?_;refine aB rfl rfl rfl (an [.tmp 50] rfl rfl PE rfl (qL n)) ⟨rfl,trivial⟩ fun RQ=>?_;obtain⟨D,M,h⟩:=ab h;refine ka (an [.tmp 51] rfl rfl PG rfl (qM k n RQ D M)) ?_;obtain⟨y,J,h⟩:=ab h;refine ja (an [.tmp 52] rfl rfl KQ rfl (uY k k D y J)) ?_;refine fr 3 ?_;refine bX (pn (a:=.at ap (a0,(.map (some c)))) (a':=.at bj (a0,())) MP) ?_
    obtain⟨X,E,h⟩:=ab h;refine fr 6 ?_;refine fr 3 ?_;refine fr 4 ?_;refine fr 3 ?_;refine bG (Δ:=[_,_,_,_]) (F:=_) (fun _ _ _=>au rfl _) rfl rfl (fh [.tmp 47,.tmp 53] rfl rfl PH rfl (qE k (a0,()) j l e a2 b2 a3 b3 y X E)) ⟨rfl,rfl,trivial⟩ fun _=>?_;refine mq ?_;refine xr ?_;refine xr ?_;refine xr ?_;refine aq ?_;refine aq ?_;refine aq (nt (sr ?_));iterate 2 refine mq ?_
    refine aq ?_;refine aq ?_;refine cq (nt (aC ?_));refine bN (SE.fin (Γ':=[(8,_),(9,_),(10,_)]) [7,0,1,2,3,4,5,6] ⟨rfl,rfl,rfl,trivial⟩ rfl) ?_;cases h;exact aK () [_,_,_] 1 ⟨rfl,rfl,rfl,trivial⟩ rfl
def cK(k:Nat)(a0:bh)(a1:(List (List (List Int)))):Nat→((List (List Int))×Int×Bool×Int)→Option ((List (List Int))×Int×Bool)
 |0,_=>none
 |n+1,y5=>
  if y5.2.2.2 < (a1.length:Int) then((((bv a1 y5.2.2.2).bind fun x9=>
  (cy k a0 x9).bind fun c=>
  ((if¬(y5.2.2.1=true) then(some true) else(some (decide (c < y5.2.1)))):Option (Bool)).bind fun h=>
  if h=true then(some (x9,c,true)) else(some (y5.1,y5.2.1,y5.2.2.1))):Option ((List (List Int))×Int×Bool)).bind fun x7=>
  (ck (y5.2.2.2+1)).bind fun e=>
  cK k a0 a1 n (x7.1,x7.2.1,x7.2.2,e)) else(some (y5.1,y5.2.1,y5.2.2.1))
def gY(k:Nat)(a0:bh)(a1:(List (List (List Int)))):Option ((List (List Int))×Int×Bool):=
 ((cK k a0 a1 k ([[0,0,0,0,0],[0,0,0,0,0],[0,0,0,0,0]],0,false,0)):Option ((List (List Int))×Int×Bool)).bind fun x3=>
 some (x3.1,x3.2.1,x3.2.2)
theorem qF(k:Nat)(a0:bh)(z_a0:Nat)(a1:(List (List (List Int))))(r:(List (List Int))×Int×Bool)(h:gY k a0 a1=some r):
 dc (iu Tryz.prog) 114 [.fn 111 (tM [.at ap (a0,(.map (some z_a0)))]),.rep (.slice (.arr 3 (.arr 5 (.int .i64)))) a1] [.inv z_a0 (bu k a0)] (fun _:Unit=>(bz [.rep (.arr 3 (.arr 5 (.int .i64))) r.1,I r.2.1,.eq (.bool r.2.2)],[.inv z_a0 (bu k a0)])):=by
 unfold gY at h
 replace h:=be h
 refine dc.of 35 Tryz.func114 rfl Tryz.ntmps114 rfl fun S w0=>?_
 refine sr ?_
 refine aB rfl rfl rfl (aS rfl l7 mH) trivial fun b1=>?_
 refine cq ?_
 refine cq ?_
 refine nt ?_
 refine sr ?_
 refine aB rfl rfl rfl (aS rfl l7 mH) trivial fun b2=>?_
 refine nt ?_
 refine sr ?_
 refine cq ?_
 refine cq ?_
 refine nt ?_
 refine aW (Z:=Unit) (α:=(List (List Int))×Int×Bool) (fun z4 x3=>[(4,Pt b1),(7,Pt b2),(8,I x3.2.1),(9,.eq (.bool x3.2.2))]) (fun z4 x3=>[.obj b1 107 (.rep (.arr 3 (.arr 5 (.int .i64))) [[0,0,0,0,0],[0,0,0,0,0],[0,0,0,0,0]]),.obj b2 107 (.rep (.arr 3 (.arr 5 (.int .i64))) x3.1),.inv z_a0 (bu k a0)]) h (fun K h=>?_) (fun z4 x3 h=>?_)
 ·
  refine sr (mq ?_);refine ol P1 ?_;refine eB rfl ?_;refine nt (ao (aR (fun z6 y5=>[(0,.fn 111 (tM [.at ap (a0,(.map (some z_a0)))])),(4,Pt b1),(7,Pt b2),(8,I y5.2.1),(9,.eq (.bool y5.2.2.1)),(13,.rep (.slice (.arr 3 (.arr 5 (.int .i64)))) a1),(14,I (a1.length:Int)),(15,I y5.2.2.2)]) (fun z6 y5=>[.obj b1 107 (.rep (.arr 3 (.arr 5 (.int .i64))) [[0,0,0,0,0],[0,0,0,0,0],[0,0,0,0,0]]),.obj b2 107 (.rep (.arr 3 (.arr 5 (.int .i64))) y5.1),.inv z_a0 (bu k a0)]) (cK k a0 a1) k () ([[0,0,0,0,0],[0,0,0,0,0],[0,0,0,0,0]],0,false,0) (fun _=>rfl) h (SE.fin [1,0,2] ⟨rfl,rfl,rfl,rfl,rfl,rfl,rfl,rfl,trivial⟩ rfl) (fun n z6 y5 h=>?_)));unfold cK at h;refine sr (jb (bJ rfl) ?_);refine nt (ah (ci h (fun h=>?_) (fun h=>?_)))
  ·refine sk (aW (Z:=Unit) (α:=(List (List Int))×Int×Bool) (fun z8 x7=>[(0,.fn 111 (tM [.at ap (a0,(.map (some z_a0)))])),(4,Pt b1),(7,Pt b2),(8,I x7.2.1),(9,.eq (.bool x7.2.2)),(13,.rep (.slice (.arr 3 (.arr 5 (.int .i64)))) a1),(14,I (a1.length:Int)),(15,I y5.2.2.2)]) (fun z8 x7=>[.obj b1 107 (.rep (.arr 3 (.arr 5 (.int .i64))) [[0,0,0,0,0],[0,0,0,0,0],[0,0,0,0,0]]),.obj b2 107 (.rep (.arr 3 (.arr 5 (.int .i64))) x7.1),.inv z_a0 (bu k a0)]) h (fun K h=>?_) (fun z8 x7 h=>?_))
   ·refine ao (sr ?_);obtain⟨x9,D,h⟩:=ab h;refine jb (a8 (t:=(.arr 3 (.arr 5 (.int .i64)))) rfl P1 cQ D) ?_;refine ja (ar (t:=(.arr 3 (.arr 5 (.int .i64)))) rfl cQ rfl) ?_;refine aB rfl rfl rfl (aS rfl l7 mH) trivial fun x=>?_;refine aX rfl rfl (aP rfl cQ rfl rfl rfl) ⟨rfl,rfl,trivial⟩ ?_;refine nt (sr (mq ?_));refine lo cQ ?_;obtain⟨c,u,h⟩:=ab h;refine fr 3 ?_;refine kb (FR (fs:=[.at ap (a0,(.map (some z_a0)))]) (ags:=[.rep (.arr 3 (.arr 5 (.int .i64))) x9]) [.tmp 20] rfl rfl KP rfl (i8 k a0 z_a0 x9 c u)) ?_;refine aq (nt ?_);refine aW (Z:=Unit) (α:=Bool) (fun j e=>[(0,.fn 111 (tM [.at ap (a0,(.map (some z_a0)))])),(4,Pt b1),(7,Pt b2),(8,I y5.2.1),(9,.eq (.bool y5.2.2.1)),(11,Pt x),(12,I c),(13,.rep (.slice (.arr 3 (.arr 5 (.int .i64)))) a1),(14,I (a1.length:Int)),(15,I y5.2.2.2),(28,.eq (.bool e))]) (fun j e=>[.obj b1 107 (.rep (.arr 3 (.arr 5 (.int .i64))) [[0,0,0,0,0],[0,0,0,0,0],[0,0,0,0,0]]),.obj b2 107 (.rep (.arr 3 (.arr 5 (.int .i64))) y5.1),.obj x 107 (.rep (.arr 3 (.arr 5 (.int .i64))) x9),.inv z_a0 (bu k a0)]) h (fun K h=>?_) (fun j e h=>?_)
    ·refine aa (mq ?_);refine ja (fJ rfl) ?_;refine mq ?_;refine cg (s:=24) rfl (fun hb=>?_) (fun hb=>?_)
     ·replace h:=cZ (AL hb) h;iterate 3 refine gn ?_
      refine pt (nl ?_);exact jz ((),true) h [2,3,1,0]
     ·replace h:=bS (uh hb) h;refine gm ?_;refine gm ?_;refine gb (bJ rfl) ?_;refine pf (nl ?_);exact jz ((),decide (c < y5.2.1)) h [2,3,1,0]
    ·refine cv h (fun h=>?_) (fun h=>?_)
     ·refine aa (fr 2 ?_);refine lo cQ ?_;refine mq ?_;refine fr 2 ?_;refine aX rfl rfl (aP rfl cQ rfl rfl rfl) ⟨rfl,rfl,trivial⟩ ?_;refine aq ?_;refine cq (ak (bn ?_));exact jz ((),(x9,c,true)) h [2,0,3]
     ·refine aV (bn ?_);exact jz ((),(y5.1,y5.2.1,y5.2.2.1)) h [0,1,3]
   ·refine aa ?_;obtain⟨y,l,h⟩:=ab h;refine jb (bD rfl l) ?_;refine mq (nl ?_);exact jz ((),(x7.1,x7.2.1,x7.2.2,y)) h [0,1,2]
  ·refine xa ?_;exact jz ((),(y5.1,y5.2.1,y5.2.2.1)) h [0,1,2]
 ·
  refine sr (fr 1 ?_);refine lo cQ ?_;iterate 2 refine mq ?_
  refine fr 1 ?_;refine aX rfl rfl (aP rfl cQ rfl rfl rfl) ⟨rfl,rfl,trivial⟩ ?_;refine aq ?_;refine aq (nt (aC ?_));refine bN (SE.fin (Γ':=[(4,_),(5,_),(6,_)]) [2,0,1] ⟨rfl,rfl,rfl,trivial⟩ rfl) ?_;cases h;exact aK () [.rep (.arr 3 (.arr 5 (.int .i64))) x3.1,_,_] 1 ⟨⟨_,_,_,_,_,rfl,(.tail _ (.head _)),cQ,(vR),rfl⟩,rfl,rfl,trivial⟩ rfl
def mh(k:Nat)(a0:bh):Option ((List (List Int))×Int×Int):=
 (kA k a0).bind fun r2=>
 if¬(r2=0) then(some ([],0,r2)) else((fG k (a0,())).bind fun r5=>
 (gY k a0 r5).bind fun r6=>
 if¬(r6.2.2=true) then(some ([],0,11)) else((eF k (a0,()) r6.1).bind fun r8=>
 some (r8,r6.2.1,0)))
theorem sS(k:Nat)(a0:bh)(r:(List (List Int))×Int×Int)(h:mh k a0=some r):
 dc (iu Tryz.prog) 56 [.rep aH a0] [] (fun _:Unit=>(bz [.rep (.slice (.slice (.int .i64))) r.1,I r.2.1,I r.2.2],[])):=by
 unfold mh at h
 replace h:=be h
 refine dc.of 33 Tryz.func56 rfl Tryz.ntmps56 rfl fun S w0=>?_
 refine sr ?_
 refine bx fun b1=>?_
 refine cq ?_
 refine cq ?_
 refine cq ?_
 refine nt ?_
 refine ah ?_
 refine sr ?_
 refine lo fE ?_
 obtain⟨r2,l,h⟩:=ab h
 have n:=qI k a0 r2 l
 refine ja (an [.tmp 10] rfl rfl OZ rfl n) ?_
 refine aq ?_
 refine nt ?_
 refine sr ?_
 refine mq ?_
 refine jb (kf rfl) ?_
 refine nt ?_
 refine cn h (fun h=>?_) (fun h=>?_)
 ·
  refine sr (mq ?_);refine cq ?_;refine cq ?_;refine aq (nt (rx ?_));refine bN (m9 (t:=(.slice (.slice (.int .i64)))) (x:=[]) 2 rfl .nil rfl rfl) ?_;cases h;exact aK () [_,_,_] 0 ⟨rfl,rfl,rfl,trivial⟩ rfl
 ·
  refine sk (sr (lo fE ?_));refine aB rfl rfl rfl (an [.tmp 15] rfl rfl Jp rfl (gX a0)) ⟨rfl,trivial⟩ fun z3=>?_;refine bX (kE (bu k a0) mB) ?_;refine aq (nt (sr ?_));refine mq ?_;refine ja (Ix [.tmp 18] [.at ap (a0,(.map (some z3)))] rfl rfl) ?_;refine mq ?_;refine aB rfl rfl rfl (cP (N:=[(.tmp 20,.at ap (a0,(.map (some z3))))]) (an [.tmp 20] rfl rfl Pz rfl (nH (a0,()))) fun _ _ _ hn=>⟨sG hn.1,trivial⟩) ⟨rfl,trivial⟩ fun b4=>?_;obtain⟨r5,j,h⟩:=ab h;refine ka (an [.tmp 21] rfl rfl PC rfl (pw k (a0,()) b4 r5 j)) ?_;obtain⟨r6,e,h⟩:=ab h;refine fr 1 ?_;refine kb (fh [.tmp 19,.tmp 22] rfl rfl PD rfl (qF k a0 z3 r5 r6 e)) ?_;refine mq ?_;refine xr ?_;refine xr ?_;refine xr ?_;refine aB rfl rfl rfl (aS rfl l7 mH) trivial fun b7=>?_;refine aX rfl rfl (aP rfl cQ rfl rfl rfl) ⟨rfl,rfl,trivial⟩ ?_;refine aq ?_;refine aq (nt (ah (sr ?_)));refine mq ?_;refine ja (fJ rfl) ?_;refine nt (cw h (fun h=>?_) (fun h=>?_))
  ·refine sr (cq ?_);refine cq ?_;refine cq (nt (rx ?_));refine bN (m9 (t:=(.slice (.slice (.int .i64)))) (x:=[]) 2 rfl .nil rfl rfl) ?_;cases h;exact aK () [_,_,_] 0 ⟨rfl,rfl,rfl,trivial⟩ rfl
  ·refine sk (sr (mq ?_));refine lo cQ ?_;obtain⟨r8,c,h⟩:=ab h;refine aB rfl rfl rfl (cP (N:=[(.tmp 29,.at ap (a0,(.map (some z3)))),(.tmp 30,.rep (.arr 3 (.arr 5 (.int .i64))) r6.1)]) (an [.tmp 29,.tmp 30] rfl rfl Mc rfl (i7 k (a0,()) r6.1 r8 c)) fun _ _ _ hn=>⟨(sG hn.1),hn.2.1,trivial⟩) ⟨rfl,rfl,trivial⟩ fun v9=>?_;refine mq ?_;refine aq ?_;refine aq ?_;refine cq (nt (aC ?_));refine bN (ix [2,31] ⟨rfl,rfl,trivial⟩) ?_;cases h;exact aK () [_,_,_] 0 ⟨rfl,rfl,rfl,trivial⟩ rfl
set_option maxRecDepth 20000
set_option maxHeartbeats 4000000
def Nh(b:Nat):List Int→Option Addr
 |[]=>none
 |_::_=>some ⟨b,0,none⟩
def Qf:List Int→Value→Value
 |[],_=>.slice none 0 0
 |_::_,v=>v
theorem MG(b:Nat)(l:List Int):Nh b l=none∨Nh b l=some ⟨b,0,none⟩:=by cases l <;> simp [Nh]
theorem Hr(b:Nat)(l:List Int)(c:Int):Nh b (l++[c])=some ⟨b,0,none⟩:=by cases l <;> rfl
theorem Hq(l:List Int)(c:Int)(v:Value):Qf (l++[c]) v=v:=by cases l <;> rfl
theorem Ku:lu Tryz.prog 86 9 1 16:=.of (z:=(.string .empty)) RG (by kernel_rfl) rfl rfl rfl
theorem L8:ag Tryz.prog 121:=ag.of Tryz.func121 (by kernel_rfl) (by kernel_rfl)
theorem OS:ag Tryz.prog 35:=ag.of Tryz.func35 (by kernel_rfl) (by kernel_rfl)
theorem NL:dp Tryz.prog 25 3 true:=⟨fun w=>by kernel_rfl,fun w=>by kernel_rfl⟩
theorem Kr:dp Tryz.prog 23 1 false:=⟨fun w=>by kernel_rfl,fun w=>by kernel_rfl⟩
theorem NK:dp Tryz.prog 3 1 false:=⟨fun w=>by kernel_rfl,fun w=>by kernel_rfl⟩
def kJ(c:Int):Int:=IntKind.i32.wrap (97+IntKind.i32.wrap c)
def km(xs:List Int):Nat→Int×List Int→Option (List Int)
 |0,_=>none
 |n+1,y=>if y.1 < (xs.length:Int) then((bv xs y.1).bind fun c=>if 0≤kJ c∧kJ c≤127∧bR (y.2.length+1) then(ck (y.1+1)).bind fun z=>km xs n (z,y.2++[kJ c]) else none) else some y.2
def i9(k:Nat)(a1:List (List Int)):Nat→Int×List ByteArray→Option (List ByteArray)
 |0,_=>none
 |n+1,y=>if y.1 < (a1.length:Int) then((bv a1 y.1).bind fun xs=>(km xs k (0,[])).bind fun l=>if bR (y.2.length+1) then(ck (y.1+1)).bind fun z=>i9 k a1 n (z,y.2++[pP l]) else none) else some y.2
def rO(k:Nat)(a0:bh)(a1:(List (List Int))):Option (Value×Int):=
 (cG k a0 a1).bind fun e=>if¬(e=0) then some (.string .empty,e) else(i9 k a1 k (0,[])).bind fun ss=>(tu k ss ⟨#[47]⟩).bind fun r=>some (.string r,0)
theorem wN(k:Nat)(a0:bh)(a1:(List (List Int)))(r:Value×Int)(h:rO k a0 a1=some r):
 co Tryz.prog 67 [.rep aH a0,.rep (.slice (.slice (.int .i64))) a1] [.inv 0 gx] (fun _:Unit=>(bz [.eq r.1,I r.2],[.inv 0 gx])):=by
 unfold rO at h
 replace h:=be h
 refine co.of 43 Tryz.func67 rfl Tryz.ntmps67 rfl fun S w0=>?_
 refine sr ?_
 refine bx fun b2=>?_
 refine cq ?_
 refine cq ?_
 refine nt ?_
 refine ah ?_
 refine sr ?_
 obtain⟨e,ee,h⟩:=ab h
 have ce:=fA k a0 a1 e ee
 refine ka (aj rfl NL (yb) rfl) ?_
 refine mq ?_
 refine fr 1 ?_
 refine kb (an [.tmp 13,.tmp 14] rfl rfl OS rfl ce) ?_
 refine aq ?_
 refine nt ?_
 refine sr ?_
 refine mq ?_
 refine jb (kf rfl) ?_
 refine nt ?_
 refine bm rfl (fun hb=>?_) (fun hb=>?_)
 ·
  replace h:=cZ (Qc hb) h;refine sr (mq ?_);refine cq ?_;refine aq (nt (rx ?_));cases h;exact aK () [_,_] 1 ⟨rfl,rfl,trivial⟩ rfl
 replace h:=bS (IN hb) h
 refine sk ?_
 refine sr ?_
 refine cq ?_
 refine nt ?_
 rw [Option.bind_assoc] at h
 refine ah ?_
 refine sr ?_
 refine mq ?_
 refine ol s9 ?_
 refine eB rfl ?_
 refine bX (SE.nil 9 .str) ?_
 refine nt ?_
 refine ao ?_
 refine aR (fun v y=>[(7,.eq v),(19,.rep (.slice (.slice (.int .i64))) a1),(20,I (a1.length:Int)),(21,I y.1)]) (fun v y=>[.sl v 9 .str y.2,.inv 0 gx]) (i9 k a1) k (.slice none 0 0) (0,[]) (fun _=>rfl) h (SE.fin [0,1] ⟨rfl,rfl,rfl,rfl,trivial⟩ rfl) (fun n v7 y h=>?_)
 unfold i9 at h
 refine sr ?_
 refine jb (bJ rfl) ?_
 refine nt ?_
 refine ah ?_
 refine bm rfl (fun hb=>?_) (fun hb=>?_)
 ·
  replace h:=cZ (pH hb) h;refine sk (ah (ao ?_));obtain⟨xs,exs,h⟩:=ab h;refine sr (jb (a8 (t:=.slice (.int .i64)) rfl s9 Kr exs) ?_);refine ja (ar (t:=.slice (.int .i64)) rfl Kr rfl) ?_;refine aq (nt (sr ?_));refine aB rfl rfl rfl (aS rfl EF Hw) trivial fun b=>?_;refine nt ?_;rw [Option.bind_assoc] at h;refine ah (sr (mq ?_));refine ol ip ?_;refine eB rfl ?_;refine bX (SE.nil 5 (.int .u8)) ?_;refine nt (ao ?_)
  refine aR (fun v q=>[(7,.eq v7),(10,.eq (bP b)),(19,.rep (.slice (.slice (.int .i64))) a1),(20,I (a1.length:Int)),(21,I y.1),(25,Ri xs),(26,I (xs.length:Int)),(27,I q.1)])
   (fun v q=>[.obj b 162 (bA (.pointer (Nh b q.2)) (Qf q.2 v)),.sl (Qf q.2 v) 5 (.int .u8) q.2,.sl v7 9 .str y.2,.inv 0 gx]) (km xs) k undef (0,[]) (fun _=>rfl) h (SE.fin [1,0,2,3] ⟨rfl,rfl,rfl,rfl,rfl,rfl,rfl,rfl,trivial⟩ rfl) (fun n2 v q h=>?_)
  unfold km at h;refine sr (jb (bJ rfl) ?_);refine nt (ah (bm rfl (fun hb=>?_) (fun hb=>?_)))
  ·replace h:=cZ (pH hb) h;refine sk (ah (ao ?_));obtain⟨c,ec,h⟩:=ab h;refine sr (jb (a8 (t:=.int .i64) rfl ip NK ec) ?_);refine ja (ar (t:=.int .i64) rfl NK rfl) ?_;refine aq (nt ?_)
   have hk:0≤kJ c∧kJ c≤127∧bR (q.2.length+1):=by
    apply Classical.byContradiction;intro hn;rw [if_neg hn] at h;cases h
   replace h:=cZ hk h;refine uT 1 rfl fun hv=>?_;refine aa (mq ?_);refine ja (nQ rfl U3 RH) ?_;refine jb (AK rfl) ?_;refine bG (Δ:=[_,_]) (F:=_) (fun _ _ _=>au rfl _) rfl rfl (an [.tmp 10,.tmp 33] rfl rfl L9 rfl (wQ (b:=b) (p:=Nh b q.2) (v:=Qf q.2 v) (l:=q.2) (r:=kJ c) (MG b q.2) hv hk.1 hk.2.1 hk.2.2)) ⟨rfl,rfl,trivial⟩ fun v2=>?_;refine ak (aO (tn (aa ?_)));obtain⟨z3,ez3,h⟩:=ab h;refine jb (bD rfl ez3) ?_;refine mq (nl ?_);exact j9 (v2,(z3,q.2++[kJ c])) h (SE.fin [0,1,2,3] ⟨rfl,rfl,rfl,rfl,rfl,rfl,rfl,rfl,trivial⟩ (by simp only [Hr,Hq];rfl))
  replace h:=bS (pe hb) h;refine eS (aY (aY (bZ (tn ?_))));replace h:(if bR (y.2.length+1) then(ck (y.1+1)).bind fun z=>i9 k a1 n (z,y.2++[pP q.2]) else none).bind _=some r:=h
  have hk:bR (y.2.length+1):=by
   apply Classical.byContradiction;intro hn;rw [if_neg hn] at h;cases h
  replace h:=cZ hk h;refine aa (mq ?_);refine bG (Δ:=[_,_]) (F:=_) (fun _ _ _=>au rfl _) rfl rfl (an [.tmp 10] rfl rfl Hf rfl (vH (b:=b) (l:=q.2) (fun hn=>by rw [hn];rfl))) ⟨rfl,trivial⟩ fun _=>?_;refine ja (bq (t:=.str) [(.tmp 37,.eq (.string (pP q.2)))] [pP q.2] rfl rfl Ku (.cons rfl .str .nil) rfl rfl) ?_;refine dG rfl rfl rfl (cC rfl rfl Ku (by simpa using hk)) ⟨rfl,rfl,trivial⟩ fun v'=>?_;refine aq (ak (aO (tn (aa ?_))));obtain⟨z3,ez3,h⟩:=ab h;refine jb (bD rfl ez3) ?_;refine mq (nl ?_);exact jz (v',(z3,y.2++[pP q.2])) h [0,1]
 replace h:=bS (pe hb) h
 refine eS ?_
 refine aY ?_
 refine aY ?_
 refine bZ ?_
 refine tn ?_
 replace h:((tu k y.2 ⟨#[47]⟩).bind fun r=>some (.string r,0)).bind some=some r:=h
 obtain⟨r1,j,h⟩:=ab h
 cases h
 have cj:=Ak k y.2 _ r1 j
 refine sr ?_
 refine bX (ix [7] ⟨rfl,trivial⟩) ?_
 refine mq ?_
 refine jb (an [.tmp 41,.const (.string ⟨#[47]⟩)] rfl rfl L8 rfl cj) ?_
 refine aq ?_
 refine cq ?_
 refine nt ?_
 refine aC ?_
 exact aK () [_,_] 1 ⟨rfl,rfl,trivial⟩ rfl
def k7(k:Nat):Option Bool:=
 (jQ k ([]:(List Int))).bind fun r1=>
 (wb k).bind fun r2=>
 (wO k r1 r2 1).bind fun r3=>
 (jQ k ([]:(List Int))).bind fun r4=>
 (wb k).bind fun r5=>
 (oN k r4 r5).bind fun r6=>
 (jQ k ([]:(List Int))).bind fun r7=>
 (mh k r7).bind fun r8=>
 (jQ k ([]:(List Int))).bind fun r9=>
 (GH k).bind fun E=>
 (tO k r9 E).bind fun c=>
 (jQ k ([]:(List Int))).bind fun D=>
 (wb k).bind fun y=>
 (pN k D y 0 1).bind fun h=>
 (jQ k ([]:(List Int))).bind fun x=>
 (wb k).bind fun u=>
 (rO k x u).bind fun e=>
 ((if r3.2.2=0 then(if r6.2=0 then(if r8.2.2=0 then(if c.2.2.2=0 then(if h.2.2=0 then(if e.2=0 then(if r6.1=3 then(if r8.2.1=0 then(if c.1=0 then(if c.2.1=2 then(if c.2.2.1=1 then(if h.2.1=2 then((eK (KF e.1=true)).bind fun _=>
 if G9 e.1 (⟨#[98,97,100,47,99]⟩:ByteArray)=true then((jk k r3.1 [0]).bind fun s=>
 if s=true then((jJ k r3.2.1 [[0,1,3],[2]]).bind fun r=>
 if r=true then((jJ k r8.1 [[2,0],[1,3]]).bind fun n=>
 if n=true then((jk k h.1 [0,1,3]).bind fun l=>
 some l) else(some false)) else(some false)) else(some false)) else(some false)) else(some false)) else(some false)) else(some false)) else(some false)) else(some false)) else(some false)) else(some false)) else(some false)) else(some false)) else(some false)) else(some false)) else(some false)):Option (Bool)).bind fun j=>
 some j
theorem vp(k:Nat)(r:Bool)(h:k7 k=some r):
 dc (iu Tryz.prog) 25 [] [.inv 0 (gx)] (fun _:Unit=>(bz [.eq (.bool r)],[.inv 0 (gx)])):=by
 unfold k7 at h
 replace h:=be h
 refine dc.of 132 Tryz.func25 rfl Tryz.ntmps25 rfl fun S w0=>?_
 refine sr ?_
 refine cq ?_
 refine nt ?_
 refine sr ?_
 obtain⟨r1,Sr,h⟩:=ab h
 have SG:=iU k ([]:(List Int)) r1 Sr
 refine ja (cP (N:=[(.const (.slice none 0 0),.eq (.slice none 0 0))]) (an [.const (.slice none 0 0)] rfl rfl Ea rfl SG) fun _ _ _ hn=>⟨(jD (t:=(.slice (.int .i64))) (x:=([]:(List Int))) .nil rfl rfl hn.1),trivial⟩) ?_
 obtain⟨r2,Sm,h⟩:=ab h
 have SD:=qZ k r2 Sm
 refine ay rfl (an [] rfl rfl Jq rfl SD) trivial ?_
 obtain⟨r3,Sl,h⟩:=ab h
 have SC:=Ag k r1 r2 1 r3 Sl
 refine kc (an [.tmp 19,.tmp 20,.const (.int .i64 (1))] rfl rfl Q1 rfl SC) ?_
 refine mq ?_
 refine xr ?_
 refine xr ?_
 refine xr ?_
 refine aq ?_
 refine aq ?_
 refine aq ?_
 refine nt ?_
 refine sr ?_
 obtain⟨r4,Sj,h⟩:=ab h
 have SB:=iU k ([]:(List Int)) r4 Sj
 refine ja (cP (N:=[(.const (.slice none 0 0),.eq (.slice none 0 0))]) (an [.const (.slice none 0 0)] rfl rfl Ea rfl SB) fun _ _ _ hn=>⟨(jD (t:=(.slice (.int .i64))) (x:=([]:(List Int))) .nil rfl rfl hn.1),trivial⟩) ?_
 obtain⟨r5,Si,h⟩:=ab h
 have SA:=qZ k r5 Si
 refine ay rfl (an [] rfl rfl Jq rfl SA) trivial ?_
 obtain⟨r6,R9,h⟩:=ab h
 have Sz:=qH k r4 r5 r6 R9
 refine kb (fh [.tmp 26,.tmp 27] rfl rfl QY rfl Sz) ?_
 refine mq ?_
 refine xr ?_
 refine xr ?_
 refine aq ?_
 refine aq ?_
 refine nt ?_
 refine sr ?_
 obtain⟨r7,R7,h⟩:=ab h
 have Sv:=iU k ([]:(List Int)) r7 R7
 refine ja (cP (N:=[(.const (.slice none 0 0),.eq (.slice none 0 0))]) (an [.const (.slice none 0 0)] rfl rfl Ea rfl Sv) fun _ _ _ hn=>⟨(jD (t:=(.slice (.int .i64))) (x:=([]:(List Int))) .nil rfl rfl hn.1),trivial⟩) ?_
 obtain⟨r8,R2,h⟩:=ab h
 have Su:=sS k r7 r8 R2
 refine ja (fh [.tmp 32] rfl rfl OW rfl Su) ?_
 refine mq ?_
 refine xr ?_
 refine xr ?_
 refine xr ?_
 refine aq ?_
 refine aq ?_
 refine aq ?_
 refine nt ?_
 refine sr ?_
 obtain⟨r9,RZ,h⟩:=ab h
 have Ss:=iU k ([]:(List Int)) r9 RZ
 refine ja (cP (N:=[(.const (.slice none 0 0),.eq (.slice none 0 0))]) (an [.const (.slice none 0 0)] rfl rfl Ea rfl Ss) fun _ _ _ hn=>⟨(jD (t:=(.slice (.int .i64))) (x:=([]:(List Int))) .nil rfl rfl hn.1),trivial⟩) ?_
 obtain⟨E,qt,h⟩:=ab h
 have RR:=GG k E qt
 refine ay rfl (an [] rfl rfl QV rfl RR) trivial ?_
 obtain⟨RY,pp,h⟩:=ab h
 have RQ:=yq k r9 E RY pp
 refine kb (fh [.tmp 38,.tmp 39] rfl rfl Q0 rfl RQ) ?_
 refine mq ?_
 refine xr ?_
 refine xr ?_
 refine xr ?_
 refine xr ?_
 refine aq ?_
 refine aq ?_
 refine aq ?_
 refine aq ?_
 refine nt ?_
 refine sr ?_
 obtain⟨D,mc,h⟩:=ab h
 have RP:=iU k ([]:(List Int)) D mc
 refine ja (cP (N:=[(.const (.slice none 0 0),.eq (.slice none 0 0))]) (an [.const (.slice none 0 0)] rfl rfl Ea rfl RP) fun _ _ _ hn=>⟨(jD (t:=(.slice (.int .i64))) (x:=([]:(List Int))) .nil rfl rfl hn.1),trivial⟩) ?_
 obtain⟨y,ac,h⟩:=ab h
 have RO:=qZ k y ac
 refine ay rfl (an [] rfl rfl Jq rfl RO) trivial ?_
 obtain⟨u,Y,h⟩:=ab h
 have RN:=va k D y 0 1 u Y
 refine bI rfl rfl rfl (fh [.tmp 46,.tmp 47,.const (.int .i64 (0)),.const (.int .i64 (1))] rfl rfl QZ rfl RN) ⟨rfl,rfl,rfl,rfl,trivial⟩ ?_
 refine mq ?_
 refine xr ?_
 refine xr ?_
 refine xr ?_
 refine aq ?_
 refine aq ?_
 refine aq ?_
 refine nt ?_
 refine sr ?_
 obtain⟨n,X,h⟩:=ab h
 have RL:=iU k ([]:(List Int)) n X
 refine ja (cP (N:=[(.const (.slice none 0 0),.eq (.slice none 0 0))]) (an [.const (.slice none 0 0)] rfl rfl Ea rfl RL) fun _ _ _ hn=>⟨(jD (t:=(.slice (.int .i64))) (x:=([]:(List Int))) .nil rfl rfl hn.1),trivial⟩) ?_
 obtain⟨l,U,h⟩:=ab h
 have RJ:=qZ k l U
 refine ay rfl (an [] rfl rfl Jq rfl RJ) trivial ?_
 obtain⟨RX,Q,h⟩:=ab h
 have se:=wN k n l RX Q
 refine kb (an [.tmp 53,.tmp 54] rfl rfl QW rfl se) ?_
 refine mq ?_
 refine xr ?_
 refine xr ?_
 refine aq ?_
 refine aq ?_
 refine nt ?_
 refine aW (Z:=Unit) (α:=Bool) (fun e c=>[(0,.eq (.bool c))]) (fun e c=>[.inv 0 (gx)]) h (fun K h=>?_) (fun e c h=>?_)
 ·
  refine aa (mq ?_);refine jb (fK rfl) ?_;refine mq ?_;refine cg (s:=60) rfl (fun hb=>?_) (fun hb=>?_)
  ·replace h:=cZ (pH hb) h;refine gm ?_;refine gb (fK rfl) ?_;refine pt ?_;refine mq ?_;refine cg (s:=64) rfl (fun hb=>?_) (fun hb=>?_)
   ·replace h:=cZ (pH hb) h;refine gm ?_;refine gb (fK rfl) ?_;refine pt ?_;refine mq ?_;refine cg (s:=68) rfl (fun hb=>?_) (fun hb=>?_)
    ·replace h:=cZ (pH hb) h;refine gm ?_;refine gb (fK rfl) ?_;refine pt ?_;refine mq ?_;refine cg (s:=72) rfl (fun hb=>?_) (fun hb=>?_)
     ·replace h:=cZ (pH hb) h;refine gm ?_;refine gb (fK rfl) ?_;refine pt ?_;refine mq ?_;refine cg (s:=76) rfl (fun hb=>?_) (fun hb=>?_)
      ·replace h:=cZ (pH hb) h;refine gm ?_;refine gb (fK rfl) ?_;refine pt ?_;refine mq ?_;refine cg (s:=80) rfl (fun hb=>?_) (fun hb=>?_)
       ·replace h:=cZ (pH hb) h;refine gm ?_;refine gb (fK rfl) ?_;refine pt ?_;refine mq ?_;refine cg (s:=84) rfl (fun hb=>?_) (fun hb=>?_)
        ·replace h:=cZ (pH hb) h;refine gm ?_;refine gb (fK rfl) ?_;refine pt ?_;refine mq ?_;refine cg (s:=88) rfl (fun hb=>?_) (fun hb=>?_)
         ·replace h:=cZ (pH hb) h;refine gm ?_;refine gb (fK rfl) ?_;refine pt ?_;refine mq ?_;refine cg (s:=92) rfl (fun hb=>?_) (fun hb=>?_)
          ·replace h:=cZ (pH hb) h;refine gm ?_;refine gb (fK rfl) ?_;refine pt ?_;refine mq ?_;refine cg (s:=96) rfl (fun hb=>?_) (fun hb=>?_)
           ·replace h:=cZ (pH hb) h;refine gm ?_;refine gb (fK rfl) ?_;refine pt ?_;refine mq ?_;refine cg (s:=100) rfl (fun hb=>?_) (fun hb=>?_)
            ·replace h:=cZ (pH hb) h;refine gm ?_;refine gb (fK rfl) ?_;refine pt ?_;refine mq ?_;refine cg (s:=104) rfl (fun hb=>?_) (fun hb=>?_)
             ·replace h:=cZ (pH hb) h;refine gm ?_;obtain⟨SH,F,h⟩:=ab h;refine gb (FP rfl (aE F)) ?_;refine pt ?_;refine mq ?_;refine cg (s:=108) rfl (fun hb=>?_) (fun hb=>?_)
              ·replace h:=cZ (EB hb) h;refine gm ?_;refine ga (bq (t:=(.int .i64)) [(.const (.int .i64 (0)),_)] [0] rfl rfl fq (.cons rfl .int .nil) rfl rfl) ?_;obtain⟨RV,O,h⟩:=ab h;refine gb (an [.tmp 109,.tmp 110] rfl rfl Me rfl (j7 k r3.1 [0] RV O)) ?_;refine pt ?_;refine mq ?_;refine cg (s:=113) rfl (fun hb=>?_) (fun hb=>?_)
               ·replace h:=cZ (EB hb) h;refine gm ?_;refine gc (bq (t:=(.int .i64)) [(.const (.int .i64 (0)),_),(.const (.int .i64 (1)),_),(.const (.int .i64 (3)),_)] [0,1,3] rfl rfl fq (.cons rfl .int (.cons rfl .int (.cons rfl .int .nil))) rfl rfl) ?_;refine ga (bq (t:=(.int .i64)) [(.const (.int .i64 (2)),_)] [2] rfl rfl fq (.cons rfl .int .nil) rfl rfl) ?_;refine gb (bq (t:=(.slice (.int .i64))) [(.tmp 115,_),(.tmp 116,_)] [[0,1,3],[2]] rfl rfl vc (.cons rfl .rep (.cons rfl .rep .nil)) rfl rfl) ?_;obtain⟨RU,M,h⟩:=ab h;refine gb (an [.tmp 114,.tmp 117] rfl rfl OY rfl (mC k r3.2.1 [[0,1,3],[2]] RU M)) ?_;refine pt ?_;refine mq ?_;refine cg (s:=120) rfl (fun hb=>?_) (fun hb=>?_)
                ·replace h:=cZ (EB hb) h;refine gm ?_;refine gb (bq (t:=(.int .i64)) [(.const (.int .i64 (2)),_),(.const (.int .i64 (0)),_)] [2,0] rfl rfl fq (.cons rfl .int (.cons rfl .int .nil)) rfl rfl) ?_;refine gb (bq (t:=(.int .i64)) [(.const (.int .i64 (1)),_),(.const (.int .i64 (3)),_)] [1,3] rfl rfl fq (.cons rfl .int (.cons rfl .int .nil)) rfl rfl) ?_;refine gb (bq (t:=(.slice (.int .i64))) [(.tmp 122,_),(.tmp 123,_)] [[2,0],[1,3]] rfl rfl vc (.cons rfl .rep (.cons rfl .rep .nil)) rfl rfl) ?_;obtain⟨RS,J,h⟩:=ab h;refine gb (an [.tmp 121,.tmp 124] rfl rfl OY rfl (mC k r8.1 [[2,0],[1,3]] RS J)) ?_;refine pt ?_;refine mq ?_;refine cg (s:=127) rfl (fun hb=>?_) (fun hb=>?_)
                 ·replace h:=cZ (EB hb) h;refine gm ?_;refine gc (bq (t:=(.int .i64)) [(.const (.int .i64 (0)),_),(.const (.int .i64 (1)),_),(.const (.int .i64 (3)),_)] [0,1,3] rfl rfl fq (.cons rfl .int (.cons rfl .int (.cons rfl .int .nil))) rfl rfl) ?_;obtain⟨j,I,h⟩:=ab h;refine gb (an [.tmp 128,.tmp 129] rfl rfl Me rfl (j7 k u.1 [0,1,3] j I)) ?_;refine pt ?_;refine aq (nl ?_);exact jz ((),j) h [0]
                 ·replace h:=bS (EC hb) h;iterate 3 refine gn ?_
                  refine pf ?_;refine aq (nl ?_);exact jz ((),false) h [0]
                ·replace h:=bS (EC hb) h;iterate 5 refine gn ?_
                 refine pf ?_;refine mq ?_;iterate 3 refine gn ?_
                 refine pf ?_;refine aq (nl ?_);exact jz ((),false) h [0]
               ·replace h:=bS (EC hb) h;iterate 5 refine gn ?_
                refine pf ?_;refine mq ?_;iterate 5 refine gn ?_
                refine pf ?_;refine mq ?_;iterate 3 refine gn ?_
                refine pf ?_;refine aq (nl ?_);exact jz ((),false) h [0]
              ·replace h:=bS (EC hb) h;iterate 3 refine gn ?_
               refine pf ?_;refine mq ?_;iterate 5 refine gn ?_
               refine pf ?_;refine mq ?_;iterate 5 refine gn ?_
               refine pf ?_;refine mq ?_;iterate 3 refine gn ?_
               refine pf ?_;refine aq (nl ?_);exact jz ((),false) h [0]
             ·replace h:=bS (pe hb) h;iterate 2 refine gn ?_
              refine pf ?_;refine mq ?_;iterate 3 refine gn ?_
              refine pf ?_;refine mq ?_;iterate 5 refine gn ?_
              refine pf ?_;refine mq ?_;iterate 5 refine gn ?_
              refine pf ?_;refine mq ?_;iterate 3 refine gn ?_
              refine pf ?_;refine aq (nl ?_);exact jz ((),false) h [0]
            ·replace h:=bS (pe hb) h;iterate 2 refine gn ?_
             refine pf ?_;refine mq ?_;iterate 2 refine gn ?_
             refine pf ?_;refine mq ?_;iterate 3 refine gn ?_
             refine pf ?_;refine mq ?_;iterate 5 refine gn ?_
             refine pf ?_;refine mq ?_;iterate 5 refine gn ?_
             refine pf ?_;refine mq ?_;iterate 3 refine gn ?_
             refine pf ?_;refine aq (nl ?_);exact jz ((),false) h [0]
           ·replace h:=bS (pe hb) h;iterate 2 refine gn ?_
            refine pf ?_;refine mq ?_;iterate 2 refine gn ?_
            refine pf ?_;refine mq ?_;iterate 2 refine gn ?_
            refine pf ?_;refine mq ?_;iterate 3 refine gn ?_
            refine pf ?_;refine mq ?_;iterate 5 refine gn ?_
            refine pf ?_;refine mq ?_;iterate 5 refine gn ?_
            refine pf ?_;refine mq ?_;iterate 3 refine gn ?_
            refine pf ?_;refine aq (nl ?_);exact jz ((),false) h [0]
          ·replace h:=bS (pe hb) h;iterate 2 refine gn ?_
           refine pf ?_;refine mq ?_;iterate 2 refine gn ?_
           refine pf ?_;refine mq ?_;iterate 2 refine gn ?_
           refine pf ?_;refine mq ?_;iterate 2 refine gn ?_
           refine pf ?_;refine mq ?_;iterate 3 refine gn ?_
           refine pf ?_;refine mq ?_;iterate 5 refine gn ?_
           refine pf ?_;refine mq ?_;iterate 5 refine gn ?_
           refine pf ?_;refine mq ?_;iterate 3 refine gn ?_
           refine pf ?_;refine aq (nl ?_);exact jz ((),false) h [0]
         ·replace h:=bS (pe hb) h;iterate 2 refine gn ?_
          refine pf ?_;refine mq ?_;iterate 2 refine gn ?_
          refine pf ?_;refine mq ?_;iterate 2 refine gn ?_
          refine pf ?_;refine mq ?_;iterate 2 refine gn ?_
          refine pf ?_;refine mq ?_;iterate 2 refine gn ?_
          refine pf ?_;refine mq ?_;iterate 3 refine gn ?_
          refine pf ?_;refine mq ?_;iterate 5 refine gn ?_
          refine pf ?_;refine mq ?_;iterate 5 refine gn ?_
          refine pf ?_;refine mq ?_;iterate 3 refine gn ?_
          refine pf ?_;refine aq (nl ?_);exact jz ((),false) h [0]
        ·replace h:=bS (pe hb) h;iterate 2 refine gn ?_
         refine pf ?_;refine mq ?_;iterate 2 refine gn ?_
         refine pf ?_;refine mq ?_;iterate 2 refine gn ?_
         refine pf ?_;refine mq ?_;iterate 2 refine gn ?_
         refine pf ?_;refine mq ?_;iterate 2 refine gn ?_
         refine pf ?_;refine mq ?_;iterate 2 refine gn ?_
         refine pf ?_;refine mq ?_;iterate 3 refine gn ?_
         refine pf ?_;refine mq ?_;iterate 5 refine gn ?_
         refine pf ?_;refine mq ?_;iterate 5 refine gn ?_
         refine pf ?_;refine mq ?_;iterate 3 refine gn ?_
         refine pf ?_;refine aq (nl ?_);exact jz ((),false) h [0]
       ·replace h:=bS (pe hb) h;iterate 2 refine gn ?_
        refine pf ?_;refine mq ?_;iterate 2 refine gn ?_
        refine pf ?_;refine mq ?_;iterate 2 refine gn ?_
        refine pf ?_;refine mq ?_;iterate 2 refine gn ?_
        refine pf ?_;refine mq ?_;iterate 2 refine gn ?_
        refine pf ?_;refine mq ?_;iterate 2 refine gn ?_
        refine pf ?_;refine mq ?_;iterate 2 refine gn ?_
        refine pf ?_;refine mq ?_;iterate 3 refine gn ?_
        refine pf ?_;refine mq ?_;iterate 5 refine gn ?_
        refine pf ?_;refine mq ?_;iterate 5 refine gn ?_
        refine pf ?_;refine mq ?_;iterate 3 refine gn ?_
        refine pf ?_;refine aq (nl ?_);exact jz ((),false) h [0]
      ·replace h:=bS (pe hb) h;iterate 2 refine gn ?_
       refine pf ?_;refine mq ?_;iterate 2 refine gn ?_
       refine pf ?_;refine mq ?_;iterate 2 refine gn ?_
       refine pf ?_;refine mq ?_;iterate 2 refine gn ?_
       refine pf ?_;refine mq ?_;iterate 2 refine gn ?_
       refine pf ?_;refine mq ?_;iterate 2 refine gn ?_
       refine pf ?_;refine mq ?_;iterate 2 refine gn ?_
       refine pf ?_;refine mq ?_;iterate 2 refine gn ?_
       refine pf ?_;refine mq ?_;iterate 3 refine gn ?_
       refine pf ?_;refine mq ?_;iterate 5 refine gn ?_
       refine pf ?_;refine mq ?_;iterate 5 refine gn ?_
       refine pf ?_;refine mq ?_;iterate 3 refine gn ?_
       refine pf ?_;refine aq (nl ?_);exact jz ((),false) h [0]
     ·replace h:=bS (pe hb) h;iterate 2 refine gn ?_
      refine pf ?_;refine mq ?_;iterate 2 refine gn ?_
      refine pf ?_;refine mq ?_;iterate 2 refine gn ?_
      refine pf ?_;refine mq ?_;iterate 2 refine gn ?_
      refine pf ?_;refine mq ?_;iterate 2 refine gn ?_
      refine pf ?_;refine mq ?_;iterate 2 refine gn ?_
      refine pf ?_;refine mq ?_;iterate 2 refine gn ?_
      refine pf ?_;refine mq ?_;iterate 2 refine gn ?_
      refine pf ?_;refine mq ?_;iterate 2 refine gn ?_
      refine pf ?_;refine mq ?_;iterate 3 refine gn ?_
      refine pf ?_;refine mq ?_;iterate 5 refine gn ?_
      refine pf ?_;refine mq ?_;iterate 5 refine gn ?_
      refine pf ?_;refine mq ?_;iterate 3 refine gn ?_
      refine pf ?_;refine aq (nl ?_);exact jz ((),false) h [0]
    ·replace h:=bS (pe hb) h;iterate 2 refine gn ?_
     refine pf ?_;refine mq ?_;iterate 2 refine gn ?_
     refine pf ?_;refine mq ?_;iterate 2 refine gn ?_
     refine pf ?_;refine mq ?_;iterate 2 refine gn ?_
     refine pf ?_;refine mq ?_;iterate 2 refine gn ?_
     refine pf ?_;refine mq ?_;iterate 2 refine gn ?_
     refine pf ?_;refine mq ?_;iterate 2 refine gn ?_
     refine pf ?_;refine mq ?_;iterate 2 refine gn ?_
     refine pf ?_;refine mq ?_;iterate 2 refine gn ?_
     refine pf ?_;refine mq ?_;iterate 2 refine gn ?_
     refine pf ?_;refine mq ?_;iterate 3 refine gn ?_
     refine pf ?_;refine mq ?_;iterate 5 refine gn ?_
     refine pf ?_;refine mq ?_;iterate 5 refine gn ?_
     refine pf ?_;refine mq ?_;iterate 3 refine gn ?_
     refine pf ?_;refine aq (nl ?_);exact jz ((),false) h [0]
   ·replace h:=bS (pe hb) h;iterate 2 refine gn ?_
    refine pf ?_;refine mq ?_;iterate 2 refine gn ?_
    refine pf ?_;refine mq ?_;iterate 2 refine gn ?_
    refine pf ?_;refine mq ?_;iterate 2 refine gn ?_
    refine pf ?_;refine mq ?_;iterate 2 refine gn ?_
    refine pf ?_;refine mq ?_;iterate 2 refine gn ?_
    refine pf ?_;refine mq ?_;iterate 2 refine gn ?_
    refine pf ?_;refine mq ?_;iterate 2 refine gn ?_
    refine pf ?_;refine mq ?_;iterate 2 refine gn ?_
    refine pf ?_;refine mq ?_;iterate 2 refine gn ?_
    refine pf ?_;refine mq ?_;iterate 2 refine gn ?_
    refine pf ?_;refine mq ?_;iterate 3 refine gn ?_
    refine pf ?_;refine mq ?_;iterate 5 refine gn ?_
    refine pf ?_;refine mq ?_;iterate 5 refine gn ?_
    refine pf ?_;refine mq ?_;iterate 3 refine gn ?_
    refine pf ?_;refine aq (nl ?_);exact jz ((),false) h [0]
  ·replace h:=bS (pe hb) h;iterate 2 refine gn ?_
   refine pf ?_;refine mq ?_;iterate 2 refine gn ?_
   refine pf ?_;refine mq ?_;iterate 2 refine gn ?_
   refine pf ?_;refine mq ?_;iterate 2 refine gn ?_
   refine pf ?_;refine mq ?_;iterate 2 refine gn ?_
   refine pf ?_;refine mq ?_;iterate 2 refine gn ?_
   refine pf ?_;refine mq ?_;iterate 2 refine gn ?_
   refine pf ?_;refine mq ?_;iterate 2 refine gn ?_
   refine pf ?_;refine mq ?_;iterate 2 refine gn ?_
   refine pf ?_;refine mq ?_;iterate 2 refine gn ?_
   refine pf ?_;refine mq ?_;iterate 2 refine gn ?_
   refine pf ?_;refine mq ?_;iterate 2 refine gn ?_
   refine pf ?_;refine mq ?_;iterate 3 refine gn ?_
   refine pf ?_;refine mq ?_;iterate 5 refine gn ?_
   refine pf ?_;refine mq ?_;iterate 5 refine gn ?_
   refine pf ?_;refine mq ?_;iterate 3 refine gn ?_
   refine pf ?_;refine aq (nl ?_);exact jz ((),false) h [0]
 ·
  refine aC ?_;cases h;exact aK () [_] 1 ⟨rfl,trivial⟩ rfl
def iP(k:Nat)(a0:bh):Option (Int×Bool×Bool):=
 (mh k a0).bind fun r2=>
 ((if r2.2.2=0 then(some true) else(some (decide (r2.2.2=11)))):Option (Bool)).bind fun x3=>
 some (r2.2.1,decide (r2.2.2=0),x3)
theorem pE(k:Nat)(a0:bh)(r:Int×Bool×Bool)(h:iP k a0=some r):
 dc (iu Tryz.prog) 50 [.rep aH a0] [] (fun _:Unit=>(bz [I r.1,.eq (.bool r.2.1),.eq (.bool r.2.2)],[])):=by
 unfold iP at h
 replace h:=be h
 refine dc.of 23 Tryz.func50 rfl Tryz.ntmps50 rfl fun S w0=>?_
 refine sr ?_
 refine bx fun b1=>?_
 refine cq ?_
 refine cq ?_
 refine cq ?_
 refine nt ?_
 refine sr ?_
 refine lo fE ?_
 obtain⟨r2,c,h⟩:=ab h
 have e:=sS k a0 r2 c
 refine ja (fh [.tmp 9] rfl rfl OW rfl e) ?_
 refine mq ?_
 refine xr ?_
 refine xr ?_
 refine xr ?_
 refine aq ?_
 refine aq ?_
 refine aq ?_
 refine nt ?_
 refine aW (Z:=Unit) (α:=Bool) (fun z4 x3=>[(2,I r2.2.1),(3,.eq (.bool (decide (r2.2.2=0)))),(4,.eq (.bool x3))]) (fun z4 x3=>[]) h (fun K h=>?_) (fun z4 x3 h=>?_)
 ·
  refine aa ?_;iterate 2 refine mq ?_
  refine jb (fK rfl) ?_;refine mq ?_;refine jb (fK rfl) ?_;refine mq ?_;refine cg (s:=19) rfl (fun hb=>?_) (fun hb=>?_)
  ·replace h:=cZ (pH hb) h;iterate 2 refine gn ?_
   refine pt ?_;refine aq ?_;refine aq ?_;refine aq (nl ?_);exact jz ((),true) h []
  ·replace h:=bS (pe hb) h;refine gm ?_;refine gb (fK rfl) ?_;refine pf ?_;refine aq ?_;refine aq ?_;refine aq (nl ?_);exact jz ((),decide (r2.2.2=11)) h []
 ·
  refine aC ?_;cases h;exact aK () [_,_,_] 0 ⟨rfl,rfl,rfl,trivial⟩ rfl
def cX(k:Nat)(r3:bh×cd)(j:Int)(e:(List dF)×Int):Nat→((List Int)×Int)→Option (List Int)
 |0,_=>none
 |n+1,c=>
  (bv r3.1.2.1 e.2).bind fun y=>
  if c.2 < (y.2.length:Int) then((((bv r3.1.2.1 e.2).bind fun u=>
  (bv u.2 c.2).bind fun s=>
  if s < (gw 1 j) then((bv r3.1.2.1 e.2).bind fun r=>
  (bv r.2 c.2).bind fun h=>
  (eK (bR (List.length c.1+List.length [h]))).bind fun _=>
  some (c.1++[h])) else(some c.1)):Option ((List Int))).bind fun x=>
  (ck (c.2+1)).bind fun l=>
  cX k r3 j e n (x,l)) else(some c.1)
def dr(k:Nat)(r3:bh×cd)(e:Int):Nat→((List dF)×Int)→Option (List dF)
 |0,_=>none
 |n+1,c=>
  if c.2 < (c.1.length:Int) then(((((cX k r3 e c k (([]:(List Int)),0)):Option ((List Int))).bind fun l=>
  (bv c.1 c.2).bind fun j=>
  some (List.set c.1 (Int.toNat c.2) (j.1,l))):Option ((List dF))).bind fun r=>
  (ck (c.2+1)).bind fun h=>
  dr k r3 e n (r,h)) else(some c.1)
def dq(k:Nat)(r5:Int×Bool×Bool)(r6:bh)(r9:bh)(c:bh)(y:bh)(x:Int×cd)(u:Int×cd)(s:Int×cd)(l:(List dF))(j:Int)(h:(List dF)):Nat→Int→Option (Except Bool Unit)
 |0,_=>none
 |n+1,e=>
  if e < ([(r6.1,r6.2.1,r6.2.2++[x.1]),(r9.1,r9.2.1,List.set r9.2.2 (Int.toNat u.1) s.1),(c.1,l,c.2.2),(gw 1 j,h,y.2.2)].length:Int) then((bv [(r6.1,r6.2.1,r6.2.2++[x.1]),(r9.1,r9.2.1,List.set r9.2.2 (Int.toNat u.1) s.1),(c.1,l,c.2.2),(gw 1 j,h,y.2.2)] e).bind fun F=>
  (iP k F).bind fun r=>
  ((if¬(r.2.2=true) then(some true) else(if r5.2.1=true then(if¬(r.2.1=true) then(some true) else(some (decide (r5.1 < r.1)))) else(some false))):Option (Bool)).bind fun E=>
  if E=true then(some (.error false)) else((ck (e+1)).bind fun D=>
  dq k r5 r6 r9 c y x u s l j h n D)) else(some (.ok ()))
def jI(k:Nat)(a0:(List Int)):Option Bool:=
 (lL k a0).bind fun r1=>
 (jy k (r1.1,r1.2.1,r1.2.2) 4 2).bind fun r3=>
 (iP k r3.1).bind fun r5=>
 if¬(r5.2.2=true) then(some false) else((d3 k r3.1).bind fun r6=>
 (d3 k r3.1).bind fun r9=>
 (d3 k r3.1).bind fun e=>
 (d3 k r3.1).bind fun u=>
 (bW k (r3.2.1,r3.2.2.1,r3.2.2.2) 4).bind fun h=>
 (eK (bR (List.length r6.2.2+List.length [h.1]))).bind fun _=>
 (ck ((r3.1.2.2.length:Int) - 1)).bind fun I=>
 (bW k (h.2.1,h.2.2.1,h.2.2.2) I).bind fun c=>
 (bv r3.1.2.2 c.1).bind fun F=>
 (di k (c.2.1,c.2.2.1,c.2.2.2) F 9).bind fun j=>
 (bv r9.2.2 c.1).bind fun O=>
 ((if 0 < (r3.1.2.1.length:Int) then((ck ((r3.1.2.1.length:Int) - 1)).bind fun D=>
 (bW k (j.2.1,j.2.2.1,j.2.2.2) D).bind fun n=>
 (ck ((r3.1.2.1.length:Int) - 1)).bind fun y=>
 (bv e.2.1 y).bind fun s=>
 (bv e.2.1 n.1).bind fun M=>
 (ck ((r3.1.2.1.length:Int) - 1)).bind fun l=>
 (eK (0≤l∧l≤((List.set e.2.1 (Int.toNat n.1) s).length:Int))).bind fun _=>
 some (List.take (Int.toNat l) (List.set e.2.1 (Int.toNat n.1) s))) else(some e.2.1)):Option ((List dF))).bind fun E=>
 (ck (r3.1.1 - 1)).bind fun r=>
 ((dr k r3 r k (u.2.1,0)):Option ((List dF))).bind fun x=>
 bE (α:=Unit) (dq k r5 r6 r9 e u h c j E r x k 0) (some) fun _=>
 (k7 k).bind fun J=>
 some J)
theorem sq(k:Nat)(a0:(List Int))(r:Bool)(h:jI k a0=some r):
 dc (iu Tryz.prog) 8 [Ri a0] [.inv 0 (gx)] (fun _:Unit=>(bz [.eq (.bool r)],[.inv 0 (gx)])):=by
 unfold jI at h
 replace h:=be h
 refine dc.of 178 Tryz.func8 rfl Tryz.ntmps8 rfl fun S w0=>?_
 refine sr ?_
 refine cq ?_
 refine nt ?_
 refine sr ?_
 refine mq ?_
 obtain⟨r1,TZ,h⟩:=ab h
 have Ua:=uu k a0 r1 TZ
 refine aB rfl rfl rfl (an [.tmp 22] rfl rfl Q2 rfl Ua) ⟨rfl,trivial⟩ fun b2=>?_
 refine aq ?_
 refine nt ?_
 refine sr ?_
 refine mq ?_
 obtain⟨r3,TY,h⟩:=ab h
 have T9:=vr k (r1.1,r1.2.1,r1.2.2) b2 4 2 r3 TY
 refine kc (an [.tmp 24,.const (.int .i64 (4)),.const (.int .i64 (2))] rfl rfl QX rfl T9) ?_
 refine aB rfl rfl rfl (aS rfl jL lr) trivial fun b4=>?_
 refine aX rfl rfl (aP rfl fE rfl rfl rfl) ⟨rfl,rfl,trivial⟩ ?_
 refine nt ?_
 refine sr ?_
 refine lo fE ?_
 obtain⟨r5,TX,h⟩:=ab h
 have T8:=pE k r3.1 r5 TX
 refine ja (fh [.tmp 27] rfl rfl OX rfl T8) ?_
 refine mq ?_
 refine xr ?_
 refine xr ?_
 refine xr ?_
 refine aq ?_
 refine aq ?_
 refine aq ?_
 refine nt ?_
 refine ah ?_
 refine sr ?_
 refine mq ?_
 refine ja (fJ rfl) ?_
 refine nt ?_
 refine cw h (fun h=>?_) (fun h=>?_)
 ·
  refine sr (cq (nt (rx ?_)));refine bN (SE.fin (Γ':=[(2,_)]) [2,0,1] ⟨rfl,trivial⟩ rfl) ?_;cases h;exact aK () [_] 1 ⟨rfl,trivial⟩ rfl
 ·
  refine sk (ah (mI ?_));refine gB 0 rfl rfl rfl rfl (aj rfl fE (vR) rfl) ⟨rfl,trivial⟩ ?_;obtain⟨r6,TU,h⟩:=ab h;refine jK (tri3 r6.1 27 aJ r6.2.1 3 (.int .i64) r6.2.2) (fun _=>rfl) rfl rfl rfl (rD (an [.tmp 34] rfl rfl Js rfl (iL k r3.1 r6 TU))) ⟨rfl,trivial⟩ ?_;refine gB 0 rfl rfl rfl rfl (aj rfl fE (vR) rfl) ⟨rfl,trivial⟩ ?_;obtain⟨r9,TS,h⟩:=ab h;refine jK (tri3 r9.1 27 aJ r9.2.1 3 (.int .i64) r9.2.2) (fun _=>rfl) rfl rfl rfl (rD (an [.tmp 36] rfl rfl Js rfl (iL k r3.1 r9 TS))) ⟨rfl,trivial⟩ ?_;refine gB 0 rfl rfl rfl rfl (aj rfl fE (vR) rfl) ⟨rfl,trivial⟩ ?_;obtain⟨c,Tf,h⟩:=ab h;refine jK (tri3 c.1 27 aJ c.2.1 3 (.int .i64) c.2.2) (fun _=>rfl) rfl rfl rfl (rD (an [.tmp 38] rfl rfl Js rfl (iL k r3.1 c Tf))) ⟨rfl,trivial⟩ ?_;refine gB 0 rfl rfl rfl rfl (aj rfl fE (vR) rfl) ⟨rfl,trivial⟩ ?_;obtain⟨j,Td,h⟩:=ab h;refine jK (tri3 j.1 27 aJ j.2.1 3 (.int .i64) j.2.2) (fun _=>rfl) rfl rfl rfl (rD (an [.tmp 40] rfl rfl Js rfl (iL k r3.1 j Td))) ⟨rfl,trivial⟩ ?_;refine jK (Ax 25 (.agg (.pair (I 0) (.pair (.eq (.slice none 0 0)) (.eq (.slice none 0 0)))))) (fun _=>rfl) rfl rfl rfl (aS rfl jL lr) trivial ?_;refine jK (Ax 25 (.agg (.pair (I 0) (.pair (.eq (.slice none 0 0)) (.eq (.slice none 0 0)))))) (fun _=>rfl) rfl rfl rfl (aS rfl jL lr) trivial ?_;refine jK (Ax 25 (.agg (.pair (I 0) (.pair (.eq (.slice none 0 0)) (.eq (.slice none 0 0)))))) (fun _=>rfl) rfl rfl rfl (aS rfl jL lr) trivial ?_;refine jK (Ax 25 (.agg (.pair (I 0) (.pair (.eq (.slice none 0 0)) (.eq (.slice none 0 0)))))) (fun _=>rfl) rfl rfl rfl (aS rfl jL lr) trivial ?_;refine sO 12 [true,true,true,true,true,true,true,true,true,true,true,true] [] [] [] rfl (by kernel_rfl) (by kernel_rfl) (by kernel_rfl) fN (fun vs hv hB=>?_);obtain⟨w0,Uw,rfl,TR⟩:=aD hv;obtain⟨w1,Uu,rfl,TP⟩:=aD TR;obtain⟨w2,Ut,rfl,TO⟩:=aD TP;obtain⟨w3,Us,rfl,TN⟩:=aD TO;obtain⟨w4,Ur,rfl,TM⟩:=aD TN;obtain⟨w5,Up,rfl,TL⟩:=aD TM;obtain⟨w6,Uo,rfl,TK⟩:=aD TL;obtain⟨w7,Un,rfl,TJ⟩:=aD TK;obtain⟨w8,Um,rfl,TG⟩:=aD TJ;obtain⟨w9,Ud,rfl,SB⟩:=aD TG;obtain⟨Ul,Uc,rfl,SA⟩:=aD SB;obtain⟨Uk,Ub,rfl,Sz⟩:=aD SA;obtain rfl:=oZ Sz;obtain⟨v7,v8,rfl⟩:=tq hB.2.1;obtain⟨D,y,rfl⟩:=tq hB.2.2.2.1;obtain⟨qt,x,rfl⟩:=tq hB.2.2.2.2.2.1;obtain⟨u,l,rfl⟩:=tq hB.2.2.2.2.2.2.2.1;obtain⟨O,rfl⟩:=t9 hB.2.2.2.2.2.2.2.2.1;obtain⟨M,rfl⟩:=t9 hB.2.2.2.2.2.2.2.2.2.1;obtain⟨J,rfl⟩:=t9 hB.2.2.2.2.2.2.2.2.2.2.1;obtain⟨F,rfl⟩:=t9 hB.2.2.2.2.2.2.2.2.2.2.2.1;refine⟨[0,1,2,3,4,6,7,9,10,12,13,15,16,17,18],[.obj b4 25 (.rep aH r3.1),.obj b2 98 (.agg (.pair (Ri r3.2.1) (.pair (I r3.2.2.1) (.eq (.int .u64 r3.2.2.2))))),.inv 0 (gx),.sl v7 27 aJ r6.2.1,.sl v8 3 (.int .i64) r6.2.2,.sl D 27 aJ r9.2.1,.sl y 3 (.int .i64) r9.2.2,.sl qt 27 aJ c.2.1,.sl x 3 (.int .i64) c.2.2,.sl u 27 aJ j.2.1,.sl l 3 (.int .i64) j.2.2,.obj O 25 (.agg (.pair (I 0) (.pair (.eq (.slice none 0 0)) (.eq (.slice none 0 0))))),.obj M 25 (.agg (.pair (I 0) (.pair (.eq (.slice none 0 0)) (.eq (.slice none 0 0))))),.obj J 25 (.agg (.pair (I 0) (.pair (.eq (.slice none 0 0)) (.eq (.slice none 0 0))))),.obj F 25 (.agg (.pair (I 0) (.pair (.eq (.slice none 0 0)) (.eq (.slice none 0 0)))))],by kernel_rfl,by decide,?_⟩
  refine eO 3 rfl ?_;refine na fun o22=>?_;refine eO 4 rfl ?_;refine na fun o23=>?_;refine eO 11 rfl ?_;refine oC rfl rfl (cP (N:=[(.tmp 8,Pt O),(.tmp 35,.eq (.agg #[(.int .i64 r6.1),v7,v8]))]) (aP rfl fE trivial rfl rfl) fun _ _ _ hn=>⟨hn.1,mQ o22 o23 hn.2.1,trivial⟩) ⟨rfl,rfl,trivial⟩ (by kernel_rfl) ?_;refine eO 6 rfl ?_;refine na fun o24=>?_;refine eO 7 rfl ?_;refine na fun o25=>?_;refine eO 12 rfl ?_;refine oC rfl rfl (cP (N:=[(.tmp 9,Pt M),(.tmp 37,.eq (.agg #[(.int .i64 r9.1),D,y]))]) (aP rfl fE trivial rfl rfl) fun _ _ _ hn=>⟨hn.1,mQ o24 o25 hn.2.1,trivial⟩) ⟨rfl,rfl,trivial⟩ (by kernel_rfl) ?_;refine eO 9 rfl ?_;refine na fun o26=>?_;refine eO 10 rfl ?_;refine na fun o27=>?_;refine eO 13 rfl ?_;refine oC rfl rfl (cP (N:=[(.tmp 10,Pt J),(.tmp 39,.eq (.agg #[(.int .i64 c.1),qt,x]))]) (aP rfl fE trivial rfl rfl) fun _ _ _ hn=>⟨hn.1,mQ o26 o27 hn.2.1,trivial⟩) ⟨rfl,rfl,trivial⟩ (by kernel_rfl) ?_;refine eO 12 rfl ?_;refine na fun o28=>?_;refine eO 13 rfl ?_;refine na fun o29=>?_;refine eO 14 rfl ?_;refine oC rfl rfl (cP (N:=[(.tmp 11,Pt F),(.tmp 41,.eq (.agg #[(.int .i64 j.1),u,l]))]) (aP rfl fE trivial rfl rfl) fun _ _ _ hn=>⟨hn.1,mQ o28 o29 hn.2.1,trivial⟩) ⟨rfl,rfl,trivial⟩ (by kernel_rfl) ?_;refine uR ?_;refine bN (SE.fin (Γ':=[(3,Pt b2),(4,Pt b4),(5,I r5.1),(6,.eq (.bool r5.2.1)),(8,Pt O),(9,Pt M),(10,Pt J),(11,Pt F)]) (Δ':=[.obj F 25 (.agg (.pair (I j.1) (.pair (.eq u) (.eq l)))),.sl l 3 (.int .i64) j.2.2,.sl u 27 aJ j.2.1,.obj J 25 (.agg (.pair (I c.1) (.pair (.eq qt) (.eq x)))),.sl x 3 (.int .i64) c.2.2,.sl qt 27 aJ c.2.1,.obj M 25 (.agg (.pair (I r9.1) (.pair (.eq D) (.eq y)))),.sl y 3 (.int .i64) r9.2.2,.sl D 27 aJ r9.2.1,.obj O 25 (.agg (.pair (I r6.1) (.pair (.eq v7) (.eq v8)))),.sl v8 3 (.int .i64) r6.2.2,.sl v7 27 aJ r6.2.1,.obj b4 25 (.rep aH r3.1),.obj b2 98 (.agg (.pair (Ri r3.2.1) (.pair (I r3.2.2.1) (.eq (.int .u64 r3.2.2.2))))),.inv 0 (gx)]) [0,1,2,3,4,5,6,7,8,9,10,11,12,13,14] ⟨rfl,rfl,rfl,rfl,rfl,rfl,rfl,rfl,trivial⟩ rfl) ?_;refine tn (ah (cm ?_));refine da (av rfl eI) ?_;refine ea 9 (aj rfl de lq rfl) ?_;refine dm ?_;obtain⟨E,Ta,h⟩:=ab h;refine tI 13 rfl rfl rfl rfl (an [.tmp 44,.const (.int .i64 (4))] rfl rfl Eb rfl (eD k (r3.2.1,r3.2.2.1,r3.2.2.2) b2 4 E Ta)) ⟨rfl,rfl,trivial⟩ ?_;refine da (bq (t:=(.int .i64)) [(.tmp 45,_)] [E.1] rfl rfl fq (.cons rfl .int .nil) rfl rfl) ?_;refine tJ (Δ':=[.obj F 25 (.agg (.pair (I j.1) (.pair (.eq u) (.eq l)))),.sl l 3 (.int .i64) j.2.2,.sl u 27 aJ j.2.1,.obj J 25 (.agg (.pair (I c.1) (.pair (.eq qt) (.eq x)))),.sl x 3 (.int .i64) c.2.2,.sl qt 27 aJ c.2.1,.obj M 25 (.agg (.pair (I r9.1) (.pair (.eq D) (.eq y)))),.sl y 3 (.int .i64) r9.2.2,.sl D 27 aJ r9.2.1,.obj O 25 (.agg (.pair (I r6.1) (.pair (.eq v7) (.eq v8)))),.sl v8 3 (.int .i64) r6.2.2,.sl v7 27 aJ r6.2.1,.obj b4 25 (.rep aH r3.1),.inv 0 (gx),.obj b2 98 (.agg (.pair (Ri E.2.1) (.pair (I E.2.2.1) (.eq (.int .u64 E.2.2.2)))))]) (by kernel_rfl) fN (by kernel_rfl) ?_
  obtain⟨Uz,SY,h⟩:=ab h;refine fr 10 ?_;refine dG rfl rfl rfl (cC rfl rfl fq (aE SY)) ⟨rfl,rfl,trivial⟩ fun U=>?_;refine fl eI ?_;refine nb fun o33=>?_;refine fr 10 ?_;refine aX rfl rfl (aP rfl de o33 rfl rfl) ⟨rfl,rfl,trivial⟩ ?_;refine nt (sr (mq ?_));refine fl eI ?_;refine fr 12 ?_;refine lo de ?_;refine ol ip ?_;obtain⟨TB,SV,h⟩:=ab h;refine jb (fH rfl SV) ?_;obtain⟨X,S9,h⟩:=ab h;refine fr 14 ?_;refine kb (an [.tmp 49,.tmp 53] rfl rfl Eb rfl (eD k (E.2.1,E.2.2.1,E.2.2.2) b2 TB X S9)) ?_;refine aq (nt (ah ?_));refine cm ?_;refine da (av rfl eI) ?_;refine ea 10 (aj rfl de lq rfl) ?_;refine dm ?_;refine dm ?_;refine da (av rfl eI) ?_;refine ea 1 (aj rfl de lq rfl) ?_;refine dm ?_;obtain⟨TA,SU,h⟩:=ab h;refine db (a8 (t:=(.int .i64)) rfl ip dJ SU) ?_;refine da (ar (t:=(.int .i64)) rfl dJ rfl) ?_;obtain⟨Q,S8,h⟩:=ab h;refine tI 0 rfl rfl rfl rfl (an [.tmp 58,.tmp 63,.const (.int .i64 (9))] rfl rfl Jr rfl (jl k (X.2.1,X.2.2.1,X.2.2.2) b2 TA 9 Q S8)) ⟨rfl,rfl,rfl,trivial⟩ ?_;refine tJ (Δ':=[.obj b4 25 (.rep aH r3.1),.obj O 25 (.agg (.pair (I r6.1) (.pair (.eq v7) (.eq U)))),.sl U 3 (.int .i64) (r6.2.2++[E.1]),.obj F 25 (.agg (.pair (I j.1) (.pair (.eq u) (.eq l)))),.sl l 3 (.int .i64) j.2.2,.sl u 27 aJ j.2.1,.obj J 25 (.agg (.pair (I c.1) (.pair (.eq qt) (.eq x)))),.sl x 3 (.int .i64) c.2.2,.sl qt 27 aJ c.2.1,.obj M 25 (.agg (.pair (I r9.1) (.pair (.eq D) (.eq y)))),.sl y 3 (.int .i64) r9.2.2,.sl D 27 aJ r9.2.1,.sl v7 27 aJ r6.2.1,.inv 0 (gx),.obj b2 98 (.agg (.pair (Ri Q.2.1) (.pair (I Q.2.2.1) (.eq (.int .u64 Q.2.2.2)))))]) (by kernel_rfl) fN (by kernel_rfl) ?_;obtain⟨Uj,RZ,h⟩:=ab h;refine fr 10 ?_;refine kb (bT (t:=(.int .i64)) rfl ip dJ RZ) ?_;refine aX rfl rfl (fg (i:=Int.toNat X.1) rfl dJ rfl (kw RZ) rfl .int rfl) ⟨rfl,rfl,trivial⟩ ?_;refine nt (aW (Z:=Value) (α:=(List dF)) (fun Y mc=>[(4,Pt b4),(5,I r5.1),(6,.eq (.bool r5.2.1)),(8,Pt O),(9,Pt M),(10,Pt J),(11,Pt F)]) (fun Y mc=>[.obj b4 25 (.rep aH r3.1),.obj O 25 (.agg (.pair (I r6.1) (.pair (.eq v7) (.eq U)))),.sl v7 27 aJ r6.2.1,.sl U 3 (.int .i64) (r6.2.2++[E.1]),.obj M 25 (.agg (.pair (I r9.1) (.pair (.eq D) (.eq y)))),.sl D 27 aJ r9.2.1,.sl y 3 (.int .i64) (List.set r9.2.2 (Int.toNat X.1) Q.1),.obj J 25 (.agg (.pair (I c.1) (.pair (.eq Y) (.eq x)))),.sl Y 27 aJ mc,.sl x 3 (.int .i64) c.2.2,.obj F 25 (.agg (.pair (I j.1) (.pair (.eq u) (.eq l)))),.sl u 27 aJ j.2.1,.sl l 3 (.int .i64) j.2.2,.inv 0 (gx)]) h (fun K h=>?_) (fun Y mc h=>?_))
  ·refine sr (fl du ?_);refine fr 1 ?_;refine lo jt ?_;refine ol ta ?_;refine aq (nt (sr ?_));refine mq ?_;refine jb (lG rfl) ?_;refine nt (ci h (fun h=>?_) (fun h=>?_))
   ·refine ah (cm ?_);refine da (av rfl du) ?_;refine ea 7 (aj rfl jt lq rfl) ?_;refine dm ?_;refine dm ?_;obtain⟨Tz,SS,h⟩:=ab h;refine db (fH rfl SS) ?_;obtain⟨RN,S7,h⟩:=ab h;refine tI 14 rfl rfl rfl rfl (an [.tmp 73,.tmp 75] rfl rfl Eb rfl (eD k (Q.2.1,Q.2.2.1,Q.2.2.2) b2 Tz RN S7)) ⟨rfl,rfl,trivial⟩ ?_;refine da (av rfl du) ?_;refine ea 7 (aj rfl jt lq rfl) ?_;refine dm ?_;obtain⟨Tv,SR,h⟩:=ab h;refine db (fH rfl SR) ?_;obtain⟨Tu,RY,h⟩:=ab h;refine eb 9 (bT (t:=aJ) rfl ta ko RY) ?_;refine ea 9 (jw (i:=Int.toNat Tv) (off:=0) rfl ko (vR) rfl (dt RY).2.2 rfl) ?_;refine tJ (Δ':=[.obj b4 25 (.rep aH r3.1),.sl y 3 (.int .i64) (List.set r9.2.2 (Int.toNat X.1) Q.1),.obj O 25 (.agg (.pair (I r6.1) (.pair (.eq v7) (.eq U)))),.sl U 3 (.int .i64) (r6.2.2++[E.1]),.obj F 25 (.agg (.pair (I j.1) (.pair (.eq u) (.eq l)))),.sl l 3 (.int .i64) j.2.2,.sl u 27 aJ j.2.1,.obj J 25 (.agg (.pair (I c.1) (.pair (.eq qt) (.eq x)))),.sl x 3 (.int .i64) c.2.2,.sl qt 27 aJ c.2.1,.obj M 25 (.agg (.pair (I r9.1) (.pair (.eq D) (.eq y)))),.sl D 27 aJ r9.2.1,.sl v7 27 aJ r6.2.1,.inv 0 (gx),.obj b2 98 (.agg (.pair (Ri RN.2.1) (.pair (I RN.2.2.1) (.eq (.int .u64 RN.2.2.2)))))]) (by kernel_rfl) fN (by kernel_rfl) ?_;obtain⟨Ui,RX,h⟩:=ab h;refine fr 9 ?_;refine kb (bT (t:=aJ) rfl ta ko RX) ?_;refine aX rfl rfl (fg (i:=Int.toNat RN.1) rfl ko rfl (kw RX) rfl .rep rfl) ⟨rfl,rfl,trivial⟩ ?_;refine nt (aa (fl du ?_));refine fr 8 ?_;refine lo jt ?_;refine mq ?_;obtain⟨Tt,SQ,h⟩:=ab h;refine jb (fH rfl SQ) ?_;obtain⟨Uy,R2,h⟩:=ab h;refine fr 1 ?_;refine dG rfl rfl rfl (yH (t:=aJ) rfl ta ko (aE R2).1 (aE R2).2) ⟨rfl,rfl,trivial⟩ fun TD=>?_;refine fl du ?_;refine nb fun o49=>?_;refine fr 1 ?_;refine aX rfl rfl (aP rfl jt o49 rfl rfl) ⟨rfl,rfl,trivial⟩ ?_;refine nl ?_;exact jz (TD,List.take (Int.toNat Tt) (List.set c.2.1 (Int.toNat RN.1) Tu)) h [2,4,12,5,10,11,3,0,1,9,6,8,7,13]
   ·refine aV (ae ?_);exact jz (qt,c.2.1) h [0,2,12,3,10,11,1,7,9,8,4,6,5,13]
  ·refine sr (fl gy ?_);refine lo dJ ?_;obtain⟨pp,SO,h⟩:=ab h;refine jb (fH rfl SO) ?_;refine jb (NX rfl rfl) ?_;refine fl gy ?_;refine fr 10 ?_;refine aX rfl rfl (aP rfl dJ rfl rfl rfl) ⟨rfl,rfl,trivial⟩ ?_;refine nt (aW (Z:=Unit) (α:=(List dF)) (fun Sr RJ=>[(5,I r5.1),(6,.eq (.bool r5.2.1)),(8,Pt O),(9,Pt M),(10,Pt J),(11,Pt F)]) (fun Sr RJ=>[.obj O 25 (.agg (.pair (I r6.1) (.pair (.eq v7) (.eq U)))),.sl v7 27 aJ r6.2.1,.sl U 3 (.int .i64) (r6.2.2++[E.1]),.obj M 25 (.agg (.pair (I r9.1) (.pair (.eq D) (.eq y)))),.sl D 27 aJ r9.2.1,.sl y 3 (.int .i64) (List.set r9.2.2 (Int.toNat X.1) Q.1),.obj J 25 (.agg (.pair (I c.1) (.pair (.eq Y) (.eq x)))),.sl Y 27 aJ mc,.sl x 3 (.int .i64) c.2.2,.obj F 25 (.agg (.pair (I (gw 1 pp)) (.pair (.eq u) (.eq l)))),.sl u 27 aJ RJ,.sl l 3 (.int .i64) j.2.2,.inv 0 (gx)]) h (fun K h=>?_) (fun Sr RJ h=>?_))
   ·refine sr (cq (nt (ao ?_)));refine aR (fun Sm ac=>[(4,Pt b4),(5,I r5.1),(6,.eq (.bool r5.2.1)),(8,Pt O),(9,Pt M),(10,Pt J),(11,Pt F),(14,I ac.2)]) (fun Sm ac=>[.obj b4 25 (.rep aH r3.1),.obj O 25 (.agg (.pair (I r6.1) (.pair (.eq v7) (.eq U)))),.sl v7 27 aJ r6.2.1,.sl U 3 (.int .i64) (r6.2.2++[E.1]),.obj M 25 (.agg (.pair (I r9.1) (.pair (.eq D) (.eq y)))),.sl D 27 aJ r9.2.1,.sl y 3 (.int .i64) (List.set r9.2.2 (Int.toNat X.1) Q.1),.obj J 25 (.agg (.pair (I c.1) (.pair (.eq Y) (.eq x)))),.sl Y 27 aJ mc,.sl x 3 (.int .i64) c.2.2,.obj F 25 (.agg (.pair (I (gw 1 pp)) (.pair (.eq u) (.eq l)))),.sl u 27 aJ ac.1,.sl l 3 (.int .i64) j.2.2,.inv 0 (gx)]) (dr k r3 pp) k () (j.2.1,0) (fun _=>rfl) h (SE.fin [1,2,3,4,5,6,7,8,9,10,0,11,12,13] ⟨rfl,rfl,rfl,rfl,rfl,rfl,rfl,rfl,trivial⟩ rfl) (fun n Sm ac h=>?_);unfold dr at h;refine ah (sr (mq ?_));refine fl du ?_;refine fr 10 ?_;refine lo jt ?_;refine fr 11 ?_;refine ka (eV rfl rfl ta) ?_;refine jb (bJ rfl) ?_;refine nt (ci h (fun h=>?_) (fun h=>?_))
    ·refine sk (aW (Z:=Unit) (α:=(List dF)) (fun Sl RV=>[(4,Pt b4),(5,I r5.1),(6,.eq (.bool r5.2.1)),(8,Pt O),(9,Pt M),(10,Pt J),(11,Pt F),(14,I ac.2)]) (fun Sl RV=>[.obj b4 25 (.rep aH r3.1),.obj O 25 (.agg (.pair (I r6.1) (.pair (.eq v7) (.eq U)))),.sl v7 27 aJ r6.2.1,.sl U 3 (.int .i64) (r6.2.2++[E.1]),.obj M 25 (.agg (.pair (I r9.1) (.pair (.eq D) (.eq y)))),.sl D 27 aJ r9.2.1,.sl y 3 (.int .i64) (List.set r9.2.2 (Int.toNat X.1) Q.1),.obj J 25 (.agg (.pair (I c.1) (.pair (.eq Y) (.eq x)))),.sl Y 27 aJ mc,.sl x 3 (.int .i64) c.2.2,.obj F 25 (.agg (.pair (I (gw 1 pp)) (.pair (.eq u) (.eq l)))),.sl u 27 aJ RV,.sl l 3 (.int .i64) j.2.2,.inv 0 (gx)]) h (fun K h=>?_) (fun Sl RV h=>?_))
     ·refine ao (sr (cq (nt ?_)));refine aW (Z:=Value) (α:=(List Int)) (fun RQ RU=>[(4,Pt b4),(5,I r5.1),(6,.eq (.bool r5.2.1)),(8,Pt O),(9,Pt M),(10,Pt J),(11,Pt F),(14,I ac.2),(15,.eq RQ)]) (fun RQ RU=>[.obj b4 25 (.rep aH r3.1),.obj O 25 (.agg (.pair (I r6.1) (.pair (.eq v7) (.eq U)))),.sl v7 27 aJ r6.2.1,.sl U 3 (.int .i64) (r6.2.2++[E.1]),.obj M 25 (.agg (.pair (I r9.1) (.pair (.eq D) (.eq y)))),.sl D 27 aJ r9.2.1,.sl y 3 (.int .i64) (List.set r9.2.2 (Int.toNat X.1) Q.1),.obj J 25 (.agg (.pair (I c.1) (.pair (.eq Y) (.eq x)))),.sl Y 27 aJ mc,.sl x 3 (.int .i64) c.2.2,.obj F 25 (.agg (.pair (I (gw 1 pp)) (.pair (.eq u) (.eq l)))),.sl u 27 aJ ac.1,.sl l 3 (.int .i64) j.2.2,.sl RQ 3 (.int .i64) RU,.inv 0 (gx)]) h (fun K h=>?_) (fun RQ RU h=>?_)
      ·refine sr (cq (nt (ao ?_)));refine fX (SE.nil 3 (.int .i64)) ?_;refine aR (fun RL se=>[(4,Pt b4),(5,I r5.1),(6,.eq (.bool r5.2.1)),(8,Pt O),(9,Pt M),(10,Pt J),(11,Pt F),(14,I ac.2),(15,.eq RL),(16,I se.2)]) (fun RL se=>[.obj b4 25 (.rep aH r3.1),.obj O 25 (.agg (.pair (I r6.1) (.pair (.eq v7) (.eq U)))),.sl v7 27 aJ r6.2.1,.sl U 3 (.int .i64) (r6.2.2++[E.1]),.obj M 25 (.agg (.pair (I r9.1) (.pair (.eq D) (.eq y)))),.sl D 27 aJ r9.2.1,.sl y 3 (.int .i64) (List.set r9.2.2 (Int.toNat X.1) Q.1),.obj J 25 (.agg (.pair (I c.1) (.pair (.eq Y) (.eq x)))),.sl Y 27 aJ mc,.sl x 3 (.int .i64) c.2.2,.obj F 25 (.agg (.pair (I (gw 1 pp)) (.pair (.eq u) (.eq l)))),.sl u 27 aJ ac.1,.sl l 3 (.int .i64) j.2.2,.sl RL 3 (.int .i64) se.1,.inv 0 (gx)]) (cX k r3 pp ac) k (.slice none 0 0) (([]:(List Int)),0) (fun _=>rfl) h (SE.fin [3,4,5,6,7,8,9,10,11,12,2,1,13,0,14] ⟨rfl,rfl,rfl,rfl,rfl,rfl,rfl,rfl,rfl,rfl,trivial⟩ rfl) (fun n RL se h=>?_);unfold cX at h;refine ah (sr (mq ?_));refine fl du ?_;refine lo jt ?_;refine mq ?_;obtain⟨Uh,SN,h⟩:=ab h;refine jb (a8 (t:=aJ) rfl ta ko SN) ?_;refine ja (aI 1 false rfl lW rfl) ?_;refine ja (ar (t:=(.slice (.int .i64))) rfl de rfl) ?_;refine ol ip ?_;refine jb (bJ rfl) ?_;refine nt (ci h (fun h=>?_) (fun h=>?_))
       ·refine sk (aW (Z:=Value) (α:=(List Int)) (fun RO RS=>[(4,Pt b4),(5,I r5.1),(6,.eq (.bool r5.2.1)),(8,Pt O),(9,Pt M),(10,Pt J),(11,Pt F),(14,I ac.2),(15,.eq RO),(16,I se.2)]) (fun RO RS=>[.obj b4 25 (.rep aH r3.1),.obj O 25 (.agg (.pair (I r6.1) (.pair (.eq v7) (.eq U)))),.sl v7 27 aJ r6.2.1,.sl U 3 (.int .i64) (r6.2.2++[E.1]),.obj M 25 (.agg (.pair (I r9.1) (.pair (.eq D) (.eq y)))),.sl D 27 aJ r9.2.1,.sl y 3 (.int .i64) (List.set r9.2.2 (Int.toNat X.1) Q.1),.obj J 25 (.agg (.pair (I c.1) (.pair (.eq Y) (.eq x)))),.sl Y 27 aJ mc,.sl x 3 (.int .i64) c.2.2,.obj F 25 (.agg (.pair (I (gw 1 pp)) (.pair (.eq u) (.eq l)))),.sl u 27 aJ ac.1,.sl l 3 (.int .i64) j.2.2,.sl RO 3 (.int .i64) RS,.inv 0 (gx)]) h (fun K h=>?_) (fun RO RS h=>?_))
        ·refine ao (ah (cm ?_));refine da (av rfl du) ?_;refine ea 0 (aj rfl jt lq rfl) ?_;refine dm ?_;obtain⟨Ug,SL,h⟩:=ab h;refine db (a8 (t:=aJ) rfl ta ko SL) ?_;refine da (aI 1 false rfl lW rfl) ?_;refine da (ar (t:=(.slice (.int .i64))) rfl de rfl) ?_;refine dm ?_;obtain⟨Uf,SK,h⟩:=ab h;refine db (a8 (t:=(.int .i64)) rfl ip dJ SK) ?_;refine da (ar (t:=(.int .i64)) rfl dJ rfl) ?_;refine da (av rfl gy) ?_;refine ea 10 (aj rfl dJ lq rfl) ?_;refine df fN ?_;refine jb (bJ rfl) ?_;refine nt (ci h (fun h=>?_) (fun h=>?_))
         ·refine aa (mq ?_);refine fl du ?_;refine lo jt ?_;refine mq ?_;obtain⟨Ue,SJ,h⟩:=ab h;refine jb (a8 (t:=aJ) rfl ta ko SJ) ?_;refine ja (aI 1 false rfl lW rfl) ?_;refine ja (ar (t:=(.slice (.int .i64))) rfl de rfl) ?_;refine mq ?_;obtain⟨Su,SI,h⟩:=ab h;refine jb (a8 (t:=(.int .i64)) rfl ip dJ SI) ?_;refine ja (ar (t:=(.int .i64)) rfl dJ rfl) ?_;refine ja (bq (t:=(.int .i64)) [(.tmp 134,_)] [Su] rfl rfl fq (.cons rfl .int .nil) rfl rfl) ?_;obtain⟨Ux,SX,h⟩:=ab h;refine fr 13 ?_;refine dG rfl rfl rfl (cC rfl rfl fq (aE SX)) ⟨rfl,rfl,trivial⟩ fun TC=>?_;refine aq (ak (bn ?_));exact jz (TC,se.1++[Su]) h [1,2,3,4,5,6,7,8,9,10,11,12,13,0,14]
         ·refine aV (bn ?_);exact jz (RL,se.1) h [0,1,2,3,4,5,6,7,8,9,10,11,12,13,14]
        ·refine aa (mq ?_);obtain⟨To,SH,h⟩:=ab h;refine jb (bD rfl SH) ?_;refine aq (nl ?_);exact jz (RO,(RS,To)) h [0,1,2,3,4,5,6,7,8,9,10,11,12,13,14]
       ·refine xa ?_;exact jz (RL,se.1) h [0,1,2,3,4,5,6,7,8,9,10,11,12,13,14]
      ·refine aa (fl du ?_);refine fr 10 ?_;refine lo jt ?_;iterate 2 refine mq ?_
       obtain⟨Tn,RP,h⟩:=ab h;refine fr 11 ?_;refine kb (bT (t:=aJ) rfl ta ko RP) ?_;refine ka (AI rfl lW (I0 RP)) ?_;refine fr 13 ?_;refine bX (ix [15,140] ⟨rfl,rfl,trivial⟩) ?_;refine aX rfl rfl (ue (i:=Int.toNat ac.2) (off:=1) rfl de rfl (dt RP).2.2 .rep rfl (.agg (.right .whole rfl))) ⟨rfl,rfl,trivial⟩ ?_;refine ak (bn ?_);exact jz ((),List.set ac.1 (Int.toNat ac.2) (Tn.1,RU)) h [2,3,4,5,6,7,8,9,10,11,1,0,12,13]
     ·refine aa (mq ?_);obtain⟨Tm,SG,h⟩:=ab h;refine jb (bD rfl SG) ?_;refine aq (nl ?_);exact jz ((),(RV,Tm)) h [0,1,2,3,4,5,6,7,8,9,10,11,12,13]
    ·refine xa ?_;exact jz ((),ac.1) h [3,4,5,6,7,8,9,10,11,1,0,12,13]
   ·refine sr (fr 1 ?_);refine bX (eM (off:=1) [] trivial rfl rfl) ?_;refine fr 1 ?_;refine bX (eM (off:=2) [] trivial rfl rfl) ?_;refine lo fE ?_;refine fr 1 ?_;refine fr 2 ?_;refine bX (eM (off:=1) [] trivial rfl rfl) ?_;refine fr 2 ?_;refine bX (eM (off:=2) [] trivial rfl rfl) ?_;refine lo fE ?_;refine fr 2 ?_;refine fr 3 ?_;refine bX (eM (off:=1) [] trivial rfl rfl) ?_;refine fr 3 ?_;refine bX (eM (off:=2) [] trivial rfl rfl) ?_;refine lo fE ?_;refine fr 3 ?_;refine fr 4 ?_;refine bX (eM (off:=1) [] trivial rfl rfl) ?_;refine fr 4 ?_;refine bX (eM (off:=2) [] trivial rfl rfl) ?_;refine lo fE ?_;refine ay rfl (bq (t:=aH) [(.tmp 143,_),(.tmp 144,_),(.tmp 145,_),(.tmp 146,_)] [(r6.1,r6.2.1,r6.2.2++[E.1]),(r9.1,r9.2.1,List.set r9.2.2 (Int.toNat X.1) Q.1),(c.1,mc,c.2.2),(gw 1 pp,RJ,j.2.2)] rfl rfl Qv (.cons trivial (.agg (.pair .int (.pair .rep .rep))) (.cons trivial (.agg (.pair .int (.pair .rep .rep))) (.cons trivial (.agg (.pair .int (.pair .rep .rep))) (.cons trivial (.agg (.pair .int (.pair .rep .rep))) .nil)))) rfl rfl) ⟨rfl,rfl,rfl,rfl,trivial⟩ ?_;refine aq (nt ?_);refine iN (Z:=Unit) (α:=Unit) (fun Sj Ss=>[]) (fun Sj Ss=>[.inv 0 (gx)]) (fun e=>e=r) h (fun e h=>Option.some.inj h) (fun K hR h=>?_) (fun Sj Ss h=>?_)
    ·refine sr (cq (nt (ao ?_)));refine aR (fun Si RR=>[(5,I r5.1),(6,.eq (.bool r5.2.1)),(17,Rs aH [(r6.1,r6.2.1,r6.2.2++[E.1]),(r9.1,r9.2.1,List.set r9.2.2 (Int.toNat X.1) Q.1),(c.1,mc,c.2.2),(gw 1 pp,RJ,j.2.2)]),(18,I RR)]) (fun Si RR=>[.inv 0 (gx)]) (dq k r5 r6 r9 c j E X Q mc pp RJ) k () 0 (fun _=>rfl) h (SE.fin [4] ⟨rfl,rfl,rfl,rfl,trivial⟩ rfl) (fun n Si RR h=>?_);unfold dq at h;refine ah (sr ?_);iterate 2 refine mq ?_
     refine ol Rw ?_;refine jb (bJ rfl) ?_;refine nt (ci h (fun h=>?_) (fun h=>?_))
     ·refine sk (ah (ao (sr ?_)));iterate 2 refine mq ?_
      obtain⟨Tj,SD,h⟩:=ab h;refine jb (a8 (t:=aH) rfl Rw fE SD) ?_;refine ja (ar (t:=aH) rfl fE rfl) ?_;obtain⟨Sv,S5,h⟩:=ab h;refine ja (fh [.tmp 158] rfl rfl OX rfl (pE k Tj Sv S5)) ?_;refine mq ?_;refine xr ?_;refine xr ?_;refine xr ?_;refine aq ?_;refine aq ?_;refine aq (nt ?_);refine aW (Z:=Unit) (α:=Bool) (fun R9 R7=>[(5,I r5.1),(6,.eq (.bool r5.2.1)),(17,Rs aH [(r6.1,r6.2.1,r6.2.2++[E.1]),(r9.1,r9.2.1,List.set r9.2.2 (Int.toNat X.1) Q.1),(c.1,mc,c.2.2),(gw 1 pp,RJ,j.2.2)]),(18,I RR),(176,.eq (.bool R7))]) (fun R9 R7=>[.inv 0 (gx)]) h (fun K h=>?_) (fun R9 R7 h=>?_)
      ·refine aa (mq ?_);refine ja (fJ rfl) ?_;refine mq ?_;refine cg (s:=165) rfl (fun hb=>?_) (fun hb=>?_)
       ·replace h:=cZ (AL hb) h;iterate 2 refine gn ?_
        refine gu ?_;refine gu ?_;refine gu ?_;refine gu ?_;refine gu ?_;refine gu ?_;refine gu ?_;refine gn ?_;refine pt (nl ?_);exact jz ((),true) h [0]
       ·replace h:=bS (uh hb) h;refine gm ?_;refine gm ?_;refine cg (s:=167) rfl (fun hb=>?_) (fun hb=>?_)
        ·replace h:=cZ (EB hb) h;refine gm ?_;refine ga (fJ rfl) ?_;refine gm ?_;refine cg (s:=170) rfl (fun hb=>?_) (fun hb=>?_)
         ·replace h:=cZ (AL hb) h;iterate 3 refine gn ?_
          refine gb (mo rfl) ?_;refine gb (mo rfl) ?_;refine pf (nl ?_);exact jz ((),true) h [0]
         ·replace h:=bS (uh hb) h;refine gm ?_;refine gm ?_;refine gb (lG rfl) ?_;refine gb (nP rfl) ?_;refine gb (mo rfl) ?_;refine pf (nl ?_);exact jz ((),decide (r5.1 < Sv.1)) h [0]
        ·replace h:=bS (EC hb) h;iterate 3 refine gn ?_
         refine gu ?_;refine gu ?_;refine gu ?_;refine gn ?_;refine gb (nP rfl) ?_;refine pf (nl ?_);exact jz ((),false) h [0]
      ·refine cv h (fun h=>?_) (fun h=>?_)
       ·refine sr (cq (nt (aC (br (bQ (ba ?_))))));obtain rfl:=hR _ h;exact aK () [_] 1 ⟨rfl,trivial⟩ rfl
       ·refine aV (aO (tn (aa (mq ?_))));obtain⟨Ti,SC,h⟩:=ab h;refine jb (bD rfl SC) ?_;refine aq (nl ?_);exact jz ((),Ti) h [0]
     ·refine xa ?_;exact jz ((),()) h [0]
    ·refine sr ?_;obtain⟨TF,SZ,h⟩:=ab h;refine bI rfl rfl rfl (fh [] rfl rfl Q3 rfl (vp k TF SZ)) trivial ?_;refine aq (nt (aC ?_));cases h;exact aK () [_] 1 ⟨rfl,trivial⟩ rfl
end Go.Proofs.YtcnpijmfgfnpiaaGreatDoor
