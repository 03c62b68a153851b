import Derived.Test.YtcnpijmfgfnpiaaGreatDoorXYB10
import Derived.Test.YtcnpijmfgfnpiaaGreatDoorXYB8
import Derived.Test.YtcnpijmfgfnpiaaGreatDoorXYB9
import Derived.Test.YtcnpijmfgfnpiaaGreatDoorXYB5
set_option linter.unusedSimpArgs false
set_option linter.unusedVariables false
set_option maxRecDepth 4000
set_option maxHeartbeats 1000000
namespace Go.Proofs.YtcnpijmfgfnpiaaGreatDoor
open K Go Go.Proofs
def bK(k:Nat)(a0:bm)(a1:(List (List Int))):Option Int:=
 (kz k a0).bind fun r2=>
 if¬(r2=0) then(some r2) else((ky k a0 a1).bind fun r4=>
 (O7 r4).bind fun q5=>
 if q5.isSome=true then(some (q5.getD 0)) else(some 0))
theorem dj(k:Nat)(a0:bm)(a1:(List (List Int)))(r:Int)(h:bK k a0 a1=some r):
 bX Tryz.prog 35 [.rep bb a0,.rep (.slice (.slice (.int .i64))) a1] [.inv 0 (ir)] (fun _:Unit=>(bq [I r],[.inv 0 (ir)])):=by
 unfold bK at h
 replace h:=a9 h
 refine bX.of 19 Tryz.func35 rfl Tryz.ntmps35 rfl fun S w0=>?_
 refine sr ?_
 refine bx fun b1=>?_
 refine cq ?_
 refine nt ?_
 refine ah ?_
 refine sr ?_
 refine lo ii ?_
 obtain⟨r2,e,h⟩:=aa h
 have l:=qk k a0 r2 e
 refine ja (ao [.tmp 7] rfl rfl N3 rfl l) ?_
 refine aq ?_
 refine nt ?_
 refine sr ?_
 refine mq ?_
 refine jb (jf rfl) ?_
 refine nt ?_
 refine cn h (fun h=>?_) (fun h=>?_)
 ·
  refine sr (mq ?_);refine aq (nt (rx ?_));refine bI (SE.fin (Γ':=[(4,_)]) [1,0] ⟨rfl,trivial⟩ rfl) ?_;cases h;exact aG () [_] 1 ⟨rfl,trivial⟩ rfl
 ·
  refine sk (sr (aF rfl rfl rfl (bL rfl s5 OM) trivial fun b3=>?_));refine nt (ah (sr (fr 1 ?_)));refine lo ii ?_;refine mq ?_;obtain⟨r4,c,h⟩:=aa h;refine jb (ao [.tmp 12,.tmp 13] rfl rfl P2 rfl (qg k a0 a1 r4 c)) ?_;refine ja (EL rfl Qq) ?_;obtain⟨q5,j,h⟩:=aa h;refine fr 2 ?_;refine fr 2 ?_;refine bC (Δ:=[_,_]) (F:=_) (fun _ _ _=>av rfl _) rfl rfl (ao [.tmp 14,.tmp 15] rfl rfl NX rfl (OF j)) ⟨rfl,rfl,trivial⟩ fun _=>?_;refine nt (cv h (fun h=>?_) (fun h=>?_))
  ·refine sr (fl Iy ?_);refine lo Pz ?_;refine aq (nt (rx ?_));refine bI (SE.fin (Γ':=[(4,_)]) [1,0,2] ⟨rfl,trivial⟩ rfl) ?_;cases h;exact aG () [_] 1 ⟨rfl,trivial⟩ rfl
  ·refine sk (sr (cq (nt (aA ?_))));refine bI (SE.fin (Γ':=[(4,_)]) [1,0,2] ⟨rfl,trivial⟩ rfl) ?_;cases h;exact aG () [_] 1 ⟨rfl,trivial⟩ rfl
def mM(k:Nat)(a0:bm)(r7:Int×(List (List Int))):Nat→((List Int)×Int)→Option (List Int)
 |0,_=>none
 |n+1,c=>
  if c.2 < (a0.2.1.length:Int) then((((dI k r7.1 c.2).bind fun j=>
  if j=true then((d6 (bV (List.length c.1+List.length [c.2]))).bind fun _=>
  some (c.1++[c.2])) else(some c.1)):Option ((List Int))).bind fun h=>
  (ck (c.2+1)).bind fun e=>
  mM k a0 r7 n (h,e)) else(some c.1)
def vX(k:Nat)(a0:bm)(a1:(List (List Int)))(a2:Int):Option ((List Int)×(List (List Int))×Int):=
 (bK k a0 a1).bind fun r2=>
 if¬(r2=0) then(some ([],[],r2)) else((ck (a0.1 - 1)).bind fun x3=>
 (dw k a2 0 x3).bind fun r4=>
 if¬(r4=true) then(some ([],[],3)) else((dn k a1).bind fun r6=>
 (ig k (a0,()) r6 a2).bind fun r7=>
 ((mM k a0 r7 k (([]:(List Int)),0)):Option ((List Int))).bind fun x9=>
 (dH k (a0,()) r7.2).bind fun c=>
 some (x9,c,0)))
theorem zw(k:Nat)(a0:bm)(a1:(List (List Int)))(a2:Int)(r:(List Int)×(List (List Int))×Int)(h:vX k a0 a1 a2=some r):
 bX Tryz.prog 31 [.rep bb a0,.rep (.slice (.slice (.int .i64))) a1,I a2] [.inv 0 (ir)] (fun _:Unit=>(bq [Ri r.1,.rep (.slice (.slice (.int .i64))) r.2.1,I r.2.2],[.inv 0 (ir)])):=by
 unfold vX at h
 replace h:=a9 h
 refine bX.of 55 Tryz.func31 rfl Tryz.ntmps31 rfl fun S w0=>?_
 refine sr ?_
 refine bx fun b1=>?_
 refine cq ?_
 refine cq ?_
 refine cq ?_
 refine nt ?_
 refine ah ?_
 refine sr ?_
 refine lo ii ?_
 refine mq ?_
 obtain⟨r2,ac,h⟩:=aa h
 have mc:=dj k a0 a1 r2 ac
 refine fr 1 ?_
 refine kb (ao [.tmp 15,.tmp 16] rfl rfl Gj rfl mc) ?_
 refine aq ?_
 refine nt ?_
 refine sr ?_
 refine mq ?_
 refine jb (jf rfl) ?_
 refine nt ?_
 refine cn h (fun h=>?_) (fun h=>?_)
 ·
  refine sr (mq ?_);refine cq ?_;refine cq ?_;refine aq (nt (rx ?_));refine bI (lj (t:=(.slice (.int .i64))) (x:=[]) 6 rfl .nil rfl rfl) ?_;refine bI (lj (t:=(.slice (.slice (.int .i64)))) (x:=[]) 7 rfl .nil rfl rfl) ?_;cases h;exact aG () [_,_,_] 1 ⟨rfl,rfl,rfl,trivial⟩ rfl
 ·
  refine sk (ah (sr (mq ?_)));refine fl lg ?_;refine fr 1 ?_;refine lo cR ?_;obtain⟨x3,Q,h⟩:=aa h;refine jb (fH rfl Q) ?_;obtain⟨r4,Y,h⟩:=aa h;refine jc (ao [.tmp 21,.const (.int .i64 (0)),.tmp 24] rfl rfl wP rfl (dB k a2 0 x3 r4 Y)) ?_;refine ja (eR rfl) ?_;refine nt (cw h (fun h=>?_) (fun h=>?_))
  ·refine sr (cq ?_);refine cq ?_;refine cq (nt (rx ?_));refine bI (lj (t:=(.slice (.int .i64))) (x:=[]) 6 rfl .nil rfl rfl) ?_;refine bI (lj (t:=(.slice (.slice (.int .i64)))) (x:=[]) 7 rfl .nil rfl rfl) ?_;refine bI (SE.fin (Γ':=[(6,_),(7,_),(8,_)]) [1,0] ⟨rfl,rfl,rfl,trivial⟩ rfl) ?_;cases h;exact aG () [_,_,_] 1 ⟨rfl,rfl,rfl,trivial⟩ rfl
  ·refine sk (sr (lo ii ?_));refine aF rfl rfl rfl (ao [.tmp 27] rfl rfl Gi rfl (fO a0)) ⟨rfl,trivial⟩ fun z5=>?_;refine cS (jC (bB k a0) kE) ?_;refine aq (nt (sr ?_));iterate 2 refine mq ?_
   obtain⟨r6,X,h⟩:=aa h;refine ja (ao [.tmp 31] rfl rfl Av rfl (dJ k a1 r6 X)) ?_;refine mq ?_;obtain⟨r7,U,h⟩:=aa h;refine jc (cI (N:=[(.tmp 30,.at au (a0,(.map (some z5)))),(.tmp 32,.rep (.arr 3 (.arr 5 (.int .i64))) r6),(.tmp 33,I a2)]) (ao [.tmp 30,.tmp 32,.tmp 33] rfl rfl NY rfl (nc k (a0,()) r6 a2 r7 U)) fun _ _ _ hn=>⟨(oe hn.1),hn.2.1,hn.2.2.1,trivial⟩) ?_;refine mq ?_;refine xr ?_;refine xr ?_;refine aF rfl rfl rfl (bL rfl l5 mF) trivial fun b8=>?_;refine aq ?_;refine bg rfl rfl (ba rfl cT rfl rfl rfl) ⟨rfl,rfl,trivial⟩ ?_;refine nt (sr (cq (nt ?_)));refine aW (Z:=Value) (α:=(List Int)) (fun l x9=>[(10,.at au (a0,(.map (some z5)))),(12,Pt b8),(13,.eq l)]) (fun l x9=>[.obj b8 107 (.rep (.arr 3 (.arr 5 (.int .i64))) r7.2),.sl l 3 (.int .i64) x9,.inv 0 (ir),.inv z5 (bB k a0)]) h (fun K h=>?_) (fun l x9 h=>?_)
   ·refine sr (fl dW ?_);refine fr 2 ?_;refine lo jY ?_;refine ol sb ?_;refine eG rfl ?_;refine nt (aj (gd (SE.nil 3 (.int .i64)) ?_));refine aJ (fun e c=>[(10,.at au (a0,(.map (some z5)))),(11,.eq (.int .u8 r7.1)),(12,Pt b8),(13,.eq e),(39,I (a0.2.1.length:Int)),(40,I c.2)]) (fun e c=>[.obj b8 107 (.rep (.arr 3 (.arr 5 (.int .i64))) r7.2),.sl e 3 (.int .i64) c.1,.inv 0 (ir),.inv z5 (bB k a0)]) (mM k a0 r7) k (.slice none 0 0) (([]:(List Int)),0) (fun _=>rfl) h (SE.fin [2,0,4,3] ⟨rfl,rfl,rfl,rfl,rfl,rfl,trivial⟩ rfl) (fun n e c h=>?_);unfold mM at h;refine sr (jb (bH rfl) ?_);refine nt (ah (ci h (fun h=>?_) (fun h=>?_)))
    ·refine sk (aW (Z:=Value) (α:=(List Int)) (fun j s=>[(10,.at au (a0,(.map (some z5)))),(11,.eq (.int .u8 r7.1)),(12,Pt b8),(13,.eq j),(39,I (a0.2.1.length:Int)),(40,I c.2)]) (fun j s=>[.obj b8 107 (.rep (.arr 3 (.arr 5 (.int .i64))) r7.2),.sl j 3 (.int .i64) s,.inv 0 (ir),.inv z5 (bB k a0)]) h (fun K h=>?_) (fun j s h=>?_))
     ·refine aj (sr (mq ?_));refine aq (nt (sr ?_));iterate 2 refine mq ?_
      obtain⟨O,E,h⟩:=aa h;refine jb (ao [.tmp 43,.tmp 44] rfl rfl ID rfl (gZ k r7.1 c.2 O E)) ?_;refine nt (cv h (fun h=>?_) (fun h=>?_))
      ·refine ab ?_;iterate 2 refine mq ?_
       refine ja (bG (t:=(.int .i64)) [(.tmp 47,_)] [c.2] rfl rfl eP (.cons rfl .int .nil) rfl rfl) ?_;obtain⟨u16,y,h⟩:=aa h;refine fr 1 ?_;refine ek rfl rfl rfl (cp rfl rfl eP (aC y)) ⟨rfl,rfl,trivial⟩ fun J=>?_;refine aq (ap (bn ?_));exact jz (J,c.1++[c.2]) h [1,0,2,3]
      ·refine aU (bn ?_);exact jz (e,c.1) h [0,1,2,3]
     ·refine ab ?_;obtain⟨F,u,h⟩:=aa h;refine jb (bj rfl u) ?_;refine mq (nl ?_);exact jz (j,(s,F)) h [0,1,2,3]
    ·refine xa ?_;exact jz (e,c.1) h [0,1,2,3]
   ·refine sr ?_;iterate 2 refine mq ?_
    refine lo cT ?_;obtain⟨M,D,h⟩:=aa h;refine aF rfl rfl rfl (cI (N:=[(.tmp 52,.at au (a0,(.map (some z5)))),(.tmp 53,.rep (.arr 3 (.arr 5 (.int .i64))) r7.2)]) (ao [.tmp 52,.tmp 53] rfl rfl IC rfl (gP k (a0,()) r7.2 M D)) fun _ _ _ hn=>⟨(oe hn.1),hn.2.1,trivial⟩) ⟨rfl,rfl,trivial⟩ fun pp=>?_;refine aq ?_;refine aq ?_;refine cq (nt (aA ?_));refine du 2 rfl ?_;refine bI (gI [6,13,51] ⟨rfl,rfl,rfl,trivial⟩) ?_;refine bI (gI [7,54] ⟨rfl,rfl,trivial⟩) ?_;refine bI (SE.fin (Γ':=[(6,_),(7,_),(8,_)]) [1,0,2] ⟨rfl,rfl,rfl,trivial⟩ rfl) ?_;cases h;exact aG () [_,_,_] 1 ⟨rfl,rfl,rfl,trivial⟩ rfl
theorem iW(k:Nat)(a0:bm)(z_a0:Nat)(a1:(List (List Int)))(r:Int)(h:cP k a0 a1=some r):
 dk (iy Tryz.prog) 111 [.at au (a0,(.map (some z_a0))),.rep (.arr 3 (.arr 5 (.int .i64))) a1] [.inv z_a0 (bB k a0)] (fun _:Unit=>(bq [I r],[.inv z_a0 (bB k a0)])):=by
 have h0:=h
 unfold cP at h
 replace h:=a9 h
 obtain⟨u1,eg,h⟩:=aa h
 have hg:=aC eg
 have gk:=FC hg
 refine dk.of 28 Tryz.func111 rfl Tryz.ntmps111 rfl fun S w0=>?_
 refine sr ?_
 refine bx fun b1=>?_
 refine cq ?_
 refine nt ?_
 refine ah ?_
 refine iD 1 rfl ?_
 refine AI fun ob hob=>?_
 obtain⟨lnn,lbb,hlR,hlk⟩:=wz (z:=z_a0) OR JR yE gk CQ hob
 refine cr ?_
 refine dm ?_
 refine da (dr rfl) ?_
 refine da (aH 1 false rfl Bg rfl) ?_
 refine da (ar (t:=.val) rfl Jk rfl) ?_
 refine ea 1 (ak rfl cT (xk) rfl) ?_
 refine eb 0 (CE (kv:=kf a1) (vn _) (ll.calm hob) rfl (fun _ _ _ hh=>tZ hh) hlk) ?_
 refine dm ?_
 refine da (gC rfl rfl) ?_
 refine da (gC rfl rfl) ?_
 refine da (ia rfl) ?_
 refine df eZ ?_
 refine aq ?_
 refine nt ?_
 refine ah ?_
 refine sr ?_
 refine mq ?_
 refine ja (eR rfl) ?_
 refine nt ?_
 refine gd (jC (bB k a0) hob) ?_
 refine bD rfl (fun hb=>?_) (fun hb=>?_)
 ·
  refine sr (mq ?_);refine fr 1 ?_;refine lo cT ?_;obtain⟨r2,c,h⟩:=aa h;refine jc (cI (N:=[(.tmp 18,.at au (a0,(.map (some z_a0)))),(.tmp 19,.rep (.arr 3 (.arr 5 (.int .i64))) a1),(.const (.int .i64 (0)),I 0)]) (fL [.tmp 18,.tmp 19,.const (.int .i64 (0))] rfl rfl JI rfl (lz k (a0,()) a1 0 r2 c)) fun _ _ _ hn=>⟨(oe hn.1),hn.2.1,hn.2.2.1,trivial⟩) ?_;refine aq (nt ?_);refine cr ?_;refine dm ?_;refine da (dr rfl) ?_;refine da (aH 1 false rfl Bg rfl) ?_;refine da (ar (t:=.val) rfl Jk rfl) ?_;refine ea 0 (ak rfl cT (xk) rfl) ?_;refine dm ?_;refine df eZ ?_;refine fr 1 ?_;have hl:cP k a0 a1=some r2:=h0.trans (show some r=some r2 from h.symm);refine bg rfl rfl (yc (kv:=kf a1) (vn _) rfl OR yE (fun _ _ _ hh=>tZ hh) gk ⟨a1,hg,rfl,hl⟩) ⟨rfl,rfl,rfl,trivial⟩ ?_;refine nt (sr (mq ?_));refine aq (nt (aA ?_));cases h;exact aG () [_] 1 ⟨rfl,trivial⟩ rfl
 ·
  obtain⟨p,hp,he,hl⟩:=hlR (by simpa using hb);obtain rfl:=vo hg hp he;replace h:some lnn=some r:=hl.symm.trans h0;refine sk (sr (mq ?_));refine aq (nt (aA ?_));cases h;exact aG () [_] 1 ⟨rfl,trivial⟩ rfl
def jq(k:Nat)(a0:bm)(a1:(List (List Int))):Option (Int×Int):=
 (bK k a0 a1).bind fun r2=>
 if¬(r2=0) then(some (0,r2)) else((dn k a1).bind fun r4=>
 (cP k a0 r4).bind fun r5=>
 some (r5,0))
theorem mL(k:Nat)(a0:bm)(a1:(List (List Int)))(r:Int×Int)(h:jq k a0 a1=some r):
 dk (iy Tryz.prog) 48 [.rep bb a0,.rep (.slice (.slice (.int .i64))) a1] [.inv 0 (ir)] (fun _:Unit=>(bq [I r.1,I r.2],[.inv 0 (ir)])):=by
 unfold jq at h
 replace h:=a9 h
 refine dk.of 18 Tryz.func48 rfl Tryz.ntmps48 rfl fun S w0=>?_
 refine sr ?_
 refine bx fun b1=>?_
 refine cq ?_
 refine cq ?_
 refine nt ?_
 refine ah ?_
 refine sr ?_
 refine lo ii ?_
 refine mq ?_
 obtain⟨r2,j,h⟩:=aa h
 have l:=dj k a0 a1 r2 j
 refine fr 1 ?_
 refine kb (ao [.tmp 7,.tmp 8] rfl rfl Gj rfl l) ?_
 refine aq ?_
 refine nt ?_
 refine sr ?_
 refine mq ?_
 refine jb (jf rfl) ?_
 refine nt ?_
 refine cn h (fun h=>?_) (fun h=>?_)
 ·
  refine sr (mq ?_);refine cq ?_;refine aq (nt (rx ?_));cases h;exact aG () [_,_] 1 ⟨rfl,rfl,trivial⟩ rfl
 ·
  refine sk (sr (fr 1 ?_));refine lo ii ?_;refine aF rfl rfl rfl (ao [.tmp 13] rfl rfl Gi rfl (fO a0)) ⟨rfl,trivial⟩ fun z3=>?_;refine cS (jC (bB k a0) kE) ?_;refine mq ?_;obtain⟨r4,e,h⟩:=aa h;refine ja (ao [.tmp 15] rfl rfl Av rfl (dJ k a1 r4 e)) ?_;obtain⟨r5,c,h⟩:=aa h;refine kb (fL [.tmp 14,.tmp 16] rfl rfl JG rfl (iW k a0 z3 r4 r5 c)) ?_;refine aq ?_;refine cq (nt (aA ?_));refine bI (SE.fin (Γ':=[(4,_),(5,_)]) [2,0,1] ⟨rfl,rfl,trivial⟩ rfl) ?_;cases h;exact aG () [_,_] 1 ⟨rfl,rfl,trivial⟩ rfl
set_option maxRecDepth 20000
set_option maxHeartbeats 4000000
@[reducible] def eN:Ty:=.agg (.pair (.int .i64) (.int .i64))
def NN(x:Int×Int):Value:=.agg #[.int .i64 x.1,.int .i64 x.2]
theorem IA{S:FS}{w:World}{x:Int×Int}:(A.rep eN x).holds S w (NN x):=⟨[_,_],⟨[_],[_],rfl,rfl,rfl⟩,rfl⟩
theorem F7{S:FS}{w:World}{x:Int×Int}{v:Value}(h:(A.rep eN x).holds S w v):(A.eq (NN x)).holds S w v:=by
 obtain⟨cs,⟨c1,c2,rfl,h1,h2⟩,rfl⟩:=h;have h1:c1=_:=h1;have h2:c2=_:=h2;subst h1 h2;rfl
theorem gg:dx Tryz.prog 131 2 true:=⟨fun w=>by kernel_rfl,fun w=>by kernel_rfl⟩
theorem ng:dx Tryz.prog 28 1 false:=⟨fun w=>by kernel_rfl,fun w=>by kernel_rfl⟩
theorem AS:dx Tryz.prog 23 1 false:=⟨fun w=>by kernel_rfl,fun w=>by kernel_rfl⟩
theorem sF:dx Tryz.prog 3 1 false:=⟨fun w=>by kernel_rfl,fun w=>by kernel_rfl⟩
theorem D9:dx Tryz.prog 102 1 false:=⟨fun w=>by kernel_rfl,fun w=>by kernel_rfl⟩
theorem KT:aO Tryz.prog 131 0 0:=aO.of (by kernel_rfl)
theorem KR:aO Tryz.prog 131 1 1:=aO.of (by kernel_rfl)
theorem NL:aO Tryz.prog 128 0 0:=aO.of (by kernel_rfl)
theorem sM:aO Tryz.prog 128 1 1:=aO.of (by kernel_rfl)
theorem wO:ag Tryz.prog 136:=ag.of Tryz.func136 (by kernel_rfl) (by kernel_rfl)
def iP(x:Int×Int)(m:Int):Nat→Int×List Int→Option (List Int)
 |0,_=>none
 |n+1,q=>if q.1 < m then((a8 q.2 q.1).bind fun c=>if c=x.1 then(ck (q.1+1)).bind fun w=>iP x m n (w,q.2.set q.1.toNat x.2) else if c=x.2 then(ck (q.1+1)).bind fun w=>iP x m n (w,q.2.set q.1.toNat x.1) else(ck (q.1+1)).bind fun w=>iP x m n (w,q.2)) else some q.2
def jH(k:Nat)(x:Int×Int)(m:Int):Nat→Int×List (List Int)→Option (List (List Int))
 |0,_=>none
 |n+1,q=>if q.1 < m then((a8 q.2 q.1).bind fun l=>(iP x (l.length:Int) k (0,l)).bind fun l2=>(ck (q.1+1)).bind fun w=>jH k x m n (w,q.2.set q.1.toNat l2)) else some q.2
def l8(k:Nat)(x:Int×Int)(ls:List (List Int)):Option (List (List Int)):=jH k x (ls.length:Int) k (0,ls)
theorem ly(k:Nat)(x:Int×Int)(ls r:List (List Int))(y:Nat)(d0:au.den)(z:Value×(Nat→Value))(h:l8 k x ls=some r):
 bX Tryz.prog 136 [.eq (bP y),.rep eN x] ([.obj y 128 (.agg (.pair (.at au d0) (.eq z.1)))]++f5 23 z ls) (fun _:Unit=>(bq [],[.obj y 128 (.agg (.pair (.at au d0) (.eq z.1)))]++f5 23 z r)):=by
 unfold l8 at h
 replace h:=a9 h
 refine bX.of 45 Tryz.func136 rfl Tryz.ntmps136 rfl fun S w0=>?_
 refine sr ?_
 refine bx fun b3=>?_
 refine nt ?_
 refine sr ?_
 refine mq ?_
 refine ja (aQ rfl) ?_
 refine fl sM ?_
 refine fr 1 ?_
 refine lo ng ?_
 refine cS (Bv (pre:=[.obj y 128 (.agg (.pair (.at au d0) (.eq z.1))),.obj b3 131 (.rep eN x)])) ?_
 refine ka (cO rfl rfl nu) ?_
 rw [ge]
 refine cS (Do (pre:=[.obj y 128 (.agg (.pair (.at au d0) (.eq z.1))),.obj b3 131 (.rep eN x)])) ?_
 refine eG rfl ?_
 refine nt ?_
 refine aj ?_
 refine aJ (Z:=Unit) (α:=Int×List (List Int)) (fun _ q=>[(3,.eq (bP b3)),(11,.eq z.1),(12,I (ls.length:Int)),(13,I q.1)]) (fun _ q=>[.obj y 128 (.agg (.pair (.at au d0) (.eq z.1))),.obj b3 131 (.rep eN x)]++f5 23 z q.2) (jH k x (ls.length:Int)) k () (0,ls) (fun _=>rfl) h (aZ [.obj y 128 (.agg (.pair (.at au d0) (.eq z.1))),.obj b3 131 (.rep eN x)] (f5 23 z ls) [0,1] ⟨rfl,rfl,rfl,rfl,trivial⟩ rfl) (fun n u q h=>?_)
 unfold jH at h
 refine sr ?_
 refine jb (bH rfl) ?_
 refine nt ?_
 refine ah ?_
 refine bD rfl (fun hb=>?_) (fun hb=>?_)
 ·
  replace h:=cM (nq hb) h;refine sk (ah (aj ?_));obtain⟨l,el,h⟩:=aa h;refine gd (vO (pre:=[.obj y 128 (.agg (.pair (.at au d0) (.eq z.1))),.obj b3 131 (.rep eN x)]) (sV el).2) ?_;refine sr (fr 1 ?_);refine kb (be (t:=.val) rfl nu AS (oz el)) ?_;refine ka (eJ (i:=q.1.toNat) (off:=0) rfl AS (fun _=>rfl) rfl (cg (oz el)).2.2 rfl) ?_;refine aq (nt ?_);rw [Option.bind_assoc] at h;refine sr (mq ?_);refine fr 1 ?_;refine ka (cO rfl rfl eO) ?_;refine eG rfl ?_;refine nt (aj (aJ (Z:=Unit) (α:=Int×List Int) (fun _ q2=>[(3,.eq (bP b3)),(5,.eq (z.2 q.1.toNat)),(11,.eq z.1),(12,I (ls.length:Int)),(13,I q.1),(17,.eq (z.2 q.1.toNat)),(18,I (l.length:Int)),(19,I q2.1)]) (fun _ q2=>[.sl (z.2 q.1.toNat) 3 (.int .i64) (q2.2),.sl z.1 23 .val (fa z.2 0 q.2),.obj y 128 (.agg (.pair (.at au d0) (.eq z.1))),.obj b3 131 (.rep eN x)]++((kB z.2 0 q.2).eraseIdx q.1.toNat)) (iP x (l.length:Int)) k () (0,l) (fun _=>rfl) h (aZ [.sl (z.2 q.1.toNat) 3 (.int .i64) (l),.sl z.1 23 .val (fa z.2 0 q.2),.obj y 128 (.agg (.pair (.at au d0) (.eq z.1))),.obj b3 131 (.rep eN x)] ((kB z.2 0 q.2).eraseIdx q.1.toNat) [0,1,2,3] ⟨rfl,rfl,rfl,rfl,rfl,rfl,rfl,rfl,trivial⟩ rfl) (fun n2 u2 q2 h=>?_)));unfold iP at h;refine sr (jb (bH rfl) ?_);refine nt (ah (bD rfl (fun hb=>?_) (fun hb=>?_)))
  ·replace h:=cM (nq hb) h;refine sk (ah (aj ?_));obtain⟨c,ec,h⟩:=aa h;refine sr (mq ?_);refine kb (be (t:=.int .i64) rfl eO sF ec) ?_;refine ka (eJ (i:=q2.1.toNat) (off:=0) rfl sF (fun _=>rfl) rfl (cg ec).2.2 rfl) ?_;refine aq ?_;refine aq (nt (sr ?_));refine mq (nt (aj (sr ?_)));refine fl KT ?_;refine fr 3 ?_;refine lo sF ?_;refine jb (eS rfl) ?_;refine aq (nt ?_);refine ci h (fun h=>?_) (fun h=>?_)
   ·refine ab ?_;iterate 2 refine mq ?_
    refine fl KR ?_;refine lo sF ?_;refine fr 1 ?_;refine kb (be (t:=.int .i64) rfl eO sF ec) ?_;refine bg rfl rfl (dK (i:=q2.1.toNat) rfl sF rfl (jk ec) rfl .int rfl) ⟨rfl,rfl,trivial⟩ ?_;refine ap (aI (aI (tn (ab ?_))));obtain⟨w,ew,h⟩:=aa h;refine jb (bj rfl ew) ?_;refine mq (nl ?_);exact iz ((),(w,q2.2.set q2.1.toNat x.2)) h (aZ [.sl (z.2 q.1.toNat) 3 (.int .i64) (q2.2.set q2.1.toNat x.2),.obj b3 131 (.rep eN x),.sl z.1 23 .val (fa z.2 0 q.2),.obj y 128 (.agg (.pair (.at au d0) (.eq z.1)))] ((kB z.2 0 q.2).eraseIdx q.1.toNat) [0,2,3,1] ⟨rfl,rfl,rfl,rfl,rfl,rfl,rfl,rfl,trivial⟩ rfl)
   ·refine sr (fl KR ?_);refine lo sF ?_;refine jb (eS rfl) ?_;refine aq (nt ?_);refine ci h (fun h=>?_) (fun h=>?_)
    ·refine ab ?_;iterate 2 refine mq ?_
     refine fl KT ?_;refine lo sF ?_;refine fr 1 ?_;refine kb (be (t:=.int .i64) rfl eO sF ec) ?_;refine bg rfl rfl (dK (i:=q2.1.toNat) rfl sF rfl (jk ec) rfl .int rfl) ⟨rfl,rfl,trivial⟩ ?_;refine ap (aI (aI (tn (ab ?_))));obtain⟨w,ew,h⟩:=aa h;refine jb (bj rfl ew) ?_;refine mq (nl ?_);exact iz ((),(w,q2.2.set q2.1.toNat x.1)) h (aZ [.sl (z.2 q.1.toNat) 3 (.int .i64) (q2.2.set q2.1.toNat x.1),.obj b3 131 (.rep eN x),.sl z.1 23 .val (fa z.2 0 q.2),.obj y 128 (.agg (.pair (.at au d0) (.eq z.1)))] ((kB z.2 0 q.2).eraseIdx q.1.toNat) [0,2,3,1] ⟨rfl,rfl,rfl,rfl,rfl,rfl,rfl,rfl,trivial⟩ rfl)
    ·refine aU (aI (aI (tn (ab ?_))));obtain⟨w,ew,h⟩:=aa h;refine jb (bj rfl ew) ?_;refine mq (nl ?_);exact iz ((),(w,q2.2)) h (aZ [.obj b3 131 (.rep eN x),.sl (z.2 q.1.toNat) 3 (.int .i64) (q2.2),.sl z.1 23 .val (fa z.2 0 q.2),.obj y 128 (.agg (.pair (.at au d0) (.eq z.1)))] ((kB z.2 0 q.2).eraseIdx q.1.toNat) [1,2,3,0] ⟨rfl,rfl,rfl,rfl,rfl,rfl,rfl,rfl,trivial⟩ rfl)
  replace h:=bQ (m4 hb) h;refine dF (aM (aM (bR (aI (tn (gd (zc (pre:=[.obj y 128 (.agg (.pair (.at au d0) (.eq z.1))),.obj b3 131 (.rep eN x)]) (l':=q2.2) (sV el).2) ?_))))));refine ab ?_;obtain⟨w,ew,h⟩:=aa (X:=ck (q.1+1)) (f:=fun w=>jH k x (ls.length:Int) n (w,q.2.set q.1.toNat q2.2)) (K:=some) (r:=r) (by simpa using h);refine jb (bj rfl ew) ?_;refine mq (nl ?_);exact iz ((),(w,q.2.set q.1.toNat q2.2)) h (aZ [.obj y 128 (.agg (.pair (.at au d0) (.eq z.1))),.obj b3 131 (.rep eN x)] (f5 23 z (q.2.set q.1.toNat q2.2)) [0,1] ⟨rfl,rfl,rfl,rfl,trivial⟩ rfl)
 replace h:=bQ (m4 hb) h
 refine dF ?_
 refine aM ?_
 refine aM ?_
 refine bR ?_
 cases h
 refine iC ?_
 refine bI (aZ (Γ':=[]) (pre':=[.obj y 128 (.agg (.pair (.at au d0) (.eq z.1)))]) [.obj y 128 (.agg (.pair (.at au d0) (.eq z.1))),.obj b3 131 (.rep eN x)] (f5 23 z q.2) [0] trivial rfl) ?_
 exact ik () [] trivial rfl
@[reducible] def HA:Ty:=.agg (.pair (.ptr au) (.slice (.slice (.int .i64))))
theorem JY{S:FS}{w:World}{y:Nat}{d0:au.den}{z:Value×(Nat→Value)}{ls:List (List Int)}(h:∀d∈[D.obj y 128 (.agg (.pair (.at au d0) (.eq z.1)))]++f5 23 z ls,d.holds S w∧∀b,d.foot=some b→S b):(A.at HA (d0,ls)).holds S w (bP y):=by
 obtain⟨⟨cs,h1,c1,c2,rfl,g1,rfl,g2⟩,h2⟩:=h _ (List.mem_cons_self ..);have h3:=KB (fun d hd=>h d (List.mem_cons_of_mem _ hd));refine⟨y,0,_,128,(0,0),rfl,h2 y rfl,h1,c1,[z.1],?_,g1,?_⟩
 ·have l1:=aD (.ptr au) g1;simp only [Ty.cells] at l1;match c1,l1 with
  |[u],_=>rfl
 ·obtain⟨cs,h4,h5⟩:=h3;have l1:=aD (.slice (.slice (.int .i64))) h4;simp only [Ty.cells] at l1;match cs,l1 with
  |[u],_=>rw [h5];exact h4
theorem xC{S:FS}{w:World}{a:Act}{Γ:Ga}{y:Nat}{d0:au.den}{z:Value×(Nat→Value)}{ls:List (List Int)}(h:∀d∈[D.obj y 128 (.agg (.pair (.at au d0) (.eq z.1)))]++f5 23 z ls,d.holds S w∧∀b,d.foot=some b→S b)
 (hk:∀s r,lk Γ s=some r→r.holds S w (a.tmps.getD s undef)) (h0:lk Γ 0=some (.eq (bP y))):∀s r,lk [(0,A.at HA (d0,ls))] s=some r→r.holds S w (a.tmps.getD s undef):=fun s r hl=>by
 simp only [lk] at hl
 split at hl
 ·
  rename_i e
  cases hl
  subst e
  have e1:a.tmps.getD 0 undef=bP y:=hk 0 _ h0
  rw [e1]
  exact JY h
 ·
  cases hl
theorem Jz{n:Nat}{r0:A}(h:r0.flat=true):∀s r,lk [(n,r0)] s=some r→r.flat=true:=fun s r hl=>by
 simp only [lk] at hl
 split at hl
 ·
  cases hl;exact h
 ·
  cases hl
theorem KV{d0:D}(h:d0.flat=true):∀d∈[d0],d.flat=true:=fun d hd=>by
 simp only [List.mem_cons,List.not_mem_nil,or_false] at hd
 subst hd;exact h
theorem Iz{d0 d1:D}(h:d0.flat=true)(h1:d1.flat=true):∀d∈[d0,d1],d.flat=true:=fun d hd=>by
 simp only [List.mem_cons,List.not_mem_nil,or_false] at hd
 rcases hd with rfl |rfl <;> assumption
theorem xE{y:Nat}{x:Int×Int}(S:FS)(w:World):fJ S w [.eq (bP y),.rep eN x] [bP y,NN x]:=⟨_,_,rfl,rfl,_,_,rfl,IA,rfl⟩
theorem KQ:aO Tryz.prog 173 0 0:=aO.of (by kernel_rfl)
theorem D8:dx Tryz.prog 25 3 true:=⟨fun w=>by kernel_rfl,fun w=>by kernel_rfl⟩
theorem NS:ag Tryz.prog 94:=ag.of Tryz.func94 (by kernel_rfl) (by kernel_rfl)
theorem NT:ag Tryz.prog 86:=ag.of Tryz.func86 (by kernel_rfl) (by kernel_rfl)
theorem KZ:ag Tryz.prog 111:=ag.of Tryz.func111 (by kernel_rfl) (by kernel_rfl)
def lR(k:Nat)(t:bm)(x:Int×Int)(ls:List (List Int)):Option (Bool×List (List Int)):=
 (l8 k x ls).bind fun l1=>(ky k t l1).bind fun e=>if Ib e=true then(l8 k x l1).bind fun l2=>some (!t5 e,l2) else none
theorem rj(k:Nat)(t:bm)(x:Int×Int)(ls:List (List Int))(r:Bool×List (List Int))(y m:Nat)(z:Value×(Nat→Value))(h:lR k t x ls=some r):
 bX Tryz.prog 98 [.eq (bP y),.rep eN x] ([.obj y 128 (.agg (.pair (.at au (t,.map (some m))) (.eq z.1)))]++f5 23 z ls) (fun _:Unit=>(bq [.eq (.bool r.1)],[.obj y 128 (.agg (.pair (.at au (t,.map (some m))) (.eq z.1)))]++f5 23 z r.2)):=by
 unfold lR at h
 replace h:=a9 h
 obtain⟨l1,e1,h⟩:=aa h
 obtain⟨e,e2,h⟩:=aa h
 have he:Ib e=true:=by
  apply Classical.byContradiction;intro hn;rw [if_neg hn] at h;cases h
 replace h:=cM he h
 obtain⟨l2,e3,h⟩:=aa h
 cases h
 have cv:=qg k t l1 e e2
 refine Je 23 Tryz.func98 rfl Tryz.ntmps98 rfl fun S w0=>?_
 refine sr ?_
 refine bx fun b3=>?_
 refine cq ?_
 refine nt ?_
 refine sr ?_
 refine mq ?_
 refine ka (ak rfl gg (xl) rfl) ?_
 refine cS (gy (Δ':=([.obj y 128 (.agg (.pair (.at au (t,.map (some m))) (.eq z.1)))]++f5 23 z ls)++[.obj b3 131 (.rep eN x)]) (List.perm_append_comm (l₁:=([.obj b3 131 (.rep eN x)]:List D)))) ?_
 refine bC (Δ:=_++_) (F:=[_]) (fun _ _ _=>av rfl _) rfl rfl (ao [.tmp 5,.tmp 6] rfl rfl wO rfl (ly k x ls l1 y (t,.map (some m)) z e1)) ⟨rfl,rfl,trivial⟩ fun _=>?_
 refine nt ?_
 refine sr ?_
 refine mq ?_
 refine cS (gy (Δ':=[.obj b3 131 (.rep eN x)]++([.obj y 128 (.agg (.pair (.at au (t,.map (some m))) (.eq z.1)))]++f5 23 z l1)) List.perm_append_comm) ?_
 refine ka (ak rfl gg (xl) rfl) ?_
 refine cS (qY 9 rfl fun _ _ _ h=>F7 h) ?_
 refine vR (vs:=[bP y,NN x]) [.tmp 8,.tmp 9] rfl rfl rfl rfl rfl ⟨rfl,rfl,trivial⟩ ?_
 refine ap ?_
 refine ae ?_
 refine bI (gy (Δ':=([.obj y 128 (.agg (.pair (.at au (t,.map (some m))) (.eq z.1)))]++f5 23 z l1)++[.obj b3 131 (.rep eN x)]) (List.perm_append_comm (l₁:=([.obj b3 131 (.rep eN x)]:List D)))) ?_
 show JC _ _ _ _ _
 refine ah ?_
 refine BD (L:=_++_) (Δ:=[_]) (Γ1:=[(0,.at HA ((t,.map (some m)),l1))]) (Z:=Unit) (fun _=>[(4,.eq (.bool (!t5 e)))]) (fun _=>[.obj b3 131 (.rep eN x)]) (fun S w a hl hk=>xC hl hk rfl) (fun _=>⟨Jz rfl,KV rfl⟩) (fun S w=>?_) (fun _=>?_)
 ·
  refine cr ?_;refine dm ?_;refine da (dr rfl) ?_;refine da (aH 1 false rfl NL rfl) ?_;refine da (ar (t:=.ptr au) rfl D9 rfl) ?_;refine da (dr rfl) ?_;refine da (aH 3 true rfl KQ rfl) ?_;refine da (ar (t:=bb) rfl D8 rfl) ?_;refine dm ?_;refine da (dr rfl) ?_;refine da (aH 1 false rfl sM rfl) ?_;refine da (ar (t:=.slice (.slice (.int .i64))) rfl ng rfl) ?_;refine sf (by kernel_rfl) pN ?_;refine jb (ao [.tmp 16,.tmp 20] rfl rfl NS rfl cv) ?_;refine jb (qB rfl Qs he) ?_;refine aq (ap ?_);exact fun a w st=>⟨rfl,(),(SE.fin (Γ':=[(4,.eq (.bool (!t5 e)))]) [0] ⟨rfl,trivial⟩ rfl) a w st⟩
 ·
  refine tn (aA (BA (Δ1:=[.obj y 128 (.agg (.pair (.at au (t,.map (some m))) (.eq z.1)))]++f5 23 z l1) (F:=[.obj b3 131 (.rep eN x)]) wO (ly k x l1 l2 y (t,.map (some m)) z e3 _) xE (fun _=>?_)));refine bI (gy (Δ':=[.obj b3 131 (.rep eN x)]++([.obj y 128 (.agg (.pair (.at au (t,.map (some m))) (.eq z.1)))]++f5 23 z l2)) List.perm_append_comm) ?_;refine bI (aZ (pre':=[.obj y 128 (.agg (.pair (.at au (t,.map (some m))) (.eq z.1)))]) (Γ':=[(4,.eq (.bool (!t5 e)))]) [.obj b3 131 (.rep eN x),.obj y 128 (.agg (.pair (.at au (t,.map (some m))) (.eq z.1)))] (f5 23 z l2) [1] ⟨rfl,trivial⟩ rfl) ?_;exact ik () [_] ⟨rfl,trivial⟩ rfl
def lS(k:Nat)(t:bm)(x:Int×Int)(ls:List (List Int)):Option (Int×List (List Int)):=
 (l8 k x ls).bind fun l1=>(dn k l1).bind fun ld=>(cP k t ld).bind fun n=>(l8 k x l1).bind fun l2=>some (n,l2)
theorem rm(k:Nat)(t:bm)(x:Int×Int)(ls:List (List Int))(r:Int×List (List Int))(y m:Nat)(z:Value×(Nat→Value))(h:lS k t x ls=some r):
 dk (iy Tryz.prog) 100 [.eq (bP y),.rep eN x] ([.inv m (bB k t)]++([.obj y 128 (.agg (.pair (.at au (t,.map (some m))) (.eq z.1)))]++f5 23 z ls)) (fun _:Unit=>(bq [I r.1],[.inv m (bB k t)]++([.obj y 128 (.agg (.pair (.at au (t,.map (some m))) (.eq z.1)))]++f5 23 z r.2))):=by
 unfold lS at h
 replace h:=a9 h
 obtain⟨l1,e1,h⟩:=aa h
 obtain⟨ld,e2,h⟩:=aa h
 obtain⟨n,e2',h⟩:=aa h
 obtain⟨l2,e3,h⟩:=aa h
 cases h
 have cv:=dJ k l1 ld e2
 have cl:=iW k t m ld n e2'
 refine zi 20 Tryz.func100 rfl Tryz.ntmps100 rfl fun S w0=>?_
 refine sr ?_
 refine bx fun b3=>?_
 refine cq ?_
 refine nt ?_
 refine sr ?_
 refine mq ?_
 refine ka (ak rfl gg (xl) rfl) ?_
 refine cS (gy (Δ':=([.obj y 128 (.agg (.pair (.at au (t,.map (some m))) (.eq z.1)))]++f5 23 z ls)++[.obj b3 131 (.rep eN x),.inv m (bB k t)]) (List.perm_append_comm (l₁:=([.obj b3 131 (.rep eN x),.inv m (bB k t)]:List D)))) ?_
 refine bC (Δ:=_++_) (F:=[_,_]) (fun _ _ _=>av rfl _) rfl rfl (ao [.tmp 5,.tmp 6] rfl rfl wO rfl (ly k x ls l1 y (t,.map (some m)) z e1)) ⟨rfl,rfl,trivial⟩ fun _=>?_
 refine nt ?_
 refine sr ?_
 refine mq ?_
 refine cS (gy (Δ':=[.obj b3 131 (.rep eN x),.inv m (bB k t)]++([.obj y 128 (.agg (.pair (.at au (t,.map (some m))) (.eq z.1)))]++f5 23 z l1)) List.perm_append_comm) ?_
 refine ka (ak rfl gg (xl) rfl) ?_
 refine cS (qY 9 rfl fun _ _ _ h=>F7 h) ?_
 refine vR (vs:=[bP y,NN x]) [.tmp 8,.tmp 9] rfl rfl rfl rfl rfl ⟨rfl,rfl,trivial⟩ ?_
 refine ap ?_
 refine ae ?_
 refine bI (gy (Δ':=([.obj y 128 (.agg (.pair (.at au (t,.map (some m))) (.eq z.1)))]++f5 23 z l1)++[.obj b3 131 (.rep eN x),.inv m (bB k t)]) (List.perm_append_comm (l₁:=([.obj b3 131 (.rep eN x),.inv m (bB k t)]:List D)))) ?_
 show JC _ _ _ _ _
 refine ah ?_
 refine BD (L:=_++_) (Δ:=[_,_]) (Γ1:=[(0,.at HA ((t,.map (some m)),l1))]) (Z:=Unit) (fun _=>[(4,I n)]) (fun _=>[.obj b3 131 (.rep eN x),.inv m (bB k t)]) (fun S w a hl hk=>xC hl hk rfl) (fun _=>⟨Jz rfl,Iz rfl rfl⟩) (fun S w=>?_) (fun _=>?_)
 ·
  refine cr ?_;refine dm ?_;refine da (dr rfl) ?_;refine da (aH 1 false rfl NL rfl) ?_;refine da (ar (t:=.ptr au) rfl D9 rfl) ?_;refine dm ?_;refine da (dr rfl) ?_;refine da (aH 1 false rfl sM rfl) ?_;refine da (ar (t:=.slice (.slice (.int .i64))) rfl ng rfl) ?_;refine da (ao [.tmp 17] rfl rfl NT rfl cv) ?_;refine sf (by kernel_rfl) pN ?_;refine fr 1 ?_;refine kb (fL [.tmp 13,.tmp 18] rfl rfl KZ rfl cl) ?_;refine aq (ap ?_);exact fun a w st=>⟨rfl,(),(SE.fin (Γ':=[(4,I n)]) [1,0] ⟨rfl,trivial⟩ rfl) a w st⟩
 ·
  refine tn (aA (BA (Δ1:=[.obj y 128 (.agg (.pair (.at au (t,.map (some m))) (.eq z.1)))]++f5 23 z l1) (F:=[.obj b3 131 (.rep eN x),.inv m (bB k t)]) wO (ly k x l1 l2 y (t,.map (some m)) z e3 _) xE (fun _=>?_)));refine bI (gy (Δ':=[.obj b3 131 (.rep eN x),.inv m (bB k t)]++([.obj y 128 (.agg (.pair (.at au (t,.map (some m))) (.eq z.1)))]++f5 23 z l2)) List.perm_append_comm) ?_;refine bI (aZ (pre':=[.inv m (bB k t),.obj y 128 (.agg (.pair (.at au (t,.map (some m))) (.eq z.1)))]) (Γ':=[(4,I n)]) [.obj b3 131 (.rep eN x),.inv m (bB k t),.obj y 128 (.agg (.pair (.at au (t,.map (some m))) (.eq z.1)))] (f5 23 z l2) [1,2] ⟨rfl,trivial⟩ rfl) ?_;exact ik () [_] ⟨rfl,trivial⟩ rfl
theorem q9:∀w,(zeroValue 131).run Tryz.prog w= .ok (.agg #[.int .i64 0,.int .i64 0]) w:=fun w=>by kernel_rfl
theorem uk:∀S w,(A.cells S w (.rep eN (0,0)) (Value.cells (.agg #[.int .i64 0,.int .i64 0])).toList):=fun _ _=>⟨[_],[_],rfl,rfl,rfl⟩
theorem K0:ag Tryz.prog 100:=ag.of Tryz.func100 (by kernel_rfl) (by kernel_rfl)
abbrev JK:=Int×(Int×Int)×Int×Bool×List (List Int)
def gB(k:Nat)(t:bm)(xs:List (Int×Int)):Nat→JK→Option ((Int×Int)×Int×Bool×List (List Int))
 |0,_=>none
 |n+1,q=>if q.1 < (xs.length:Int) then((a8 xs q.1).bind fun x=>(lS k t x q.2.2.2.2).bind fun r=>(ck (q.1+1)).bind fun w=>gB k t xs n (if(!q.2.2.2.1 || decide (r.1 < q.2.2.1))=true then(w,x,r.1,true,r.2) else(w,q.2.1,q.2.2.1,q.2.2.2.1,r.2))) else some q.2
def kK(k:Nat)(t:bm)(xs:List (Int×Int))(ls:List (List Int)):Option ((Int×Int)×Int×Bool×List (List Int)):=gB k t xs k (0,(0,0),0,false,ls)
theorem uC(k:Nat)(t:bm)(xs:List (Int×Int))(ls:List (List Int))(r:(Int×Int)×Int×Bool×List (List Int))(y m:Nat)(z:Value×(Nat→Value))(h:kK k t xs ls=some r):
 dk (iy Tryz.prog) 99 [.eq (.func (.func 100) #[bP y] #[]),Rs eN xs] ([.inv m (bB k t),.obj y 128 (.agg (.pair (.at au (t,.map (some m))) (.eq z.1)))]++f5 23 z ls) (fun _:Unit=>(bq [.rep eN r.1,I r.2.1,.eq (.bool r.2.2.1)],[.inv m (bB k t),.obj y 128 (.agg (.pair (.at au (t,.map (some m))) (.eq z.1)))]++f5 23 z r.2.2.2)):=by
 unfold kK at h
 replace h:=a9 h
 refine dk.of 35 Tryz.func99 rfl Tryz.ntmps99 rfl fun S w0=>?_
 refine sr ?_
 refine aF rfl rfl rfl (bL rfl q9 uk) trivial fun b4=>?_
 refine cq ?_
 refine cq ?_
 refine nt ?_
 refine sr ?_
 refine aF rfl rfl rfl (bL rfl q9 uk) trivial fun b7=>?_
 refine nt ?_
 refine sr ?_
 refine cq ?_
 refine cq ?_
 refine nt ?_
 refine ah ?_
 refine sr ?_
 refine mq ?_
 refine ol LC ?_
 refine eG rfl ?_
 refine nt ?_
 refine aj ?_
 refine aJ (Z:=Unit) (α:=JK) (fun _ q=>[(0,.eq (.func (.func 100) #[bP y] #[])),(4,.eq (bP b4)),(7,.eq (bP b7)),(8,I q.2.2.1),(9,.eq (.bool q.2.2.2.1)),(13,Rs eN xs),(14,I (xs.length:Int)),(15,I q.1)]) (fun _ q=>[.obj b7 131 (.rep eN q.2.1),.obj b4 131 (.rep eN (0,0)),.inv m (bB k t),.obj y 128 (.agg (.pair (.at au (t,.map (some m))) (.eq z.1)))]++f5 23 z q.2.2.2.2) (gB k t xs) k () (0,(0,0),0,false,ls) (fun _=>rfl) h (aZ [.obj b7 131 (.rep eN (0,0)),.obj b4 131 (.rep eN (0,0)),.inv m (bB k t),.obj y 128 (.agg (.pair (.at au (t,.map (some m))) (.eq z.1)))] (f5 23 z ls) [0,1,2,3] ⟨rfl,rfl,rfl,rfl,rfl,rfl,rfl,rfl,trivial⟩ rfl) (fun n u q h=>?_)
 unfold gB at h
 obtain⟨q1,q2,q3,q4,q5⟩:=q
 refine sr ?_
 refine jb (bH rfl) ?_
 refine nt ?_
 refine ah ?_
 refine bD rfl (fun hb=>?_) (fun hb=>?_)
 ·
  replace h:=cM (nq hb) h;obtain⟨x,ex,h⟩:=aa h;obtain⟨r1,e,h⟩:=aa h;obtain⟨w,ew,h⟩:=aa h;have cl:=rm k t x q5 r1 y m z e;refine sk (ah (aj (sr (jb (aN (t:=eN) rfl LC gg ex) ?_))));refine ja (ar (t:=eN) rfl gg rfl) ?_;refine aF rfl rfl rfl (bL rfl q9 uk) trivial fun c=>?_;refine bg rfl rfl (ba rfl gg rfl rfl rfl) ⟨rfl,rfl,trivial⟩ ?_;refine nt (sr (mq ?_));refine ka (ak rfl gg (xl) rfl) ?_;refine cS (gy (Δ':=([.inv m (bB k t)]++([.obj y 128 (.agg (.pair (.at au (t,.map (some m))) (.eq z.1)))]++f5 23 z q5))++[.obj c 131 (.rep eN x),.obj b7 131 (.rep eN q2),.obj b4 131 (.rep eN (0,0))]) (List.perm_append_comm (l₁:=([.obj c 131 (.rep eN x),.obj b7 131 (.rep eN q2),.obj b4 131 (.rep eN (0,0))]:List D)))) ?_;refine bC (Δ:=_++_) (F:=[_,_,_]) (fun _ _ _=>av rfl _) rfl rfl (nK (fs:=[bP y]) (cs:=[]) (ags:=[.rep eN x]) [.tmp 20] rfl rfl K0 rfl cl) ⟨rfl,rfl,trivial⟩ fun _=>?_;refine aq ?_;refine cS (gy (Δ':=[.obj c 131 (.rep eN x),.obj b7 131 (.rep eN q2),.obj b4 131 (.rep eN (0,0))]++([.inv m (bB k t)]++([.obj y 128 (.agg (.pair (.at au (t,.map (some m))) (.eq z.1)))]++f5 23 z r1.2))) List.perm_append_comm) ?_;refine nt ?_;cases q4 with
  |false=>
   refine sr (mq ?_);refine ja (eR rfl) ?_;refine mq ?_;iterate 3 refine gn ?_
   refine pt (nt ?_);refine bD rfl (fun hb=>?_) (fun hb=>(by cases hb));refine ab (ka (ak rfl gg (xl) rfl) ?_);refine mq ?_;refine fr 1 ?_;refine bg rfl rfl (ba rfl gg rfl rfl rfl) ⟨rfl,rfl,trivial⟩ ?_;refine aq ?_;refine cq (ap (aI (tn (ab ?_))));refine jb (bj rfl ew) ?_;refine mq (nl ?_);exact iz ((),(w,x,r1.1,true,r1.2)) h (aZ [.obj b7 131 (.rep eN x),.obj c 131 (.rep eN x),.obj b4 131 (.rep eN (0,0)),.inv m (bB k t),.obj y 128 (.agg (.pair (.at au (t,.map (some m))) (.eq z.1)))] (f5 23 z r1.2) [0,2,3,4] ⟨rfl,rfl,rfl,rfl,rfl,rfl,rfl,rfl,trivial⟩ rfl)
  |true=>
   refine sr (mq ?_);refine ja (eR rfl) ?_;refine mq ?_;refine gm ?_;refine gm ?_;refine gb (bH rfl) ?_;refine pf (nt ?_);refine bD rfl (fun hb=>?_) (fun hb=>?_)
   ·replace h:(gB k t xs n (w,x,r1.1,true,r1.2)).bind some=some r:=by
     have hd:r1.1 < q3:=of_decide_eq_true hb;simpa [hd] using h
    refine ab (ka (ak rfl gg (xl) rfl) ?_);refine mq ?_;refine fr 1 ?_;refine bg rfl rfl (ba rfl gg rfl rfl rfl) ⟨rfl,rfl,trivial⟩ ?_;refine aq ?_;refine cq (ap (aI (tn (ab ?_))));refine jb (bj rfl ew) ?_;refine mq (nl ?_);exact iz ((),(w,x,r1.1,true,r1.2)) h (aZ [.obj b7 131 (.rep eN x),.obj c 131 (.rep eN x),.obj b4 131 (.rep eN (0,0)),.inv m (bB k t),.obj y 128 (.agg (.pair (.at au (t,.map (some m))) (.eq z.1)))] (f5 23 z r1.2) [0,2,3,4] ⟨rfl,rfl,rfl,rfl,rfl,rfl,rfl,rfl,trivial⟩ rfl)
   ·replace h:(gB k t xs n (w,q2,q3,true,r1.2)).bind some=some r:=by
     have hd:¬r1.1 < q3:=of_decide_eq_false hb;simpa [hd] using h
    refine aU (aI (tn (ab (jb (bj rfl ew) ?_))));refine mq (nl ?_);exact iz ((),(w,q2,q3,true,r1.2)) h (aZ [.obj c 131 (.rep eN x),.obj b7 131 (.rep eN q2),.obj b4 131 (.rep eN (0,0)),.inv m (bB k t),.obj y 128 (.agg (.pair (.at au (t,.map (some m))) (.eq z.1)))] (f5 23 z r1.2) [1,2,3,4] ⟨rfl,rfl,rfl,rfl,rfl,rfl,rfl,rfl,trivial⟩ rfl)
 replace h:=bQ (m4 hb) h
 refine dF ?_
 refine aM ?_
 refine aM ?_
 refine bR ?_
 refine tn ?_
 cases h
 refine sr ?_
 refine ka (ak rfl gg (xl) rfl) ?_
 iterate 2 refine mq ?_
 refine fr 1 ?_
 refine bg rfl rfl (ba rfl gg rfl rfl rfl) ⟨rfl,rfl,trivial⟩ ?_
 refine aq ?_
 refine aq ?_
 refine nt ?_
 refine aA ?_
 refine bI (gy (Δ':=([.inv m (bB k t),.obj y 128 (.agg (.pair (.at au (t,.map (some m))) (.eq z.1)))]++f5 23 z q5)++[.obj b4 131 (.rep eN q2),.obj b7 131 (.rep eN q2)]) (List.perm_append_comm (l₁:=([.obj b4 131 (.rep eN q2),.obj b7 131 (.rep eN q2)]:List D)))) ?_
 exact aG () [_,_,_] ([.inv m (bB k t),.obj y 128 (.agg (.pair (.at au (t,.map (some m))) (.eq z.1)))]++f5 23 z q5:List D).length ⟨⟨b4,131,.rep eN q2,2,true,rfl,List.mem_append.2 (.inr (List.mem_cons_self ..)),gg,xl,rfl⟩,rfl,rfl,trivial⟩ (by rw [List.take_left])
theorem pq:ag Tryz.prog 97:=ag.of Tryz.func97 (by kernel_rfl) (by kernel_rfl)
theorem NV:ag Tryz.prog 48:=ag.of Tryz.func48 (by kernel_rfl) (by kernel_rfl)
theorem NU:ag Tryz.prog 84:=ag.of Tryz.func84 (by kernel_rfl) (by kernel_rfl)
theorem NR:ag Tryz.prog 98:=ag.of Tryz.func98 (by kernel_rfl) (by kernel_rfl)
theorem NQ:ag Tryz.prog 99:=ag.of Tryz.func99 (by kernel_rfl) (by kernel_rfl)
theorem Ji:dx Tryz.prog 22 1 false:=⟨fun w=>by kernel_rfl,fun w=>by kernel_rfl⟩
theorem Jy:aO Tryz.prog 25 1 1:=aO.of (by kernel_rfl)
theorem nh:lV Tryz.prog 28 23 1 24:=.of (z:=(.slice none 0 0)) nu (by kernel_rfl) rfl rfl rfl
theorem Ec:lV Tryz.prog 129 131 2 16:=.of (z:=(.agg #[.int .i64 0,.int .i64 0])) LC (by kernel_rfl) rfl rfl rfl
theorem Ko:xh Tryz.prog 128 #[(0,1),(1,1)]:=⟨_,Qp,fun _=>by kernel_rfl⟩
theorem JS:∀w,(zeroValue 128).run Tryz.prog w= .ok (.agg #[.pointer none,.slice none 0 0]) w:=fun w=>by kernel_rfl
theorem Lt:∀S w,(A.cells S w (.pair (.eq (.pointer none)) (.eq (.slice none 0 0))) (Value.cells (.agg #[.pointer none,.slice none 0 0])).toList):=fun _ _=>⟨[_],_,rfl,⟨rfl,rfl⟩,rfl,rfl⟩
theorem J9:xh Tryz.prog 131 #[(0,1),(1,1)]:=⟨_,Qo,fun _=>by kernel_rfl⟩
theorem IR:∀S w,(A.cells S w (.pair (I 0) (I 0)) (Value.cells (.agg #[.int .i64 0,.int .i64 0])).toList):=fun _ _=>⟨[_],_,rfl,⟨rfl,rfl⟩,rfl,rfl⟩
def eY:List Bool→Ga→Ga
 |true::l,e::g=>e::eY l g
 |false::l,_::g=>eY l g
 |_,_=>[]
def lC(y:Nat)(z1:Value)(l:List Int)(v v2:Value):Ga:=[(39,.eq (bP y)),(40,.eq (bP y)),(41,.eq (bP y)),(42,.eq (.pointer (some ⟨y,0+1,none⟩))),(43,.eq z1),(44,Ri l),(45,.eq v),(46,.rep (.slice .val) [v]),(47,.eq v2),(48,.eq (bP y)),(49,.eq (.pointer (some ⟨y,0+1,none⟩)))]
def kN(b2 y:Nat)(n i:Int)(l:List Int)(a1:List (List Int)):Ga:=[(2,.eq (bP b2)),(8,I n),(10,.eq (bP y)),(12,Ri l),(33,.rep (.slice (.slice (.int .i64))) a1),(34,I (a1.length:Int)),(35,I i)]
theorem OO{i j:Int}:AE (.agg (.pair (I i) (I j))) (.rep eN (i,j)):=fun S w cs h=>by
 obtain⟨c1,c2,e,h1,h2⟩:=h
 exact⟨c1,c2,e,h1.1,h2.1⟩
def lB(k:Nat)(a1:List (List Int)):Nat→Int×List (List Int)→Option (List (List Int))
 |0,_=>none
 |n+1,q=>if q.1 < (a1.length:Int) then((a8 a1 q.1).bind fun l=>(jG k l).bind fun l2=>if bV (q.2.length+1) then(ck (q.1+1)).bind fun w=>lB k a1 n (w,q.2++[l2]) else none) else some q.2
def jI(k:Nat)(t:bm)(i:Int):Nat→Int×List (Int×Int)×List (List Int)→Option (List (Int×Int)×List (List Int))
 |0,_=>none
 |n+1,q=>if q.1 < (t.2.1.length:Int) then((lR k t (i,q.1) q.2.2).bind fun r=>if r.1=true then(if bV (q.2.1.length+1) then(ck (q.1+1)).bind fun w=>jI k t i n (w,q.2.1++[(i,q.1)],r.2) else none) else(ck (q.1+1)).bind fun w=>jI k t i n (w,q.2.1,r.2)) else some q.2
def iQ(k:Nat)(t:bm):Nat→Int×List (Int×Int)×List (List Int)→Option (List (Int×Int)×List (List Int))
 |0,_=>none
 |n+1,q=>if q.1 < (t.2.1.length:Int) then((ck (q.1+1)).bind fun w=>(jI k t q.1 k (w,q.2)).bind fun p=>iQ k t n (w,p)) else some q.2
def ta(k:Nat)(a0:bm)(a1:(List (List Int))):Option (Int×Int×Int×Int):=
 (jq k a0 a1).bind fun L=>if¬(L.2=0) then some (0,0,0,L.2) else
 (lB k a1 k (0,[])).bind fun ls=>(iQ k a0 k (0,[],ls)).bind fun p=>(kK k a0 p.1 p.2).bind fun b=>
 if(!b.2.2.1 || decide (L.1≤b.2.1))=true then some (0,0,0,11) else some (b.1.1,b.1.2,b.2.1,0)
theorem xH(k:Nat)(a0:bm)(a1:(List (List Int)))(r:Int×Int×Int×Int)(h:ta k a0 a1=some r):
 dk (iy Tryz.prog) 40 [.rep bb a0,.rep (.slice (.slice (.int .i64))) a1] [.inv 0 ir] (fun _:Unit=>(bq [.eq (.int .i64 r.1),.eq (.int .i64 r.2.1),.eq (.int .i64 r.2.2.1),.eq (.int .i64 r.2.2.2)],[.inv 0 ir])):=by
 unfold ta at h
 replace h:=a9 h
 refine dk.of 97 Tryz.func40 rfl Tryz.ntmps40 rfl fun S w0=>?_
 refine ah ?_
 refine ab ?_
 refine aF rfl rfl rfl (mo rfl rfl) ⟨rfl,trivial⟩ fun b2=>?_
 refine dA rfl ?_
 refine dA rfl ?_
 refine dA rfl ?_
 refine dA rfl ?_
 refine ap ?_
 refine ae ?_
 show JC _ _ _ _ _
 obtain⟨L,eL,h⟩:=aa h
 have cL:=mL k a0 a1 L eL
 refine ah ?_
 refine ab ?_
 refine bO rfl rfl rfl (ak rfl D8 (xl) rfl) ⟨rfl,trivial⟩ ?_
 refine ax rfl rfl ?_
 refine bv 1 rfl ?_
 refine bO rfl rfl rfl (fL [.tmp 21,.tmp 22] rfl rfl NV rfl cL) ⟨rfl,rfl,trivial⟩ ?_
 refine ax rfl rfl ?_
 refine aB rfl (gC rfl rfl) ⟨rfl,trivial⟩ ?_
 refine aB rfl (gC rfl rfl) ⟨rfl,trivial⟩ ?_
 refine dc rfl rfl ?_
 refine dc rfl rfl ?_
 refine ap ?_
 refine ae ?_
 show JC _ _ _ _ _
 refine ah ?_
 refine ah ?_
 refine ab ?_
 refine ax rfl rfl ?_
 refine aB rfl (jf rfl) ⟨rfl,rfl,trivial⟩ ?_
 refine ap ?_
 refine ae ?_
 show JC _ _ _ _ _
 refine bD rfl (fun hb=>?_) (fun hb=>?_)
 ·
  replace h:=cM (MX hb) h
  refine ah ?_
  refine ab ?_
  refine ax rfl rfl ?_
  refine dA rfl ?_
  refine dA rfl ?_
  refine dA rfl ?_
  refine dc rfl rfl ?_
  refine ap ?_
  refine ae ?_
  show JC _ _ _ _ _
  refine aA ?_
  refine aP ?_
  obtain rfl:=Option.some.inj h
  exact aG () [_,_,_,_] 1 ⟨rfl,rfl,rfl,rfl,trivial⟩ rfl
 replace h:=bQ (Fb hb) h
 refine aU ?_
 refine ae ?_
 show JC _ _ _ _ _
 rw [Option.bind_assoc] at h
 refine ah ?_
 refine ab ?_
 refine bv 1 rfl ?_
 refine bO rfl rfl rfl (ak rfl D8 (xl) rfl) ⟨rfl,trivial⟩ ?_
 refine aF rfl rfl rfl (ao [.tmp 29] rfl rfl NU rfl (fO a0)) ⟨rfl,trivial⟩ fun m=>?_
 refine cS (jC (bB k a0) kE) ?_
 refine aB rfl (dt [(0,.tmp 30,_)] rfl Ko JS Lt (i7 ⟨trivial,trivial⟩) rfl) ⟨rfl,trivial⟩ ?_
 refine aF rfl rfl rfl (mo rfl trivial) ⟨rfl,trivial⟩ fun y=>?_
 refine dc rfl rfl ?_
 refine ap ?_
 refine ae ?_
 show JC _ _ _ _ _
 refine ah ?_
 refine ah ?_
 refine ab ?_
 refine ax rfl rfl ?_
 refine aB rfl (mm rfl rfl nu) ⟨rfl,trivial⟩ ?_
 refine eG rfl ?_
 refine cS (SE.nil 23 .val) ?_
 refine cS (gy (Δ':=[.obj y 128 (.agg (.pair (.at au (a0,.map (some m))) (.eq (.slice none 0 0)))),.inv m (bB k a0),.obj b2 25 (.rep bb a0),.inv 0 ir]++f5 23 (.slice none 0 0,fun _=>undef) []) (List.Perm.trans (List.perm_append_comm (l₁:=([.sl (.slice none 0 0) 23 .val []]:List D))) (List.Perm.refl _))) ?_
 refine ap ?_
 refine ae ?_
 show JC _ _ _ _ _
 refine aj ?_
 refine aJ (Z:=Value×(Nat→Value)) (α:=Int×List (List Int)) (fun z q=>[(2,.eq (bP b2)),(8,.eq (.int .i64 L.1)),(10,.eq (bP y)),(33,.rep (.slice (.slice (.int .i64))) a1),(34,.eq (.int .i64 (a1.length:Int))),(35,.eq (.int .i64 q.1))]) (fun z q=>[.obj y 128 (.agg (.pair (.at au (a0,.map (some m))) (.eq z.1))),.inv m (bB k a0),.obj b2 25 (.rep bb a0),.inv 0 ir]++f5 23 z q.2) (lB k a1) k (.slice none 0 0,fun _=>undef) (0,[]) (fun _=>rfl) h (aZ [.obj y 128 (.agg (.pair (.at au (a0,.map (some m))) (.eq (.slice none 0 0)))),.inv m (bB k a0),.obj b2 25 (.rep bb a0),.inv 0 ir] (f5 23 (.slice none 0 0,fun _=>undef) []) [0,1,2,3] ⟨rfl,rfl,rfl,rfl,rfl,rfl,trivial⟩ rfl) (fun n z q h=>?_)
 unfold lB at h
 refine ah ?_
 refine ab ?_
 refine aB rfl (bH rfl) ⟨rfl,rfl,trivial⟩ ?_
 refine ap ?_
 refine ae ?_
 show JC _ _ _ _ _
 refine ah ?_
 refine bD rfl (fun hb=>?_) (fun hb=>?_)
 ·
  replace h:=cM (nq hb) h
  obtain⟨q1,q2⟩:=q
  obtain⟨l,el,h⟩:=aa h
  obtain⟨l2,el2,h⟩:=aa h
  have hk:bV (q2.length+1):=by
   apply Classical.byContradiction
   intro hn
   rw [if_neg hn] at h
   cases h
  replace h:=cM hk h
  have cc:=mi k l l2 el2
  refine aU ?_
  refine ae ?_
  show JC _ _ _ _ _
  refine ah ?_
  refine aj ?_
  refine ah ?_
  refine ab ?_
  refine aB rfl (aN (t:=.slice (.int .i64)) rfl nu AS el) ⟨rfl,rfl,trivial⟩ ?_
  refine aB rfl (ar (t:=.slice (.int .i64)) rfl AS rfl) ⟨rfl,trivial⟩ ?_
  refine dc rfl rfl ?_
  refine ap ?_
  refine ae ?_
  show JC _ _ _ _ _
  refine gd (Bv (pre:=[.obj y 128 (.agg (.pair (.at au (a0,.map (some m))) (.eq z.1))),.inv m (bB k a0),.obj b2 25 (.rep bb a0),.inv 0 ir])) ?_
  refine iD 1 rfl ?_
  refine gd (SE.sub (Γ':=kN b2 y L.1 q1 l a1) ⟨rfl,rfl,rfl,rfl,rfl,rfl,rfl,trivial⟩) ?_
  generalize hB:kN b2 y L.1 q1 l a1=B
  refine uw (Δ:=[.obj y 128 (.agg (.pair (.at au (a0,.map (some m))) (.eq z.1))),.sl z.1 23 .val (fa z.2 0 q2)]) (F:=[.inv m (bB k a0),.obj b2 25 (.rep bb a0),.inv 0 ir]++kB z.2 0 q2) (Z:=Value×Value) (fun p=>B) (fun p=>[.obj y 128 (.agg (.pair (.at au (a0,.map (some m))) (.eq p.2))),.sl p.2 23 .val (fa z.2 0 q2++[p.1]),.sl p.1 3 (.int .i64) l2]) (fun S w=>?_) (fun p=>?_)
  ·
   subst hB
   refine G4 (I:=Value×Value) (Ge:=fun _=>kN b2 y L.1 q1 l a1) (De:=fun p=>[.obj y 128 (.agg (.pair (.at au (a0,.map (some m))) (.eq p.2))),.sl p.2 23 .val (fa z.2 0 q2++[p.1]),.sl p.1 3 (.int .i64) l2]) (L:=[true,true,true,true,true,true,true,true,true,true,true,true]) pN rfl (fun J hJ hE=>?_) (by kernel_rfl) (fun p=>?_)
   ·
    have s2047:∀(v v2:Value),J 1 [true,true,true,true,true,true,true,true,true,true,true,false] (eY [true,true,true,true,true,true,true,true,true,true,true,false] (lC y z.1 l v v2)++kN b2 y L.1 q1 l a1) [.obj y 128 (.agg (.pair (.at au (a0,.map (some m))) (.eq z.1))),.sl v2 23 .val (fa z.2 0 q2++[v]),.sl v 3 (.int .i64) l2]:=fun v v2=>by
     subst hJ
     refine JD.step [11] (by kernel_rfl) rfl ?_
     refine eV.cons rfl ?_ ?_
     ·
      refine bv 1 rfl ?_
      refine f4 fun hv=>?_
      refine bv 1 rfl ?_
      refine bg rfl rfl (ba rfl ng hv rfl rfl) ⟨rfl,rfl,trivial⟩ ?_
      exact aV (hE (v,v2)) [0,1,2] ⟨rfl,rfl,rfl,rfl,rfl,rfl,rfl,trivial⟩
     exact trivial
    have s1023:∀(v v2:Value),J 2 [true,true,true,true,true,true,true,true,true,true,false,false] (eY [true,true,true,true,true,true,true,true,true,true,false,false] (lC y z.1 l v v2)++kN b2 y L.1 q1 l a1) [.obj y 128 (.agg (.pair (.at au (a0,.map (some m))) (.eq z.1))),.sl v2 23 .val (fa z.2 0 q2++[v]),.sl v 3 (.int .i64) l2]:=fun v v2=>by
     subst hJ
     refine JD.step [10] (by kernel_rfl) rfl ?_
     refine eV.cons rfl ?_ ?_
     ·
      refine aB rfl (aw rfl sM) ⟨rfl,trivial⟩ ?_
      exact aV (s2047 v v2) [0,1,2] ⟨rfl,rfl,rfl,rfl,rfl,rfl,rfl,rfl,rfl,rfl,rfl,rfl,rfl,rfl,rfl,rfl,rfl,rfl,trivial⟩
     exact trivial
    have s511:∀(v v2:Value),J 3 [true,true,true,true,true,true,true,true,true,false,false,false] (eY [true,true,true,true,true,true,true,true,true,false,false,false] (lC y z.1 l v v2)++kN b2 y L.1 q1 l a1) [.obj y 128 (.agg (.pair (.at au (a0,.map (some m))) (.eq z.1))),.sl v2 23 .val (fa z.2 0 q2++[v]),.sl v 3 (.int .i64) l2]:=fun v v2=>by
     subst hJ
     refine JD.step [9] (by kernel_rfl) rfl ?_
     refine eV.cons rfl ?_ ?_
     ·
      refine aB rfl (aQ rfl) ⟨rfl,trivial⟩ ?_
      exact aV (s1023 v v2) [0,1,2] ⟨rfl,rfl,rfl,rfl,rfl,rfl,rfl,rfl,rfl,rfl,rfl,rfl,rfl,rfl,rfl,rfl,rfl,trivial⟩
     exact trivial
    have s255:∀(v:Value),J 4 [true,true,true,true,true,true,true,true,false,false,false,false] (eY [true,true,true,true,true,true,true,true,false,false,false,false] (lC y z.1 l v undef)++kN b2 y L.1 q1 l a1) [.obj y 128 (.agg (.pair (.at au (a0,.map (some m))) (.eq z.1))),.sl z.1 23 .val (fa z.2 0 q2),.sl v 3 (.int .i64) l2]:=fun v=>by
     subst hJ
     refine JD.step [8] (by kernel_rfl) rfl ?_
     refine eV.cons rfl ?_ ?_
     ·
      refine bv 1 rfl ?_
      refine ek rfl rfl rfl (cp rfl rfl nh (by simpa [ge] using hk)) ⟨rfl,rfl,trivial⟩ fun v2=>?_
      exact aV (s511 v v2) [1,0,2] ⟨rfl,rfl,rfl,rfl,rfl,rfl,rfl,rfl,rfl,rfl,rfl,rfl,rfl,rfl,rfl,rfl,trivial⟩
     exact trivial
    have s510:∀(v v2:Value),J 4 [false,true,true,true,true,true,true,true,true,false,false,false] (eY [false,true,true,true,true,true,true,true,true,false,false,false] (lC y z.1 l v v2)++kN b2 y L.1 q1 l a1) [.obj y 128 (.agg (.pair (.at au (a0,.map (some m))) (.eq z.1))),.sl v2 23 .val (fa z.2 0 q2++[v]),.sl v 3 (.int .i64) l2]:=fun v v2=>by
     subst hJ
     refine JD.step [0] (by kernel_rfl) rfl ?_
     refine eV.cons rfl ?_ ?_
     ·
      refine ax rfl rfl ?_
      exact aV (s511 v v2) [0,1,2] ⟨rfl,rfl,rfl,rfl,rfl,rfl,rfl,rfl,rfl,rfl,rfl,rfl,rfl,rfl,rfl,rfl,trivial⟩
     exact trivial
    have s127:∀(v:Value),J 5 [true,true,true,true,true,true,true,false,false,false,false,false] (eY [true,true,true,true,true,true,true,false,false,false,false,false] (lC y z.1 l v undef)++kN b2 y L.1 q1 l a1) [.obj y 128 (.agg (.pair (.at au (a0,.map (some m))) (.eq z.1))),.sl z.1 23 .val (fa z.2 0 q2),.sl v 3 (.int .i64) l2]:=fun v=>by
     subst hJ
     refine JD.step [7] (by kernel_rfl) rfl ?_
     refine eV.cons rfl ?_ ?_
     ·
      refine bv 2 rfl ?_
      refine f4 fun hv=>?_
      refine aB rfl (bG (t:=.val) [(.tmp 45,.eq v)] [v] rfl rfl nh (.cons hv (.val hv) .nil) rfl rfl) ⟨rfl,trivial⟩ ?_
      exact aV (s255 v) [1,2,0] ⟨rfl,rfl,rfl,rfl,rfl,rfl,rfl,rfl,rfl,rfl,rfl,rfl,rfl,rfl,rfl,trivial⟩
     exact trivial
    have s239:∀(v:Value),J 5 [true,true,true,true,false,true,true,true,false,false,false,false] (eY [true,true,true,true,false,true,true,true,false,false,false,false] (lC y z.1 l v undef)++kN b2 y L.1 q1 l a1) [.obj y 128 (.agg (.pair (.at au (a0,.map (some m))) (.eq z.1))),.sl z.1 23 .val (fa z.2 0 q2),.sl v 3 (.int .i64) l2]:=fun v=>by
     subst hJ
     refine JD.step [4] (by kernel_rfl) rfl ?_
     refine eV.cons rfl ?_ ?_
     ·
      refine bO rfl rfl rfl (ak rfl ng my rfl) ⟨rfl,trivial⟩ ?_
      exact aV (s255 v) [0,1,2] ⟨rfl,rfl,rfl,rfl,rfl,rfl,rfl,rfl,rfl,rfl,rfl,rfl,rfl,rfl,rfl,trivial⟩
     exact trivial
    have s254:∀(v:Value),J 5 [false,true,true,true,true,true,true,true,false,false,false,false] (eY [false,true,true,true,true,true,true,true,false,false,false,false] (lC y z.1 l v undef)++kN b2 y L.1 q1 l a1) [.obj y 128 (.agg (.pair (.at au (a0,.map (some m))) (.eq z.1))),.sl z.1 23 .val (fa z.2 0 q2),.sl v 3 (.int .i64) l2]:=fun v=>by
     subst hJ
     refine JD.step [0,8] (by kernel_rfl) rfl ?_
     refine eV.cons rfl ?_ ?_
     ·
      refine ax rfl rfl ?_
      exact aV (s255 v) [0,1,2] ⟨rfl,rfl,rfl,rfl,rfl,rfl,rfl,rfl,rfl,rfl,rfl,rfl,rfl,rfl,rfl,trivial⟩
     refine eV.cons rfl ?_ ?_
     ·
      refine bv 1 rfl ?_
      refine ek rfl rfl rfl (cp rfl rfl nh (by simpa [ge] using hk)) ⟨rfl,rfl,trivial⟩ fun v2=>?_
      exact aV (s510 v v2) [1,0,2] ⟨rfl,rfl,rfl,rfl,rfl,rfl,rfl,rfl,rfl,rfl,rfl,rfl,rfl,rfl,rfl,trivial⟩
     exact trivial
    have s63:J 6 [true,true,true,true,true,true,false,false,false,false,false,false] (eY [true,true,true,true,true,true,false,false,false,false,false,false] (lC y z.1 l undef undef)++kN b2 y L.1 q1 l a1) [.obj y 128 (.agg (.pair (.at au (a0,.map (some m))) (.eq z.1))),.sl z.1 23 .val (fa z.2 0 q2)]:=by
     subst hJ
     refine JD.step [6] (by kernel_rfl) rfl ?_
     refine eV.cons rfl ?_ ?_
     ·
      refine aF rfl rfl rfl (ao [.tmp 44] rfl rfl pq rfl cc) ⟨rfl,trivial⟩ fun v=>?_
      exact aV (s127 v) [1,2,0] ⟨rfl,rfl,rfl,rfl,rfl,rfl,rfl,rfl,rfl,rfl,rfl,rfl,rfl,rfl,trivial⟩
     exact trivial
    have s111:∀(v:Value),J 6 [true,true,true,true,false,true,true,false,false,false,false,false] (eY [true,true,true,true,false,true,true,false,false,false,false,false] (lC y z.1 l v undef)++kN b2 y L.1 q1 l a1) [.obj y 128 (.agg (.pair (.at au (a0,.map (some m))) (.eq z.1))),.sl z.1 23 .val (fa z.2 0 q2),.sl v 3 (.int .i64) l2]:=fun v=>by
     subst hJ
     refine JD.step [4,7] (by kernel_rfl) rfl ?_
     refine eV.cons rfl ?_ ?_
     ·
      refine bO rfl rfl rfl (ak rfl ng my rfl) ⟨rfl,trivial⟩ ?_
      exact aV (s127 v) [0,1,2] ⟨rfl,rfl,rfl,rfl,rfl,rfl,rfl,rfl,rfl,rfl,rfl,rfl,rfl,rfl,trivial⟩
     refine eV.cons rfl ?_ ?_
     ·
      refine bv 2 rfl ?_
      refine f4 fun hv=>?_
      refine aB rfl (bG (t:=.val) [(.tmp 45,.eq v)] [v] rfl rfl nh (.cons hv (.val hv) .nil) rfl rfl) ⟨rfl,trivial⟩ ?_
      exact aV (s239 v) [1,2,0] ⟨rfl,rfl,rfl,rfl,rfl,rfl,rfl,rfl,rfl,rfl,rfl,rfl,rfl,rfl,trivial⟩
     exact trivial
    have s126:∀(v:Value),J 6 [false,true,true,true,true,true,true,false,false,false,false,false] (eY [false,true,true,true,true,true,true,false,false,false,false,false] (lC y z.1 l v undef)++kN b2 y L.1 q1 l a1) [.obj y 128 (.agg (.pair (.at au (a0,.map (some m))) (.eq z.1))),.sl z.1 23 .val (fa z.2 0 q2),.sl v 3 (.int .i64) l2]:=fun v=>by
     subst hJ
     refine JD.step [0,7] (by kernel_rfl) rfl ?_
     refine eV.cons rfl ?_ ?_
     ·
      refine ax rfl rfl ?_
      exact aV (s127 v) [0,1,2] ⟨rfl,rfl,rfl,rfl,rfl,rfl,rfl,rfl,rfl,rfl,rfl,rfl,rfl,rfl,trivial⟩
     refine eV.cons rfl ?_ ?_
     ·
      refine bv 2 rfl ?_
      refine f4 fun hv=>?_
      refine aB rfl (bG (t:=.val) [(.tmp 45,.eq v)] [v] rfl rfl nh (.cons hv (.val hv) .nil) rfl rfl) ⟨rfl,trivial⟩ ?_
      exact aV (s254 v) [1,2,0] ⟨rfl,rfl,rfl,rfl,rfl,rfl,rfl,rfl,rfl,rfl,rfl,rfl,rfl,rfl,trivial⟩
     exact trivial
    have s231:∀(v:Value),J 6 [true,true,true,false,false,true,true,true,false,false,false,false] (eY [true,true,true,false,false,true,true,true,false,false,false,false] (lC y z.1 l v undef)++kN b2 y L.1 q1 l a1) [.obj y 128 (.agg (.pair (.at au (a0,.map (some m))) (.eq z.1))),.sl z.1 23 .val (fa z.2 0 q2),.sl v 3 (.int .i64) l2]:=fun v=>by
     subst hJ
     refine JD.step [3] (by kernel_rfl) rfl ?_
     refine eV.cons rfl ?_ ?_
     ·
      refine aB rfl (aw rfl sM) ⟨rfl,trivial⟩ ?_
      exact aV (s239 v) [0,1,2] ⟨rfl,rfl,rfl,rfl,rfl,rfl,rfl,rfl,rfl,rfl,rfl,rfl,rfl,rfl,trivial⟩
     exact trivial
    have s238:∀(v:Value),J 6 [false,true,true,true,false,true,true,true,false,false,false,false] (eY [false,true,true,true,false,true,true,true,false,false,false,false] (lC y z.1 l v undef)++kN b2 y L.1 q1 l a1) [.obj y 128 (.agg (.pair (.at au (a0,.map (some m))) (.eq z.1))),.sl z.1 23 .val (fa z.2 0 q2),.sl v 3 (.int .i64) l2]:=fun v=>by
     subst hJ
     refine JD.step [0,4] (by kernel_rfl) rfl ?_
     refine eV.cons rfl ?_ ?_
     ·
      refine ax rfl rfl ?_
      exact aV (s239 v) [0,1,2] ⟨rfl,rfl,rfl,rfl,rfl,rfl,rfl,rfl,rfl,rfl,rfl,rfl,rfl,rfl,trivial⟩
     refine eV.cons rfl ?_ ?_
     ·
      refine bO rfl rfl rfl (ak rfl ng my rfl) ⟨rfl,trivial⟩ ?_
      exact aV (s254 v) [0,1,2] ⟨rfl,rfl,rfl,rfl,rfl,rfl,rfl,rfl,rfl,rfl,rfl,rfl,rfl,rfl,trivial⟩
     exact trivial
    have s31:J 7 [true,true,true,true,true,false,false,false,false,false,false,false] (eY [true,true,true,true,true,false,false,false,false,false,false,false] (lC y z.1 l undef undef)++kN b2 y L.1 q1 l a1) [.obj y 128 (.agg (.pair (.at au (a0,.map (some m))) (.eq z.1))),.sl z.1 23 .val (fa z.2 0 q2)]:=by
     subst hJ
     refine JD.step [5] (by kernel_rfl) rfl ?_
     refine eV.cons rfl ?_ ?_
     ·
      refine ax rfl rfl ?_
      exact aV (s63) [0,1] ⟨rfl,rfl,rfl,rfl,rfl,rfl,rfl,rfl,rfl,rfl,rfl,rfl,rfl,trivial⟩
     exact trivial
    have s47:J 7 [true,true,true,true,false,true,false,false,false,false,false,false] (eY [true,true,true,true,false,true,false,false,false,false,false,false] (lC y z.1 l undef undef)++kN b2 y L.1 q1 l a1) [.obj y 128 (.agg (.pair (.at au (a0,.map (some m))) (.eq z.1))),.sl z.1 23 .val (fa z.2 0 q2)]:=by
     subst hJ
     refine JD.step [4,6] (by kernel_rfl) rfl ?_
     refine eV.cons rfl ?_ ?_
     ·
      refine bO rfl rfl rfl (ak rfl ng my rfl) ⟨rfl,trivial⟩ ?_
      exact aV (s63) [0,1] ⟨rfl,rfl,rfl,rfl,rfl,rfl,rfl,rfl,rfl,rfl,rfl,rfl,rfl,trivial⟩
     refine eV.cons rfl ?_ ?_
     ·
      refine aF rfl rfl rfl (ao [.tmp 44] rfl rfl pq rfl cc) ⟨rfl,trivial⟩ fun v=>?_
      exact aV (s111 v) [1,2,0] ⟨rfl,rfl,rfl,rfl,rfl,rfl,rfl,rfl,rfl,rfl,rfl,rfl,rfl,trivial⟩
     exact trivial
    have s62:J 7 [false,true,true,true,true,true,false,false,false,false,false,false] (eY [false,true,true,true,true,true,false,false,false,false,false,false] (lC y z.1 l undef undef)++kN b2 y L.1 q1 l a1) [.obj y 128 (.agg (.pair (.at au (a0,.map (some m))) (.eq z.1))),.sl z.1 23 .val (fa z.2 0 q2)]:=by
     subst hJ
     refine JD.step [0,6] (by kernel_rfl) rfl ?_
     refine eV.cons rfl ?_ ?_
     ·
      refine ax rfl rfl ?_
      exact aV (s63) [0,1] ⟨rfl,rfl,rfl,rfl,rfl,rfl,rfl,rfl,rfl,rfl,rfl,rfl,rfl,trivial⟩
     refine eV.cons rfl ?_ ?_
     ·
      refine aF rfl rfl rfl (ao [.tmp 44] rfl rfl pq rfl cc) ⟨rfl,trivial⟩ fun v=>?_
      exact aV (s126 v) [1,2,0] ⟨rfl,rfl,rfl,rfl,rfl,rfl,rfl,rfl,rfl,rfl,rfl,rfl,rfl,trivial⟩
     exact trivial
    have s103:∀(v:Value),J 7 [true,true,true,false,false,true,true,false,false,false,false,false] (eY [true,true,true,false,false,true,true,false,false,false,false,false] (lC y z.1 l v undef)++kN b2 y L.1 q1 l a1) [.obj y 128 (.agg (.pair (.at au (a0,.map (some m))) (.eq z.1))),.sl z.1 23 .val (fa z.2 0 q2),.sl v 3 (.int .i64) l2]:=fun v=>by
     subst hJ
     refine JD.step [3,7] (by kernel_rfl) rfl ?_
     refine eV.cons rfl ?_ ?_
     ·
      refine aB rfl (aw rfl sM) ⟨rfl,trivial⟩ ?_
      exact aV (s111 v) [0,1,2] ⟨rfl,rfl,rfl,rfl,rfl,rfl,rfl,rfl,rfl,rfl,rfl,rfl,rfl,trivial⟩
     refine eV.cons rfl ?_ ?_
     ·
      refine bv 2 rfl ?_
      refine f4 fun hv=>?_
      refine aB rfl (bG (t:=.val) [(.tmp 45,.eq v)] [v] rfl rfl nh (.cons hv (.val hv) .nil) rfl rfl) ⟨rfl,trivial⟩ ?_
      exact aV (s231 v) [1,2,0] ⟨rfl,rfl,rfl,rfl,rfl,rfl,rfl,rfl,rfl,rfl,rfl,rfl,rfl,trivial⟩
     exact trivial
    have s110:∀(v:Value),J 7 [false,true,true,true,false,true,true,false,false,false,false,false] (eY [false,true,true,true,false,true,true,false,false,false,false,false] (lC y z.1 l v undef)++kN b2 y L.1 q1 l a1) [.obj y 128 (.agg (.pair (.at au (a0,.map (some m))) (.eq z.1))),.sl z.1 23 .val (fa z.2 0 q2),.sl v 3 (.int .i64) l2]:=fun v=>by
     subst hJ
     refine JD.step [0,4,7] (by kernel_rfl) rfl ?_
     refine eV.cons rfl ?_ ?_
     ·
      refine ax rfl rfl ?_
      exact aV (s111 v) [0,1,2] ⟨rfl,rfl,rfl,rfl,rfl,rfl,rfl,rfl,rfl,rfl,rfl,rfl,rfl,trivial⟩
     refine eV.cons rfl ?_ ?_
     ·
      refine bO rfl rfl rfl (ak rfl ng my rfl) ⟨rfl,trivial⟩ ?_
      exact aV (s126 v) [0,1,2] ⟨rfl,rfl,rfl,rfl,rfl,rfl,rfl,rfl,rfl,rfl,rfl,rfl,rfl,trivial⟩
     refine eV.cons rfl ?_ ?_
     ·
      refine bv 2 rfl ?_
      refine f4 fun hv=>?_
      refine aB rfl (bG (t:=.val) [(.tmp 45,.eq v)] [v] rfl rfl nh (.cons hv (.val hv) .nil) rfl rfl) ⟨rfl,trivial⟩ ?_
      exact aV (s238 v) [1,2,0] ⟨rfl,rfl,rfl,rfl,rfl,rfl,rfl,rfl,rfl,rfl,rfl,rfl,rfl,trivial⟩
     exact trivial
    have s227:∀(v:Value),J 7 [true,true,false,false,false,true,true,true,false,false,false,false] (eY [true,true,false,false,false,true,true,true,false,false,false,false] (lC y z.1 l v undef)++kN b2 y L.1 q1 l a1) [.obj y 128 (.agg (.pair (.at au (a0,.map (some m))) (.eq z.1))),.sl z.1 23 .val (fa z.2 0 q2),.sl v 3 (.int .i64) l2]:=fun v=>by
     subst hJ
     refine JD.step [2] (by kernel_rfl) rfl ?_
     refine eV.cons rfl ?_ ?_
     ·
      refine aB rfl (aQ rfl) ⟨rfl,trivial⟩ ?_
      exact aV (s231 v) [0,1,2] ⟨rfl,rfl,rfl,rfl,rfl,rfl,rfl,rfl,rfl,rfl,rfl,rfl,rfl,trivial⟩
     exact trivial
    have s230:∀(v:Value),J 7 [false,true,true,false,false,true,true,true,false,false,false,false] (eY [false,true,true,false,false,true,true,true,false,false,false,false] (lC y z.1 l v undef)++kN b2 y L.1 q1 l a1) [.obj y 128 (.agg (.pair (.at au (a0,.map (some m))) (.eq z.1))),.sl z.1 23 .val (fa z.2 0 q2),.sl v 3 (.int .i64) l2]:=fun v=>by
     subst hJ
     refine JD.step [0,3] (by kernel_rfl) rfl ?_
     refine eV.cons rfl ?_ ?_
     ·
      refine ax rfl rfl ?_
      exact aV (s231 v) [0,1,2] ⟨rfl,rfl,rfl,rfl,rfl,rfl,rfl,rfl,rfl,rfl,rfl,rfl,rfl,trivial⟩
     refine eV.cons rfl ?_ ?_
     ·
      refine aB rfl (aw rfl sM) ⟨rfl,trivial⟩ ?_
      exact aV (s238 v) [0,1,2] ⟨rfl,rfl,rfl,rfl,rfl,rfl,rfl,rfl,rfl,rfl,rfl,rfl,rfl,trivial⟩
     exact trivial
    have s15:J 8 [true,true,true,true,false,false,false,false,false,false,false,false] (eY [true,true,true,true,false,false,false,false,false,false,false,false] (lC y z.1 l undef undef)++kN b2 y L.1 q1 l a1) [.obj y 128 (.agg (.pair (.at au (a0,.map (some m))) (.eq z.1))),.sl z.1 23 .val (fa z.2 0 q2)]:=by
     subst hJ
     refine JD.step [4,5] (by kernel_rfl) rfl ?_
     refine eV.cons rfl ?_ ?_
     ·
      refine bO rfl rfl rfl (ak rfl ng my rfl) ⟨rfl,trivial⟩ ?_
      exact aV (s31) [0,1] ⟨rfl,rfl,rfl,rfl,rfl,rfl,rfl,rfl,rfl,rfl,rfl,rfl,trivial⟩
     refine eV.cons rfl ?_ ?_
     ·
      refine ax rfl rfl ?_
      exact aV (s47) [0,1] ⟨rfl,rfl,rfl,rfl,rfl,rfl,rfl,rfl,rfl,rfl,rfl,rfl,trivial⟩
     exact trivial
    have s30:J 8 [false,true,true,true,true,false,false,false,false,false,false,false] (eY [false,true,true,true,true,false,false,false,false,false,false,false] (lC y z.1 l undef undef)++kN b2 y L.1 q1 l a1) [.obj y 128 (.agg (.pair (.at au (a0,.map (some m))) (.eq z.1))),.sl z.1 23 .val (fa z.2 0 q2)]:=by
     subst hJ
     refine JD.step [0,5] (by kernel_rfl) rfl ?_
     refine eV.cons rfl ?_ ?_
     ·
      refine ax rfl rfl ?_
      exact aV (s31) [0,1] ⟨rfl,rfl,rfl,rfl,rfl,rfl,rfl,rfl,rfl,rfl,rfl,rfl,trivial⟩
     refine eV.cons rfl ?_ ?_
     ·
      refine ax rfl rfl ?_
      exact aV (s62) [0,1] ⟨rfl,rfl,rfl,rfl,rfl,rfl,rfl,rfl,rfl,rfl,rfl,rfl,trivial⟩
     exact trivial
    have s39:J 8 [true,true,true,false,false,true,false,false,false,false,false,false] (eY [true,true,true,false,false,true,false,false,false,false,false,false] (lC y z.1 l undef undef)++kN b2 y L.1 q1 l a1) [.obj y 128 (.agg (.pair (.at au (a0,.map (some m))) (.eq z.1))),.sl z.1 23 .val (fa z.2 0 q2)]:=by
     subst hJ
     refine JD.step [3,6] (by kernel_rfl) rfl ?_
     refine eV.cons rfl ?_ ?_
     ·
      refine aB rfl (aw rfl sM) ⟨rfl,trivial⟩ ?_
      exact aV (s47) [0,1] ⟨rfl,rfl,rfl,rfl,rfl,rfl,rfl,rfl,rfl,rfl,rfl,rfl,trivial⟩
     refine eV.cons rfl ?_ ?_
     ·
      refine aF rfl rfl rfl (ao [.tmp 44] rfl rfl pq rfl cc) ⟨rfl,trivial⟩ fun v=>?_
      exact aV (s103 v) [1,2,0] ⟨rfl,rfl,rfl,rfl,rfl,rfl,rfl,rfl,rfl,rfl,rfl,rfl,trivial⟩
     exact trivial
    have s46:J 8 [false,true,true,true,false,true,false,false,false,false,false,false] (eY [false,true,true,true,false,true,false,false,false,false,false,false] (lC y z.1 l undef undef)++kN b2 y L.1 q1 l a1) [.obj y 128 (.agg (.pair (.at au (a0,.map (some m))) (.eq z.1))),.sl z.1 23 .val (fa z.2 0 q2)]:=by
     subst hJ
     refine JD.step [0,4,6] (by kernel_rfl) rfl ?_
     refine eV.cons rfl ?_ ?_
     ·
      refine ax rfl rfl ?_
      exact aV (s47) [0,1] ⟨rfl,rfl,rfl,rfl,rfl,rfl,rfl,rfl,rfl,rfl,rfl,rfl,trivial⟩
     refine eV.cons rfl ?_ ?_
     ·
      refine bO rfl rfl rfl (ak rfl ng my rfl) ⟨rfl,trivial⟩ ?_
      exact aV (s62) [0,1] ⟨rfl,rfl,rfl,rfl,rfl,rfl,rfl,rfl,rfl,rfl,rfl,rfl,trivial⟩
     refine eV.cons rfl ?_ ?_
     ·
      refine aF rfl rfl rfl (ao [.tmp 44] rfl rfl pq rfl cc) ⟨rfl,trivial⟩ fun v=>?_
      exact aV (s110 v) [1,2,0] ⟨rfl,rfl,rfl,rfl,rfl,rfl,rfl,rfl,rfl,rfl,rfl,rfl,trivial⟩
     exact trivial
    have s99:∀(v:Value),J 8 [true,true,false,false,false,true,true,false,false,false,false,false] (eY [true,true,false,false,false,true,true,false,false,false,false,false] (lC y z.1 l v undef)++kN b2 y L.1 q1 l a1) [.obj y 128 (.agg (.pair (.at au (a0,.map (some m))) (.eq z.1))),.sl z.1 23 .val (fa z.2 0 q2),.sl v 3 (.int .i64) l2]:=fun v=>by
     subst hJ
     refine JD.step [2,7] (by kernel_rfl) rfl ?_
     refine eV.cons rfl ?_ ?_
     ·
      refine aB rfl (aQ rfl) ⟨rfl,trivial⟩ ?_
      exact aV (s103 v) [0,1,2] ⟨rfl,rfl,rfl,rfl,rfl,rfl,rfl,rfl,rfl,rfl,rfl,rfl,trivial⟩
     refine eV.cons rfl ?_ ?_
     ·
      refine bv 2 rfl ?_
      refine f4 fun hv=>?_
      refine aB rfl (bG (t:=.val) [(.tmp 45,.eq v)] [v] rfl rfl nh (.cons hv (.val hv) .nil) rfl rfl) ⟨rfl,trivial⟩ ?_
      exact aV (s227 v) [1,2,0] ⟨rfl,rfl,rfl,rfl,rfl,rfl,rfl,rfl,rfl,rfl,rfl,rfl,trivial⟩
     exact trivial
    have s102:∀(v:Value),J 8 [false,true,true,false,false,true,true,false,false,false,false,false] (eY [false,true,true,false,false,true,true,false,false,false,false,false] (lC y z.1 l v undef)++kN b2 y L.1 q1 l a1) [.obj y 128 (.agg (.pair (.at au (a0,.map (some m))) (.eq z.1))),.sl z.1 23 .val (fa z.2 0 q2),.sl v 3 (.int .i64) l2]:=fun v=>by
     subst hJ
     refine JD.step [0,3,7] (by kernel_rfl) rfl ?_
     refine eV.cons rfl ?_ ?_
     ·
      refine ax rfl rfl ?_
      exact aV (s103 v) [0,1,2] ⟨rfl,rfl,rfl,rfl,rfl,rfl,rfl,rfl,rfl,rfl,rfl,rfl,trivial⟩
     refine eV.cons rfl ?_ ?_
     ·
      refine aB rfl (aw rfl sM) ⟨rfl,trivial⟩ ?_
      exact aV (s110 v) [0,1,2] ⟨rfl,rfl,rfl,rfl,rfl,rfl,rfl,rfl,rfl,rfl,rfl,rfl,trivial⟩
     refine eV.cons rfl ?_ ?_
     ·
      refine bv 2 rfl ?_
      refine f4 fun hv=>?_
      refine aB rfl (bG (t:=.val) [(.tmp 45,.eq v)] [v] rfl rfl nh (.cons hv (.val hv) .nil) rfl rfl) ⟨rfl,trivial⟩ ?_
      exact aV (s230 v) [1,2,0] ⟨rfl,rfl,rfl,rfl,rfl,rfl,rfl,rfl,rfl,rfl,rfl,rfl,trivial⟩
     exact trivial
    have s225:∀(v:Value),J 8 [true,false,false,false,false,true,true,true,false,false,false,false] (eY [true,false,false,false,false,true,true,true,false,false,false,false] (lC y z.1 l v undef)++kN b2 y L.1 q1 l a1) [.obj y 128 (.agg (.pair (.at au (a0,.map (some m))) (.eq z.1))),.sl z.1 23 .val (fa z.2 0 q2),.sl v 3 (.int .i64) l2]:=fun v=>by
     subst hJ
     refine JD.step [1] (by kernel_rfl) rfl ?_
     refine eV.cons rfl ?_ ?_
     ·
      refine ax rfl rfl ?_
      exact aV (s227 v) [0,1,2] ⟨rfl,rfl,rfl,rfl,rfl,rfl,rfl,rfl,rfl,rfl,rfl,rfl,trivial⟩
     exact trivial
    have s226:∀(v:Value),J 8 [false,true,false,false,false,true,true,true,false,false,false,false] (eY [false,true,false,false,false,true,true,true,false,false,false,false] (lC y z.1 l v undef)++kN b2 y L.1 q1 l a1) [.obj y 128 (.agg (.pair (.at au (a0,.map (some m))) (.eq z.1))),.sl z.1 23 .val (fa z.2 0 q2),.sl v 3 (.int .i64) l2]:=fun v=>by
     subst hJ
     refine JD.step [0,2] (by kernel_rfl) rfl ?_
     refine eV.cons rfl ?_ ?_
     ·
      refine ax rfl rfl ?_
      exact aV (s227 v) [0,1,2] ⟨rfl,rfl,rfl,rfl,rfl,rfl,rfl,rfl,rfl,rfl,rfl,rfl,trivial⟩
     refine eV.cons rfl ?_ ?_
     ·
      refine aB rfl (aQ rfl) ⟨rfl,trivial⟩ ?_
      exact aV (s230 v) [0,1,2] ⟨rfl,rfl,rfl,rfl,rfl,rfl,rfl,rfl,rfl,rfl,rfl,rfl,trivial⟩
     exact trivial
    have s7:J 9 [true,true,true,false,false,false,false,false,false,false,false,false] (eY [true,true,true,false,false,false,false,false,false,false,false,false] (lC y z.1 l undef undef)++kN b2 y L.1 q1 l a1) [.obj y 128 (.agg (.pair (.at au (a0,.map (some m))) (.eq z.1))),.sl z.1 23 .val (fa z.2 0 q2)]:=by
     subst hJ
     refine JD.step [3,5] (by kernel_rfl) rfl ?_
     refine eV.cons rfl ?_ ?_
     ·
      refine aB rfl (aw rfl sM) ⟨rfl,trivial⟩ ?_
      exact aV (s15) [0,1] ⟨rfl,rfl,rfl,rfl,rfl,rfl,rfl,rfl,rfl,rfl,rfl,trivial⟩
     refine eV.cons rfl ?_ ?_
     ·
      refine ax rfl rfl ?_
      exact aV (s39) [0,1] ⟨rfl,rfl,rfl,rfl,rfl,rfl,rfl,rfl,rfl,rfl,rfl,trivial⟩
     exact trivial
    have s14:J 9 [false,true,true,true,false,false,false,false,false,false,false,false] (eY [false,true,true,true,false,false,false,false,false,false,false,false] (lC y z.1 l undef undef)++kN b2 y L.1 q1 l a1) [.obj y 128 (.agg (.pair (.at au (a0,.map (some m))) (.eq z.1))),.sl z.1 23 .val (fa z.2 0 q2)]:=by
     subst hJ
     refine JD.step [0,4,5] (by kernel_rfl) rfl ?_
     refine eV.cons rfl ?_ ?_
     ·
      refine ax rfl rfl ?_
      exact aV (s15) [0,1] ⟨rfl,rfl,rfl,rfl,rfl,rfl,rfl,rfl,rfl,rfl,rfl,trivial⟩
     refine eV.cons rfl ?_ ?_
     ·
      refine bO rfl rfl rfl (ak rfl ng my rfl) ⟨rfl,trivial⟩ ?_
      exact aV (s30) [0,1] ⟨rfl,rfl,rfl,rfl,rfl,rfl,rfl,rfl,rfl,rfl,rfl,trivial⟩
     refine eV.cons rfl ?_ ?_
     ·
      refine ax rfl rfl ?_
      exact aV (s46) [0,1] ⟨rfl,rfl,rfl,rfl,rfl,rfl,rfl,rfl,rfl,rfl,rfl,trivial⟩
     exact trivial
    have s35:J 9 [true,true,false,false,false,true,false,false,false,false,false,false] (eY [true,true,false,false,false,true,false,false,false,false,false,false] (lC y z.1 l undef undef)++kN b2 y L.1 q1 l a1) [.obj y 128 (.agg (.pair (.at au (a0,.map (some m))) (.eq z.1))),.sl z.1 23 .val (fa z.2 0 q2)]:=by
     subst hJ
     refine JD.step [2,6] (by kernel_rfl) rfl ?_
     refine eV.cons rfl ?_ ?_
     ·
      refine aB rfl (aQ rfl) ⟨rfl,trivial⟩ ?_
      exact aV (s39) [0,1] ⟨rfl,rfl,rfl,rfl,rfl,rfl,rfl,rfl,rfl,rfl,rfl,trivial⟩
     refine eV.cons rfl ?_ ?_
     ·
      refine aF rfl rfl rfl (ao [.tmp 44] rfl rfl pq rfl cc) ⟨rfl,trivial⟩ fun v=>?_
      exact aV (s99 v) [1,2,0] ⟨rfl,rfl,rfl,rfl,rfl,rfl,rfl,rfl,rfl,rfl,rfl,trivial⟩
     exact trivial
    have s38:J 9 [false,true,true,false,false,true,false,false,false,false,false,false] (eY [false,true,true,false,false,true,false,false,false,false,false,false] (lC y z.1 l undef undef)++kN b2 y L.1 q1 l a1) [.obj y 128 (.agg (.pair (.at au (a0,.map (some m))) (.eq z.1))),.sl z.1 23 .val (fa z.2 0 q2)]:=by
     subst hJ
     refine JD.step [0,3,6] (by kernel_rfl) rfl ?_
     refine eV.cons rfl ?_ ?_
     ·
      refine ax rfl rfl ?_
      exact aV (s39) [0,1] ⟨rfl,rfl,rfl,rfl,rfl,rfl,rfl,rfl,rfl,rfl,rfl,trivial⟩
     refine eV.cons rfl ?_ ?_
     ·
      refine aB rfl (aw rfl sM) ⟨rfl,trivial⟩ ?_
      exact aV (s46) [0,1] ⟨rfl,rfl,rfl,rfl,rfl,rfl,rfl,rfl,rfl,rfl,rfl,trivial⟩
     refine eV.cons rfl ?_ ?_
     ·
      refine aF rfl rfl rfl (ao [.tmp 44] rfl rfl pq rfl cc) ⟨rfl,trivial⟩ fun v=>?_
      exact aV (s102 v) [1,2,0] ⟨rfl,rfl,rfl,rfl,rfl,rfl,rfl,rfl,rfl,rfl,rfl,trivial⟩
     exact trivial
    have s97:∀(v:Value),J 9 [true,false,false,false,false,true,true,false,false,false,false,false] (eY [true,false,false,false,false,true,true,false,false,false,false,false] (lC y z.1 l v undef)++kN b2 y L.1 q1 l a1) [.obj y 128 (.agg (.pair (.at au (a0,.map (some m))) (.eq z.1))),.sl z.1 23 .val (fa z.2 0 q2),.sl v 3 (.int .i64) l2]:=fun v=>by
     subst hJ
     refine JD.step [1,7] (by kernel_rfl) rfl ?_
     refine eV.cons rfl ?_ ?_
     ·
      refine ax rfl rfl ?_
      exact aV (s99 v) [0,1,2] ⟨rfl,rfl,rfl,rfl,rfl,rfl,rfl,rfl,rfl,rfl,rfl,trivial⟩
     refine eV.cons rfl ?_ ?_
     ·
      refine bv 2 rfl ?_
      refine f4 fun hv=>?_
      refine aB rfl (bG (t:=.val) [(.tmp 45,.eq v)] [v] rfl rfl nh (.cons hv (.val hv) .nil) rfl rfl) ⟨rfl,trivial⟩ ?_
      exact aV (s225 v) [1,2,0] ⟨rfl,rfl,rfl,rfl,rfl,rfl,rfl,rfl,rfl,rfl,rfl,trivial⟩
     exact trivial
    have s98:∀(v:Value),J 9 [false,true,false,false,false,true,true,false,false,false,false,false] (eY [false,true,false,false,false,true,true,false,false,false,false,false] (lC y z.1 l v undef)++kN b2 y L.1 q1 l a1) [.obj y 128 (.agg (.pair (.at au (a0,.map (some m))) (.eq z.1))),.sl z.1 23 .val (fa z.2 0 q2),.sl v 3 (.int .i64) l2]:=fun v=>by
     subst hJ
     refine JD.step [0,2,7] (by kernel_rfl) rfl ?_
     refine eV.cons rfl ?_ ?_
     ·
      refine ax rfl rfl ?_
      exact aV (s99 v) [0,1,2] ⟨rfl,rfl,rfl,rfl,rfl,rfl,rfl,rfl,rfl,rfl,rfl,trivial⟩
     refine eV.cons rfl ?_ ?_
     ·
      refine aB rfl (aQ rfl) ⟨rfl,trivial⟩ ?_
      exact aV (s102 v) [0,1,2] ⟨rfl,rfl,rfl,rfl,rfl,rfl,rfl,rfl,rfl,rfl,rfl,trivial⟩
     refine eV.cons rfl ?_ ?_
     ·
      refine bv 2 rfl ?_
      refine f4 fun hv=>?_
      refine aB rfl (bG (t:=.val) [(.tmp 45,.eq v)] [v] rfl rfl nh (.cons hv (.val hv) .nil) rfl rfl) ⟨rfl,trivial⟩ ?_
      exact aV (s226 v) [1,2,0] ⟨rfl,rfl,rfl,rfl,rfl,rfl,rfl,rfl,rfl,rfl,rfl,trivial⟩
     exact trivial
    have s224:∀(v:Value),J 9 [false,false,false,false,false,true,true,true,false,false,false,false] (eY [false,false,false,false,false,true,true,true,false,false,false,false] (lC y z.1 l v undef)++kN b2 y L.1 q1 l a1) [.obj y 128 (.agg (.pair (.at au (a0,.map (some m))) (.eq z.1))),.sl z.1 23 .val (fa z.2 0 q2),.sl v 3 (.int .i64) l2]:=fun v=>by
     subst hJ
     refine JD.step [0,1] (by kernel_rfl) rfl ?_
     refine eV.cons rfl ?_ ?_
     ·
      refine ax rfl rfl ?_
      exact aV (s225 v) [0,1,2] ⟨rfl,rfl,rfl,rfl,rfl,rfl,rfl,rfl,rfl,rfl,rfl,trivial⟩
     refine eV.cons rfl ?_ ?_
     ·
      refine ax rfl rfl ?_
      exact aV (s226 v) [0,1,2] ⟨rfl,rfl,rfl,rfl,rfl,rfl,rfl,rfl,rfl,rfl,rfl,trivial⟩
     exact trivial
    have s3:J 10 [true,true,false,false,false,false,false,false,false,false,false,false] (eY [true,true,false,false,false,false,false,false,false,false,false,false] (lC y z.1 l undef undef)++kN b2 y L.1 q1 l a1) [.obj y 128 (.agg (.pair (.at au (a0,.map (some m))) (.eq z.1))),.sl z.1 23 .val (fa z.2 0 q2)]:=by
     subst hJ
     refine JD.step [2,5] (by kernel_rfl) rfl ?_
     refine eV.cons rfl ?_ ?_
     ·
      refine aB rfl (aQ rfl) ⟨rfl,trivial⟩ ?_
      exact aV (s7) [0,1] ⟨rfl,rfl,rfl,rfl,rfl,rfl,rfl,rfl,rfl,rfl,trivial⟩
     refine eV.cons rfl ?_ ?_
     ·
      refine ax rfl rfl ?_
      exact aV (s35) [0,1] ⟨rfl,rfl,rfl,rfl,rfl,rfl,rfl,rfl,rfl,rfl,trivial⟩
     exact trivial
    have s6:J 10 [false,true,true,false,false,false,false,false,false,false,false,false] (eY [false,true,true,false,false,false,false,false,false,false,false,false] (lC y z.1 l undef undef)++kN b2 y L.1 q1 l a1) [.obj y 128 (.agg (.pair (.at au (a0,.map (some m))) (.eq z.1))),.sl z.1 23 .val (fa z.2 0 q2)]:=by
     subst hJ
     refine JD.step [0,3,5] (by kernel_rfl) rfl ?_
     refine eV.cons rfl ?_ ?_
     ·
      refine ax rfl rfl ?_
      exact aV (s7) [0,1] ⟨rfl,rfl,rfl,rfl,rfl,rfl,rfl,rfl,rfl,rfl,trivial⟩
     refine eV.cons rfl ?_ ?_
     ·
      refine aB rfl (aw rfl sM) ⟨rfl,trivial⟩ ?_
      exact aV (s14) [0,1] ⟨rfl,rfl,rfl,rfl,rfl,rfl,rfl,rfl,rfl,rfl,trivial⟩
     refine eV.cons rfl ?_ ?_
     ·
      refine ax rfl rfl ?_
      exact aV (s38) [0,1] ⟨rfl,rfl,rfl,rfl,rfl,rfl,rfl,rfl,rfl,rfl,trivial⟩
     exact trivial
    have s33:J 10 [true,false,false,false,false,true,false,false,false,false,false,false] (eY [true,false,false,false,false,true,false,false,false,false,false,false] (lC y z.1 l undef undef)++kN b2 y L.1 q1 l a1) [.obj y 128 (.agg (.pair (.at au (a0,.map (some m))) (.eq z.1))),.sl z.1 23 .val (fa z.2 0 q2)]:=by
     subst hJ
     refine JD.step [1,6] (by kernel_rfl) rfl ?_
     refine eV.cons rfl ?_ ?_
     ·
      refine ax rfl rfl ?_
      exact aV (s35) [0,1] ⟨rfl,rfl,rfl,rfl,rfl,rfl,rfl,rfl,rfl,rfl,trivial⟩
     refine eV.cons rfl ?_ ?_
     ·
      refine aF rfl rfl rfl (ao [.tmp 44] rfl rfl pq rfl cc) ⟨rfl,trivial⟩ fun v=>?_
      exact aV (s97 v) [1,2,0] ⟨rfl,rfl,rfl,rfl,rfl,rfl,rfl,rfl,rfl,rfl,trivial⟩
     exact trivial
    have s34:J 10 [false,true,false,false,false,true,false,false,false,false,false,false] (eY [false,true,false,false,false,true,false,false,false,false,false,false] (lC y z.1 l undef undef)++kN b2 y L.1 q1 l a1) [.obj y 128 (.agg (.pair (.at au (a0,.map (some m))) (.eq z.1))),.sl z.1 23 .val (fa z.2 0 q2)]:=by
     subst hJ
     refine JD.step [0,2,6] (by kernel_rfl) rfl ?_
     refine eV.cons rfl ?_ ?_
     ·
      refine ax rfl rfl ?_
      exact aV (s35) [0,1] ⟨rfl,rfl,rfl,rfl,rfl,rfl,rfl,rfl,rfl,rfl,trivial⟩
     refine eV.cons rfl ?_ ?_
     ·
      refine aB rfl (aQ rfl) ⟨rfl,trivial⟩ ?_
      exact aV (s38) [0,1] ⟨rfl,rfl,rfl,rfl,rfl,rfl,rfl,rfl,rfl,rfl,trivial⟩
     refine eV.cons rfl ?_ ?_
     ·
      refine aF rfl rfl rfl (ao [.tmp 44] rfl rfl pq rfl cc) ⟨rfl,trivial⟩ fun v=>?_
      exact aV (s98 v) [1,2,0] ⟨rfl,rfl,rfl,rfl,rfl,rfl,rfl,rfl,rfl,rfl,trivial⟩
     exact trivial
    have s96:∀(v:Value),J 10 [false,false,false,false,false,true,true,false,false,false,false,false] (eY [false,false,false,false,false,true,true,false,false,false,false,false] (lC y z.1 l v undef)++kN b2 y L.1 q1 l a1) [.obj y 128 (.agg (.pair (.at au (a0,.map (some m))) (.eq z.1))),.sl z.1 23 .val (fa z.2 0 q2),.sl v 3 (.int .i64) l2]:=fun v=>by
     subst hJ
     refine JD.step [0,1,7] (by kernel_rfl) rfl ?_
     refine eV.cons rfl ?_ ?_
     ·
      refine ax rfl rfl ?_
      exact aV (s97 v) [0,1,2] ⟨rfl,rfl,rfl,rfl,rfl,rfl,rfl,rfl,rfl,rfl,trivial⟩
     refine eV.cons rfl ?_ ?_
     ·
      refine ax rfl rfl ?_
      exact aV (s98 v) [0,1,2] ⟨rfl,rfl,rfl,rfl,rfl,rfl,rfl,rfl,rfl,rfl,trivial⟩
     refine eV.cons rfl ?_ ?_
     ·
      refine bv 2 rfl ?_
      refine f4 fun hv=>?_
      refine aB rfl (bG (t:=.val) [(.tmp 45,.eq v)] [v] rfl rfl nh (.cons hv (.val hv) .nil) rfl rfl) ⟨rfl,trivial⟩ ?_
      exact aV (s224 v) [1,2,0] ⟨rfl,rfl,rfl,rfl,rfl,rfl,rfl,rfl,rfl,rfl,trivial⟩
     exact trivial
    have s1:J 11 [true,false,false,false,false,false,false,false,false,false,false,false] (eY [true,false,false,false,false,false,false,false,false,false,false,false] (lC y z.1 l undef undef)++kN b2 y L.1 q1 l a1) [.obj y 128 (.agg (.pair (.at au (a0,.map (some m))) (.eq z.1))),.sl z.1 23 .val (fa z.2 0 q2)]:=by
     subst hJ
     refine JD.step [1,5] (by kernel_rfl) rfl ?_
     refine eV.cons rfl ?_ ?_
     ·
      refine ax rfl rfl ?_
      exact aV (s3) [0,1] ⟨rfl,rfl,rfl,rfl,rfl,rfl,rfl,rfl,rfl,trivial⟩
     refine eV.cons rfl ?_ ?_
     ·
      refine ax rfl rfl ?_
      exact aV (s33) [0,1] ⟨rfl,rfl,rfl,rfl,rfl,rfl,rfl,rfl,rfl,trivial⟩
     exact trivial
    have s2:J 11 [false,true,false,false,false,false,false,false,false,false,false,false] (eY [false,true,false,false,false,false,false,false,false,false,false,false] (lC y z.1 l undef undef)++kN b2 y L.1 q1 l a1) [.obj y 128 (.agg (.pair (.at au (a0,.map (some m))) (.eq z.1))),.sl z.1 23 .val (fa z.2 0 q2)]:=by
     subst hJ
     refine JD.step [0,2,5] (by kernel_rfl) rfl ?_
     refine eV.cons rfl ?_ ?_
     ·
      refine ax rfl rfl ?_
      exact aV (s3) [0,1] ⟨rfl,rfl,rfl,rfl,rfl,rfl,rfl,rfl,rfl,trivial⟩
     refine eV.cons rfl ?_ ?_
     ·
      refine aB rfl (aQ rfl) ⟨rfl,trivial⟩ ?_
      exact aV (s6) [0,1] ⟨rfl,rfl,rfl,rfl,rfl,rfl,rfl,rfl,rfl,trivial⟩
     refine eV.cons rfl ?_ ?_
     ·
      refine ax rfl rfl ?_
      exact aV (s34) [0,1] ⟨rfl,rfl,rfl,rfl,rfl,rfl,rfl,rfl,rfl,trivial⟩
     exact trivial
    have s32:J 11 [false,false,false,false,false,true,false,false,false,false,false,false] (eY [false,false,false,false,false,true,false,false,false,false,false,false] (lC y z.1 l undef undef)++kN b2 y L.1 q1 l a1) [.obj y 128 (.agg (.pair (.at au (a0,.map (some m))) (.eq z.1))),.sl z.1 23 .val (fa z.2 0 q2)]:=by
     subst hJ
     refine JD.step [0,1,6] (by kernel_rfl) rfl ?_
     refine eV.cons rfl ?_ ?_
     ·
      refine ax rfl rfl ?_
      exact aV (s33) [0,1] ⟨rfl,rfl,rfl,rfl,rfl,rfl,rfl,rfl,rfl,trivial⟩
     refine eV.cons rfl ?_ ?_
     ·
      refine ax rfl rfl ?_
      exact aV (s34) [0,1] ⟨rfl,rfl,rfl,rfl,rfl,rfl,rfl,rfl,rfl,trivial⟩
     refine eV.cons rfl ?_ ?_
     ·
      refine aF rfl rfl rfl (ao [.tmp 44] rfl rfl pq rfl cc) ⟨rfl,trivial⟩ fun v=>?_
      exact aV (s96 v) [1,2,0] ⟨rfl,rfl,rfl,rfl,rfl,rfl,rfl,rfl,rfl,trivial⟩
     exact trivial
    have s0:J 12 [false,false,false,false,false,false,false,false,false,false,false,false] (eY [false,false,false,false,false,false,false,false,false,false,false,false] (lC y z.1 l undef undef)++kN b2 y L.1 q1 l a1) [.obj y 128 (.agg (.pair (.at au (a0,.map (some m))) (.eq z.1))),.sl z.1 23 .val (fa z.2 0 q2)]:=by
     subst hJ
     refine JD.step [0,1,5] (by kernel_rfl) rfl ?_
     refine eV.cons rfl ?_ ?_
     ·
      refine ax rfl rfl ?_
      exact aV (s1) [0,1] ⟨rfl,rfl,rfl,rfl,rfl,rfl,rfl,rfl,trivial⟩
     refine eV.cons rfl ?_ ?_
     ·
      refine ax rfl rfl ?_
      exact aV (s2) [0,1] ⟨rfl,rfl,rfl,rfl,rfl,rfl,rfl,rfl,trivial⟩
     refine eV.cons rfl ?_ ?_
     ·
      refine ax rfl rfl ?_
      exact aV (s32) [0,1] ⟨rfl,rfl,rfl,rfl,rfl,rfl,rfl,rfl,trivial⟩
     exact trivial
    exact s0
   ·
    exact fun a w st=>⟨rfl,p,st⟩
  ·
   subst hB
   refine aI ?_
   refine ae ?_
   refine bI (gy (Δ':=.sl p.1 3 (.int .i64) l2:: .sl p.2 23 .val (fa z.2 0 q2++[p.1])::([.obj y 128 (.agg (.pair (.at au (a0,.map (some m))) (.eq p.2))),.inv m (bB k a0),.obj b2 25 (.rep bb a0),.inv 0 ir]++kB z.2 0 q2)) ?_) ?_
   ·
    exact List.Perm.trans (List.Perm.swap _ _ _) (List.Perm.trans (List.Perm.cons _ (List.Perm.swap _ _ _)) (List.Perm.swap _ _ _))
   refine bI (Dm (pre:=[.obj y 128 (.agg (.pair (.at au (a0,.map (some m))) (.eq p.2))),.inv m (bB k a0),.obj b2 25 (.rep bb a0),.inv 0 ir])) ?_
   show JC _ _ _ _ _
   refine ab ?_
   obtain⟨w3,ew,h⟩:=aa h
   refine aB rfl (bj rfl ew) ⟨rfl,rfl,trivial⟩ ?_
   refine ax rfl rfl ?_
   refine ap ?_
   refine ae ?_
   exact iz ((p.2,np z.2 q2.length p.1),(w3,q2++[l2])) h (aZ [.obj y 128 (.agg (.pair (.at au (a0,.map (some m))) (.eq p.2))),.inv m (bB k a0),.obj b2 25 (.rep bb a0),.inv 0 ir] (f5 23 (p.2,np z.2 q2.length p.1) (q2++[l2])) [0,1,2,3] ⟨rfl,rfl,rfl,rfl,rfl,rfl,trivial⟩ rfl)
 replace h:=bQ (m4 hb) h
 refine dF ?_
 refine aM ?_
 refine aM ?_
 refine bR ?_
 refine ae ?_
 show JC _ _ _ _ _
 replace h:((iQ k a0 k (0,[],q.2)).bind fun p=>(kK k a0 p.1 p.2).bind fun b=>if(!b.2.2.1 || decide (L.1≤b.2.1))=true then some (0,0,0,11) else some (b.1.1,b.1.2,b.2.1,0)).bind some=some r:=h
 rw [Option.bind_assoc] at h
 generalize q.2=ls at h⊢
 refine ah ?_
 refine ab ?_
 refine dA rfl ?_
 refine cS (SE.nil 131 eN) ?_
 refine ap ?_
 refine ae ?_
 show JC _ _ _ _ _
 refine gd (aZ (Γ':=[(2,.eq (bP b2)),(8,.eq (.int .i64 L.1)),(10,.eq (bP y)),(13,.eq (.slice none 0 0))]) (pre':=[.inv m (bB k a0),.obj b2 25 (.rep bb a0),.inv 0 ir,.sl (.slice none 0 0) 131 eN [],.obj y 128 (.agg (.pair (.at au (a0,.map (some m))) (.eq z.1)))]) [.sl (.slice none 0 0) 131 eN [],.obj y 128 (.agg (.pair (.at au (a0,.map (some m))) (.eq z.1))),.inv m (bB k a0),.obj b2 25 (.rep bb a0),.inv 0 ir] (f5 23 z ls) [2,3,4,0,1] ⟨rfl,rfl,rfl,rfl,trivial⟩ rfl) ?_
 refine ah ?_
 refine ah ?_
 refine ab ?_
 refine aB rfl (aw rfl Jy) ⟨rfl,trivial⟩ ?_
 refine bv 1 rfl ?_
 refine bO rfl rfl rfl (ak rfl Ji my rfl) ⟨rfl,trivial⟩ ?_
 refine aB rfl (mm rfl rfl sb) ⟨rfl,trivial⟩ ?_
 refine eG rfl ?_
 refine ap ?_
 refine ae ?_
 show JC _ _ _ _ _
 refine aj ?_
 refine aJ (Z:=Value) (α:=Int×List (Int×Int)×List (List Int)) (fun c q=>[(2,.eq (bP b2)),(8,.eq (.int .i64 L.1)),(10,.eq (bP y)),(13,.eq c),(53,.eq (.int .i64 (a0.2.1.length:Int))),(54,.eq (.int .i64 q.1))]) (fun c q=>[.obj b2 25 (.rep bb a0),.inv m (bB k a0),.inv 0 ir,.sl c 131 eN q.2.1,.obj y 128 (.agg (.pair (.at au (a0,.map (some m))) (.eq z.1)))]++f5 23 z q.2.2) (iQ k a0) k (.slice none 0 0) (0,[],ls) (fun _=>rfl) h (aZ [.obj b2 25 (.rep bb a0),.inv m (bB k a0),.inv 0 ir,.sl (.slice none 0 0) 131 eN [],.obj y 128 (.agg (.pair (.at au (a0,.map (some m))) (.eq z.1)))] (f5 23 z ls) [0,1,2,3,4] ⟨rfl,rfl,rfl,rfl,rfl,rfl,trivial⟩ rfl) (fun n c q h=>?_)
 obtain⟨q1,qp,ql⟩:=q
 unfold iQ at h
 refine ah ?_
 refine ab ?_
 refine aB rfl (bH rfl) ⟨rfl,rfl,trivial⟩ ?_
 refine ap ?_
 refine ae ?_
 show JC _ _ _ _ _
 refine ah ?_
 refine bD rfl (fun hb=>?_) (fun hb=>?_)
 ·
  replace h:=cM (nq hb) h
  obtain⟨w,ew,h⟩:=aa h
  rw [Option.bind_assoc] at h
  refine aU ?_
  refine ae ?_
  show JC _ _ _ _ _
  refine ah ?_
  refine aj ?_
  refine ah ?_
  refine ab ?_
  refine ax rfl rfl ?_
  refine dc rfl rfl ?_
  refine ap ?_
  refine ae ?_
  show JC _ _ _ _ _
  refine ah ?_
  refine ab ?_
  refine ax rfl rfl ?_
  refine aB rfl (bj rfl ew) ⟨rfl,rfl,trivial⟩ ?_
  refine dc rfl rfl ?_
  refine ap ?_
  refine ae ?_
  show JC _ _ _ _ _
  refine aj ?_
  refine aJ (Z:=Value) (α:=Int×List (Int×Int)×List (List Int)) (fun c q=>[(2,.eq (bP b2)),(8,.eq (.int .i64 L.1)),(10,.eq (bP y)),(13,.eq c),(14,.eq (.int .i64 q1)),(15,.eq (.int .i64 q.1)),(53,.eq (.int .i64 (a0.2.1.length:Int))),(54,.eq (.int .i64 q1))]) (fun c q=>[.obj b2 25 (.rep bb a0),.inv m (bB k a0),.inv 0 ir,.sl c 131 eN q.2.1,.obj y 128 (.agg (.pair (.at au (a0,.map (some m))) (.eq z.1)))]++f5 23 z q.2.2) (jI k a0 q1) k c (w,qp,ql) (fun _=>rfl) h (aZ [.obj b2 25 (.rep bb a0),.inv m (bB k a0),.inv 0 ir,.sl c 131 eN qp,.obj y 128 (.agg (.pair (.at au (a0,.map (some m))) (.eq z.1)))] (f5 23 z ql) [0,1,2,3,4] ⟨rfl,rfl,rfl,rfl,rfl,rfl,rfl,rfl,trivial⟩ rfl) (fun n3 c q h=>?_)
  obtain⟨j,rp,rl⟩:=q
  unfold jI at h
  refine ah ?_
  refine ah ?_
  refine ab ?_
  refine ax rfl rfl ?_
  refine aB rfl (aw rfl Jy) ⟨rfl,trivial⟩ ?_
  refine bO rfl rfl rfl (ak rfl Ji my rfl) ⟨rfl,trivial⟩ ?_
  refine aB rfl (mm rfl rfl sb) ⟨rfl,trivial⟩ ?_
  refine aB rfl (bH rfl) ⟨rfl,rfl,trivial⟩ ?_
  refine ap ?_
  refine ae ?_
  show JC _ _ _ _ _
  refine bD rfl (fun hb=>?_) (fun hb=>?_)
  ·
   replace h:=cM (nq hb) h
   obtain⟨r1,Q,h⟩:=aa h
   have cv:=rj k a0 (q1,j) rl r1 y m z Q
   refine aU ?_
   refine ae ?_
   show JC _ _ _ _ _
   refine ah ?_
   refine aj ?_
   refine ah ?_
   refine ab ?_
   refine ax rfl rfl ?_
   refine ax rfl rfl ?_
   refine aB rfl (dt [(0,.tmp 66,_),(1,.tmp 67,_)] rfl J9 q9 IR (i7 ⟨rfl,rfl,trivial⟩) rfl) ⟨rfl,rfl,trivial⟩ ?_
   refine aF rfl rfl rfl (bL rfl q9 uk) trivial fun e=>?_
   refine bg rfl rfl (ba rfl gg trivial rfl rfl) ⟨rfl,rfl,trivial⟩ ?_
   refine cS (qX (a':=.rep eN (q1,j)) OO) ?_
   refine ap ?_
   refine ae ?_
   show JC _ _ _ _ _
   refine ah ?_
   refine ab ?_
   refine ax rfl rfl ?_
   refine bO rfl rfl rfl (ak rfl gg (xl) rfl) ⟨rfl,trivial⟩ ?_
   refine cS (gy (Δ':=([.obj y 128 (.agg (.pair (.at au (a0,.map (some m))) (.eq z.1)))]++f5 23 z rl)++[.obj e 131 (.rep eN (q1,j)),.obj b2 25 (.rep bb a0),.inv m (bB k a0),.inv 0 ir,.sl c 131 eN rp]) (List.perm_append_comm (l₁:=([.obj e 131 (.rep eN (q1,j)),.obj b2 25 (.rep bb a0),.inv m (bB k a0),.inv 0 ir,.sl c 131 eN rp]:List D)))) ?_
   refine bC (Δ:=_++_) (F:=[_,_,_,_,_]) (fun _ _ _=>av rfl _) rfl rfl (ao [.tmp 69,.tmp 70] rfl rfl NR rfl cv) ⟨rfl,rfl,trivial⟩ fun _=>?_
   refine cS (gy (Δ':=[.obj e 131 (.rep eN (q1,j)),.obj b2 25 (.rep bb a0),.inv m (bB k a0),.inv 0 ir,.sl c 131 eN rp]++([.obj y 128 (.agg (.pair (.at au (a0,.map (some m))) (.eq z.1)))]++f5 23 z r1.2)) List.perm_append_comm) ?_
   refine ap ?_
   refine ae ?_
   show JC _ _ _ _ _
   refine bD rfl (fun hb=>?_) (fun hb=>?_)
   ·
    replace h:=cM (DC hb) h
    have hk:bV (rp.length+1):=by
     apply Classical.byContradiction
     intro hn
     rw [if_neg hn] at h
     cases h
    replace h:=cM hk h
    refine ab ?_
    refine ax rfl rfl ?_
    refine bO rfl rfl rfl (ak rfl gg (xl) rfl) ⟨rfl,trivial⟩ ?_
    refine aB rfl (bG (t:=eN) [(.tmp 73,_)] [(q1,j)] rfl rfl Ec (.cons rfl .rep .nil) rfl rfl) ⟨rfl,trivial⟩ ?_
    refine bv 4 rfl ?_
    refine ek rfl rfl rfl (cp rfl rfl Ec (by simpa using hk)) ⟨rfl,rfl,trivial⟩ fun v'=>?_
    refine dc rfl rfl ?_
    refine ap ?_
    refine aI ?_
    refine ae ?_
    show JC _ _ _ _ _
    refine ab ?_
    refine ax rfl rfl ?_
    obtain⟨w2,ew2,h⟩:=aa h
    refine aB rfl (bj rfl ew2) ⟨rfl,rfl,trivial⟩ ?_
    refine dc rfl rfl ?_
    refine ap ?_
    refine ae ?_
    exact iz (v',(w2,rp++[(q1,j)],r1.2)) h (aZ [.sl v' 131 eN (rp++[(q1,j)]),.obj e 131 (.rep eN (q1,j)),.obj b2 25 (.rep bb a0),.inv m (bB k a0),.inv 0 ir,.obj y 128 (.agg (.pair (.at au (a0,.map (some m))) (.eq z.1)))] (f5 23 z r1.2) [2,3,4,0,5] ⟨rfl,rfl,rfl,rfl,rfl,rfl,rfl,rfl,trivial⟩ rfl)
   ·
    replace h:=bQ (DD hb) h
    refine aU ?_
    refine aI ?_
    refine ae ?_
    show JC _ _ _ _ _
    refine ab ?_
    refine ax rfl rfl ?_
    obtain⟨w2,ew2,h⟩:=aa h
    refine aB rfl (bj rfl ew2) ⟨rfl,rfl,trivial⟩ ?_
    refine dc rfl rfl ?_
    refine ap ?_
    refine ae ?_
    exact iz (c,(w2,rp,r1.2)) h (aZ [.obj e 131 (.rep eN (q1,j)),.obj b2 25 (.rep bb a0),.inv m (bB k a0),.inv 0 ir,.sl c 131 eN rp,.obj y 128 (.agg (.pair (.at au (a0,.map (some m))) (.eq z.1)))] (f5 23 z r1.2) [1,2,3,4,5] ⟨rfl,rfl,rfl,rfl,rfl,rfl,rfl,rfl,trivial⟩ rfl)
  replace h:=bQ (m4 hb) h
  refine dF ?_
  refine aM ?_
  refine aM ?_
  refine bR ?_
  refine aI ?_
  refine ae ?_
  show JC _ _ _ _ _
  replace h:(iQ k a0 n (w,rp,rl)).bind _=some r:=h
  refine ab ?_
  refine aB rfl (bj rfl ew) ⟨rfl,rfl,trivial⟩ ?_
  refine ax rfl rfl ?_
  refine ap ?_
  refine ae ?_
  exact iz (c,(w,rp,rl)) h (aZ [.obj b2 25 (.rep bb a0),.inv m (bB k a0),.inv 0 ir,.sl c 131 eN rp,.obj y 128 (.agg (.pair (.at au (a0,.map (some m))) (.eq z.1)))] (f5 23 z rl) [0,1,2,3,4] ⟨rfl,rfl,rfl,rfl,rfl,rfl,trivial⟩ rfl)
 replace h:=bQ (m4 hb) h
 refine dF ?_
 refine aM ?_
 refine aM ?_
 refine bR ?_
 refine ae ?_
 show JC _ _ _ _ _
 replace h:((kK k a0 qp ql).bind fun b=>if(!b.2.2.1 || decide (L.1≤b.2.1))=true then some (0,0,0,11) else some (b.1.1,b.1.2,b.2.1,0)).bind some=some r:=h
 obtain⟨b,eb,h⟩:=aa h
 have cx:=uC k a0 qp ql b y m z eb
 refine ah ?_
 refine ab ?_
 refine ax rfl rfl ?_
 refine aB rfl (rH [.tmp 78] [] [bP y] [] rfl rfl rfl) ⟨rfl,trivial⟩ ?_
 refine bv 3 rfl ?_
 refine cS (gI [13] ⟨rfl,trivial⟩) ?_
 refine ax rfl rfl ?_
 refine cS (aZ (Γ':=[(8,.eq (.int .i64 L.1)),(79,.eq (.func (.func 100) #[bP y] #[])),(80,Rs eN qp)]) (pre':=[.inv 0 ir,.obj b2 25 (.rep bb a0),.inv m (bB k a0),.obj y 128 (.agg (.pair (.at au (a0,.map (some m))) (.eq z.1)))]) [.obj b2 25 (.rep bb a0),.inv m (bB k a0),.inv 0 ir,.obj y 128 (.agg (.pair (.at au (a0,.map (some m))) (.eq z.1)))] (f5 23 z ql) [2,0,1,3] ⟨rfl,rfl,rfl,trivial⟩ rfl) ?_
 refine cS (gy (Δ':=([.inv m (bB k a0),.obj y 128 (.agg (.pair (.at au (a0,.map (some m))) (.eq z.1)))]++f5 23 z ql)++[.inv 0 ir,.obj b2 25 (.rep bb a0)]) (List.perm_append_comm (l₁:=([.inv 0 ir,.obj b2 25 (.rep bb a0)]:List D)))) ?_
 refine bC (Δ:=_++_) (F:=[_,_]) (fun _ _ _=>av rfl _) rfl rfl (fL [.tmp 79,.tmp 80] rfl rfl NQ rfl cx) ⟨rfl,rfl,trivial⟩ fun _=>?_
 refine cS (gy (Δ':=[.inv 0 ir,.obj b2 25 (.rep bb a0)]++([.inv m (bB k a0),.obj y 128 (.agg (.pair (.at au (a0,.map (some m))) (.eq z.1)))]++f5 23 z b.2.2.2)) List.perm_append_comm) ?_
 refine ax rfl rfl ?_
 refine aB rfl (gC rfl rfl) ⟨rfl,trivial⟩ ?_
 refine aB rfl (gC rfl rfl) ⟨rfl,trivial⟩ ?_
 refine aB rfl (gC rfl rfl) ⟨rfl,trivial⟩ ?_
 refine aF rfl rfl rfl (bL rfl q9 uk) trivial fun s=>?_
 refine bg rfl rfl (ba rfl gg rfl rfl rfl) ⟨rfl,rfl,trivial⟩ ?_
 refine dc rfl rfl ?_
 refine dc rfl rfl ?_
 refine ap ?_
 refine ae ?_
 show JC _ _ _ _ _
 obtain⟨bx,bn,bo,bl⟩:=b
 cases bo with
 |false=>
  replace h:some (0,0,0,11)=some r:=by simpa using h
  obtain rfl:=Option.some.inj h
  refine ah ?_
  refine ah ?_
  refine ab ?_
  refine ax rfl rfl ?_
  refine aB rfl (eR rfl) ⟨rfl,trivial⟩ ?_
  refine ax rfl rfl ?_
  refine xd rfl rfl rfl rfl rfl rfl rfl ?_
  refine xd rfl rfl rfl rfl rfl rfl rfl ?_
  refine xd rfl rfl rfl rfl rfl rfl rfl ?_
  refine aB rfl (tP rfl) ⟨rfl,rfl,trivial⟩ ?_
  refine ap ?_
  refine ae ?_
  show JC _ _ _ _ _
  refine bD rfl (fun hb=>?_) (fun hb=>(by cases hb))
  refine ah ?_
  refine ab ?_
  refine dA rfl ?_
  refine dA rfl ?_
  refine dA rfl ?_
  refine dA rfl ?_
  refine ap ?_
  refine ae ?_
  show JC _ _ _ _ _
  refine aA ?_
  refine aP ?_
  refine du 1 rfl ?_
  exact aG () [_,_,_,_] 1 ⟨rfl,rfl,rfl,rfl,trivial⟩ rfl
 |true=>
  refine ah ?_
  refine ah ?_
  refine ab ?_
  refine ax rfl rfl ?_
  refine aB rfl (eR rfl) ⟨rfl,trivial⟩ ?_
  refine ax rfl rfl ?_
  refine lX rfl rfl rfl rfl rfl rfl (aR rfl) ⟨rfl,trivial⟩ ?_
  refine lX rfl rfl rfl rfl rfl rfl (aR rfl) ⟨rfl,trivial⟩ ?_
  refine lX rfl rfl rfl rfl rfl rfl (pm rfl) ⟨rfl,rfl,trivial⟩ ?_
  refine aB rfl (tQ rfl) ⟨rfl,rfl,trivial⟩ ?_
  refine ap ?_
  refine ae ?_
  show JC _ _ _ _ _
  refine bD rfl (fun hb=>?_) (fun hb=>?_)
  ·
   have hd:L.1≤bn:=of_decide_eq_true hb
   replace h:some (0,0,0,11)=some r:=by simpa [hd] using h
   obtain rfl:=Option.some.inj h
   refine ah ?_
   refine ab ?_
   refine dA rfl ?_
   refine dA rfl ?_
   refine dA rfl ?_
   refine dA rfl ?_
   refine ap ?_
   refine ae ?_
   show JC _ _ _ _ _
   refine aA ?_
   refine aP ?_
   refine du 1 rfl ?_
   exact aG () [_,_,_,_] 1 ⟨rfl,rfl,rfl,rfl,trivial⟩ rfl
  ·
   have hd:¬L.1≤bn:=of_decide_eq_false hb
   replace h:some (bx.1,bx.2,bn,0)=some r:=by simpa [hd] using h
   refine aU ?_
   refine ae ?_
   obtain rfl:=Option.some.inj h
   show JC _ _ _ _ _
   refine ah ?_
   refine uw (Δ:=[.obj s 131 (.rep eN bx)]) (F:=[.inv 0 ir,.obj b2 25 (.rep bb a0),.inv m (bB k a0),.obj y 128 (.agg (.pair (.at au (a0,.map (some m))) (.eq z.1)))]++f5 23 z bl) (Z:=Unit) (fun _=>[(4,.eq (.int .i64 bx.1)),(5,.eq (.int .i64 bx.2)),(6,.eq (.int .i64 bn)),(7,.eq (.int .i64 0))]) (fun _=>[.obj s 131 (.rep eN bx)]) (fun S w=>?_) (fun _=>?_)
   ·
    refine gd (SE.sub (Γ':=[(17,.eq (bP s)),(18,.eq (.int .i64 bn))]) ⟨rfl,rfl,trivial⟩) ?_
    refine jW ?_
    refine aK rfl rfl rfl (aw rfl KT) ⟨rfl,trivial⟩ ?_
    refine dy 0 rfl rfl rfl rfl (ak rfl sF my rfl) ⟨rfl,trivial⟩ ?_
    refine aK rfl rfl rfl (aw rfl KR) ⟨rfl,trivial⟩ ?_
    refine dy 0 rfl rfl rfl rfl (ak rfl sF my rfl) ⟨rfl,trivial⟩ ?_
    refine aK rfl rfl rfl (aR rfl) ⟨rfl,trivial⟩ ?_
    refine ou 5 [true,true,false,false,false] [4,5,6,7] [0] [.obj s 131 (.rep eN bx)] rfl (by kernel_rfl) (by kernel_rfl) (by kernel_rfl) pN (fun vs hv hB=>?_)
    obtain⟨u0,mc,rfl,O⟩:=an hv
    obtain⟨u1,ac,rfl,M⟩:=an O
    obtain⟨u2,Y,rfl,E⟩:=an M
    obtain⟨u3,X,rfl,x⟩:=an E
    obtain⟨u4,U,rfl,u⟩:=an x
    obtain rfl:=lI u
    refine⟨[0],[],by kernel_rfl,by decide,?_⟩
    refine m7 rfl rfl rfl rfl (ia rfl) ⟨rfl,trivial⟩ (by kernel_rfl) ?_
    refine m7 rfl rfl rfl rfl (ia rfl) ⟨rfl,trivial⟩ (by kernel_rfl) ?_
    refine m7 rfl rfl rfl rfl (ia rfl) ⟨rfl,trivial⟩ (by kernel_rfl) ?_
    refine m7 rfl rfl rfl rfl (ia rfl) ⟨rfl,trivial⟩ (by kernel_rfl) ?_
    refine sc ?_
    exact fun a w st=>⟨rfl,(),(SE.fin (Γ':=[(4,.eq (.int .i64 bx.1)),(5,.eq (.int .i64 bx.2)),(6,.eq (.int .i64 bn)),(7,.eq (.int .i64 0))]) [0] ⟨rfl,rfl,rfl,rfl,trivial⟩ rfl) a w st⟩
   ·
    refine ae ?_
    show JC _ _ _ _ _
    refine aA ?_
    refine du 1 rfl ?_
    exact aG () [_,_,_,_] 1 ⟨rfl,rfl,rfl,rfl,trivial⟩ rfl
def mK(k:Nat)(a0:(List Int))(a1:cV)(a2:(List (List Int)))(a3:Int)(a4:Int):Option Int:=
 (dH k a1 a2).bind fun r1=>
 (a8 r1 a3).bind fun x3=>
 (dn k (List.set r1 (Int.toNat a3) a0)).bind fun r4=>
 (fA k a1 r4 a4).bind fun r5=>
 some r5
theorem sE(k:Nat)(a0:(List Int))(a1:cV)(l:Nat)(a2:(List (List Int)))(j:Nat)(a3:Int)(e:Nat)(a4:Int)(c:Nat)(r:Int)(h:mK k a0 a1 a2 a3 a4=some r):
 dk (iy Tryz.prog) 104 [Ri a0,Pt l,Pt j,Pt e,Pt c] [.obj l 102 (.at bz a1),.obj j 107 (.rep (.arr 3 (.arr 5 (.int .i64))) a2),.obj e 3 (I a3),.obj c 3 (I a4)] (fun _:Unit=>(bq [I r],[.obj l 102 (.at bz a1),.obj j 107 (.rep (.arr 3 (.arr 5 (.int .i64))) a2),.obj e 3 (I a3),.obj c 3 (I a4)])):=by
 unfold mK at h
 replace h:=a9 h
 refine dk.of 20 Tryz.func104 rfl Tryz.ntmps104 rfl fun S w0=>?_
 refine sr ?_
 refine cq ?_
 refine nt ?_
 refine sr ?_
 refine lo qm ?_
 refine fr 1 ?_
 refine lo cT ?_
 obtain⟨r1,x,h⟩:=aa h
 have E:=gP k a1 a2 r1 x
 refine aF rfl rfl rfl (ao [.tmp 8,.tmp 9] rfl rfl IC rfl E) ⟨rfl,rfl,trivial⟩ fun v2=>?_
 refine aq ?_
 refine nt ?_
 refine sr ?_
 refine mq ?_
 refine fr 3 ?_
 refine lo cR ?_
 refine mq ?_
 obtain⟨x3,n,h⟩:=aa h
 refine fr 1 ?_
 refine kb (be (t:=(.slice (.int .i64))) rfl nu cG n) ?_
 refine bg rfl rfl (dK (i:=Int.toNat a3) rfl cG rfl (jk n) rfl .rep rfl) ⟨rfl,rfl,trivial⟩ ?_
 refine nt ?_
 refine ah ?_
 refine gd (gI [7,10,11] ⟨rfl,rfl,rfl,trivial⟩) ?_
 refine cr ?_
 refine ea 2 (ak rfl qm my rfl) ?_
 refine dm ?_
 obtain⟨r4,u,h⟩:=aa h
 have D:=dJ k (List.set r1 (Int.toNat a3) a0) r4 u
 refine da (ao [.tmp 16] rfl rfl Av rfl D) ?_
 refine ea 3 (ak rfl cR my rfl) ?_
 refine df eZ ?_
 obtain⟨r5,s,h⟩:=aa h
 have y:=lz k a1 r4 a4 r5 s
 refine jc (fL [.tmp 15,.tmp 17,.tmp 18] rfl rfl JI rfl y) ?_
 refine aq ?_
 refine nt ?_
 refine aA ?_
 refine bI (SE.fin (Γ':=[(6,_)]) [2,1,0,3] ⟨rfl,trivial⟩ rfl) ?_
 cases h
 exact aG () [_] 4 ⟨rfl,trivial⟩ rfl
def gQ(k:Nat)(a0_0:cV)(a0_1:(List (List Int)))(a0_2:Int)(a0_3:Int)(a1:(List (List Int))):Nat→((List Int)×Int×Bool×Int)→Option ((List Int)×Int×Bool)
 |0,_=>none
 |n+1,y3=>
  if y3.2.2.2 < (a1.length:Int) then((((a8 a1 y3.2.2.2).bind fun x7=>
  (mK k x7 a0_0 a0_1 a0_2 a0_3).bind fun r8=>
  ((if¬(y3.2.2.1=true) then(some true) else(some (decide (r8 < y3.2.1)))):Option (Bool)).bind fun x9=>
  if x9=true then(some (x7,r8,true)) else(some (y3.1,y3.2.1,y3.2.2.1))):Option ((List Int)×Int×Bool)).bind fun x5=>
  (ck (y3.2.2.2+1)).bind fun c=>
  gQ k a0_0 a0_1 a0_2 a0_3 a1 n (x5.1,x5.2.1,x5.2.2,c)) else(some (y3.1,y3.2.1,y3.2.2.1))
def kL(k:Nat)(a0_0:cV)(a0_1:(List (List Int)))(a0_2:Int)(a0_3:Int)(a1:(List (List Int))):Option ((List Int)×Int×Bool):=
 ((gQ k a0_0 a0_1 a0_2 a0_3 a1 k ([],0,false,0)):Option ((List Int)×Int×Bool)).bind fun x1=>
 some (x1.1,x1.2.1,x1.2.2)
theorem qh(k:Nat)(a0_0:cV)(c_a0_0:Nat)(a0_1:(List (List Int)))(c_a0_1:Nat)(a0_2:Int)(c_a0_2:Nat)(a0_3:Int)(c_a0_3:Nat)(a1:(List (List Int)))(r:(List Int)×Int×Bool)(h:kL k a0_0 a0_1 a0_2 a0_3 a1=some r):
 dk (iy Tryz.prog) 106 [.eq (.func (.func 104) #[] #[(Pv c_a0_0),(Pv c_a0_1),(Pv c_a0_2),(Pv c_a0_3)]),.rep (.slice (.slice (.int .i64))) a1] [.obj c_a0_0 102 (.at bz a0_0),.obj c_a0_1 107 (.rep (.arr 3 (.arr 5 (.int .i64))) a0_1),.obj c_a0_2 3 (I a0_2),.obj c_a0_3 3 (I a0_3)] (fun _:Unit=>(bq [Ri r.1,I r.2.1,.eq (.bool r.2.2)],[.obj c_a0_0 102 (.at bz a0_0),.obj c_a0_1 107 (.rep (.arr 3 (.arr 5 (.int .i64))) a0_1),.obj c_a0_2 3 (I a0_2),.obj c_a0_3 3 (I a0_3)])):=by
 unfold kL at h
 replace h:=a9 h
 refine dk.of 35 Tryz.func106 rfl Tryz.ntmps106 rfl fun S w0=>?_
 refine sr ?_
 refine cq ?_
 refine cq ?_
 refine cq ?_
 refine nt ?_
 refine sr ?_
 refine cq ?_
 refine nt ?_
 refine sr ?_
 refine cq ?_
 refine cq ?_
 refine nt ?_
 refine aW (Z:=Unit) (α:=(List Int)×Int×Bool) (fun z2 x1=>[(7,Ri x1.1),(8,I x1.2.1),(9,.eq (.bool x1.2.2))]) (fun z2 x1=>[.obj c_a0_0 102 (.at bz a0_0),.obj c_a0_1 107 (.rep (.arr 3 (.arr 5 (.int .i64))) a0_1),.obj c_a0_2 3 (I a0_2),.obj c_a0_3 3 (I a0_3)]) h (fun K h=>?_) (fun z2 x1 h=>?_)
 ·
  refine sr (mq ?_);refine ol nu ?_;refine eG rfl ?_;refine nt (aj (gd (lj (t:=(.slice (.int .i64))) (x:=[]) 7 rfl .nil rfl rfl) ?_));refine aJ (fun z4 y3=>[(0,.eq (.func (.func 104) #[] #[(Pv c_a0_0),(Pv c_a0_1),(Pv c_a0_2),(Pv c_a0_3)])),(7,Ri y3.1),(8,I y3.2.1),(9,.eq (.bool y3.2.2.1)),(13,.rep (.slice (.slice (.int .i64))) a1),(14,I (a1.length:Int)),(15,I y3.2.2.2)]) (fun z4 y3=>[.obj c_a0_0 102 (.at bz a0_0),.obj c_a0_1 107 (.rep (.arr 3 (.arr 5 (.int .i64))) a0_1),.obj c_a0_2 3 (I a0_2),.obj c_a0_3 3 (I a0_3)]) (gQ k a0_0 a0_1 a0_2 a0_3 a1) k () ([],0,false,0) (fun _=>rfl) h (SE.fin [0,1,2,3] ⟨rfl,rfl,rfl,rfl,rfl,rfl,rfl,trivial⟩ rfl) (fun n z4 y3 h=>?_);unfold gQ at h;refine sr (jb (bH rfl) ?_);refine nt (ah (ci h (fun h=>?_) (fun h=>?_)))
  ·refine sk (aW (Z:=Unit) (α:=(List Int)×Int×Bool) (fun z6 x5=>[(0,.eq (.func (.func 104) #[] #[(Pv c_a0_0),(Pv c_a0_1),(Pv c_a0_2),(Pv c_a0_3)])),(7,Ri x5.1),(8,I x5.2.1),(9,.eq (.bool x5.2.2)),(13,.rep (.slice (.slice (.int .i64))) a1),(14,I (a1.length:Int)),(15,I y3.2.2.2)]) (fun z6 x5=>[.obj c_a0_0 102 (.at bz a0_0),.obj c_a0_1 107 (.rep (.arr 3 (.arr 5 (.int .i64))) a0_1),.obj c_a0_2 3 (I a0_2),.obj c_a0_3 3 (I a0_3)]) h (fun K h=>?_) (fun z6 x5 h=>?_))
   ·refine aj (sr ?_);obtain⟨x7,l,h⟩:=aa h;refine jb (aN (t:=(.slice (.int .i64))) rfl nu cG l) ?_;refine ja (ar (t:=(.slice (.int .i64))) rfl cG rfl) ?_;refine aq (nt (sr ?_));iterate 2 refine mq ?_
    obtain⟨r8,u,h⟩:=aa h;refine fr 3 ?_;refine fr 3 ?_;refine fr 3 ?_;refine fr 3 ?_;refine bC (Δ:=[_,_,_,_]) (F:=_) (fun _ _ _=>av rfl _) rfl rfl (nK (fs:=[]) (cs:=[(Pv c_a0_0),(Pv c_a0_1),(Pv c_a0_2),(Pv c_a0_3)]) (ags:=[Ri x7]) [.tmp 20] rfl rfl OC rfl (sE k x7 a0_0 c_a0_0 a0_1 c_a0_1 a0_2 c_a0_2 a0_3 c_a0_3 r8 u)) ⟨rfl,rfl,trivial⟩ fun _=>?_;refine aq (nt ?_);refine aW (Z:=Unit) (α:=Bool) (fun c x9=>[(0,.eq (.func (.func 104) #[] #[(Pv c_a0_0),(Pv c_a0_1),(Pv c_a0_2),(Pv c_a0_3)])),(7,Ri y3.1),(8,I y3.2.1),(9,.eq (.bool y3.2.2.1)),(11,Ri x7),(12,I r8),(13,.rep (.slice (.slice (.int .i64))) a1),(14,I (a1.length:Int)),(15,I y3.2.2.2),(28,.eq (.bool x9))]) (fun c x9=>[.obj c_a0_0 102 (.at bz a0_0),.obj c_a0_1 107 (.rep (.arr 3 (.arr 5 (.int .i64))) a0_1),.obj c_a0_2 3 (I a0_2),.obj c_a0_3 3 (I a0_3)]) h (fun K h=>?_) (fun c x9 h=>?_)
    ·refine ab (mq ?_);refine ja (eR rfl) ?_;refine mq ?_;refine bZ (s:=24) rfl (fun hb=>?_) (fun hb=>?_)
     ·replace h:=cM (ES hb) h;iterate 3 refine gn ?_
      refine pt (nl ?_);exact jz ((),true) h [0,1,2,3]
     ·replace h:=bQ (yj hb) h;refine gm ?_;refine gm ?_;refine gb (bH rfl) ?_;refine pf (nl ?_);exact jz ((),decide (r8 < y3.2.1)) h [0,1,2,3]
    ·refine cv h (fun h=>?_) (fun h=>?_)
     ·refine ab ?_;iterate 2 refine mq ?_
      refine aq ?_;refine aq ?_;refine cq (ap (bn ?_));exact jz ((),(x7,r8,true)) h [0,1,2,3]
     ·refine aU (bn ?_);exact jz ((),(y3.1,y3.2.1,y3.2.2.1)) h [0,1,2,3]
   ·refine ab ?_;obtain⟨j,e,h⟩:=aa h;refine jb (bj rfl e) ?_;refine mq (nl ?_);exact jz ((),(x5.1,x5.2.1,x5.2.2,j)) h [0,1,2,3]
  ·refine xa ?_;exact jz ((),(y3.1,y3.2.1,y3.2.2.1)) h [0,1,2,3]
 ·
  refine sr ?_;iterate 3 refine mq ?_
  refine aq ?_;refine aq ?_;refine aq (nt (aA ?_));cases h;exact aG () [_,_,_] 4 ⟨rfl,rfl,rfl,trivial⟩ rfl
def px(k:Nat)(a0:bm)(a1:(List (List Int)))(a2:Int)(a3:Int):Option ((List Int)×Int×Int):=
 (bK k a0 a1).bind fun r4=>
 if¬(r4=0) then(some ([],0,r4)) else((((ck ((a0.2.2.length:Int) - 1)).bind fun x7=>
 (dw k a2 0 x7).bind fun r8=>
 if¬(r8=true) then(some true) else((dw k a3 0 a0.1).bind fun r9=>
 some (!r9))):Option (Bool)).bind fun x5=>
 if x5=true then(some ([],0,3)) else((dn k a1).bind fun n=>
 (fN k (a0,()) n a3).bind fun e=>
 (dD k e a2).bind fun l=>
 (kP k l).bind fun j=>
 (kJ k k j).bind fun h=>
 (kL k (a0,()) e a2 a3 h).bind fun c=>
 some (c.1,c.2.1,0)))
theorem uD(k:Nat)(a0:bm)(a1:(List (List Int)))(a2:Int)(a3:Int)(r:(List Int)×Int×Int)(h:px k a0 a1 a2 a3=some r):
 dk (iy Tryz.prog) 42 [.rep bb a0,.rep (.slice (.slice (.int .i64))) a1,I a2,I a3] [.inv 0 (ir)] (fun _:Unit=>(bq [Ri r.1,I r.2.1,I r.2.2],[.inv 0 (ir)])):=by
 unfold px at h
 replace h:=a9 h
 refine dk.of 60 Tryz.func42 rfl Tryz.ntmps42 rfl fun S w0=>?_
 refine sr ?_
 refine bx fun b1=>?_
 refine bx fun b2=>?_
 refine bx fun b3=>?_
 refine cq ?_
 refine cq ?_
 refine cq ?_
 refine nt ?_
 refine ah ?_
 refine sr ?_
 refine fr 2 ?_
 refine lo ii ?_
 refine mq ?_
 obtain⟨r4,QU,h⟩:=aa h
 have QV:=dj k a0 a1 r4 QU
 refine fr 3 ?_
 refine kb (ao [.tmp 18,.tmp 19] rfl rfl Gj rfl QV) ?_
 refine aq ?_
 refine nt ?_
 refine sr ?_
 refine mq ?_
 refine jb (jf rfl) ?_
 refine nt ?_
 refine cn h (fun h=>?_) (fun h=>?_)
 ·
  refine sr (mq ?_);refine cq ?_;refine cq ?_;refine aq (nt (rx ?_));refine bI (lj (t:=(.slice (.int .i64))) (x:=[]) 8 rfl .nil rfl rfl) ?_;cases h;exact aG () [_,_,_] 1 ⟨rfl,rfl,rfl,trivial⟩ rfl
 ·
  refine sk (ah (aW (Z:=Unit) (α:=Bool) (fun z6 x5=>[(1,.rep (.slice (.slice (.int .i64))) a1),(4,Pt b1),(6,Pt b2),(7,Pt b3),(37,.eq (.bool x5))]) (fun z6 x5=>[.obj b1 25 (.rep bb a0),.obj b2 3 (I a2),.obj b3 3 (I a3),.inv 0 (ir)]) h (fun K h=>?_) (fun z6 x5 h=>?_)))
  ·refine ab (fr 3 ?_);refine lo cR ?_;refine fl fF ?_;refine fr 2 ?_;refine lo cG ?_;refine ol eO ?_;obtain⟨x7,QQ,h⟩:=aa h;refine jb (fH rfl QQ) ?_;obtain⟨r8,QT,h⟩:=aa h;refine jc (ao [.tmp 24,.const (.int .i64 (0)),.tmp 28] rfl rfl wP rfl (dB k a2 0 x7 r8 QT)) ?_;refine ja (eR rfl) ?_;refine mq ?_;refine bZ (s:=31) rfl (fun hb=>?_) (fun hb=>?_)
   ·replace h:=cM (ES hb) h;iterate 5 refine gn ?_
    refine pt (nl ?_);exact jz ((),true) h [0,1,3,2]
   ·replace h:=bQ (yj hb) h;refine fr 3 ?_;refine lW rfl rfl rfl rfl rfl rfl (ak rfl cR my rfl) ⟨rfl,trivial⟩ ?_;refine ga (aw rfl lg) ?_;refine fr 1 ?_;refine lW rfl rfl rfl rfl rfl rfl (ak rfl cR my rfl) ⟨rfl,trivial⟩ ?_;obtain⟨r9,QR,h⟩:=aa h;refine gc (ao [.tmp 32,.const (.int .i64 (0)),.tmp 34] rfl rfl wP rfl (dB k a3 0 a0.1 r9 QR)) ?_;refine ga (eR rfl) ?_;refine pf (nl ?_);exact jz ((), !r9) h [0,2,1,3]
  ·refine cv h (fun h=>?_) (fun h=>?_)
   ·refine sr (cq ?_);refine cq ?_;refine cq (nt (rx ?_));refine bI (lj (t:=(.slice (.int .i64))) (x:=[]) 8 rfl .nil rfl rfl) ?_;refine bI (SE.fin (Γ':=[(8,_),(9,_),(10,_)]) [3,0,1,2] ⟨rfl,rfl,rfl,trivial⟩ rfl) ?_;cases h;exact aG () [_,_,_] 1 ⟨rfl,rfl,rfl,trivial⟩ rfl
   ·refine sk (sr (lo ii ?_));refine aF rfl rfl rfl (ao [.tmp 38] rfl rfl Gi rfl (fO a0)) ⟨rfl,trivial⟩ fun c=>?_;refine cS (jC (bB k a0) kE) ?_;refine aF rfl rfl rfl (bL rfl L6 ON) trivial fun j=>?_;refine bg rfl rfl (ba rfl qm trivial rfl rfl) ⟨rfl,rfl,trivial⟩ ?_;refine nt (ah (jW ?_));refine dy 0 rfl rfl rfl rfl (ak rfl qm my rfl) ⟨rfl,trivial⟩ ?_;refine aK rfl rfl rfl (aR rfl) ⟨rfl,trivial⟩ ?_;obtain⟨u,U,h⟩:=aa h;refine aK rfl rfl rfl (ao [.tmp 41] rfl rfl Av rfl (dJ k a1 u U)) ⟨rfl,trivial⟩ ?_;refine dy 4 rfl rfl rfl rfl (ak rfl cR my rfl) ⟨rfl,trivial⟩ ?_;obtain⟨l,Q,h⟩:=aa h;refine aK rfl rfl rfl (cI (N:=[(.tmp 40,.at au (a0,(.map (some c)))),(.tmp 42,.rep (.arr 3 (.arr 5 (.int .i64))) u),(.tmp 43,I a3)]) (ao [.tmp 40,.tmp 42,.tmp 43] rfl rfl JJ rfl (lA k (a0,()) u a3 l Q)) fun _ _ _ hn=>⟨(oe hn.1),hn.2.1,hn.2.2.1,trivial⟩) ⟨rfl,rfl,rfl,trivial⟩ ?_;refine BG (J8 107 (.rep (.arr 3 (.arr 5 (.int .i64))) [[0,0,0,0,0],[0,0,0,0,0],[0,0,0,0,0]])) (fun _=>rfl) rfl rfl rfl (bL rfl l5 mF) trivial ?_;refine ou 6 [true,true,true,true,true,true] [] [] [] rfl (by kernel_rfl) (by kernel_rfl) (by kernel_rfl) eZ (fun vs hv hB=>?_);obtain⟨w0,Q2,rfl,se⟩:=an hv;obtain⟨w1,Q1,rfl,qt⟩:=an se;obtain⟨w2,Q0,rfl,pp⟩:=an qt;obtain⟨w3,QZ,rfl,mc⟩:=an pp;obtain⟨w4,QY,rfl,ac⟩:=an mc;obtain⟨w5,QX,rfl,Y⟩:=an ac;obtain rfl:=lI Y;obtain⟨e,rfl⟩:=J7 hB.2.2.2.2.2.1;refine⟨[0,1,2,3,4,5,6],[.obj j 102 (.at au (a0,(.map (some c)))),.inv c (bB k a0),.obj b1 25 (.rep bb a0),.obj b2 3 (I a2),.obj b3 3 (I a3),.inv 0 (ir),.obj e 107 (.rep (.arr 3 (.arr 5 (.int .i64))) [[0,0,0,0,0],[0,0,0,0,0],[0,0,0,0,0]])],by kernel_rfl,by decide,?_⟩;refine lm 6 rfl ?_;refine pY rfl rfl (ba rfl cT rfl rfl rfl) ⟨rfl,rfl,trivial⟩ (by kernel_rfl) ?_;refine sc ?_;refine bI (SE.fin (Γ':=[(6,Pt b2),(7,Pt b3),(12,Pt j),(13,Pt e)]) (Δ':=[.obj e 107 (.rep (.arr 3 (.arr 5 (.int .i64))) l),.obj j 102 (.at au (a0,(.map (some c)))),.inv c (bB k a0),.obj b1 25 (.rep bb a0),.obj b2 3 (I a2),.obj b3 3 (I a3),.inv 0 (ir)]) [0,1,2,3,4,5,6] ⟨rfl,rfl,rfl,rfl,trivial⟩ rfl) ?_;refine tn (sr (aB rfl (rH [] [.tmp 12,.tmp 13,.tmp 6,.tmp 7] [] [(Pv j),(Pv e),(Pv b2),(Pv b3)] rfl rfl rfl) ⟨rfl,rfl,rfl,rfl,trivial⟩ ?_));refine aq (nt (sr ?_));refine mq ?_;refine lo cT ?_;refine fr 4 ?_;refine lo cR ?_;obtain⟨n,O,h⟩:=aa h;refine jb (ao [.tmp 48,.tmp 49] rfl rfl Bm rfl (fP k l a2 n O)) ?_;refine aF rfl rfl rfl (ao [.tmp 50] rfl rfl Oz rfl (qo n)) ⟨rfl,trivial⟩ fun QW=>?_;obtain⟨D,M,h⟩:=aa h;refine ka (ao [.tmp 51] rfl rfl OA rfl (qq k n QW D M)) ?_;obtain⟨y,J,h⟩:=aa h;refine ja (ao [.tmp 52] rfl rfl JH rfl (uB k k D y J)) ?_;refine fr 3 ?_;refine cS (qX (a:=.at au (a0,(.map (some c)))) (a':=.at bz (a0,())) Ly) ?_
    obtain⟨X,E,h⟩:=aa h;refine fr 6 ?_;refine fr 3 ?_;refine fr 4 ?_;refine fr 3 ?_;refine bC (Δ:=[_,_,_,_]) (F:=_) (fun _ _ _=>av rfl _) rfl rfl (fL [.tmp 47,.tmp 53] rfl rfl OB rfl (qh k (a0,()) j l e a2 b2 a3 b3 y X E)) ⟨rfl,rfl,trivial⟩ fun _=>?_;refine mq ?_;refine xr ?_;refine xr ?_;refine xr ?_;refine aq ?_;refine aq ?_;refine aq (nt (sr ?_));iterate 2 refine mq ?_
    refine aq ?_;refine aq ?_;refine cq (nt (aA ?_));refine bI (SE.fin (Γ':=[(8,_),(9,_),(10,_)]) [7,0,1,2,3,4,5,6] ⟨rfl,rfl,rfl,trivial⟩ rfl) ?_;cases h;exact aG () [_,_,_] 1 ⟨rfl,rfl,rfl,trivial⟩ rfl
def gR(k:Nat)(a0:bm)(a1:(List (List (List Int)))):Nat→((List (List Int))×Int×Bool×Int)→Option ((List (List Int))×Int×Bool)
 |0,_=>none
 |n+1,y5=>
  if y5.2.2.2 < (a1.length:Int) then((((a8 a1 y5.2.2.2).bind fun x9=>
  (cP k a0 x9).bind fun c=>
  ((if¬(y5.2.2.1=true) then(some true) else(some (decide (c < y5.2.1)))):Option (Bool)).bind fun h=>
  if h=true then(some (x9,c,true)) else(some (y5.1,y5.2.1,y5.2.2.1))):Option ((List (List Int))×Int×Bool)).bind fun x7=>
  (ck (y5.2.2.2+1)).bind fun e=>
  gR k a0 a1 n (x7.1,x7.2.1,x7.2.2,e)) else(some (y5.1,y5.2.1,y5.2.2.1))
def kM(k:Nat)(a0:bm)(a1:(List (List (List Int)))):Option ((List (List Int))×Int×Bool):=
 ((gR k a0 a1 k ([[0,0,0,0,0],[0,0,0,0,0],[0,0,0,0,0]],0,false,0)):Option ((List (List Int))×Int×Bool)).bind fun x3=>
 some (x3.1,x3.2.1,x3.2.2)
theorem qi(k:Nat)(a0:bm)(z_a0:Nat)(a1:(List (List (List Int))))(r:(List (List Int))×Int×Bool)(h:kM k a0 a1=some r):
 dk (iy Tryz.prog) 114 [.fn 111 (s9 [.at au (a0,(.map (some z_a0)))]),.rep (.slice (.arr 3 (.arr 5 (.int .i64)))) a1] [.inv z_a0 (bB k a0)] (fun _:Unit=>(bq [.rep (.arr 3 (.arr 5 (.int .i64))) r.1,I r.2.1,.eq (.bool r.2.2)],[.inv z_a0 (bB k a0)])):=by
 unfold kM at h
 replace h:=a9 h
 refine dk.of 35 Tryz.func114 rfl Tryz.ntmps114 rfl fun S w0=>?_
 refine sr ?_
 refine aF rfl rfl rfl (bL rfl l5 mF) trivial fun b1=>?_
 refine cq ?_
 refine cq ?_
 refine nt ?_
 refine sr ?_
 refine aF rfl rfl rfl (bL rfl l5 mF) trivial fun b2=>?_
 refine nt ?_
 refine sr ?_
 refine cq ?_
 refine cq ?_
 refine nt ?_
 refine aW (Z:=Unit) (α:=(List (List Int))×Int×Bool) (fun z4 x3=>[(4,Pt b1),(7,Pt b2),(8,I x3.2.1),(9,.eq (.bool x3.2.2))]) (fun z4 x3=>[.obj b1 107 (.rep (.arr 3 (.arr 5 (.int .i64))) [[0,0,0,0,0],[0,0,0,0,0],[0,0,0,0,0]]),.obj b2 107 (.rep (.arr 3 (.arr 5 (.int .i64))) x3.1),.inv z_a0 (bB k a0)]) h (fun K h=>?_) (fun z4 x3 h=>?_)
 ·
  refine sr (mq ?_);refine ol OS ?_;refine eG rfl ?_;refine nt (aj (aJ (fun z6 y5=>[(0,.fn 111 (s9 [.at au (a0,(.map (some z_a0)))])),(4,Pt b1),(7,Pt b2),(8,I y5.2.1),(9,.eq (.bool y5.2.2.1)),(13,.rep (.slice (.arr 3 (.arr 5 (.int .i64)))) a1),(14,I (a1.length:Int)),(15,I y5.2.2.2)]) (fun z6 y5=>[.obj b1 107 (.rep (.arr 3 (.arr 5 (.int .i64))) [[0,0,0,0,0],[0,0,0,0,0],[0,0,0,0,0]]),.obj b2 107 (.rep (.arr 3 (.arr 5 (.int .i64))) y5.1),.inv z_a0 (bB k a0)]) (gR k a0 a1) k () ([[0,0,0,0,0],[0,0,0,0,0],[0,0,0,0,0]],0,false,0) (fun _=>rfl) h (SE.fin [1,0,2] ⟨rfl,rfl,rfl,rfl,rfl,rfl,rfl,rfl,trivial⟩ rfl) (fun n z6 y5 h=>?_)));unfold gR at h;refine sr (jb (bH rfl) ?_);refine nt (ah (ci h (fun h=>?_) (fun h=>?_)))
  ·refine sk (aW (Z:=Unit) (α:=(List (List Int))×Int×Bool) (fun z8 x7=>[(0,.fn 111 (s9 [.at au (a0,(.map (some z_a0)))])),(4,Pt b1),(7,Pt b2),(8,I x7.2.1),(9,.eq (.bool x7.2.2)),(13,.rep (.slice (.arr 3 (.arr 5 (.int .i64)))) a1),(14,I (a1.length:Int)),(15,I y5.2.2.2)]) (fun z8 x7=>[.obj b1 107 (.rep (.arr 3 (.arr 5 (.int .i64))) [[0,0,0,0,0],[0,0,0,0,0],[0,0,0,0,0]]),.obj b2 107 (.rep (.arr 3 (.arr 5 (.int .i64))) x7.1),.inv z_a0 (bB k a0)]) h (fun K h=>?_) (fun z8 x7 h=>?_))
   ·refine aj (sr ?_);obtain⟨x9,D,h⟩:=aa h;refine jb (aN (t:=(.arr 3 (.arr 5 (.int .i64)))) rfl OS cT D) ?_;refine ja (ar (t:=(.arr 3 (.arr 5 (.int .i64)))) rfl cT rfl) ?_;refine aF rfl rfl rfl (bL rfl l5 mF) trivial fun x=>?_;refine bg rfl rfl (ba rfl cT rfl rfl rfl) ⟨rfl,rfl,trivial⟩ ?_;refine nt (sr (mq ?_));refine lo cT ?_;obtain⟨c,u,h⟩:=aa h;refine fr 3 ?_;refine kb (ER (fs:=[.at au (a0,(.map (some z_a0)))]) (ags:=[.rep (.arr 3 (.arr 5 (.int .i64))) x9]) [.tmp 20] rfl rfl JG rfl (iW k a0 z_a0 x9 c u)) ?_;refine aq (nt ?_);refine aW (Z:=Unit) (α:=Bool) (fun j e=>[(0,.fn 111 (s9 [.at au (a0,(.map (some z_a0)))])),(4,Pt b1),(7,Pt b2),(8,I y5.2.1),(9,.eq (.bool y5.2.2.1)),(11,Pt x),(12,I c),(13,.rep (.slice (.arr 3 (.arr 5 (.int .i64)))) a1),(14,I (a1.length:Int)),(15,I y5.2.2.2),(28,.eq (.bool e))]) (fun j e=>[.obj b1 107 (.rep (.arr 3 (.arr 5 (.int .i64))) [[0,0,0,0,0],[0,0,0,0,0],[0,0,0,0,0]]),.obj b2 107 (.rep (.arr 3 (.arr 5 (.int .i64))) y5.1),.obj x 107 (.rep (.arr 3 (.arr 5 (.int .i64))) x9),.inv z_a0 (bB k a0)]) h (fun K h=>?_) (fun j e h=>?_)
    ·refine ab (mq ?_);refine ja (eR rfl) ?_;refine mq ?_;refine bZ (s:=24) rfl (fun hb=>?_) (fun hb=>?_)
     ·replace h:=cM (ES hb) h;iterate 3 refine gn ?_
      refine pt (nl ?_);exact jz ((),true) h [2,3,1,0]
     ·replace h:=bQ (yj hb) h;refine gm ?_;refine gm ?_;refine gb (bH rfl) ?_;refine pf (nl ?_);exact jz ((),decide (c < y5.2.1)) h [2,3,1,0]
    ·refine cv h (fun h=>?_) (fun h=>?_)
     ·refine ab (fr 2 ?_);refine lo cT ?_;refine mq ?_;refine fr 2 ?_;refine bg rfl rfl (ba rfl cT rfl rfl rfl) ⟨rfl,rfl,trivial⟩ ?_;refine aq ?_;refine cq (ap (bn ?_));exact jz ((),(x9,c,true)) h [2,0,3]
     ·refine aU (bn ?_);exact jz ((),(y5.1,y5.2.1,y5.2.2.1)) h [0,1,3]
   ·refine ab ?_;obtain⟨y,l,h⟩:=aa h;refine jb (bj rfl l) ?_;refine mq (nl ?_);exact jz ((),(x7.1,x7.2.1,x7.2.2,y)) h [0,1,2]
  ·refine xa ?_;exact jz ((),(y5.1,y5.2.1,y5.2.2.1)) h [0,1,2]
 ·
  refine sr (fr 1 ?_);refine lo cT ?_;iterate 2 refine mq ?_
  refine fr 1 ?_;refine bg rfl rfl (ba rfl cT rfl rfl rfl) ⟨rfl,rfl,trivial⟩ ?_;refine aq ?_;refine aq (nt (aA ?_));refine bI (SE.fin (Γ':=[(4,_),(5,_),(6,_)]) [2,0,1] ⟨rfl,rfl,rfl,trivial⟩ rfl) ?_;cases h;exact aG () [.rep (.arr 3 (.arr 5 (.int .i64))) x3.1,_,_] 1 ⟨⟨_,_,_,_,_,rfl,(.tail _ (.head _)),cT,(xk),rfl⟩,rfl,rfl,trivial⟩ rfl
def tc(k:Nat)(a0:bm):Option ((List (List Int))×Int×Int):=
 (kz k a0).bind fun r2=>
 if¬(r2=0) then(some ([],0,r2)) else((jt k (a0,())).bind fun r5=>
 (kM k a0 r5).bind fun r6=>
 if¬(r6.2.2=true) then(some ([],0,11)) else((dH k (a0,()) r6.1).bind fun r8=>
 some (r8,r6.2.1,0)))
theorem xI(k:Nat)(a0:bm)(r:(List (List Int))×Int×Int)(h:tc k a0=some r):
 dk (iy Tryz.prog) 56 [.rep bb a0] [] (fun _:Unit=>(bq [.rep (.slice (.slice (.int .i64))) r.1,I r.2.1,I r.2.2],[])):=by
 unfold tc at h
 replace h:=a9 h
 refine dk.of 33 Tryz.func56 rfl Tryz.ntmps56 rfl fun S w0=>?_
 refine sr ?_
 refine bx fun b1=>?_
 refine cq ?_
 refine cq ?_
 refine cq ?_
 refine nt ?_
 refine ah ?_
 refine sr ?_
 refine lo ii ?_
 obtain⟨r2,l,h⟩:=aa h
 have n:=qk k a0 r2 l
 refine ja (ao [.tmp 10] rfl rfl N3 rfl n) ?_
 refine aq ?_
 refine nt ?_
 refine sr ?_
 refine mq ?_
 refine jb (jf rfl) ?_
 refine nt ?_
 refine cn h (fun h=>?_) (fun h=>?_)
 ·
  refine sr (mq ?_);refine cq ?_;refine cq ?_;refine aq (nt (rx ?_));refine bI (lj (t:=(.slice (.slice (.int .i64)))) (x:=[]) 2 rfl .nil rfl rfl) ?_;cases h;exact aG () [_,_,_] 0 ⟨rfl,rfl,rfl,trivial⟩ rfl
 ·
  refine sk (sr (lo ii ?_));refine aF rfl rfl rfl (ao [.tmp 15] rfl rfl Gi rfl (fO a0)) ⟨rfl,trivial⟩ fun z3=>?_;refine cS (jC (bB k a0) kE) ?_;refine aq (nt (sr ?_));refine mq ?_;refine ja (HM [.tmp 18] [.at au (a0,(.map (some z3)))] rfl rfl) ?_;refine mq ?_;refine aF rfl rfl rfl (cI (N:=[(.tmp 20,.at au (a0,(.map (some z3))))]) (ao [.tmp 20] rfl rfl Ov rfl (nC (a0,()))) fun _ _ _ hn=>⟨oe hn.1,trivial⟩) ⟨rfl,trivial⟩ fun b4=>?_;obtain⟨r5,j,h⟩:=aa h;refine ka (ao [.tmp 21] rfl rfl Ox rfl (oZ k (a0,()) b4 r5 j)) ?_;obtain⟨r6,e,h⟩:=aa h;refine fr 1 ?_;refine kb (fL [.tmp 19,.tmp 22] rfl rfl Oy rfl (qi k a0 z3 r5 r6 e)) ?_;refine mq ?_;refine xr ?_;refine xr ?_;refine xr ?_;refine aF rfl rfl rfl (bL rfl l5 mF) trivial fun b7=>?_;refine bg rfl rfl (ba rfl cT rfl rfl rfl) ⟨rfl,rfl,trivial⟩ ?_;refine aq ?_;refine aq (nt (ah (sr ?_)));refine mq ?_;refine ja (eR rfl) ?_;refine nt (cw h (fun h=>?_) (fun h=>?_))
  ·refine sr (cq ?_);refine cq ?_;refine cq (nt (rx ?_));refine bI (lj (t:=(.slice (.slice (.int .i64)))) (x:=[]) 2 rfl .nil rfl rfl) ?_;cases h;exact aG () [_,_,_] 0 ⟨rfl,rfl,rfl,trivial⟩ rfl
  ·refine sk (sr (mq ?_));refine lo cT ?_;obtain⟨r8,c,h⟩:=aa h;refine aF rfl rfl rfl (cI (N:=[(.tmp 29,.at au (a0,(.map (some z3)))),(.tmp 30,.rep (.arr 3 (.arr 5 (.int .i64))) r6.1)]) (ao [.tmp 29,.tmp 30] rfl rfl IC rfl (gP k (a0,()) r6.1 r8 c)) fun _ _ _ hn=>⟨(oe hn.1),hn.2.1,trivial⟩) ⟨rfl,rfl,trivial⟩ fun v9=>?_;refine mq ?_;refine aq ?_;refine aq ?_;refine cq (nt (aA ?_));refine bI (gI [2,31] ⟨rfl,rfl,trivial⟩) ?_;cases h;exact aG () [_,_,_] 0 ⟨rfl,rfl,rfl,trivial⟩ rfl
set_option maxRecDepth 20000
set_option maxHeartbeats 4000000
def LS(b:Nat):List Int→Option Addr
 |[]=>none
 |_::_=>some ⟨b,0,none⟩
def O6:List Int→Value→Value
 |[],_=>.slice none 0 0
 |_::_,v=>v
theorem Ln(b:Nat)(l:List Int):LS b l=none∨LS b l=some ⟨b,0,none⟩:=by cases l <;> simp [LS]
theorem GE(b:Nat)(l:List Int)(c:Int):LS b (l++[c])=some ⟨b,0,none⟩:=by cases l <;> rfl
theorem GA(l:List Int)(c:Int)(v:Value):O6 (l++[c]) v=v:=by cases l <;> rfl
theorem Jm:lV Tryz.prog 86 9 1 16:=.of (z:=(.string .empty)) QN (by kernel_rfl) rfl rfl rfl
theorem K7:ag Tryz.prog 121:=ag.of Tryz.func121 (by kernel_rfl) (by kernel_rfl)
theorem NW:ag Tryz.prog 35:=ag.of Tryz.func35 (by kernel_rfl) (by kernel_rfl)
theorem MI:dx Tryz.prog 25 3 true:=⟨fun w=>by kernel_rfl,fun w=>by kernel_rfl⟩
theorem Jj:dx Tryz.prog 23 1 false:=⟨fun w=>by kernel_rfl,fun w=>by kernel_rfl⟩
theorem MH:dx Tryz.prog 3 1 false:=⟨fun w=>by kernel_rfl,fun w=>by kernel_rfl⟩
def kH(c:Int):Int:=IntKind.i32.wrap (97+IntKind.i32.wrap c)
def kl(xs:List Int):Nat→Int×List Int→Option (List Int)
 |0,_=>none
 |n+1,y=>if y.1 < (xs.length:Int) then((a8 xs y.1).bind fun c=>if 0≤kH c∧kH c≤127∧bV (y.2.length+1) then(ck (y.1+1)).bind fun z=>kl xs n (z,y.2++[kH c]) else none) else some y.2
def iY(k:Nat)(a1:List (List Int)):Nat→Int×List ByteArray→Option (List ByteArray)
 |0,_=>none
 |n+1,y=>if y.1 < (a1.length:Int) then((a8 a1 y.1).bind fun xs=>(kl xs k (0,[])).bind fun l=>if bV (y.2.length+1) then(ck (y.1+1)).bind fun z=>iY k a1 n (z,y.2++[py l]) else none) else some y.2
def ru(k:Nat)(a0:bm)(a1:(List (List Int))):Option (Value×Int):=
 (bK k a0 a1).bind fun e=>if¬(e=0) then some (.string .empty,e) else(iY k a1 k (0,[])).bind fun ss=>(sP k ss ⟨#[47]⟩).bind fun r=>some (.string r,0)
theorem vW(k:Nat)(a0:bm)(a1:(List (List Int)))(r:Value×Int)(h:ru k a0 a1=some r):
 bX Tryz.prog 67 [.rep bb a0,.rep (.slice (.slice (.int .i64))) a1] [.inv 0 ir] (fun _:Unit=>(bq [.eq r.1,I r.2],[.inv 0 ir])):=by
 unfold ru at h
 replace h:=a9 h
 refine bX.of 43 Tryz.func67 rfl Tryz.ntmps67 rfl fun S w0=>?_
 refine sr ?_
 refine bx fun b2=>?_
 refine cq ?_
 refine cq ?_
 refine nt ?_
 refine ah ?_
 refine sr ?_
 obtain⟨e,ee,h⟩:=aa h
 have ce:=dj k a0 a1 e ee
 refine ka (ak rfl MI (xl) rfl) ?_
 refine mq ?_
 refine fr 1 ?_
 refine kb (ao [.tmp 13,.tmp 14] rfl rfl NW rfl ce) ?_
 refine aq ?_
 refine nt ?_
 refine sr ?_
 refine mq ?_
 refine jb (jf rfl) ?_
 refine nt ?_
 refine bD rfl (fun hb=>?_) (fun hb=>?_)
 ·
  replace h:=cM (MX hb) h;refine sr (mq ?_);refine cq ?_;refine aq (nt (rx ?_));cases h;exact aG () [_,_] 1 ⟨rfl,rfl,trivial⟩ rfl
 replace h:=bQ (Fb hb) h
 refine sk ?_
 refine sr ?_
 refine cq ?_
 refine nt ?_
 rw [Option.bind_assoc] at h
 refine ah ?_
 refine sr ?_
 refine mq ?_
 refine ol nu ?_
 refine eG rfl ?_
 refine cS (SE.nil 9 .str) ?_
 refine nt ?_
 refine aj ?_
 refine aJ (fun v y=>[(7,.eq v),(19,.rep (.slice (.slice (.int .i64))) a1),(20,I (a1.length:Int)),(21,I y.1)]) (fun v y=>[.sl v 9 .str y.2,.inv 0 ir]) (iY k a1) k (.slice none 0 0) (0,[]) (fun _=>rfl) h (SE.fin [0,1] ⟨rfl,rfl,rfl,rfl,trivial⟩ rfl) (fun n v7 y h=>?_)
 unfold iY at h
 refine sr ?_
 refine jb (bH rfl) ?_
 refine nt ?_
 refine ah ?_
 refine bD rfl (fun hb=>?_) (fun hb=>?_)
 ·
  replace h:=cM (nq hb) h;refine sk (ah (aj ?_));obtain⟨xs,exs,h⟩:=aa h;refine sr (jb (aN (t:=.slice (.int .i64)) rfl nu Jj exs) ?_);refine ja (ar (t:=.slice (.int .i64)) rfl Jj rfl) ?_;refine aq (nt (sr ?_));refine aF rfl rfl rfl (bL rfl DJ GH) trivial fun b=>?_;refine nt ?_;rw [Option.bind_assoc] at h;refine ah (sr (mq ?_));refine ol eO ?_;refine eG rfl ?_;refine cS (SE.nil 5 (.int .u8)) ?_;refine nt (aj ?_)
  refine aJ (fun v q=>[(7,.eq v7),(10,.eq (bP b)),(19,.rep (.slice (.slice (.int .i64))) a1),(20,I (a1.length:Int)),(21,I y.1),(25,Ri xs),(26,I (xs.length:Int)),(27,I q.1)])
   (fun v q=>[.obj b 162 (bA (.pointer (LS b q.2)) (O6 q.2 v)),.sl (O6 q.2 v) 5 (.int .u8) q.2,.sl v7 9 .str y.2,.inv 0 ir]) (kl xs) k undef (0,[]) (fun _=>rfl) h (SE.fin [1,0,2,3] ⟨rfl,rfl,rfl,rfl,rfl,rfl,rfl,rfl,trivial⟩ rfl) (fun n2 v q h=>?_)
  unfold kl at h;refine sr (jb (bH rfl) ?_);refine nt (ah (bD rfl (fun hb=>?_) (fun hb=>?_)))
  ·replace h:=cM (nq hb) h;refine sk (ah (aj ?_));obtain⟨c,ec,h⟩:=aa h;refine sr (jb (aN (t:=.int .i64) rfl eO MH ec) ?_);refine ja (ar (t:=.int .i64) rfl MH rfl) ?_;refine aq (nt ?_)
   have hk:0≤kH c∧kH c≤127∧bV (q.2.length+1):=by
    apply Classical.byContradiction;intro hn;rw [if_neg hn] at h;cases h
   replace h:=cM hk h;refine uv 1 rfl fun hv=>?_;refine ab (mq ?_);refine ja (nJ rfl U3 QO) ?_;refine jb (zT rfl) ?_;refine bC (Δ:=[_,_]) (F:=_) (fun _ _ _=>av rfl _) rfl rfl (ao [.tmp 10,.tmp 33] rfl rfl K8 rfl (wa (b:=b) (p:=LS b q.2) (v:=O6 q.2 v) (l:=q.2) (r:=kH c) (Ln b q.2) hv hk.1 hk.2.1 hk.2.2)) ⟨rfl,rfl,trivial⟩ fun v2=>?_;refine ap (aI (tn (ab ?_)));obtain⟨z3,ez3,h⟩:=aa h;refine jb (bj rfl ez3) ?_;refine mq (nl ?_);exact iz (v2,(z3,q.2++[kH c])) h (SE.fin [0,1,2,3] ⟨rfl,rfl,rfl,rfl,rfl,rfl,rfl,rfl,trivial⟩ (by simp only [GE,GA];rfl))
  replace h:=bQ (m4 hb) h;refine dF (aM (aM (bR (tn ?_))));replace h:(if bV (y.2.length+1) then(ck (y.1+1)).bind fun z=>iY k a1 n (z,y.2++[py q.2]) else none).bind _=some r:=h
  have hk:bV (y.2.length+1):=by
   apply Classical.byContradiction;intro hn;rw [if_neg hn] at h;cases h
  replace h:=cM hk h;refine ab (mq ?_);refine bC (Δ:=[_,_]) (F:=_) (fun _ _ _=>av rfl _) rfl rfl (ao [.tmp 10] rfl rfl Gg rfl (uY (b:=b) (l:=q.2) (fun hn=>by rw [hn];rfl))) ⟨rfl,trivial⟩ fun _=>?_;refine ja (bG (t:=.str) [(.tmp 37,.eq (.string (py q.2)))] [py q.2] rfl rfl Jm (.cons rfl .str .nil) rfl rfl) ?_;refine ek rfl rfl rfl (cp rfl rfl Jm (by simpa using hk)) ⟨rfl,rfl,trivial⟩ fun v'=>?_;refine aq (ap (aI (tn (ab ?_))));obtain⟨z3,ez3,h⟩:=aa h;refine jb (bj rfl ez3) ?_;refine mq (nl ?_);exact jz (v',(z3,y.2++[py q.2])) h [0,1]
 replace h:=bQ (m4 hb) h
 refine dF ?_
 refine aM ?_
 refine aM ?_
 refine bR ?_
 refine tn ?_
 replace h:((sP k y.2 ⟨#[47]⟩).bind fun r=>some (.string r,0)).bind some=some r:=h
 obtain⟨r1,j,h⟩:=aa h
 cases h
 have cj:=zA k y.2 _ r1 j
 refine sr ?_
 refine cS (gI [7] ⟨rfl,trivial⟩) ?_
 refine mq ?_
 refine jb (ao [.tmp 41,.const (.string ⟨#[47]⟩)] rfl rfl K7 rfl cj) ?_
 refine aq ?_
 refine cq ?_
 refine nt ?_
 refine aA ?_
 exact aG () [_,_] 1 ⟨rfl,rfl,trivial⟩ rfl
def jw(k:Nat):Option Bool:=
 (jN k ([]:(List Int))).bind fun r1=>
 (vt k).bind fun r2=>
 (vX k r1 r2 1).bind fun r3=>
 (jN k ([]:(List Int))).bind fun r4=>
 (vt k).bind fun r5=>
 (jq k r4 r5).bind fun r6=>
 (jN k ([]:(List Int))).bind fun r7=>
 (tc k r7).bind fun r8=>
 (jN k ([]:(List Int))).bind fun r9=>
 (FA k).bind fun E=>
 (ta k r9 E).bind fun c=>
 (jN k ([]:(List Int))).bind fun D=>
 (vt k).bind fun y=>
 (px k D y 0 1).bind fun h=>
 (jN k ([]:(List Int))).bind fun x=>
 (vt k).bind fun u=>
 (ru k x u).bind fun e=>
 ((if r3.2.2=0 then(if r6.2=0 then(if r8.2.2=0 then(if c.2.2.2=0 then(if h.2.2=0 then(if e.2=0 then(if r6.1=3 then(if r8.2.1=0 then(if c.1=0 then(if c.2.1=2 then(if c.2.2.1=1 then(if h.2.1=2 then((d6 (Jw e.1=true)).bind fun _=>
 if F8 e.1 (⟨#[98,97,100,47,99]⟩:ByteArray)=true then((ft k r3.1 [0]).bind fun s=>
 if s=true then((eE k r3.2.1 [[0,1,3],[2]]).bind fun r=>
 if r=true then((eE k r8.1 [[2,0],[1,3]]).bind fun n=>
 if n=true then((ft k h.1 [0,1,3]).bind fun l=>
 some l) else(some false)) else(some false)) else(some false)) else(some false)) else(some false)) else(some false)) else(some false)) else(some false)) else(some false)) else(some false)) else(some false)) else(some false)) else(some false)) else(some false)) else(some false)) else(some false)):Option (Bool)).bind fun j=>
 some j
theorem po(k:Nat)(r:Bool)(h:jw k=some r):
 dk (iy Tryz.prog) 25 [] [.inv 0 (ir)] (fun _:Unit=>(bq [.eq (.bool r)],[.inv 0 (ir)])):=by
 unfold jw at h
 replace h:=a9 h
 refine dk.of 132 Tryz.func25 rfl Tryz.ntmps25 rfl fun S w0=>?_
 refine sr ?_
 refine cq ?_
 refine nt ?_
 refine sr ?_
 obtain⟨r1,Re,h⟩:=aa h
 have Rq:=iR k ([]:(List Int)) r1 Re
 refine ja (cI (N:=[(.const (.slice none 0 0),.eq (.slice none 0 0))]) (ao [.const (.slice none 0 0)] rfl rfl C7 rfl Rq) fun _ _ _ hn=>⟨(fX (t:=(.slice (.int .i64))) (x:=([]:(List Int))) .nil rfl rfl hn.1),trivial⟩) ?_
 obtain⟨r2,Rb,h⟩:=aa h
 have Ro:=qH k r2 Rb
 refine aB rfl (ao [] rfl rfl IE rfl Ro) trivial ?_
 obtain⟨r3,Q9,h⟩:=aa h
 have Rn:=zw k r1 r2 1 r3 Q9
 refine kc (ao [.tmp 19,.tmp 20,.const (.int .i64 (1))] rfl rfl Qi rfl Rn) ?_
 refine mq ?_
 refine xr ?_
 refine xr ?_
 refine xr ?_
 refine aq ?_
 refine aq ?_
 refine aq ?_
 refine nt ?_
 refine sr ?_
 obtain⟨r4,Q8,h⟩:=aa h
 have Rm:=iR k ([]:(List Int)) r4 Q8
 refine ja (cI (N:=[(.const (.slice none 0 0),.eq (.slice none 0 0))]) (ao [.const (.slice none 0 0)] rfl rfl C7 rfl Rm) fun _ _ _ hn=>⟨(fX (t:=(.slice (.int .i64))) (x:=([]:(List Int))) .nil rfl rfl hn.1),trivial⟩) ?_
 obtain⟨r5,Q7,h⟩:=aa h
 have Rl:=qH k r5 Q7
 refine aB rfl (ao [] rfl rfl IE rfl Rl) trivial ?_
 obtain⟨r6,Q6,h⟩:=aa h
 have Rk:=mL k r4 r5 r6 Q6
 refine kb (fL [.tmp 26,.tmp 27] rfl rfl NZ rfl Rk) ?_
 refine mq ?_
 refine xr ?_
 refine xr ?_
 refine aq ?_
 refine aq ?_
 refine nt ?_
 refine sr ?_
 obtain⟨r7,Q5,h⟩:=aa h
 have Rj:=iR k ([]:(List Int)) r7 Q5
 refine ja (cI (N:=[(.const (.slice none 0 0),.eq (.slice none 0 0))]) (ao [.const (.slice none 0 0)] rfl rfl C7 rfl Rj) fun _ _ _ hn=>⟨(fX (t:=(.slice (.int .i64))) (x:=([]:(List Int))) .nil rfl rfl hn.1),trivial⟩) ?_
 obtain⟨r8,Q4,h⟩:=aa h
 have Rh:=xI k r7 r8 Q4
 refine ja (fL [.tmp 32] rfl rfl P9 rfl Rh) ?_
 refine mq ?_
 refine xr ?_
 refine xr ?_
 refine xr ?_
 refine aq ?_
 refine aq ?_
 refine aq ?_
 refine nt ?_
 refine sr ?_
 obtain⟨r9,Q3,h⟩:=aa h
 have Rf:=iR k ([]:(List Int)) r9 Q3
 refine ja (cI (N:=[(.const (.slice none 0 0),.eq (.slice none 0 0))]) (ao [.const (.slice none 0 0)] rfl rfl C7 rfl Rf) fun _ _ _ hn=>⟨(fX (t:=(.slice (.int .i64))) (x:=([]:(List Int))) .nil rfl rfl hn.1),trivial⟩) ?_
 obtain⟨E,qt,h⟩:=aa h
 have QX:=Fz k E qt
 refine aB rfl (ao [] rfl rfl P6 rfl QX) trivial ?_
 obtain⟨Q2,pp,h⟩:=aa h
 have QW:=xH k r9 E Q2 pp
 refine kb (fL [.tmp 38,.tmp 39] rfl rfl Qf rfl QW) ?_
 refine mq ?_
 refine xr ?_
 refine xr ?_
 refine xr ?_
 refine xr ?_
 refine aq ?_
 refine aq ?_
 refine aq ?_
 refine aq ?_
 refine nt ?_
 refine sr ?_
 obtain⟨D,mc,h⟩:=aa h
 have QV:=iR k ([]:(List Int)) D mc
 refine ja (cI (N:=[(.const (.slice none 0 0),.eq (.slice none 0 0))]) (ao [.const (.slice none 0 0)] rfl rfl C7 rfl QV) fun _ _ _ hn=>⟨(fX (t:=(.slice (.int .i64))) (x:=([]:(List Int))) .nil rfl rfl hn.1),trivial⟩) ?_
 obtain⟨y,ac,h⟩:=aa h
 have QU:=qH k y ac
 refine aB rfl (ao [] rfl rfl IE rfl QU) trivial ?_
 obtain⟨u,Y,h⟩:=aa h
 have QT:=uD k D y 0 1 u Y
 refine bO rfl rfl rfl (fL [.tmp 46,.tmp 47,.const (.int .i64 (0)),.const (.int .i64 (1))] rfl rfl Qe rfl QT) ⟨rfl,rfl,rfl,rfl,trivial⟩ ?_
 refine mq ?_
 refine xr ?_
 refine xr ?_
 refine xr ?_
 refine aq ?_
 refine aq ?_
 refine aq ?_
 refine nt ?_
 refine sr ?_
 obtain⟨n,X,h⟩:=aa h
 have QR:=iR k ([]:(List Int)) n X
 refine ja (cI (N:=[(.const (.slice none 0 0),.eq (.slice none 0 0))]) (ao [.const (.slice none 0 0)] rfl rfl C7 rfl QR) fun _ _ _ hn=>⟨(fX (t:=(.slice (.int .i64))) (x:=([]:(List Int))) .nil rfl rfl hn.1),trivial⟩) ?_
 obtain⟨l,U,h⟩:=aa h
 have QQ:=qH k l U
 refine aB rfl (ao [] rfl rfl IE rfl QQ) trivial ?_
 obtain⟨Q1,Q,h⟩:=aa h
 have se:=vW k n l Q1 Q
 refine kb (ao [.tmp 53,.tmp 54] rfl rfl P7 rfl se) ?_
 refine mq ?_
 refine xr ?_
 refine xr ?_
 refine aq ?_
 refine aq ?_
 refine nt ?_
 refine aW (Z:=Unit) (α:=Bool) (fun e c=>[(0,.eq (.bool c))]) (fun e c=>[.inv 0 (ir)]) h (fun K h=>?_) (fun e c h=>?_)
 ·
  refine ab (mq ?_);refine jb (eS rfl) ?_;refine mq ?_;refine bZ (s:=60) rfl (fun hb=>?_) (fun hb=>?_)
  ·replace h:=cM (nq hb) h;refine gm ?_;refine gb (eS rfl) ?_;refine pt ?_;refine mq ?_;refine bZ (s:=64) rfl (fun hb=>?_) (fun hb=>?_)
   ·replace h:=cM (nq hb) h;refine gm ?_;refine gb (eS rfl) ?_;refine pt ?_;refine mq ?_;refine bZ (s:=68) rfl (fun hb=>?_) (fun hb=>?_)
    ·replace h:=cM (nq hb) h;refine gm ?_;refine gb (eS rfl) ?_;refine pt ?_;refine mq ?_;refine bZ (s:=72) rfl (fun hb=>?_) (fun hb=>?_)
     ·replace h:=cM (nq hb) h;refine gm ?_;refine gb (eS rfl) ?_;refine pt ?_;refine mq ?_;refine bZ (s:=76) rfl (fun hb=>?_) (fun hb=>?_)
      ·replace h:=cM (nq hb) h;refine gm ?_;refine gb (eS rfl) ?_;refine pt ?_;refine mq ?_;refine bZ (s:=80) rfl (fun hb=>?_) (fun hb=>?_)
       ·replace h:=cM (nq hb) h;refine gm ?_;refine gb (eS rfl) ?_;refine pt ?_;refine mq ?_;refine bZ (s:=84) rfl (fun hb=>?_) (fun hb=>?_)
        ·replace h:=cM (nq hb) h;refine gm ?_;refine gb (eS rfl) ?_;refine pt ?_;refine mq ?_;refine bZ (s:=88) rfl (fun hb=>?_) (fun hb=>?_)
         ·replace h:=cM (nq hb) h;refine gm ?_;refine gb (eS rfl) ?_;refine pt ?_;refine mq ?_;refine bZ (s:=92) rfl (fun hb=>?_) (fun hb=>?_)
          ·replace h:=cM (nq hb) h;refine gm ?_;refine gb (eS rfl) ?_;refine pt ?_;refine mq ?_;refine bZ (s:=96) rfl (fun hb=>?_) (fun hb=>?_)
           ·replace h:=cM (nq hb) h;refine gm ?_;refine gb (eS rfl) ?_;refine pt ?_;refine mq ?_;refine bZ (s:=100) rfl (fun hb=>?_) (fun hb=>?_)
            ·replace h:=cM (nq hb) h;refine gm ?_;refine gb (eS rfl) ?_;refine pt ?_;refine mq ?_;refine bZ (s:=104) rfl (fun hb=>?_) (fun hb=>?_)
             ·replace h:=cM (nq hb) h;refine gm ?_;obtain⟨Rr,F,h⟩:=aa h;refine gb (EP rfl (aC F)) ?_;refine pt ?_;refine mq ?_;refine bZ (s:=108) rfl (fun hb=>?_) (fun hb=>?_)
              ·replace h:=cM (DC hb) h;refine gm ?_;refine ga (bG (t:=(.int .i64)) [(.const (.int .i64 (0)),_)] [0] rfl rfl eP (.cons rfl .int .nil) rfl rfl) ?_;obtain⟨Q0,O,h⟩:=aa h;refine gb (ao [.tmp 109,.tmp 110] rfl rfl Lc rfl (j7 k r3.1 [0] Q0 O)) ?_;refine pt ?_;refine mq ?_;refine bZ (s:=113) rfl (fun hb=>?_) (fun hb=>?_)
               ·replace h:=cM (DC hb) h;refine gm ?_;refine gc (bG (t:=(.int .i64)) [(.const (.int .i64 (0)),_),(.const (.int .i64 (1)),_),(.const (.int .i64 (3)),_)] [0,1,3] rfl rfl eP (.cons rfl .int (.cons rfl .int (.cons rfl .int .nil))) rfl rfl) ?_;refine ga (bG (t:=(.int .i64)) [(.const (.int .i64 (2)),_)] [2] rfl rfl eP (.cons rfl .int .nil) rfl rfl) ?_;refine gb (bG (t:=(.slice (.int .i64))) [(.tmp 115,_),(.tmp 116,_)] [[0,1,3],[2]] rfl rfl tj (.cons rfl .rep (.cons rfl .rep .nil)) rfl rfl) ?_;obtain⟨QZ,M,h⟩:=aa h;refine gb (ao [.tmp 114,.tmp 117] rfl rfl La rfl (jx k r3.2.1 [[0,1,3],[2]] QZ M)) ?_;refine pt ?_;refine mq ?_;refine bZ (s:=120) rfl (fun hb=>?_) (fun hb=>?_)
                ·replace h:=cM (DC hb) h;refine gm ?_;refine gb (bG (t:=(.int .i64)) [(.const (.int .i64 (2)),_),(.const (.int .i64 (0)),_)] [2,0] rfl rfl eP (.cons rfl .int (.cons rfl .int .nil)) rfl rfl) ?_;refine gb (bG (t:=(.int .i64)) [(.const (.int .i64 (1)),_),(.const (.int .i64 (3)),_)] [1,3] rfl rfl eP (.cons rfl .int (.cons rfl .int .nil)) rfl rfl) ?_;refine gb (bG (t:=(.slice (.int .i64))) [(.tmp 122,_),(.tmp 123,_)] [[2,0],[1,3]] rfl rfl tj (.cons rfl .rep (.cons rfl .rep .nil)) rfl rfl) ?_;obtain⟨QY,J,h⟩:=aa h;refine gb (ao [.tmp 121,.tmp 124] rfl rfl La rfl (jx k r8.1 [[2,0],[1,3]] QY J)) ?_;refine pt ?_;refine mq ?_;refine bZ (s:=127) rfl (fun hb=>?_) (fun hb=>?_)
                 ·replace h:=cM (DC hb) h;refine gm ?_;refine gc (bG (t:=(.int .i64)) [(.const (.int .i64 (0)),_),(.const (.int .i64 (1)),_),(.const (.int .i64 (3)),_)] [0,1,3] rfl rfl eP (.cons rfl .int (.cons rfl .int (.cons rfl .int .nil))) rfl rfl) ?_;obtain⟨j,I,h⟩:=aa h;refine gb (ao [.tmp 128,.tmp 129] rfl rfl Lc rfl (j7 k u.1 [0,1,3] j I)) ?_;refine pt ?_;refine aq (nl ?_);exact jz ((),j) h [0]
                 ·replace h:=bQ (DD hb) h;iterate 3 refine gn ?_
                  refine pf ?_;refine aq (nl ?_);exact jz ((),false) h [0]
                ·replace h:=bQ (DD hb) h;iterate 5 refine gn ?_
                 refine pf ?_;refine mq ?_;iterate 3 refine gn ?_
                 refine pf ?_;refine aq (nl ?_);exact jz ((),false) h [0]
               ·replace h:=bQ (DD hb) h;iterate 5 refine gn ?_
                refine pf ?_;refine mq ?_;iterate 5 refine gn ?_
                refine pf ?_;refine mq ?_;iterate 3 refine gn ?_
                refine pf ?_;refine aq (nl ?_);exact jz ((),false) h [0]
              ·replace h:=bQ (DD hb) h;iterate 3 refine gn ?_
               refine pf ?_;refine mq ?_;iterate 5 refine gn ?_
               refine pf ?_;refine mq ?_;iterate 5 refine gn ?_
               refine pf ?_;refine mq ?_;iterate 3 refine gn ?_
               refine pf ?_;refine aq (nl ?_);exact jz ((),false) h [0]
             ·replace h:=bQ (m4 hb) h;iterate 2 refine gn ?_
              refine pf ?_;refine mq ?_;iterate 3 refine gn ?_
              refine pf ?_;refine mq ?_;iterate 5 refine gn ?_
              refine pf ?_;refine mq ?_;iterate 5 refine gn ?_
              refine pf ?_;refine mq ?_;iterate 3 refine gn ?_
              refine pf ?_;refine aq (nl ?_);exact jz ((),false) h [0]
            ·replace h:=bQ (m4 hb) h;iterate 2 refine gn ?_
             refine pf ?_;refine mq ?_;iterate 2 refine gn ?_
             refine pf ?_;refine mq ?_;iterate 3 refine gn ?_
             refine pf ?_;refine mq ?_;iterate 5 refine gn ?_
             refine pf ?_;refine mq ?_;iterate 5 refine gn ?_
             refine pf ?_;refine mq ?_;iterate 3 refine gn ?_
             refine pf ?_;refine aq (nl ?_);exact jz ((),false) h [0]
           ·replace h:=bQ (m4 hb) h;iterate 2 refine gn ?_
            refine pf ?_;refine mq ?_;iterate 2 refine gn ?_
            refine pf ?_;refine mq ?_;iterate 2 refine gn ?_
            refine pf ?_;refine mq ?_;iterate 3 refine gn ?_
            refine pf ?_;refine mq ?_;iterate 5 refine gn ?_
            refine pf ?_;refine mq ?_;iterate 5 refine gn ?_
            refine pf ?_;refine mq ?_;iterate 3 refine gn ?_
            refine pf ?_;refine aq (nl ?_);exact jz ((),false) h [0]
          ·replace h:=bQ (m4 hb) h;iterate 2 refine gn ?_
           refine pf ?_;refine mq ?_;iterate 2 refine gn ?_
           refine pf ?_;refine mq ?_;iterate 2 refine gn ?_
           refine pf ?_;refine mq ?_;iterate 2 refine gn ?_
           refine pf ?_;refine mq ?_;iterate 3 refine gn ?_
           refine pf ?_;refine mq ?_;iterate 5 refine gn ?_
           refine pf ?_;refine mq ?_;iterate 5 refine gn ?_
           refine pf ?_;refine mq ?_;iterate 3 refine gn ?_
           refine pf ?_;refine aq (nl ?_);exact jz ((),false) h [0]
         ·replace h:=bQ (m4 hb) h;iterate 2 refine gn ?_
          refine pf ?_;refine mq ?_;iterate 2 refine gn ?_
          refine pf ?_;refine mq ?_;iterate 2 refine gn ?_
          refine pf ?_;refine mq ?_;iterate 2 refine gn ?_
          refine pf ?_;refine mq ?_;iterate 2 refine gn ?_
          refine pf ?_;refine mq ?_;iterate 3 refine gn ?_
          refine pf ?_;refine mq ?_;iterate 5 refine gn ?_
          refine pf ?_;refine mq ?_;iterate 5 refine gn ?_
          refine pf ?_;refine mq ?_;iterate 3 refine gn ?_
          refine pf ?_;refine aq (nl ?_);exact jz ((),false) h [0]
        ·replace h:=bQ (m4 hb) h;iterate 2 refine gn ?_
         refine pf ?_;refine mq ?_;iterate 2 refine gn ?_
         refine pf ?_;refine mq ?_;iterate 2 refine gn ?_
         refine pf ?_;refine mq ?_;iterate 2 refine gn ?_
         refine pf ?_;refine mq ?_;iterate 2 refine gn ?_
         refine pf ?_;refine mq ?_;iterate 2 refine gn ?_
         refine pf ?_;refine mq ?_;iterate 3 refine gn ?_
         refine pf ?_;refine mq ?_;iterate 5 refine gn ?_
         refine pf ?_;refine mq ?_;iterate 5 refine gn ?_
         refine pf ?_;refine mq ?_;iterate 3 refine gn ?_
         refine pf ?_;refine aq (nl ?_);exact jz ((),false) h [0]
       ·replace h:=bQ (m4 hb) h;iterate 2 refine gn ?_
        refine pf ?_;refine mq ?_;iterate 2 refine gn ?_
        refine pf ?_;refine mq ?_;iterate 2 refine gn ?_
        refine pf ?_;refine mq ?_;iterate 2 refine gn ?_
        refine pf ?_;refine mq ?_;iterate 2 refine gn ?_
        refine pf ?_;refine mq ?_;iterate 2 refine gn ?_
        refine pf ?_;refine mq ?_;iterate 2 refine gn ?_
        refine pf ?_;refine mq ?_;iterate 3 refine gn ?_
        refine pf ?_;refine mq ?_;iterate 5 refine gn ?_
        refine pf ?_;refine mq ?_;iterate 5 refine gn ?_
        refine pf ?_;refine mq ?_;iterate 3 refine gn ?_
        refine pf ?_;refine aq (nl ?_);exact jz ((),false) h [0]
      ·replace h:=bQ (m4 hb) h;iterate 2 refine gn ?_
       refine pf ?_;refine mq ?_;iterate 2 refine gn ?_
       refine pf ?_;refine mq ?_;iterate 2 refine gn ?_
       refine pf ?_;refine mq ?_;iterate 2 refine gn ?_
       refine pf ?_;refine mq ?_;iterate 2 refine gn ?_
       refine pf ?_;refine mq ?_;iterate 2 refine gn ?_
       refine pf ?_;refine mq ?_;iterate 2 refine gn ?_
       refine pf ?_;refine mq ?_;iterate 2 refine gn ?_
       refine pf ?_;refine mq ?_;iterate 3 refine gn ?_
       refine pf ?_;refine mq ?_;iterate 5 refine gn ?_
       refine pf ?_;refine mq ?_;iterate 5 refine gn ?_
       refine pf ?_;refine mq ?_;iterate 3 refine gn ?_
       refine pf ?_;refine aq (nl ?_);exact jz ((),false) h [0]
     ·replace h:=bQ (m4 hb) h;iterate 2 refine gn ?_
      refine pf ?_;refine mq ?_;iterate 2 refine gn ?_
      refine pf ?_;refine mq ?_;iterate 2 refine gn ?_
      refine pf ?_;refine mq ?_;iterate 2 refine gn ?_
      refine pf ?_;refine mq ?_;iterate 2 refine gn ?_
      refine pf ?_;refine mq ?_;iterate 2 refine gn ?_
      refine pf ?_;refine mq ?_;iterate 2 refine gn ?_
      refine pf ?_;refine mq ?_;iterate 2 refine gn ?_
      refine pf ?_;refine mq ?_;iterate 2 refine gn ?_
      refine pf ?_;refine mq ?_;iterate 3 refine gn ?_
      refine pf ?_;refine mq ?_;iterate 5 refine gn ?_
      refine pf ?_;refine mq ?_;iterate 5 refine gn ?_
      refine pf ?_;refine mq ?_;iterate 3 refine gn ?_
      refine pf ?_;refine aq (nl ?_);exact jz ((),false) h [0]
    ·replace h:=bQ (m4 hb) h;iterate 2 refine gn ?_
     refine pf ?_;refine mq ?_;iterate 2 refine gn ?_
     refine pf ?_;refine mq ?_;iterate 2 refine gn ?_
     refine pf ?_;refine mq ?_;iterate 2 refine gn ?_
     refine pf ?_;refine mq ?_;iterate 2 refine gn ?_
     refine pf ?_;refine mq ?_;iterate 2 refine gn ?_
     refine pf ?_;refine mq ?_;iterate 2 refine gn ?_
     refine pf ?_;refine mq ?_;iterate 2 refine gn ?_
     refine pf ?_;refine mq ?_;iterate 2 refine gn ?_
     refine pf ?_;refine mq ?_;iterate 2 refine gn ?_
     refine pf ?_;refine mq ?_;iterate 3 refine gn ?_
     refine pf ?_;refine mq ?_;iterate 5 refine gn ?_
     refine pf ?_;refine mq ?_;iterate 5 refine gn ?_
     refine pf ?_;refine mq ?_;iterate 3 refine gn ?_
     refine pf ?_;refine aq (nl ?_);exact jz ((),false) h [0]
   ·replace h:=bQ (m4 hb) h;iterate 2 refine gn ?_
    refine pf ?_;refine mq ?_;iterate 2 refine gn ?_
    refine pf ?_;refine mq ?_;iterate 2 refine gn ?_
    refine pf ?_;refine mq ?_;iterate 2 refine gn ?_
    refine pf ?_;refine mq ?_;iterate 2 refine gn ?_
    refine pf ?_;refine mq ?_;iterate 2 refine gn ?_
    refine pf ?_;refine mq ?_;iterate 2 refine gn ?_
    refine pf ?_;refine mq ?_;iterate 2 refine gn ?_
    refine pf ?_;refine mq ?_;iterate 2 refine gn ?_
    refine pf ?_;refine mq ?_;iterate 2 refine gn ?_
    refine pf ?_;refine mq ?_;iterate 2 refine gn ?_
    refine pf ?_;refine mq ?_;iterate 3 refine gn ?_
    refine pf ?_;refine mq ?_;iterate 5 refine gn ?_
    refine pf ?_;refine mq ?_;iterate 5 refine gn ?_
    refine pf ?_;refine mq ?_;iterate 3 refine gn ?_
    refine pf ?_;refine aq (nl ?_);exact jz ((),false) h [0]
  ·replace h:=bQ (m4 hb) h;iterate 2 refine gn ?_
   refine pf ?_;refine mq ?_;iterate 2 refine gn ?_
   refine pf ?_;refine mq ?_;iterate 2 refine gn ?_
   refine pf ?_;refine mq ?_;iterate 2 refine gn ?_
   refine pf ?_;refine mq ?_;iterate 2 refine gn ?_
   refine pf ?_;refine mq ?_;iterate 2 refine gn ?_
   refine pf ?_;refine mq ?_;iterate 2 refine gn ?_
   refine pf ?_;refine mq ?_;iterate 2 refine gn ?_
   refine pf ?_;refine mq ?_;iterate 2 refine gn ?_
   refine pf ?_;refine mq ?_;iterate 2 refine gn ?_
   refine pf ?_;refine mq ?_;iterate 2 refine gn ?_
   refine pf ?_;refine mq ?_;iterate 2 refine gn ?_
   refine pf ?_;refine mq ?_;iterate 3 refine gn ?_
   refine pf ?_;refine mq ?_;iterate 5 refine gn ?_
   refine pf ?_;refine mq ?_;iterate 5 refine gn ?_
   refine pf ?_;refine mq ?_;iterate 3 refine gn ?_
   refine pf ?_;refine aq (nl ?_);exact jz ((),false) h [0]
 ·
  refine aA ?_;cases h;exact aG () [_] 1 ⟨rfl,trivial⟩ rfl
def me(k:Nat)(a0:bm)(a1:(List (List Int)))(a2:Int):Option ((List (List Int))×Int):=
 (bK k a0 a1).bind fun r2=>
 if¬(r2=0) then(some ([],r2)) else((dw k a2 0 a0.1).bind fun r3=>
 if¬(r3=true) then(some ([],3)) else((dn k a1).bind fun r5=>
 (fN k (a0,()) r5 a2).bind fun r6=>
 (dH k (a0,()) r6).bind fun r7=>
 some (r7,0)))
theorem vY(k:Nat)(a0:bm)(a1:(List (List Int)))(a2:Int)(r:(List (List Int))×Int)(h:me k a0 a1 a2=some r):
 bX Tryz.prog 52 [.rep bb a0,.rep (.slice (.slice (.int .i64))) a1,I a2] [.inv 0 (ir)] (fun _:Unit=>(bq [.rep (.slice (.slice (.int .i64))) r.1,I r.2],[.inv 0 (ir)])):=by
 unfold me at h
 replace h:=a9 h
 refine bX.of 30 Tryz.func52 rfl Tryz.ntmps52 rfl fun S w0=>?_
 refine sr ?_
 refine bx fun b1=>?_
 refine cq ?_
 refine cq ?_
 refine nt ?_
 refine ah ?_
 refine sr ?_
 refine lo ii ?_
 refine mq ?_
 obtain⟨r2,n,h⟩:=aa h
 have s:=dj k a0 a1 r2 n
 refine fr 1 ?_
 refine kb (ao [.tmp 10,.tmp 11] rfl rfl Gj rfl s) ?_
 refine aq ?_
 refine nt ?_
 refine sr ?_
 refine mq ?_
 refine jb (jf rfl) ?_
 refine nt ?_
 refine cn h (fun h=>?_) (fun h=>?_)
 ·
  refine sr (mq ?_);refine cq ?_;refine aq (nt (rx ?_));refine bI (lj (t:=(.slice (.slice (.int .i64)))) (x:=[]) 6 rfl .nil rfl rfl) ?_;cases h;exact aG () [_,_] 1 ⟨rfl,rfl,trivial⟩ rfl
 ·
  refine sk (ah (sr (mq ?_)));refine fl lg ?_;refine fr 1 ?_;refine lo cR ?_;obtain⟨r3,l,h⟩:=aa h;refine jc (ao [.tmp 16,.const (.int .i64 (0)),.tmp 18] rfl rfl wP rfl (dB k a2 0 a0.1 r3 l)) ?_;refine ja (eR rfl) ?_;refine nt (cw h (fun h=>?_) (fun h=>?_))
  ·refine sr (cq ?_);refine cq (nt (rx ?_));refine bI (lj (t:=(.slice (.slice (.int .i64)))) (x:=[]) 6 rfl .nil rfl rfl) ?_;refine bI (SE.fin (Γ':=[(6,_),(7,_)]) [1,0] ⟨rfl,rfl,trivial⟩ rfl) ?_;cases h;exact aG () [_,_] 1 ⟨rfl,rfl,trivial⟩ rfl
  ·refine sk (sr (lo ii ?_));refine aF rfl rfl rfl (ao [.tmp 21] rfl rfl Gi rfl (fO a0)) ⟨rfl,trivial⟩ fun z4=>?_;refine cS (jC (bB k a0) kE) ?_;refine aq (nt (sr ?_));iterate 3 refine mq ?_
   obtain⟨r5,j,h⟩:=aa h;refine ja (ao [.tmp 25] rfl rfl Av rfl (dJ k a1 r5 j)) ?_;refine mq ?_;obtain⟨r6,e,h⟩:=aa h;refine jc (cI (N:=[(.tmp 24,.at au (a0,(.map (some z4)))),(.tmp 26,.rep (.arr 3 (.arr 5 (.int .i64))) r5),(.tmp 27,I a2)]) (ao [.tmp 24,.tmp 26,.tmp 27] rfl rfl JJ rfl (lA k (a0,()) r5 a2 r6 e)) fun _ _ _ hn=>⟨(oe hn.1),hn.2.1,hn.2.2.1,trivial⟩) ?_;obtain⟨r7,c,h⟩:=aa h;refine aF rfl rfl rfl (cI (N:=[(.tmp 23,.at au (a0,(.map (some z4)))),(.tmp 28,.rep (.arr 3 (.arr 5 (.int .i64))) r6)]) (ao [.tmp 23,.tmp 28] rfl rfl IC rfl (gP k (a0,()) r6 r7 c)) fun _ _ _ hn=>⟨(oe hn.1),hn.2.1,trivial⟩) ⟨rfl,rfl,trivial⟩ fun v8=>?_;refine aq ?_;refine cq (nt (aA ?_));refine bI (gI [6,29] ⟨rfl,rfl,trivial⟩) ?_;refine bI (SE.fin (Γ':=[(6,_),(7,_)]) [2,0,1] ⟨rfl,rfl,trivial⟩ rfl) ?_;cases h;exact aG () [_,_] 1 ⟨rfl,rfl,trivial⟩ rfl
def de(k:Nat):Nat→((List ic)×Int)→Option (List ic)
 |0,_=>none
 |n+1,c=>
  if c.2 < (c.1.length:Int) then((a8 c.1 0).bind fun j=>
  (ji k j.2).bind fun l=>
  (a8 c.1 c.2).bind fun h=>
  (ck (c.2+1)).bind fun e=>
  de k n (List.set c.1 (Int.toNat c.2) (h.1,l),e)) else(some c.1)
def jh(k:Nat)(a0:(List Int)):Option Bool:=
 (lJ k a0).bind fun r1=>
 (oM k (r1.1,r1.2.1,r1.2.2) 5).bind fun r3=>
 if¬(r3.2.2.1=true) then((((bK k (r3.1.1,r3.1.2.1,r3.1.2.2) r3.2.1).bind fun r8=>
 if¬(r8=0) then((jw k).bind fun r9=>
 some r9) else(some false)):Option (Bool)).bind fun x6=>
 some x6) else(((de k k (r3.1.2.1,1)):Option ((List ic))).bind fun c=>
 (jq k (r3.1.1,c,r3.1.2.2) r3.2.1).bind fun h=>
 (me k (r3.1.1,c,r3.1.2.2) r3.2.1 r3.1.1).bind fun e=>
 ((if h.2=0 then(if e.2=0 then(if h.1=0 then((eE k r3.2.1 e.1).bind fun n=>
 if n=true then((jw k).bind fun l=>
 some l) else(some false)) else(some false)) else(some false)) else(some false)):Option (Bool)).bind fun j=>
 some j)
theorem qI(k:Nat)(a0:(List Int))(r:Bool)(h:jh k a0=some r):
 dk (iy Tryz.prog) 11 [Ri a0] [.inv 0 (ir)] (fun _:Unit=>(bq [.eq (.bool r)],[.inv 0 (ir)])):=by
 unfold jh at h
 replace h:=a9 h
 refine dk.of 77 Tryz.func11 rfl Tryz.ntmps11 rfl fun S w0=>?_
 refine sr ?_
 refine cq ?_
 refine nt ?_
 refine sr ?_
 refine mq ?_
 obtain⟨r1,QW,h⟩:=aa h
 have QY:=t4 k a0 r1 QW
 refine aF rfl rfl rfl (ao [.tmp 12] rfl rfl Qj rfl QY) ⟨rfl,trivial⟩ fun b2=>?_
 obtain⟨r3,QV,h⟩:=aa h
 have QX:=wC k (r1.1,r1.2.1,r1.2.2) b2 5 r3 QV
 refine bC (Δ:=[_]) (F:=_) (fun _ _ _=>av rfl _) rfl rfl (ao [.tmp 13,.const (.int .i64 (5))] rfl rfl Qd rfl QX) ⟨rfl,rfl,trivial⟩ fun z4=>?_
 refine mq ?_
 refine xr ?_
 refine xr ?_
 refine xr ?_
 refine aF rfl rfl rfl (bL rfl xo Dj) trivial fun b5=>?_
 refine bg rfl rfl (ba rfl ii trivial rfl rfl) ⟨rfl,rfl,trivial⟩ ?_
 refine aq ?_
 refine aq ?_
 refine nt ?_
 refine ah ?_
 refine sr ?_
 refine mq ?_
 refine ja (eR rfl) ?_
 refine nt ?_
 refine cw h (fun h=>?_) (fun h=>?_)
 ·
  refine aW (Z:=Unit) (α:=Bool) (fun z7 x6=>[(2,.eq (.bool x6))]) (fun z7 x6=>[.inv 0 (ir)]) h (fun K h=>?_) (fun z7 x6 h=>?_)
  ·refine ab (fr 1 ?_);refine cS (m6 (off:=1) [] trivial rfl rfl) ?_;refine lo ii ?_;refine mq ?_;obtain⟨r8,QU,h⟩:=aa h;refine fr 2 ?_;refine kb (cI (N:=[(.tmp 20,.agg (.pair (I r3.1.1) (.pair (Rs aY r3.1.2.1) (Ri r3.1.2.2)))),(.tmp 21,.rep (.slice (.slice (.int .i64))) r3.2.1)]) (ao [.tmp 20,.tmp 21] rfl rfl Gj rfl (dj k (r3.1.1,r3.1.2.1,r3.1.2.2) r3.2.1 r8 QU)) fun _ _ _ hn=>⟨(fX (t:=bb) (x:=(r3.1.1,r3.1.2.1,r3.1.2.2)) (.agg (.pair .int (.pair .rep .rep))) trivial rfl hn.1),hn.2.1,trivial⟩) ?_;refine jb (jf rfl) ?_;refine mq ?_;refine bZ (s:=24) rfl (fun hb=>?_) (fun hb=>?_)
   ·replace h:=cM (MX hb) h;obtain⟨r9,QT,h⟩:=aa h;refine lW rfl rfl rfl rfl rfl rfl (fL [] rfl rfl N4 rfl (po k r9 QT)) trivial ?_;refine pt ?_;refine aq (nl ?_);exact jz ((),r9) h [0]
   ·replace h:=bQ (Fb hb) h;refine gn ?_;refine pf ?_;refine aq (nl ?_);exact jz ((),false) h [0]
  ·refine rx ?_;cases h;exact aG () [_] 1 ⟨rfl,trivial⟩ rfl
 ·
  refine sk (aW (Z:=Unit) (α:=(List ic)) (fun E c=>[(3,Pt b5),(4,.rep (.slice (.slice (.int .i64))) r3.2.1)]) (fun E c=>[.obj b5 25 (.agg (.pair (I r3.1.1) (.pair (.eq z4) (Ri r3.1.2.2)))),.sl z4 27 aY c,.inv 0 (ir)]) h (fun K h=>?_) (fun E c h=>?_))
  ·refine sr (cq (nt (aj ?_)));refine aJ (fun D e=>[(3,Pt b5),(4,.rep (.slice (.slice (.int .i64))) r3.2.1),(6,I e.2)]) (fun D e=>[.obj b5 25 (.agg (.pair (I r3.1.1) (.pair (.eq z4) (Ri r3.1.2.2)))),.sl z4 27 aY e.1,.inv 0 (ir)]) (de k) k () (r3.1.2.1,1) (fun _=>rfl) h (SE.fin [0,1,3] ⟨rfl,rfl,rfl,trivial⟩ rfl) (fun n D e h=>?_);unfold de at h;refine ah (sr (mq ?_));refine fl dW ?_;refine lo jY ?_;refine fr 1 ?_;refine ka (cO rfl rfl sb) ?_;refine jb (bH rfl) ?_;refine nt (ci h (fun h=>?_) (fun h=>?_))
   ·refine sk (ah (aj (cr ?_)));refine da (aw rfl dW) ?_;refine ea 1 (ak rfl jY my rfl) ?_;refine dm ?_;refine da (aw rfl dW) ?_;refine ea 1 (ak rfl jY my rfl) ?_;obtain⟨se,l,h⟩:=aa h;refine eb 0 (be (t:=aY) rfl sb mf l) ?_;refine ea 0 (mU rfl nY (sW l)) ?_;refine ea 0 (eJ (i:=Int.toNat 0) (off:=1) rfl cG (fun _=>rfl) rfl (cg l).2.2 rfl) ?_;obtain⟨O,mc,h⟩:=aa h;refine da (I5 (ao [.tmp 41] rfl rfl Qa rfl (sL k se.2 O mc))) ?_;refine df eZ ?_;obtain⟨qt,j,h⟩:=aa h;refine kb (be (t:=aY) rfl sb mf j) ?_;refine ka (mU rfl nY (sW j)) ?_;refine bg rfl rfl (tM (i:=Int.toNat e.2) (off:=1) rfl cG rfl (cg j).2.2 .rep rfl (.agg (.right .whole rfl))) ⟨rfl,rfl,trivial⟩ ?_;refine ap (aI (tn (ab (mq ?_))));obtain⟨pp,Q,h⟩:=aa h;refine jb (bj rfl Q) ?_;refine aq (nl ?_);exact jz ((),(List.set e.1 (Int.toNat e.2) (qt.1,O),pp)) h [1,0,2]
   ·refine xa ?_;exact jz ((),e.1) h [1,0,2]
  ·refine sr (fr 1 ?_);refine cS (m6 (off:=1) [] trivial rfl rfl) ?_;refine lo ii ?_;refine mq ?_;obtain⟨QR,ac,h⟩:=aa h;refine fr 1 ?_;refine kb (cI (N:=[(.tmp 46,.agg (.pair (I r3.1.1) (.pair (Rs aY c) (Ri r3.1.2.2)))),(.tmp 47,.rep (.slice (.slice (.int .i64))) r3.2.1)]) (fL [.tmp 46,.tmp 47] rfl rfl NZ rfl (mL k (r3.1.1,c,r3.1.2.2) r3.2.1 QR ac)) fun _ _ _ hn=>⟨(fX (t:=bb) (x:=(r3.1.1,c,r3.1.2.2)) (.agg (.pair .int (.pair .rep .rep))) trivial rfl hn.1),hn.2.1,trivial⟩) ?_;refine mq ?_;refine xr ?_;refine xr ?_;refine aq ?_;refine aq (nt (sr ?_));refine fr 1 ?_;refine lo ii ?_;refine mq ?_;refine fl lg ?_;refine lo cR ?_;obtain⟨M,Y,h⟩:=aa h;refine fr 1 ?_;refine kc (cI (N:=[(.tmp 52,.agg (.pair (I r3.1.1) (.pair (Rs aY c) (Ri r3.1.2.2)))),(.tmp 53,.rep (.slice (.slice (.int .i64))) r3.2.1),(.tmp 55,I r3.1.1)]) (ao [.tmp 52,.tmp 53,.tmp 55] rfl rfl Qb rfl (vY k (r3.1.1,c,r3.1.2.2) r3.2.1 r3.1.1 M Y)) fun _ _ _ hn=>⟨(fX (t:=bb) (x:=(r3.1.1,c,r3.1.2.2)) (.agg (.pair .int (.pair .rep .rep))) trivial rfl hn.1),hn.2.1,hn.2.2.1,trivial⟩) ?_;refine mq ?_;refine xr ?_;refine xr ?_;refine aq ?_;refine aq (nt ?_);refine aW (Z:=Unit) (α:=Bool) (fun y u=>[(2,.eq (.bool u))]) (fun y u=>[.inv 0 (ir)]) h (fun K h=>?_) (fun y u h=>?_)
   ·refine ab (mq ?_);refine jb (eS rfl) ?_;refine mq ?_;refine bZ (s:=61) rfl (fun hb=>?_) (fun hb=>?_)
    ·replace h:=cM (nq hb) h;refine gm ?_;refine gb (eS rfl) ?_;refine pt ?_;refine mq ?_;refine bZ (s:=65) rfl (fun hb=>?_) (fun hb=>?_)
     ·replace h:=cM (nq hb) h;refine gm ?_;refine gb (eS rfl) ?_;refine pt ?_;refine mq ?_;refine bZ (s:=69) rfl (fun hb=>?_) (fun hb=>?_)
      ·replace h:=cM (nq hb) h;refine gm ?_;refine gm ?_;obtain⟨QQ,X,h⟩:=aa h;refine gb (ao [.tmp 70,.tmp 71] rfl rfl La rfl (jx k r3.2.1 M.1 QQ X)) ?_;refine pt ?_;refine mq ?_;refine bZ (s:=74) rfl (fun hb=>?_) (fun hb=>?_)
       ·replace h:=cM (DC hb) h;obtain⟨J,U,h⟩:=aa h;refine lW rfl rfl rfl rfl rfl rfl (fL [] rfl rfl N4 rfl (po k J U)) trivial ?_;refine pt ?_;refine aq (nl ?_);exact jz ((),J) h [0]
       ·replace h:=bQ (DD hb) h;refine gn ?_;refine pf ?_;refine aq (nl ?_);exact jz ((),false) h [0]
      ·replace h:=bQ (m4 hb) h;iterate 3 refine gn ?_
       refine pf ?_;refine mq ?_;refine gn ?_;refine pf ?_;refine aq (nl ?_);exact jz ((),false) h [0]
     ·replace h:=bQ (m4 hb) h;iterate 2 refine gn ?_
      refine pf ?_;refine mq ?_;iterate 3 refine gn ?_
      refine pf ?_;refine mq ?_;refine gn ?_;refine pf ?_;refine aq (nl ?_);exact jz ((),false) h [0]
    ·replace h:=bQ (m4 hb) h;iterate 2 refine gn ?_
     refine pf ?_;refine mq ?_;iterate 2 refine gn ?_
     refine pf ?_;refine mq ?_;iterate 3 refine gn ?_
     refine pf ?_;refine mq ?_;refine gn ?_;refine pf ?_;refine aq (nl ?_);exact jz ((),false) h [0]
   ·refine aA ?_;cases h;exact aG () [_] 1 ⟨rfl,trivial⟩ rfl
end Go.Proofs.YtcnpijmfgfnpiaaGreatDoor
