import Derived.Test.YtddneonghpmidaaGreatDoorSBB11
import Derived.Test.YtddneonghpmidaaGreatDoorSBB9
import Derived.Test.YtddneonghpmidaaGreatDoorSBB10
set_option linter.unusedSimpArgs false
set_option linter.unusedVariables false
set_option maxRecDepth 4000
set_option maxHeartbeats 1000000
namespace Go.Proofs.YtddneonghpmidaaGreatDoor
open K Go Go.Proofs
def cY(k:Nat)(a0:aQ)(a1:(List (List Int))):Option Int:=
 (kz k a0).bind fun r2=>
 if¬(r2=0) then(some r2) else((lU k a0 a1).bind fun r4=>
 (SY r4).bind fun q5=>
 if q5.isSome=true then(some (q5.getD 0)) else(some 0))
theorem gw(k:Nat)(a0:aQ)(a1:(List (List Int)))(r:Int)(h:cY k a0 a1=some r):
 bZ Tryz.prog 38 [.rep an a0,.rep (.slice (.slice (.int .i64))) a1] [.inv 0 (f8)] (fun _:Unit=>(bp [I r],[.inv 0 (f8)])):=by
 unfold cY at h
 replace h:=ba h
 refine bZ.of 19 Tryz.func38 rfl Tryz.ntmps38 rfl fun S w0=>?_
 refine sr ?_
 refine bx fun b1=>?_
 refine au ?_
 refine lo du ?_
 obtain⟨r2,e,h⟩:=aa h
 have l:=ow k a0 r2 e
 refine ja (ao [.tmp 7] rfl rfl O6 rfl l) ?_
 refine au ?_
 refine jb (iZ rfl) ?_
 refine nt ?_
 refine cn h (fun h=>?_) (fun h=>?_)
 ·
  refine sr (mq ?_);refine aq (nt (rx ?_));refine bi (SE.fin (Γ':=[(4,_)]) [1,0] ⟨rfl,trivial⟩ rfl) ?_;cases h;exact aL () [_] 1 ⟨rfl,trivial⟩ rfl
 ·
  refine au ?_;refine aD rfl rfl rfl (aY rfl vy Su) trivial fun b3=>?_;refine nt (ar (sr (fr 1 ?_)));refine lo du ?_;refine mq ?_;obtain⟨r4,c,h⟩:=aa h;refine jb (ao [.tmp 12,.tmp 13] rfl rfl Uo rfl (sw k a0 a1 r4 c)) ?_;refine ja (H8 rfl UZ) ?_;obtain⟨q5,j,h⟩:=aa h;refine fr 2 ?_;refine fr 2 ?_;refine bO (Δ:=[_,_]) (F:=_) (fun _ _ _=>aA rfl _) rfl rfl (ao [.tmp 14,.tmp 15] rfl rfl Rx rfl (R9 j)) ⟨rfl,rfl,trivial⟩ fun _=>?_;refine nt (cv h (fun h=>?_) (fun h=>?_))
  ·refine sr (fl LX ?_);refine lo To ?_;refine aq (nt (rx ?_));refine bi (SE.fin (Γ':=[(4,_)]) [1,0,2] ⟨rfl,trivial⟩ rfl) ?_;cases h;exact aL () [_] 1 ⟨rfl,trivial⟩ rfl
  ·refine sk (sr (cq (nt (bJ ?_))));refine bi (SE.fin (Γ':=[(4,_)]) [1,0,2] ⟨rfl,trivial⟩ rfl) ?_;cases h;exact aL () [_] 1 ⟨rfl,trivial⟩ rfl
def ov(k:Nat)(a0:aQ)(r7:Int×(List (List Int))):Nat→((List Int)×Int)→Option (List Int)
 |0,_=>none
 |n+1,c=>
  if c.2 < (a0.2.1.length:Int) then((((d6 k r7.1 c.2).bind fun j=>
  if j=true then((cP (bq (List.length c.1+List.length [c.2]))).bind fun _=>
  some (c.1++[c.2])) else(some c.1)):Option ((List Int))).bind fun h=>
  (ck (c.2+1)).bind fun e=>
  ov k a0 r7 n (h,e)) else(some c.1)
def yE(k:Nat)(a0:aQ)(a1:(List (List Int)))(a2:Int):Option ((List Int)×(List (List Int))×Int):=
 (cY k a0 a1).bind fun r2=>
 if¬(r2=0) then(some ([],[],r2)) else((ck (a0.1 - 1)).bind fun x3=>
 (eK k a2 0 x3).bind fun r4=>
 if¬(r4=true) then(some ([],[],3)) else((dN k a1).bind fun r6=>
 (lL k (a0,()) r6 a2).bind fun r7=>
 ((ov k a0 r7 k (([]:(List Int)),0)):Option ((List Int))).bind fun x9=>
 (dF k (a0,()) r7.2).bind fun c=>
 some (x9,c,0)))
theorem CM(k:Nat)(a0:aQ)(a1:(List (List Int)))(a2:Int)(r:(List Int)×(List (List Int))×Int)(h:yE k a0 a1 a2=some r):
 bZ Tryz.prog 14 [.rep an a0,.rep (.slice (.slice (.int .i64))) a1,I a2] [.inv 0 (f8)] (fun _:Unit=>(bp [Ri r.1,.rep (.slice (.slice (.int .i64))) r.2.1,I r.2.2],[.inv 0 (f8)])):=by
 unfold yE at h
 replace h:=ba h
 refine bZ.of 55 Tryz.func14 rfl Tryz.ntmps14 rfl fun S w0=>?_
 refine sr ?_
 refine bx fun b1=>?_
 refine au ?_
 refine lo du ?_
 refine mq ?_
 obtain⟨r2,ac,h⟩:=aa h
 have mc:=gw k a0 a1 r2 ac
 refine fr 1 ?_
 refine kb (ao [.tmp 15,.tmp 16] rfl rfl O4 rfl mc) ?_
 refine au ?_
 refine jb (iZ rfl) ?_
 refine nt ?_
 refine cn h (fun h=>?_) (fun h=>?_)
 ·
  refine sr (mq ?_);refine cq ?_;refine cq ?_;refine aq (nt (rx ?_));refine bi (jf (t:=(.slice (.int .i64))) (x:=[]) 6 rfl .nil rfl rfl) ?_;refine bi (jf (t:=(.slice (.slice (.int .i64)))) (x:=[]) 7 rfl .nil rfl rfl) ?_;cases h;exact aL () [_,_,_] 1 ⟨rfl,rfl,rfl,trivial⟩ rfl
 ·
  refine au ?_;refine fl gR ?_;refine fr 1 ?_;refine lo cC ?_;obtain⟨x3,Q,h⟩:=aa h;refine jb (eY rfl Q) ?_;obtain⟨r4,Y,h⟩:=aa h;refine jc (ao [.tmp 21,.const (.int .i64 (0)),.tmp 24] rfl rfl Bq rfl (eW k a2 0 x3 r4 Y)) ?_;refine ja (eF rfl) ?_;refine nt (cw h (fun h=>?_) (fun h=>?_))
  ·refine sr (cq ?_);refine cq ?_;refine cq (nt (rx ?_));refine bi (jf (t:=(.slice (.int .i64))) (x:=[]) 6 rfl .nil rfl rfl) ?_;refine bi (jf (t:=(.slice (.slice (.int .i64)))) (x:=[]) 7 rfl .nil rfl rfl) ?_;refine bi (SE.fin (Γ':=[(6,_),(7,_),(8,_)]) [1,0] ⟨rfl,rfl,rfl,trivial⟩ rfl) ?_;cases h;exact aL () [_,_,_] 1 ⟨rfl,rfl,rfl,trivial⟩ rfl
  ·refine au ?_;refine lo du ?_;refine aD rfl rfl rfl (ao [.tmp 27] rfl rfl Js rfl (gB a0)) ⟨rfl,trivial⟩ fun z5=>?_;refine co (kR (bu k a0) l5) ?_;refine au ?_;obtain⟨r6,X,h⟩:=aa h;refine ja (ao [.tmp 31] rfl rfl D3 rfl (eh k a1 r6 X)) ?_;refine mq ?_;obtain⟨r7,U,h⟩:=aa h;refine jc (cO (N:=[(.tmp 30,.at aw (a0,(.map (some z5)))),(.tmp 32,.rep (.arr 3 (.arr 5 (.int .i64))) r6),(.tmp 33,I a2)]) (ao [.tmp 30,.tmp 32,.tmp 33] rfl rfl RF rfl (o6 k (a0,()) r6 a2 r7 U)) fun _ _ _ hn=>⟨(qk hn.1),hn.2.1,hn.2.2.1,trivial⟩) ?_;refine au ?_;refine aD rfl rfl rfl (aY rfl rF sd) trivial fun b8=>?_;refine aq ?_;refine a8 rfl rfl (aX rfl ft rfl rfl rfl) ⟨rfl,rfl,trivial⟩ ?_;refine nt (sr (cq (nt ?_)));refine aJ (Z:=Value) (α:=(List Int)) (fun l x9=>[(10,.at aw (a0,(.map (some z5)))),(12,Pt b8),(13,.eq l)]) (fun l x9=>[.obj b8 70 (.rep (.arr 3 (.arr 5 (.int .i64))) r7.2),.sl l 3 (.int .i64) x9,.inv 0 (f8),.inv z5 (bu k a0)]) h (fun K h=>?_) (fun l x9 h=>?_)
   ·refine sr (fl cg ?_);refine fr 2 ?_;refine lo fR ?_;refine ol nD ?_;refine eI rfl ?_;refine nt (aj (dE (SE.nil 3 (.int .i64)) ?_));refine aH (fun e c=>[(10,.at aw (a0,(.map (some z5)))),(11,.eq (.int .u8 r7.1)),(12,Pt b8),(13,.eq e),(39,I (a0.2.1.length:Int)),(40,I c.2)]) (fun e c=>[.obj b8 70 (.rep (.arr 3 (.arr 5 (.int .i64))) r7.2),.sl e 3 (.int .i64) c.1,.inv 0 (f8),.inv z5 (bu k a0)]) (ov k a0 r7) k (.slice none 0 0) (([]:(List Int)),0) (fun _=>rfl) h (SE.fin [2,0,4,3] ⟨rfl,rfl,rfl,rfl,rfl,rfl,trivial⟩ rfl) (fun n e c h=>?_);unfold ov at h;refine sr (jb (bj rfl) ?_);refine au ?_;refine ci h (fun h=>?_) (fun h=>?_)
    ·refine sk (aJ (Z:=Value) (α:=(List Int)) (fun j s=>[(10,.at aw (a0,(.map (some z5)))),(11,.eq (.int .u8 r7.1)),(12,Pt b8),(13,.eq j),(39,I (a0.2.1.length:Int)),(40,I c.2)]) (fun j s=>[.obj b8 70 (.rep (.arr 3 (.arr 5 (.int .i64))) r7.2),.sl j 3 (.int .i64) s,.inv 0 (f8),.inv z5 (bu k a0)]) h (fun K h=>?_) (fun j s h=>?_))
     ·refine aj (au ?_);obtain⟨O,E,h⟩:=aa h;refine jb (ao [.tmp 43,.tmp 44] rfl rfl Me rfl (iL k r7.1 c.2 O E)) ?_;refine nt (cv h (fun h=>?_) (fun h=>?_))
      ·refine ab (au ?_);refine ja (bh (t:=(.int .i64)) [(.tmp 47,_)] [c.2] rfl rfl de (.cons rfl .int .nil) rfl rfl) ?_;obtain⟨u16,y,h⟩:=aa h;refine fr 1 ?_;refine cp rfl rfl rfl (be rfl rfl de (ay y)) ⟨rfl,rfl,trivial⟩ fun J=>?_;refine au ?_;exact jz (J,c.1++[c.2]) h [1,0,2,3]
      ·refine au ?_;exact jz (e,c.1) h [0,1,2,3]
     ·refine ab ?_;obtain⟨F,u,h⟩:=aa h;refine jb (a9 rfl u) ?_;refine au ?_;exact jz (j,(s,F)) h [0,1,2,3]
    ·refine au ?_;exact jz (e,c.1) h [0,1,2,3]
   ·refine au ?_;refine lo ft ?_;obtain⟨M,D,h⟩:=aa h;refine aD rfl rfl rfl (cO (N:=[(.tmp 52,.at aw (a0,(.map (some z5)))),(.tmp 53,.rep (.arr 3 (.arr 5 (.int .i64))) r7.2)]) (ao [.tmp 52,.tmp 53] rfl rfl MA rfl (iy k (a0,()) r7.2 M D)) fun _ _ _ hn=>⟨(qk hn.1),hn.2.1,trivial⟩) ⟨rfl,rfl,trivial⟩ fun pp=>?_;refine aq ?_;refine aq ?_;refine cq (nt (bJ ?_));refine aW 2 rfl ?_;refine bi (dh [6,13,51] ⟨rfl,rfl,rfl,trivial⟩) ?_;refine bi (dh [7,54] ⟨rfl,rfl,trivial⟩) ?_;refine bi (SE.fin (Γ':=[(6,_),(7,_),(8,_)]) [1,0,2] ⟨rfl,rfl,rfl,trivial⟩ rfl) ?_;cases h;exact aL () [_,_,_] 1 ⟨rfl,rfl,rfl,trivial⟩ rfl
theorem iz(k:Nat)(a0:aQ)(z_a0:Nat)(a1:(List (List Int)))(r:Int)(h:bS k a0 a1=some r):
 dD (jg Tryz.prog) 32 [.at aw (a0,(.map (some z_a0))),.rep (.arr 3 (.arr 5 (.int .i64))) a1] [.inv z_a0 (bu k a0)] (fun _:Unit=>(bp [I r],[.inv z_a0 (bu k a0)])):=by
 have h0:=h
 unfold bS at h
 replace h:=ba h
 obtain⟨u1,eg,h⟩:=aa h
 have hg:=ay eg
 have gk:=IT hg
 refine dD.of 28 Tryz.func32 rfl Tryz.ntmps32 rfl fun S w0=>?_
 refine sr ?_
 refine bx fun b1=>?_
 refine cq ?_
 refine nt ?_
 refine ar ?_
 refine dT 1 rfl ?_
 refine Eb fun ob hob=>?_
 obtain⟨lnn,lbb,hlR,hlk⟩:=zd (z:=z_a0) SD NV Bc gk Gf hob
 refine bD ?_
 refine dm ?_
 refine da (dR rfl) ?_
 refine da (aI 1 false rfl EQ rfl) ?_
 refine da (ak (t:=.val) rfl NA rfl) ?_
 refine ea 1 (ah rfl ft (sT) rfl) ?_
 refine eb 0 (FX (kv:=lH a1) (xT _) (mK.calm hob) rfl (fun _ _ _ hh=>wv hh) hlk) ?_
 refine dm ?_
 refine da (fH rfl rfl) ?_
 refine da (fH rfl rfl) ?_
 refine da (jB rfl) ?_
 refine df cG ?_
 refine au ?_
 refine ja (eF rfl) ?_
 refine nt ?_
 refine dE (kR (bu k a0) hob) ?_
 refine bK rfl (fun hb=>?_) (fun hb=>?_)
 ·
  refine sr (mq ?_);refine fr 1 ?_;refine lo ft ?_;obtain⟨r2,c,h⟩:=aa h;refine jc (cO (N:=[(.tmp 18,.at aw (a0,(.map (some z_a0)))),(.tmp 19,.rep (.arr 3 (.arr 5 (.int .i64))) a1),(.const (.int .i64 (0)),I 0)]) (fX [.tmp 18,.tmp 19,.const (.int .i64 (0))] rfl rfl RE rfl (mU k (a0,()) a1 0 r2 c)) fun _ _ _ hn=>⟨(qk hn.1),hn.2.1,hn.2.2.1,trivial⟩) ?_;refine au ?_;refine bD ?_;refine dm ?_;refine da (dR rfl) ?_;refine da (aI 1 false rfl EQ rfl) ?_;refine da (ak (t:=.val) rfl NA rfl) ?_;refine ea 0 (ah rfl ft (sT) rfl) ?_;refine dm ?_;refine df cG ?_;refine fr 1 ?_;have hl:bS k a0 a1=some r2:=h0.trans (show some r=some r2 from h.symm);refine a8 rfl rfl (AH (kv:=lH a1) (xT _) rfl SD Bc (fun _ _ _ hh=>wv hh) gk ⟨a1,hg,rfl,hl⟩) ⟨rfl,rfl,rfl,trivial⟩ ?_;refine au ?_;cases h;exact aL () [_] 1 ⟨rfl,trivial⟩ rfl
 ·
  obtain⟨p,hp,he,hl⟩:=hlR (by simpa using hb);obtain rfl:=xU hg hp he;replace h:some lnn=some r:=hl.symm.trans h0;refine au ?_;cases h;exact aL () [_] 1 ⟨rfl,trivial⟩ rfl
def qD(k:Nat)(a0:aQ)(a1:(List (List Int))):Option (Int×Int):=
 (cY k a0 a1).bind fun r2=>
 if¬(r2=0) then(some (0,r2)) else((dN k a1).bind fun r4=>
 (bS k a0 r4).bind fun r5=>
 some (r5,0))
theorem sD(k:Nat)(a0:aQ)(a1:(List (List Int)))(r:Int×Int)(h:qD k a0 a1=some r):
 dD (jg Tryz.prog) 17 [.rep an a0,.rep (.slice (.slice (.int .i64))) a1] [.inv 0 (f8)] (fun _:Unit=>(bp [I r.1,I r.2],[.inv 0 (f8)])):=by
 unfold qD at h
 replace h:=ba h
 refine dD.of 18 Tryz.func17 rfl Tryz.ntmps17 rfl fun S w0=>?_
 refine sr ?_
 refine bx fun b1=>?_
 refine au ?_
 refine lo du ?_
 refine mq ?_
 obtain⟨r2,j,h⟩:=aa h
 have l:=gw k a0 a1 r2 j
 refine fr 1 ?_
 refine kb (ao [.tmp 7,.tmp 8] rfl rfl O4 rfl l) ?_
 refine au ?_
 refine jb (iZ rfl) ?_
 refine nt ?_
 refine cn h (fun h=>?_) (fun h=>?_)
 ·
  refine au ?_;cases h;exact aL () [_,_] 1 ⟨rfl,rfl,trivial⟩ rfl
 ·
  refine sk (sr (fr 1 ?_));refine lo du ?_;refine aD rfl rfl rfl (ao [.tmp 13] rfl rfl Js rfl (gB a0)) ⟨rfl,trivial⟩ fun z3=>?_;refine co (kR (bu k a0) l5) ?_;refine mq ?_;obtain⟨r4,e,h⟩:=aa h;refine ja (ao [.tmp 15] rfl rfl D3 rfl (eh k a1 r4 e)) ?_;obtain⟨r5,c,h⟩:=aa h;refine kb (fX [.tmp 14,.tmp 16] rfl rfl O5 rfl (iz k a0 z3 r4 r5 c)) ?_;refine aq ?_;refine cq (nt (bJ ?_));refine bi (SE.fin (Γ':=[(4,_),(5,_)]) [2,0,1] ⟨rfl,rfl,trivial⟩ rfl) ?_;cases h;exact aL () [_,_] 1 ⟨rfl,rfl,trivial⟩ rfl
def iE(k:Nat)(a0:aQ)(a1:(List (List (List Int)))):Nat→((List (List Int))×Int×Bool×Int)→Option ((List (List Int))×Int×Bool)
 |0,_=>none
 |n+1,y5=>
  if y5.2.2.2 < (a1.length:Int) then((((aP a1 y5.2.2.2).bind fun x9=>
  (bS k a0 x9).bind fun c=>
  ((if¬(y5.2.2.1=true) then(some true) else(some (decide (c < y5.2.1)))):Option (Bool)).bind fun h=>
  if h=true then(some (x9,c,true)) else(some (y5.1,y5.2.1,y5.2.2.1))):Option ((List (List Int))×Int×Bool)).bind fun x7=>
  (ck (y5.2.2.2+1)).bind fun e=>
  iE k a0 a1 n (x7.1,x7.2.1,x7.2.2,e)) else(some (y5.1,y5.2.1,y5.2.2.1))
def mi(k:Nat)(a0:aQ)(a1:(List (List (List Int)))):Option ((List (List Int))×Int×Bool):=
 ((iE k a0 a1 k ([[0,0,0,0,0],[0,0,0,0,0],[0,0,0,0,0]],0,false,0)):Option ((List (List Int))×Int×Bool)).bind fun x3=>
 some (x3.1,x3.2.1,x3.2.2)
theorem sB(k:Nat)(a0:aQ)(z_a0:Nat)(a1:(List (List (List Int))))(r:(List (List Int))×Int×Bool)(h:mi k a0 a1=some r):
 dD (jg Tryz.prog) 42 [.fn 32 (vA [.at aw (a0,(.map (some z_a0)))]),.rep (.slice (.arr 3 (.arr 5 (.int .i64)))) a1] [.inv z_a0 (bu k a0)] (fun _:Unit=>(bp [.rep (.arr 3 (.arr 5 (.int .i64))) r.1,I r.2.1,.eq (.bool r.2.2)],[.inv z_a0 (bu k a0)])):=by
 unfold mi at h
 replace h:=ba h
 refine dD.of 35 Tryz.func42 rfl Tryz.ntmps42 rfl fun S w0=>?_
 refine sr ?_
 refine aD rfl rfl rfl (aY rfl rF sd) trivial fun b1=>?_
 refine au ?_
 refine aD rfl rfl rfl (aY rfl rF sd) trivial fun b2=>?_
 refine nt ?_
 refine sr ?_
 refine cq ?_
 refine cq ?_
 refine nt ?_
 refine aJ (Z:=Unit) (α:=(List (List Int))×Int×Bool) (fun z4 x3=>[(4,Pt b1),(7,Pt b2),(8,I x3.2.1),(9,.eq (.bool x3.2.2))]) (fun z4 x3=>[.obj b1 70 (.rep (.arr 3 (.arr 5 (.int .i64))) [[0,0,0,0,0],[0,0,0,0,0],[0,0,0,0,0]]),.obj b2 70 (.rep (.arr 3 (.arr 5 (.int .i64))) x3.1),.inv z_a0 (bu k a0)]) h (fun K h=>?_) (fun z4 x3 h=>?_)
 ·
  refine au ?_;refine ol Vi ?_;refine eI rfl ?_;refine nt (aj (aH (fun z6 y5=>[(0,.fn 32 (vA [.at aw (a0,(.map (some z_a0)))])),(4,Pt b1),(7,Pt b2),(8,I y5.2.1),(9,.eq (.bool y5.2.2.1)),(13,.rep (.slice (.arr 3 (.arr 5 (.int .i64)))) a1),(14,I (a1.length:Int)),(15,I y5.2.2.2)]) (fun z6 y5=>[.obj b1 70 (.rep (.arr 3 (.arr 5 (.int .i64))) [[0,0,0,0,0],[0,0,0,0,0],[0,0,0,0,0]]),.obj b2 70 (.rep (.arr 3 (.arr 5 (.int .i64))) y5.1),.inv z_a0 (bu k a0)]) (iE k a0 a1) k () ([[0,0,0,0,0],[0,0,0,0,0],[0,0,0,0,0]],0,false,0) (fun _=>rfl) h (SE.fin [1,0,2] ⟨rfl,rfl,rfl,rfl,rfl,rfl,rfl,rfl,trivial⟩ rfl) (fun n z6 y5 h=>?_)));unfold iE at h;refine sr (jb (bj rfl) ?_);refine au ?_;refine ci h (fun h=>?_) (fun h=>?_)
  ·refine sk (aJ (Z:=Unit) (α:=(List (List Int))×Int×Bool) (fun z8 x7=>[(0,.fn 32 (vA [.at aw (a0,(.map (some z_a0)))])),(4,Pt b1),(7,Pt b2),(8,I x7.2.1),(9,.eq (.bool x7.2.2)),(13,.rep (.slice (.arr 3 (.arr 5 (.int .i64)))) a1),(14,I (a1.length:Int)),(15,I y5.2.2.2)]) (fun z8 x7=>[.obj b1 70 (.rep (.arr 3 (.arr 5 (.int .i64))) [[0,0,0,0,0],[0,0,0,0,0],[0,0,0,0,0]]),.obj b2 70 (.rep (.arr 3 (.arr 5 (.int .i64))) x7.1),.inv z_a0 (bu k a0)]) h (fun K h=>?_) (fun z8 x7 h=>?_))
   ·refine aj (sr ?_);obtain⟨x9,D,h⟩:=aa h;refine jb (aG (t:=(.arr 3 (.arr 5 (.int .i64)))) rfl Vi ft D) ?_;refine ja (ak (t:=(.arr 3 (.arr 5 (.int .i64)))) rfl ft rfl) ?_;refine aD rfl rfl rfl (aY rfl rF sd) trivial fun x=>?_;refine a8 rfl rfl (aX rfl ft rfl rfl rfl) ⟨rfl,rfl,trivial⟩ ?_;refine au ?_;refine lo ft ?_;obtain⟨c,u,h⟩:=aa h;refine fr 3 ?_;refine kb (If (fs:=[.at aw (a0,(.map (some z_a0)))]) (ags:=[.rep (.arr 3 (.arr 5 (.int .i64))) x9]) [.tmp 20] rfl rfl O5 rfl (iz k a0 z_a0 x9 c u)) ?_;refine aq (nt ?_);refine aJ (Z:=Unit) (α:=Bool) (fun j e=>[(0,.fn 32 (vA [.at aw (a0,(.map (some z_a0)))])),(4,Pt b1),(7,Pt b2),(8,I y5.2.1),(9,.eq (.bool y5.2.2.1)),(11,Pt x),(12,I c),(13,.rep (.slice (.arr 3 (.arr 5 (.int .i64)))) a1),(14,I (a1.length:Int)),(15,I y5.2.2.2),(28,.eq (.bool e))]) (fun j e=>[.obj b1 70 (.rep (.arr 3 (.arr 5 (.int .i64))) [[0,0,0,0,0],[0,0,0,0,0],[0,0,0,0,0]]),.obj b2 70 (.rep (.arr 3 (.arr 5 (.int .i64))) y5.1),.obj x 70 (.rep (.arr 3 (.arr 5 (.int .i64))) x9),.inv z_a0 (bu k a0)]) h (fun K h=>?_) (fun j e h=>?_)
    ·refine ab (mq ?_);refine ja (eF rfl) ?_;refine mq ?_;refine bY (s:=24) rfl (fun hb=>?_) (fun hb=>?_)
     ·replace h:=cF (Dq hb) h;refine au ?_;exact jz ((),true) h [2,3,1,0]
     ·replace h:=bM (wj hb) h;refine au ?_;refine gb (bj rfl) ?_;refine au ?_;exact jz ((),decide (c < y5.2.1)) h [2,3,1,0]
    ·refine cv h (fun h=>?_) (fun h=>?_)
     ·refine ab (fr 2 ?_);refine lo ft ?_;refine mq ?_;refine fr 2 ?_;refine a8 rfl rfl (aX rfl ft rfl rfl rfl) ⟨rfl,rfl,trivial⟩ ?_;refine au ?_;exact jz ((),(x9,c,true)) h [2,0,3]
     ·refine au ?_;exact jz ((),(y5.1,y5.2.1,y5.2.2.1)) h [0,1,3]
   ·refine ab ?_;obtain⟨y,l,h⟩:=aa h;refine jb (a9 rfl l) ?_;refine au ?_;exact jz ((),(x7.1,x7.2.1,x7.2.2,y)) h [0,1,2]
  ·refine au ?_;exact jz ((),(y5.1,y5.2.1,y5.2.2.1)) h [0,1,2]
 ·
  refine sr (fr 1 ?_);refine lo ft ?_;iterate 2 refine mq ?_
  refine fr 1 ?_;refine a8 rfl rfl (aX rfl ft rfl rfl rfl) ⟨rfl,rfl,trivial⟩ ?_;refine aq ?_;refine aq (nt (bJ ?_));refine bi (SE.fin (Γ':=[(4,_),(5,_),(6,_)]) [2,0,1] ⟨rfl,rfl,rfl,trivial⟩ rfl) ?_;cases h;exact aL () [.rep (.arr 3 (.arr 5 (.int .i64))) x3.1,_,_] 1 ⟨⟨_,_,_,_,_,rfl,(.tail _ (.head _)),ft,(sT),rfl⟩,rfl,rfl,trivial⟩ rfl
def vD(k:Nat)(a0:aQ):Option ((List (List Int))×Int×Int):=
 (kz k a0).bind fun r2=>
 if¬(r2=0) then(some ([],0,r2)) else((kB k (a0,())).bind fun r5=>
 (mi k a0 r5).bind fun r6=>
 if¬(r6.2.2=true) then(some ([],0,11)) else((dF k (a0,()) r6.1).bind fun r8=>
 some (r8,r6.2.1,0)))
theorem Ah(k:Nat)(a0:aQ)(r:(List (List Int))×Int×Int)(h:vD k a0=some r):
 dD (jg Tryz.prog) 18 [.rep an a0] [] (fun _:Unit=>(bp [.rep (.slice (.slice (.int .i64))) r.1,I r.2.1,I r.2.2],[])):=by
 unfold vD at h
 replace h:=ba h
 refine dD.of 33 Tryz.func18 rfl Tryz.ntmps18 rfl fun S w0=>?_
 refine sr ?_
 refine bx fun b1=>?_
 refine au ?_
 refine lo du ?_
 obtain⟨r2,l,h⟩:=aa h
 have n:=ow k a0 r2 l
 refine ja (ao [.tmp 10] rfl rfl O6 rfl n) ?_
 refine au ?_
 refine jb (iZ rfl) ?_
 refine nt ?_
 refine cn h (fun h=>?_) (fun h=>?_)
 ·
  refine sr (mq ?_);refine cq ?_;refine cq ?_;refine aq (nt (rx ?_));refine bi (jf (t:=(.slice (.slice (.int .i64)))) (x:=[]) 2 rfl .nil rfl rfl) ?_;cases h;exact aL () [_,_,_] 0 ⟨rfl,rfl,rfl,trivial⟩ rfl
 ·
  refine au ?_;refine lo du ?_;refine aD rfl rfl rfl (ao [.tmp 15] rfl rfl Js rfl (gB a0)) ⟨rfl,trivial⟩ fun z3=>?_;refine co (kR (bu k a0) l5) ?_;refine au ?_;refine ja (K7 [.tmp 18] [.at aw (a0,(.map (some z3)))] rfl rfl) ?_;refine mq ?_;refine aD rfl rfl rfl (cO (N:=[(.tmp 20,.at aw (a0,(.map (some z3))))]) (ao [.tmp 20] rfl rfl RH rfl (lg (a0,()))) fun _ _ _ hn=>⟨qk hn.1,trivial⟩) ⟨rfl,trivial⟩ fun b4=>?_;obtain⟨r5,j,h⟩:=aa h;refine ka (ao [.tmp 21] rfl rfl UC rfl (rf k (a0,()) b4 r5 j)) ?_;obtain⟨r6,e,h⟩:=aa h;refine fr 1 ?_;refine kb (fX [.tmp 19,.tmp 22] rfl rfl UD rfl (sB k a0 z3 r5 r6 e)) ?_;refine au ?_;refine aD rfl rfl rfl (aY rfl rF sd) trivial fun b7=>?_;refine a8 rfl rfl (aX rfl ft rfl rfl rfl) ⟨rfl,rfl,trivial⟩ ?_;refine au ?_;refine ja (eF rfl) ?_;refine nt (cw h (fun h=>?_) (fun h=>?_))
  ·refine sr (cq ?_);refine cq ?_;refine cq (nt (rx ?_));refine bi (jf (t:=(.slice (.slice (.int .i64)))) (x:=[]) 2 rfl .nil rfl rfl) ?_;cases h;exact aL () [_,_,_] 0 ⟨rfl,rfl,rfl,trivial⟩ rfl
  ·refine au ?_;refine lo ft ?_;obtain⟨r8,c,h⟩:=aa h;refine aD rfl rfl rfl (cO (N:=[(.tmp 29,.at aw (a0,(.map (some z3)))),(.tmp 30,.rep (.arr 3 (.arr 5 (.int .i64))) r6.1)]) (ao [.tmp 29,.tmp 30] rfl rfl MA rfl (iy k (a0,()) r6.1 r8 c)) fun _ _ _ hn=>⟨(qk hn.1),hn.2.1,trivial⟩) ⟨rfl,rfl,trivial⟩ fun v9=>?_;refine mq ?_;refine aq ?_;refine aq ?_;refine cq (nt (bJ ?_));refine bi (dh [2,31] ⟨rfl,rfl,trivial⟩) ?_;cases h;exact aL () [_,_,_] 0 ⟨rfl,rfl,rfl,trivial⟩ rfl
set_option maxRecDepth 20000
set_option maxHeartbeats 4000000
@[reducible] def fp:Ty:=.agg (.pair (.int .i64) (.int .i64))
def Rl(x:Int×Int):Value:=.agg #[.int .i64 x.1,.int .i64 x.2]
theorem L1{S:FS}{w:World}{x:Int×Int}:(A.rep fp x).holds S w (Rl x):=⟨[_,_],⟨[_],[_],rfl,rfl,rfl⟩,rfl⟩
theorem Jl{S:FS}{w:World}{x:Int×Int}{v:Value}(h:(A.rep fp x).holds S w v):(A.eq (Rl x)).holds S w v:=by
 obtain⟨cs,⟨c1,c2,rfl,h1,h2⟩,rfl⟩:=h;have h1:c1=_:=h1;have h2:c2=_:=h2;subst h1 h2;rfl
theorem hH:dM Tryz.prog 96 2 true:=⟨fun w=>by kernel_rfl,fun w=>by kernel_rfl⟩
theorem o7:dM Tryz.prog 37 1 false:=⟨fun w=>by kernel_rfl,fun w=>by kernel_rfl⟩
theorem Ek:dM Tryz.prog 23 1 false:=⟨fun w=>by kernel_rfl,fun w=>by kernel_rfl⟩
theorem uV:dM Tryz.prog 3 1 false:=⟨fun w=>by kernel_rfl,fun w=>by kernel_rfl⟩
theorem Ht:dM Tryz.prog 66 1 false:=⟨fun w=>by kernel_rfl,fun w=>by kernel_rfl⟩
theorem OL:aZ Tryz.prog 96 0 0:=aZ.of (by kernel_rfl)
theorem OK:aZ Tryz.prog 96 1 1:=aZ.of (by kernel_rfl)
theorem Rk:aZ Tryz.prog 93 0 0:=aZ.of (by kernel_rfl)
theorem vb:aZ Tryz.prog 93 1 1:=aZ.of (by kernel_rfl)
theorem zw:ae Tryz.prog 79:=ae.of Tryz.func79 (by kernel_rfl) (by kernel_rfl)
def jQ(x:Int×Int)(m:Int):Nat→Int×List Int→Option (List Int)
 |0,_=>none
 |n+1,q=>if q.1 < m then((aP q.2 q.1).bind fun c=>if c=x.1 then(ck (q.1+1)).bind fun w=>jQ x m n (w,q.2.set q.1.toNat x.2) else if c=x.2 then(ck (q.1+1)).bind fun w=>jQ x m n (w,q.2.set q.1.toNat x.1) else(ck (q.1+1)).bind fun w=>jQ x m n (w,q.2)) else some q.2
def lb(k:Nat)(x:Int×Int)(m:Int):Nat→Int×List (List Int)→Option (List (List Int))
 |0,_=>none
 |n+1,q=>if q.1 < m then((aP q.2 q.1).bind fun l=>(jQ x (l.length:Int) k (0,l)).bind fun l2=>(ck (q.1+1)).bind fun w=>lb k x m n (w,q.2.set q.1.toNat l2)) else some q.2
def nI(k:Nat)(x:Int×Int)(ls:List (List Int)):Option (List (List Int)):=lb k x (ls.length:Int) k (0,ls)
theorem mT(k:Nat)(x:Int×Int)(ls r:List (List Int))(y:Nat)(d0:aw.den)(z:Value×(Nat→Value))(h:nI k x ls=some r):
 bZ Tryz.prog 79 [.eq (bP y),.rep fp x] ([.obj y 93 (.agg (.pair (.at aw d0) (.eq z.1)))]++fD 23 z ls) (fun _:Unit=>(bp [],[.obj y 93 (.agg (.pair (.at aw d0) (.eq z.1)))]++fD 23 z r)):=by
 unfold nI at h
 replace h:=ba h
 refine bZ.of 45 Tryz.func79 rfl Tryz.ntmps79 rfl fun S w0=>?_
 refine sr ?_
 refine bx fun b3=>?_
 refine nt ?_
 refine sr ?_
 refine mq ?_
 refine ja (bb rfl) ?_
 refine fl vb ?_
 refine fr 1 ?_
 refine lo o7 ?_
 refine co (E2 (pre:=[.obj y 93 (.agg (.pair (.at aw d0) (.eq z.1))),.obj b3 96 (.rep fp x)])) ?_
 refine ka (cZ rfl rfl oh) ?_
 rw [g9]
 refine co (GP (pre:=[.obj y 93 (.agg (.pair (.at aw d0) (.eq z.1))),.obj b3 96 (.rep fp x)])) ?_
 refine eI rfl ?_
 refine nt ?_
 refine aj ?_
 refine aH (Z:=Unit) (α:=Int×List (List Int)) (fun _ q=>[(3,.eq (bP b3)),(11,.eq z.1),(12,I (ls.length:Int)),(13,I q.1)]) (fun _ q=>[.obj y 93 (.agg (.pair (.at aw d0) (.eq z.1))),.obj b3 96 (.rep fp x)]++fD 23 z q.2) (lb k x (ls.length:Int)) k () (0,ls) (fun _=>rfl) h (bm [.obj y 93 (.agg (.pair (.at aw d0) (.eq z.1))),.obj b3 96 (.rep fp x)] (fD 23 z ls) [0,1] ⟨rfl,rfl,rfl,rfl,trivial⟩ rfl) (fun n u q h=>?_)
 unfold lb at h
 refine sr ?_
 refine jb (bj rfl) ?_
 refine nt ?_
 refine ar ?_
 refine bK rfl (fun hb=>?_) (fun hb=>?_)
 ·
  replace h:=cF (oe hb) h;refine sk (ar (aj ?_));obtain⟨l,el,h⟩:=aa h;refine dE (uA (pre:=[.obj y 93 (.agg (.pair (.at aw d0) (.eq z.1))),.obj b3 96 (.rep fp x)]) (qS el).2) ?_;refine sr (fr 1 ?_);refine kb (aV (t:=.val) rfl oh Ek (kT el)) ?_;refine ka (dV (i:=q.1.toNat) (off:=0) rfl Ek (fun _=>rfl) rfl (cz (kT el)).2.2 rfl) ?_;refine aq (nt ?_);rw [Option.bind_assoc] at h;refine sr (mq ?_);refine fr 1 ?_;refine ka (cZ rfl rfl dB) ?_;refine eI rfl ?_;refine nt (aj (aH (Z:=Unit) (α:=Int×List Int) (fun _ q2=>[(3,.eq (bP b3)),(5,.eq (z.2 q.1.toNat)),(11,.eq z.1),(12,I (ls.length:Int)),(13,I q.1),(17,.eq (z.2 q.1.toNat)),(18,I (l.length:Int)),(19,I q2.1)]) (fun _ q2=>[.sl (z.2 q.1.toNat) 3 (.int .i64) (q2.2),.sl z.1 23 .val (eB z.2 0 q.2),.obj y 93 (.agg (.pair (.at aw d0) (.eq z.1))),.obj b3 96 (.rep fp x)]++((kY z.2 0 q.2).eraseIdx q.1.toNat)) (jQ x (l.length:Int)) k () (0,l) (fun _=>rfl) h (bm [.sl (z.2 q.1.toNat) 3 (.int .i64) (l),.sl z.1 23 .val (eB z.2 0 q.2),.obj y 93 (.agg (.pair (.at aw d0) (.eq z.1))),.obj b3 96 (.rep fp x)] ((kY z.2 0 q.2).eraseIdx q.1.toNat) [0,1,2,3] ⟨rfl,rfl,rfl,rfl,rfl,rfl,rfl,rfl,trivial⟩ rfl) (fun n2 u2 q2 h=>?_)));unfold jQ at h;refine sr (jb (bj rfl) ?_);refine nt (ar (bK rfl (fun hb=>?_) (fun hb=>?_)))
  ·replace h:=cF (oe hb) h;refine sk (ar (aj ?_));obtain⟨c,ec,h⟩:=aa h;refine sr (mq ?_);refine kb (aV (t:=.int .i64) rfl dB uV ec) ?_;refine ka (dV (i:=q2.1.toNat) (off:=0) rfl uV (fun _=>rfl) rfl (cz ec).2.2 rfl) ?_;refine aq ?_;refine aq (nt (sr ?_));refine mq (nt (aj (sr ?_)));refine fl OL ?_;refine fr 3 ?_;refine lo uV ?_;refine jb (dX rfl) ?_;refine aq (nt ?_);refine ci h (fun h=>?_) (fun h=>?_)
   ·refine ab ?_;iterate 2 refine mq ?_
    refine fl OK ?_;refine lo uV ?_;refine fr 1 ?_;refine kb (aV (t:=.int .i64) rfl dB uV ec) ?_;refine a8 rfl rfl (cI (i:=q2.1.toNat) rfl uV rfl (gy ec) rfl .int rfl) ⟨rfl,rfl,trivial⟩ ?_;refine ax (bT (bT (tn (ab ?_))));obtain⟨w,ew,h⟩:=aa h;refine jb (a9 rfl ew) ?_;refine mq (nl ?_);exact jm ((),(w,q2.2.set q2.1.toNat x.2)) h (bm [.sl (z.2 q.1.toNat) 3 (.int .i64) (q2.2.set q2.1.toNat x.2),.obj b3 96 (.rep fp x),.sl z.1 23 .val (eB z.2 0 q.2),.obj y 93 (.agg (.pair (.at aw d0) (.eq z.1)))] ((kY z.2 0 q.2).eraseIdx q.1.toNat) [0,2,3,1] ⟨rfl,rfl,rfl,rfl,rfl,rfl,rfl,rfl,trivial⟩ rfl)
   ·refine sr (fl OK ?_);refine lo uV ?_;refine jb (dX rfl) ?_;refine aq (nt ?_);refine ci h (fun h=>?_) (fun h=>?_)
    ·refine ab ?_;iterate 2 refine mq ?_
     refine fl OL ?_;refine lo uV ?_;refine fr 1 ?_;refine kb (aV (t:=.int .i64) rfl dB uV ec) ?_;refine a8 rfl rfl (cI (i:=q2.1.toNat) rfl uV rfl (gy ec) rfl .int rfl) ⟨rfl,rfl,trivial⟩ ?_;refine ax (bT (bT (tn (ab ?_))));obtain⟨w,ew,h⟩:=aa h;refine jb (a9 rfl ew) ?_;refine mq (nl ?_);exact jm ((),(w,q2.2.set q2.1.toNat x.1)) h (bm [.sl (z.2 q.1.toNat) 3 (.int .i64) (q2.2.set q2.1.toNat x.1),.obj b3 96 (.rep fp x),.sl z.1 23 .val (eB z.2 0 q.2),.obj y 93 (.agg (.pair (.at aw d0) (.eq z.1)))] ((kY z.2 0 q.2).eraseIdx q.1.toNat) [0,2,3,1] ⟨rfl,rfl,rfl,rfl,rfl,rfl,rfl,rfl,trivial⟩ rfl)
    ·refine cT (bT (bT (tn (ab ?_))));obtain⟨w,ew,h⟩:=aa h;refine jb (a9 rfl ew) ?_;refine mq (nl ?_);exact jm ((),(w,q2.2)) h (bm [.obj b3 96 (.rep fp x),.sl (z.2 q.1.toNat) 3 (.int .i64) (q2.2),.sl z.1 23 .val (eB z.2 0 q.2),.obj y 93 (.agg (.pair (.at aw d0) (.eq z.1)))] ((kY z.2 0 q.2).eraseIdx q.1.toNat) [1,2,3,0] ⟨rfl,rfl,rfl,rfl,rfl,rfl,rfl,rfl,trivial⟩ rfl)
  replace h:=bM (nr hb) h;refine jp (cy (cy (dW (bT (tn (dE (BP (pre:=[.obj y 93 (.agg (.pair (.at aw d0) (.eq z.1))),.obj b3 96 (.rep fp x)]) (l':=q2.2) (qS el).2) ?_))))));refine ab ?_;obtain⟨w,ew,h⟩:=aa (X:=ck (q.1+1)) (f:=fun w=>lb k x (ls.length:Int) n (w,q.2.set q.1.toNat q2.2)) (K:=some) (r:=r) (by simpa using h);refine jb (a9 rfl ew) ?_;refine mq (nl ?_);exact jm ((),(w,q.2.set q.1.toNat q2.2)) h (bm [.obj y 93 (.agg (.pair (.at aw d0) (.eq z.1))),.obj b3 96 (.rep fp x)] (fD 23 z (q.2.set q.1.toNat q2.2)) [0,1] ⟨rfl,rfl,rfl,rfl,trivial⟩ rfl)
 replace h:=bM (nr hb) h
 refine jp ?_
 refine cy ?_
 refine cy ?_
 refine dW ?_
 cases h
 refine jE ?_
 refine bi (bm (Γ':=[]) (pre':=[.obj y 93 (.agg (.pair (.at aw d0) (.eq z.1)))]) [.obj y 93 (.agg (.pair (.at aw d0) (.eq z.1))),.obj b3 96 (.rep fp x)] (fD 23 z q.2) [0] trivial rfl) ?_
 exact jo () [] trivial rfl
@[reducible] def KQ:Ty:=.agg (.pair (.ptr aw) (.slice (.slice (.int .i64))))
theorem N3{S:FS}{w:World}{y:Nat}{d0:aw.den}{z:Value×(Nat→Value)}{ls:List (List Int)}(h:∀d∈[D.obj y 93 (.agg (.pair (.at aw d0) (.eq z.1)))]++fD 23 z ls,d.holds S w∧∀b,d.foot=some b→S b):(A.at KQ (d0,ls)).holds S w (bP y):=by
 obtain⟨⟨cs,h1,c1,c2,rfl,g1,rfl,g2⟩,h2⟩:=h _ (List.mem_cons_self ..);have h3:=Ox (fun d hd=>h d (List.mem_cons_of_mem _ hd));refine⟨y,0,_,93,(0,0),rfl,h2 y rfl,h1,c1,[z.1],?_,g1,?_⟩
 ·have l1:=aM (.ptr aw) g1;simp only [Ty.cells] at l1;match c1,l1 with
  |[u],_=>rfl
 ·obtain⟨cs,h4,h5⟩:=h3;have l1:=aM (.slice (.slice (.int .i64))) h4;simp only [Ty.cells] at l1;match cs,l1 with
  |[u],_=>rw [h5];exact h4
theorem Ac{S:FS}{w:World}{a:Act}{Γ:Ga}{y:Nat}{d0:aw.den}{z:Value×(Nat→Value)}{ls:List (List Int)}(h:∀d∈[D.obj y 93 (.agg (.pair (.at aw d0) (.eq z.1)))]++fD 23 z ls,d.holds S w∧∀b,d.foot=some b→S b)
 (hk:∀s r,lk Γ s=some r→r.holds S w (a.tmps.getD s undef)) (h0:lk Γ 0=some (.eq (bP y))):∀s r,lk [(0,A.at KQ (d0,ls))] s=some r→r.holds S w (a.tmps.getD s undef):=fun s r hl=>by
 simp only [lk] at hl
 split at hl
 ·
  rename_i e
  cases hl
  subst e
  have e1:a.tmps.getD 0 undef=bP y:=hk 0 _ h0
  rw [e1]
  exact N3 h
 ·
  cases hl
theorem NQ{n:Nat}{r0:A}(h:r0.flat=true):∀s r,lk [(n,r0)] s=some r→r.flat=true:=fun s r hl=>by
 simp only [lk] at hl
 split at hl
 ·
  cases hl;exact h
 ·
  cases hl
theorem ON{d0:D}(h:d0.flat=true):∀d∈[d0],d.flat=true:=fun d hd=>by
 simp only [List.mem_cons,List.not_mem_nil,or_false] at hd
 subst hd;exact h
theorem LY{d0 d1:D}(h:d0.flat=true)(h1:d1.flat=true):∀d∈[d0,d1],d.flat=true:=fun d hd=>by
 simp only [List.mem_cons,List.not_mem_nil,or_false] at hd
 rcases hd with rfl |rfl <;> assumption
theorem Ad{y:Nat}{x:Int×Int}(S:FS)(w:World):gr S w [.eq (bP y),.rep fp x] [bP y,Rl x]:=⟨_,_,rfl,rfl,_,_,rfl,L1,rfl⟩
theorem OJ:aZ Tryz.prog 129 0 0:=aZ.of (by kernel_rfl)
theorem Hr:dM Tryz.prog 25 3 true:=⟨fun w=>by kernel_rfl,fun w=>by kernel_rfl⟩
theorem Rq:ae Tryz.prog 75:=ae.of Tryz.func75 (by kernel_rfl) (by kernel_rfl)
theorem Rr:ae Tryz.prog 30:=ae.of Tryz.func30 (by kernel_rfl) (by kernel_rfl)
theorem OP:ae Tryz.prog 32:=ae.of Tryz.func32 (by kernel_rfl) (by kernel_rfl)
def nj(k:Nat)(t:aQ)(x:Int×Int)(ls:List (List Int)):Option (Bool×List (List Int)):=
 (nI k x ls).bind fun l1=>(lU k t l1).bind fun e=>if LA e=true then(nI k x l1).bind fun l2=>some (!wy e,l2) else none
theorem tL(k:Nat)(t:aQ)(x:Int×Int)(ls:List (List Int))(r:Bool×List (List Int))(y m:Nat)(z:Value×(Nat→Value))(h:nj k t x ls=some r):
 bZ Tryz.prog 45 [.eq (bP y),.rep fp x] ([.obj y 93 (.agg (.pair (.at aw (t,.map (some m))) (.eq z.1)))]++fD 23 z ls) (fun _:Unit=>(bp [.eq (.bool r.1)],[.obj y 93 (.agg (.pair (.at aw (t,.map (some m))) (.eq z.1)))]++fD 23 z r.2)):=by
 unfold nj at h
 replace h:=ba h
 obtain⟨l1,e1,h⟩:=aa h
 obtain⟨e,e2,h⟩:=aa h
 have he:LA e=true:=by
  apply Classical.byContradiction;intro hn;rw [if_neg hn] at h;cases h
 replace h:=cF he h
 obtain⟨l2,e3,h⟩:=aa h
 cases h
 have cv:=sw k t l1 e e2
 refine Np 23 Tryz.func45 rfl Tryz.ntmps45 rfl fun S w0=>?_
 refine sr ?_
 refine bx fun b3=>?_
 refine au ?_
 refine ka (ah rfl hH (zQ) rfl) ?_
 refine co (fE (Δ':=([.obj y 93 (.agg (.pair (.at aw (t,.map (some m))) (.eq z.1)))]++fD 23 z ls)++[.obj b3 96 (.rep fp x)]) (List.perm_append_comm (l₁:=([.obj b3 96 (.rep fp x)]:List D)))) ?_
 refine bO (Δ:=_++_) (F:=[_]) (fun _ _ _=>aA rfl _) rfl rfl (ao [.tmp 5,.tmp 6] rfl rfl zw rfl (mT k x ls l1 y (t,.map (some m)) z e1)) ⟨rfl,rfl,trivial⟩ fun _=>?_
 refine nt ?_
 refine sr ?_
 refine mq ?_
 refine co (fE (Δ':=[.obj b3 96 (.rep fp x)]++([.obj y 93 (.agg (.pair (.at aw (t,.map (some m))) (.eq z.1)))]++fD 23 z l1)) List.perm_append_comm) ?_
 refine ka (ah rfl hH (zQ) rfl) ?_
 refine co (tu 9 rfl fun _ _ _ h=>Jl h) ?_
 refine yx (vs:=[bP y,Rl x]) [.tmp 8,.tmp 9] rfl rfl rfl rfl rfl ⟨rfl,rfl,trivial⟩ ?_
 refine ax ?_
 refine ag ?_
 refine bi (fE (Δ':=([.obj y 93 (.agg (.pair (.at aw (t,.map (some m))) (.eq z.1)))]++fD 23 z l1)++[.obj b3 96 (.rep fp x)]) (List.perm_append_comm (l₁:=([.obj b3 96 (.rep fp x)]:List D)))) ?_
 show JC _ _ _ _ _
 refine ar ?_
 refine E9 (L:=_++_) (Δ:=[_]) (Γ1:=[(0,.at KQ ((t,.map (some m)),l1))]) (Z:=Unit) (fun _=>[(4,.eq (.bool (!wy e)))]) (fun _=>[.obj b3 96 (.rep fp x)]) (fun S w a hl hk=>Ac hl hk rfl) (fun _=>⟨NQ rfl,ON rfl⟩) (fun S w=>?_) (fun _=>?_)
 ·
  refine bD ?_;refine dm ?_;refine da (dR rfl) ?_;refine da (aI 1 false rfl Rk rfl) ?_;refine da (ak (t:=.ptr aw) rfl Ht rfl) ?_;refine da (dR rfl) ?_;refine da (aI 3 true rfl OJ rfl) ?_;refine da (ak (t:=an) rfl Hr rfl) ?_;refine dm ?_;refine da (dR rfl) ?_;refine da (aI 1 false rfl vb rfl) ?_;refine da (ak (t:=.slice (.slice (.int .i64))) rfl o7 rfl) ?_;refine uD (by kernel_rfl) rV ?_;refine jb (ao [.tmp 16,.tmp 20] rfl rfl Rq rfl cv) ?_;refine jb (sO rfl U0 he) ?_;refine au ?_;exact fun a w st=>⟨rfl,(),(SE.fin (Γ':=[(4,.eq (.bool (!wy e)))]) [0] ⟨rfl,trivial⟩ rfl) a w st⟩
 ·
  refine au ?_;refine E7 (Δ1:=[.obj y 93 (.agg (.pair (.at aw (t,.map (some m))) (.eq z.1)))]++fD 23 z l1) (F:=[.obj b3 96 (.rep fp x)]) zw (mT k x l1 l2 y (t,.map (some m)) z e3 _) Ad (fun _=>?_);refine bi (fE (Δ':=[.obj b3 96 (.rep fp x)]++([.obj y 93 (.agg (.pair (.at aw (t,.map (some m))) (.eq z.1)))]++fD 23 z l2)) List.perm_append_comm) ?_;refine bi (bm (pre':=[.obj y 93 (.agg (.pair (.at aw (t,.map (some m))) (.eq z.1)))]) (Γ':=[(4,.eq (.bool (!wy e)))]) [.obj b3 96 (.rep fp x),.obj y 93 (.agg (.pair (.at aw (t,.map (some m))) (.eq z.1)))] (fD 23 z l2) [1] ⟨rfl,trivial⟩ rfl) ?_;exact jo () [_] ⟨rfl,trivial⟩ rfl
def nk(k:Nat)(t:aQ)(x:Int×Int)(ls:List (List Int)):Option (Int×List (List Int)):=
 (nI k x ls).bind fun l1=>(dN k l1).bind fun ld=>(bS k t ld).bind fun n=>(nI k x l1).bind fun l2=>some (n,l2)
theorem tM(k:Nat)(t:aQ)(x:Int×Int)(ls:List (List Int))(r:Int×List (List Int))(y m:Nat)(z:Value×(Nat→Value))(h:nk k t x ls=some r):
 dD (jg Tryz.prog) 47 [.eq (bP y),.rep fp x] ([.inv m (bu k t)]++([.obj y 93 (.agg (.pair (.at aw (t,.map (some m))) (.eq z.1)))]++fD 23 z ls)) (fun _:Unit=>(bp [I r.1],[.inv m (bu k t)]++([.obj y 93 (.agg (.pair (.at aw (t,.map (some m))) (.eq z.1)))]++fD 23 z r.2))):=by
 unfold nk at h
 replace h:=ba h
 obtain⟨l1,e1,h⟩:=aa h
 obtain⟨ld,e2,h⟩:=aa h
 obtain⟨n,e2',h⟩:=aa h
 obtain⟨l2,e3,h⟩:=aa h
 cases h
 have cv:=eh k l1 ld e2
 have cl:=iz k t m ld n e2'
 refine Cb 20 Tryz.func47 rfl Tryz.ntmps47 rfl fun S w0=>?_
 refine sr ?_
 refine bx fun b3=>?_
 refine au ?_
 refine ka (ah rfl hH (zQ) rfl) ?_
 refine co (fE (Δ':=([.obj y 93 (.agg (.pair (.at aw (t,.map (some m))) (.eq z.1)))]++fD 23 z ls)++[.obj b3 96 (.rep fp x),.inv m (bu k t)]) (List.perm_append_comm (l₁:=([.obj b3 96 (.rep fp x),.inv m (bu k t)]:List D)))) ?_
 refine bO (Δ:=_++_) (F:=[_,_]) (fun _ _ _=>aA rfl _) rfl rfl (ao [.tmp 5,.tmp 6] rfl rfl zw rfl (mT k x ls l1 y (t,.map (some m)) z e1)) ⟨rfl,rfl,trivial⟩ fun _=>?_
 refine nt ?_
 refine sr ?_
 refine mq ?_
 refine co (fE (Δ':=[.obj b3 96 (.rep fp x),.inv m (bu k t)]++([.obj y 93 (.agg (.pair (.at aw (t,.map (some m))) (.eq z.1)))]++fD 23 z l1)) List.perm_append_comm) ?_
 refine ka (ah rfl hH (zQ) rfl) ?_
 refine co (tu 9 rfl fun _ _ _ h=>Jl h) ?_
 refine yx (vs:=[bP y,Rl x]) [.tmp 8,.tmp 9] rfl rfl rfl rfl rfl ⟨rfl,rfl,trivial⟩ ?_
 refine ax ?_
 refine ag ?_
 refine bi (fE (Δ':=([.obj y 93 (.agg (.pair (.at aw (t,.map (some m))) (.eq z.1)))]++fD 23 z l1)++[.obj b3 96 (.rep fp x),.inv m (bu k t)]) (List.perm_append_comm (l₁:=([.obj b3 96 (.rep fp x),.inv m (bu k t)]:List D)))) ?_
 show JC _ _ _ _ _
 refine ar ?_
 refine E9 (L:=_++_) (Δ:=[_,_]) (Γ1:=[(0,.at KQ ((t,.map (some m)),l1))]) (Z:=Unit) (fun _=>[(4,I n)]) (fun _=>[.obj b3 96 (.rep fp x),.inv m (bu k t)]) (fun S w a hl hk=>Ac hl hk rfl) (fun _=>⟨NQ rfl,LY rfl rfl⟩) (fun S w=>?_) (fun _=>?_)
 ·
  refine bD ?_;refine dm ?_;refine da (dR rfl) ?_;refine da (aI 1 false rfl Rk rfl) ?_;refine da (ak (t:=.ptr aw) rfl Ht rfl) ?_;refine dm ?_;refine da (dR rfl) ?_;refine da (aI 1 false rfl vb rfl) ?_;refine da (ak (t:=.slice (.slice (.int .i64))) rfl o7 rfl) ?_;refine da (ao [.tmp 17] rfl rfl Rr rfl cv) ?_;refine uD (by kernel_rfl) rV ?_;refine fr 1 ?_;refine kb (fX [.tmp 13,.tmp 18] rfl rfl OP rfl cl) ?_;refine au ?_;exact fun a w st=>⟨rfl,(),(SE.fin (Γ':=[(4,I n)]) [1,0] ⟨rfl,trivial⟩ rfl) a w st⟩
 ·
  refine au ?_;refine E7 (Δ1:=[.obj y 93 (.agg (.pair (.at aw (t,.map (some m))) (.eq z.1)))]++fD 23 z l1) (F:=[.obj b3 96 (.rep fp x),.inv m (bu k t)]) zw (mT k x l1 l2 y (t,.map (some m)) z e3 _) Ad (fun _=>?_);refine bi (fE (Δ':=[.obj b3 96 (.rep fp x),.inv m (bu k t)]++([.obj y 93 (.agg (.pair (.at aw (t,.map (some m))) (.eq z.1)))]++fD 23 z l2)) List.perm_append_comm) ?_;refine bi (bm (pre':=[.inv m (bu k t),.obj y 93 (.agg (.pair (.at aw (t,.map (some m))) (.eq z.1)))]) (Γ':=[(4,I n)]) [.obj b3 96 (.rep fp x),.inv m (bu k t),.obj y 93 (.agg (.pair (.at aw (t,.map (some m))) (.eq z.1)))] (fD 23 z l2) [1,2] ⟨rfl,trivial⟩ rfl) ?_;exact jo () [_] ⟨rfl,trivial⟩ rfl
theorem tH:∀w,(zeroValue 96).run Tryz.prog w= .ok (.agg #[.int .i64 0,.int .i64 0]) w:=fun w=>by kernel_rfl
theorem wO:∀S w,(A.cells S w (.rep fp (0,0)) (Value.cells (.agg #[.int .i64 0,.int .i64 0])).toList):=fun _ _=>⟨[_],[_],rfl,rfl,rfl⟩
theorem OQ:ae Tryz.prog 47:=ae.of Tryz.func47 (by kernel_rfl) (by kernel_rfl)
abbrev NR:=Int×(Int×Int)×Int×Bool×List (List Int)
def ir(k:Nat)(t:aQ)(xs:List (Int×Int)):Nat→NR→Option ((Int×Int)×Int×Bool×List (List Int))
 |0,_=>none
 |n+1,q=>if q.1 < (xs.length:Int) then((aP xs q.1).bind fun x=>(nk k t x q.2.2.2.2).bind fun r=>(ck (q.1+1)).bind fun w=>ir k t xs n (if(!q.2.2.2.1 || decide (r.1 < q.2.2.1))=true then(w,x,r.1,true,r.2) else(w,q.2.1,q.2.2.1,q.2.2.2.1,r.2))) else some q.2
def mg(k:Nat)(t:aQ)(xs:List (Int×Int))(ls:List (List Int)):Option ((Int×Int)×Int×Bool×List (List Int)):=ir k t xs k (0,(0,0),0,false,ls)
theorem xf(k:Nat)(t:aQ)(xs:List (Int×Int))(ls:List (List Int))(r:(Int×Int)×Int×Bool×List (List Int))(y m:Nat)(z:Value×(Nat→Value))(h:mg k t xs ls=some r):
 dD (jg Tryz.prog) 46 [.eq (.func (.func 47) #[bP y] #[]),Rs fp xs] ([.inv m (bu k t),.obj y 93 (.agg (.pair (.at aw (t,.map (some m))) (.eq z.1)))]++fD 23 z ls) (fun _:Unit=>(bp [.rep fp r.1,I r.2.1,.eq (.bool r.2.2.1)],[.inv m (bu k t),.obj y 93 (.agg (.pair (.at aw (t,.map (some m))) (.eq z.1)))]++fD 23 z r.2.2.2)):=by
 unfold mg at h
 replace h:=ba h
 refine dD.of 35 Tryz.func46 rfl Tryz.ntmps46 rfl fun S w0=>?_
 refine sr ?_
 refine aD rfl rfl rfl (aY rfl tH wO) trivial fun b4=>?_
 refine cq ?_
 refine cq ?_
 refine nt ?_
 refine sr ?_
 refine aD rfl rfl rfl (aY rfl tH wO) trivial fun b7=>?_
 refine nt ?_
 refine sr ?_
 refine cq ?_
 refine cq ?_
 refine nt ?_
 refine ar ?_
 refine sr ?_
 refine mq ?_
 refine ol UW ?_
 refine eI rfl ?_
 refine nt ?_
 refine aj ?_
 refine aH (Z:=Unit) (α:=NR) (fun _ q=>[(0,.eq (.func (.func 47) #[bP y] #[])),(4,.eq (bP b4)),(7,.eq (bP b7)),(8,I q.2.2.1),(9,.eq (.bool q.2.2.2.1)),(13,Rs fp xs),(14,I (xs.length:Int)),(15,I q.1)]) (fun _ q=>[.obj b7 96 (.rep fp q.2.1),.obj b4 96 (.rep fp (0,0)),.inv m (bu k t),.obj y 93 (.agg (.pair (.at aw (t,.map (some m))) (.eq z.1)))]++fD 23 z q.2.2.2.2) (ir k t xs) k () (0,(0,0),0,false,ls) (fun _=>rfl) h (bm [.obj b7 96 (.rep fp (0,0)),.obj b4 96 (.rep fp (0,0)),.inv m (bu k t),.obj y 93 (.agg (.pair (.at aw (t,.map (some m))) (.eq z.1)))] (fD 23 z ls) [0,1,2,3] ⟨rfl,rfl,rfl,rfl,rfl,rfl,rfl,rfl,trivial⟩ rfl) (fun n u q h=>?_)
 unfold ir at h
 obtain⟨q1,q2,q3,q4,q5⟩:=q
 refine sr ?_
 refine jb (bj rfl) ?_
 refine nt ?_
 refine ar ?_
 refine bK rfl (fun hb=>?_) (fun hb=>?_)
 ·
  replace h:=cF (oe hb) h;obtain⟨x,ex,h⟩:=aa h;obtain⟨r1,e,h⟩:=aa h;obtain⟨w,ew,h⟩:=aa h;have cl:=tM k t x q5 r1 y m z e;refine sk (ar (aj (sr (jb (aG (t:=fp) rfl UW hH ex) ?_))));refine ja (ak (t:=fp) rfl hH rfl) ?_;refine aD rfl rfl rfl (aY rfl tH wO) trivial fun c=>?_;refine a8 rfl rfl (aX rfl hH rfl rfl rfl) ⟨rfl,rfl,trivial⟩ ?_;refine nt (sr (mq ?_));refine ka (ah rfl hH (zQ) rfl) ?_;refine co (fE (Δ':=([.inv m (bu k t)]++([.obj y 93 (.agg (.pair (.at aw (t,.map (some m))) (.eq z.1)))]++fD 23 z q5))++[.obj c 96 (.rep fp x),.obj b7 96 (.rep fp q2),.obj b4 96 (.rep fp (0,0))]) (List.perm_append_comm (l₁:=([.obj c 96 (.rep fp x),.obj b7 96 (.rep fp q2),.obj b4 96 (.rep fp (0,0))]:List D)))) ?_;refine bO (Δ:=_++_) (F:=[_,_,_]) (fun _ _ _=>aA rfl _) rfl rfl (pM (fs:=[bP y]) (cs:=[]) (ags:=[.rep fp x]) [.tmp 20] rfl rfl OQ rfl cl) ⟨rfl,rfl,trivial⟩ fun _=>?_;refine aq ?_;refine co (fE (Δ':=[.obj c 96 (.rep fp x),.obj b7 96 (.rep fp q2),.obj b4 96 (.rep fp (0,0))]++([.inv m (bu k t)]++([.obj y 93 (.agg (.pair (.at aw (t,.map (some m))) (.eq z.1)))]++fD 23 z r1.2))) List.perm_append_comm) ?_;refine nt ?_;cases q4 with
  |false=>
   refine sr (mq ?_);refine ja (eF rfl) ?_;refine mq ?_;iterate 3 refine gn ?_
   refine pt (nt ?_);refine bK rfl (fun hb=>?_) (fun hb=>(by cases hb));refine ab (ka (ah rfl hH (zQ) rfl) ?_);refine mq ?_;refine fr 1 ?_;refine a8 rfl rfl (aX rfl hH rfl rfl rfl) ⟨rfl,rfl,trivial⟩ ?_;refine aq ?_;refine cq (ax (bT (tn (ab ?_))));refine jb (a9 rfl ew) ?_;refine mq (nl ?_);exact jm ((),(w,x,r1.1,true,r1.2)) h (bm [.obj b7 96 (.rep fp x),.obj c 96 (.rep fp x),.obj b4 96 (.rep fp (0,0)),.inv m (bu k t),.obj y 93 (.agg (.pair (.at aw (t,.map (some m))) (.eq z.1)))] (fD 23 z r1.2) [0,2,3,4] ⟨rfl,rfl,rfl,rfl,rfl,rfl,rfl,rfl,trivial⟩ rfl)
  |true=>
   refine sr (mq ?_);refine ja (eF rfl) ?_;refine mq ?_;refine gm ?_;refine gm ?_;refine gb (bj rfl) ?_;refine pf (nt ?_);refine bK rfl (fun hb=>?_) (fun hb=>?_)
   ·replace h:(ir k t xs n (w,x,r1.1,true,r1.2)).bind some=some r:=by
     have hd:r1.1 < q3:=of_decide_eq_true hb;simpa [hd] using h
    refine ab (ka (ah rfl hH (zQ) rfl) ?_);refine mq ?_;refine fr 1 ?_;refine a8 rfl rfl (aX rfl hH rfl rfl rfl) ⟨rfl,rfl,trivial⟩ ?_;refine aq ?_;refine cq (ax (bT (tn (ab ?_))));refine jb (a9 rfl ew) ?_;refine mq (nl ?_);exact jm ((),(w,x,r1.1,true,r1.2)) h (bm [.obj b7 96 (.rep fp x),.obj c 96 (.rep fp x),.obj b4 96 (.rep fp (0,0)),.inv m (bu k t),.obj y 93 (.agg (.pair (.at aw (t,.map (some m))) (.eq z.1)))] (fD 23 z r1.2) [0,2,3,4] ⟨rfl,rfl,rfl,rfl,rfl,rfl,rfl,rfl,trivial⟩ rfl)
   ·replace h:(ir k t xs n (w,q2,q3,true,r1.2)).bind some=some r:=by
     have hd:¬r1.1 < q3:=of_decide_eq_false hb;simpa [hd] using h
    refine cT (bT (tn (ab (jb (a9 rfl ew) ?_))));refine mq (nl ?_);exact jm ((),(w,q2,q3,true,r1.2)) h (bm [.obj c 96 (.rep fp x),.obj b7 96 (.rep fp q2),.obj b4 96 (.rep fp (0,0)),.inv m (bu k t),.obj y 93 (.agg (.pair (.at aw (t,.map (some m))) (.eq z.1)))] (fD 23 z r1.2) [1,2,3,4] ⟨rfl,rfl,rfl,rfl,rfl,rfl,rfl,rfl,trivial⟩ rfl)
 replace h:=bM (nr hb) h
 refine jp ?_
 refine cy ?_
 refine cy ?_
 refine dW ?_
 refine tn ?_
 cases h
 refine sr ?_
 refine ka (ah rfl hH (zQ) rfl) ?_
 iterate 2 refine mq ?_
 refine fr 1 ?_
 refine a8 rfl rfl (aX rfl hH rfl rfl rfl) ⟨rfl,rfl,trivial⟩ ?_
 refine aq ?_
 refine aq ?_
 refine nt ?_
 refine bJ ?_
 refine bi (fE (Δ':=([.inv m (bu k t),.obj y 93 (.agg (.pair (.at aw (t,.map (some m))) (.eq z.1)))]++fD 23 z q5)++[.obj b4 96 (.rep fp q2),.obj b7 96 (.rep fp q2)]) (List.perm_append_comm (l₁:=([.obj b4 96 (.rep fp q2),.obj b7 96 (.rep fp q2)]:List D)))) ?_
 exact aL () [_,_,_] ([.inv m (bu k t),.obj y 93 (.agg (.pair (.at aw (t,.map (some m))) (.eq z.1)))]++fD 23 z q5:List D).length ⟨⟨b4,96,.rep fp q2,2,true,rfl,List.mem_append.2 (.inr (List.mem_cons_self ..)),hH,zQ,rfl⟩,rfl,rfl,trivial⟩ (by rw [List.take_left])
theorem rC:ae Tryz.prog 44:=ae.of Tryz.func44 (by kernel_rfl) (by kernel_rfl)
theorem Ru:ae Tryz.prog 17:=ae.of Tryz.func17 (by kernel_rfl) (by kernel_rfl)
theorem Rt:ae Tryz.prog 28:=ae.of Tryz.func28 (by kernel_rfl) (by kernel_rfl)
theorem Ro:ae Tryz.prog 45:=ae.of Tryz.func45 (by kernel_rfl) (by kernel_rfl)
theorem Rn:ae Tryz.prog 46:=ae.of Tryz.func46 (by kernel_rfl) (by kernel_rfl)
theorem Nw:dM Tryz.prog 22 1 false:=⟨fun w=>by kernel_rfl,fun w=>by kernel_rfl⟩
theorem NP:aZ Tryz.prog 25 1 1:=aZ.of (by kernel_rfl)
theorem pe:mJ Tryz.prog 37 23 1 24:=.of (z:=(.slice none 0 0)) oh (by kernel_rfl) rfl rfl rfl
theorem Hv:mJ Tryz.prog 94 96 2 16:=.of (z:=(.agg #[.int .i64 0,.int .i64 0])) UW (by kernel_rfl) rfl rfl rfl
theorem Og:zO Tryz.prog 93 #[(0,1),(1,1)]:=⟨_,Vz,fun _=>by kernel_rfl⟩
theorem NW:∀w,(zeroValue 93).run Tryz.prog w= .ok (.agg #[.pointer none,.slice none 0 0]) w:=fun w=>by kernel_rfl
theorem Py:∀S w,(A.cells S w (.pair (.eq (.pointer none)) (.eq (.slice none 0 0))) (Value.cells (.agg #[.pointer none,.slice none 0 0])).toList):=fun _ _=>⟨[_],_,rfl,⟨rfl,rfl⟩,rfl,rfl⟩
theorem Of:zO Tryz.prog 96 #[(0,1),(1,1)]:=⟨_,Vy,fun _=>by kernel_rfl⟩
theorem MR:∀S w,(A.cells S w (.pair (I 0) (I 0)) (Value.cells (.agg #[.int .i64 0,.int .i64 0])).toList):=fun _ _=>⟨[_],_,rfl,⟨rfl,rfl⟩,rfl,rfl⟩
def fC:List Bool→Ga→Ga
 |true::l,e::g=>e::fC l g
 |false::l,_::g=>fC l g
 |_,_=>[]
def mX(y:Nat)(z1:Value)(l:List Int)(v v2:Value):Ga:=[(39,.eq (bP y)),(40,.eq (bP y)),(41,.eq (bP y)),(42,.eq (.pointer (some ⟨y,0+1,none⟩))),(43,.eq z1),(44,Ri l),(45,.eq v),(46,.rep (.slice .val) [v]),(47,.eq v2),(48,.eq (bP y)),(49,.eq (.pointer (some ⟨y,0+1,none⟩)))]
def mj(b2 y:Nat)(n i:Int)(l:List Int)(a1:List (List Int)):Ga:=[(2,.eq (bP b2)),(8,I n),(10,.eq (bP y)),(12,Ri l),(33,.rep (.slice (.slice (.int .i64))) a1),(34,I (a1.length:Int)),(35,I i)]
theorem Sz{i j:Int}:AE (.agg (.pair (I i) (I j))) (.rep fp (i,j)):=fun S w cs h=>by
 obtain⟨c1,c2,e,h1,h2⟩:=h
 exact⟨c1,c2,e,h1.1,h2.1⟩
def mV(k:Nat)(a1:List (List Int)):Nat→Int×List (List Int)→Option (List (List Int))
 |0,_=>none
 |n+1,q=>if q.1 < (a1.length:Int) then((aP a1 q.1).bind fun l=>(kW k l).bind fun l2=>if bq (q.2.length+1) then(ck (q.1+1)).bind fun w=>mV k a1 n (w,q.2++[l2]) else none) else some q.2
def lh(k:Nat)(t:aQ)(i:Int):Nat→Int×List (Int×Int)×List (List Int)→Option (List (Int×Int)×List (List Int))
 |0,_=>none
 |n+1,q=>if q.1 < (t.2.1.length:Int) then((nj k t (i,q.1) q.2.2).bind fun r=>if r.1=true then(if bq (q.2.1.length+1) then(ck (q.1+1)).bind fun w=>lh k t i n (w,q.2.1++[(i,q.1)],r.2) else none) else(ck (q.1+1)).bind fun w=>lh k t i n (w,q.2.1,r.2)) else some q.2
def jR(k:Nat)(t:aQ):Nat→Int×List (Int×Int)×List (List Int)→Option (List (Int×Int)×List (List Int))
 |0,_=>none
 |n+1,q=>if q.1 < (t.2.1.length:Int) then((ck (q.1+1)).bind fun w=>(lh k t q.1 k (w,q.2)).bind fun p=>jR k t n (w,p)) else some q.2
def vC(k:Nat)(a0:aQ)(a1:(List (List Int))):Option (Int×Int×Int×Int):=
 (qD k a0 a1).bind fun L=>if¬(L.2=0) then some (0,0,0,L.2) else
 (mV k a1 k (0,[])).bind fun ls=>(jR k a0 k (0,[],ls)).bind fun p=>(mg k a0 p.1 p.2).bind fun b=>
 if(!b.2.2.1 || decide (L.1≤b.2.1))=true then some (0,0,0,11) else some (b.1.1,b.1.2,b.2.1,0)
theorem Ag(k:Nat)(a0:aQ)(a1:(List (List Int)))(r:Int×Int×Int×Int)(h:vC k a0 a1=some r):
 dD (jg Tryz.prog) 19 [.rep an a0,.rep (.slice (.slice (.int .i64))) a1] [.inv 0 f8] (fun _:Unit=>(bp [.eq (.int .i64 r.1),.eq (.int .i64 r.2.1),.eq (.int .i64 r.2.2.1),.eq (.int .i64 r.2.2.2)],[.inv 0 f8])):=by
 unfold vC at h
 replace h:=ba h
 refine dD.of 97 Tryz.func19 rfl Tryz.ntmps19 rfl fun S w0=>?_
 refine ar ?_
 refine ab ?_
 refine aD rfl rfl rfl (pi rfl rfl) ⟨rfl,trivial⟩ fun b2=>?_
 refine dJ rfl ?_
 refine dJ rfl ?_
 refine dJ rfl ?_
 refine dJ rfl ?_
 refine ax ?_
 refine ag ?_
 show JC _ _ _ _ _
 obtain⟨L,eL,h⟩:=aa h
 have cL:=sD k a0 a1 L eL
 refine ar ?_
 refine ab ?_
 refine bX rfl rfl rfl (ah rfl Hr (zQ) rfl) ⟨rfl,trivial⟩ ?_
 refine aC rfl rfl ?_
 refine bI 1 rfl ?_
 refine bX rfl rfl rfl (fX [.tmp 21,.tmp 22] rfl rfl Ru rfl cL) ⟨rfl,rfl,trivial⟩ ?_
 refine aC rfl rfl ?_
 refine aF rfl (fH rfl rfl) ⟨rfl,trivial⟩ ?_
 refine aF rfl (fH rfl rfl) ⟨rfl,trivial⟩ ?_
 refine dk rfl rfl ?_
 refine dk rfl rfl ?_
 refine ax ?_
 refine ag ?_
 show JC _ _ _ _ _
 refine ar ?_
 refine ar ?_
 refine ab ?_
 refine aC rfl rfl ?_
 refine aF rfl (iZ rfl) ⟨rfl,rfl,trivial⟩ ?_
 refine ax ?_
 refine ag ?_
 show JC _ _ _ _ _
 refine bK rfl (fun hb=>?_) (fun hb=>?_)
 ·
  replace h:=cF (NG hb) h
  refine ar ?_
  refine ab ?_
  refine aC rfl rfl ?_
  refine dJ rfl ?_
  refine dJ rfl ?_
  refine dJ rfl ?_
  refine dk rfl rfl ?_
  refine ax ?_
  refine ag ?_
  show JC _ _ _ _ _
  refine bJ ?_
  refine eJ ?_
  obtain rfl:=Option.some.inj h
  exact aL () [_,_,_,_] 1 ⟨rfl,rfl,rfl,rfl,trivial⟩ rfl
 replace h:=bM (A2 hb) h
 refine cT ?_
 refine ag ?_
 show JC _ _ _ _ _
 rw [Option.bind_assoc] at h
 refine ar ?_
 refine ab ?_
 refine bI 1 rfl ?_
 refine bX rfl rfl rfl (ah rfl Hr (zQ) rfl) ⟨rfl,trivial⟩ ?_
 refine aD rfl rfl rfl (ao [.tmp 29] rfl rfl Rt rfl (gB a0)) ⟨rfl,trivial⟩ fun m=>?_
 refine co (kR (bu k a0) l5) ?_
 refine aF rfl (c9 [(0,.tmp 30,_)] rfl Og NW Py (iN ⟨trivial,trivial⟩) rfl) ⟨rfl,trivial⟩ ?_
 refine aD rfl rfl rfl (pi rfl trivial) ⟨rfl,trivial⟩ fun y=>?_
 refine dk rfl rfl ?_
 refine ax ?_
 refine ag ?_
 show JC _ _ _ _ _
 refine ar ?_
 refine ar ?_
 refine ab ?_
 refine aC rfl rfl ?_
 refine aF rfl (jq rfl rfl oh) ⟨rfl,trivial⟩ ?_
 refine eI rfl ?_
 refine co (SE.nil 23 .val) ?_
 refine co (fE (Δ':=[.obj y 93 (.agg (.pair (.at aw (a0,.map (some m))) (.eq (.slice none 0 0)))),.inv m (bu k a0),.obj b2 25 (.rep an a0),.inv 0 f8]++fD 23 (.slice none 0 0,fun _=>undef) []) (List.Perm.trans (List.perm_append_comm (l₁:=([.sl (.slice none 0 0) 23 .val []]:List D))) (List.Perm.refl _))) ?_
 refine ax ?_
 refine ag ?_
 show JC _ _ _ _ _
 refine aj ?_
 refine aH (Z:=Value×(Nat→Value)) (α:=Int×List (List Int)) (fun z q=>[(2,.eq (bP b2)),(8,.eq (.int .i64 L.1)),(10,.eq (bP y)),(33,.rep (.slice (.slice (.int .i64))) a1),(34,.eq (.int .i64 (a1.length:Int))),(35,.eq (.int .i64 q.1))]) (fun z q=>[.obj y 93 (.agg (.pair (.at aw (a0,.map (some m))) (.eq z.1))),.inv m (bu k a0),.obj b2 25 (.rep an a0),.inv 0 f8]++fD 23 z q.2) (mV k a1) k (.slice none 0 0,fun _=>undef) (0,[]) (fun _=>rfl) h (bm [.obj y 93 (.agg (.pair (.at aw (a0,.map (some m))) (.eq (.slice none 0 0)))),.inv m (bu k a0),.obj b2 25 (.rep an a0),.inv 0 f8] (fD 23 (.slice none 0 0,fun _=>undef) []) [0,1,2,3] ⟨rfl,rfl,rfl,rfl,rfl,rfl,trivial⟩ rfl) (fun n z q h=>?_)
 unfold mV at h
 refine ar ?_
 refine ab ?_
 refine aF rfl (bj rfl) ⟨rfl,rfl,trivial⟩ ?_
 refine ax ?_
 refine ag ?_
 show JC _ _ _ _ _
 refine ar ?_
 refine bK rfl (fun hb=>?_) (fun hb=>?_)
 ·
  replace h:=cF (oe hb) h
  obtain⟨q1,q2⟩:=q
  obtain⟨l,el,h⟩:=aa h
  obtain⟨l2,el2,h⟩:=aa h
  have hk:bq (q2.length+1):=by
   apply Classical.byContradiction
   intro hn
   rw [if_neg hn] at h
   cases h
  replace h:=cF hk h
  have cc:=nO k l l2 el2
  refine cT ?_
  refine ag ?_
  show JC _ _ _ _ _
  refine ar ?_
  refine aj ?_
  refine ar ?_
  refine ab ?_
  refine aF rfl (aG (t:=.slice (.int .i64)) rfl oh Ek el) ⟨rfl,rfl,trivial⟩ ?_
  refine aF rfl (ak (t:=.slice (.int .i64)) rfl Ek rfl) ⟨rfl,trivial⟩ ?_
  refine dk rfl rfl ?_
  refine ax ?_
  refine ag ?_
  show JC _ _ _ _ _
  refine dE (E2 (pre:=[.obj y 93 (.agg (.pair (.at aw (a0,.map (some m))) (.eq z.1))),.inv m (bu k a0),.obj b2 25 (.rep an a0),.inv 0 f8])) ?_
  refine dT 1 rfl ?_
  refine dE (SE.sub (Γ':=mj b2 y L.1 q1 l a1) ⟨rfl,rfl,rfl,rfl,rfl,rfl,rfl,trivial⟩) ?_
  generalize hB:mj b2 y L.1 q1 l a1=B
  refine tC (Δ:=[.obj y 93 (.agg (.pair (.at aw (a0,.map (some m))) (.eq z.1))),.sl z.1 23 .val (eB z.2 0 q2)]) (F:=[.inv m (bu k a0),.obj b2 25 (.rep an a0),.inv 0 f8]++kY z.2 0 q2) (Z:=Value×Value) (fun p=>B) (fun p=>[.obj y 93 (.agg (.pair (.at aw (a0,.map (some m))) (.eq p.2))),.sl p.2 23 .val (eB z.2 0 q2++[p.1]),.sl p.1 3 (.int .i64) l2]) (fun S w=>?_) (fun p=>?_)
  ·
   subst hB
   refine wZ (I:=Value×Value) (Ge:=fun _=>mj b2 y L.1 q1 l a1) (De:=fun p=>[.obj y 93 (.agg (.pair (.at aw (a0,.map (some m))) (.eq p.2))),.sl p.2 23 .val (eB z.2 0 q2++[p.1]),.sl p.1 3 (.int .i64) l2]) (L:=[true,true,true,true,true,true,true,true,true,true,true,true]) rV rfl (fun J hJ hE=>?_) (by kernel_rfl) (fun p=>?_)
   ·
    have s2047:∀(v v2:Value),J 1 [true,true,true,true,true,true,true,true,true,true,true,false] (fC [true,true,true,true,true,true,true,true,true,true,true,false] (mX y z.1 l v v2)++mj b2 y L.1 q1 l a1) [.obj y 93 (.agg (.pair (.at aw (a0,.map (some m))) (.eq z.1))),.sl v2 23 .val (eB z.2 0 q2++[v]),.sl v 3 (.int .i64) l2]:=fun v v2=>by
     subst hJ
     refine JD.step [11] (by kernel_rfl) rfl ?_
     refine ct.cons rfl ?_ ?_
     ·
      refine bI 1 rfl ?_
      refine fA fun hv=>?_
      refine bI 1 rfl ?_
      refine a8 rfl rfl (aX rfl o7 hv rfl rfl) ⟨rfl,rfl,trivial⟩ ?_
      exact aB (hE (v,v2)) [0,1,2] ⟨rfl,rfl,rfl,rfl,rfl,rfl,rfl,trivial⟩
     exact trivial
    have s1023:∀(v v2:Value),J 2 [true,true,true,true,true,true,true,true,true,true,false,false] (fC [true,true,true,true,true,true,true,true,true,true,false,false] (mX y z.1 l v v2)++mj b2 y L.1 q1 l a1) [.obj y 93 (.agg (.pair (.at aw (a0,.map (some m))) (.eq z.1))),.sl v2 23 .val (eB z.2 0 q2++[v]),.sl v 3 (.int .i64) l2]:=fun v v2=>by
     subst hJ
     refine JD.step [10] (by kernel_rfl) rfl ?_
     refine ct.cons rfl ?_ ?_
     ·
      refine aF rfl (av rfl vb) ⟨rfl,trivial⟩ ?_
      exact aB (s2047 v v2) [0,1,2] ⟨rfl,rfl,rfl,rfl,rfl,rfl,rfl,rfl,rfl,rfl,rfl,rfl,rfl,rfl,rfl,rfl,rfl,rfl,trivial⟩
     exact trivial
    have s511:∀(v v2:Value),J 3 [true,true,true,true,true,true,true,true,true,false,false,false] (fC [true,true,true,true,true,true,true,true,true,false,false,false] (mX y z.1 l v v2)++mj b2 y L.1 q1 l a1) [.obj y 93 (.agg (.pair (.at aw (a0,.map (some m))) (.eq z.1))),.sl v2 23 .val (eB z.2 0 q2++[v]),.sl v 3 (.int .i64) l2]:=fun v v2=>by
     subst hJ
     refine JD.step [9] (by kernel_rfl) rfl ?_
     refine ct.cons rfl ?_ ?_
     ·
      refine aF rfl (bb rfl) ⟨rfl,trivial⟩ ?_
      exact aB (s1023 v v2) [0,1,2] ⟨rfl,rfl,rfl,rfl,rfl,rfl,rfl,rfl,rfl,rfl,rfl,rfl,rfl,rfl,rfl,rfl,rfl,trivial⟩
     exact trivial
    have s255:∀(v:Value),J 4 [true,true,true,true,true,true,true,true,false,false,false,false] (fC [true,true,true,true,true,true,true,true,false,false,false,false] (mX y z.1 l v undef)++mj b2 y L.1 q1 l a1) [.obj y 93 (.agg (.pair (.at aw (a0,.map (some m))) (.eq z.1))),.sl z.1 23 .val (eB z.2 0 q2),.sl v 3 (.int .i64) l2]:=fun v=>by
     subst hJ
     refine JD.step [8] (by kernel_rfl) rfl ?_
     refine ct.cons rfl ?_ ?_
     ·
      refine bI 1 rfl ?_
      refine cp rfl rfl rfl (be rfl rfl pe (by simpa [g9] using hk)) ⟨rfl,rfl,trivial⟩ fun v2=>?_
      exact aB (s511 v v2) [1,0,2] ⟨rfl,rfl,rfl,rfl,rfl,rfl,rfl,rfl,rfl,rfl,rfl,rfl,rfl,rfl,rfl,rfl,trivial⟩
     exact trivial
    have s510:∀(v v2:Value),J 4 [false,true,true,true,true,true,true,true,true,false,false,false] (fC [false,true,true,true,true,true,true,true,true,false,false,false] (mX y z.1 l v v2)++mj b2 y L.1 q1 l a1) [.obj y 93 (.agg (.pair (.at aw (a0,.map (some m))) (.eq z.1))),.sl v2 23 .val (eB z.2 0 q2++[v]),.sl v 3 (.int .i64) l2]:=fun v v2=>by
     subst hJ
     refine JD.step [0] (by kernel_rfl) rfl ?_
     refine ct.cons rfl ?_ ?_
     ·
      refine aC rfl rfl ?_
      exact aB (s511 v v2) [0,1,2] ⟨rfl,rfl,rfl,rfl,rfl,rfl,rfl,rfl,rfl,rfl,rfl,rfl,rfl,rfl,rfl,rfl,trivial⟩
     exact trivial
    have s127:∀(v:Value),J 5 [true,true,true,true,true,true,true,false,false,false,false,false] (fC [true,true,true,true,true,true,true,false,false,false,false,false] (mX y z.1 l v undef)++mj b2 y L.1 q1 l a1) [.obj y 93 (.agg (.pair (.at aw (a0,.map (some m))) (.eq z.1))),.sl z.1 23 .val (eB z.2 0 q2),.sl v 3 (.int .i64) l2]:=fun v=>by
     subst hJ
     refine JD.step [7] (by kernel_rfl) rfl ?_
     refine ct.cons rfl ?_ ?_
     ·
      refine bI 2 rfl ?_
      refine fA fun hv=>?_
      refine aF rfl (bh (t:=.val) [(.tmp 45,.eq v)] [v] rfl rfl pe (.cons hv (.val hv) .nil) rfl rfl) ⟨rfl,trivial⟩ ?_
      exact aB (s255 v) [1,2,0] ⟨rfl,rfl,rfl,rfl,rfl,rfl,rfl,rfl,rfl,rfl,rfl,rfl,rfl,rfl,rfl,trivial⟩
     exact trivial
    have s239:∀(v:Value),J 5 [true,true,true,true,false,true,true,true,false,false,false,false] (fC [true,true,true,true,false,true,true,true,false,false,false,false] (mX y z.1 l v undef)++mj b2 y L.1 q1 l a1) [.obj y 93 (.agg (.pair (.at aw (a0,.map (some m))) (.eq z.1))),.sl z.1 23 .val (eB z.2 0 q2),.sl v 3 (.int .i64) l2]:=fun v=>by
     subst hJ
     refine JD.step [4] (by kernel_rfl) rfl ?_
     refine ct.cons rfl ?_ ?_
     ·
      refine bX rfl rfl rfl (ah rfl o7 jw rfl) ⟨rfl,trivial⟩ ?_
      exact aB (s255 v) [0,1,2] ⟨rfl,rfl,rfl,rfl,rfl,rfl,rfl,rfl,rfl,rfl,rfl,rfl,rfl,rfl,rfl,trivial⟩
     exact trivial
    have s254:∀(v:Value),J 5 [false,true,true,true,true,true,true,true,false,false,false,false] (fC [false,true,true,true,true,true,true,true,false,false,false,false] (mX y z.1 l v undef)++mj b2 y L.1 q1 l a1) [.obj y 93 (.agg (.pair (.at aw (a0,.map (some m))) (.eq z.1))),.sl z.1 23 .val (eB z.2 0 q2),.sl v 3 (.int .i64) l2]:=fun v=>by
     subst hJ
     refine JD.step [0,8] (by kernel_rfl) rfl ?_
     refine ct.cons rfl ?_ ?_
     ·
      refine aC rfl rfl ?_
      exact aB (s255 v) [0,1,2] ⟨rfl,rfl,rfl,rfl,rfl,rfl,rfl,rfl,rfl,rfl,rfl,rfl,rfl,rfl,rfl,trivial⟩
     refine ct.cons rfl ?_ ?_
     ·
      refine bI 1 rfl ?_
      refine cp rfl rfl rfl (be rfl rfl pe (by simpa [g9] using hk)) ⟨rfl,rfl,trivial⟩ fun v2=>?_
      exact aB (s510 v v2) [1,0,2] ⟨rfl,rfl,rfl,rfl,rfl,rfl,rfl,rfl,rfl,rfl,rfl,rfl,rfl,rfl,rfl,trivial⟩
     exact trivial
    have s63:J 6 [true,true,true,true,true,true,false,false,false,false,false,false] (fC [true,true,true,true,true,true,false,false,false,false,false,false] (mX y z.1 l undef undef)++mj b2 y L.1 q1 l a1) [.obj y 93 (.agg (.pair (.at aw (a0,.map (some m))) (.eq z.1))),.sl z.1 23 .val (eB z.2 0 q2)]:=by
     subst hJ
     refine JD.step [6] (by kernel_rfl) rfl ?_
     refine ct.cons rfl ?_ ?_
     ·
      refine aD rfl rfl rfl (ao [.tmp 44] rfl rfl rC rfl cc) ⟨rfl,trivial⟩ fun v=>?_
      exact aB (s127 v) [1,2,0] ⟨rfl,rfl,rfl,rfl,rfl,rfl,rfl,rfl,rfl,rfl,rfl,rfl,rfl,rfl,trivial⟩
     exact trivial
    have s111:∀(v:Value),J 6 [true,true,true,true,false,true,true,false,false,false,false,false] (fC [true,true,true,true,false,true,true,false,false,false,false,false] (mX y z.1 l v undef)++mj b2 y L.1 q1 l a1) [.obj y 93 (.agg (.pair (.at aw (a0,.map (some m))) (.eq z.1))),.sl z.1 23 .val (eB z.2 0 q2),.sl v 3 (.int .i64) l2]:=fun v=>by
     subst hJ
     refine JD.step [4,7] (by kernel_rfl) rfl ?_
     refine ct.cons rfl ?_ ?_
     ·
      refine bX rfl rfl rfl (ah rfl o7 jw rfl) ⟨rfl,trivial⟩ ?_
      exact aB (s127 v) [0,1,2] ⟨rfl,rfl,rfl,rfl,rfl,rfl,rfl,rfl,rfl,rfl,rfl,rfl,rfl,rfl,trivial⟩
     refine ct.cons rfl ?_ ?_
     ·
      refine bI 2 rfl ?_
      refine fA fun hv=>?_
      refine aF rfl (bh (t:=.val) [(.tmp 45,.eq v)] [v] rfl rfl pe (.cons hv (.val hv) .nil) rfl rfl) ⟨rfl,trivial⟩ ?_
      exact aB (s239 v) [1,2,0] ⟨rfl,rfl,rfl,rfl,rfl,rfl,rfl,rfl,rfl,rfl,rfl,rfl,rfl,rfl,trivial⟩
     exact trivial
    have s126:∀(v:Value),J 6 [false,true,true,true,true,true,true,false,false,false,false,false] (fC [false,true,true,true,true,true,true,false,false,false,false,false] (mX y z.1 l v undef)++mj b2 y L.1 q1 l a1) [.obj y 93 (.agg (.pair (.at aw (a0,.map (some m))) (.eq z.1))),.sl z.1 23 .val (eB z.2 0 q2),.sl v 3 (.int .i64) l2]:=fun v=>by
     subst hJ
     refine JD.step [0,7] (by kernel_rfl) rfl ?_
     refine ct.cons rfl ?_ ?_
     ·
      refine aC rfl rfl ?_
      exact aB (s127 v) [0,1,2] ⟨rfl,rfl,rfl,rfl,rfl,rfl,rfl,rfl,rfl,rfl,rfl,rfl,rfl,rfl,trivial⟩
     refine ct.cons rfl ?_ ?_
     ·
      refine bI 2 rfl ?_
      refine fA fun hv=>?_
      refine aF rfl (bh (t:=.val) [(.tmp 45,.eq v)] [v] rfl rfl pe (.cons hv (.val hv) .nil) rfl rfl) ⟨rfl,trivial⟩ ?_
      exact aB (s254 v) [1,2,0] ⟨rfl,rfl,rfl,rfl,rfl,rfl,rfl,rfl,rfl,rfl,rfl,rfl,rfl,rfl,trivial⟩
     exact trivial
    have s231:∀(v:Value),J 6 [true,true,true,false,false,true,true,true,false,false,false,false] (fC [true,true,true,false,false,true,true,true,false,false,false,false] (mX y z.1 l v undef)++mj b2 y L.1 q1 l a1) [.obj y 93 (.agg (.pair (.at aw (a0,.map (some m))) (.eq z.1))),.sl z.1 23 .val (eB z.2 0 q2),.sl v 3 (.int .i64) l2]:=fun v=>by
     subst hJ
     refine JD.step [3] (by kernel_rfl) rfl ?_
     refine ct.cons rfl ?_ ?_
     ·
      refine aF rfl (av rfl vb) ⟨rfl,trivial⟩ ?_
      exact aB (s239 v) [0,1,2] ⟨rfl,rfl,rfl,rfl,rfl,rfl,rfl,rfl,rfl,rfl,rfl,rfl,rfl,rfl,trivial⟩
     exact trivial
    have s238:∀(v:Value),J 6 [false,true,true,true,false,true,true,true,false,false,false,false] (fC [false,true,true,true,false,true,true,true,false,false,false,false] (mX y z.1 l v undef)++mj b2 y L.1 q1 l a1) [.obj y 93 (.agg (.pair (.at aw (a0,.map (some m))) (.eq z.1))),.sl z.1 23 .val (eB z.2 0 q2),.sl v 3 (.int .i64) l2]:=fun v=>by
     subst hJ
     refine JD.step [0,4] (by kernel_rfl) rfl ?_
     refine ct.cons rfl ?_ ?_
     ·
      refine aC rfl rfl ?_
      exact aB (s239 v) [0,1,2] ⟨rfl,rfl,rfl,rfl,rfl,rfl,rfl,rfl,rfl,rfl,rfl,rfl,rfl,rfl,trivial⟩
     refine ct.cons rfl ?_ ?_
     ·
      refine bX rfl rfl rfl (ah rfl o7 jw rfl) ⟨rfl,trivial⟩ ?_
      exact aB (s254 v) [0,1,2] ⟨rfl,rfl,rfl,rfl,rfl,rfl,rfl,rfl,rfl,rfl,rfl,rfl,rfl,rfl,trivial⟩
     exact trivial
    have s31:J 7 [true,true,true,true,true,false,false,false,false,false,false,false] (fC [true,true,true,true,true,false,false,false,false,false,false,false] (mX y z.1 l undef undef)++mj b2 y L.1 q1 l a1) [.obj y 93 (.agg (.pair (.at aw (a0,.map (some m))) (.eq z.1))),.sl z.1 23 .val (eB z.2 0 q2)]:=by
     subst hJ
     refine JD.step [5] (by kernel_rfl) rfl ?_
     refine ct.cons rfl ?_ ?_
     ·
      refine aC rfl rfl ?_
      exact aB (s63) [0,1] ⟨rfl,rfl,rfl,rfl,rfl,rfl,rfl,rfl,rfl,rfl,rfl,rfl,rfl,trivial⟩
     exact trivial
    have s47:J 7 [true,true,true,true,false,true,false,false,false,false,false,false] (fC [true,true,true,true,false,true,false,false,false,false,false,false] (mX y z.1 l undef undef)++mj b2 y L.1 q1 l a1) [.obj y 93 (.agg (.pair (.at aw (a0,.map (some m))) (.eq z.1))),.sl z.1 23 .val (eB z.2 0 q2)]:=by
     subst hJ
     refine JD.step [4,6] (by kernel_rfl) rfl ?_
     refine ct.cons rfl ?_ ?_
     ·
      refine bX rfl rfl rfl (ah rfl o7 jw rfl) ⟨rfl,trivial⟩ ?_
      exact aB (s63) [0,1] ⟨rfl,rfl,rfl,rfl,rfl,rfl,rfl,rfl,rfl,rfl,rfl,rfl,rfl,trivial⟩
     refine ct.cons rfl ?_ ?_
     ·
      refine aD rfl rfl rfl (ao [.tmp 44] rfl rfl rC rfl cc) ⟨rfl,trivial⟩ fun v=>?_
      exact aB (s111 v) [1,2,0] ⟨rfl,rfl,rfl,rfl,rfl,rfl,rfl,rfl,rfl,rfl,rfl,rfl,rfl,trivial⟩
     exact trivial
    have s62:J 7 [false,true,true,true,true,true,false,false,false,false,false,false] (fC [false,true,true,true,true,true,false,false,false,false,false,false] (mX y z.1 l undef undef)++mj b2 y L.1 q1 l a1) [.obj y 93 (.agg (.pair (.at aw (a0,.map (some m))) (.eq z.1))),.sl z.1 23 .val (eB z.2 0 q2)]:=by
     subst hJ
     refine JD.step [0,6] (by kernel_rfl) rfl ?_
     refine ct.cons rfl ?_ ?_
     ·
      refine aC rfl rfl ?_
      exact aB (s63) [0,1] ⟨rfl,rfl,rfl,rfl,rfl,rfl,rfl,rfl,rfl,rfl,rfl,rfl,rfl,trivial⟩
     refine ct.cons rfl ?_ ?_
     ·
      refine aD rfl rfl rfl (ao [.tmp 44] rfl rfl rC rfl cc) ⟨rfl,trivial⟩ fun v=>?_
      exact aB (s126 v) [1,2,0] ⟨rfl,rfl,rfl,rfl,rfl,rfl,rfl,rfl,rfl,rfl,rfl,rfl,rfl,trivial⟩
     exact trivial
    have s103:∀(v:Value),J 7 [true,true,true,false,false,true,true,false,false,false,false,false] (fC [true,true,true,false,false,true,true,false,false,false,false,false] (mX y z.1 l v undef)++mj b2 y L.1 q1 l a1) [.obj y 93 (.agg (.pair (.at aw (a0,.map (some m))) (.eq z.1))),.sl z.1 23 .val (eB z.2 0 q2),.sl v 3 (.int .i64) l2]:=fun v=>by
     subst hJ
     refine JD.step [3,7] (by kernel_rfl) rfl ?_
     refine ct.cons rfl ?_ ?_
     ·
      refine aF rfl (av rfl vb) ⟨rfl,trivial⟩ ?_
      exact aB (s111 v) [0,1,2] ⟨rfl,rfl,rfl,rfl,rfl,rfl,rfl,rfl,rfl,rfl,rfl,rfl,rfl,trivial⟩
     refine ct.cons rfl ?_ ?_
     ·
      refine bI 2 rfl ?_
      refine fA fun hv=>?_
      refine aF rfl (bh (t:=.val) [(.tmp 45,.eq v)] [v] rfl rfl pe (.cons hv (.val hv) .nil) rfl rfl) ⟨rfl,trivial⟩ ?_
      exact aB (s231 v) [1,2,0] ⟨rfl,rfl,rfl,rfl,rfl,rfl,rfl,rfl,rfl,rfl,rfl,rfl,rfl,trivial⟩
     exact trivial
    have s110:∀(v:Value),J 7 [false,true,true,true,false,true,true,false,false,false,false,false] (fC [false,true,true,true,false,true,true,false,false,false,false,false] (mX y z.1 l v undef)++mj b2 y L.1 q1 l a1) [.obj y 93 (.agg (.pair (.at aw (a0,.map (some m))) (.eq z.1))),.sl z.1 23 .val (eB z.2 0 q2),.sl v 3 (.int .i64) l2]:=fun v=>by
     subst hJ
     refine JD.step [0,4,7] (by kernel_rfl) rfl ?_
     refine ct.cons rfl ?_ ?_
     ·
      refine aC rfl rfl ?_
      exact aB (s111 v) [0,1,2] ⟨rfl,rfl,rfl,rfl,rfl,rfl,rfl,rfl,rfl,rfl,rfl,rfl,rfl,trivial⟩
     refine ct.cons rfl ?_ ?_
     ·
      refine bX rfl rfl rfl (ah rfl o7 jw rfl) ⟨rfl,trivial⟩ ?_
      exact aB (s126 v) [0,1,2] ⟨rfl,rfl,rfl,rfl,rfl,rfl,rfl,rfl,rfl,rfl,rfl,rfl,rfl,trivial⟩
     refine ct.cons rfl ?_ ?_
     ·
      refine bI 2 rfl ?_
      refine fA fun hv=>?_
      refine aF rfl (bh (t:=.val) [(.tmp 45,.eq v)] [v] rfl rfl pe (.cons hv (.val hv) .nil) rfl rfl) ⟨rfl,trivial⟩ ?_
      exact aB (s238 v) [1,2,0] ⟨rfl,rfl,rfl,rfl,rfl,rfl,rfl,rfl,rfl,rfl,rfl,rfl,rfl,trivial⟩
     exact trivial
    have s227:∀(v:Value),J 7 [true,true,false,false,false,true,true,true,false,false,false,false] (fC [true,true,false,false,false,true,true,true,false,false,false,false] (mX y z.1 l v undef)++mj b2 y L.1 q1 l a1) [.obj y 93 (.agg (.pair (.at aw (a0,.map (some m))) (.eq z.1))),.sl z.1 23 .val (eB z.2 0 q2),.sl v 3 (.int .i64) l2]:=fun v=>by
     subst hJ
     refine JD.step [2] (by kernel_rfl) rfl ?_
     refine ct.cons rfl ?_ ?_
     ·
      refine aF rfl (bb rfl) ⟨rfl,trivial⟩ ?_
      exact aB (s231 v) [0,1,2] ⟨rfl,rfl,rfl,rfl,rfl,rfl,rfl,rfl,rfl,rfl,rfl,rfl,rfl,trivial⟩
     exact trivial
    have s230:∀(v:Value),J 7 [false,true,true,false,false,true,true,true,false,false,false,false] (fC [false,true,true,false,false,true,true,true,false,false,false,false] (mX y z.1 l v undef)++mj b2 y L.1 q1 l a1) [.obj y 93 (.agg (.pair (.at aw (a0,.map (some m))) (.eq z.1))),.sl z.1 23 .val (eB z.2 0 q2),.sl v 3 (.int .i64) l2]:=fun v=>by
     subst hJ
     refine JD.step [0,3] (by kernel_rfl) rfl ?_
     refine ct.cons rfl ?_ ?_
     ·
      refine aC rfl rfl ?_
      exact aB (s231 v) [0,1,2] ⟨rfl,rfl,rfl,rfl,rfl,rfl,rfl,rfl,rfl,rfl,rfl,rfl,rfl,trivial⟩
     refine ct.cons rfl ?_ ?_
     ·
      refine aF rfl (av rfl vb) ⟨rfl,trivial⟩ ?_
      exact aB (s238 v) [0,1,2] ⟨rfl,rfl,rfl,rfl,rfl,rfl,rfl,rfl,rfl,rfl,rfl,rfl,rfl,trivial⟩
     exact trivial
    have s15:J 8 [true,true,true,true,false,false,false,false,false,false,false,false] (fC [true,true,true,true,false,false,false,false,false,false,false,false] (mX y z.1 l undef undef)++mj b2 y L.1 q1 l a1) [.obj y 93 (.agg (.pair (.at aw (a0,.map (some m))) (.eq z.1))),.sl z.1 23 .val (eB z.2 0 q2)]:=by
     subst hJ
     refine JD.step [4,5] (by kernel_rfl) rfl ?_
     refine ct.cons rfl ?_ ?_
     ·
      refine bX rfl rfl rfl (ah rfl o7 jw rfl) ⟨rfl,trivial⟩ ?_
      exact aB (s31) [0,1] ⟨rfl,rfl,rfl,rfl,rfl,rfl,rfl,rfl,rfl,rfl,rfl,rfl,trivial⟩
     refine ct.cons rfl ?_ ?_
     ·
      refine aC rfl rfl ?_
      exact aB (s47) [0,1] ⟨rfl,rfl,rfl,rfl,rfl,rfl,rfl,rfl,rfl,rfl,rfl,rfl,trivial⟩
     exact trivial
    have s30:J 8 [false,true,true,true,true,false,false,false,false,false,false,false] (fC [false,true,true,true,true,false,false,false,false,false,false,false] (mX y z.1 l undef undef)++mj b2 y L.1 q1 l a1) [.obj y 93 (.agg (.pair (.at aw (a0,.map (some m))) (.eq z.1))),.sl z.1 23 .val (eB z.2 0 q2)]:=by
     subst hJ
     refine JD.step [0,5] (by kernel_rfl) rfl ?_
     refine ct.cons rfl ?_ ?_
     ·
      refine aC rfl rfl ?_
      exact aB (s31) [0,1] ⟨rfl,rfl,rfl,rfl,rfl,rfl,rfl,rfl,rfl,rfl,rfl,rfl,trivial⟩
     refine ct.cons rfl ?_ ?_
     ·
      refine aC rfl rfl ?_
      exact aB (s62) [0,1] ⟨rfl,rfl,rfl,rfl,rfl,rfl,rfl,rfl,rfl,rfl,rfl,rfl,trivial⟩
     exact trivial
    have s39:J 8 [true,true,true,false,false,true,false,false,false,false,false,false] (fC [true,true,true,false,false,true,false,false,false,false,false,false] (mX y z.1 l undef undef)++mj b2 y L.1 q1 l a1) [.obj y 93 (.agg (.pair (.at aw (a0,.map (some m))) (.eq z.1))),.sl z.1 23 .val (eB z.2 0 q2)]:=by
     subst hJ
     refine JD.step [3,6] (by kernel_rfl) rfl ?_
     refine ct.cons rfl ?_ ?_
     ·
      refine aF rfl (av rfl vb) ⟨rfl,trivial⟩ ?_
      exact aB (s47) [0,1] ⟨rfl,rfl,rfl,rfl,rfl,rfl,rfl,rfl,rfl,rfl,rfl,rfl,trivial⟩
     refine ct.cons rfl ?_ ?_
     ·
      refine aD rfl rfl rfl (ao [.tmp 44] rfl rfl rC rfl cc) ⟨rfl,trivial⟩ fun v=>?_
      exact aB (s103 v) [1,2,0] ⟨rfl,rfl,rfl,rfl,rfl,rfl,rfl,rfl,rfl,rfl,rfl,rfl,trivial⟩
     exact trivial
    have s46:J 8 [false,true,true,true,false,true,false,false,false,false,false,false] (fC [false,true,true,true,false,true,false,false,false,false,false,false] (mX y z.1 l undef undef)++mj b2 y L.1 q1 l a1) [.obj y 93 (.agg (.pair (.at aw (a0,.map (some m))) (.eq z.1))),.sl z.1 23 .val (eB z.2 0 q2)]:=by
     subst hJ
     refine JD.step [0,4,6] (by kernel_rfl) rfl ?_
     refine ct.cons rfl ?_ ?_
     ·
      refine aC rfl rfl ?_
      exact aB (s47) [0,1] ⟨rfl,rfl,rfl,rfl,rfl,rfl,rfl,rfl,rfl,rfl,rfl,rfl,trivial⟩
     refine ct.cons rfl ?_ ?_
     ·
      refine bX rfl rfl rfl (ah rfl o7 jw rfl) ⟨rfl,trivial⟩ ?_
      exact aB (s62) [0,1] ⟨rfl,rfl,rfl,rfl,rfl,rfl,rfl,rfl,rfl,rfl,rfl,rfl,trivial⟩
     refine ct.cons rfl ?_ ?_
     ·
      refine aD rfl rfl rfl (ao [.tmp 44] rfl rfl rC rfl cc) ⟨rfl,trivial⟩ fun v=>?_
      exact aB (s110 v) [1,2,0] ⟨rfl,rfl,rfl,rfl,rfl,rfl,rfl,rfl,rfl,rfl,rfl,rfl,trivial⟩
     exact trivial
    have s99:∀(v:Value),J 8 [true,true,false,false,false,true,true,false,false,false,false,false] (fC [true,true,false,false,false,true,true,false,false,false,false,false] (mX y z.1 l v undef)++mj b2 y L.1 q1 l a1) [.obj y 93 (.agg (.pair (.at aw (a0,.map (some m))) (.eq z.1))),.sl z.1 23 .val (eB z.2 0 q2),.sl v 3 (.int .i64) l2]:=fun v=>by
     subst hJ
     refine JD.step [2,7] (by kernel_rfl) rfl ?_
     refine ct.cons rfl ?_ ?_
     ·
      refine aF rfl (bb rfl) ⟨rfl,trivial⟩ ?_
      exact aB (s103 v) [0,1,2] ⟨rfl,rfl,rfl,rfl,rfl,rfl,rfl,rfl,rfl,rfl,rfl,rfl,trivial⟩
     refine ct.cons rfl ?_ ?_
     ·
      refine bI 2 rfl ?_
      refine fA fun hv=>?_
      refine aF rfl (bh (t:=.val) [(.tmp 45,.eq v)] [v] rfl rfl pe (.cons hv (.val hv) .nil) rfl rfl) ⟨rfl,trivial⟩ ?_
      exact aB (s227 v) [1,2,0] ⟨rfl,rfl,rfl,rfl,rfl,rfl,rfl,rfl,rfl,rfl,rfl,rfl,trivial⟩
     exact trivial
    have s102:∀(v:Value),J 8 [false,true,true,false,false,true,true,false,false,false,false,false] (fC [false,true,true,false,false,true,true,false,false,false,false,false] (mX y z.1 l v undef)++mj b2 y L.1 q1 l a1) [.obj y 93 (.agg (.pair (.at aw (a0,.map (some m))) (.eq z.1))),.sl z.1 23 .val (eB z.2 0 q2),.sl v 3 (.int .i64) l2]:=fun v=>by
     subst hJ
     refine JD.step [0,3,7] (by kernel_rfl) rfl ?_
     refine ct.cons rfl ?_ ?_
     ·
      refine aC rfl rfl ?_
      exact aB (s103 v) [0,1,2] ⟨rfl,rfl,rfl,rfl,rfl,rfl,rfl,rfl,rfl,rfl,rfl,rfl,trivial⟩
     refine ct.cons rfl ?_ ?_
     ·
      refine aF rfl (av rfl vb) ⟨rfl,trivial⟩ ?_
      exact aB (s110 v) [0,1,2] ⟨rfl,rfl,rfl,rfl,rfl,rfl,rfl,rfl,rfl,rfl,rfl,rfl,trivial⟩
     refine ct.cons rfl ?_ ?_
     ·
      refine bI 2 rfl ?_
      refine fA fun hv=>?_
      refine aF rfl (bh (t:=.val) [(.tmp 45,.eq v)] [v] rfl rfl pe (.cons hv (.val hv) .nil) rfl rfl) ⟨rfl,trivial⟩ ?_
      exact aB (s230 v) [1,2,0] ⟨rfl,rfl,rfl,rfl,rfl,rfl,rfl,rfl,rfl,rfl,rfl,rfl,trivial⟩
     exact trivial
    have s225:∀(v:Value),J 8 [true,false,false,false,false,true,true,true,false,false,false,false] (fC [true,false,false,false,false,true,true,true,false,false,false,false] (mX y z.1 l v undef)++mj b2 y L.1 q1 l a1) [.obj y 93 (.agg (.pair (.at aw (a0,.map (some m))) (.eq z.1))),.sl z.1 23 .val (eB z.2 0 q2),.sl v 3 (.int .i64) l2]:=fun v=>by
     subst hJ
     refine JD.step [1] (by kernel_rfl) rfl ?_
     refine ct.cons rfl ?_ ?_
     ·
      refine aC rfl rfl ?_
      exact aB (s227 v) [0,1,2] ⟨rfl,rfl,rfl,rfl,rfl,rfl,rfl,rfl,rfl,rfl,rfl,rfl,trivial⟩
     exact trivial
    have s226:∀(v:Value),J 8 [false,true,false,false,false,true,true,true,false,false,false,false] (fC [false,true,false,false,false,true,true,true,false,false,false,false] (mX y z.1 l v undef)++mj b2 y L.1 q1 l a1) [.obj y 93 (.agg (.pair (.at aw (a0,.map (some m))) (.eq z.1))),.sl z.1 23 .val (eB z.2 0 q2),.sl v 3 (.int .i64) l2]:=fun v=>by
     subst hJ
     refine JD.step [0,2] (by kernel_rfl) rfl ?_
     refine ct.cons rfl ?_ ?_
     ·
      refine aC rfl rfl ?_
      exact aB (s227 v) [0,1,2] ⟨rfl,rfl,rfl,rfl,rfl,rfl,rfl,rfl,rfl,rfl,rfl,rfl,trivial⟩
     refine ct.cons rfl ?_ ?_
     ·
      refine aF rfl (bb rfl) ⟨rfl,trivial⟩ ?_
      exact aB (s230 v) [0,1,2] ⟨rfl,rfl,rfl,rfl,rfl,rfl,rfl,rfl,rfl,rfl,rfl,rfl,trivial⟩
     exact trivial
    have s7:J 9 [true,true,true,false,false,false,false,false,false,false,false,false] (fC [true,true,true,false,false,false,false,false,false,false,false,false] (mX y z.1 l undef undef)++mj b2 y L.1 q1 l a1) [.obj y 93 (.agg (.pair (.at aw (a0,.map (some m))) (.eq z.1))),.sl z.1 23 .val (eB z.2 0 q2)]:=by
     subst hJ
     refine JD.step [3,5] (by kernel_rfl) rfl ?_
     refine ct.cons rfl ?_ ?_
     ·
      refine aF rfl (av rfl vb) ⟨rfl,trivial⟩ ?_
      exact aB (s15) [0,1] ⟨rfl,rfl,rfl,rfl,rfl,rfl,rfl,rfl,rfl,rfl,rfl,trivial⟩
     refine ct.cons rfl ?_ ?_
     ·
      refine aC rfl rfl ?_
      exact aB (s39) [0,1] ⟨rfl,rfl,rfl,rfl,rfl,rfl,rfl,rfl,rfl,rfl,rfl,trivial⟩
     exact trivial
    have s14:J 9 [false,true,true,true,false,false,false,false,false,false,false,false] (fC [false,true,true,true,false,false,false,false,false,false,false,false] (mX y z.1 l undef undef)++mj b2 y L.1 q1 l a1) [.obj y 93 (.agg (.pair (.at aw (a0,.map (some m))) (.eq z.1))),.sl z.1 23 .val (eB z.2 0 q2)]:=by
     subst hJ
     refine JD.step [0,4,5] (by kernel_rfl) rfl ?_
     refine ct.cons rfl ?_ ?_
     ·
      refine aC rfl rfl ?_
      exact aB (s15) [0,1] ⟨rfl,rfl,rfl,rfl,rfl,rfl,rfl,rfl,rfl,rfl,rfl,trivial⟩
     refine ct.cons rfl ?_ ?_
     ·
      refine bX rfl rfl rfl (ah rfl o7 jw rfl) ⟨rfl,trivial⟩ ?_
      exact aB (s30) [0,1] ⟨rfl,rfl,rfl,rfl,rfl,rfl,rfl,rfl,rfl,rfl,rfl,trivial⟩
     refine ct.cons rfl ?_ ?_
     ·
      refine aC rfl rfl ?_
      exact aB (s46) [0,1] ⟨rfl,rfl,rfl,rfl,rfl,rfl,rfl,rfl,rfl,rfl,rfl,trivial⟩
     exact trivial
    have s35:J 9 [true,true,false,false,false,true,false,false,false,false,false,false] (fC [true,true,false,false,false,true,false,false,false,false,false,false] (mX y z.1 l undef undef)++mj b2 y L.1 q1 l a1) [.obj y 93 (.agg (.pair (.at aw (a0,.map (some m))) (.eq z.1))),.sl z.1 23 .val (eB z.2 0 q2)]:=by
     subst hJ
     refine JD.step [2,6] (by kernel_rfl) rfl ?_
     refine ct.cons rfl ?_ ?_
     ·
      refine aF rfl (bb rfl) ⟨rfl,trivial⟩ ?_
      exact aB (s39) [0,1] ⟨rfl,rfl,rfl,rfl,rfl,rfl,rfl,rfl,rfl,rfl,rfl,trivial⟩
     refine ct.cons rfl ?_ ?_
     ·
      refine aD rfl rfl rfl (ao [.tmp 44] rfl rfl rC rfl cc) ⟨rfl,trivial⟩ fun v=>?_
      exact aB (s99 v) [1,2,0] ⟨rfl,rfl,rfl,rfl,rfl,rfl,rfl,rfl,rfl,rfl,rfl,trivial⟩
     exact trivial
    have s38:J 9 [false,true,true,false,false,true,false,false,false,false,false,false] (fC [false,true,true,false,false,true,false,false,false,false,false,false] (mX y z.1 l undef undef)++mj b2 y L.1 q1 l a1) [.obj y 93 (.agg (.pair (.at aw (a0,.map (some m))) (.eq z.1))),.sl z.1 23 .val (eB z.2 0 q2)]:=by
     subst hJ
     refine JD.step [0,3,6] (by kernel_rfl) rfl ?_
     refine ct.cons rfl ?_ ?_
     ·
      refine aC rfl rfl ?_
      exact aB (s39) [0,1] ⟨rfl,rfl,rfl,rfl,rfl,rfl,rfl,rfl,rfl,rfl,rfl,trivial⟩
     refine ct.cons rfl ?_ ?_
     ·
      refine aF rfl (av rfl vb) ⟨rfl,trivial⟩ ?_
      exact aB (s46) [0,1] ⟨rfl,rfl,rfl,rfl,rfl,rfl,rfl,rfl,rfl,rfl,rfl,trivial⟩
     refine ct.cons rfl ?_ ?_
     ·
      refine aD rfl rfl rfl (ao [.tmp 44] rfl rfl rC rfl cc) ⟨rfl,trivial⟩ fun v=>?_
      exact aB (s102 v) [1,2,0] ⟨rfl,rfl,rfl,rfl,rfl,rfl,rfl,rfl,rfl,rfl,rfl,trivial⟩
     exact trivial
    have s97:∀(v:Value),J 9 [true,false,false,false,false,true,true,false,false,false,false,false] (fC [true,false,false,false,false,true,true,false,false,false,false,false] (mX y z.1 l v undef)++mj b2 y L.1 q1 l a1) [.obj y 93 (.agg (.pair (.at aw (a0,.map (some m))) (.eq z.1))),.sl z.1 23 .val (eB z.2 0 q2),.sl v 3 (.int .i64) l2]:=fun v=>by
     subst hJ
     refine JD.step [1,7] (by kernel_rfl) rfl ?_
     refine ct.cons rfl ?_ ?_
     ·
      refine aC rfl rfl ?_
      exact aB (s99 v) [0,1,2] ⟨rfl,rfl,rfl,rfl,rfl,rfl,rfl,rfl,rfl,rfl,rfl,trivial⟩
     refine ct.cons rfl ?_ ?_
     ·
      refine bI 2 rfl ?_
      refine fA fun hv=>?_
      refine aF rfl (bh (t:=.val) [(.tmp 45,.eq v)] [v] rfl rfl pe (.cons hv (.val hv) .nil) rfl rfl) ⟨rfl,trivial⟩ ?_
      exact aB (s225 v) [1,2,0] ⟨rfl,rfl,rfl,rfl,rfl,rfl,rfl,rfl,rfl,rfl,rfl,trivial⟩
     exact trivial
    have s98:∀(v:Value),J 9 [false,true,false,false,false,true,true,false,false,false,false,false] (fC [false,true,false,false,false,true,true,false,false,false,false,false] (mX y z.1 l v undef)++mj b2 y L.1 q1 l a1) [.obj y 93 (.agg (.pair (.at aw (a0,.map (some m))) (.eq z.1))),.sl z.1 23 .val (eB z.2 0 q2),.sl v 3 (.int .i64) l2]:=fun v=>by
     subst hJ
     refine JD.step [0,2,7] (by kernel_rfl) rfl ?_
     refine ct.cons rfl ?_ ?_
     ·
      refine aC rfl rfl ?_
      exact aB (s99 v) [0,1,2] ⟨rfl,rfl,rfl,rfl,rfl,rfl,rfl,rfl,rfl,rfl,rfl,trivial⟩
     refine ct.cons rfl ?_ ?_
     ·
      refine aF rfl (bb rfl) ⟨rfl,trivial⟩ ?_
      exact aB (s102 v) [0,1,2] ⟨rfl,rfl,rfl,rfl,rfl,rfl,rfl,rfl,rfl,rfl,rfl,trivial⟩
     refine ct.cons rfl ?_ ?_
     ·
      refine bI 2 rfl ?_
      refine fA fun hv=>?_
      refine aF rfl (bh (t:=.val) [(.tmp 45,.eq v)] [v] rfl rfl pe (.cons hv (.val hv) .nil) rfl rfl) ⟨rfl,trivial⟩ ?_
      exact aB (s226 v) [1,2,0] ⟨rfl,rfl,rfl,rfl,rfl,rfl,rfl,rfl,rfl,rfl,rfl,trivial⟩
     exact trivial
    have s224:∀(v:Value),J 9 [false,false,false,false,false,true,true,true,false,false,false,false] (fC [false,false,false,false,false,true,true,true,false,false,false,false] (mX y z.1 l v undef)++mj b2 y L.1 q1 l a1) [.obj y 93 (.agg (.pair (.at aw (a0,.map (some m))) (.eq z.1))),.sl z.1 23 .val (eB z.2 0 q2),.sl v 3 (.int .i64) l2]:=fun v=>by
     subst hJ
     refine JD.step [0,1] (by kernel_rfl) rfl ?_
     refine ct.cons rfl ?_ ?_
     ·
      refine aC rfl rfl ?_
      exact aB (s225 v) [0,1,2] ⟨rfl,rfl,rfl,rfl,rfl,rfl,rfl,rfl,rfl,rfl,rfl,trivial⟩
     refine ct.cons rfl ?_ ?_
     ·
      refine aC rfl rfl ?_
      exact aB (s226 v) [0,1,2] ⟨rfl,rfl,rfl,rfl,rfl,rfl,rfl,rfl,rfl,rfl,rfl,trivial⟩
     exact trivial
    have s3:J 10 [true,true,false,false,false,false,false,false,false,false,false,false] (fC [true,true,false,false,false,false,false,false,false,false,false,false] (mX y z.1 l undef undef)++mj b2 y L.1 q1 l a1) [.obj y 93 (.agg (.pair (.at aw (a0,.map (some m))) (.eq z.1))),.sl z.1 23 .val (eB z.2 0 q2)]:=by
     subst hJ
     refine JD.step [2,5] (by kernel_rfl) rfl ?_
     refine ct.cons rfl ?_ ?_
     ·
      refine aF rfl (bb rfl) ⟨rfl,trivial⟩ ?_
      exact aB (s7) [0,1] ⟨rfl,rfl,rfl,rfl,rfl,rfl,rfl,rfl,rfl,rfl,trivial⟩
     refine ct.cons rfl ?_ ?_
     ·
      refine aC rfl rfl ?_
      exact aB (s35) [0,1] ⟨rfl,rfl,rfl,rfl,rfl,rfl,rfl,rfl,rfl,rfl,trivial⟩
     exact trivial
    have s6:J 10 [false,true,true,false,false,false,false,false,false,false,false,false] (fC [false,true,true,false,false,false,false,false,false,false,false,false] (mX y z.1 l undef undef)++mj b2 y L.1 q1 l a1) [.obj y 93 (.agg (.pair (.at aw (a0,.map (some m))) (.eq z.1))),.sl z.1 23 .val (eB z.2 0 q2)]:=by
     subst hJ
     refine JD.step [0,3,5] (by kernel_rfl) rfl ?_
     refine ct.cons rfl ?_ ?_
     ·
      refine aC rfl rfl ?_
      exact aB (s7) [0,1] ⟨rfl,rfl,rfl,rfl,rfl,rfl,rfl,rfl,rfl,rfl,trivial⟩
     refine ct.cons rfl ?_ ?_
     ·
      refine aF rfl (av rfl vb) ⟨rfl,trivial⟩ ?_
      exact aB (s14) [0,1] ⟨rfl,rfl,rfl,rfl,rfl,rfl,rfl,rfl,rfl,rfl,trivial⟩
     refine ct.cons rfl ?_ ?_
     ·
      refine aC rfl rfl ?_
      exact aB (s38) [0,1] ⟨rfl,rfl,rfl,rfl,rfl,rfl,rfl,rfl,rfl,rfl,trivial⟩
     exact trivial
    have s33:J 10 [true,false,false,false,false,true,false,false,false,false,false,false] (fC [true,false,false,false,false,true,false,false,false,false,false,false] (mX y z.1 l undef undef)++mj b2 y L.1 q1 l a1) [.obj y 93 (.agg (.pair (.at aw (a0,.map (some m))) (.eq z.1))),.sl z.1 23 .val (eB z.2 0 q2)]:=by
     subst hJ
     refine JD.step [1,6] (by kernel_rfl) rfl ?_
     refine ct.cons rfl ?_ ?_
     ·
      refine aC rfl rfl ?_
      exact aB (s35) [0,1] ⟨rfl,rfl,rfl,rfl,rfl,rfl,rfl,rfl,rfl,rfl,trivial⟩
     refine ct.cons rfl ?_ ?_
     ·
      refine aD rfl rfl rfl (ao [.tmp 44] rfl rfl rC rfl cc) ⟨rfl,trivial⟩ fun v=>?_
      exact aB (s97 v) [1,2,0] ⟨rfl,rfl,rfl,rfl,rfl,rfl,rfl,rfl,rfl,rfl,trivial⟩
     exact trivial
    have s34:J 10 [false,true,false,false,false,true,false,false,false,false,false,false] (fC [false,true,false,false,false,true,false,false,false,false,false,false] (mX y z.1 l undef undef)++mj b2 y L.1 q1 l a1) [.obj y 93 (.agg (.pair (.at aw (a0,.map (some m))) (.eq z.1))),.sl z.1 23 .val (eB z.2 0 q2)]:=by
     subst hJ
     refine JD.step [0,2,6] (by kernel_rfl) rfl ?_
     refine ct.cons rfl ?_ ?_
     ·
      refine aC rfl rfl ?_
      exact aB (s35) [0,1] ⟨rfl,rfl,rfl,rfl,rfl,rfl,rfl,rfl,rfl,rfl,trivial⟩
     refine ct.cons rfl ?_ ?_
     ·
      refine aF rfl (bb rfl) ⟨rfl,trivial⟩ ?_
      exact aB (s38) [0,1] ⟨rfl,rfl,rfl,rfl,rfl,rfl,rfl,rfl,rfl,rfl,trivial⟩
     refine ct.cons rfl ?_ ?_
     ·
      refine aD rfl rfl rfl (ao [.tmp 44] rfl rfl rC rfl cc) ⟨rfl,trivial⟩ fun v=>?_
      exact aB (s98 v) [1,2,0] ⟨rfl,rfl,rfl,rfl,rfl,rfl,rfl,rfl,rfl,rfl,trivial⟩
     exact trivial
    have s96:∀(v:Value),J 10 [false,false,false,false,false,true,true,false,false,false,false,false] (fC [false,false,false,false,false,true,true,false,false,false,false,false] (mX y z.1 l v undef)++mj b2 y L.1 q1 l a1) [.obj y 93 (.agg (.pair (.at aw (a0,.map (some m))) (.eq z.1))),.sl z.1 23 .val (eB z.2 0 q2),.sl v 3 (.int .i64) l2]:=fun v=>by
     subst hJ
     refine JD.step [0,1,7] (by kernel_rfl) rfl ?_
     refine ct.cons rfl ?_ ?_
     ·
      refine aC rfl rfl ?_
      exact aB (s97 v) [0,1,2] ⟨rfl,rfl,rfl,rfl,rfl,rfl,rfl,rfl,rfl,rfl,trivial⟩
     refine ct.cons rfl ?_ ?_
     ·
      refine aC rfl rfl ?_
      exact aB (s98 v) [0,1,2] ⟨rfl,rfl,rfl,rfl,rfl,rfl,rfl,rfl,rfl,rfl,trivial⟩
     refine ct.cons rfl ?_ ?_
     ·
      refine bI 2 rfl ?_
      refine fA fun hv=>?_
      refine aF rfl (bh (t:=.val) [(.tmp 45,.eq v)] [v] rfl rfl pe (.cons hv (.val hv) .nil) rfl rfl) ⟨rfl,trivial⟩ ?_
      exact aB (s224 v) [1,2,0] ⟨rfl,rfl,rfl,rfl,rfl,rfl,rfl,rfl,rfl,rfl,trivial⟩
     exact trivial
    have s1:J 11 [true,false,false,false,false,false,false,false,false,false,false,false] (fC [true,false,false,false,false,false,false,false,false,false,false,false] (mX y z.1 l undef undef)++mj b2 y L.1 q1 l a1) [.obj y 93 (.agg (.pair (.at aw (a0,.map (some m))) (.eq z.1))),.sl z.1 23 .val (eB z.2 0 q2)]:=by
     subst hJ
     refine JD.step [1,5] (by kernel_rfl) rfl ?_
     refine ct.cons rfl ?_ ?_
     ·
      refine aC rfl rfl ?_
      exact aB (s3) [0,1] ⟨rfl,rfl,rfl,rfl,rfl,rfl,rfl,rfl,rfl,trivial⟩
     refine ct.cons rfl ?_ ?_
     ·
      refine aC rfl rfl ?_
      exact aB (s33) [0,1] ⟨rfl,rfl,rfl,rfl,rfl,rfl,rfl,rfl,rfl,trivial⟩
     exact trivial
    have s2:J 11 [false,true,false,false,false,false,false,false,false,false,false,false] (fC [false,true,false,false,false,false,false,false,false,false,false,false] (mX y z.1 l undef undef)++mj b2 y L.1 q1 l a1) [.obj y 93 (.agg (.pair (.at aw (a0,.map (some m))) (.eq z.1))),.sl z.1 23 .val (eB z.2 0 q2)]:=by
     subst hJ
     refine JD.step [0,2,5] (by kernel_rfl) rfl ?_
     refine ct.cons rfl ?_ ?_
     ·
      refine aC rfl rfl ?_
      exact aB (s3) [0,1] ⟨rfl,rfl,rfl,rfl,rfl,rfl,rfl,rfl,rfl,trivial⟩
     refine ct.cons rfl ?_ ?_
     ·
      refine aF rfl (bb rfl) ⟨rfl,trivial⟩ ?_
      exact aB (s6) [0,1] ⟨rfl,rfl,rfl,rfl,rfl,rfl,rfl,rfl,rfl,trivial⟩
     refine ct.cons rfl ?_ ?_
     ·
      refine aC rfl rfl ?_
      exact aB (s34) [0,1] ⟨rfl,rfl,rfl,rfl,rfl,rfl,rfl,rfl,rfl,trivial⟩
     exact trivial
    have s32:J 11 [false,false,false,false,false,true,false,false,false,false,false,false] (fC [false,false,false,false,false,true,false,false,false,false,false,false] (mX y z.1 l undef undef)++mj b2 y L.1 q1 l a1) [.obj y 93 (.agg (.pair (.at aw (a0,.map (some m))) (.eq z.1))),.sl z.1 23 .val (eB z.2 0 q2)]:=by
     subst hJ
     refine JD.step [0,1,6] (by kernel_rfl) rfl ?_
     refine ct.cons rfl ?_ ?_
     ·
      refine aC rfl rfl ?_
      exact aB (s33) [0,1] ⟨rfl,rfl,rfl,rfl,rfl,rfl,rfl,rfl,rfl,trivial⟩
     refine ct.cons rfl ?_ ?_
     ·
      refine aC rfl rfl ?_
      exact aB (s34) [0,1] ⟨rfl,rfl,rfl,rfl,rfl,rfl,rfl,rfl,rfl,trivial⟩
     refine ct.cons rfl ?_ ?_
     ·
      refine aD rfl rfl rfl (ao [.tmp 44] rfl rfl rC rfl cc) ⟨rfl,trivial⟩ fun v=>?_
      exact aB (s96 v) [1,2,0] ⟨rfl,rfl,rfl,rfl,rfl,rfl,rfl,rfl,rfl,trivial⟩
     exact trivial
    have s0:J 12 [false,false,false,false,false,false,false,false,false,false,false,false] (fC [false,false,false,false,false,false,false,false,false,false,false,false] (mX y z.1 l undef undef)++mj b2 y L.1 q1 l a1) [.obj y 93 (.agg (.pair (.at aw (a0,.map (some m))) (.eq z.1))),.sl z.1 23 .val (eB z.2 0 q2)]:=by
     subst hJ
     refine JD.step [0,1,5] (by kernel_rfl) rfl ?_
     refine ct.cons rfl ?_ ?_
     ·
      refine aC rfl rfl ?_
      exact aB (s1) [0,1] ⟨rfl,rfl,rfl,rfl,rfl,rfl,rfl,rfl,trivial⟩
     refine ct.cons rfl ?_ ?_
     ·
      refine aC rfl rfl ?_
      exact aB (s2) [0,1] ⟨rfl,rfl,rfl,rfl,rfl,rfl,rfl,rfl,trivial⟩
     refine ct.cons rfl ?_ ?_
     ·
      refine aC rfl rfl ?_
      exact aB (s32) [0,1] ⟨rfl,rfl,rfl,rfl,rfl,rfl,rfl,rfl,trivial⟩
     exact trivial
    exact s0
   ·
    exact fun a w st=>⟨rfl,p,st⟩
  ·
   subst hB
   refine bT ?_
   refine ag ?_
   refine bi (fE (Δ':=.sl p.1 3 (.int .i64) l2:: .sl p.2 23 .val (eB z.2 0 q2++[p.1])::([.obj y 93 (.agg (.pair (.at aw (a0,.map (some m))) (.eq p.2))),.inv m (bu k a0),.obj b2 25 (.rep an a0),.inv 0 f8]++kY z.2 0 q2)) ?_) ?_
   ·
    exact List.Perm.trans (List.Perm.swap _ _ _) (List.Perm.trans (List.Perm.cons _ (List.Perm.swap _ _ _)) (List.Perm.swap _ _ _))
   refine bi (yu (pre:=[.obj y 93 (.agg (.pair (.at aw (a0,.map (some m))) (.eq p.2))),.inv m (bu k a0),.obj b2 25 (.rep an a0),.inv 0 f8])) ?_
   show JC _ _ _ _ _
   refine ab ?_
   obtain⟨w3,ew,h⟩:=aa h
   refine aF rfl (a9 rfl ew) ⟨rfl,rfl,trivial⟩ ?_
   refine aC rfl rfl ?_
   refine ax ?_
   refine ag ?_
   exact jm ((p.2,nP z.2 q2.length p.1),(w3,q2++[l2])) h (bm [.obj y 93 (.agg (.pair (.at aw (a0,.map (some m))) (.eq p.2))),.inv m (bu k a0),.obj b2 25 (.rep an a0),.inv 0 f8] (fD 23 (p.2,nP z.2 q2.length p.1) (q2++[l2])) [0,1,2,3] ⟨rfl,rfl,rfl,rfl,rfl,rfl,trivial⟩ rfl)
 replace h:=bM (nr hb) h
 refine jp ?_
 refine cy ?_
 refine cy ?_
 refine dW ?_
 refine ag ?_
 show JC _ _ _ _ _
 replace h:((jR k a0 k (0,[],q.2)).bind fun p=>(mg k a0 p.1 p.2).bind fun b=>if(!b.2.2.1 || decide (L.1≤b.2.1))=true then some (0,0,0,11) else some (b.1.1,b.1.2,b.2.1,0)).bind some=some r:=h
 rw [Option.bind_assoc] at h
 generalize q.2=ls at h⊢
 refine ar ?_
 refine ab ?_
 refine dJ rfl ?_
 refine co (SE.nil 96 fp) ?_
 refine ax ?_
 refine ag ?_
 show JC _ _ _ _ _
 refine dE (bm (Γ':=[(2,.eq (bP b2)),(8,.eq (.int .i64 L.1)),(10,.eq (bP y)),(13,.eq (.slice none 0 0))]) (pre':=[.inv m (bu k a0),.obj b2 25 (.rep an a0),.inv 0 f8,.sl (.slice none 0 0) 96 fp [],.obj y 93 (.agg (.pair (.at aw (a0,.map (some m))) (.eq z.1)))]) [.sl (.slice none 0 0) 96 fp [],.obj y 93 (.agg (.pair (.at aw (a0,.map (some m))) (.eq z.1))),.inv m (bu k a0),.obj b2 25 (.rep an a0),.inv 0 f8] (fD 23 z ls) [2,3,4,0,1] ⟨rfl,rfl,rfl,rfl,trivial⟩ rfl) ?_
 refine ar ?_
 refine ar ?_
 refine ab ?_
 refine aF rfl (av rfl NP) ⟨rfl,trivial⟩ ?_
 refine bI 1 rfl ?_
 refine bX rfl rfl rfl (ah rfl Nw jw rfl) ⟨rfl,trivial⟩ ?_
 refine aF rfl (jq rfl rfl nD) ⟨rfl,trivial⟩ ?_
 refine eI rfl ?_
 refine ax ?_
 refine ag ?_
 show JC _ _ _ _ _
 refine aj ?_
 refine aH (Z:=Value) (α:=Int×List (Int×Int)×List (List Int)) (fun c q=>[(2,.eq (bP b2)),(8,.eq (.int .i64 L.1)),(10,.eq (bP y)),(13,.eq c),(53,.eq (.int .i64 (a0.2.1.length:Int))),(54,.eq (.int .i64 q.1))]) (fun c q=>[.obj b2 25 (.rep an a0),.inv m (bu k a0),.inv 0 f8,.sl c 96 fp q.2.1,.obj y 93 (.agg (.pair (.at aw (a0,.map (some m))) (.eq z.1)))]++fD 23 z q.2.2) (jR k a0) k (.slice none 0 0) (0,[],ls) (fun _=>rfl) h (bm [.obj b2 25 (.rep an a0),.inv m (bu k a0),.inv 0 f8,.sl (.slice none 0 0) 96 fp [],.obj y 93 (.agg (.pair (.at aw (a0,.map (some m))) (.eq z.1)))] (fD 23 z ls) [0,1,2,3,4] ⟨rfl,rfl,rfl,rfl,rfl,rfl,trivial⟩ rfl) (fun n c q h=>?_)
 obtain⟨q1,qp,ql⟩:=q
 unfold jR at h
 refine ar ?_
 refine ab ?_
 refine aF rfl (bj rfl) ⟨rfl,rfl,trivial⟩ ?_
 refine ax ?_
 refine ag ?_
 show JC _ _ _ _ _
 refine ar ?_
 refine bK rfl (fun hb=>?_) (fun hb=>?_)
 ·
  replace h:=cF (oe hb) h
  obtain⟨w,ew,h⟩:=aa h
  rw [Option.bind_assoc] at h
  refine cT ?_
  refine ag ?_
  show JC _ _ _ _ _
  refine ar ?_
  refine aj ?_
  refine ar ?_
  refine ab ?_
  refine aC rfl rfl ?_
  refine dk rfl rfl ?_
  refine ax ?_
  refine ag ?_
  show JC _ _ _ _ _
  refine ar ?_
  refine ab ?_
  refine aC rfl rfl ?_
  refine aF rfl (a9 rfl ew) ⟨rfl,rfl,trivial⟩ ?_
  refine dk rfl rfl ?_
  refine ax ?_
  refine ag ?_
  show JC _ _ _ _ _
  refine aj ?_
  refine aH (Z:=Value) (α:=Int×List (Int×Int)×List (List Int)) (fun c q=>[(2,.eq (bP b2)),(8,.eq (.int .i64 L.1)),(10,.eq (bP y)),(13,.eq c),(14,.eq (.int .i64 q1)),(15,.eq (.int .i64 q.1)),(53,.eq (.int .i64 (a0.2.1.length:Int))),(54,.eq (.int .i64 q1))]) (fun c q=>[.obj b2 25 (.rep an a0),.inv m (bu k a0),.inv 0 f8,.sl c 96 fp q.2.1,.obj y 93 (.agg (.pair (.at aw (a0,.map (some m))) (.eq z.1)))]++fD 23 z q.2.2) (lh k a0 q1) k c (w,qp,ql) (fun _=>rfl) h (bm [.obj b2 25 (.rep an a0),.inv m (bu k a0),.inv 0 f8,.sl c 96 fp qp,.obj y 93 (.agg (.pair (.at aw (a0,.map (some m))) (.eq z.1)))] (fD 23 z ql) [0,1,2,3,4] ⟨rfl,rfl,rfl,rfl,rfl,rfl,rfl,rfl,trivial⟩ rfl) (fun n3 c q h=>?_)
  obtain⟨j,rp,rl⟩:=q
  unfold lh at h
  refine ar ?_
  refine ar ?_
  refine ab ?_
  refine aC rfl rfl ?_
  refine aF rfl (av rfl NP) ⟨rfl,trivial⟩ ?_
  refine bX rfl rfl rfl (ah rfl Nw jw rfl) ⟨rfl,trivial⟩ ?_
  refine aF rfl (jq rfl rfl nD) ⟨rfl,trivial⟩ ?_
  refine aF rfl (bj rfl) ⟨rfl,rfl,trivial⟩ ?_
  refine ax ?_
  refine ag ?_
  show JC _ _ _ _ _
  refine bK rfl (fun hb=>?_) (fun hb=>?_)
  ·
   replace h:=cF (oe hb) h
   obtain⟨r1,Q,h⟩:=aa h
   have cv:=tL k a0 (q1,j) rl r1 y m z Q
   refine cT ?_
   refine ag ?_
   show JC _ _ _ _ _
   refine ar ?_
   refine aj ?_
   refine ar ?_
   refine ab ?_
   refine aC rfl rfl ?_
   refine aC rfl rfl ?_
   refine aF rfl (c9 [(0,.tmp 66,_),(1,.tmp 67,_)] rfl Of tH MR (iN ⟨rfl,rfl,trivial⟩) rfl) ⟨rfl,rfl,trivial⟩ ?_
   refine aD rfl rfl rfl (aY rfl tH wO) trivial fun e=>?_
   refine a8 rfl rfl (aX rfl hH trivial rfl rfl) ⟨rfl,rfl,trivial⟩ ?_
   refine co (oY (a':=.rep fp (q1,j)) Sz) ?_
   refine ax ?_
   refine ag ?_
   show JC _ _ _ _ _
   refine ar ?_
   refine ab ?_
   refine aC rfl rfl ?_
   refine bX rfl rfl rfl (ah rfl hH (zQ) rfl) ⟨rfl,trivial⟩ ?_
   refine co (fE (Δ':=([.obj y 93 (.agg (.pair (.at aw (a0,.map (some m))) (.eq z.1)))]++fD 23 z rl)++[.obj e 96 (.rep fp (q1,j)),.obj b2 25 (.rep an a0),.inv m (bu k a0),.inv 0 f8,.sl c 96 fp rp]) (List.perm_append_comm (l₁:=([.obj e 96 (.rep fp (q1,j)),.obj b2 25 (.rep an a0),.inv m (bu k a0),.inv 0 f8,.sl c 96 fp rp]:List D)))) ?_
   refine bO (Δ:=_++_) (F:=[_,_,_,_,_]) (fun _ _ _=>aA rfl _) rfl rfl (ao [.tmp 69,.tmp 70] rfl rfl Ro rfl cv) ⟨rfl,rfl,trivial⟩ fun _=>?_
   refine co (fE (Δ':=[.obj e 96 (.rep fp (q1,j)),.obj b2 25 (.rep an a0),.inv m (bu k a0),.inv 0 f8,.sl c 96 fp rp]++([.obj y 93 (.agg (.pair (.at aw (a0,.map (some m))) (.eq z.1)))]++fD 23 z r1.2)) List.perm_append_comm) ?_
   refine ax ?_
   refine ag ?_
   show JC _ _ _ _ _
   refine bK rfl (fun hb=>?_) (fun hb=>?_)
   ·
    replace h:=cF (CE hb) h
    have hk:bq (rp.length+1):=by
     apply Classical.byContradiction
     intro hn
     rw [if_neg hn] at h
     cases h
    replace h:=cF hk h
    refine ab ?_
    refine aC rfl rfl ?_
    refine bX rfl rfl rfl (ah rfl hH (zQ) rfl) ⟨rfl,trivial⟩ ?_
    refine aF rfl (bh (t:=fp) [(.tmp 73,_)] [(q1,j)] rfl rfl Hv (.cons rfl .rep .nil) rfl rfl) ⟨rfl,trivial⟩ ?_
    refine bI 4 rfl ?_
    refine cp rfl rfl rfl (be rfl rfl Hv (by simpa using hk)) ⟨rfl,rfl,trivial⟩ fun v'=>?_
    refine dk rfl rfl ?_
    refine ax ?_
    refine bT ?_
    refine ag ?_
    show JC _ _ _ _ _
    refine ab ?_
    refine aC rfl rfl ?_
    obtain⟨w2,ew2,h⟩:=aa h
    refine aF rfl (a9 rfl ew2) ⟨rfl,rfl,trivial⟩ ?_
    refine dk rfl rfl ?_
    refine ax ?_
    refine ag ?_
    exact jm (v',(w2,rp++[(q1,j)],r1.2)) h (bm [.sl v' 96 fp (rp++[(q1,j)]),.obj e 96 (.rep fp (q1,j)),.obj b2 25 (.rep an a0),.inv m (bu k a0),.inv 0 f8,.obj y 93 (.agg (.pair (.at aw (a0,.map (some m))) (.eq z.1)))] (fD 23 z r1.2) [2,3,4,0,5] ⟨rfl,rfl,rfl,rfl,rfl,rfl,rfl,rfl,trivial⟩ rfl)
   ·
    replace h:=bM (CG hb) h
    refine cT ?_
    refine bT ?_
    refine ag ?_
    show JC _ _ _ _ _
    refine ab ?_
    refine aC rfl rfl ?_
    obtain⟨w2,ew2,h⟩:=aa h
    refine aF rfl (a9 rfl ew2) ⟨rfl,rfl,trivial⟩ ?_
    refine dk rfl rfl ?_
    refine ax ?_
    refine ag ?_
    exact jm (c,(w2,rp,r1.2)) h (bm [.obj e 96 (.rep fp (q1,j)),.obj b2 25 (.rep an a0),.inv m (bu k a0),.inv 0 f8,.sl c 96 fp rp,.obj y 93 (.agg (.pair (.at aw (a0,.map (some m))) (.eq z.1)))] (fD 23 z r1.2) [1,2,3,4,5] ⟨rfl,rfl,rfl,rfl,rfl,rfl,rfl,rfl,trivial⟩ rfl)
  replace h:=bM (nr hb) h
  refine jp ?_
  refine cy ?_
  refine cy ?_
  refine dW ?_
  refine bT ?_
  refine ag ?_
  show JC _ _ _ _ _
  replace h:(jR k a0 n (w,rp,rl)).bind _=some r:=h
  refine ab ?_
  refine aF rfl (a9 rfl ew) ⟨rfl,rfl,trivial⟩ ?_
  refine aC rfl rfl ?_
  refine ax ?_
  refine ag ?_
  exact jm (c,(w,rp,rl)) h (bm [.obj b2 25 (.rep an a0),.inv m (bu k a0),.inv 0 f8,.sl c 96 fp rp,.obj y 93 (.agg (.pair (.at aw (a0,.map (some m))) (.eq z.1)))] (fD 23 z rl) [0,1,2,3,4] ⟨rfl,rfl,rfl,rfl,rfl,rfl,trivial⟩ rfl)
 replace h:=bM (nr hb) h
 refine jp ?_
 refine cy ?_
 refine cy ?_
 refine dW ?_
 refine ag ?_
 show JC _ _ _ _ _
 replace h:((mg k a0 qp ql).bind fun b=>if(!b.2.2.1 || decide (L.1≤b.2.1))=true then some (0,0,0,11) else some (b.1.1,b.1.2,b.2.1,0)).bind some=some r:=h
 obtain⟨b,eb,h⟩:=aa h
 have cx:=xf k a0 qp ql b y m z eb
 refine ar ?_
 refine ab ?_
 refine aC rfl rfl ?_
 refine aF rfl (t6 [.tmp 78] [] [bP y] [] rfl rfl rfl) ⟨rfl,trivial⟩ ?_
 refine bI 3 rfl ?_
 refine co (dh [13] ⟨rfl,trivial⟩) ?_
 refine aC rfl rfl ?_
 refine co (bm (Γ':=[(8,.eq (.int .i64 L.1)),(79,.eq (.func (.func 47) #[bP y] #[])),(80,Rs fp qp)]) (pre':=[.inv 0 f8,.obj b2 25 (.rep an a0),.inv m (bu k a0),.obj y 93 (.agg (.pair (.at aw (a0,.map (some m))) (.eq z.1)))]) [.obj b2 25 (.rep an a0),.inv m (bu k a0),.inv 0 f8,.obj y 93 (.agg (.pair (.at aw (a0,.map (some m))) (.eq z.1)))] (fD 23 z ql) [2,0,1,3] ⟨rfl,rfl,rfl,trivial⟩ rfl) ?_
 refine co (fE (Δ':=([.inv m (bu k a0),.obj y 93 (.agg (.pair (.at aw (a0,.map (some m))) (.eq z.1)))]++fD 23 z ql)++[.inv 0 f8,.obj b2 25 (.rep an a0)]) (List.perm_append_comm (l₁:=([.inv 0 f8,.obj b2 25 (.rep an a0)]:List D)))) ?_
 refine bO (Δ:=_++_) (F:=[_,_]) (fun _ _ _=>aA rfl _) rfl rfl (fX [.tmp 79,.tmp 80] rfl rfl Rn rfl cx) ⟨rfl,rfl,trivial⟩ fun _=>?_
 refine co (fE (Δ':=[.inv 0 f8,.obj b2 25 (.rep an a0)]++([.inv m (bu k a0),.obj y 93 (.agg (.pair (.at aw (a0,.map (some m))) (.eq z.1)))]++fD 23 z b.2.2.2)) List.perm_append_comm) ?_
 refine aC rfl rfl ?_
 refine aF rfl (fH rfl rfl) ⟨rfl,trivial⟩ ?_
 refine aF rfl (fH rfl rfl) ⟨rfl,trivial⟩ ?_
 refine aF rfl (fH rfl rfl) ⟨rfl,trivial⟩ ?_
 refine aD rfl rfl rfl (aY rfl tH wO) trivial fun s=>?_
 refine a8 rfl rfl (aX rfl hH rfl rfl rfl) ⟨rfl,rfl,trivial⟩ ?_
 refine dk rfl rfl ?_
 refine dk rfl rfl ?_
 refine ax ?_
 refine ag ?_
 show JC _ _ _ _ _
 obtain⟨bx,bn,bo,bl⟩:=b
 cases bo with
 |false=>
  replace h:some (0,0,0,11)=some r:=by simpa using h
  obtain rfl:=Option.some.inj h
  refine ar ?_
  refine ar ?_
  refine ab ?_
  refine aC rfl rfl ?_
  refine aF rfl (eF rfl) ⟨rfl,trivial⟩ ?_
  refine aC rfl rfl ?_
  refine zK rfl rfl rfl rfl rfl rfl rfl ?_
  refine zK rfl rfl rfl rfl rfl rfl rfl ?_
  refine zK rfl rfl rfl rfl rfl rfl rfl ?_
  refine aF rfl (lj rfl) ⟨rfl,rfl,trivial⟩ ?_
  refine ax ?_
  refine ag ?_
  show JC _ _ _ _ _
  refine bK rfl (fun hb=>?_) (fun hb=>(by cases hb))
  refine ar ?_
  refine ab ?_
  refine dJ rfl ?_
  refine dJ rfl ?_
  refine dJ rfl ?_
  refine dJ rfl ?_
  refine ax ?_
  refine ag ?_
  show JC _ _ _ _ _
  refine bJ ?_
  refine eJ ?_
  refine aW 1 rfl ?_
  exact aL () [_,_,_,_] 1 ⟨rfl,rfl,rfl,rfl,trivial⟩ rfl
 |true=>
  refine ar ?_
  refine ar ?_
  refine ab ?_
  refine aC rfl rfl ?_
  refine aF rfl (eF rfl) ⟨rfl,trivial⟩ ?_
  refine aC rfl rfl ?_
  refine nv rfl rfl rfl rfl rfl rfl (aN rfl) ⟨rfl,trivial⟩ ?_
  refine nv rfl rfl rfl rfl rfl rfl (aN rfl) ⟨rfl,trivial⟩ ?_
  refine nv rfl rfl rfl rfl rfl rfl (pg rfl) ⟨rfl,rfl,trivial⟩ ?_
  refine aF rfl (ll rfl) ⟨rfl,rfl,trivial⟩ ?_
  refine ax ?_
  refine ag ?_
  show JC _ _ _ _ _
  refine bK rfl (fun hb=>?_) (fun hb=>?_)
  ·
   have hd:L.1≤bn:=of_decide_eq_true hb
   replace h:some (0,0,0,11)=some r:=by simpa [hd] using h
   obtain rfl:=Option.some.inj h
   refine ar ?_
   refine ab ?_
   refine dJ rfl ?_
   refine dJ rfl ?_
   refine dJ rfl ?_
   refine dJ rfl ?_
   refine ax ?_
   refine ag ?_
   show JC _ _ _ _ _
   refine bJ ?_
   refine eJ ?_
   refine aW 1 rfl ?_
   exact aL () [_,_,_,_] 1 ⟨rfl,rfl,rfl,rfl,trivial⟩ rfl
  ·
   have hd:¬L.1≤bn:=of_decide_eq_false hb
   replace h:some (bx.1,bx.2,bn,0)=some r:=by simpa [hd] using h
   refine cT ?_
   refine ag ?_
   obtain rfl:=Option.some.inj h
   show JC _ _ _ _ _
   refine ar ?_
   refine tC (Δ:=[.obj s 96 (.rep fp bx)]) (F:=[.inv 0 f8,.obj b2 25 (.rep an a0),.inv m (bu k a0),.obj y 93 (.agg (.pair (.at aw (a0,.map (some m))) (.eq z.1)))]++fD 23 z bl) (Z:=Unit) (fun _=>[(4,.eq (.int .i64 bx.1)),(5,.eq (.int .i64 bx.2)),(6,.eq (.int .i64 bn)),(7,.eq (.int .i64 0))]) (fun _=>[.obj s 96 (.rep fp bx)]) (fun S w=>?_) (fun _=>?_)
   ·
    refine dE (SE.sub (Γ':=[(17,.eq (bP s)),(18,.eq (.int .i64 bn))]) ⟨rfl,rfl,trivial⟩) ?_
    refine lB ?_
    refine aR rfl rfl rfl (av rfl OL) ⟨rfl,trivial⟩ ?_
    refine dn 0 rfl rfl rfl rfl (ah rfl uV jw rfl) ⟨rfl,trivial⟩ ?_
    refine aR rfl rfl rfl (av rfl OK) ⟨rfl,trivial⟩ ?_
    refine dn 0 rfl rfl rfl rfl (ah rfl uV jw rfl) ⟨rfl,trivial⟩ ?_
    refine aR rfl rfl rfl (aN rfl) ⟨rfl,trivial⟩ ?_
    refine nB 5 [true,true,false,false,false] [4,5,6,7] [0] [.obj s 96 (.rep fp bx)] rfl (by kernel_rfl) (by kernel_rfl) (by kernel_rfl) rV (fun vs hv hB=>?_)
    obtain⟨u0,mc,rfl,O⟩:=ap hv
    obtain⟨u1,ac,rfl,M⟩:=ap O
    obtain⟨u2,Y,rfl,E⟩:=ap M
    obtain⟨u3,X,rfl,x⟩:=ap E
    obtain⟨u4,U,rfl,u⟩:=ap x
    obtain rfl:=kZ u
    refine⟨[0],[],by kernel_rfl,by decide,?_⟩
    refine uB rfl rfl rfl rfl (jB rfl) ⟨rfl,trivial⟩ (by kernel_rfl) ?_
    refine uB rfl rfl rfl rfl (jB rfl) ⟨rfl,trivial⟩ (by kernel_rfl) ?_
    refine uB rfl rfl rfl rfl (jB rfl) ⟨rfl,trivial⟩ (by kernel_rfl) ?_
    refine uB rfl rfl rfl rfl (jB rfl) ⟨rfl,trivial⟩ (by kernel_rfl) ?_
    refine uC ?_
    exact fun a w st=>⟨rfl,(),(SE.fin (Γ':=[(4,.eq (.int .i64 bx.1)),(5,.eq (.int .i64 bx.2)),(6,.eq (.int .i64 bn)),(7,.eq (.int .i64 0))]) [0] ⟨rfl,rfl,rfl,rfl,trivial⟩ rfl) a w st⟩
   ·
    refine ag ?_
    show JC _ _ _ _ _
    refine bJ ?_
    refine aW 1 rfl ?_
    exact aL () [_,_,_,_] 1 ⟨rfl,rfl,rfl,rfl,trivial⟩ rfl
def ou(k:Nat)(a0:(List Int))(a1:dr)(a2:(List (List Int)))(a3:Int)(a4:Int):Option Int:=
 (dF k a1 a2).bind fun r1=>
 (aP r1 a3).bind fun x3=>
 (dN k (List.set r1 (Int.toNat a3) a0)).bind fun r4=>
 (f9 k a1 r4 a4).bind fun r5=>
 some r5
theorem uU(k:Nat)(a0:(List Int))(a1:dr)(l:Nat)(a2:(List (List Int)))(j:Nat)(a3:Int)(e:Nat)(a4:Int)(c:Nat)(r:Int)(h:ou k a0 a1 a2 a3 a4=some r):
 dD (jg Tryz.prog) 49 [Ri a0,Pt l,Pt j,Pt e,Pt c] [.obj l 66 (.at bH a1),.obj j 70 (.rep (.arr 3 (.arr 5 (.int .i64))) a2),.obj e 3 (I a3),.obj c 3 (I a4)] (fun _:Unit=>(bp [I r],[.obj l 66 (.at bH a1),.obj j 70 (.rep (.arr 3 (.arr 5 (.int .i64))) a2),.obj e 3 (I a3),.obj c 3 (I a4)])):=by
 unfold ou at h
 replace h:=ba h
 refine dD.of 20 Tryz.func49 rfl Tryz.ntmps49 rfl fun S w0=>?_
 refine au ?_
 refine lo tP ?_
 refine fr 1 ?_
 refine lo ft ?_
 obtain⟨r1,x,h⟩:=aa h
 have E:=iy k a1 a2 r1 x
 refine aD rfl rfl rfl (ao [.tmp 8,.tmp 9] rfl rfl MA rfl E) ⟨rfl,rfl,trivial⟩ fun v2=>?_
 refine aq ?_
 refine nt ?_
 refine sr ?_
 refine mq ?_
 refine fr 3 ?_
 refine lo cC ?_
 refine mq ?_
 obtain⟨x3,n,h⟩:=aa h
 refine fr 1 ?_
 refine kb (aV (t:=(.slice (.int .i64))) rfl oh bN n) ?_
 refine a8 rfl rfl (cI (i:=Int.toNat a3) rfl bN rfl (gy n) rfl .rep rfl) ⟨rfl,rfl,trivial⟩ ?_
 refine nt ?_
 refine ar ?_
 refine dE (dh [7,10,11] ⟨rfl,rfl,rfl,trivial⟩) ?_
 refine bD ?_
 refine ea 2 (ah rfl tP jw rfl) ?_
 refine dm ?_
 obtain⟨r4,u,h⟩:=aa h
 have D:=eh k (List.set r1 (Int.toNat a3) a0) r4 u
 refine da (ao [.tmp 16] rfl rfl D3 rfl D) ?_
 refine ea 3 (ah rfl cC jw rfl) ?_
 refine df cG ?_
 obtain⟨r5,s,h⟩:=aa h
 have y:=mU k a1 r4 a4 r5 s
 refine jc (fX [.tmp 15,.tmp 17,.tmp 18] rfl rfl RE rfl y) ?_
 refine aq ?_
 refine nt ?_
 refine bJ ?_
 refine bi (SE.fin (Γ':=[(6,_)]) [2,1,0,3] ⟨rfl,trivial⟩ rfl) ?_
 cases h
 exact aL () [_] 4 ⟨rfl,trivial⟩ rfl
def iD(k:Nat)(a0_0:dr)(a0_1:(List (List Int)))(a0_2:Int)(a0_3:Int)(a1:(List (List Int))):Nat→((List Int)×Int×Bool×Int)→Option ((List Int)×Int×Bool)
 |0,_=>none
 |n+1,y3=>
  if y3.2.2.2 < (a1.length:Int) then((((aP a1 y3.2.2.2).bind fun x7=>
  (ou k x7 a0_0 a0_1 a0_2 a0_3).bind fun r8=>
  ((if¬(y3.2.2.1=true) then(some true) else(some (decide (r8 < y3.2.1)))):Option (Bool)).bind fun x9=>
  if x9=true then(some (x7,r8,true)) else(some (y3.1,y3.2.1,y3.2.2.1))):Option ((List Int)×Int×Bool)).bind fun x5=>
  (ck (y3.2.2.2+1)).bind fun c=>
  iD k a0_0 a0_1 a0_2 a0_3 a1 n (x5.1,x5.2.1,x5.2.2,c)) else(some (y3.1,y3.2.1,y3.2.2.1))
def mh(k:Nat)(a0_0:dr)(a0_1:(List (List Int)))(a0_2:Int)(a0_3:Int)(a1:(List (List Int))):Option ((List Int)×Int×Bool):=
 ((iD k a0_0 a0_1 a0_2 a0_3 a1 k ([],0,false,0)):Option ((List Int)×Int×Bool)).bind fun x1=>
 some (x1.1,x1.2.1,x1.2.2)
theorem sA(k:Nat)(a0_0:dr)(c_a0_0:Nat)(a0_1:(List (List Int)))(c_a0_1:Nat)(a0_2:Int)(c_a0_2:Nat)(a0_3:Int)(c_a0_3:Nat)(a1:(List (List Int)))(r:(List Int)×Int×Bool)(h:mh k a0_0 a0_1 a0_2 a0_3 a1=some r):
 dD (jg Tryz.prog) 51 [.eq (.func (.func 49) #[] #[(Pv c_a0_0),(Pv c_a0_1),(Pv c_a0_2),(Pv c_a0_3)]),.rep (.slice (.slice (.int .i64))) a1] [.obj c_a0_0 66 (.at bH a0_0),.obj c_a0_1 70 (.rep (.arr 3 (.arr 5 (.int .i64))) a0_1),.obj c_a0_2 3 (I a0_2),.obj c_a0_3 3 (I a0_3)] (fun _:Unit=>(bp [Ri r.1,I r.2.1,.eq (.bool r.2.2)],[.obj c_a0_0 66 (.at bH a0_0),.obj c_a0_1 70 (.rep (.arr 3 (.arr 5 (.int .i64))) a0_1),.obj c_a0_2 3 (I a0_2),.obj c_a0_3 3 (I a0_3)])):=by
 unfold mh at h
 replace h:=ba h
 refine dD.of 35 Tryz.func51 rfl Tryz.ntmps51 rfl fun S w0=>?_
 refine sr ?_
 refine cq ?_
 refine cq ?_
 refine cq ?_
 refine nt ?_
 refine sr ?_
 refine cq ?_
 refine nt ?_
 refine sr ?_
 refine cq ?_
 refine cq ?_
 refine nt ?_
 refine aJ (Z:=Unit) (α:=(List Int)×Int×Bool) (fun z2 x1=>[(7,Ri x1.1),(8,I x1.2.1),(9,.eq (.bool x1.2.2))]) (fun z2 x1=>[.obj c_a0_0 66 (.at bH a0_0),.obj c_a0_1 70 (.rep (.arr 3 (.arr 5 (.int .i64))) a0_1),.obj c_a0_2 3 (I a0_2),.obj c_a0_3 3 (I a0_3)]) h (fun K h=>?_) (fun z2 x1 h=>?_)
 ·
  refine au ?_;refine ol oh ?_;refine eI rfl ?_;refine nt (aj (dE (jf (t:=(.slice (.int .i64))) (x:=[]) 7 rfl .nil rfl rfl) ?_));refine aH (fun z4 y3=>[(0,.eq (.func (.func 49) #[] #[(Pv c_a0_0),(Pv c_a0_1),(Pv c_a0_2),(Pv c_a0_3)])),(7,Ri y3.1),(8,I y3.2.1),(9,.eq (.bool y3.2.2.1)),(13,.rep (.slice (.slice (.int .i64))) a1),(14,I (a1.length:Int)),(15,I y3.2.2.2)]) (fun z4 y3=>[.obj c_a0_0 66 (.at bH a0_0),.obj c_a0_1 70 (.rep (.arr 3 (.arr 5 (.int .i64))) a0_1),.obj c_a0_2 3 (I a0_2),.obj c_a0_3 3 (I a0_3)]) (iD k a0_0 a0_1 a0_2 a0_3 a1) k () ([],0,false,0) (fun _=>rfl) h (SE.fin [0,1,2,3] ⟨rfl,rfl,rfl,rfl,rfl,rfl,rfl,trivial⟩ rfl) (fun n z4 y3 h=>?_);unfold iD at h;refine sr (jb (bj rfl) ?_);refine au ?_;refine ci h (fun h=>?_) (fun h=>?_)
  ·refine sk (aJ (Z:=Unit) (α:=(List Int)×Int×Bool) (fun z6 x5=>[(0,.eq (.func (.func 49) #[] #[(Pv c_a0_0),(Pv c_a0_1),(Pv c_a0_2),(Pv c_a0_3)])),(7,Ri x5.1),(8,I x5.2.1),(9,.eq (.bool x5.2.2)),(13,.rep (.slice (.slice (.int .i64))) a1),(14,I (a1.length:Int)),(15,I y3.2.2.2)]) (fun z6 x5=>[.obj c_a0_0 66 (.at bH a0_0),.obj c_a0_1 70 (.rep (.arr 3 (.arr 5 (.int .i64))) a0_1),.obj c_a0_2 3 (I a0_2),.obj c_a0_3 3 (I a0_3)]) h (fun K h=>?_) (fun z6 x5 h=>?_))
   ·refine aj (sr ?_);obtain⟨x7,l,h⟩:=aa h;refine jb (aG (t:=(.slice (.int .i64))) rfl oh bN l) ?_;refine ja (ak (t:=(.slice (.int .i64))) rfl bN rfl) ?_;refine aq (nt (sr ?_));iterate 2 refine mq ?_
    obtain⟨r8,u,h⟩:=aa h;refine fr 3 ?_;refine fr 3 ?_;refine fr 3 ?_;refine fr 3 ?_;refine bO (Δ:=[_,_,_,_]) (F:=_) (fun _ _ _=>aA rfl _) rfl rfl (pM (fs:=[]) (cs:=[(Pv c_a0_0),(Pv c_a0_1),(Pv c_a0_2),(Pv c_a0_3)]) (ags:=[Ri x7]) [.tmp 20] rfl rfl Uz rfl (uU k x7 a0_0 c_a0_0 a0_1 c_a0_1 a0_2 c_a0_2 a0_3 c_a0_3 r8 u)) ⟨rfl,rfl,trivial⟩ fun _=>?_;refine aq (nt ?_);refine aJ (Z:=Unit) (α:=Bool) (fun c x9=>[(0,.eq (.func (.func 49) #[] #[(Pv c_a0_0),(Pv c_a0_1),(Pv c_a0_2),(Pv c_a0_3)])),(7,Ri y3.1),(8,I y3.2.1),(9,.eq (.bool y3.2.2.1)),(11,Ri x7),(12,I r8),(13,.rep (.slice (.slice (.int .i64))) a1),(14,I (a1.length:Int)),(15,I y3.2.2.2),(28,.eq (.bool x9))]) (fun c x9=>[.obj c_a0_0 66 (.at bH a0_0),.obj c_a0_1 70 (.rep (.arr 3 (.arr 5 (.int .i64))) a0_1),.obj c_a0_2 3 (I a0_2),.obj c_a0_3 3 (I a0_3)]) h (fun K h=>?_) (fun c x9 h=>?_)
    ·refine ab (mq ?_);refine ja (eF rfl) ?_;refine mq ?_;refine bY (s:=24) rfl (fun hb=>?_) (fun hb=>?_)
     ·replace h:=cF (Dq hb) h;refine au ?_;exact jz ((),true) h [0,1,2,3]
     ·replace h:=bM (wj hb) h;refine au ?_;refine gb (bj rfl) ?_;refine au ?_;exact jz ((),decide (r8 < y3.2.1)) h [0,1,2,3]
    ·refine cv h (fun h=>?_) (fun h=>?_)
     ·refine ab (au ?_);exact jz ((),(x7,r8,true)) h [0,1,2,3]
     ·refine au ?_;exact jz ((),(y3.1,y3.2.1,y3.2.2.1)) h [0,1,2,3]
   ·refine ab ?_;obtain⟨j,e,h⟩:=aa h;refine jb (a9 rfl e) ?_;refine au ?_;exact jz ((),(x5.1,x5.2.1,x5.2.2,j)) h [0,1,2,3]
  ·refine au ?_;exact jz ((),(y3.1,y3.2.1,y3.2.2.1)) h [0,1,2,3]
 ·
  refine au ?_;cases h;exact aL () [_,_,_] 4 ⟨rfl,rfl,rfl,trivial⟩ rfl
def rH(k:Nat)(a0:aQ)(a1:(List (List Int)))(a2:Int)(a3:Int):Option ((List Int)×Int×Int):=
 (cY k a0 a1).bind fun r4=>
 if¬(r4=0) then(some ([],0,r4)) else((((ck ((a0.2.2.length:Int) - 1)).bind fun x7=>
 (eK k a2 0 x7).bind fun r8=>
 if¬(r8=true) then(some true) else((eK k a3 0 a0.1).bind fun r9=>
 some (!r9))):Option (Bool)).bind fun x5=>
 if x5=true then(some ([],0,3)) else((dN k a1).bind fun n=>
 (mb k (a0,()) n a3).bind fun e=>
 (d3 k e a2).bind fun l=>
 (mm k l).bind fun j=>
 (mf k k j).bind fun h=>
 (mh k (a0,()) e a2 a3 h).bind fun c=>
 some (c.1,c.2.1,0)))
theorem xg(k:Nat)(a0:aQ)(a1:(List (List Int)))(a2:Int)(a3:Int)(r:(List Int)×Int×Int)(h:rH k a0 a1 a2 a3=some r):
 dD (jg Tryz.prog) 21 [.rep an a0,.rep (.slice (.slice (.int .i64))) a1,I a2,I a3] [.inv 0 (f8)] (fun _:Unit=>(bp [Ri r.1,I r.2.1,I r.2.2],[.inv 0 (f8)])):=by
 unfold rH at h
 replace h:=ba h
 refine dD.of 60 Tryz.func21 rfl Tryz.ntmps21 rfl fun S w0=>?_
 refine sr ?_
 refine bx fun b1=>?_
 refine bx fun b2=>?_
 refine bx fun b3=>?_
 refine cq ?_
 refine cq ?_
 refine cq ?_
 refine nt ?_
 refine ar ?_
 refine sr ?_
 refine fr 2 ?_
 refine lo du ?_
 refine mq ?_
 obtain⟨r4,VF,h⟩:=aa h
 have VG:=gw k a0 a1 r4 VF
 refine fr 3 ?_
 refine kb (ao [.tmp 18,.tmp 19] rfl rfl O4 rfl VG) ?_
 refine au ?_
 refine jb (iZ rfl) ?_
 refine nt ?_
 refine cn h (fun h=>?_) (fun h=>?_)
 ·
  refine sr (mq ?_);refine cq ?_;refine cq ?_;refine aq (nt (rx ?_));refine bi (jf (t:=(.slice (.int .i64))) (x:=[]) 8 rfl .nil rfl rfl) ?_;cases h;exact aL () [_,_,_] 1 ⟨rfl,rfl,rfl,trivial⟩ rfl
 ·
  refine sk (ar (aJ (Z:=Unit) (α:=Bool) (fun z6 x5=>[(1,.rep (.slice (.slice (.int .i64))) a1),(4,Pt b1),(6,Pt b2),(7,Pt b3),(37,.eq (.bool x5))]) (fun z6 x5=>[.obj b1 25 (.rep an a0),.obj b2 3 (I a2),.obj b3 3 (I a3),.inv 0 (f8)]) h (fun K h=>?_) (fun z6 x5 h=>?_)))
  ·refine ab (fr 3 ?_);refine lo cC ?_;refine fl cH ?_;refine fr 2 ?_;refine lo bN ?_;refine ol dB ?_;obtain⟨x7,VC,h⟩:=aa h;refine jb (eY rfl VC) ?_;obtain⟨r8,VE,h⟩:=aa h;refine jc (ao [.tmp 24,.const (.int .i64 (0)),.tmp 28] rfl rfl Bq rfl (eW k a2 0 x7 r8 VE)) ?_;refine ja (eF rfl) ?_;refine mq ?_;refine bY (s:=31) rfl (fun hb=>?_) (fun hb=>?_)
   ·replace h:=cF (Dq hb) h;refine au ?_;exact jz ((),true) h [0,1,3,2]
   ·replace h:=bM (wj hb) h;refine fr 3 ?_;refine gi rfl rfl rfl rfl rfl rfl (ah rfl cC jw rfl) ⟨rfl,trivial⟩ ?_;refine ga (av rfl gR) ?_;refine fr 1 ?_;refine gi rfl rfl rfl rfl rfl rfl (ah rfl cC jw rfl) ⟨rfl,trivial⟩ ?_;obtain⟨r9,VD,h⟩:=aa h;refine gc (ao [.tmp 32,.const (.int .i64 (0)),.tmp 34] rfl rfl Bq rfl (eW k a3 0 a0.1 r9 VD)) ?_;refine ga (eF rfl) ?_;refine au ?_;exact jz ((), !r9) h [0,2,1,3]
  ·refine cv h (fun h=>?_) (fun h=>?_)
   ·refine sr (cq ?_);refine cq ?_;refine cq (nt (rx ?_));refine bi (jf (t:=(.slice (.int .i64))) (x:=[]) 8 rfl .nil rfl rfl) ?_;refine bi (SE.fin (Γ':=[(8,_),(9,_),(10,_)]) [3,0,1,2] ⟨rfl,rfl,rfl,trivial⟩ rfl) ?_;cases h;exact aL () [_,_,_] 1 ⟨rfl,rfl,rfl,trivial⟩ rfl
   ·refine au ?_;refine lo du ?_;refine aD rfl rfl rfl (ao [.tmp 38] rfl rfl Js rfl (gB a0)) ⟨rfl,trivial⟩ fun c=>?_;refine co (kR (bu k a0) l5) ?_;refine aD rfl rfl rfl (aY rfl P5 Sj) trivial fun j=>?_;refine a8 rfl rfl (aX rfl tP trivial rfl rfl) ⟨rfl,rfl,trivial⟩ ?_;refine au ?_;refine lB ?_;refine dn 0 rfl rfl rfl rfl (ah rfl tP jw rfl) ⟨rfl,trivial⟩ ?_;refine aR rfl rfl rfl (aN rfl) ⟨rfl,trivial⟩ ?_;obtain⟨u,U,h⟩:=aa h;refine aR rfl rfl rfl (ao [.tmp 41] rfl rfl D3 rfl (eh k a1 u U)) ⟨rfl,trivial⟩ ?_;refine dn 4 rfl rfl rfl rfl (ah rfl cC jw rfl) ⟨rfl,trivial⟩ ?_;obtain⟨l,Q,h⟩:=aa h;refine aR rfl rfl rfl (cO (N:=[(.tmp 40,.at aw (a0,(.map (some c)))),(.tmp 42,.rep (.arr 3 (.arr 5 (.int .i64))) u),(.tmp 43,I a3)]) (ao [.tmp 40,.tmp 42,.tmp 43] rfl rfl UA rfl (sx k (a0,()) u a3 l Q)) fun _ _ _ hn=>⟨(qk hn.1),hn.2.1,hn.2.2.1,trivial⟩) ⟨rfl,rfl,rfl,trivial⟩ ?_;refine zM (Oe 70 (.rep (.arr 3 (.arr 5 (.int .i64))) [[0,0,0,0,0],[0,0,0,0,0],[0,0,0,0,0]])) (fun _=>rfl) rfl rfl rfl (aY rfl rF sd) trivial ?_;refine nB 6 [true,true,true,true,true,true] [] [] [] rfl (by kernel_rfl) (by kernel_rfl) (by kernel_rfl) cG (fun vs hv hB=>?_);obtain⟨w0,VN,rfl,se⟩:=ap hv;obtain⟨w1,VM,rfl,qt⟩:=ap se;obtain⟨w2,VL,rfl,pp⟩:=ap qt;obtain⟨w3,VK,rfl,mc⟩:=ap pp;obtain⟨w4,VJ,rfl,ac⟩:=ap mc;obtain⟨w5,VI,rfl,Y⟩:=ap ac;obtain rfl:=kZ Y;obtain⟨e,rfl⟩:=Oc hB.2.2.2.2.2.1;refine⟨[0,1,2,3,4,5,6],[.obj j 66 (.at aw (a0,(.map (some c)))),.inv c (bu k a0),.obj b1 25 (.rep an a0),.obj b2 3 (I a2),.obj b3 3 (I a3),.inv 0 (f8),.obj e 70 (.rep (.arr 3 (.arr 5 (.int .i64))) [[0,0,0,0,0],[0,0,0,0,0],[0,0,0,0,0]])],by kernel_rfl,by decide,?_⟩;refine jh 6 rfl ?_;refine qw rfl rfl (aX rfl ft rfl rfl rfl) ⟨rfl,rfl,trivial⟩ (by kernel_rfl) ?_;refine uC ?_;refine bi (SE.fin (Γ':=[(6,Pt b2),(7,Pt b3),(12,Pt j),(13,Pt e)]) (Δ':=[.obj e 70 (.rep (.arr 3 (.arr 5 (.int .i64))) l),.obj j 66 (.at aw (a0,(.map (some c)))),.inv c (bu k a0),.obj b1 25 (.rep an a0),.obj b2 3 (I a2),.obj b3 3 (I a3),.inv 0 (f8)]) [0,1,2,3,4,5,6] ⟨rfl,rfl,rfl,rfl,trivial⟩ rfl) ?_;refine au ?_;refine aF rfl (t6 [] [.tmp 12,.tmp 13,.tmp 6,.tmp 7] [] [(Pv j),(Pv e),(Pv b2),(Pv b3)] rfl rfl rfl) ⟨rfl,rfl,rfl,rfl,trivial⟩ ?_;refine au ?_;refine lo ft ?_;refine fr 4 ?_;refine lo cC ?_;obtain⟨n,O,h⟩:=aa h;refine jb (ao [.tmp 48,.tmp 49] rfl rfl Mc rfl (gC k l a2 n O)) ?_;refine aD rfl rfl rfl (ao [.tmp 50] rfl rfl Uw rfl (sF n)) ⟨rfl,trivial⟩ fun VH=>?_;obtain⟨D,M,h⟩:=aa h;refine ka (ao [.tmp 51] rfl rfl Ux rfl (sG k n VH D M)) ?_;obtain⟨y,J,h⟩:=aa h;refine ja (ao [.tmp 52] rfl rfl RD rfl (xe k k D y J)) ?_;refine fr 3 ?_;refine co (oY (a:=.at aw (a0,(.map (some c)))) (a':=.at bH (a0,())) PG) ?_;obtain⟨X,E,h⟩:=aa h
    refine fr 6 ?_;refine fr 3 ?_;refine fr 4 ?_;refine fr 3 ?_;refine bO (Δ:=[_,_,_,_]) (F:=_) (fun _ _ _=>aA rfl _) rfl rfl (fX [.tmp 47,.tmp 53] rfl rfl Uy rfl (sA k (a0,()) j l e a2 b2 a3 b3 y X E)) ⟨rfl,rfl,trivial⟩ fun _=>?_;refine mq ?_;refine xr ?_;refine xr ?_;refine xr ?_;refine aq ?_;refine aq ?_;refine aq (nt (sr ?_));iterate 2 refine mq ?_
    refine aq ?_;refine aq ?_;refine cq (nt (bJ ?_));refine bi (SE.fin (Γ':=[(8,_),(9,_),(10,_)]) [7,0,1,2,3,4,5,6] ⟨rfl,rfl,rfl,trivial⟩ rfl) ?_;cases h;exact aL () [_,_,_] 1 ⟨rfl,rfl,rfl,trivial⟩ rfl
set_option maxRecDepth 20000
set_option maxHeartbeats 4000000
def P0(b:Nat):List Int→Option Addr
 |[]=>none
 |_::_=>some ⟨b,0,none⟩
def SX:List Int→Value→Value
 |[],_=>.slice none 0 0
 |_::_,v=>v
theorem Pl(b:Nat)(l:List Int):P0 b l=none∨P0 b l=some ⟨b,0,none⟩:=by cases l <;> simp [P0]
theorem JH(b:Nat)(l:List Int)(c:Int):P0 b (l++[c])=some ⟨b,0,none⟩:=by cases l <;> rfl
theorem JG(l:List Int)(c:Int)(v:Value):SX (l++[c]) v=v:=by cases l <;> rfl
theorem HA:mJ Tryz.prog 112 9 1 16:=.of (z:=(.string .empty)) U1 (by kernel_rfl) rfl rfl rfl
theorem OY:ae Tryz.prog 58:=ae.of Tryz.func58 (by kernel_rfl) (by kernel_rfl)
theorem Rw:ae Tryz.prog 38:=ae.of Tryz.func38 (by kernel_rfl) (by kernel_rfl)
theorem Qq:dM Tryz.prog 25 3 true:=⟨fun w=>by kernel_rfl,fun w=>by kernel_rfl⟩
theorem Ny:dM Tryz.prog 23 1 false:=⟨fun w=>by kernel_rfl,fun w=>by kernel_rfl⟩
theorem Qp:dM Tryz.prog 3 1 false:=⟨fun w=>by kernel_rfl,fun w=>by kernel_rfl⟩
def me(c:Int):Int:=IntKind.i32.wrap (97+IntKind.i32.wrap c)
def lM(xs:List Int):Nat→Int×List Int→Option (List Int)
 |0,_=>none
 |n+1,y=>if y.1 < (xs.length:Int) then((aP xs y.1).bind fun c=>if 0≤me c∧me c≤127∧bq (y.2.length+1) then(ck (y.1+1)).bind fun z=>lM xs n (z,y.2++[me c]) else none) else some y.2
def j0(k:Nat)(a1:List (List Int)):Nat→Int×List ByteArray→Option (List ByteArray)
 |0,_=>none
 |n+1,y=>if y.1 < (a1.length:Int) then((aP a1 y.1).bind fun xs=>(lM xs k (0,[])).bind fun l=>if bq (y.2.length+1) then(ck (y.1+1)).bind fun z=>j0 k a1 n (z,y.2++[rI l]) else none) else some y.2
def tO(k:Nat)(a0:aQ)(a1:(List (List Int))):Option (Value×Int):=
 (cY k a0 a1).bind fun e=>if¬(e=0) then some (.string .empty,e) else(j0 k a1 k (0,[])).bind fun ss=>(vg k ss ⟨#[47]⟩).bind fun r=>some (.string r,0)
theorem yD(k:Nat)(a0:aQ)(a1:(List (List Int)))(r:Value×Int)(h:tO k a0 a1=some r):
 bZ Tryz.prog 22 [.rep an a0,.rep (.slice (.slice (.int .i64))) a1] [.inv 0 f8] (fun _:Unit=>(bp [.eq r.1,I r.2],[.inv 0 f8])):=by
 unfold tO at h
 replace h:=ba h
 refine bZ.of 43 Tryz.func22 rfl Tryz.ntmps22 rfl fun S w0=>?_
 refine sr ?_
 refine bx fun b2=>?_
 refine cq ?_
 refine cq ?_
 refine nt ?_
 refine ar ?_
 refine sr ?_
 obtain⟨e,ee,h⟩:=aa h
 have ce:=gw k a0 a1 e ee
 refine ka (ah rfl Qq (zQ) rfl) ?_
 refine mq ?_
 refine fr 1 ?_
 refine kb (ao [.tmp 13,.tmp 14] rfl rfl Rw rfl ce) ?_
 refine aq ?_
 refine nt ?_
 refine sr ?_
 refine mq ?_
 refine jb (iZ rfl) ?_
 refine nt ?_
 refine bK rfl (fun hb=>?_) (fun hb=>?_)
 ·
  replace h:=cF (NG hb) h;refine sr (mq ?_);refine cq ?_;refine aq (nt (rx ?_));cases h;exact aL () [_,_] 1 ⟨rfl,rfl,trivial⟩ rfl
 replace h:=bM (A2 hb) h
 refine sk ?_
 refine sr ?_
 refine cq ?_
 refine nt ?_
 rw [Option.bind_assoc] at h
 refine ar ?_
 refine sr ?_
 refine mq ?_
 refine ol oh ?_
 refine eI rfl ?_
 refine co (SE.nil 9 .str) ?_
 refine nt ?_
 refine aj ?_
 refine aH (fun v y=>[(7,.eq v),(19,.rep (.slice (.slice (.int .i64))) a1),(20,I (a1.length:Int)),(21,I y.1)]) (fun v y=>[.sl v 9 .str y.2,.inv 0 f8]) (j0 k a1) k (.slice none 0 0) (0,[]) (fun _=>rfl) h (SE.fin [0,1] ⟨rfl,rfl,rfl,rfl,trivial⟩ rfl) (fun n v7 y h=>?_)
 unfold j0 at h
 refine sr ?_
 refine jb (bj rfl) ?_
 refine nt ?_
 refine ar ?_
 refine bK rfl (fun hb=>?_) (fun hb=>?_)
 ·
  replace h:=cF (oe hb) h;refine sk (ar (aj ?_));obtain⟨xs,exs,h⟩:=aa h;refine sr (jb (aG (t:=.slice (.int .i64)) rfl oh Ny exs) ?_);refine ja (ak (t:=.slice (.int .i64)) rfl Ny rfl) ?_;refine aq (nt (sr ?_));refine aD rfl rfl rfl (aY rfl G4 JL) trivial fun b=>?_;refine nt ?_;rw [Option.bind_assoc] at h;refine ar (sr (mq ?_));refine ol dB ?_;refine eI rfl ?_;refine co (SE.nil 5 (.int .u8)) ?_;refine nt (aj ?_)
  refine aH (fun v q=>[(7,.eq v7),(10,.eq (bP b)),(19,.rep (.slice (.slice (.int .i64))) a1),(20,I (a1.length:Int)),(21,I y.1),(25,Ri xs),(26,I (xs.length:Int)),(27,I q.1)])
   (fun v q=>[.obj b 116 (bA (.pointer (P0 b q.2)) (SX q.2 v)),.sl (SX q.2 v) 5 (.int .u8) q.2,.sl v7 9 .str y.2,.inv 0 f8]) (lM xs) k undef (0,[]) (fun _=>rfl) h (SE.fin [1,0,2,3] ⟨rfl,rfl,rfl,rfl,rfl,rfl,rfl,rfl,trivial⟩ rfl) (fun n2 v q h=>?_)
  unfold lM at h;refine sr (jb (bj rfl) ?_);refine nt (ar (bK rfl (fun hb=>?_) (fun hb=>?_)))
  ·replace h:=cF (oe hb) h;refine sk (ar (aj ?_));obtain⟨c,ec,h⟩:=aa h;refine sr (jb (aG (t:=.int .i64) rfl dB Qp ec) ?_);refine ja (ak (t:=.int .i64) rfl Qp rfl) ?_;refine aq (nt ?_)
   have hk:0≤me c∧me c≤127∧bq (q.2.length+1):=by
    apply Classical.byContradiction;intro hn;rw [if_neg hn] at h;cases h
   replace h:=cF hk h;refine wY 1 rfl fun hv=>?_;refine ab (mq ?_);refine ja (pL rfl U3 VA) ?_;refine jb (Dp rfl) ?_;refine bO (Δ:=[_,_]) (F:=_) (fun _ _ _=>aA rfl _) rfl rfl (ao [.tmp 10,.tmp 33] rfl rfl OZ rfl (yG (b:=b) (p:=P0 b q.2) (v:=SX q.2 v) (l:=q.2) (r:=me c) (Pl b q.2) hv hk.1 hk.2.1 hk.2.2)) ⟨rfl,rfl,trivial⟩ fun v2=>?_;refine ax (bT (tn (ab ?_)));obtain⟨z3,ez3,h⟩:=aa h;refine jb (a9 rfl ez3) ?_;refine mq (nl ?_);exact jm (v2,(z3,q.2++[me c])) h (SE.fin [0,1,2,3] ⟨rfl,rfl,rfl,rfl,rfl,rfl,rfl,rfl,trivial⟩ (by simp only [JH,JG];rfl))
  replace h:=bM (nr hb) h;refine jp (cy (cy (dW (tn ?_))));replace h:(if bq (y.2.length+1) then(ck (y.1+1)).bind fun z=>j0 k a1 n (z,y.2++[rI q.2]) else none).bind _=some r:=h
  have hk:bq (y.2.length+1):=by
   apply Classical.byContradiction;intro hn;rw [if_neg hn] at h;cases h
  replace h:=cF hk h;refine ab (mq ?_);refine bO (Δ:=[_,_]) (F:=_) (fun _ _ _=>aA rfl _) rfl rfl (ao [.tmp 10] rfl rfl Jq rfl (xH (b:=b) (l:=q.2) (fun hn=>by rw [hn];rfl))) ⟨rfl,trivial⟩ fun _=>?_;refine ja (bh (t:=.str) [(.tmp 37,.eq (.string (rI q.2)))] [rI q.2] rfl rfl HA (.cons rfl .str .nil) rfl rfl) ?_;refine cp rfl rfl rfl (be rfl rfl HA (by simpa using hk)) ⟨rfl,rfl,trivial⟩ fun v'=>?_;refine aq (ax (bT (tn (ab ?_))));obtain⟨z3,ez3,h⟩:=aa h;refine jb (a9 rfl ez3) ?_;refine mq (nl ?_);exact jz (v',(z3,y.2++[rI q.2])) h [0,1]
 replace h:=bM (nr hb) h
 refine jp ?_
 refine cy ?_
 refine cy ?_
 refine dW ?_
 refine tn ?_
 replace h:((vg k y.2 ⟨#[47]⟩).bind fun r=>some (.string r,0)).bind some=some r:=h
 obtain⟨r1,j,h⟩:=aa h
 cases h
 have cj:=CS k y.2 _ r1 j
 refine sr ?_
 refine co (dh [7] ⟨rfl,trivial⟩) ?_
 refine mq ?_
 refine jb (ao [.tmp 41,.const (.string ⟨#[47]⟩)] rfl rfl OY rfl cj) ?_
 refine aq ?_
 refine cq ?_
 refine nt ?_
 refine bJ ?_
 exact aL () [_,_] 1 ⟨rfl,rfl,trivial⟩ rfl
def kH(k:Nat):Option Bool:=
 (ln k ([]:(List Int))).bind fun r1=>
 (xY k).bind fun r2=>
 (yE k r1 r2 1).bind fun r3=>
 (ln k ([]:(List Int))).bind fun r4=>
 (xY k).bind fun r5=>
 (qD k r4 r5).bind fun r6=>
 (ln k ([]:(List Int))).bind fun r7=>
 (vD k r7).bind fun r8=>
 (ln k ([]:(List Int))).bind fun r9=>
 (IR k).bind fun E=>
 (vC k r9 E).bind fun c=>
 (ln k ([]:(List Int))).bind fun D=>
 (xY k).bind fun y=>
 (rH k D y 0 1).bind fun h=>
 (ln k ([]:(List Int))).bind fun x=>
 (xY k).bind fun u=>
 (tO k x u).bind fun e=>
 ((if r3.2.2=0 then(if r6.2=0 then(if r8.2.2=0 then(if c.2.2.2=0 then(if h.2.2=0 then(if e.2=0 then(if r6.1=3 then(if r8.2.1=0 then(if c.1=0 then(if c.2.1=2 then(if c.2.2.1=1 then(if h.2.1=2 then((cP (NL e.1=true)).bind fun _=>
 if Jm e.1 (⟨#[98,97,100,47,99]⟩:ByteArray)=true then((dH k r3.1 [0]).bind fun s=>
 if s=true then((gg k r3.2.1 [[0,1,3],[2]]).bind fun r=>
 if r=true then((gg k r8.1 [[2,0],[1,3]]).bind fun n=>
 if n=true then((dH k h.1 [0,1,3]).bind fun l=>
 some l) else(some false)) else(some false)) else(some false)) else(some false)) else(some false)) else(some false)) else(some false)) else(some false)) else(some false)) else(some false)) else(some false)) else(some false)) else(some false)) else(some false)) else(some false)) else(some false)):Option (Bool)).bind fun j=>
 some j
theorem rz(k:Nat)(r:Bool)(h:kH k=some r):
 dD (jg Tryz.prog) 5 [] [.inv 0 (f8)] (fun _:Unit=>(bp [.eq (.bool r)],[.inv 0 (f8)])):=by
 unfold kH at h
 replace h:=ba h
 refine dD.of 132 Tryz.func5 rfl Tryz.ntmps5 rfl fun S w0=>?_
 refine au ?_
 obtain⟨r1,VY,h⟩:=aa h
 have V7:=jU k ([]:(List Int)) r1 VY
 refine ja (cO (N:=[(.const (.slice none 0 0),.eq (.slice none 0 0))]) (ao [.const (.slice none 0 0)] rfl rfl Gy rfl V7) fun _ _ _ hn=>⟨(fN (t:=(.slice (.int .i64))) (x:=([]:(List Int))) .nil rfl rfl hn.1),trivial⟩) ?_
 obtain⟨r2,VX,h⟩:=aa h
 have V6:=sV k r2 VX
 refine aF rfl (ao [] rfl rfl MB rfl V6) trivial ?_
 obtain⟨r3,VV,h⟩:=aa h
 have V5:=CM k r1 r2 1 r3 VV
 refine kc (ao [.tmp 19,.tmp 20,.const (.int .i64 (1))] rfl rfl UQ rfl V5) ?_
 refine au ?_
 obtain⟨r4,VU,h⟩:=aa h
 have V4:=jU k ([]:(List Int)) r4 VU
 refine ja (cO (N:=[(.const (.slice none 0 0),.eq (.slice none 0 0))]) (ao [.const (.slice none 0 0)] rfl rfl Gy rfl V4) fun _ _ _ hn=>⟨(fN (t:=(.slice (.int .i64))) (x:=([]:(List Int))) .nil rfl rfl hn.1),trivial⟩) ?_
 obtain⟨r5,VT,h⟩:=aa h
 have V3:=sV k r5 VT
 refine aF rfl (ao [] rfl rfl MB rfl V3) trivial ?_
 obtain⟨r6,VS,h⟩:=aa h
 have V2:=sD k r4 r5 r6 VS
 refine kb (fX [.tmp 26,.tmp 27] rfl rfl UP rfl V2) ?_
 refine au ?_
 obtain⟨r7,VQ,h⟩:=aa h
 have V1:=jU k ([]:(List Int)) r7 VQ
 refine ja (cO (N:=[(.const (.slice none 0 0),.eq (.slice none 0 0))]) (ao [.const (.slice none 0 0)] rfl rfl Gy rfl V1) fun _ _ _ hn=>⟨(fN (t:=(.slice (.int .i64))) (x:=([]:(List Int))) .nil rfl rfl hn.1),trivial⟩) ?_
 obtain⟨r8,VP,h⟩:=aa h
 have V0:=Ah k r7 r8 VP
 refine ja (fX [.tmp 32] rfl rfl UO rfl V0) ?_
 refine au ?_
 obtain⟨r9,VO,h⟩:=aa h
 have VZ:=jU k ([]:(List Int)) r9 VO
 refine ja (cO (N:=[(.const (.slice none 0 0),.eq (.slice none 0 0))]) (ao [.const (.slice none 0 0)] rfl rfl Gy rfl VZ) fun _ _ _ hn=>⟨(fN (t:=(.slice (.int .i64))) (x:=([]:(List Int))) .nil rfl rfl hn.1),trivial⟩) ?_
 obtain⟨E,qt,h⟩:=aa h
 have VI:=IQ k E qt
 refine aF rfl (ao [] rfl rfl UM rfl VI) trivial ?_
 obtain⟨VN,pp,h⟩:=aa h
 have VH:=Ag k r9 E VN pp
 refine kb (fX [.tmp 38,.tmp 39] rfl rfl UN rfl VH) ?_
 refine au ?_
 obtain⟨D,mc,h⟩:=aa h
 have VG:=jU k ([]:(List Int)) D mc
 refine ja (cO (N:=[(.const (.slice none 0 0),.eq (.slice none 0 0))]) (ao [.const (.slice none 0 0)] rfl rfl Gy rfl VG) fun _ _ _ hn=>⟨(fN (t:=(.slice (.int .i64))) (x:=([]:(List Int))) .nil rfl rfl hn.1),trivial⟩) ?_
 obtain⟨y,ac,h⟩:=aa h
 have VF:=sV k y ac
 refine aF rfl (ao [] rfl rfl MB rfl VF) trivial ?_
 obtain⟨u,Y,h⟩:=aa h
 have VE:=xg k D y 0 1 u Y
 refine bX rfl rfl rfl (fX [.tmp 46,.tmp 47,.const (.int .i64 (0)),.const (.int .i64 (1))] rfl rfl UL rfl VE) ⟨rfl,rfl,rfl,rfl,trivial⟩ ?_
 refine au ?_
 obtain⟨n,X,h⟩:=aa h
 have VD:=jU k ([]:(List Int)) n X
 refine ja (cO (N:=[(.const (.slice none 0 0),.eq (.slice none 0 0))]) (ao [.const (.slice none 0 0)] rfl rfl Gy rfl VD) fun _ _ _ hn=>⟨(fN (t:=(.slice (.int .i64))) (x:=([]:(List Int))) .nil rfl rfl hn.1),trivial⟩) ?_
 obtain⟨l,U,h⟩:=aa h
 have VC:=sV k l U
 refine aF rfl (ao [] rfl rfl MB rfl VC) trivial ?_
 obtain⟨VM,Q,h⟩:=aa h
 have se:=yD k n l VM Q
 refine kb (ao [.tmp 53,.tmp 54] rfl rfl UK rfl se) ?_
 refine mq ?_
 refine xr ?_
 refine xr ?_
 refine aq ?_
 refine aq ?_
 refine nt ?_
 refine aJ (Z:=Unit) (α:=Bool) (fun e c=>[(0,.eq (.bool c))]) (fun e c=>[.inv 0 (f8)]) h (fun K h=>?_) (fun e c h=>?_)
 ·
  refine ab (mq ?_);refine jb (dX rfl) ?_;refine mq ?_;refine bY (s:=60) rfl (fun hb=>?_) (fun hb=>?_)
  ·replace h:=cF (oe hb) h;refine gm ?_;refine gb (dX rfl) ?_;refine pt ?_;refine mq ?_;refine bY (s:=64) rfl (fun hb=>?_) (fun hb=>?_)
   ·replace h:=cF (oe hb) h;refine gm ?_;refine gb (dX rfl) ?_;refine pt ?_;refine mq ?_;refine bY (s:=68) rfl (fun hb=>?_) (fun hb=>?_)
    ·replace h:=cF (oe hb) h;refine gm ?_;refine gb (dX rfl) ?_;refine pt ?_;refine mq ?_;refine bY (s:=72) rfl (fun hb=>?_) (fun hb=>?_)
     ·replace h:=cF (oe hb) h;refine gm ?_;refine gb (dX rfl) ?_;refine pt ?_;refine mq ?_;refine bY (s:=76) rfl (fun hb=>?_) (fun hb=>?_)
      ·replace h:=cF (oe hb) h;refine gm ?_;refine gb (dX rfl) ?_;refine pt ?_;refine mq ?_;refine bY (s:=80) rfl (fun hb=>?_) (fun hb=>?_)
       ·replace h:=cF (oe hb) h;refine gm ?_;refine gb (dX rfl) ?_;refine pt ?_;refine mq ?_;refine bY (s:=84) rfl (fun hb=>?_) (fun hb=>?_)
        ·replace h:=cF (oe hb) h;refine gm ?_;refine gb (dX rfl) ?_;refine pt ?_;refine mq ?_;refine bY (s:=88) rfl (fun hb=>?_) (fun hb=>?_)
         ·replace h:=cF (oe hb) h;refine gm ?_;refine gb (dX rfl) ?_;refine pt ?_;refine mq ?_;refine bY (s:=92) rfl (fun hb=>?_) (fun hb=>?_)
          ·replace h:=cF (oe hb) h;refine gm ?_;refine gb (dX rfl) ?_;refine pt ?_;refine mq ?_;refine bY (s:=96) rfl (fun hb=>?_) (fun hb=>?_)
           ·replace h:=cF (oe hb) h;refine gm ?_;refine gb (dX rfl) ?_;refine pt ?_;refine mq ?_;refine bY (s:=100) rfl (fun hb=>?_) (fun hb=>?_)
            ·replace h:=cF (oe hb) h;refine gm ?_;refine gb (dX rfl) ?_;refine pt ?_;refine mq ?_;refine bY (s:=104) rfl (fun hb=>?_) (fun hb=>?_)
             ·replace h:=cF (oe hb) h;refine gm ?_;obtain⟨V8,F,h⟩:=aa h;refine gb (Ic rfl (ay F)) ?_;refine pt ?_;refine mq ?_;refine bY (s:=108) rfl (fun hb=>?_) (fun hb=>?_)
              ·replace h:=cF (CE hb) h;refine gm ?_;refine ga (bh (t:=(.int .i64)) [(.const (.int .i64 (0)),_)] [0] rfl rfl de (.cons rfl .int .nil) rfl rfl) ?_;obtain⟨VL,O,h⟩:=aa h;refine gb (ao [.tmp 109,.tmp 110] rfl rfl Gz rfl (fL k r3.1 [0] VL O)) ?_;refine pt ?_;refine mq ?_;refine bY (s:=113) rfl (fun hb=>?_) (fun hb=>?_)
               ·replace h:=cF (CE hb) h;refine gm ?_;refine gc (bh (t:=(.int .i64)) [(.const (.int .i64 (0)),_),(.const (.int .i64 (1)),_),(.const (.int .i64 (3)),_)] [0,1,3] rfl rfl de (.cons rfl .int (.cons rfl .int (.cons rfl .int .nil))) rfl rfl) ?_;refine ga (bh (t:=(.int .i64)) [(.const (.int .i64 (2)),_)] [2] rfl rfl de (.cons rfl .int .nil) rfl rfl) ?_;refine gb (bh (t:=(.slice (.int .i64))) [(.tmp 115,_),(.tmp 116,_)] [[0,1,3],[2]] rfl rfl lD (.cons rfl .rep (.cons rfl .rep .nil)) rfl rfl) ?_;obtain⟨VK,M,h⟩:=aa h;refine gb (ao [.tmp 114,.tmp 117] rfl rfl O7 rfl (kK k r3.2.1 [[0,1,3],[2]] VK M)) ?_;refine pt ?_;refine mq ?_;refine bY (s:=120) rfl (fun hb=>?_) (fun hb=>?_)
                ·replace h:=cF (CE hb) h;refine gm ?_;refine gb (bh (t:=(.int .i64)) [(.const (.int .i64 (2)),_),(.const (.int .i64 (0)),_)] [2,0] rfl rfl de (.cons rfl .int (.cons rfl .int .nil)) rfl rfl) ?_;refine gb (bh (t:=(.int .i64)) [(.const (.int .i64 (1)),_),(.const (.int .i64 (3)),_)] [1,3] rfl rfl de (.cons rfl .int (.cons rfl .int .nil)) rfl rfl) ?_;refine gb (bh (t:=(.slice (.int .i64))) [(.tmp 122,_),(.tmp 123,_)] [[2,0],[1,3]] rfl rfl lD (.cons rfl .rep (.cons rfl .rep .nil)) rfl rfl) ?_;obtain⟨VJ,J,h⟩:=aa h;refine gb (ao [.tmp 121,.tmp 124] rfl rfl O7 rfl (kK k r8.1 [[2,0],[1,3]] VJ J)) ?_;refine pt ?_;refine mq ?_;refine bY (s:=127) rfl (fun hb=>?_) (fun hb=>?_)
                 ·replace h:=cF (CE hb) h;refine gm ?_;refine gc (bh (t:=(.int .i64)) [(.const (.int .i64 (0)),_),(.const (.int .i64 (1)),_),(.const (.int .i64 (3)),_)] [0,1,3] rfl rfl de (.cons rfl .int (.cons rfl .int (.cons rfl .int .nil))) rfl rfl) ?_;obtain⟨j,I,h⟩:=aa h;refine gb (ao [.tmp 128,.tmp 129] rfl rfl Gz rfl (fL k u.1 [0,1,3] j I)) ?_;refine au ?_;exact jz ((),j) h [0]
                 ·replace h:=bM (CG hb) h;refine au ?_;exact jz ((),false) h [0]
                ·replace h:=bM (CG hb) h;refine au ?_;exact jz ((),false) h [0]
               ·replace h:=bM (CG hb) h;refine au ?_;exact jz ((),false) h [0]
              ·replace h:=bM (CG hb) h;refine au ?_;exact jz ((),false) h [0]
             ·replace h:=bM (nr hb) h;refine au ?_;exact jz ((),false) h [0]
            ·replace h:=bM (nr hb) h;refine au ?_;exact jz ((),false) h [0]
           ·replace h:=bM (nr hb) h;refine au ?_;exact jz ((),false) h [0]
          ·replace h:=bM (nr hb) h;refine au ?_;exact jz ((),false) h [0]
         ·replace h:=bM (nr hb) h;refine au ?_;exact jz ((),false) h [0]
        ·replace h:=bM (nr hb) h;refine au ?_;exact jz ((),false) h [0]
       ·replace h:=bM (nr hb) h;refine au ?_;exact jz ((),false) h [0]
      ·replace h:=bM (nr hb) h;refine au ?_;exact jz ((),false) h [0]
     ·replace h:=bM (nr hb) h;refine au ?_;exact jz ((),false) h [0]
    ·replace h:=bM (nr hb) h;refine au ?_;exact jz ((),false) h [0]
   ·replace h:=bM (nr hb) h;refine au ?_;exact jz ((),false) h [0]
  ·replace h:=bM (nr hb) h;refine au ?_;exact jz ((),false) h [0]
 ·
  refine bJ ?_;cases h;exact aL () [_] 1 ⟨rfl,trivial⟩ rfl
def lp(k:Nat)(a0:aQ)(a1:gq)(a2:(List (List Int)))(a3:bW):Option ((List aQ)×(List (List (List Int)))×bW):=
 (kJ k (a3.1,a3.2.1,a3.2.2) 4 3).bind fun r3=>
 (jk k r3.1).bind fun r5=>
 (fY k a1.2).bind fun r8=>
 (cP (bq (List.length r5.2.1+List.length [(a1.1,r8)]))).bind fun _=>
 (ff k (r3.2.1,r3.2.2.1,r3.2.2.2) r3.1).bind fun e=>
 (ff k (e.2.1,e.2.2.1,e.2.2.2) r3.1).bind fun c=>
 (((ck ((r3.1.2.2.length:Int) - 1)).bind fun h=>
 if(r5.2.2.length:Int) < 3 then((aP r5.2.2 h).bind fun u=>
 (ck (u+3)).bind fun s=>
 (aP r5.2.2 h).bind fun y=>
 (aP [a2,e.1,a2,c.1] 3).bind fun r=>
 (jD k r).bind fun n=>
 (aP [a2,e.1,a2,c.1] 3).bind fun x=>
 (aP n h).bind fun j=>
 (cP (bq (List.length j+List.length [(r3.1.2.1.length:Int)]))).bind fun _=>
 some (List.set r5.2.2 (Int.toNat h) (kl 9 s),List.set [a2,e.1,a2,c.1] (Int.toNat 3) (List.set n (Int.toNat h) (j++[(r3.1.2.1.length:Int)])))) else(some (r5.2.2,[a2,e.1,a2,c.1]))):Option ((List Int)×(List (List (List Int))))).bind fun l=>
 some ([a0,r3.1,r3.1,(r5.1,r5.2.1++[(a1.1,r8)],l.1)],l.2,(c.2.1,c.2.2.1,c.2.2.2))
theorem wx(k:Nat)(a0:aQ)(a1:gq)(a2:(List (List Int)))(a3:bW)(e:Nat)(r:(List aQ)×(List (List (List Int)))×bW)(h:lp k a0 a1 a2 a3=some r):
 bZ Tryz.prog 6 [.rep an a0,.rep aK a1,.rep (.slice (.slice (.int .i64))) a2,Pt e] [.obj e 64 (.agg (.pair (Ri a3.1) (.pair (I a3.2.1) (.eq (.int .u64 a3.2.2)))))] (fun _:Unit=>(bp [Rs an r.1,.rep (.slice (.slice (.slice (.int .i64)))) r.2.1],[.obj e 64 (.agg (.pair (Ri r.2.2.1) (.pair (I r.2.2.2.1) (.eq (.int .u64 r.2.2.2.2)))))])):=by
 unfold lp at h
 replace h:=ba h
 refine bZ.of 85 Tryz.func6 rfl Tryz.ntmps6 rfl fun S w0=>?_
 refine sr ?_
 refine bx fun b1=>?_
 refine bx fun b2=>?_
 refine cq ?_
 refine cq ?_
 refine nt ?_
 refine sr ?_
 refine mq ?_
 obtain⟨r3,V8,h⟩:=aa h
 have Wb:=xt k (a3.1,a3.2.1,a3.2.2) e 4 3 r3 V8
 refine fr 2 ?_
 refine kc (ao [.tmp 14,.const (.int .i64 (4)),.const (.int .i64 (3))] rfl rfl UJ rfl Wb) ?_
 refine aD rfl rfl rfl (aY rfl lJ og) trivial fun b4=>?_
 refine a8 rfl rfl (aX rfl du rfl rfl rfl) ⟨rfl,rfl,trivial⟩ ?_
 refine au ?_
 refine lo du ?_
 obtain⟨r5,V7,h⟩:=aa h
 have Wa:=pm k r3.1 r5 V7
 refine bO (Δ:=[]) (F:=_) (fun _ _ _=>aA rfl _) rfl rfl (ao [.tmp 16] rfl rfl Vd rfl Wa) ⟨rfl,trivial⟩ fun z6=>?_
 refine aD rfl rfl rfl (aY rfl lJ og) trivial fun b7=>?_
 refine a8 rfl rfl (aX rfl du trivial rfl rfl) ⟨rfl,rfl,trivial⟩ ?_
 refine au ?_
 refine bD ?_
 refine da (av rfl cg) ?_
 refine ea 0 (ah rfl fR jw rfl) ?_
 refine da (av rfl kO) ?_
 refine ea 5 (ah rfl cC jw rfl) ?_
 refine da (av rfl kN) ?_
 refine ea 5 (ah rfl bN jw rfl) ?_
 obtain⟨r8,V6,h⟩:=aa h
 have V9:=dp k a1.2 r8 V6
 refine da (zH (ao [.tmp 23] rfl rfl zx rfl V9)) ?_
 refine db (c9 [(0,.tmp 21,_),(1,.tmp 24,_)] rfl Dc vx wP (iN ⟨rfl,rfl,trivial⟩) rfl) ?_
 refine da (bh (t:=aK) [(.tmp 25,_)] [(a1.1,r8)] rfl rfl CV (.cons trivial (.agg (.pair .int .rep)) .nil) rfl rfl) ?_
 refine df cG ?_
 obtain⟨u9,V5,h⟩:=aa h
 refine fr 1 ?_
 refine cp rfl rfl rfl (be rfl rfl CV (ay V5)) ⟨rfl,rfl,trivial⟩ fun j=>?_
 refine fl cg ?_
 refine qy fun o11=>?_
 refine fr 1 ?_
 refine a8 rfl rfl (aX rfl fR o11 rfl rfl) ⟨rfl,rfl,trivial⟩ ?_
 refine au ?_
 refine yz [0,2,4,5,6,1,3,7,8,9] (by kernel_rfl) ?_
 refine aR rfl rfl rfl (aN rfl) ⟨rfl,trivial⟩ ?_
 refine dn 3 rfl rfl rfl rfl (ah rfl du (sT) rfl) ⟨rfl,trivial⟩ ?_
 refine aR rfl rfl rfl (aN rfl) ⟨rfl,trivial⟩ ?_
 refine aR rfl rfl rfl (aN rfl) ⟨rfl,trivial⟩ ?_
 refine dn 3 rfl rfl rfl rfl (ah rfl du (sT) rfl) ⟨rfl,trivial⟩ ?_
 refine aR rfl rfl rfl (aN rfl) ⟨rfl,trivial⟩ ?_
 refine nB 6 [false,true,false,false,false,true] [32,36] [3] [.obj b4 25 (.rep an r3.1)] rfl (by kernel_rfl) (by kernel_rfl) (by kernel_rfl) cG (fun vs hv hB=>?_)
 obtain⟨w0,V1,rfl,VD⟩:=ap hv
 obtain⟨w1,V0,rfl,VC⟩:=ap VD
 obtain⟨w2,VZ,rfl,se⟩:=ap VC
 obtain⟨w3,VY,rfl,qt⟩:=ap se
 obtain⟨w4,VX,rfl,pp⟩:=ap qt
 obtain⟨w5,VV,rfl,mc⟩:=ap pp
 obtain rfl:=kZ mc
 refine⟨[3,0,1,2,4,5,6],[.obj b7 25 (.agg (.pair (I r5.1) (.pair (.eq j) (.eq z6.2)))),.sl j 27 aK (r5.2.1++[(a1.1,r8)]),.sl z6.2 3 (.int .i64) r5.2.2,.obj e 64 (.agg (.pair (Ri r3.2.1) (.pair (I r3.2.2.1) (.eq (.int .u64 r3.2.2.2))))),.obj b2 27 (.rep aK a1),.obj b1 25 (.rep an a0)],by kernel_rfl,by decide,?_⟩
 obtain⟨x,VQ,h⟩:=aa h
 have VT:=nY k (r3.2.1,r3.2.2.1,r3.2.2.2) e r3.1 x VQ
 refine jh 3 rfl ?_
 refine wX rfl rfl rfl rfl (ao [.tmp 30,.tmp 31] rfl rfl RI rfl VT) ⟨rfl,rfl,trivial⟩ (by kernel_rfl) ?_
 obtain⟨c,VP,h⟩:=aa h
 have VS:=nY k (x.2.1,x.2.2.1,x.2.2.2) e r3.1 c VP
 refine wX rfl rfl rfl rfl (ao [.tmp 34,.tmp 35] rfl rfl RI rfl VS) ⟨rfl,rfl,trivial⟩ (by kernel_rfl) ?_
 refine zJ (by kernel_rfl) ?_
 refine aD rfl rfl rfl (ge (t:=(.slice (.slice (.int .i64)))) [(.tmp 29,_),(.tmp 32,_),(.tmp 33,_),(.tmp 36,_)] [a2,x.1,a2,c.1] rfl rfl Hz (.cons rfl .rep (.cons rfl .rep (.cons rfl .rep (.cons rfl .rep .nil)))) rfl rfl) ⟨rfl,rfl,rfl,rfl,trivial⟩ fun y=>?_
 refine aq ?_
 refine nt ?_
 refine aJ (Z:=Unit) (α:=(List Int)×(List (List (List Int)))) (fun VE U=>[(4,Pt b1),(10,Pt b4),(11,Pt b7),(12,.eq y)]) (fun VE U=>[.obj b1 25 (.rep an a0),.obj b4 25 (.rep an r3.1),.obj b7 25 (.agg (.pair (I r5.1) (.pair (.eq j) (.eq z6.2)))),.sl j 27 aK (r5.2.1++[(a1.1,r8)]),.sl z6.2 3 (.int .i64) U.1,.sl y 37 (.slice (.slice (.int .i64))) U.2,.obj e 64 (.agg (.pair (Ri c.2.1) (.pair (I c.2.2.1) (.eq (.int .u64 c.2.2.2)))))]) h (fun K h=>?_) (fun VE U h=>?_)
 ·
  refine sr (fl cH ?_);refine fr 1 ?_;refine lo bN ?_;refine ol dB ?_;obtain⟨s,VM,h⟩:=aa h;refine jb (eY rfl VM) ?_;refine au ?_;refine fl cH ?_;refine fr 3 ?_;refine lo bN ?_;refine fr 5 ?_;refine ka (cZ rfl rfl dB) ?_;refine jb (bj rfl) ?_;refine nt (ci h (fun h=>?_) (fun h=>?_))
  ·refine ar (bD ?_);refine da (av rfl cH) ?_;refine ea 1 (ah rfl bN jw rfl) ?_;refine dm ?_;refine da (av rfl cH) ?_;refine ea 1 (ah rfl bN jw rfl) ?_;refine dm ?_;obtain⟨Wp,ac,h⟩:=aa h;refine eb 0 (aV (t:=(.int .i64)) rfl dB cC ac) ?_;refine ea 0 (dV (i:=Int.toNat s) (off:=0) rfl cC (fun _=>rfl) rfl (cz ac).2.2 rfl) ?_;obtain⟨D,VL,h⟩:=aa h;refine db (a9 rfl VL) ?_;refine db (EC rfl rfl) ?_;refine df cG ?_;obtain⟨Wn,Y,h⟩:=aa h;refine kb (aV (t:=(.int .i64)) rfl dB cC Y) ?_;refine a8 rfl rfl (cI (i:=Int.toNat s) rfl cC rfl (gy Y) rfl .int rfl) ⟨rfl,rfl,trivial⟩ ?_;refine nt (sr ?_);iterate 2 refine mq ?_
   obtain⟨VU,X,h⟩:=aa h;refine fr 3 ?_;refine kb (aV (t:=(.slice (.slice (.int .i64)))) rfl PI uW X) ?_;refine ka (dV (i:=Int.toNat 3) (off:=0) rfl uW (fun _=>rfl) rfl (cz X).2.2 rfl) ?_;obtain⟨E,VO,h⟩:=aa h;refine bO (Δ:=[]) (F:=[.sl y 37 (.slice (.slice (.int .i64))) [a2,x.1,a2,c.1],.sl z6.2 3 (.int .i64) (List.set r5.2.2 (Int.toNat s) (kl 9 D)),.obj b7 25 (.agg (.pair (I r5.1) (.pair (.eq j) (.eq z6.2)))),.obj b4 25 (.rep an r3.1),.obj e 64 (.agg (.pair (Ri c.2.1) (.pair (I c.2.2.1) (.eq (.int .u64 c.2.2.2))))),.sl j 27 aK (r5.2.1++[(a1.1,r8)]),.obj b2 27 (.rep aK a1),.obj b1 25 (.rep an a0)]) (fun _ _ _=>aA rfl _) rfl rfl (ao [.tmp 60] rfl rfl UI rfl (sX k VU E VO)) ⟨rfl,trivial⟩ fun n=>?_;refine co (fE List.perm_append_comm) ?_;obtain⟨Wm,M,h⟩:=aa h;refine kb (aV (t:=(.slice (.slice (.int .i64)))) rfl PI uW M) ?_;refine J3 (pre:=[.sl y 37 (.slice (.slice (.int .i64))) [a2,x.1,a2,c.1],.sl z6.2 3 (.int .i64) (List.set r5.2.2 (Int.toNat s) (kl 9 D)),.obj b7 25 (.agg (.pair (I r5.1) (.pair (.eq j) (.eq z6.2)))),.obj b4 25 (.rep an r3.1),.obj e 64 (.agg (.pair (Ri c.2.1) (.pair (I c.2.2.1) (.eq (.int .u64 c.2.2.2))))),.sl j 27 aK (r5.2.1++[(a1.1,r8)]),.obj b2 27 (.rep aK a1),.obj b1 25 (.rep an a0)]) fun oz25=>?_;refine co GN ?_;refine a8 rfl rfl (cI (i:=Int.toNat 3) rfl uW rfl (by rw [List.length_map];exact gy M) rfl (.altR oz25) oz25) ⟨rfl,rfl,trivial⟩ ?_;refine nt ?_;obtain⟨Q,J,h⟩:=aa h;refine dE (uA (pre:=[.sl y 37 (.alt (.slice (.slice (.int .i64)))) (List.set (List.map Sum.inl [a2,x.1,a2,c.1]) (Int.toNat 3) (.inr n.1)),.sl z6.2 3 (.int .i64) (List.set r5.2.2 (Int.toNat s) (kl 9 D)),.obj b7 25 (.agg (.pair (I r5.1) (.pair (.eq j) (.eq z6.2)))),.obj b4 25 (.rep an r3.1),.obj e 64 (.agg (.pair (Ri c.2.1) (.pair (I c.2.2.1) (.eq (.int .u64 c.2.2.2))))),.sl j 27 aK (r5.2.1++[(a1.1,r8)]),.obj b2 27 (.rep aK a1),.obj b1 25 (.rep an a0)]) (qS J).2) ?_;obtain⟨Wz,VN,h⟩:=aa h;refine tC (Δ:=[.sl (n.2 (Int.toNat s)) 3 (.int .i64) Q,.sl n.1 23 .val (eB n.2 0 E),.sl y 37 (.alt (.slice (.slice (.int .i64)))) (List.set (List.map Sum.inl [a2,x.1,a2,c.1]) (Int.toNat 3) (.inr n.1)),.sl z6.2 3 (.int .i64) (List.set r5.2.2 (Int.toNat s) (kl 9 D)),.obj b7 25 (.agg (.pair (I r5.1) (.pair (.eq j) (.eq z6.2)))),.obj b4 25 (.rep an r3.1),.obj e 64 (.agg (.pair (Ri c.2.1) (.pair (I c.2.2.1) (.eq (.int .u64 c.2.2.2))))),.sl j 27 aK (r5.2.1++[(a1.1,r8)]),.obj b2 27 (.rep aK a1),.obj b1 25 (.rep an a0)]) (F:=(kY n.2 0 E).eraseIdx (Int.toNat s)) (Z:=Value) (fun i=>[(4,Pt b1),(10,Pt b4),(11,Pt b7),(12,.eq y)]) (fun i=>[.sl n.1 23 .val (List.set (eB n.2 0 E) (Int.toNat s) i),.sl i 3 (.int .i64) (Q++[(r3.1.2.1.length:Int)]),.sl y 37 (.alt (.slice (.slice (.int .i64)))) (List.set (List.map Sum.inl [a2,x.1,a2,c.1]) (Int.toNat 3) (.inr n.1)),.sl z6.2 3 (.int .i64) (List.set r5.2.2 (Int.toNat s) (kl 9 D)),.obj b7 25 (.agg (.pair (I r5.1) (.pair (.eq j) (.eq z6.2)))),.obj b4 25 (.rep an r3.1),.obj e 64 (.agg (.pair (Ri c.2.1) (.pair (I c.2.2.1) (.eq (.int .u64 c.2.2.2))))),.sl j 27 aK (r5.2.1++[(a1.1,r8)]),.obj b2 27 (.rep aK a1),.obj b1 25 (.rep an a0)]) (fun S w=>?_) (fun O=>?_)
   ·refine lB ?_;refine aR rfl rfl rfl (aN rfl) ⟨rfl,trivial⟩ ?_;refine dn 2 rfl rfl rfl rfl (aV (t:=.alt (.slice (.slice (.int .i64)))) rfl PI uW (s9 M _)) ⟨rfl,rfl,trivial⟩ ?_;refine dn 2 rfl rfl rfl rfl (wi (i:=Int.toNat 3) rfl uW rfl (cz (s9 M _)).2.2) ⟨rfl,trivial⟩ ?_;refine aR rfl rfl rfl (aN rfl) ⟨rfl,trivial⟩ ?_;refine aR rfl rfl rfl (aN rfl) ⟨rfl,trivial⟩ ?_;refine dn 2 rfl rfl rfl rfl (aV (t:=.alt (.slice (.slice (.int .i64)))) rfl PI uW (s9 M _)) ⟨rfl,rfl,trivial⟩ ?_;refine dn 2 rfl rfl rfl rfl (wi (i:=Int.toNat 3) rfl uW rfl (cz (s9 M _)).2.2) ⟨rfl,trivial⟩ ?_;refine aR rfl rfl rfl (aN rfl) ⟨rfl,trivial⟩ ?_;refine dn 1 rfl rfl rfl rfl (aV (t:=.val) rfl oh bN (kT J)) ⟨rfl,rfl,trivial⟩ ?_;refine dn 1 rfl rfl rfl rfl (dV (i:=Int.toNat s) (off:=0) rfl bN (fun _=>rfl) rfl (cz (kT J)).2.2 rfl) ⟨rfl,trivial⟩ ?_;refine aR rfl rfl rfl (av rfl cg) ⟨rfl,trivial⟩ ?_;refine dn 5 rfl rfl rfl rfl (ah rfl fR jw rfl) ⟨rfl,trivial⟩ ?_;refine aR rfl rfl rfl (jq rfl rfl nD) ⟨rfl,trivial⟩ ?_;refine aR rfl rfl rfl (bh (t:=(.int .i64)) [(.tmp 75,_)] [(r3.1.2.1.length:Int)] rfl rfl de (.cons rfl .int .nil) rfl rfl) ⟨rfl,trivial⟩ ?_;refine xa 0 rfl (fun v=>[.sl v 3 (.int .i64) (Q++[(r3.1.2.1.length:Int)])]) (fun _=>rfl) rfl rfl rfl (be rfl rfl de (ay VN)) ⟨rfl,rfl,trivial⟩ ?_;refine nB 15 [true,true,true,true,true,true,true,true,true,true,true,true,true,true,true] [78] [] [] rfl (by kernel_rfl) (by kernel_rfl) (by kernel_rfl) cG (fun vs hv hB=>?_);obtain⟨w0,V1,rfl,VD⟩:=ap hv;obtain⟨w1,V0,rfl,VC⟩:=ap VD;obtain⟨w2,VZ,rfl,se⟩:=ap VC;obtain⟨w3,VY,rfl,qt⟩:=ap se;obtain⟨w4,VX,rfl,pp⟩:=ap qt;obtain⟨w5,VV,rfl,mc⟩:=ap pp;obtain⟨w6,Wy,rfl,V4⟩:=ap mc;obtain⟨w7,Wx,rfl,V3⟩:=ap V4;obtain⟨w8,Wv,rfl,V2⟩:=ap V3;obtain⟨w9,Wj,rfl,VK⟩:=ap V2;obtain⟨Wu,Wi,rfl,VJ⟩:=ap VK;obtain⟨Wt,Wh,rfl,VI⟩:=ap VJ;obtain⟨Ws,Wg,rfl,VH⟩:=ap VI;obtain⟨Wq,We,rfl,VG⟩:=ap VH;obtain⟨O,Wc,rfl,VF⟩:=ap VG;obtain rfl:=kZ VF;refine⟨[0,1,2,3,4,5,6,7,8,9],[.sl n.1 23 .val (eB n.2 0 E),.sl y 37 (.alt (.slice (.slice (.int .i64)))) (List.set (List.map Sum.inl [a2,x.1,a2,c.1]) (Int.toNat 3) (.inr n.1)),.sl z6.2 3 (.int .i64) (List.set r5.2.2 (Int.toNat s) (kl 9 D)),.obj b7 25 (.agg (.pair (I r5.1) (.pair (.eq j) (.eq z6.2)))),.obj b4 25 (.rep an r3.1),.obj e 64 (.agg (.pair (Ri c.2.1) (.pair (I c.2.2.1) (.eq (.int .u64 c.2.2.2))))),.sl j 27 aK (r5.2.1++[(a1.1,r8)]),.obj b2 27 (.rep aK a1),.obj b1 25 (.rep an a0),.sl O 3 (.int .i64) (Q++[(r3.1.2.1.length:Int)])],by kernel_rfl,by decide,?_⟩;refine wX rfl rfl rfl rfl (aV (t:=.val) rfl oh bN (kT J)) ⟨rfl,rfl,trivial⟩ (by kernel_rfl) ?_;refine jh 9 rfl ?_;refine Ea fun o29=>?_;refine jh 1 rfl ?_;refine qw rfl rfl (cI (i:=Int.toNat s) rfl bN rfl (gy (kT J)) rfl (.val o29) o29) ⟨rfl,rfl,trivial⟩ (by kernel_rfl) ?_;refine uC ?_;refine bi (SE.fin (Γ':=[(4,Pt b1),(10,Pt b4),(11,Pt b7),(12,.eq y)]) (Δ':=[.sl n.1 23 .val (List.set (eB n.2 0 E) (Int.toNat s) O),.sl O 3 (.int .i64) (Q++[(r3.1.2.1.length:Int)]),.sl y 37 (.alt (.slice (.slice (.int .i64)))) (List.set (List.map Sum.inl [a2,x.1,a2,c.1]) (Int.toNat 3) (.inr n.1)),.sl z6.2 3 (.int .i64) (List.set r5.2.2 (Int.toNat s) (kl 9 D)),.obj b7 25 (.agg (.pair (I r5.1) (.pair (.eq j) (.eq z6.2)))),.obj b4 25 (.rep an r3.1),.obj e 64 (.agg (.pair (Ri c.2.1) (.pair (I c.2.2.1) (.eq (.int .u64 c.2.2.2))))),.sl j 27 aK (r5.2.1++[(a1.1,r8)]),.obj b2 27 (.rep aK a1),.obj b1 25 (.rep an a0)]) [0,1,2,3,4,5,6,7,8,9] ⟨rfl,rfl,rfl,rfl,trivial⟩ rfl) ?_
    exact fun a w st=>⟨rfl,(O),(SE.fin (Γ':=[(4,Pt b1),(10,Pt b4),(11,Pt b7),(12,.eq y)]) (Δ':=[.sl n.1 23 .val (List.set (eB n.2 0 E) (Int.toNat s) O),.sl O 3 (.int .i64) (Q++[(r3.1.2.1.length:Int)]),.sl y 37 (.alt (.slice (.slice (.int .i64)))) (List.set (List.map Sum.inl [a2,x.1,a2,c.1]) (Int.toNat 3) (.inr n.1)),.sl z6.2 3 (.int .i64) (List.set r5.2.2 (Int.toNat s) (kl 9 D)),.obj b7 25 (.agg (.pair (I r5.1) (.pair (.eq j) (.eq z6.2)))),.obj b4 25 (.rep an r3.1),.obj e 64 (.agg (.pair (Ri c.2.1) (.pair (I c.2.2.1) (.eq (.int .u64 c.2.2.2))))),.sl j 27 aK (r5.2.1++[(a1.1,r8)]),.obj b2 27 (.rep aK a1),.obj b1 25 (.rep an a0)]) [0,1,2,3,4,5,6,7,8,9] ⟨rfl,rfl,rfl,rfl,trivial⟩ rfl) a w st⟩
   ·show JN _ _ [(4,Pt b1),(10,Pt b4),(11,Pt b7),(12,.eq y)] ([.sl n.1 23 .val (List.set (eB n.2 0 E) (Int.toNat s) O),.sl O 3 (.int .i64) (Q++[(r3.1.2.1.length:Int)]),.sl y 37 (.alt (.slice (.slice (.int .i64)))) (List.set (List.map Sum.inl [a2,x.1,a2,c.1]) (Int.toNat 3) (.inr n.1)),.sl z6.2 3 (.int .i64) (List.set r5.2.2 (Int.toNat s) (kl 9 D)),.obj b7 25 (.agg (.pair (I r5.1) (.pair (.eq j) (.eq z6.2)))),.obj b4 25 (.rep an r3.1),.obj e 64 (.agg (.pair (Ri c.2.1) (.pair (I c.2.2.1) (.eq (.int .u64 c.2.2.2))))),.sl j 27 aK (r5.2.1++[(a1.1,r8)]),.obj b2 27 (.rep aK a1),.obj b1 25 (.rep an a0)]++(kY n.2 0 E).eraseIdx (Int.toNat s));refine aW 1 rfl ?_;refine bi (wV (pre:=[.sl y 37 (.alt (.slice (.slice (.int .i64)))) (List.set (List.map Sum.inl [a2,x.1,a2,c.1]) (Int.toNat 3) (.inr n.1)),.sl z6.2 3 (.int .i64) (List.set r5.2.2 (Int.toNat s) (kl 9 D)),.obj b7 25 (.agg (.pair (I r5.1) (.pair (.eq j) (.eq z6.2)))),.obj b4 25 (.rep an r3.1),.obj e 64 (.agg (.pair (Ri c.2.1) (.pair (I c.2.2.1) (.eq (.int .u64 c.2.2.2))))),.sl j 27 aK (r5.2.1++[(a1.1,r8)]),.obj b2 27 (.rep aK a1),.obj b1 25 (.rep an a0)]) (z:=n) (i:=Int.toNat s) (qS J).2) ?_;refine ag (bi (BO (pre:=[.sl y 37 (.alt (.slice (.slice (.int .i64)))) (List.set (List.map Sum.inl [a2,x.1,a2,c.1]) (Int.toNat 3) (.inr n.1)),.sl z6.2 3 (.int .i64) (List.set r5.2.2 (Int.toNat s) (kl 9 D)),.obj b7 25 (.agg (.pair (I r5.1) (.pair (.eq j) (.eq z6.2)))),.obj b4 25 (.rep an r3.1),.obj e 64 (.agg (.pair (Ri c.2.1) (.pair (I c.2.2.1) (.eq (.int .u64 c.2.2.2))))),.sl j 27 aK (r5.2.1++[(a1.1,r8)]),.obj b2 27 (.rep aK a1),.obj b1 25 (.rep an a0)])) ?_);refine bi (GO (u:=.slice (.int .i64)) (l:=[a2,x.1,a2,c.1]) (i:=Int.toNat 3)) ?_;exact jz ((),(List.set r5.2.2 (Int.toNat s) (kl 9 D),List.set [a2,x.1,a2,c.1] (Int.toNat 3) (List.set E (Int.toNat s) (Q++[(r3.1.2.1.length:Int)])))) h [7,3,2,5,1,0,4]
  ·refine au ?_;exact jz ((),(r5.2.2,[a2,x.1,a2,c.1])) h [7,2,1,5,0,3,4]
 ·
  refine sr (lo du ?_);refine fr 1 ?_;refine lo du ?_;refine lo du ?_;refine fr 2 ?_;refine fr 3 ?_;refine co (jP (off:=1) [] trivial rfl rfl) ?_;refine fr 3 ?_;refine co (jP (off:=2) [] trivial rfl rfl) ?_;refine lo du ?_;refine aF rfl (bh (t:=an) [(.tmp 79,_),(.tmp 80,_),(.tmp 81,_),(.tmp 82,_)] [a0,r3.1,r3.1,(r5.1,r5.2.1++[(a1.1,r8)],U.1)] rfl rfl Tv (.cons rfl .rep (.cons rfl .rep (.cons rfl .rep (.cons trivial (.agg (.pair .int (.pair .rep .rep))) .nil)))) rfl rfl) ⟨rfl,rfl,rfl,rfl,trivial⟩ ?_;refine mq ?_;refine aq ?_;refine aq (nt (bJ ?_));refine aW 3 rfl ?_;refine bi (dh [9,12,84] ⟨rfl,rfl,rfl,trivial⟩) ?_;refine bi (SE.fin (Γ':=[(8,_),(9,_)]) [3,0,1,2] ⟨rfl,rfl,trivial⟩ rfl) ?_;cases h;exact aL () [_,_] 1 ⟨rfl,rfl,trivial⟩ rfl
def eM(k:Nat)(a0:aQ)(j:(List (List Int))):Nat→((List Int)×Int)→Option (List Int)
 |0,_=>none
 |n+1,c=>
  if c.2 < (a0.2.2.length:Int) then((((cP (0≤c.2∧c.2 < 3)).bind fun _=>
  (aP j c.2).bind fun h=>
  (dN k ([]:(List (List Int)))).bind fun s=>
  (aP s c.2).bind fun e=>
  (cP (vO h∧vO e)).bind fun _=>
  if¬(h=e) then((cP (bq (List.length c.1+List.length [c.2]))).bind fun _=>
  some (c.1++[c.2])) else(some c.1)):Option ((List Int))).bind fun r=>
  (ck (c.2+1)).bind fun l=>
  eM k a0 j n (r,l)) else(some c.1)
def mW(k:Nat)(a0:aQ):Option ((List Int)×(List (List Int))×Int):=
 (kz k a0).bind fun r2=>
 if¬(r2=0) then(some ([],[],r2)) else((dL k (mY (fun(y9:Bool×(List (List Int))×(List Int)) (h:(List (List Int)))=>
  ((eM k a0 h k (([]:(List Int)),0)):Option ((List Int))).bind fun c=>
  ((if y9.1=true then(if(y9.2.2.length:Int) < (c.length:Int) then(some (c,true)) else(if(c.length:Int)=(y9.2.2.length:Int) then((dO k c y9.2.2).bind fun r=>
  some (c,decide (0≤r))) else(some (c,false)))) else(some (c,false))):Option ((List Int)×Bool)).bind fun j=>
  if j.2=true then(some ((y9.1,y9.2.1,y9.2.2),true)) else((bS k a0 h).bind fun n=>
  if n=0 then(some ((true,h,j.1),true)) else(some ((y9.1,y9.2.1,y9.2.2),true))))) (a0,()) ((false,[[0,0,0,0,0],[0,0,0,0,0],[0,0,0,0,0]],[]),false)).bind fun e=>
 if e.2=true then(none) else(if¬(e.1.1=true) then(some ([],[],11)) else((dF k (a0,()) e.1.2.1).bind fun l=>
 some (e.1.2.2,l,0))))
theorem CL(k:Nat)(a0:aQ)(r:(List Int)×(List (List Int))×Int)(h:mW k a0=some r):
 dD (jg Tryz.prog) 9 [.rep an a0] [] (fun _:Unit=>(bp [Ri r.1,.rep (.slice (.slice (.int .i64))) r.2.1,I r.2.2],[])):=by
 unfold mW at h
 replace h:=ba h
 refine B0 74 Tryz.func9 rfl Tryz.ntmps9 rfl fun S w0=>?_
 refine sr ?_
 refine bx fun b1=>?_
 refine au ?_
 refine yy rfl (oV (by kernel_rfl) (oV (by kernel_rfl) (oV (by kernel_rfl) (oV (by kernel_rfl) (oV (by kernel_rfl) (Ji Jh)))))) ?_
 refine au ?_
 refine lo du ?_
 obtain⟨r2,VT,h⟩:=aa h
 have VU:=ow k a0 r2 VT
 refine ja (ao [.tmp 13] rfl rfl O6 rfl VU) ?_
 refine au ?_
 refine jb (iZ rfl) ?_
 refine nt ?_
 refine cn h (fun h=>?_) (fun h=>?_)
 ·
  refine au ?_;refine tz ?_;refine bi (jf (t:=(.slice (.int .i64))) (x:=[]) 2 rfl .nil rfl rfl) ?_;refine bi (jf (t:=(.slice (.slice (.int .i64)))) (x:=[]) 3 rfl .nil rfl rfl) ?_;refine J4 ?_;cases h;exact aL () [_,_,_] 0 ⟨rfl,rfl,rfl,trivial⟩ rfl
 ·
  refine au ?_;refine lo du ?_;refine aD rfl rfl rfl (ao [.tmp 18] rfl rfl Js rfl (gB a0)) ⟨rfl,trivial⟩ fun z3=>?_;refine co (kR (bu k a0) l5) ?_;refine aD rfl rfl rfl (aY rfl P5 Sj) trivial fun b4=>?_;refine a8 rfl rfl (aX rfl tP trivial rfl rfl) ⟨rfl,rfl,trivial⟩ ?_;refine au ?_;refine aD rfl rfl rfl (aY rfl Ti UV) trivial fun b5=>?_;refine au ?_;refine aD rfl rfl rfl (aY rfl rF sd) trivial fun b6=>?_;refine au ?_;refine aD rfl rfl rfl (aY rfl Vm Vx) trivial fun b7=>?_;refine a8 rfl rfl (aX rfl SQ rfl rfl rfl) ⟨rfl,rfl,trivial⟩ ?_;refine au ?_;refine BX ?_;refine tn (ar (sr (fr 3 ?_)));refine lo tP ?_;refine aD rfl rfl rfl (cO (N:=[(.tmp 20,.at aw (a0,(.map (some z3))))]) (ao [.tmp 20] rfl rfl RH rfl (lg (a0,()))) fun _ _ _ hn=>⟨qk hn.1,trivial⟩) ⟨rfl,trivial⟩ fun b8=>?_;refine nt (aj (dT 4 rfl ?_));refine dE (oY (a:=.eq (.slice none 0 0)) (a':=Ri []) (xb .nil)) ?_;refine dT 6 rfl ?_;refine dT 6 rfl ?_;refine dT 2 rfl ?_;refine dT 6 rfl ?_;refine dT 6 rfl ?_;refine dT 6 rfl ?_;refine dT 6 rfl ?_;obtain⟨D,VL,h⟩:=aa h;refine lS (Δ:=[.obj b8 66 (.at bH (a0,())),.obj b4 66 (.at aw (a0,(.map (some z3)))),.obj b7 4 (.eq (.bool false)),.obj b6 70 (.rep (.arr 3 (.arr 5 (.int .i64))) [[0,0,0,0,0],[0,0,0,0,0],[0,0,0,0,0]]),.obj b5 23 (Ri []),.inv z3 (bu k a0),.obj b1 25 (.rep an a0)]) (F:=[]) (X:=Unit) (J:=fun _=>G2 D.2) (E:=fun Y=>[.obj b8 66 (.at bH (a0,())),.obj b4 66 (.at aw (a0,(.map (some z3)))),.obj b7 4 (.eq (.bool D.1.1)),.obj b6 70 (.rep (.arr 3 (.arr 5 (.int .i64))) D.1.2.1),.obj b5 23 (Ri D.1.2.2),.inv z3 (bu k a0),.obj b1 25 (.rep an a0)]) (r0:=fun _=>.tup .any) rfl rfl Rz (fun rec hp ha hb hs hpe hN hv l=>?_) (fun dl Y=>oy (fun hj=>?_) (fun hj=>?_))
  ·rcases rec with⟨st0,pe0,fn0,tm0,ps0,as0,bd0,df0⟩;dsimp only at hp ha hb hs hpe hN hv;subst hp hs hpe;have vN:vf tm0 [(1,Pt b1),(6,Pt b4),(7,Pt b5),(8,Pt b6),(9,Pt b7)]:=⟨congrArg A.eq (hv 1 _ rfl).symm,congrArg A.eq (hv 6 _ rfl).symm,congrArg A.eq (hv 7 _ rfl).symm,congrArg A.eq (hv 8 _ rfl).symm,congrArg A.eq (hv 9 _ rfl).symm,trivial⟩;refine dD.pick (M:=(jg Tryz.prog)) [1,0,2,3,4,5,6,7] [1,0,2,3,4,5,6,7] (jZ (fun(Y:Unit) (q:(Bool×(List (List Int))×(List Int))×Bool)=>[.raw l (.loop (jv ⟨.ready,none,fn0,tm0, #[22],as0,bd0,df0⟩ (G2 q.2))),.obj b4 66 (.at aw (a0,(.map (some z3)))),.obj b7 4 (.eq (.bool q.1.1)),.obj b6 70 (.rep (.arr 3 (.arr 5 (.int .i64))) q.1.2.1),.obj b5 23 (Ri q.1.2.2),.inv z3 (bu k a0),.obj b1 25 (.rep an a0)]) l (mY (fun(y9:Bool×(List (List Int))×(List Int)) (j:(List (List Int)))=>
   ((eM k a0 j k (([]:(List Int)),0)):Option ((List Int))).bind fun c=>
   ((if y9.1=true then(if(y9.2.2.length:Int) < (c.length:Int) then(some (c,true)) else(if(c.length:Int)=(y9.2.2.length:Int) then((dO k c y9.2.2).bind fun mc=>
   some (c,decide (0≤mc))) else(some (c,false)))) else(some (c,false))):Option ((List Int)×Bool)).bind fun y=>
   if y.2=true then(some ((y9.1,y9.2.1,y9.2.2),true)) else((bS k a0 j).bind fun se=>
   if se=0 then(some ((true,j,y.1),true)) else(some ((y9.1,y9.2.1,y9.2.2),true))))) k (a0,()) b8 (fun Y q p r' h=>?_) () ((false,[[0,0,0,0,0],[0,0,0,0,0],[0,0,0,0,0]],[]),false) D VL) rfl (fun _=>rfl) (fun _=>rfl)
   obtain⟨rq,hq,h2,rfl⟩:=oz h;obtain⟨y9,b5⟩:=q;obtain rfl:b5=false:=hq;replace h:=ba h2;obtain⟨j,hpv⟩:∃x,x=p:=⟨_,rfl⟩;subst hpv;refine YT.pick (R':=(fun Y:Unit=>(.eq (.bool rq.2),[.raw l (.loop (jv ⟨.ready,none,fn0,tm0, #[22],as0,bd0,df0⟩ (G2 (!rq.2)))),.obj b4 66 (.at aw (a0,(.map (some z3)))),.obj b7 4 (.eq (.bool rq.1.1)),.obj b6 70 (.rep (.arr 3 (.arr 5 (.int .i64))) rq.1.2.1),.obj b5 23 (Ri rq.1.2.2),.inv z3 (bu k a0),.obj b1 25 (.rep an a0)]))) [0,1,2,3,4,5,6] [0,1,2,3,4,5,6] (D7 ha hb (N:=74) (Γ:=[(1,Pt b1),(6,Pt b4),(7,Pt b5),(8,Pt b6),(9,Pt b7)]) rfl hN (by decide) vN (fun S w=>?_)) rfl (fun _=>rfl) (fun _=>rfl);refine ab (aD rfl rfl rfl (aY rfl rF sd) trivial fun u=>?_);refine a8 rfl rfl (aX rfl ft rfl rfl rfl) ⟨rfl,rfl,trivial⟩ ?_;refine nl (aW 1 rfl ?_);refine tA rfl rfl ?_;refine aj (sr (cq (nt ?_)));refine aJ (Z:=Value) (α:=(List Int)) (fun U c=>[(6,Pt b4),(7,Pt b5),(8,Pt b6),(9,Pt b7),(10,Pt u),(11,.eq U)]) (fun U c=>[.obj b4 66 (.at aw (a0,(.map (some z3)))),.obj b5 23 (Ri y9.2.2),.obj b6 70 (.rep (.arr 3 (.arr 5 (.int .i64))) y9.2.1),.obj b7 4 (.eq (.bool y9.1)),.obj u 70 (.rep (.arr 3 (.arr 5 (.int .i64))) j),.sl U 3 (.int .i64) c,.inv z3 (bu k a0),.obj b1 25 (.rep an a0),.raw l (.loop (⟨.busy,none,fn0,tm0, #[22],as0,bd0,df0⟩:Loop))]) h (fun K h=>?_) (fun U c h=>?_)
   ·refine sr (fl cH ?_);refine fr 7 ?_;refine lo bN ?_;refine ol dB ?_;refine eI rfl ?_;refine nt (aj (dE (SE.nil 3 (.int .i64)) ?_));refine aH (fun O e=>[(6,Pt b4),(7,Pt b5),(8,Pt b6),(9,Pt b7),(10,Pt u),(11,.eq O),(25,I (a0.2.2.length:Int)),(26,I e.2)]) (fun O e=>[.obj b4 66 (.at aw (a0,(.map (some z3)))),.obj b5 23 (Ri y9.2.2),.obj b6 70 (.rep (.arr 3 (.arr 5 (.int .i64))) y9.2.1),.obj b7 4 (.eq (.bool y9.1)),.obj u 70 (.rep (.arr 3 (.arr 5 (.int .i64))) j),.sl O 3 (.int .i64) e.1,.inv z3 (bu k a0),.obj b1 25 (.rep an a0),.raw l (.loop (⟨.busy,none,fn0,tm0, #[22],as0,bd0,df0⟩:Loop))]) (eM k a0 j) k (.slice none 0 0) (([]:(List Int)),0) (fun _=>rfl) h (SE.fin [4,7,6,5,3,0,8,1,2] ⟨rfl,rfl,rfl,rfl,rfl,rfl,rfl,rfl,trivial⟩ rfl) (fun n O e h=>?_);unfold eM at h;refine sr (jb (bj rfl) ?_);refine au ?_;refine ci h (fun h=>?_) (fun h=>?_)
    ·refine sk (aJ (Z:=Value) (α:=(List Int)) (fun Q ac=>[(6,Pt b4),(7,Pt b5),(8,Pt b6),(9,Pt b7),(10,Pt u),(11,.eq Q),(25,I (a0.2.2.length:Int)),(26,I e.2)]) (fun Q ac=>[.obj b4 66 (.at aw (a0,(.map (some z3)))),.obj b5 23 (Ri y9.2.2),.obj b6 70 (.rep (.arr 3 (.arr 5 (.int .i64))) y9.2.1),.obj b7 4 (.eq (.bool y9.1)),.obj u 70 (.rep (.arr 3 (.arr 5 (.int .i64))) j),.sl Q 3 (.int .i64) ac,.inv z3 (bu k a0),.obj b1 25 (.rep an a0),.raw l (.loop (⟨.busy,none,fn0,tm0, #[22],as0,bd0,df0⟩:Loop))]) h (fun K h=>?_) (fun Q ac h=>?_))
     ·refine aj (au ?_);refine bD ?_;refine dm ?_;obtain⟨V2,qt,h⟩:=aa h;refine db (g8 rfl P1 Am (ay qt).1 (ay qt).2) ?_;obtain⟨VX,VF,h⟩:=aa h;refine ea 4 (wh (t:=(.arr 5 (.int .i64))) (off:=0) (i:=e.2) (N:=3) rfl Am (sT) rfl rfl rfl rfl VF) ?_;obtain⟨VP,VK,h⟩:=aa h;refine da (cO (N:=[(.const (.slice none 0 0),.eq (.slice none 0 0))]) (ao [.const (.slice none 0 0)] rfl rfl D3 rfl (eh k ([]:(List (List Int))) VP VK)) fun _ _ _ hn=>⟨(fN (t:=(.slice (.slice (.int .i64)))) (x:=([]:(List (List Int)))) .nil rfl rfl hn.1),trivial⟩) ?_;refine dm ?_;obtain⟨VV,VE,h⟩:=aa h;refine db (uI (t:=(.arr 5 (.int .i64))) rfl P1 Am rfl rfl (sT) VE) ?_;refine df cG ?_;obtain⟨V1,pp,h⟩:=aa h;refine jb (H4 rfl (ay pp).1 (ay pp).2) ?_;refine nt (cn h (fun h=>?_) (fun h=>?_))
      ·refine ab (au ?_);refine ja (bh (t:=(.int .i64)) [(.tmp 37,_)] [e.2] rfl rfl de (.cons rfl .int .nil) rfl rfl) ?_;obtain⟨V0,VG,h⟩:=aa h;refine fr 5 ?_;refine cp rfl rfl rfl (be rfl rfl de (ay VG)) ⟨rfl,rfl,trivial⟩ fun VN=>?_;refine au ?_;exact jz (VN,e.1++[e.2]) h [1,2,3,4,5,0,6,7,8]
      ·refine au ?_;exact jz (O,e.1) h [0,1,2,3,4,5,6,7,8]
     ·refine ab ?_;obtain⟨VM,VD,h⟩:=aa h;refine jb (a9 rfl VD) ?_;refine au ?_;exact jz (Q,(ac,VM)) h [0,1,2,3,4,5,6,7,8]
    ·refine au ?_;exact jz (O,e.1) h [0,1,2,3,4,5,6,7,8]
   ·refine ar (aJ (Z:=Unit) (α:=(List Int)×Bool) (fun VC y=>[(6,Pt b4),(7,Pt b5),(8,Pt b6),(9,Pt b7),(10,Pt u),(11,Ri y.1),(61,.eq (.bool y.2))]) (fun VC y=>[.obj b4 66 (.at aw (a0,(.map (some z3)))),.obj b5 23 (Ri y9.2.2),.obj b6 70 (.rep (.arr 3 (.arr 5 (.int .i64))) y9.2.1),.obj b7 4 (.eq (.bool y9.1)),.obj u 70 (.rep (.arr 3 (.arr 5 (.int .i64))) j),.inv z3 (bu k a0),.obj b1 25 (.rep an a0),.raw l (.loop (⟨.busy,none,fn0,tm0, #[22],as0,bd0,df0⟩:Loop))]) h (fun K h=>?_) (fun VC y h=>?_))
    ·refine ab (fr 3 ?_);refine lo SQ ?_;refine mq ?_;refine bY (s:=42) rfl (fun hb=>?_) (fun hb=>?_)
     ·replace h:=cF (CE hb) h;refine gm ?_;refine fr 5 ?_;refine gi rfl rfl rfl rfl rfl rfl (cZ rfl rfl dB) ⟨rfl,trivial⟩ ?_;refine fr 3 ?_;refine gi rfl rfl rfl rfl rfl rfl (ah rfl bN jw rfl) ⟨rfl,trivial⟩ ?_;refine ga (jq rfl rfl dB) ?_;refine gb (i7 rfl) ?_;refine gm ?_;refine bY (s:=48) rfl (fun hb=>?_) (fun hb=>?_)
      ·replace h:=cF (oe hb) h;refine au ?_;refine gb (lj rfl) ?_;refine pt (nl ?_);refine aW 1 rfl ?_;refine bi (dh [11,43] ⟨rfl,rfl,trivial⟩) ?_;exact jz ((),(c,true)) h [2,0,3,1,4,5,6,7]
      ·replace h:=bM (nr hb) h;refine gm ?_;refine fr 1 ?_;refine gi rfl rfl rfl rfl rfl rfl (cZ rfl rfl dB) ⟨rfl,trivial⟩ ?_;refine fr 1 ?_;refine gi rfl rfl rfl rfl rfl rfl (ah rfl bN jw rfl) ⟨rfl,trivial⟩ ?_;refine ga (jq rfl rfl dB) ?_;refine gb (dX rfl) ?_;refine gm ?_;refine bY (s:=54) rfl (fun hb=>?_) (fun hb=>?_)
       ·replace h:=cF (oe hb) h;refine gm ?_;refine gi rfl rfl rfl rfl rfl rfl (ah rfl bN jw rfl) ⟨rfl,trivial⟩ ?_;refine fr 1 ?_;refine co (dh [11,43,49,55] ⟨rfl,rfl,rfl,rfl,trivial⟩) ?_;obtain⟨mc,VJ,h⟩:=aa h;refine gb (ao [.tmp 55,.tmp 56] rfl rfl UH rfl (rL k c y9.2.2 mc VJ)) ?_;refine gb (pg rfl) ?_;refine gb (lj rfl) ?_;refine gb (ll rfl) ?_;refine au ?_;exact jz ((),(c,decide (0≤mc))) h [2,0,3,1,4,5,6,7]
       ·replace h:=bM (nr hb) h;refine au ?_;refine gb (ll rfl) ?_;refine gb (ll rfl) ?_;refine pt (nl ?_);refine aW 1 rfl ?_;refine bi (dh [11,43,49] ⟨rfl,rfl,rfl,trivial⟩) ?_;exact jz ((),(c,false)) h [2,0,3,1,4,5,6,7]
     ·replace h:=bM (CG hb) h;iterate 6 refine gn ?_
      refine gu ?_;refine gu ?_;refine gu ?_;refine gu ?_;refine gu ?_;refine gu ?_;refine gu ?_;refine gu ?_;refine gu ?_;refine gu ?_;refine gu ?_;refine gn ?_;refine pf (nl ?_);refine aW 5 rfl ?_;refine bi (dh [11] ⟨rfl,trivial⟩) ?_;exact jz ((),(c,false)) h [1,2,3,0,4,5,6,7]
    ·refine cv h (fun h=>?_) (fun h=>?_)
     ·refine jp (cy (dW (aW 6 rfl ?_)));refine aW 6 rfl ?_;refine aW 3 rfl ?_;refine aW 4 rfl ?_;refine aW 5 rfl ?_;refine aW 5 rfl ?_;refine aW 7 rfl ?_;cases h;exact ma () 6 rfl
     ·refine au ?_;refine lo tP ?_;refine fr 4 ?_;refine lo ft ?_;obtain⟨se,VI,h⟩:=aa h;refine fr 5 ?_;refine kb (fX [.tmp 62,.tmp 63] rfl rfl O5 rfl (iz k a0 z3 j se VI)) ?_;refine jb (dX rfl) ?_;refine nt (ci h (fun h=>?_) (fun h=>?_))
      ·refine lB ?_;refine aR rfl rfl rfl (aN rfl) ⟨rfl,trivial⟩ ?_;refine dn 1 rfl rfl rfl rfl (ah rfl ft (sT) rfl) ⟨rfl,trivial⟩ ?_;refine nB 2 [true,false] [] [1] [.obj u 70 (.rep (.arr 3 (.arr 5 (.int .i64))) j)] rfl (by kernel_rfl) (by kernel_rfl) (by kernel_rfl) cG (fun vs hv hB=>?_);obtain⟨w0,VZ,rfl,VS⟩:=ap hv;obtain⟨w1,VY,rfl,VQ⟩:=ap VS;obtain rfl:=kZ VQ;refine⟨[1,0,2,3,4,5,6,7],[.inv z3 (bu k a0),.obj b4 66 (.at aw (a0,(.map (some z3)))),.obj b5 23 (Ri y9.2.2),.obj b6 70 (.rep (.arr 3 (.arr 5 (.int .i64))) y9.2.1),.obj b7 4 (.eq (.bool y9.1)),.obj b1 25 (.rep an a0),.raw l (.loop (⟨.busy,none,fn0,tm0, #[22],as0,bd0,df0⟩:Loop))],by kernel_rfl,by decide,?_⟩;refine jh 2 rfl ?_;refine qw rfl rfl (aX rfl bN rfl rfl rfl) ⟨rfl,rfl,trivial⟩ (by kernel_rfl) ?_;refine zJ (by kernel_rfl) ?_;refine fr 4 ?_;refine a8 rfl rfl (aX rfl ft rfl rfl rfl) ⟨rfl,rfl,trivial⟩ ?_;refine fr 5 ?_;refine a8 rfl rfl (aX rfl SQ rfl rfl rfl) ⟨rfl,rfl,trivial⟩ ?_;refine ax (bT (aW 6 rfl ?_));refine aW 5 rfl ?_;refine aW 5 rfl ?_;refine aW 4 rfl ?_;refine aW 4 rfl ?_;refine aW 6 rfl ?_;refine aW 7 rfl ?_;cases h;exact ma () 6 rfl
      ·refine cT (bT (aW 6 rfl ?_));refine aW 1 rfl ?_;refine aW 4 rfl ?_;refine aW 5 rfl ?_;refine aW 6 rfl ?_;refine aW 6 rfl ?_;refine aW 7 rfl ?_;cases h;exact ma () 6 rfl
  ·replace h:=bM (CG hj) h;refine bT (tn (ar (sr (fr 3 ?_))));refine lo SQ ?_;refine ja (eF rfl) ?_;refine nt (cw h (fun h=>?_) (fun h=>?_))
   ·refine au ?_;refine tz ?_;refine bi (jf (t:=(.slice (.int .i64))) (x:=[]) 2 rfl .nil rfl rfl) ?_;refine bi (jf (t:=(.slice (.slice (.int .i64)))) (x:=[]) 3 rfl .nil rfl rfl) ?_;refine aW 1 rfl ?_;refine tw ?_;cases h;exact aL () [_,_,_] 0 ⟨rfl,rfl,rfl,trivial⟩ rfl
   ·refine au ?_;refine bD ?_;refine ea 5 (ah rfl bN jw rfl) ?_;refine ea 3 (ah rfl tP jw rfl) ?_;refine ea 4 (ah rfl ft (sT) rfl) ?_;obtain⟨VO,VH,h⟩:=aa h;refine db (zH (cO (N:=[(.tmp 71,.at aw (a0,(.map (some z3)))),(.tmp 72,.rep (.arr 3 (.arr 5 (.int .i64))) D.1.2.1)]) (ao [.tmp 71,.tmp 72] rfl rfl MA rfl (iy k (a0,()) D.1.2.1 VO VH)) fun _ _ _ hn=>⟨(qk hn.1),hn.2.1,trivial⟩)) ?_;refine df cG ?_;refine au ?_;refine tz ?_;refine aW 1 rfl ?_;refine tw ?_;cases h;exact aL () [_,_,_] 0 ⟨rfl,rfl,rfl,trivial⟩ rfl
  ·replace h:=cF (CE hj) h;cases h
def dy(k:Nat)(r9:(List aQ)×(List (List (List Int)))×bW):Nat→Int→Option (Except Bool Unit)
 |0,_=>none
 |n+1,c=>
  if c < (r9.1.length:Int) then(bE (α:=Unit) (((if c=2 then(some true) else((aP r9.1 c).bind fun D=>
  (mE k D).bind fun M=>
  some M)):Option (Bool)).bind fun E=>
  if E=true then(some (.ok ())) else((aP r9.1 c).bind fun y=>
  (jk k y).bind fun h=>
  (mW k (h.1,h.2.1,h.2.2)).bind fun l=>
  (aP r9.1 c).bind fun x=>
  (qH k x).bind fun j=>
  ((if¬(l.2.2=j.2.2) then(some true) else((dH k l.1 j.1).bind fun J=>
  if¬(J=true) then(some true) else((gg k l.2.1 j.2.1).bind fun I=>
  if¬(I=true) then(some true) else((aP r9.1 c).bind fun s=>
  (iw k (h.1,h.2.1,h.2.2) s).bind fun F=>
  some (!F))))):Option (Bool)).bind fun u=>
  if u=true then(some (.error false)) else(some (.ok ())))) (fun e=>some (.error e)) fun _=>
  (ck (c+1)).bind fun r=>
  dy k r9 n r) else(some (.ok ()))
def k7(k:Nat)(a0:aQ)(a1:gq)(a2:(List Int)):Option Bool:=
 (((mE k a0).bind fun r5=>
 if r5=true then(some true) else(some (decide (20 < (a1.2.length:Int))))):Option (Bool)).bind fun x3=>
 if x3=true then((kH k).bind fun r6=>
 some r6) else((m7 k a2).bind fun r7=>
 (lp k a0 a1 ([]:(List (List Int))) (r7.1,r7.2.1,r7.2.2)).bind fun r9=>
 bE (α:=Unit) (dy k r9 k 0) (some) fun _=>
 (kH k).bind fun c=>
 some c)
theorem ug(k:Nat)(a0:aQ)(a1:gq)(a2:(List Int))(r:Bool)(h:k7 k a0 a1 a2=some r):
 dD (jg Tryz.prog) 3 [.rep an a0,.rep aK a1,Ri a2] [.inv 0 (f8)] (fun _:Unit=>(bp [.eq (.bool r)],[.inv 0 (f8)])):=by
 unfold k7 at h
 replace h:=ba h
 refine dD.of 94 Tryz.func3 rfl Tryz.ntmps3 rfl fun S w0=>?_
 refine sr ?_
 refine bx fun b1=>?_
 refine bx fun b2=>?_
 refine cq ?_
 refine nt ?_
 refine ar ?_
 refine aJ (Z:=Unit) (α:=Bool) (fun z4 x3=>[(2,Ri a2),(3,Pt b1),(4,Pt b2),(24,.eq (.bool x3))]) (fun z4 x3=>[.obj b1 25 (.rep an a0),.obj b2 27 (.rep aK a1),.inv 0 (f8)]) h (fun K h=>?_) (fun z4 x3 h=>?_)
 ·
  refine ab (fr 1 ?_);refine lo du ?_;obtain⟨r5,VZ,h⟩:=aa h;refine ja (ao [.tmp 17] rfl rfl Vf rfl (uM k a0 r5 VZ)) ?_;refine mq ?_;refine bY (s:=19) rfl (fun hb=>?_) (fun hb=>?_)
  ·replace h:=cF (CE hb) h;refine au ?_;exact jz ((),true) h [0,1,2]
  ·replace h:=bM (CG hb) h;refine ga (av rfl kN) ?_;refine fr 1 ?_;refine gi rfl rfl rfl rfl rfl rfl (ah rfl bN jw rfl) ⟨rfl,trivial⟩ ?_;refine ga (jq rfl rfl dB) ?_;refine gb (i7 rfl) ?_;refine au ?_;exact jz ((),decide (20 < (a1.2.length:Int))) h [1,0,2]
 ·
  refine cv h (fun h=>?_) (fun h=>?_)
  ·refine sr ?_;obtain⟨r6,VY,h⟩:=aa h;refine fr 2 ?_;refine bX rfl rfl rfl (fX [] rfl rfl Ve rfl (rz k r6 VY)) trivial ?_;refine au ?_;cases h;exact aL () [_] 1 ⟨rfl,trivial⟩ rfl
  ·refine sk (ar ?_);obtain⟨r7,l,h⟩:=aa h;obtain⟨r9,VX,h⟩:=aa h;refine dE (SE.fin (Γ':=[(2,Ri a2),(3,Pt b1),(4,Pt b2)]) (Δ':=[.obj b1 25 (.rep an a0),.obj b2 27 (.rep aK a1),.inv 0 (f8)]) [0,1,2] ⟨rfl,rfl,rfl,trivial⟩ rfl) ?_;refine wZ (I:=Nat) (Ge:=fun i=>[(7,Rs an r9.1)]) (De:=fun i=>[.inv 0 (f8),.obj b1 25 (.rep an a0),.obj b2 27 (.rep aK a1),.obj i 64 (.agg (.pair (Ri r9.2.2.1) (.pair (I r9.2.2.2.1) (.eq (.int .u64 r9.2.2.2.2)))))]) (L:=[true,true,true,true,true,true,true,true,true,true]) cG rfl (fun J hJ hE=>?_) (by kernel_rfl) ?_
   ·have s511:∀(b8:Nat),J 1 [true,true,true,true,true,true,true,true,true,false] [(7,Rs an r9.1),(33,.rep (.slice (.slice (.slice (.int .i64)))) r9.2.1)] [.inv 0 (f8),.obj b1 25 (.rep an a0),.obj b2 27 (.rep aK a1),.obj b8 64 (.agg (.pair (Ri r9.2.2.1) (.pair (I r9.2.2.2.1) (.eq (.int .u64 r9.2.2.2.2)))))]:=fun b8=>by
     subst hJ;refine JD.step [9] (by kernel_rfl) rfl ?_;refine ct.cons rfl ?_ ?_
     ·refine aq ?_;exact aB (hE b8) [0,1,2,3] ⟨rfl,trivial⟩
     exact trivial
    have s255:∀(b8:Nat),J 2 [true,true,true,true,true,true,true,true,false,false] [(32,Rs an r9.1),(33,.rep (.slice (.slice (.slice (.int .i64)))) r9.2.1)] [.inv 0 (f8),.obj b1 25 (.rep an a0),.obj b2 27 (.rep aK a1),.obj b8 64 (.agg (.pair (Ri r9.2.2.1) (.pair (I r9.2.2.2.1) (.eq (.int .u64 r9.2.2.2.2)))))]:=fun b8=>by
     subst hJ;refine JD.step [8] (by kernel_rfl) rfl ?_;refine ct.cons rfl ?_ ?_
     ·refine aq ?_;exact aB (s511 b8) [0,1,2,3] ⟨rfl,rfl,trivial⟩
     exact trivial
    have s383:∀(b8:Nat),J 2 [true,true,true,true,true,true,true,false,true,false] [(7,Rs an r9.1),(26,.tup (.pair (Rs an r9.1) (.pair (.rep (.slice (.slice (.slice (.int .i64)))) r9.2.1) (.any))))] [.inv 0 (f8),.obj b1 25 (.rep an a0),.obj b2 27 (.rep aK a1),.obj b8 64 (.agg (.pair (Ri r9.2.2.1) (.pair (I r9.2.2.2.1) (.eq (.int .u64 r9.2.2.2.2)))))]:=fun b8=>by
     subst hJ;refine JD.step [7] (by kernel_rfl) rfl ?_;refine ct.cons rfl ?_ ?_
     ·refine xr ?_;exact aB (s511 b8) [0,1,2,3] ⟨rfl,rfl,trivial⟩
     exact trivial
    have s127:∀(b8:Nat),J 3 [true,true,true,true,true,true,true,false,false,false] [(26,.tup (.pair (Rs an r9.1) (.pair (.rep (.slice (.slice (.slice (.int .i64)))) r9.2.1) (.any)))),(32,Rs an r9.1)] [.inv 0 (f8),.obj b1 25 (.rep an a0),.obj b2 27 (.rep aK a1),.obj b8 64 (.agg (.pair (Ri r9.2.2.1) (.pair (I r9.2.2.2.1) (.eq (.int .u64 r9.2.2.2.2)))))]:=fun b8=>by
     subst hJ;refine JD.step [7,8] (by kernel_rfl) rfl ?_;refine ct.cons rfl ?_ ?_
     ·refine xr ?_;exact aB (s255 b8) [0,1,2,3] ⟨rfl,rfl,trivial⟩
     refine ct.cons rfl ?_ ?_
     ·refine aq ?_;exact aB (s383 b8) [0,1,2,3] ⟨rfl,rfl,trivial⟩
     exact trivial
    have s191:∀(b8:Nat),J 3 [true,true,true,true,true,true,false,true,false,false] [(26,.tup (.pair (Rs an r9.1) (.pair (.rep (.slice (.slice (.slice (.int .i64)))) r9.2.1) (.any)))),(33,.rep (.slice (.slice (.slice (.int .i64)))) r9.2.1)] [.inv 0 (f8),.obj b1 25 (.rep an a0),.obj b2 27 (.rep aK a1),.obj b8 64 (.agg (.pair (Ri r9.2.2.1) (.pair (I r9.2.2.2.1) (.eq (.int .u64 r9.2.2.2.2)))))]:=fun b8=>by
     subst hJ;refine JD.step [6] (by kernel_rfl) rfl ?_;refine ct.cons rfl ?_ ?_
     ·refine xr ?_;exact aB (s255 b8) [0,1,2,3] ⟨rfl,rfl,trivial⟩
     exact trivial
    have s63:∀(b8:Nat),J 4 [true,true,true,true,true,true,false,false,false,false] [(26,.tup (.pair (Rs an r9.1) (.pair (.rep (.slice (.slice (.slice (.int .i64)))) r9.2.1) (.any))))] [.inv 0 (f8),.obj b1 25 (.rep an a0),.obj b2 27 (.rep aK a1),.obj b8 64 (.agg (.pair (Ri r9.2.2.1) (.pair (I r9.2.2.2.1) (.eq (.int .u64 r9.2.2.2.2)))))]:=fun b8=>by
     subst hJ;refine JD.step [6,7] (by kernel_rfl) rfl ?_;refine ct.cons rfl ?_ ?_
     ·refine xr ?_;exact aB (s127 b8) [0,1,2,3] ⟨rfl,rfl,trivial⟩
     refine ct.cons rfl ?_ ?_
     ·refine xr ?_;exact aB (s191 b8) [0,1,2,3] ⟨rfl,rfl,trivial⟩
     exact trivial
    have s31:∀(b8:Nat),J 5 [true,true,true,true,true,false,false,false,false,false] [(31,.tup (.pair (Rs an r9.1) (.pair (.rep (.slice (.slice (.slice (.int .i64)))) r9.2.1) (.any))))] [.inv 0 (f8),.obj b1 25 (.rep an a0),.obj b2 27 (.rep aK a1),.obj b8 64 (.agg (.pair (Ri r9.2.2.1) (.pair (I r9.2.2.2.1) (.eq (.int .u64 r9.2.2.2.2)))))]:=fun b8=>by
     subst hJ;refine JD.step [5] (by kernel_rfl) rfl ?_;refine ct.cons rfl ?_ ?_
     ·refine mq ?_;exact aB (s63 b8) [0,1,2,3] ⟨rfl,trivial⟩
     exact trivial
    have s15:∀(b8:Nat),J 6 [true,true,true,true,false,false,false,false,false,false] [(27,.rep an a0),(28,.rep aK a1),(30,Pt b8)] [.inv 0 (f8),.obj b1 25 (.rep an a0),.obj b2 27 (.rep aK a1),.obj b8 64 (.agg (.pair (Ri r7.1) (.pair (I r7.2.1) (.eq (.int .u64 r7.2.2)))))]:=fun b8=>by
     subst hJ;refine JD.step [4] (by kernel_rfl) rfl ?_;refine ct.cons rfl ?_ ?_
     ·refine fr 3 ?_;refine bX rfl rfl rfl (cO (N:=[(.tmp 27,.rep an a0),(.tmp 28,.rep aK a1),(.const (.slice none 0 0),.eq (.slice none 0 0)),(.tmp 30,Pt b8)]) (ao [.tmp 27,.tmp 28,.const (.slice none 0 0),.tmp 30] rfl rfl Vv rfl (wx k a0 a1 ([]:(List (List Int))) (r7.1,r7.2.1,r7.2.2) b8 r9 VX)) fun _ _ _ hn=>⟨hn.1,hn.2.1,(fN (t:=(.slice (.slice (.int .i64)))) (x:=([]:(List (List Int)))) .nil rfl rfl hn.2.2.1),hn.2.2.2.1,trivial⟩) ⟨rfl,rfl,rfl,rfl,trivial⟩ ?_;exact aB (s31 b8) [1,2,3,0] ⟨rfl,trivial⟩
     exact trivial
    have s7:J 7 [true,true,true,false,false,false,false,false,false,false] [(27,.rep an a0),(28,.rep aK a1),(29,Ri a2)] [.inv 0 (f8),.obj b1 25 (.rep an a0),.obj b2 27 (.rep aK a1)]:=by
     subst hJ;refine JD.step [3] (by kernel_rfl) rfl ?_;refine ct.cons rfl ?_ ?_
     ·refine aD rfl rfl rfl (ao [.tmp 29] rfl rfl SV rfl (kh k a2 r7 l)) ⟨rfl,trivial⟩ fun b8=>?_;exact aB (s15 b8) [1,2,3,0] ⟨rfl,rfl,rfl,trivial⟩
     exact trivial
    have s13:∀(b8:Nat),J 7 [true,false,true,true,false,false,false,false,false,false] [(4,Pt b2),(27,.rep an a0),(30,Pt b8)] [.inv 0 (f8),.obj b1 25 (.rep an a0),.obj b2 27 (.rep aK a1),.obj b8 64 (.agg (.pair (Ri r7.1) (.pair (I r7.2.1) (.eq (.int .u64 r7.2.2)))))]:=fun b8=>by
     subst hJ;refine JD.step [1] (by kernel_rfl) rfl ?_;refine ct.cons rfl ?_ ?_
     ·refine fr 2 ?_;refine lo ju ?_;exact aB (s15 b8) [1,2,0,3] ⟨rfl,rfl,rfl,trivial⟩
     exact trivial
    have s14:∀(b8:Nat),J 7 [false,true,true,true,false,false,false,false,false,false] [(3,Pt b1),(28,.rep aK a1),(30,Pt b8)] [.inv 0 (f8),.obj b1 25 (.rep an a0),.obj b2 27 (.rep aK a1),.obj b8 64 (.agg (.pair (Ri r7.1) (.pair (I r7.2.1) (.eq (.int .u64 r7.2.2)))))]:=fun b8=>by
     subst hJ;refine JD.step [0] (by kernel_rfl) rfl ?_;refine ct.cons rfl ?_ ?_
     ·refine fr 1 ?_;refine lo du ?_;exact aB (s15 b8) [1,0,2,3] ⟨rfl,rfl,rfl,trivial⟩
     exact trivial
    have s3:J 8 [true,true,false,false,false,false,false,false,false,false] [(2,Ri a2),(27,.rep an a0),(28,.rep aK a1)] [.inv 0 (f8),.obj b1 25 (.rep an a0),.obj b2 27 (.rep aK a1)]:=by
     subst hJ;refine JD.step [2] (by kernel_rfl) rfl ?_;refine ct.cons rfl ?_ ?_
     ·refine mq ?_;exact aB s7 [0,1,2] ⟨rfl,rfl,rfl,trivial⟩
     exact trivial
    have s5:J 8 [true,false,true,false,false,false,false,false,false,false] [(4,Pt b2),(27,.rep an a0),(29,Ri a2)] [.inv 0 (f8),.obj b1 25 (.rep an a0),.obj b2 27 (.rep aK a1)]:=by
     subst hJ;refine JD.step [1,3] (by kernel_rfl) rfl ?_;refine ct.cons rfl ?_ ?_
     ·refine fr 2 ?_;refine lo ju ?_;exact aB s7 [1,2,0] ⟨rfl,rfl,rfl,trivial⟩
     refine ct.cons rfl ?_ ?_
     ·refine aD rfl rfl rfl (ao [.tmp 29] rfl rfl SV rfl (kh k a2 r7 l)) ⟨rfl,trivial⟩ fun b8=>?_;exact aB (s13 b8) [1,2,3,0] ⟨rfl,rfl,rfl,trivial⟩
     exact trivial
    have s6:J 8 [false,true,true,false,false,false,false,false,false,false] [(3,Pt b1),(28,.rep aK a1),(29,Ri a2)] [.inv 0 (f8),.obj b1 25 (.rep an a0),.obj b2 27 (.rep aK a1)]:=by
     subst hJ;refine JD.step [0,3] (by kernel_rfl) rfl ?_;refine ct.cons rfl ?_ ?_
     ·refine fr 1 ?_;refine lo du ?_;exact aB s7 [1,0,2] ⟨rfl,rfl,rfl,trivial⟩
     refine ct.cons rfl ?_ ?_
     ·refine aD rfl rfl rfl (ao [.tmp 29] rfl rfl SV rfl (kh k a2 r7 l)) ⟨rfl,trivial⟩ fun b8=>?_;exact aB (s14 b8) [1,2,3,0] ⟨rfl,rfl,rfl,trivial⟩
     exact trivial
    have s12:∀(b8:Nat),J 8 [false,false,true,true,false,false,false,false,false,false] [(3,Pt b1),(4,Pt b2),(30,Pt b8)] [.inv 0 (f8),.obj b1 25 (.rep an a0),.obj b2 27 (.rep aK a1),.obj b8 64 (.agg (.pair (Ri r7.1) (.pair (I r7.2.1) (.eq (.int .u64 r7.2.2)))))]:=fun b8=>by
     subst hJ;refine JD.step [0,1] (by kernel_rfl) rfl ?_;refine ct.cons rfl ?_ ?_
     ·refine fr 1 ?_;refine lo du ?_;exact aB (s13 b8) [1,0,2,3] ⟨rfl,rfl,rfl,trivial⟩
     refine ct.cons rfl ?_ ?_
     ·refine fr 2 ?_;refine lo ju ?_;exact aB (s14 b8) [1,2,0,3] ⟨rfl,rfl,rfl,trivial⟩
     exact trivial
    have s1:J 9 [true,false,false,false,false,false,false,false,false,false] [(2,Ri a2),(4,Pt b2),(27,.rep an a0)] [.inv 0 (f8),.obj b1 25 (.rep an a0),.obj b2 27 (.rep aK a1)]:=by
     subst hJ;refine JD.step [1,2] (by kernel_rfl) rfl ?_;refine ct.cons rfl ?_ ?_
     ·refine fr 2 ?_;refine lo ju ?_;exact aB s3 [1,2,0] ⟨rfl,rfl,rfl,trivial⟩
     refine ct.cons rfl ?_ ?_
     ·refine mq ?_;exact aB s5 [0,1,2] ⟨rfl,rfl,rfl,trivial⟩
     exact trivial
    have s2:J 9 [false,true,false,false,false,false,false,false,false,false] [(2,Ri a2),(3,Pt b1),(28,.rep aK a1)] [.inv 0 (f8),.obj b1 25 (.rep an a0),.obj b2 27 (.rep aK a1)]:=by
     subst hJ;refine JD.step [0,2] (by kernel_rfl) rfl ?_;refine ct.cons rfl ?_ ?_
     ·refine fr 1 ?_;refine lo du ?_;exact aB s3 [1,0,2] ⟨rfl,rfl,rfl,trivial⟩
     refine ct.cons rfl ?_ ?_
     ·refine mq ?_;exact aB s6 [0,1,2] ⟨rfl,rfl,rfl,trivial⟩
     exact trivial
    have s4:J 9 [false,false,true,false,false,false,false,false,false,false] [(3,Pt b1),(4,Pt b2),(29,Ri a2)] [.inv 0 (f8),.obj b1 25 (.rep an a0),.obj b2 27 (.rep aK a1)]:=by
     subst hJ;refine JD.step [0,1,3] (by kernel_rfl) rfl ?_;refine ct.cons rfl ?_ ?_
     ·refine fr 1 ?_;refine lo du ?_;exact aB s5 [1,0,2] ⟨rfl,rfl,rfl,trivial⟩
     refine ct.cons rfl ?_ ?_
     ·refine fr 2 ?_;refine lo ju ?_;exact aB s6 [1,2,0] ⟨rfl,rfl,rfl,trivial⟩
     refine ct.cons rfl ?_ ?_
     ·refine aD rfl rfl rfl (ao [.tmp 29] rfl rfl SV rfl (kh k a2 r7 l)) ⟨rfl,trivial⟩ fun b8=>?_;exact aB (s12 b8) [1,2,3,0] ⟨rfl,rfl,rfl,trivial⟩
     exact trivial
    have s0:J 10 [false,false,false,false,false,false,false,false,false,false] [(2,Ri a2),(3,Pt b1),(4,Pt b2)] [.obj b1 25 (.rep an a0),.obj b2 27 (.rep aK a1),.inv 0 (f8)]:=by
     subst hJ;refine JD.step [0,1,2] (by kernel_rfl) rfl ?_;refine ct.cons rfl ?_ ?_
     ·refine lo du ?_;exact aB s1 [2,0,1] ⟨rfl,rfl,rfl,trivial⟩
     refine ct.cons rfl ?_ ?_
     ·refine fr 1 ?_;refine lo ju ?_;exact aB s2 [2,1,0] ⟨rfl,rfl,rfl,trivial⟩
     refine ct.cons rfl ?_ ?_
     ·refine mq ?_;exact aB s4 [2,0,1] ⟨rfl,rfl,rfl,trivial⟩
     exact trivial
    exact s0
   intro b8;show JN _ _ [(7,Rs an r9.1)] [.inv 0 (f8),.obj b1 25 (.rep an a0),.obj b2 27 (.rep aK a1),.obj b8 64 (.agg (.pair (Ri r9.2.2.1) (.pair (I r9.2.2.2.1) (.eq (.int .u64 r9.2.2.2.2)))))];refine tn (dK (Z:=Unit) (α:=Unit) (fun X mc=>[]) (fun X mc=>[.inv 0 (f8)]) (fun e=>e=r) h (fun e h=>Option.some.inj h) (fun K hR h=>?_) (fun X mc h=>?_))
   ·refine au ?_;refine aj (aH (fun U j=>[(7,Rs an r9.1),(9,I j)]) (fun U j=>[.inv 0 (f8)]) (dy k r9) k () 0 (fun _=>rfl) h (SE.fin [0] ⟨rfl,rfl,trivial⟩ rfl) (fun n U j h=>?_));unfold dy at h;refine au ?_;refine ol SC ?_;refine jb (bj rfl) ?_;refine nt (ci h (fun h=>?_) (fun h=>?_))
    ·refine sk (dK (Z:=Unit) (α:=Unit) (fun Q ac=>[(7,Rs an r9.1),(9,I j)]) (fun Q ac=>[.inv 0 (f8)]) (fun e=>e=r) h (fun e h=>hR e h) (fun K hR h=>?_) (fun Q ac h=>?_))
     ·refine aj (ar (aJ (Z:=Unit) (α:=Bool) (fun O y=>[(7,Rs an r9.1),(9,I j),(48,.eq (.bool y))]) (fun O y=>[.inv 0 (f8)]) h (fun K h=>?_) (fun O y h=>?_)))
      ·refine ab (mq ?_);refine jb (dX rfl) ?_;refine mq ?_;refine bY (s:=42) rfl (fun hb=>?_) (fun hb=>?_)
       ·replace h:=cF (oe hb) h;refine au ?_;exact jz ((),true) h [0]
       ·replace h:=bM (nr hb) h;refine au ?_;obtain⟨VS,VF,h⟩:=aa h;refine gb (aG (t:=an) rfl SC du VF) ?_;refine ga (ak (t:=an) rfl du rfl) ?_;obtain⟨qt,VN,h⟩:=aa h;refine ga (ao [.tmp 46] rfl rfl Vf rfl (uM k VS qt VN)) ?_;refine au ?_;exact jz ((),qt) h [0]
      ·refine cv h (fun h=>?_) (fun h=>?_)
       ·refine au ?_;exact jz ((),()) h [0]
       ·refine au ?_;obtain⟨VQ,VE,h⟩:=aa h;refine jb (aG (t:=an) rfl SC du VE) ?_;refine ja (ak (t:=an) rfl du rfl) ?_;obtain⟨c,VM,h⟩:=aa h;refine bO (Δ:=[]) (F:=_) (fun _ _ _=>aA rfl _) rfl rfl (ao [.tmp 52] rfl rfl Vd rfl (pm k VQ c VM)) ⟨rfl,trivial⟩ fun V0=>?_;refine aD rfl rfl rfl (aY rfl lJ og) trivial fun V1=>?_;refine a8 rfl rfl (aX rfl du trivial rfl rfl) ⟨rfl,rfl,trivial⟩ ?_;refine nt (sr (fr 1 ?_));refine co (jP (off:=1) [] trivial rfl rfl) ?_;refine fr 1 ?_;refine co (jP (off:=2) [] trivial rfl rfl) ?_;refine lo du ?_;obtain⟨E,VL,h⟩:=aa h;refine ja (cO (N:=[(.tmp 55,.agg (.pair (I c.1) (.pair (Rs aK c.2.1) (Ri c.2.2))))]) (fX [.tmp 55] rfl rfl Vu rfl (CL k (c.1,c.2.1,c.2.2) E VL)) fun _ _ _ hn=>⟨(fN (t:=an) (x:=(c.1,c.2.1,c.2.2)) (.agg (.pair .int (.pair .rep .rep))) trivial rfl hn.1),trivial⟩) ?_;refine au ?_;obtain⟨VP,VD,h⟩:=aa h;refine jb (aG (t:=an) rfl SC du VD) ?_;refine ja (ak (t:=an) rfl du rfl) ?_;obtain⟨D,VK,h⟩:=aa h;refine ja (ao [.tmp 64] rfl rfl US rfl (C6 k VP D VK)) ?_;refine mq ?_;refine xr ?_;refine xr ?_;refine xr ?_;refine aq ?_;refine aq ?_;refine aq (nt ?_);refine aJ (Z:=Unit) (α:=Bool) (fun M u=>[(7,Rs an r9.1),(9,I j),(92,.eq (.bool u))]) (fun M u=>[.inv 0 (f8)]) h (fun K h=>?_) (fun M u h=>?_)
        ·refine bD ?_;refine dm ?_;refine dm ?_;refine db (iZ rfl) ?_;refine nc rfl rfl rfl (aN rfl) ⟨rfl,trivial⟩ (fun hb=>?_) (fun hb=>?_)
         ·replace h:=cF (NG hb) h;iterate 4 refine dg ?_
          refine db (lj rfl) ?_;refine dm ?_;iterate 4 refine dg ?_
          refine db (lj rfl) ?_;refine dm ?_;iterate 5 refine dg ?_
          refine df cG ?_;refine au ?_;exact jz ((),true) h [1]
         ·replace h:=bM (A2 hb) h;refine bg rfl rfl rfl rfl rfl (aN rfl) ⟨rfl,rfl,trivial⟩ ?_;refine bg rfl rfl rfl rfl rfl (aN rfl) ⟨rfl,rfl,trivial⟩ ?_;obtain⟨VV,VJ,h⟩:=aa h;refine bg rfl rfl rfl rfl rfl (ao [.tmp 73,.tmp 74] rfl rfl Gz rfl (fL k E.1 D.1 VV VJ)) ⟨rfl,rfl,rfl,trivial⟩ ?_;refine bg rfl rfl rfl rfl rfl (eF rfl) ⟨rfl,rfl,trivial⟩ ?_;refine db (ll rfl) ?_;refine nc rfl rfl rfl (aN rfl) ⟨rfl,trivial⟩ (fun hb=>?_) (fun hb=>?_)
          ·replace h:=cF (Dq hb) h;iterate 4 refine dg ?_
           refine db (lj rfl) ?_;refine dm ?_;iterate 5 refine dg ?_
           refine df cG ?_;refine au ?_;exact jz ((),true) h [1]
          ·replace h:=bM (wj hb) h;refine bg rfl rfl rfl rfl rfl (aN rfl) ⟨rfl,rfl,trivial⟩ ?_;refine bg rfl rfl rfl rfl rfl (aN rfl) ⟨rfl,rfl,trivial⟩ ?_;obtain⟨VU,VI,h⟩:=aa h;refine bg rfl rfl rfl rfl rfl (ao [.tmp 79,.tmp 80] rfl rfl O7 rfl (kK k E.2.1 D.2.1 VU VI)) ⟨rfl,rfl,rfl,trivial⟩ ?_;refine bg rfl rfl rfl rfl rfl (eF rfl) ⟨rfl,rfl,trivial⟩ ?_;refine db (ll rfl) ?_;refine nc rfl rfl rfl (aN rfl) ⟨rfl,trivial⟩ (fun hb=>?_) (fun hb=>?_)
           ·replace h:=cF (Dq hb) h;iterate 5 refine dg ?_
            refine df cG ?_;refine au ?_;exact jz ((),true) h [1]
           ·replace h:=bM (wj hb) h;refine ku 0 rfl rfl rfl rfl rfl rfl (ah rfl du (sT) rfl) ⟨rfl,rfl,trivial⟩ ?_;refine bg rfl rfl rfl rfl rfl (aN rfl) ⟨rfl,rfl,trivial⟩ ?_;refine bg rfl rfl rfl rfl rfl (aN rfl) ⟨rfl,rfl,trivial⟩ ?_;obtain⟨Y,VC,h⟩:=aa h;refine bg rfl rfl rfl rfl rfl (aG (t:=an) rfl SC du VC) ⟨rfl,rfl,rfl,trivial⟩ ?_;refine bg rfl rfl rfl rfl rfl (ak (t:=an) rfl du rfl) ⟨rfl,rfl,trivial⟩ ?_;refine df cG ?_;obtain⟨pp,VH,h⟩:=aa h;refine gb (cO (N:=[(.tmp 85,.agg (.pair (I c.1) (.pair (Rs aK c.2.1) (Ri c.2.2)))),(.tmp 89,.rep an Y)]) (ao [.tmp 85,.tmp 89] rfl rfl UR rfl (uh k (c.1,c.2.1,c.2.2) Y pp VH)) fun _ _ _ hn=>⟨(fN (t:=an) (x:=(c.1,c.2.1,c.2.2)) (.agg (.pair .int (.pair .rep .rep))) trivial rfl hn.1),hn.2.1,trivial⟩) ?_;refine ga (eF rfl) ?_;refine au ?_;exact jz ((), !pp) h [1]
        ·refine cv h (fun h=>?_) (fun h=>?_)
         ·refine au ?_;obtain rfl:=hR _ h;exact aL () [_] 1 ⟨rfl,trivial⟩ rfl
         ·refine au ?_;exact jz ((),()) h [0]
     ·refine ab (mq ?_);obtain⟨VO,se,h⟩:=aa h;refine jb (a9 rfl se) ?_;refine au ?_;exact jz ((),VO) h [0]
    ·refine au ?_;exact jz ((),()) h [0]
   ·refine sr ?_;obtain⟨VT,VG,h⟩:=aa h;refine bX rfl rfl rfl (fX [] rfl rfl Ve rfl (rz k VT VG)) trivial ?_;refine au ?_;cases h;exact aL () [_] 1 ⟨rfl,trivial⟩ rfl
