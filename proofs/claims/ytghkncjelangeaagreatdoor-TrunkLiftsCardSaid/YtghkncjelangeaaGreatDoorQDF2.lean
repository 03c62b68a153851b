import Derived.Test.YtghkncjelangeaaGreatDoorQDB10
import Derived.Test.YtghkncjelangeaaGreatDoorQDB8
import Derived.Test.YtghkncjelangeaaGreatDoorQDB9
import Derived.Test.YtghkncjelangeaaGreatDoorQDB5
import Derived.Test.YtghkncjelangeaaGreatDoorQDCore45
set_option linter.unusedSimpArgs false
set_option linter.unusedVariables false
set_option maxRecDepth 4000
set_option maxHeartbeats 1000000
namespace Go.Proofs.YtghkncjelangeaaGreatDoor
open K Go Go.Proofs
def cz(k:Nat)(a0:aP)(a1:(List (List Int))):Option Int:=
 (lD k a0).bind fun r2=>
 if¬(r2=0) then(some r2) else((lC k a0 a1).bind fun r4=>
 (Rl r4).bind fun q5=>
 if q5.isSome=true then(some (q5.getD 0)) else(some 0))
theorem eN(k:Nat)(a0:aP)(a1:(List (List Int)))(r:Int)(h:cz k a0 a1=some r):
 bZ Tryz.prog 22 [.rep ap a0,.rep (.slice (.slice (.int .i64))) a1] [.inv 0 (dZ)] (fun _:Unit=>(bu [I r],[.inv 0 (dZ)])):=by
 unfold cz at h
 replace h:=bb h
 refine bZ.of 19 Tryz.func22 rfl Tryz.ntmps22 rfl fun S w0=>?_
 refine sr ?_
 refine bx fun b1=>?_
 refine cq ?_
 refine nt ?_
 refine ae ?_
 refine sr ?_
 refine lo cJ ?_
 obtain⟨r2,e,h⟩:=aa h
 have l:=rF k a0 r2 e
 refine ja (ar [.tmp 7] rfl rfl Qo rfl l) ?_
 refine aq ?_
 refine nt ?_
 refine sr ?_
 refine mq ?_
 refine jb (gP rfl) ?_
 refine nt ?_
 refine cn h (fun h=>?_) (fun h=>?_)
 ·
  refine sr (mq ?_);refine aq (nt (rx ?_));refine bv (SE.fin (Γ':=[(4,_)]) [1,0] ⟨rfl,trivial⟩ rfl) ?_;cases h;exact aQ () [_] 1 ⟨rfl,trivial⟩ rfl
 ·
  refine sk (sr (aD rfl rfl rfl (a9 rfl Bg TB) trivial fun b3=>?_));refine nt (ae (sr (fr 1 ?_)));refine lo cJ ?_;refine mq ?_;obtain⟨r4,c,h⟩:=aa h;refine jb (ar [.tmp 12,.tmp 13] rfl rfl SV rfl (rz k a0 a1 r4 c)) ?_;refine ja (Hg rfl TL) ?_;obtain⟨q5,j,h⟩:=aa h;refine fr 2 ?_;refine fr 2 ?_;refine bT (Δ:=[_,_]) (F:=_) (fun _ _ _=>ay rfl _) rfl rfl (ar [.tmp 14,.tmp 15] rfl rfl Qj rfl (QQ j)) ⟨rfl,rfl,trivial⟩ fun _=>?_;refine nt (cv h (fun h=>?_) (fun h=>?_))
  ·refine sr (fl Ny ?_);refine lo RE ?_;refine aq (nt (rx ?_));refine bv (SE.fin (Γ':=[(4,_)]) [1,0,2] ⟨rfl,trivial⟩ rfl) ?_;cases h;exact aQ () [_] 1 ⟨rfl,trivial⟩ rfl
  ·refine sk (sr (cq (nt (aA ?_))));refine bv (SE.fin (Γ':=[(4,_)]) [1,0,2] ⟨rfl,trivial⟩ rfl) ?_;cases h;exact aQ () [_] 1 ⟨rfl,trivial⟩ rfl
def nO(k:Nat)(a0:aP)(r7:Int×(List (List Int))):Nat→((List Int)×Int)→Option (List Int)
 |0,_=>none
 |n+1,c=>
  if c.2 < (a0.2.1.length:Int) then((((dK k r7.1 c.2).bind fun j=>
  if j=true then((dy (bM (List.length c.1+List.length [c.2]))).bind fun _=>
  some (c.1++[c.2])) else(some c.1)):Option ((List Int))).bind fun h=>
  (ck (c.2+1)).bind fun e=>
  nO k a0 r7 n (h,e)) else(some c.1)
def xJ(k:Nat)(a0:aP)(a1:(List (List Int)))(a2:Int):Option ((List Int)×(List (List Int))×Int):=
 (cz k a0 a1).bind fun r2=>
 if¬(r2=0) then(some ([],[],r2)) else((ck (a0.1 - 1)).bind fun x3=>
 (eH k a2 0 x3).bind fun r4=>
 if¬(r4=true) then(some ([],[],3)) else((dL k a1).bind fun r6=>
 (gU k (a0,()) r6 a2).bind fun r7=>
 ((nO k a0 r7 k (([]:(List Int)),0)):Option ((List Int))).bind fun x9=>
 (ix k (a0,()) r7.2).bind fun c=>
 some (x9,c,0)))
theorem Br(k:Nat)(a0:aP)(a1:(List (List Int)))(a2:Int)(r:(List Int)×(List (List Int))×Int)(h:xJ k a0 a1 a2=some r):
 bZ Tryz.prog 18 [.rep ap a0,.rep (.slice (.slice (.int .i64))) a1,I a2] [.inv 0 (dZ)] (fun _:Unit=>(bu [Ri r.1,.rep (.slice (.slice (.int .i64))) r.2.1,I r.2.2],[.inv 0 (dZ)])):=by
 unfold xJ at h
 replace h:=bb h
 refine bZ.of 55 Tryz.func18 rfl Tryz.ntmps18 rfl fun S w0=>?_
 refine sr ?_
 refine bx fun b1=>?_
 refine cq ?_
 refine cq ?_
 refine cq ?_
 refine nt ?_
 refine ae ?_
 refine sr ?_
 refine lo cJ ?_
 refine mq ?_
 obtain⟨r2,ac,h⟩:=aa h
 have mc:=eN k a0 a1 r2 ac
 refine fr 1 ?_
 refine kb (ar [.tmp 15,.tmp 16] rfl rfl K0 rfl mc) ?_
 refine aq ?_
 refine nt ?_
 refine sr ?_
 refine mq ?_
 refine jb (gP rfl) ?_
 refine nt ?_
 refine cn h (fun h=>?_) (fun h=>?_)
 ·
  refine sr (mq ?_);refine cq ?_;refine cq ?_;refine aq (nt (rx ?_));refine bv (ml (t:=(.slice (.int .i64))) (x:=[]) 6 rfl .nil rfl rfl) ?_;refine bv (ml (t:=(.slice (.slice (.int .i64)))) (x:=[]) 7 rfl .nil rfl rfl) ?_;cases h;exact aQ () [_,_,_] 1 ⟨rfl,rfl,rfl,trivial⟩ rfl
 ·
  refine sk (ae (sr (mq ?_)));refine fl fp ?_;refine fr 1 ?_;refine lo cg ?_;obtain⟨x3,Q,h⟩:=aa h;refine jb (fS rfl Q) ?_;obtain⟨r4,Y,h⟩:=aa h;refine jc (ar [.tmp 21,.const (.int .i64 (0)),.tmp 24] rfl rfl AB rfl (eV k a2 0 x3 r4 Y)) ?_;refine ja (eC rfl) ?_;refine nt (cw h (fun h=>?_) (fun h=>?_))
  ·refine sr (cq ?_);refine cq ?_;refine cq (nt (rx ?_));refine bv (ml (t:=(.slice (.int .i64))) (x:=[]) 6 rfl .nil rfl rfl) ?_;refine bv (ml (t:=(.slice (.slice (.int .i64)))) (x:=[]) 7 rfl .nil rfl rfl) ?_;refine bv (SE.fin (Γ':=[(6,_),(7,_),(8,_)]) [1,0] ⟨rfl,rfl,rfl,trivial⟩ rfl) ?_;cases h;exact aQ () [_,_,_] 1 ⟨rfl,rfl,rfl,trivial⟩ rfl
  ·refine sk (sr (lo cJ ?_));refine aD rfl rfl rfl (ar [.tmp 27] rfl rfl Iz rfl (gi a0)) ⟨rfl,trivial⟩ fun z5=>?_;refine cC (kE (bD k a0) lJ) ?_;refine aq (nt (sr ?_));iterate 2 refine mq ?_
   obtain⟨r6,X,h⟩:=aa h;refine ja (ar [.tmp 31] rfl rfl CU rfl (d5 k a1 r6 X)) ?_;refine mq ?_;obtain⟨r7,U,h⟩:=aa h;refine jc (dS (N:=[(.tmp 30,.at aw (a0,(.map (some z5)))),(.tmp 32,.rep (.arr 3 (.arr 5 (.int .i64))) r6),(.tmp 33,I a2)]) (ar [.tmp 30,.tmp 32,.tmp 33] rfl rfl NT rfl (lh k (a0,()) r6 a2 r7 U)) fun _ _ _ hn=>⟨(rf hn.1),hn.2.1,hn.2.2.1,trivial⟩) ?_;refine mq ?_;refine xr ?_;refine xr ?_;refine aD rfl rfl rfl (a9 rfl qF rh) trivial fun b8=>?_;refine aq ?_;refine bf rfl rfl (a8 rfl fm rfl rfl rfl) ⟨rfl,rfl,trivial⟩ ?_;refine nt (sr (cq (nt ?_)));refine aM (Z:=Value) (α:=(List Int)) (fun l x9=>[(10,.at aw (a0,(.map (some z5)))),(12,Pt b8),(13,.eq l)]) (fun l x9=>[.obj b8 86 (.rep (.arr 3 (.arr 5 (.int .i64))) r7.2),.sl l 3 (.int .i64) x9,.inv 0 (dZ),.inv z5 (bD k a0)]) h (fun K h=>?_) (fun l x9 h=>?_)
   ·refine sr (fl bU ?_);refine fr 2 ?_;refine lo eR ?_;refine ol mB ?_;refine eG rfl ?_;refine nt (ao (dN (SE.nil 3 (.int .i64)) ?_));refine aK (fun e c=>[(10,.at aw (a0,(.map (some z5)))),(11,.eq (.int .u8 r7.1)),(12,Pt b8),(13,.eq e),(39,I (a0.2.1.length:Int)),(40,I c.2)]) (fun e c=>[.obj b8 86 (.rep (.arr 3 (.arr 5 (.int .i64))) r7.2),.sl e 3 (.int .i64) c.1,.inv 0 (dZ),.inv z5 (bD k a0)]) (nO k a0 r7) k (.slice none 0 0) (([]:(List Int)),0) (fun _=>rfl) h (SE.fin [2,0,4,3] ⟨rfl,rfl,rfl,rfl,rfl,rfl,trivial⟩ rfl) (fun n e c h=>?_);unfold nO at h;refine sr (jb (bj rfl) ?_);refine nt (ae (ci h (fun h=>?_) (fun h=>?_)))
    ·refine sk (aM (Z:=Value) (α:=(List Int)) (fun j s=>[(10,.at aw (a0,(.map (some z5)))),(11,.eq (.int .u8 r7.1)),(12,Pt b8),(13,.eq j),(39,I (a0.2.1.length:Int)),(40,I c.2)]) (fun j s=>[.obj b8 86 (.rep (.arr 3 (.arr 5 (.int .i64))) r7.2),.sl j 3 (.int .i64) s,.inv 0 (dZ),.inv z5 (bD k a0)]) h (fun K h=>?_) (fun j s h=>?_))
     ·refine ao (sr (mq ?_));refine aq (nt (sr ?_));iterate 2 refine mq ?_
      obtain⟨O,E,h⟩:=aa h;refine jb (ar [.tmp 43,.tmp 44] rfl rfl Iy rfl (gh k r7.1 c.2 O E)) ?_;refine nt (cv h (fun h=>?_) (fun h=>?_))
      ·refine ab ?_;iterate 2 refine mq ?_
       refine ja (bp (t:=(.int .i64)) [(.tmp 47,_)] [c.2] rfl rfl dI (.cons rfl .int .nil) rfl rfl) ?_;obtain⟨u16,y,h⟩:=aa h;refine fr 1 ?_;refine c6 rfl rfl rfl (bH rfl rfl dI (aB y)) ⟨rfl,rfl,trivial⟩ fun J=>?_;refine aq (au (bn ?_));exact jz (J,c.1++[c.2]) h [1,0,2,3]
      ·refine aY (bn ?_);exact jz (e,c.1) h [0,1,2,3]
     ·refine ab ?_;obtain⟨F,u,h⟩:=aa h;refine jb (bg rfl u) ?_;refine mq (nl ?_);exact jz (j,(s,F)) h [0,1,2,3]
    ·refine xa ?_;exact jz (e,c.1) h [0,1,2,3]
   ·refine sr ?_;iterate 2 refine mq ?_
    refine lo fm ?_;obtain⟨M,D,h⟩:=aa h;refine aD rfl rfl rfl (dS (N:=[(.tmp 52,.at aw (a0,(.map (some z5)))),(.tmp 53,.rep (.arr 3 (.arr 5 (.int .i64))) r7.2)]) (ar [.tmp 52,.tmp 53] rfl rfl NS rfl (jN k (a0,()) r7.2 M D)) fun _ _ _ hn=>⟨(rf hn.1),hn.2.1,trivial⟩) ⟨rfl,rfl,trivial⟩ fun pp=>?_;refine aq ?_;refine aq ?_;refine cq (nt (aA ?_));refine dk 2 rfl ?_;refine bv (eK [6,13,51] ⟨rfl,rfl,rfl,trivial⟩) ?_;refine bv (eK [7,54] ⟨rfl,rfl,trivial⟩) ?_;refine bv (SE.fin (Γ':=[(6,_),(7,_),(8,_)]) [1,0,2] ⟨rfl,rfl,rfl,trivial⟩ rfl) ?_;cases h;exact aQ () [_,_,_] 1 ⟨rfl,rfl,rfl,trivial⟩ rfl
theorem jO(k:Nat)(a0:aP)(z_a0:Nat)(a1:(List (List Int)))(r:Int)(h:dh k a0 a1=some r):
 dJ (jj Tryz.prog) 83 [.at aw (a0,(.map (some z_a0))),.rep (.arr 3 (.arr 5 (.int .i64))) a1] [.inv z_a0 (bD k a0)] (fun _:Unit=>(bu [I r],[.inv z_a0 (bD k a0)])):=by
 have h0:=h
 unfold dh at h
 replace h:=bb h
 obtain⟨u1,eg,h⟩:=aa h
 have hg:=aB eg
 have gk:=HY hg
 refine dJ.of 28 Tryz.func83 rfl Tryz.ntmps83 rfl fun S w0=>?_
 refine sr ?_
 refine bx fun b1=>?_
 refine cq ?_
 refine nt ?_
 refine ae ?_
 refine jl 1 rfl ?_
 refine C7 fun ob hob=>?_
 obtain⟨lnn,lbb,hlR,hlk⟩:=yo (z:=z_a0) Q2 ME Ap gk E7 hob
 refine bO ?_
 refine dm ?_
 refine da (dR rfl) ?_
 refine da (aJ 1 false rfl DU rfl) ?_
 refine da (an (t:=.val) rfl LP rfl) ?_
 refine ea 1 (aj rfl fm (vX) rfl) ?_
 refine eb 0 (EX (kv:=lq a1) (wU _) (mm.calm hob) rfl (fun _ _ _ hh=>vt hh) hlk) ?_
 refine dm ?_
 refine da (dH rfl rfl) ?_
 refine da (dH rfl rfl) ?_
 refine da (gr rfl) ?_
 refine df cD ?_
 refine aq ?_
 refine nt ?_
 refine ae ?_
 refine sr ?_
 refine mq ?_
 refine ja (eC rfl) ?_
 refine nt ?_
 refine dN (kE (bD k a0) hob) ?_
 refine bK rfl (fun hb=>?_) (fun hb=>?_)
 ·
  refine sr (mq ?_);refine fr 1 ?_;refine lo fm ?_;obtain⟨r2,c,h⟩:=aa h;refine jc (dS (N:=[(.tmp 18,.at aw (a0,(.map (some z_a0)))),(.tmp 19,.rep (.arr 3 (.arr 5 (.int .i64))) a1),(.const (.int .i64 (0)),I 0)]) (ge [.tmp 18,.tmp 19,.const (.int .i64 (0))] rfl rfl Qh rfl (mG k (a0,()) a1 0 r2 c)) fun _ _ _ hn=>⟨(rf hn.1),hn.2.1,hn.2.2.1,trivial⟩) ?_;refine aq (nt ?_);refine bO ?_;refine dm ?_;refine da (dR rfl) ?_;refine da (aJ 1 false rfl DU rfl) ?_;refine da (an (t:=.val) rfl LP rfl) ?_;refine ea 0 (aj rfl fm (vX) rfl) ?_;refine dm ?_;refine df cD ?_;refine fr 1 ?_;have hl:dh k a0 a1=some r2:=h0.trans (show some r=some r2 from h.symm);refine bf rfl rfl (zK (kv:=lq a1) (wU _) rfl Q2 Ap (fun _ _ _ hh=>vt hh) gk ⟨a1,hg,rfl,hl⟩) ⟨rfl,rfl,rfl,trivial⟩ ?_;refine nt (sr (mq ?_));refine aq (nt (aA ?_));cases h;exact aQ () [_] 1 ⟨rfl,trivial⟩ rfl
 ·
  obtain⟨p,hp,he,hl⟩:=hlR (by simpa using hb);obtain rfl:=wV hg hp he;replace h:some lnn=some r:=hl.symm.trans h0;refine sk (sr (mq ?_));refine aq (nt (aA ?_));cases h;exact aQ () [_] 1 ⟨rfl,trivial⟩ rfl
def iQ(k:Nat)(a0:aP)(a1:(List (List Int))):Option (Int×Int):=
 (cz k a0 a1).bind fun r2=>
 if¬(r2=0) then(some (0,r2)) else((dL k a1).bind fun r4=>
 (dh k a0 r4).bind fun r5=>
 some (r5,0))
theorem nN(k:Nat)(a0:aP)(a1:(List (List Int)))(r:Int×Int)(h:iQ k a0 a1=some r):
 dJ (jj Tryz.prog) 35 [.rep ap a0,.rep (.slice (.slice (.int .i64))) a1] [.inv 0 (dZ)] (fun _:Unit=>(bu [I r.1,I r.2],[.inv 0 (dZ)])):=by
 unfold iQ at h
 replace h:=bb h
 refine dJ.of 18 Tryz.func35 rfl Tryz.ntmps35 rfl fun S w0=>?_
 refine sr ?_
 refine bx fun b1=>?_
 refine cq ?_
 refine cq ?_
 refine nt ?_
 refine ae ?_
 refine sr ?_
 refine lo cJ ?_
 refine mq ?_
 obtain⟨r2,j,h⟩:=aa h
 have l:=eN k a0 a1 r2 j
 refine fr 1 ?_
 refine kb (ar [.tmp 7,.tmp 8] rfl rfl K0 rfl l) ?_
 refine aq ?_
 refine nt ?_
 refine sr ?_
 refine mq ?_
 refine jb (gP rfl) ?_
 refine nt ?_
 refine cn h (fun h=>?_) (fun h=>?_)
 ·
  refine sr (mq ?_);refine cq ?_;refine aq (nt (rx ?_));cases h;exact aQ () [_,_] 1 ⟨rfl,rfl,trivial⟩ rfl
 ·
  refine sk (sr (fr 1 ?_));refine lo cJ ?_;refine aD rfl rfl rfl (ar [.tmp 13] rfl rfl Iz rfl (gi a0)) ⟨rfl,trivial⟩ fun z3=>?_;refine cC (kE (bD k a0) lJ) ?_;refine mq ?_;obtain⟨r4,e,h⟩:=aa h;refine ja (ar [.tmp 15] rfl rfl CU rfl (d5 k a1 r4 e)) ?_;obtain⟨r5,c,h⟩:=aa h;refine kb (ge [.tmp 14,.tmp 16] rfl rfl Qf rfl (jO k a0 z3 r4 r5 c)) ?_;refine aq ?_;refine cq (nt (aA ?_));refine bv (SE.fin (Γ':=[(4,_),(5,_)]) [2,0,1] ⟨rfl,rfl,trivial⟩ rfl) ?_;cases h;exact aQ () [_,_] 1 ⟨rfl,rfl,trivial⟩ rfl
set_option maxRecDepth 20000
set_option maxHeartbeats 4000000
@[reducible] def fk:Ty:=.agg (.pair (.int .i64) (.int .i64))
def P4(x:Int×Int):Value:=.agg #[.int .i64 x.1,.int .i64 x.2]
theorem KW{S:FS}{w:World}{x:Int×Int}:(A.rep fk x).holds S w (P4 x):=⟨[_,_],⟨[_],[_],rfl,rfl,rfl⟩,rfl⟩
theorem Ir{S:FS}{w:World}{x:Int×Int}{v:Value}(h:(A.rep fk x).holds S w v):(A.eq (P4 x)).holds S w v:=by
 obtain⟨cs,⟨c1,c2,rfl,h1,h2⟩,rfl⟩:=h;have h1:c1=_:=h1;have h2:c2=_:=h2;subst h1 h2;rfl
theorem gW:dP Tryz.prog 110 2 true:=⟨fun w=>by kernel_rfl,fun w=>by kernel_rfl⟩
theorem ow:dP Tryz.prog 28 1 false:=⟨fun w=>by kernel_rfl,fun w=>by kernel_rfl⟩
theorem Di:dP Tryz.prog 23 1 false:=⟨fun w=>by kernel_rfl,fun w=>by kernel_rfl⟩
theorem uf:dP Tryz.prog 3 1 false:=⟨fun w=>by kernel_rfl,fun w=>by kernel_rfl⟩
theorem Gy:dP Tryz.prog 81 1 false:=⟨fun w=>by kernel_rfl,fun w=>by kernel_rfl⟩
theorem Nv:ba Tryz.prog 110 0 0:=ba.of (by kernel_rfl)
theorem Nu:ba Tryz.prog 110 1 1:=ba.of (by kernel_rfl)
theorem P3:ba Tryz.prog 107 0 0:=ba.of (by kernel_rfl)
theorem uj:ba Tryz.prog 107 1 1:=ba.of (by kernel_rfl)
theorem yD:ah Tryz.prog 108:=ah.of Tryz.func108 (by kernel_rfl) (by kernel_rfl)
def jB(x:Int×Int)(m:Int):Nat→Int×List Int→Option (List Int)
 |0,_=>none
 |n+1,q=>if q.1 < m then((aS q.2 q.1).bind fun c=>if c=x.1 then(ck (q.1+1)).bind fun w=>jB x m n (w,q.2.set q.1.toNat x.2) else if c=x.2 then(ck (q.1+1)).bind fun w=>jB x m n (w,q.2.set q.1.toNat x.1) else(ck (q.1+1)).bind fun w=>jB x m n (w,q.2)) else some q.2
def kO(k:Nat)(x:Int×Int)(m:Int):Nat→Int×List (List Int)→Option (List (List Int))
 |0,_=>none
 |n+1,q=>if q.1 < m then((aS q.2 q.1).bind fun l=>(jB x (l.length:Int) k (0,l)).bind fun l2=>(ck (q.1+1)).bind fun w=>kO k x m n (w,q.2.set q.1.toNat l2)) else some q.2
def m8(k:Nat)(x:Int×Int)(ls:List (List Int)):Option (List (List Int)):=kO k x (ls.length:Int) k (0,ls)
theorem mF(k:Nat)(x:Int×Int)(ls r:List (List Int))(y:Nat)(d0:aw.den)(z:Value×(Nat→Value))(h:m8 k x ls=some r):
 bZ Tryz.prog 108 [.eq (bP y),.rep fk x] ([.obj y 107 (.agg (.pair (.at aw d0) (.eq z.1)))]++fB 23 z ls) (fun _:Unit=>(bu [],[.obj y 107 (.agg (.pair (.at aw d0) (.eq z.1)))]++fB 23 z r)):=by
 unfold m8 at h
 replace h:=bb h
 refine bZ.of 45 Tryz.func108 rfl Tryz.ntmps108 rfl fun S w0=>?_
 refine sr ?_
 refine bx fun b3=>?_
 refine nt ?_
 refine sr ?_
 refine mq ?_
 refine ja (be rfl) ?_
 refine fl uj ?_
 refine fr 1 ?_
 refine lo ow ?_
 refine cC (D9 (pre:=[.obj y 107 (.agg (.pair (.at aw d0) (.eq z.1))),.obj b3 110 (.rep fk x)])) ?_
 refine ka (cY rfl rfl mA) ?_
 rw [gQ]
 refine cC (FO (pre:=[.obj y 107 (.agg (.pair (.at aw d0) (.eq z.1))),.obj b3 110 (.rep fk x)])) ?_
 refine eG rfl ?_
 refine nt ?_
 refine ao ?_
 refine aK (Z:=Unit) (α:=Int×List (List Int)) (fun _ q=>[(3,.eq (bP b3)),(11,.eq z.1),(12,I (ls.length:Int)),(13,I q.1)]) (fun _ q=>[.obj y 107 (.agg (.pair (.at aw d0) (.eq z.1))),.obj b3 110 (.rep fk x)]++fB 23 z q.2) (kO k x (ls.length:Int)) k () (0,ls) (fun _=>rfl) h (bq [.obj y 107 (.agg (.pair (.at aw d0) (.eq z.1))),.obj b3 110 (.rep fk x)] (fB 23 z ls) [0,1] ⟨rfl,rfl,rfl,rfl,trivial⟩ rfl) (fun n u q h=>?_)
 unfold kO at h
 refine sr ?_
 refine jb (bj rfl) ?_
 refine nt ?_
 refine ae ?_
 refine bK rfl (fun hb=>?_) (fun hb=>?_)
 ·
  replace h:=cH (oD hb) h;refine sk (ae (ao ?_));obtain⟨l,el,h⟩:=aa h;refine dN (tQ (pre:=[.obj y 107 (.agg (.pair (.at aw d0) (.eq z.1))),.obj b3 110 (.rep fk x)]) (pX el).2) ?_;refine sr (fr 1 ?_);refine kb (aZ (t:=.val) rfl mA Di (kH el)) ?_;refine ka (dG (i:=q.1.toNat) (off:=0) rfl Di (fun _=>rfl) rfl (cm (kH el)).2.2 rfl) ?_;refine aq (nt ?_);rw [Option.bind_assoc] at h;refine sr (mq ?_);refine fr 1 ?_;refine ka (cY rfl rfl dA) ?_;refine eG rfl ?_;refine nt (ao (aK (Z:=Unit) (α:=Int×List Int) (fun _ q2=>[(3,.eq (bP b3)),(5,.eq (z.2 q.1.toNat)),(11,.eq z.1),(12,I (ls.length:Int)),(13,I q.1),(17,.eq (z.2 q.1.toNat)),(18,I (l.length:Int)),(19,I q2.1)]) (fun _ q2=>[.sl (z.2 q.1.toNat) 3 (.int .i64) (q2.2),.sl z.1 23 .val (eA z.2 0 q.2),.obj y 107 (.agg (.pair (.at aw d0) (.eq z.1))),.obj b3 110 (.rep fk x)]++((kM z.2 0 q.2).eraseIdx q.1.toNat)) (jB x (l.length:Int)) k () (0,l) (fun _=>rfl) h (bq [.sl (z.2 q.1.toNat) 3 (.int .i64) (l),.sl z.1 23 .val (eA z.2 0 q.2),.obj y 107 (.agg (.pair (.at aw d0) (.eq z.1))),.obj b3 110 (.rep fk x)] ((kM z.2 0 q.2).eraseIdx q.1.toNat) [0,1,2,3] ⟨rfl,rfl,rfl,rfl,rfl,rfl,rfl,rfl,trivial⟩ rfl) (fun n2 u2 q2 h=>?_)));unfold jB at h;refine sr (jb (bj rfl) ?_);refine nt (ae (bK rfl (fun hb=>?_) (fun hb=>?_)))
  ·replace h:=cH (oD hb) h;refine sk (ae (ao ?_));obtain⟨c,ec,h⟩:=aa h;refine sr (mq ?_);refine kb (aZ (t:=.int .i64) rfl dA uf ec) ?_;refine ka (dG (i:=q2.1.toNat) (off:=0) rfl uf (fun _=>rfl) rfl (cm ec).2.2 rfl) ?_;refine aq ?_;refine aq (nt (sr ?_));refine mq (nt (ao (sr ?_)));refine fl Nv ?_;refine fr 3 ?_;refine lo uf ?_;refine jb (fU rfl) ?_;refine aq (nt ?_);refine ci h (fun h=>?_) (fun h=>?_)
   ·refine ab ?_;iterate 2 refine mq ?_
    refine fl Nu ?_;refine lo uf ?_;refine fr 1 ?_;refine kb (aZ (t:=.int .i64) rfl dA uf ec) ?_;refine bf rfl rfl (cF (i:=q2.1.toNat) rfl uf rfl (gf ec) rfl .int rfl) ⟨rfl,rfl,trivial⟩ ?_;refine au (aN (aN (tn (ab ?_))));obtain⟨w,ew,h⟩:=aa h;refine jb (bg rfl ew) ?_;refine mq (nl ?_);exact iW ((),(w,q2.2.set q2.1.toNat x.2)) h (bq [.sl (z.2 q.1.toNat) 3 (.int .i64) (q2.2.set q2.1.toNat x.2),.obj b3 110 (.rep fk x),.sl z.1 23 .val (eA z.2 0 q.2),.obj y 107 (.agg (.pair (.at aw d0) (.eq z.1)))] ((kM z.2 0 q.2).eraseIdx q.1.toNat) [0,2,3,1] ⟨rfl,rfl,rfl,rfl,rfl,rfl,rfl,rfl,trivial⟩ rfl)
   ·refine sr (fl Nu ?_);refine lo uf ?_;refine jb (fU rfl) ?_;refine aq (nt ?_);refine ci h (fun h=>?_) (fun h=>?_)
    ·refine ab ?_;iterate 2 refine mq ?_
     refine fl Nv ?_;refine lo uf ?_;refine fr 1 ?_;refine kb (aZ (t:=.int .i64) rfl dA uf ec) ?_;refine bf rfl rfl (cF (i:=q2.1.toNat) rfl uf rfl (gf ec) rfl .int rfl) ⟨rfl,rfl,trivial⟩ ?_;refine au (aN (aN (tn (ab ?_))));obtain⟨w,ew,h⟩:=aa h;refine jb (bg rfl ew) ?_;refine mq (nl ?_);exact iW ((),(w,q2.2.set q2.1.toNat x.1)) h (bq [.sl (z.2 q.1.toNat) 3 (.int .i64) (q2.2.set q2.1.toNat x.1),.obj b3 110 (.rep fk x),.sl z.1 23 .val (eA z.2 0 q.2),.obj y 107 (.agg (.pair (.at aw d0) (.eq z.1)))] ((kM z.2 0 q.2).eraseIdx q.1.toNat) [0,2,3,1] ⟨rfl,rfl,rfl,rfl,rfl,rfl,rfl,rfl,trivial⟩ rfl)
    ·refine aY (aN (aN (tn (ab ?_))));obtain⟨w,ew,h⟩:=aa h;refine jb (bg rfl ew) ?_;refine mq (nl ?_);exact iW ((),(w,q2.2)) h (bq [.obj b3 110 (.rep fk x),.sl (z.2 q.1.toNat) 3 (.int .i64) (q2.2),.sl z.1 23 .val (eA z.2 0 q.2),.obj y 107 (.agg (.pair (.at aw d0) (.eq z.1)))] ((kM z.2 0 q.2).eraseIdx q.1.toNat) [1,2,3,0] ⟨rfl,rfl,rfl,rfl,rfl,rfl,rfl,rfl,trivial⟩ rfl)
  replace h:=bS (nI hb) h;refine dF (aU (aU (bY (aN (tn (dN (A1 (pre:=[.obj y 107 (.agg (.pair (.at aw d0) (.eq z.1))),.obj b3 110 (.rep fk x)]) (l':=q2.2) (pX el).2) ?_))))));refine ab ?_;obtain⟨w,ew,h⟩:=aa (X:=ck (q.1+1)) (f:=fun w=>kO k x (ls.length:Int) n (w,q.2.set q.1.toNat q2.2)) (K:=some) (r:=r) (by simpa using h);refine jb (bg rfl ew) ?_;refine mq (nl ?_);exact iW ((),(w,q.2.set q.1.toNat q2.2)) h (bq [.obj y 107 (.agg (.pair (.at aw d0) (.eq z.1))),.obj b3 110 (.rep fk x)] (fB 23 z (q.2.set q.1.toNat q2.2)) [0,1] ⟨rfl,rfl,rfl,rfl,trivial⟩ rfl)
 replace h:=bS (nI hb) h
 refine dF ?_
 refine aU ?_
 refine aU ?_
 refine bY ?_
 cases h
 refine jk ?_
 refine bv (bq (Γ':=[]) (pre':=[.obj y 107 (.agg (.pair (.at aw d0) (.eq z.1)))]) [.obj y 107 (.agg (.pair (.at aw d0) (.eq z.1))),.obj b3 110 (.rep fk x)] (fB 23 z q.2) [0] trivial rfl) ?_
 exact iY () [] trivial rfl
@[reducible] def JI:Ty:=.agg (.pair (.ptr aw) (.slice (.slice (.int .i64))))
theorem MK{S:FS}{w:World}{y:Nat}{d0:aw.den}{z:Value×(Nat→Value)}{ls:List (List Int)}(h:∀d∈[D.obj y 107 (.agg (.pair (.at aw d0) (.eq z.1)))]++fB 23 z ls,d.holds S w∧∀b,d.foot=some b→S b):(A.at JI (d0,ls)).holds S w (bP y):=by
 obtain⟨⟨cs,h1,c1,c2,rfl,g1,rfl,g2⟩,h2⟩:=h _ (List.mem_cons_self ..);have h3:=M9 (fun d hd=>h d (List.mem_cons_of_mem _ hd));refine⟨y,0,_,107,(0,0),rfl,h2 y rfl,h1,c1,[z.1],?_,g1,?_⟩
 ·have l1:=aO (.ptr aw) g1;simp only [Ty.cells] at l1;match c1,l1 with
  |[u],_=>rfl
 ·obtain⟨cs,h4,h5⟩:=h3;have l1:=aO (.slice (.slice (.int .i64))) h4;simp only [Ty.cells] at l1;match cs,l1 with
  |[u],_=>rw [h5];exact h4
theorem zj{S:FS}{w:World}{a:Act}{Γ:Ga}{y:Nat}{d0:aw.den}{z:Value×(Nat→Value)}{ls:List (List Int)}(h:∀d∈[D.obj y 107 (.agg (.pair (.at aw d0) (.eq z.1)))]++fB 23 z ls,d.holds S w∧∀b,d.foot=some b→S b)
 (hk:∀s r,lk Γ s=some r→r.holds S w (a.tmps.getD s undef)) (h0:lk Γ 0=some (.eq (bP y))):∀s r,lk [(0,A.at JI (d0,ls))] s=some r→r.holds S w (a.tmps.getD s undef):=fun s r hl=>by
 simp only [lk] at hl
 split at hl
 ·
  rename_i e
  cases hl
  subst e
  have e1:a.tmps.getD 0 undef=bP y:=hk 0 _ h0
  rw [e1]
  exact MK h
 ·
  cases hl
theorem L8{n:Nat}{r0:A}(h:r0.flat=true):∀s r,lk [(n,r0)] s=some r→r.flat=true:=fun s r hl=>by
 simp only [lk] at hl
 split at hl
 ·
  cases hl;exact h
 ·
  cases hl
theorem Nz{d0:D}(h:d0.flat=true):∀d∈[d0],d.flat=true:=fun d hd=>by
 simp only [List.mem_cons,List.not_mem_nil,or_false] at hd
 subst hd;exact h
theorem KV{d0 d1:D}(h:d0.flat=true)(h1:d1.flat=true):∀d∈[d0,d1],d.flat=true:=fun d hd=>by
 simp only [List.mem_cons,List.not_mem_nil,or_false] at hd
 rcases hd with rfl |rfl <;> assumption
theorem zk{y:Nat}{x:Int×Int}(S:FS)(w:World):f9 S w [.eq (bP y),.rep fk x] [bP y,P4 x]:=⟨_,_,rfl,rfl,_,_,rfl,KW,rfl⟩
theorem Nr:ba Tryz.prog 157 0 0:=ba.of (by kernel_rfl)
theorem Gx:dP Tryz.prog 25 3 true:=⟨fun w=>by kernel_rfl,fun w=>by kernel_rfl⟩
theorem P8:ah Tryz.prog 64:=ah.of Tryz.func64 (by kernel_rfl) (by kernel_rfl)
theorem P9:ah Tryz.prog 56:=ah.of Tryz.func56 (by kernel_rfl) (by kernel_rfl)
theorem NE:ah Tryz.prog 83:=ah.of Tryz.func83 (by kernel_rfl) (by kernel_rfl)
def mV(k:Nat)(t:aP)(x:Int×Int)(ls:List (List Int)):Option (Bool×List (List Int)):=
 (m8 k x ls).bind fun l1=>(lC k t l1).bind fun e=>if Kx e=true then(m8 k x l1).bind fun l2=>some (!vv e,l2) else none
theorem sQ(k:Nat)(t:aP)(x:Int×Int)(ls:List (List Int))(r:Bool×List (List Int))(y m:Nat)(z:Value×(Nat→Value))(h:mV k t x ls=some r):
 bZ Tryz.prog 68 [.eq (bP y),.rep fk x] ([.obj y 107 (.agg (.pair (.at aw (t,.map (some m))) (.eq z.1)))]++fB 23 z ls) (fun _:Unit=>(bu [.eq (.bool r.1)],[.obj y 107 (.agg (.pair (.at aw (t,.map (some m))) (.eq z.1)))]++fB 23 z r.2)):=by
 unfold mV at h
 replace h:=bb h
 obtain⟨l1,e1,h⟩:=aa h
 obtain⟨e,e2,h⟩:=aa h
 have he:Kx e=true:=by
  apply Classical.byContradiction;intro hn;rw [if_neg hn] at h;cases h
 replace h:=cH he h
 obtain⟨l2,e3,h⟩:=aa h
 cases h
 have cv:=rz k t l1 e e2
 refine LI 23 Tryz.func68 rfl Tryz.ntmps68 rfl fun S w0=>?_
 refine sr ?_
 refine bx fun b3=>?_
 refine cq ?_
 refine nt ?_
 refine sr ?_
 refine mq ?_
 refine ka (aj rfl gW (yW) rfl) ?_
 refine cC (fC (Δ':=([.obj y 107 (.agg (.pair (.at aw (t,.map (some m))) (.eq z.1)))]++fB 23 z ls)++[.obj b3 110 (.rep fk x)]) (List.perm_append_comm (l₁:=([.obj b3 110 (.rep fk x)]:List D)))) ?_
 refine bT (Δ:=_++_) (F:=[_]) (fun _ _ _=>ay rfl _) rfl rfl (ar [.tmp 5,.tmp 6] rfl rfl yD rfl (mF k x ls l1 y (t,.map (some m)) z e1)) ⟨rfl,rfl,trivial⟩ fun _=>?_
 refine nt ?_
 refine sr ?_
 refine mq ?_
 refine cC (fC (Δ':=[.obj b3 110 (.rep fk x)]++([.obj y 107 (.agg (.pair (.at aw (t,.map (some m))) (.eq z.1)))]++fB 23 z l1)) List.perm_append_comm) ?_
 refine ka (aj rfl gW (yW) rfl) ?_
 refine cC (sE 9 rfl fun _ _ _ h=>Ir h) ?_
 refine xC (vs:=[bP y,P4 x]) [.tmp 8,.tmp 9] rfl rfl rfl rfl rfl ⟨rfl,rfl,trivial⟩ ?_
 refine au ?_
 refine ag ?_
 refine bv (fC (Δ':=([.obj y 107 (.agg (.pair (.at aw (t,.map (some m))) (.eq z.1)))]++fB 23 z l1)++[.obj b3 110 (.rep fk x)]) (List.perm_append_comm (l₁:=([.obj b3 110 (.rep fk x)]:List D)))) ?_
 show JC _ _ _ _ _
 refine ae ?_
 refine Eg (L:=_++_) (Δ:=[_]) (Γ1:=[(0,.at JI ((t,.map (some m)),l1))]) (Z:=Unit) (fun _=>[(4,.eq (.bool (!vv e)))]) (fun _=>[.obj b3 110 (.rep fk x)]) (fun S w a hl hk=>zj hl hk rfl) (fun _=>⟨L8 rfl,Nz rfl⟩) (fun S w=>?_) (fun _=>?_)
 ·
  refine bO ?_;refine dm ?_;refine da (dR rfl) ?_;refine da (aJ 1 false rfl P3 rfl) ?_;refine da (an (t:=.ptr aw) rfl Gy rfl) ?_;refine da (dR rfl) ?_;refine da (aJ 3 true rfl Nr rfl) ?_;refine da (an (t:=ap) rfl Gx rfl) ?_;refine dm ?_;refine da (dR rfl) ?_;refine da (aJ 1 false rfl uj rfl) ?_;refine da (an (t:=.slice (.slice (.int .i64))) rfl ow rfl) ?_;refine tU (by kernel_rfl) qW ?_;refine jb (ar [.tmp 16,.tmp 20] rfl rfl P8 rfl cv) ?_;refine jb (rQ rfl TM he) ?_;refine aq (au ?_);exact fun a w st=>⟨rfl,(),(SE.fin (Γ':=[(4,.eq (.bool (!vv e)))]) [0] ⟨rfl,trivial⟩ rfl) a w st⟩
 ·
  refine tn (aA (Ee (Δ1:=[.obj y 107 (.agg (.pair (.at aw (t,.map (some m))) (.eq z.1)))]++fB 23 z l1) (F:=[.obj b3 110 (.rep fk x)]) yD (mF k x l1 l2 y (t,.map (some m)) z e3 _) zk (fun _=>?_)));refine bv (fC (Δ':=[.obj b3 110 (.rep fk x)]++([.obj y 107 (.agg (.pair (.at aw (t,.map (some m))) (.eq z.1)))]++fB 23 z l2)) List.perm_append_comm) ?_;refine bv (bq (pre':=[.obj y 107 (.agg (.pair (.at aw (t,.map (some m))) (.eq z.1)))]) (Γ':=[(4,.eq (.bool (!vv e)))]) [.obj b3 110 (.rep fk x),.obj y 107 (.agg (.pair (.at aw (t,.map (some m))) (.eq z.1)))] (fB 23 z l2) [1] ⟨rfl,trivial⟩ rfl) ?_;exact iY () [_] ⟨rfl,trivial⟩ rfl
def mW(k:Nat)(t:aP)(x:Int×Int)(ls:List (List Int)):Option (Int×List (List Int)):=
 (m8 k x ls).bind fun l1=>(dL k l1).bind fun ld=>(dh k t ld).bind fun n=>(m8 k x l1).bind fun l2=>some (n,l2)
theorem sR(k:Nat)(t:aP)(x:Int×Int)(ls:List (List Int))(r:Int×List (List Int))(y m:Nat)(z:Value×(Nat→Value))(h:mW k t x ls=some r):
 dJ (jj Tryz.prog) 70 [.eq (bP y),.rep fk x] ([.inv m (bD k t)]++([.obj y 107 (.agg (.pair (.at aw (t,.map (some m))) (.eq z.1)))]++fB 23 z ls)) (fun _:Unit=>(bu [I r.1],[.inv m (bD k t)]++([.obj y 107 (.agg (.pair (.at aw (t,.map (some m))) (.eq z.1)))]++fB 23 z r.2))):=by
 unfold mW at h
 replace h:=bb h
 obtain⟨l1,e1,h⟩:=aa h
 obtain⟨ld,e2,h⟩:=aa h
 obtain⟨n,e2',h⟩:=aa h
 obtain⟨l2,e3,h⟩:=aa h
 cases h
 have cv:=d5 k l1 ld e2
 have cl:=jO k t m ld n e2'
 refine A9 20 Tryz.func70 rfl Tryz.ntmps70 rfl fun S w0=>?_
 refine sr ?_
 refine bx fun b3=>?_
 refine cq ?_
 refine nt ?_
 refine sr ?_
 refine mq ?_
 refine ka (aj rfl gW (yW) rfl) ?_
 refine cC (fC (Δ':=([.obj y 107 (.agg (.pair (.at aw (t,.map (some m))) (.eq z.1)))]++fB 23 z ls)++[.obj b3 110 (.rep fk x),.inv m (bD k t)]) (List.perm_append_comm (l₁:=([.obj b3 110 (.rep fk x),.inv m (bD k t)]:List D)))) ?_
 refine bT (Δ:=_++_) (F:=[_,_]) (fun _ _ _=>ay rfl _) rfl rfl (ar [.tmp 5,.tmp 6] rfl rfl yD rfl (mF k x ls l1 y (t,.map (some m)) z e1)) ⟨rfl,rfl,trivial⟩ fun _=>?_
 refine nt ?_
 refine sr ?_
 refine mq ?_
 refine cC (fC (Δ':=[.obj b3 110 (.rep fk x),.inv m (bD k t)]++([.obj y 107 (.agg (.pair (.at aw (t,.map (some m))) (.eq z.1)))]++fB 23 z l1)) List.perm_append_comm) ?_
 refine ka (aj rfl gW (yW) rfl) ?_
 refine cC (sE 9 rfl fun _ _ _ h=>Ir h) ?_
 refine xC (vs:=[bP y,P4 x]) [.tmp 8,.tmp 9] rfl rfl rfl rfl rfl ⟨rfl,rfl,trivial⟩ ?_
 refine au ?_
 refine ag ?_
 refine bv (fC (Δ':=([.obj y 107 (.agg (.pair (.at aw (t,.map (some m))) (.eq z.1)))]++fB 23 z l1)++[.obj b3 110 (.rep fk x),.inv m (bD k t)]) (List.perm_append_comm (l₁:=([.obj b3 110 (.rep fk x),.inv m (bD k t)]:List D)))) ?_
 show JC _ _ _ _ _
 refine ae ?_
 refine Eg (L:=_++_) (Δ:=[_,_]) (Γ1:=[(0,.at JI ((t,.map (some m)),l1))]) (Z:=Unit) (fun _=>[(4,I n)]) (fun _=>[.obj b3 110 (.rep fk x),.inv m (bD k t)]) (fun S w a hl hk=>zj hl hk rfl) (fun _=>⟨L8 rfl,KV rfl rfl⟩) (fun S w=>?_) (fun _=>?_)
 ·
  refine bO ?_;refine dm ?_;refine da (dR rfl) ?_;refine da (aJ 1 false rfl P3 rfl) ?_;refine da (an (t:=.ptr aw) rfl Gy rfl) ?_;refine dm ?_;refine da (dR rfl) ?_;refine da (aJ 1 false rfl uj rfl) ?_;refine da (an (t:=.slice (.slice (.int .i64))) rfl ow rfl) ?_;refine da (ar [.tmp 17] rfl rfl P9 rfl cv) ?_;refine tU (by kernel_rfl) qW ?_;refine fr 1 ?_;refine kb (ge [.tmp 13,.tmp 18] rfl rfl NE rfl cl) ?_;refine aq (au ?_);exact fun a w st=>⟨rfl,(),(SE.fin (Γ':=[(4,I n)]) [1,0] ⟨rfl,trivial⟩ rfl) a w st⟩
 ·
  refine tn (aA (Ee (Δ1:=[.obj y 107 (.agg (.pair (.at aw (t,.map (some m))) (.eq z.1)))]++fB 23 z l1) (F:=[.obj b3 110 (.rep fk x),.inv m (bD k t)]) yD (mF k x l1 l2 y (t,.map (some m)) z e3 _) zk (fun _=>?_)));refine bv (fC (Δ':=[.obj b3 110 (.rep fk x),.inv m (bD k t)]++([.obj y 107 (.agg (.pair (.at aw (t,.map (some m))) (.eq z.1)))]++fB 23 z l2)) List.perm_append_comm) ?_;refine bv (bq (pre':=[.inv m (bD k t),.obj y 107 (.agg (.pair (.at aw (t,.map (some m))) (.eq z.1)))]) (Γ':=[(4,I n)]) [.obj b3 110 (.rep fk x),.inv m (bD k t),.obj y 107 (.agg (.pair (.at aw (t,.map (some m))) (.eq z.1)))] (fB 23 z l2) [1,2] ⟨rfl,trivial⟩ rfl) ?_;exact iY () [_] ⟨rfl,trivial⟩ rfl
theorem sM:∀w,(zeroValue 110).run Tryz.prog w= .ok (.agg #[.int .i64 0,.int .i64 0]) w:=fun w=>by kernel_rfl
theorem vJ:∀S w,(A.cells S w (.rep fk (0,0)) (Value.cells (.agg #[.int .i64 0,.int .i64 0])).toList):=fun _ _=>⟨[_],[_],rfl,rfl,rfl⟩
theorem NF:ah Tryz.prog 70:=ah.of Tryz.func70 (by kernel_rfl) (by kernel_rfl)
abbrev Me:=Int×(Int×Int)×Int×Bool×List (List Int)
def ie(k:Nat)(t:aP)(xs:List (Int×Int)):Nat→Me→Option ((Int×Int)×Int×Bool×List (List Int))
 |0,_=>none
 |n+1,q=>if q.1 < (xs.length:Int) then((aS xs q.1).bind fun x=>(mW k t x q.2.2.2.2).bind fun r=>(ck (q.1+1)).bind fun w=>ie k t xs n (if(!q.2.2.2.1 || decide (r.1 < q.2.2.1))=true then(w,x,r.1,true,r.2) else(w,q.2.1,q.2.2.1,q.2.2.2.1,r.2))) else some q.2
def lP(k:Nat)(t:aP)(xs:List (Int×Int))(ls:List (List Int)):Option ((Int×Int)×Int×Bool×List (List Int)):=ie k t xs k (0,(0,0),0,false,ls)
theorem wb(k:Nat)(t:aP)(xs:List (Int×Int))(ls:List (List Int))(r:(Int×Int)×Int×Bool×List (List Int))(y m:Nat)(z:Value×(Nat→Value))(h:lP k t xs ls=some r):
 dJ (jj Tryz.prog) 69 [.eq (.func (.func 70) #[bP y] #[]),Rs fk xs] ([.inv m (bD k t),.obj y 107 (.agg (.pair (.at aw (t,.map (some m))) (.eq z.1)))]++fB 23 z ls) (fun _:Unit=>(bu [.rep fk r.1,I r.2.1,.eq (.bool r.2.2.1)],[.inv m (bD k t),.obj y 107 (.agg (.pair (.at aw (t,.map (some m))) (.eq z.1)))]++fB 23 z r.2.2.2)):=by
 unfold lP at h
 replace h:=bb h
 refine dJ.of 35 Tryz.func69 rfl Tryz.ntmps69 rfl fun S w0=>?_
 refine sr ?_
 refine aD rfl rfl rfl (a9 rfl sM vJ) trivial fun b4=>?_
 refine cq ?_
 refine cq ?_
 refine nt ?_
 refine sr ?_
 refine aD rfl rfl rfl (a9 rfl sM vJ) trivial fun b7=>?_
 refine nt ?_
 refine sr ?_
 refine cq ?_
 refine cq ?_
 refine nt ?_
 refine ae ?_
 refine sr ?_
 refine mq ?_
 refine ol Of ?_
 refine eG rfl ?_
 refine nt ?_
 refine ao ?_
 refine aK (Z:=Unit) (α:=Me) (fun _ q=>[(0,.eq (.func (.func 70) #[bP y] #[])),(4,.eq (bP b4)),(7,.eq (bP b7)),(8,I q.2.2.1),(9,.eq (.bool q.2.2.2.1)),(13,Rs fk xs),(14,I (xs.length:Int)),(15,I q.1)]) (fun _ q=>[.obj b7 110 (.rep fk q.2.1),.obj b4 110 (.rep fk (0,0)),.inv m (bD k t),.obj y 107 (.agg (.pair (.at aw (t,.map (some m))) (.eq z.1)))]++fB 23 z q.2.2.2.2) (ie k t xs) k () (0,(0,0),0,false,ls) (fun _=>rfl) h (bq [.obj b7 110 (.rep fk (0,0)),.obj b4 110 (.rep fk (0,0)),.inv m (bD k t),.obj y 107 (.agg (.pair (.at aw (t,.map (some m))) (.eq z.1)))] (fB 23 z ls) [0,1,2,3] ⟨rfl,rfl,rfl,rfl,rfl,rfl,rfl,rfl,trivial⟩ rfl) (fun n u q h=>?_)
 unfold ie at h
 obtain⟨q1,q2,q3,q4,q5⟩:=q
 refine sr ?_
 refine jb (bj rfl) ?_
 refine nt ?_
 refine ae ?_
 refine bK rfl (fun hb=>?_) (fun hb=>?_)
 ·
  replace h:=cH (oD hb) h;obtain⟨x,ex,h⟩:=aa h;obtain⟨r1,e,h⟩:=aa h;obtain⟨w,ew,h⟩:=aa h;have cl:=sR k t x q5 r1 y m z e;refine sk (ae (ao (sr (jb (aF (t:=fk) rfl Of gW ex) ?_))));refine ja (an (t:=fk) rfl gW rfl) ?_;refine aD rfl rfl rfl (a9 rfl sM vJ) trivial fun c=>?_;refine bf rfl rfl (a8 rfl gW rfl rfl rfl) ⟨rfl,rfl,trivial⟩ ?_;refine nt (sr (mq ?_));refine ka (aj rfl gW (yW) rfl) ?_;refine cC (fC (Δ':=([.inv m (bD k t)]++([.obj y 107 (.agg (.pair (.at aw (t,.map (some m))) (.eq z.1)))]++fB 23 z q5))++[.obj c 110 (.rep fk x),.obj b7 110 (.rep fk q2),.obj b4 110 (.rep fk (0,0))]) (List.perm_append_comm (l₁:=([.obj c 110 (.rep fk x),.obj b7 110 (.rep fk q2),.obj b4 110 (.rep fk (0,0))]:List D)))) ?_;refine bT (Δ:=_++_) (F:=[_,_,_]) (fun _ _ _=>ay rfl _) rfl rfl (o6 (fs:=[bP y]) (cs:=[]) (ags:=[.rep fk x]) [.tmp 20] rfl rfl NF rfl cl) ⟨rfl,rfl,trivial⟩ fun _=>?_;refine aq ?_;refine cC (fC (Δ':=[.obj c 110 (.rep fk x),.obj b7 110 (.rep fk q2),.obj b4 110 (.rep fk (0,0))]++([.inv m (bD k t)]++([.obj y 107 (.agg (.pair (.at aw (t,.map (some m))) (.eq z.1)))]++fB 23 z r1.2))) List.perm_append_comm) ?_;refine nt ?_;cases q4 with
  |false=>
   refine sr (mq ?_);refine ja (eC rfl) ?_;refine mq ?_;iterate 3 refine gn ?_
   refine pt (nt ?_);refine bK rfl (fun hb=>?_) (fun hb=>(by cases hb));refine ab (ka (aj rfl gW (yW) rfl) ?_);refine mq ?_;refine fr 1 ?_;refine bf rfl rfl (a8 rfl gW rfl rfl rfl) ⟨rfl,rfl,trivial⟩ ?_;refine aq ?_;refine cq (au (aN (tn (ab ?_))));refine jb (bg rfl ew) ?_;refine mq (nl ?_);exact iW ((),(w,x,r1.1,true,r1.2)) h (bq [.obj b7 110 (.rep fk x),.obj c 110 (.rep fk x),.obj b4 110 (.rep fk (0,0)),.inv m (bD k t),.obj y 107 (.agg (.pair (.at aw (t,.map (some m))) (.eq z.1)))] (fB 23 z r1.2) [0,2,3,4] ⟨rfl,rfl,rfl,rfl,rfl,rfl,rfl,rfl,trivial⟩ rfl)
  |true=>
   refine sr (mq ?_);refine ja (eC rfl) ?_;refine mq ?_;refine gm ?_;refine gm ?_;refine gb (bj rfl) ?_;refine pf (nt ?_);refine bK rfl (fun hb=>?_) (fun hb=>?_)
   ·replace h:(ie k t xs n (w,x,r1.1,true,r1.2)).bind some=some r:=by
     have hd:r1.1 < q3:=of_decide_eq_true hb;simpa [hd] using h
    refine ab (ka (aj rfl gW (yW) rfl) ?_);refine mq ?_;refine fr 1 ?_;refine bf rfl rfl (a8 rfl gW rfl rfl rfl) ⟨rfl,rfl,trivial⟩ ?_;refine aq ?_;refine cq (au (aN (tn (ab ?_))));refine jb (bg rfl ew) ?_;refine mq (nl ?_);exact iW ((),(w,x,r1.1,true,r1.2)) h (bq [.obj b7 110 (.rep fk x),.obj c 110 (.rep fk x),.obj b4 110 (.rep fk (0,0)),.inv m (bD k t),.obj y 107 (.agg (.pair (.at aw (t,.map (some m))) (.eq z.1)))] (fB 23 z r1.2) [0,2,3,4] ⟨rfl,rfl,rfl,rfl,rfl,rfl,rfl,rfl,trivial⟩ rfl)
   ·replace h:(ie k t xs n (w,q2,q3,true,r1.2)).bind some=some r:=by
     have hd:¬r1.1 < q3:=of_decide_eq_false hb;simpa [hd] using h
    refine aY (aN (tn (ab (jb (bg rfl ew) ?_))));refine mq (nl ?_);exact iW ((),(w,q2,q3,true,r1.2)) h (bq [.obj c 110 (.rep fk x),.obj b7 110 (.rep fk q2),.obj b4 110 (.rep fk (0,0)),.inv m (bD k t),.obj y 107 (.agg (.pair (.at aw (t,.map (some m))) (.eq z.1)))] (fB 23 z r1.2) [1,2,3,4] ⟨rfl,rfl,rfl,rfl,rfl,rfl,rfl,rfl,trivial⟩ rfl)
 replace h:=bS (nI hb) h
 refine dF ?_
 refine aU ?_
 refine aU ?_
 refine bY ?_
 refine tn ?_
 cases h
 refine sr ?_
 refine ka (aj rfl gW (yW) rfl) ?_
 iterate 2 refine mq ?_
 refine fr 1 ?_
 refine bf rfl rfl (a8 rfl gW rfl rfl rfl) ⟨rfl,rfl,trivial⟩ ?_
 refine aq ?_
 refine aq ?_
 refine nt ?_
 refine aA ?_
 refine bv (fC (Δ':=([.inv m (bD k t),.obj y 107 (.agg (.pair (.at aw (t,.map (some m))) (.eq z.1)))]++fB 23 z q5)++[.obj b4 110 (.rep fk q2),.obj b7 110 (.rep fk q2)]) (List.perm_append_comm (l₁:=([.obj b4 110 (.rep fk q2),.obj b7 110 (.rep fk q2)]:List D)))) ?_
 exact aQ () [_,_,_] ([.inv m (bD k t),.obj y 107 (.agg (.pair (.at aw (t,.map (some m))) (.eq z.1)))]++fB 23 z q5:List D).length ⟨⟨b4,110,.rep fk q2,2,true,rfl,List.mem_append.2 (.inr (List.mem_cons_self ..)),gW,yW,rfl⟩,rfl,rfl,trivial⟩ (by rw [List.take_left])
theorem qB:ah Tryz.prog 67:=ah.of Tryz.func67 (by kernel_rfl) (by kernel_rfl)
theorem Qb:ah Tryz.prog 35:=ah.of Tryz.func35 (by kernel_rfl) (by kernel_rfl)
theorem Qa:ah Tryz.prog 54:=ah.of Tryz.func54 (by kernel_rfl) (by kernel_rfl)
theorem P7:ah Tryz.prog 68:=ah.of Tryz.func68 (by kernel_rfl) (by kernel_rfl)
theorem P6:ah Tryz.prog 69:=ah.of Tryz.func69 (by kernel_rfl) (by kernel_rfl)
theorem LM:dP Tryz.prog 22 1 false:=⟨fun w=>by kernel_rfl,fun w=>by kernel_rfl⟩
theorem L6:ba Tryz.prog 25 1 1:=ba.of (by kernel_rfl)
theorem ox:mj Tryz.prog 28 23 1 24:=.of (z:=(.slice none 0 0)) mA (by kernel_rfl) rfl rfl rfl
theorem GE:mj Tryz.prog 108 110 2 16:=.of (z:=(.agg #[.int .i64 0,.int .i64 0])) Of (by kernel_rfl) rfl rfl rfl
theorem MU:yV Tryz.prog 107 #[(0,1),(1,1)]:=⟨_,TK,fun _=>by kernel_rfl⟩
theorem MF:∀w,(zeroValue 107).run Tryz.prog w= .ok (.agg #[.pointer none,.slice none 0 0]) w:=fun w=>by kernel_rfl
theorem N9:∀S w,(A.cells S w (.pair (.eq (.pointer none)) (.eq (.slice none 0 0))) (Value.cells (.agg #[.pointer none,.slice none 0 0])).toList):=fun _ _=>⟨[_],_,rfl,⟨rfl,rfl⟩,rfl,rfl⟩
theorem MS:yV Tryz.prog 110 #[(0,1),(1,1)]:=⟨_,TJ,fun _=>by kernel_rfl⟩
theorem Ll:∀S w,(A.cells S w (.pair (I 0) (I 0)) (Value.cells (.agg #[.int .i64 0,.int .i64 0])).toList):=fun _ _=>⟨[_],_,rfl,⟨rfl,rfl⟩,rfl,rfl⟩
def fy:List Bool→Ga→Ga
 |true::l,e::g=>e::fy l g
 |false::l,_::g=>fy l g
 |_,_=>[]
def mI(y:Nat)(z1:Value)(l:List Int)(v v2:Value):Ga:=[(39,.eq (bP y)),(40,.eq (bP y)),(41,.eq (bP y)),(42,.eq (.pointer (some ⟨y,0+1,none⟩))),(43,.eq z1),(44,Ri l),(45,.eq v),(46,.rep (.slice .val) [v]),(47,.eq v2),(48,.eq (bP y)),(49,.eq (.pointer (some ⟨y,0+1,none⟩)))]
def lS(b2 y:Nat)(n i:Int)(l:List Int)(a1:List (List Int)):Ga:=[(2,.eq (bP b2)),(8,I n),(10,.eq (bP y)),(12,Ri l),(33,.rep (.slice (.slice (.int .i64))) a1),(34,I (a1.length:Int)),(35,I i)]
theorem QY{i j:Int}:AE (.agg (.pair (I i) (I j))) (.rep fk (i,j)):=fun S w cs h=>by
 obtain⟨c1,c2,e,h1,h2⟩:=h
 exact⟨c1,c2,e,h1.1,h2.1⟩
def mH(k:Nat)(a1:List (List Int)):Nat→Int×List (List Int)→Option (List (List Int))
 |0,_=>none
 |n+1,q=>if q.1 < (a1.length:Int) then((aS a1 q.1).bind fun l=>(kL k l).bind fun l2=>if bM (q.2.length+1) then(ck (q.1+1)).bind fun w=>mH k a1 n (w,q.2++[l2]) else none) else some q.2
def kP(k:Nat)(t:aP)(i:Int):Nat→Int×List (Int×Int)×List (List Int)→Option (List (Int×Int)×List (List Int))
 |0,_=>none
 |n+1,q=>if q.1 < (t.2.1.length:Int) then((mV k t (i,q.1) q.2.2).bind fun r=>if r.1=true then(if bM (q.2.1.length+1) then(ck (q.1+1)).bind fun w=>kP k t i n (w,q.2.1++[(i,q.1)],r.2) else none) else(ck (q.1+1)).bind fun w=>kP k t i n (w,q.2.1,r.2)) else some q.2
def jC(k:Nat)(t:aP):Nat→Int×List (Int×Int)×List (List Int)→Option (List (Int×Int)×List (List Int))
 |0,_=>none
 |n+1,q=>if q.1 < (t.2.1.length:Int) then((ck (q.1+1)).bind fun w=>(kP k t q.1 k (w,q.2)).bind fun p=>jC k t n (w,p)) else some q.2
def uG(k:Nat)(a0:aP)(a1:(List (List Int))):Option (Int×Int×Int×Int):=
 (iQ k a0 a1).bind fun L=>if¬(L.2=0) then some (0,0,0,L.2) else
 (mH k a1 k (0,[])).bind fun ls=>(jC k a0 k (0,[],ls)).bind fun p=>(lP k a0 p.1 p.2).bind fun b=>
 if(!b.2.2.1 || decide (L.1≤b.2.1))=true then some (0,0,0,11) else some (b.1.1,b.1.2,b.2.1,0)
theorem zn(k:Nat)(a0:aP)(a1:(List (List Int)))(r:Int×Int×Int×Int)(h:uG k a0 a1=some r):
 dJ (jj Tryz.prog) 27 [.rep ap a0,.rep (.slice (.slice (.int .i64))) a1] [.inv 0 dZ] (fun _:Unit=>(bu [.eq (.int .i64 r.1),.eq (.int .i64 r.2.1),.eq (.int .i64 r.2.2.1),.eq (.int .i64 r.2.2.2)],[.inv 0 dZ])):=by
 unfold uG at h
 replace h:=bb h
 refine dJ.of 97 Tryz.func27 rfl Tryz.ntmps27 rfl fun S w0=>?_
 refine ae ?_
 refine ab ?_
 refine aD rfl rfl rfl (oy rfl rfl) ⟨rfl,trivial⟩ fun b2=>?_
 refine dE rfl ?_
 refine dE rfl ?_
 refine dE rfl ?_
 refine dE rfl ?_
 refine au ?_
 refine ag ?_
 show JC _ _ _ _ _
 obtain⟨L,eL,h⟩:=aa h
 have cL:=nN k a0 a1 L eL
 refine ae ?_
 refine ab ?_
 refine bX rfl rfl rfl (aj rfl Gx (yW) rfl) ⟨rfl,trivial⟩ ?_
 refine aC rfl rfl ?_
 refine bJ 1 rfl ?_
 refine bX rfl rfl rfl (ge [.tmp 21,.tmp 22] rfl rfl Qb rfl cL) ⟨rfl,rfl,trivial⟩ ?_
 refine aC rfl rfl ?_
 refine aG rfl (dH rfl rfl) ⟨rfl,trivial⟩ ?_
 refine aG rfl (dH rfl rfl) ⟨rfl,trivial⟩ ?_
 refine dj rfl rfl ?_
 refine dj rfl rfl ?_
 refine au ?_
 refine ag ?_
 show JC _ _ _ _ _
 refine ae ?_
 refine ae ?_
 refine ab ?_
 refine aC rfl rfl ?_
 refine aG rfl (gP rfl) ⟨rfl,rfl,trivial⟩ ?_
 refine au ?_
 refine ag ?_
 show JC _ _ _ _ _
 refine bK rfl (fun hb=>?_) (fun hb=>?_)
 ·
  replace h:=cH (Jl hb) h
  refine ae ?_
  refine ab ?_
  refine aC rfl rfl ?_
  refine dE rfl ?_
  refine dE rfl ?_
  refine dE rfl ?_
  refine dj rfl rfl ?_
  refine au ?_
  refine ag ?_
  show JC _ _ _ _ _
  refine aA ?_
  refine aV ?_
  obtain rfl:=Option.some.inj h
  exact aQ () [_,_,_,_] 1 ⟨rfl,rfl,rfl,rfl,trivial⟩ rfl
 replace h:=bS (wu hb) h
 refine aY ?_
 refine ag ?_
 show JC _ _ _ _ _
 rw [Option.bind_assoc] at h
 refine ae ?_
 refine ab ?_
 refine bJ 1 rfl ?_
 refine bX rfl rfl rfl (aj rfl Gx (yW) rfl) ⟨rfl,trivial⟩ ?_
 refine aD rfl rfl rfl (ar [.tmp 29] rfl rfl Qa rfl (gi a0)) ⟨rfl,trivial⟩ fun m=>?_
 refine cC (kE (bD k a0) lJ) ?_
 refine aG rfl (cI [(0,.tmp 30,_)] rfl MU MF N9 (ia ⟨trivial,trivial⟩) rfl) ⟨rfl,trivial⟩ ?_
 refine aD rfl rfl rfl (oy rfl trivial) ⟨rfl,trivial⟩ fun y=>?_
 refine dj rfl rfl ?_
 refine au ?_
 refine ag ?_
 show JC _ _ _ _ _
 refine ae ?_
 refine ae ?_
 refine ab ?_
 refine aC rfl rfl ?_
 refine aG rfl (jE rfl rfl mA) ⟨rfl,trivial⟩ ?_
 refine eG rfl ?_
 refine cC (SE.nil 23 .val) ?_
 refine cC (fC (Δ':=[.obj y 107 (.agg (.pair (.at aw (a0,.map (some m))) (.eq (.slice none 0 0)))),.inv m (bD k a0),.obj b2 25 (.rep ap a0),.inv 0 dZ]++fB 23 (.slice none 0 0,fun _=>undef) []) (List.Perm.trans (List.perm_append_comm (l₁:=([.sl (.slice none 0 0) 23 .val []]:List D))) (List.Perm.refl _))) ?_
 refine au ?_
 refine ag ?_
 show JC _ _ _ _ _
 refine ao ?_
 refine aK (Z:=Value×(Nat→Value)) (α:=Int×List (List Int)) (fun z q=>[(2,.eq (bP b2)),(8,.eq (.int .i64 L.1)),(10,.eq (bP y)),(33,.rep (.slice (.slice (.int .i64))) a1),(34,.eq (.int .i64 (a1.length:Int))),(35,.eq (.int .i64 q.1))]) (fun z q=>[.obj y 107 (.agg (.pair (.at aw (a0,.map (some m))) (.eq z.1))),.inv m (bD k a0),.obj b2 25 (.rep ap a0),.inv 0 dZ]++fB 23 z q.2) (mH k a1) k (.slice none 0 0,fun _=>undef) (0,[]) (fun _=>rfl) h (bq [.obj y 107 (.agg (.pair (.at aw (a0,.map (some m))) (.eq (.slice none 0 0)))),.inv m (bD k a0),.obj b2 25 (.rep ap a0),.inv 0 dZ] (fB 23 (.slice none 0 0,fun _=>undef) []) [0,1,2,3] ⟨rfl,rfl,rfl,rfl,rfl,rfl,trivial⟩ rfl) (fun n z q h=>?_)
 unfold mH at h
 refine ae ?_
 refine ab ?_
 refine aG rfl (bj rfl) ⟨rfl,rfl,trivial⟩ ?_
 refine au ?_
 refine ag ?_
 show JC _ _ _ _ _
 refine ae ?_
 refine bK rfl (fun hb=>?_) (fun hb=>?_)
 ·
  replace h:=cH (oD hb) h
  obtain⟨q1,q2⟩:=q
  obtain⟨l,el,h⟩:=aa h
  obtain⟨l2,el2,h⟩:=aa h
  have hk:bM (q2.length+1):=by
   apply Classical.byContradiction
   intro hn
   rw [if_neg hn] at h
   cases h
  replace h:=cH hk h
  have cc:=nh k l l2 el2
  refine aY ?_
  refine ag ?_
  show JC _ _ _ _ _
  refine ae ?_
  refine ao ?_
  refine ae ?_
  refine ab ?_
  refine aG rfl (aF (t:=.slice (.int .i64)) rfl mA Di el) ⟨rfl,rfl,trivial⟩ ?_
  refine aG rfl (an (t:=.slice (.int .i64)) rfl Di rfl) ⟨rfl,trivial⟩ ?_
  refine dj rfl rfl ?_
  refine au ?_
  refine ag ?_
  show JC _ _ _ _ _
  refine dN (D9 (pre:=[.obj y 107 (.agg (.pair (.at aw (a0,.map (some m))) (.eq z.1))),.inv m (bD k a0),.obj b2 25 (.rep ap a0),.inv 0 dZ])) ?_
  refine jl 1 rfl ?_
  refine dN (SE.sub (Γ':=lS b2 y L.1 q1 l a1) ⟨rfl,rfl,rfl,rfl,rfl,rfl,rfl,trivial⟩) ?_
  generalize hB:lS b2 y L.1 q1 l a1=B
  refine sH (Δ:=[.obj y 107 (.agg (.pair (.at aw (a0,.map (some m))) (.eq z.1))),.sl z.1 23 .val (eA z.2 0 q2)]) (F:=[.inv m (bD k a0),.obj b2 25 (.rep ap a0),.inv 0 dZ]++kM z.2 0 q2) (Z:=Value×Value) (fun p=>B) (fun p=>[.obj y 107 (.agg (.pair (.at aw (a0,.map (some m))) (.eq p.2))),.sl p.2 23 .val (eA z.2 0 q2++[p.1]),.sl p.1 3 (.int .i64) l2]) (fun S w=>?_) (fun p=>?_)
  ·
   subst hB
   refine vV (I:=Value×Value) (Ge:=fun _=>lS b2 y L.1 q1 l a1) (De:=fun p=>[.obj y 107 (.agg (.pair (.at aw (a0,.map (some m))) (.eq p.2))),.sl p.2 23 .val (eA z.2 0 q2++[p.1]),.sl p.1 3 (.int .i64) l2]) (L:=[true,true,true,true,true,true,true,true,true,true,true,true]) qW rfl (fun J hJ hE=>?_) (by kernel_rfl) (fun p=>?_)
   ·
    have s2047:∀(v v2:Value),J 1 [true,true,true,true,true,true,true,true,true,true,true,false] (fy [true,true,true,true,true,true,true,true,true,true,true,false] (mI y z.1 l v v2)++lS b2 y L.1 q1 l a1) [.obj y 107 (.agg (.pair (.at aw (a0,.map (some m))) (.eq z.1))),.sl v2 23 .val (eA z.2 0 q2++[v]),.sl v 3 (.int .i64) l2]:=fun v v2=>by
     subst hJ
     refine JD.step [11] (by kernel_rfl) rfl ?_
     refine bQ.cons rfl ?_ ?_
     ·
      refine bJ 1 rfl ?_
      refine fu fun hv=>?_
      refine bJ 1 rfl ?_
      refine bf rfl rfl (a8 rfl ow hv rfl rfl) ⟨rfl,rfl,trivial⟩ ?_
      exact ax (hE (v,v2)) [0,1,2] ⟨rfl,rfl,rfl,rfl,rfl,rfl,rfl,trivial⟩
     exact trivial
    have s1023:∀(v v2:Value),J 2 [true,true,true,true,true,true,true,true,true,true,false,false] (fy [true,true,true,true,true,true,true,true,true,true,false,false] (mI y z.1 l v v2)++lS b2 y L.1 q1 l a1) [.obj y 107 (.agg (.pair (.at aw (a0,.map (some m))) (.eq z.1))),.sl v2 23 .val (eA z.2 0 q2++[v]),.sl v 3 (.int .i64) l2]:=fun v v2=>by
     subst hJ
     refine JD.step [10] (by kernel_rfl) rfl ?_
     refine bQ.cons rfl ?_ ?_
     ·
      refine aG rfl (av rfl uj) ⟨rfl,trivial⟩ ?_
      exact ax (s2047 v v2) [0,1,2] ⟨rfl,rfl,rfl,rfl,rfl,rfl,rfl,rfl,rfl,rfl,rfl,rfl,rfl,rfl,rfl,rfl,rfl,rfl,trivial⟩
     exact trivial
    have s511:∀(v v2:Value),J 3 [true,true,true,true,true,true,true,true,true,false,false,false] (fy [true,true,true,true,true,true,true,true,true,false,false,false] (mI y z.1 l v v2)++lS b2 y L.1 q1 l a1) [.obj y 107 (.agg (.pair (.at aw (a0,.map (some m))) (.eq z.1))),.sl v2 23 .val (eA z.2 0 q2++[v]),.sl v 3 (.int .i64) l2]:=fun v v2=>by
     subst hJ
     refine JD.step [9] (by kernel_rfl) rfl ?_
     refine bQ.cons rfl ?_ ?_
     ·
      refine aG rfl (be rfl) ⟨rfl,trivial⟩ ?_
      exact ax (s1023 v v2) [0,1,2] ⟨rfl,rfl,rfl,rfl,rfl,rfl,rfl,rfl,rfl,rfl,rfl,rfl,rfl,rfl,rfl,rfl,rfl,trivial⟩
     exact trivial
    have s255:∀(v:Value),J 4 [true,true,true,true,true,true,true,true,false,false,false,false] (fy [true,true,true,true,true,true,true,true,false,false,false,false] (mI y z.1 l v undef)++lS b2 y L.1 q1 l a1) [.obj y 107 (.agg (.pair (.at aw (a0,.map (some m))) (.eq z.1))),.sl z.1 23 .val (eA z.2 0 q2),.sl v 3 (.int .i64) l2]:=fun v=>by
     subst hJ
     refine JD.step [8] (by kernel_rfl) rfl ?_
     refine bQ.cons rfl ?_ ?_
     ·
      refine bJ 1 rfl ?_
      refine c6 rfl rfl rfl (bH rfl rfl ox (by simpa [gQ] using hk)) ⟨rfl,rfl,trivial⟩ fun v2=>?_
      exact ax (s511 v v2) [1,0,2] ⟨rfl,rfl,rfl,rfl,rfl,rfl,rfl,rfl,rfl,rfl,rfl,rfl,rfl,rfl,rfl,rfl,trivial⟩
     exact trivial
    have s510:∀(v v2:Value),J 4 [false,true,true,true,true,true,true,true,true,false,false,false] (fy [false,true,true,true,true,true,true,true,true,false,false,false] (mI y z.1 l v v2)++lS b2 y L.1 q1 l a1) [.obj y 107 (.agg (.pair (.at aw (a0,.map (some m))) (.eq z.1))),.sl v2 23 .val (eA z.2 0 q2++[v]),.sl v 3 (.int .i64) l2]:=fun v v2=>by
     subst hJ
     refine JD.step [0] (by kernel_rfl) rfl ?_
     refine bQ.cons rfl ?_ ?_
     ·
      refine aC rfl rfl ?_
      exact ax (s511 v v2) [0,1,2] ⟨rfl,rfl,rfl,rfl,rfl,rfl,rfl,rfl,rfl,rfl,rfl,rfl,rfl,rfl,rfl,rfl,trivial⟩
     exact trivial
    have s127:∀(v:Value),J 5 [true,true,true,true,true,true,true,false,false,false,false,false] (fy [true,true,true,true,true,true,true,false,false,false,false,false] (mI y z.1 l v undef)++lS b2 y L.1 q1 l a1) [.obj y 107 (.agg (.pair (.at aw (a0,.map (some m))) (.eq z.1))),.sl z.1 23 .val (eA z.2 0 q2),.sl v 3 (.int .i64) l2]:=fun v=>by
     subst hJ
     refine JD.step [7] (by kernel_rfl) rfl ?_
     refine bQ.cons rfl ?_ ?_
     ·
      refine bJ 2 rfl ?_
      refine fu fun hv=>?_
      refine aG rfl (bp (t:=.val) [(.tmp 45,.eq v)] [v] rfl rfl ox (.cons hv (.val hv) .nil) rfl rfl) ⟨rfl,trivial⟩ ?_
      exact ax (s255 v) [1,2,0] ⟨rfl,rfl,rfl,rfl,rfl,rfl,rfl,rfl,rfl,rfl,rfl,rfl,rfl,rfl,rfl,trivial⟩
     exact trivial
    have s239:∀(v:Value),J 5 [true,true,true,true,false,true,true,true,false,false,false,false] (fy [true,true,true,true,false,true,true,true,false,false,false,false] (mI y z.1 l v undef)++lS b2 y L.1 q1 l a1) [.obj y 107 (.agg (.pair (.at aw (a0,.map (some m))) (.eq z.1))),.sl z.1 23 .val (eA z.2 0 q2),.sl v 3 (.int .i64) l2]:=fun v=>by
     subst hJ
     refine JD.step [4] (by kernel_rfl) rfl ?_
     refine bQ.cons rfl ?_ ?_
     ·
      refine bX rfl rfl rfl (aj rfl ow jt rfl) ⟨rfl,trivial⟩ ?_
      exact ax (s255 v) [0,1,2] ⟨rfl,rfl,rfl,rfl,rfl,rfl,rfl,rfl,rfl,rfl,rfl,rfl,rfl,rfl,rfl,trivial⟩
     exact trivial
    have s254:∀(v:Value),J 5 [false,true,true,true,true,true,true,true,false,false,false,false] (fy [false,true,true,true,true,true,true,true,false,false,false,false] (mI y z.1 l v undef)++lS b2 y L.1 q1 l a1) [.obj y 107 (.agg (.pair (.at aw (a0,.map (some m))) (.eq z.1))),.sl z.1 23 .val (eA z.2 0 q2),.sl v 3 (.int .i64) l2]:=fun v=>by
     subst hJ
     refine JD.step [0,8] (by kernel_rfl) rfl ?_
     refine bQ.cons rfl ?_ ?_
     ·
      refine aC rfl rfl ?_
      exact ax (s255 v) [0,1,2] ⟨rfl,rfl,rfl,rfl,rfl,rfl,rfl,rfl,rfl,rfl,rfl,rfl,rfl,rfl,rfl,trivial⟩
     refine bQ.cons rfl ?_ ?_
     ·
      refine bJ 1 rfl ?_
      refine c6 rfl rfl rfl (bH rfl rfl ox (by simpa [gQ] using hk)) ⟨rfl,rfl,trivial⟩ fun v2=>?_
      exact ax (s510 v v2) [1,0,2] ⟨rfl,rfl,rfl,rfl,rfl,rfl,rfl,rfl,rfl,rfl,rfl,rfl,rfl,rfl,rfl,trivial⟩
     exact trivial
    have s63:J 6 [true,true,true,true,true,true,false,false,false,false,false,false] (fy [true,true,true,true,true,true,false,false,false,false,false,false] (mI y z.1 l undef undef)++lS b2 y L.1 q1 l a1) [.obj y 107 (.agg (.pair (.at aw (a0,.map (some m))) (.eq z.1))),.sl z.1 23 .val (eA z.2 0 q2)]:=by
     subst hJ
     refine JD.step [6] (by kernel_rfl) rfl ?_
     refine bQ.cons rfl ?_ ?_
     ·
      refine aD rfl rfl rfl (ar [.tmp 44] rfl rfl qB rfl cc) ⟨rfl,trivial⟩ fun v=>?_
      exact ax (s127 v) [1,2,0] ⟨rfl,rfl,rfl,rfl,rfl,rfl,rfl,rfl,rfl,rfl,rfl,rfl,rfl,rfl,trivial⟩
     exact trivial
    have s111:∀(v:Value),J 6 [true,true,true,true,false,true,true,false,false,false,false,false] (fy [true,true,true,true,false,true,true,false,false,false,false,false] (mI y z.1 l v undef)++lS b2 y L.1 q1 l a1) [.obj y 107 (.agg (.pair (.at aw (a0,.map (some m))) (.eq z.1))),.sl z.1 23 .val (eA z.2 0 q2),.sl v 3 (.int .i64) l2]:=fun v=>by
     subst hJ
     refine JD.step [4,7] (by kernel_rfl) rfl ?_
     refine bQ.cons rfl ?_ ?_
     ·
      refine bX rfl rfl rfl (aj rfl ow jt rfl) ⟨rfl,trivial⟩ ?_
      exact ax (s127 v) [0,1,2] ⟨rfl,rfl,rfl,rfl,rfl,rfl,rfl,rfl,rfl,rfl,rfl,rfl,rfl,rfl,trivial⟩
     refine bQ.cons rfl ?_ ?_
     ·
      refine bJ 2 rfl ?_
      refine fu fun hv=>?_
      refine aG rfl (bp (t:=.val) [(.tmp 45,.eq v)] [v] rfl rfl ox (.cons hv (.val hv) .nil) rfl rfl) ⟨rfl,trivial⟩ ?_
      exact ax (s239 v) [1,2,0] ⟨rfl,rfl,rfl,rfl,rfl,rfl,rfl,rfl,rfl,rfl,rfl,rfl,rfl,rfl,trivial⟩
     exact trivial
    have s126:∀(v:Value),J 6 [false,true,true,true,true,true,true,false,false,false,false,false] (fy [false,true,true,true,true,true,true,false,false,false,false,false] (mI y z.1 l v undef)++lS b2 y L.1 q1 l a1) [.obj y 107 (.agg (.pair (.at aw (a0,.map (some m))) (.eq z.1))),.sl z.1 23 .val (eA z.2 0 q2),.sl v 3 (.int .i64) l2]:=fun v=>by
     subst hJ
     refine JD.step [0,7] (by kernel_rfl) rfl ?_
     refine bQ.cons rfl ?_ ?_
     ·
      refine aC rfl rfl ?_
      exact ax (s127 v) [0,1,2] ⟨rfl,rfl,rfl,rfl,rfl,rfl,rfl,rfl,rfl,rfl,rfl,rfl,rfl,rfl,trivial⟩
     refine bQ.cons rfl ?_ ?_
     ·
      refine bJ 2 rfl ?_
      refine fu fun hv=>?_
      refine aG rfl (bp (t:=.val) [(.tmp 45,.eq v)] [v] rfl rfl ox (.cons hv (.val hv) .nil) rfl rfl) ⟨rfl,trivial⟩ ?_
      exact ax (s254 v) [1,2,0] ⟨rfl,rfl,rfl,rfl,rfl,rfl,rfl,rfl,rfl,rfl,rfl,rfl,rfl,rfl,trivial⟩
     exact trivial
    have s231:∀(v:Value),J 6 [true,true,true,false,false,true,true,true,false,false,false,false] (fy [true,true,true,false,false,true,true,true,false,false,false,false] (mI y z.1 l v undef)++lS b2 y L.1 q1 l a1) [.obj y 107 (.agg (.pair (.at aw (a0,.map (some m))) (.eq z.1))),.sl z.1 23 .val (eA z.2 0 q2),.sl v 3 (.int .i64) l2]:=fun v=>by
     subst hJ
     refine JD.step [3] (by kernel_rfl) rfl ?_
     refine bQ.cons rfl ?_ ?_
     ·
      refine aG rfl (av rfl uj) ⟨rfl,trivial⟩ ?_
      exact ax (s239 v) [0,1,2] ⟨rfl,rfl,rfl,rfl,rfl,rfl,rfl,rfl,rfl,rfl,rfl,rfl,rfl,rfl,trivial⟩
     exact trivial
    have s238:∀(v:Value),J 6 [false,true,true,true,false,true,true,true,false,false,false,false] (fy [false,true,true,true,false,true,true,true,false,false,false,false] (mI y z.1 l v undef)++lS b2 y L.1 q1 l a1) [.obj y 107 (.agg (.pair (.at aw (a0,.map (some m))) (.eq z.1))),.sl z.1 23 .val (eA z.2 0 q2),.sl v 3 (.int .i64) l2]:=fun v=>by
     subst hJ
     refine JD.step [0,4] (by kernel_rfl) rfl ?_
     refine bQ.cons rfl ?_ ?_
     ·
      refine aC rfl rfl ?_
      exact ax (s239 v) [0,1,2] ⟨rfl,rfl,rfl,rfl,rfl,rfl,rfl,rfl,rfl,rfl,rfl,rfl,rfl,rfl,trivial⟩
     refine bQ.cons rfl ?_ ?_
     ·
      refine bX rfl rfl rfl (aj rfl ow jt rfl) ⟨rfl,trivial⟩ ?_
      exact ax (s254 v) [0,1,2] ⟨rfl,rfl,rfl,rfl,rfl,rfl,rfl,rfl,rfl,rfl,rfl,rfl,rfl,rfl,trivial⟩
     exact trivial
    have s31:J 7 [true,true,true,true,true,false,false,false,false,false,false,false] (fy [true,true,true,true,true,false,false,false,false,false,false,false] (mI y z.1 l undef undef)++lS b2 y L.1 q1 l a1) [.obj y 107 (.agg (.pair (.at aw (a0,.map (some m))) (.eq z.1))),.sl z.1 23 .val (eA z.2 0 q2)]:=by
     subst hJ
     refine JD.step [5] (by kernel_rfl) rfl ?_
     refine bQ.cons rfl ?_ ?_
     ·
      refine aC rfl rfl ?_
      exact ax (s63) [0,1] ⟨rfl,rfl,rfl,rfl,rfl,rfl,rfl,rfl,rfl,rfl,rfl,rfl,rfl,trivial⟩
     exact trivial
    have s47:J 7 [true,true,true,true,false,true,false,false,false,false,false,false] (fy [true,true,true,true,false,true,false,false,false,false,false,false] (mI y z.1 l undef undef)++lS b2 y L.1 q1 l a1) [.obj y 107 (.agg (.pair (.at aw (a0,.map (some m))) (.eq z.1))),.sl z.1 23 .val (eA z.2 0 q2)]:=by
     subst hJ
     refine JD.step [4,6] (by kernel_rfl) rfl ?_
     refine bQ.cons rfl ?_ ?_
     ·
      refine bX rfl rfl rfl (aj rfl ow jt rfl) ⟨rfl,trivial⟩ ?_
      exact ax (s63) [0,1] ⟨rfl,rfl,rfl,rfl,rfl,rfl,rfl,rfl,rfl,rfl,rfl,rfl,rfl,trivial⟩
     refine bQ.cons rfl ?_ ?_
     ·
      refine aD rfl rfl rfl (ar [.tmp 44] rfl rfl qB rfl cc) ⟨rfl,trivial⟩ fun v=>?_
      exact ax (s111 v) [1,2,0] ⟨rfl,rfl,rfl,rfl,rfl,rfl,rfl,rfl,rfl,rfl,rfl,rfl,rfl,trivial⟩
     exact trivial
    have s62:J 7 [false,true,true,true,true,true,false,false,false,false,false,false] (fy [false,true,true,true,true,true,false,false,false,false,false,false] (mI y z.1 l undef undef)++lS b2 y L.1 q1 l a1) [.obj y 107 (.agg (.pair (.at aw (a0,.map (some m))) (.eq z.1))),.sl z.1 23 .val (eA z.2 0 q2)]:=by
     subst hJ
     refine JD.step [0,6] (by kernel_rfl) rfl ?_
     refine bQ.cons rfl ?_ ?_
     ·
      refine aC rfl rfl ?_
      exact ax (s63) [0,1] ⟨rfl,rfl,rfl,rfl,rfl,rfl,rfl,rfl,rfl,rfl,rfl,rfl,rfl,trivial⟩
     refine bQ.cons rfl ?_ ?_
     ·
      refine aD rfl rfl rfl (ar [.tmp 44] rfl rfl qB rfl cc) ⟨rfl,trivial⟩ fun v=>?_
      exact ax (s126 v) [1,2,0] ⟨rfl,rfl,rfl,rfl,rfl,rfl,rfl,rfl,rfl,rfl,rfl,rfl,rfl,trivial⟩
     exact trivial
    have s103:∀(v:Value),J 7 [true,true,true,false,false,true,true,false,false,false,false,false] (fy [true,true,true,false,false,true,true,false,false,false,false,false] (mI y z.1 l v undef)++lS b2 y L.1 q1 l a1) [.obj y 107 (.agg (.pair (.at aw (a0,.map (some m))) (.eq z.1))),.sl z.1 23 .val (eA z.2 0 q2),.sl v 3 (.int .i64) l2]:=fun v=>by
     subst hJ
     refine JD.step [3,7] (by kernel_rfl) rfl ?_
     refine bQ.cons rfl ?_ ?_
     ·
      refine aG rfl (av rfl uj) ⟨rfl,trivial⟩ ?_
      exact ax (s111 v) [0,1,2] ⟨rfl,rfl,rfl,rfl,rfl,rfl,rfl,rfl,rfl,rfl,rfl,rfl,rfl,trivial⟩
     refine bQ.cons rfl ?_ ?_
     ·
      refine bJ 2 rfl ?_
      refine fu fun hv=>?_
      refine aG rfl (bp (t:=.val) [(.tmp 45,.eq v)] [v] rfl rfl ox (.cons hv (.val hv) .nil) rfl rfl) ⟨rfl,trivial⟩ ?_
      exact ax (s231 v) [1,2,0] ⟨rfl,rfl,rfl,rfl,rfl,rfl,rfl,rfl,rfl,rfl,rfl,rfl,rfl,trivial⟩
     exact trivial
    have s110:∀(v:Value),J 7 [false,true,true,true,false,true,true,false,false,false,false,false] (fy [false,true,true,true,false,true,true,false,false,false,false,false] (mI y z.1 l v undef)++lS b2 y L.1 q1 l a1) [.obj y 107 (.agg (.pair (.at aw (a0,.map (some m))) (.eq z.1))),.sl z.1 23 .val (eA z.2 0 q2),.sl v 3 (.int .i64) l2]:=fun v=>by
     subst hJ
     refine JD.step [0,4,7] (by kernel_rfl) rfl ?_
     refine bQ.cons rfl ?_ ?_
     ·
      refine aC rfl rfl ?_
      exact ax (s111 v) [0,1,2] ⟨rfl,rfl,rfl,rfl,rfl,rfl,rfl,rfl,rfl,rfl,rfl,rfl,rfl,trivial⟩
     refine bQ.cons rfl ?_ ?_
     ·
      refine bX rfl rfl rfl (aj rfl ow jt rfl) ⟨rfl,trivial⟩ ?_
      exact ax (s126 v) [0,1,2] ⟨rfl,rfl,rfl,rfl,rfl,rfl,rfl,rfl,rfl,rfl,rfl,rfl,rfl,trivial⟩
     refine bQ.cons rfl ?_ ?_
     ·
      refine bJ 2 rfl ?_
      refine fu fun hv=>?_
      refine aG rfl (bp (t:=.val) [(.tmp 45,.eq v)] [v] rfl rfl ox (.cons hv (.val hv) .nil) rfl rfl) ⟨rfl,trivial⟩ ?_
      exact ax (s238 v) [1,2,0] ⟨rfl,rfl,rfl,rfl,rfl,rfl,rfl,rfl,rfl,rfl,rfl,rfl,rfl,trivial⟩
     exact trivial
    have s227:∀(v:Value),J 7 [true,true,false,false,false,true,true,true,false,false,false,false] (fy [true,true,false,false,false,true,true,true,false,false,false,false] (mI y z.1 l v undef)++lS b2 y L.1 q1 l a1) [.obj y 107 (.agg (.pair (.at aw (a0,.map (some m))) (.eq z.1))),.sl z.1 23 .val (eA z.2 0 q2),.sl v 3 (.int .i64) l2]:=fun v=>by
     subst hJ
     refine JD.step [2] (by kernel_rfl) rfl ?_
     refine bQ.cons rfl ?_ ?_
     ·
      refine aG rfl (be rfl) ⟨rfl,trivial⟩ ?_
      exact ax (s231 v) [0,1,2] ⟨rfl,rfl,rfl,rfl,rfl,rfl,rfl,rfl,rfl,rfl,rfl,rfl,rfl,trivial⟩
     exact trivial
    have s230:∀(v:Value),J 7 [false,true,true,false,false,true,true,true,false,false,false,false] (fy [false,true,true,false,false,true,true,true,false,false,false,false] (mI y z.1 l v undef)++lS b2 y L.1 q1 l a1) [.obj y 107 (.agg (.pair (.at aw (a0,.map (some m))) (.eq z.1))),.sl z.1 23 .val (eA z.2 0 q2),.sl v 3 (.int .i64) l2]:=fun v=>by
     subst hJ
     refine JD.step [0,3] (by kernel_rfl) rfl ?_
     refine bQ.cons rfl ?_ ?_
     ·
      refine aC rfl rfl ?_
      exact ax (s231 v) [0,1,2] ⟨rfl,rfl,rfl,rfl,rfl,rfl,rfl,rfl,rfl,rfl,rfl,rfl,rfl,trivial⟩
     refine bQ.cons rfl ?_ ?_
     ·
      refine aG rfl (av rfl uj) ⟨rfl,trivial⟩ ?_
      exact ax (s238 v) [0,1,2] ⟨rfl,rfl,rfl,rfl,rfl,rfl,rfl,rfl,rfl,rfl,rfl,rfl,rfl,trivial⟩
     exact trivial
    have s15:J 8 [true,true,true,true,false,false,false,false,false,false,false,false] (fy [true,true,true,true,false,false,false,false,false,false,false,false] (mI y z.1 l undef undef)++lS b2 y L.1 q1 l a1) [.obj y 107 (.agg (.pair (.at aw (a0,.map (some m))) (.eq z.1))),.sl z.1 23 .val (eA z.2 0 q2)]:=by
     subst hJ
     refine JD.step [4,5] (by kernel_rfl) rfl ?_
     refine bQ.cons rfl ?_ ?_
     ·
      refine bX rfl rfl rfl (aj rfl ow jt rfl) ⟨rfl,trivial⟩ ?_
      exact ax (s31) [0,1] ⟨rfl,rfl,rfl,rfl,rfl,rfl,rfl,rfl,rfl,rfl,rfl,rfl,trivial⟩
     refine bQ.cons rfl ?_ ?_
     ·
      refine aC rfl rfl ?_
      exact ax (s47) [0,1] ⟨rfl,rfl,rfl,rfl,rfl,rfl,rfl,rfl,rfl,rfl,rfl,rfl,trivial⟩
     exact trivial
    have s30:J 8 [false,true,true,true,true,false,false,false,false,false,false,false] (fy [false,true,true,true,true,false,false,false,false,false,false,false] (mI y z.1 l undef undef)++lS b2 y L.1 q1 l a1) [.obj y 107 (.agg (.pair (.at aw (a0,.map (some m))) (.eq z.1))),.sl z.1 23 .val (eA z.2 0 q2)]:=by
     subst hJ
     refine JD.step [0,5] (by kernel_rfl) rfl ?_
     refine bQ.cons rfl ?_ ?_
     ·
      refine aC rfl rfl ?_
      exact ax (s31) [0,1] ⟨rfl,rfl,rfl,rfl,rfl,rfl,rfl,rfl,rfl,rfl,rfl,rfl,trivial⟩
     refine bQ.cons rfl ?_ ?_
     ·
      refine aC rfl rfl ?_
      exact ax (s62) [0,1] ⟨rfl,rfl,rfl,rfl,rfl,rfl,rfl,rfl,rfl,rfl,rfl,rfl,trivial⟩
     exact trivial
    have s39:J 8 [true,true,true,false,false,true,false,false,false,false,false,false] (fy [true,true,true,false,false,true,false,false,false,false,false,false] (mI y z.1 l undef undef)++lS b2 y L.1 q1 l a1) [.obj y 107 (.agg (.pair (.at aw (a0,.map (some m))) (.eq z.1))),.sl z.1 23 .val (eA z.2 0 q2)]:=by
     subst hJ
     refine JD.step [3,6] (by kernel_rfl) rfl ?_
     refine bQ.cons rfl ?_ ?_
     ·
      refine aG rfl (av rfl uj) ⟨rfl,trivial⟩ ?_
      exact ax (s47) [0,1] ⟨rfl,rfl,rfl,rfl,rfl,rfl,rfl,rfl,rfl,rfl,rfl,rfl,trivial⟩
     refine bQ.cons rfl ?_ ?_
     ·
      refine aD rfl rfl rfl (ar [.tmp 44] rfl rfl qB rfl cc) ⟨rfl,trivial⟩ fun v=>?_
      exact ax (s103 v) [1,2,0] ⟨rfl,rfl,rfl,rfl,rfl,rfl,rfl,rfl,rfl,rfl,rfl,rfl,trivial⟩
     exact trivial
    have s46:J 8 [false,true,true,true,false,true,false,false,false,false,false,false] (fy [false,true,true,true,false,true,false,false,false,false,false,false] (mI y z.1 l undef undef)++lS b2 y L.1 q1 l a1) [.obj y 107 (.agg (.pair (.at aw (a0,.map (some m))) (.eq z.1))),.sl z.1 23 .val (eA z.2 0 q2)]:=by
     subst hJ
     refine JD.step [0,4,6] (by kernel_rfl) rfl ?_
     refine bQ.cons rfl ?_ ?_
     ·
      refine aC rfl rfl ?_
      exact ax (s47) [0,1] ⟨rfl,rfl,rfl,rfl,rfl,rfl,rfl,rfl,rfl,rfl,rfl,rfl,trivial⟩
     refine bQ.cons rfl ?_ ?_
     ·
      refine bX rfl rfl rfl (aj rfl ow jt rfl) ⟨rfl,trivial⟩ ?_
      exact ax (s62) [0,1] ⟨rfl,rfl,rfl,rfl,rfl,rfl,rfl,rfl,rfl,rfl,rfl,rfl,trivial⟩
     refine bQ.cons rfl ?_ ?_
     ·
      refine aD rfl rfl rfl (ar [.tmp 44] rfl rfl qB rfl cc) ⟨rfl,trivial⟩ fun v=>?_
      exact ax (s110 v) [1,2,0] ⟨rfl,rfl,rfl,rfl,rfl,rfl,rfl,rfl,rfl,rfl,rfl,rfl,trivial⟩
     exact trivial
    have s99:∀(v:Value),J 8 [true,true,false,false,false,true,true,false,false,false,false,false] (fy [true,true,false,false,false,true,true,false,false,false,false,false] (mI y z.1 l v undef)++lS b2 y L.1 q1 l a1) [.obj y 107 (.agg (.pair (.at aw (a0,.map (some m))) (.eq z.1))),.sl z.1 23 .val (eA z.2 0 q2),.sl v 3 (.int .i64) l2]:=fun v=>by
     subst hJ
     refine JD.step [2,7] (by kernel_rfl) rfl ?_
     refine bQ.cons rfl ?_ ?_
     ·
      refine aG rfl (be rfl) ⟨rfl,trivial⟩ ?_
      exact ax (s103 v) [0,1,2] ⟨rfl,rfl,rfl,rfl,rfl,rfl,rfl,rfl,rfl,rfl,rfl,rfl,trivial⟩
     refine bQ.cons rfl ?_ ?_
     ·
      refine bJ 2 rfl ?_
      refine fu fun hv=>?_
      refine aG rfl (bp (t:=.val) [(.tmp 45,.eq v)] [v] rfl rfl ox (.cons hv (.val hv) .nil) rfl rfl) ⟨rfl,trivial⟩ ?_
      exact ax (s227 v) [1,2,0] ⟨rfl,rfl,rfl,rfl,rfl,rfl,rfl,rfl,rfl,rfl,rfl,rfl,trivial⟩
     exact trivial
    have s102:∀(v:Value),J 8 [false,true,true,false,false,true,true,false,false,false,false,false] (fy [false,true,true,false,false,true,true,false,false,false,false,false] (mI y z.1 l v undef)++lS b2 y L.1 q1 l a1) [.obj y 107 (.agg (.pair (.at aw (a0,.map (some m))) (.eq z.1))),.sl z.1 23 .val (eA z.2 0 q2),.sl v 3 (.int .i64) l2]:=fun v=>by
     subst hJ
     refine JD.step [0,3,7] (by kernel_rfl) rfl ?_
     refine bQ.cons rfl ?_ ?_
     ·
      refine aC rfl rfl ?_
      exact ax (s103 v) [0,1,2] ⟨rfl,rfl,rfl,rfl,rfl,rfl,rfl,rfl,rfl,rfl,rfl,rfl,trivial⟩
     refine bQ.cons rfl ?_ ?_
     ·
      refine aG rfl (av rfl uj) ⟨rfl,trivial⟩ ?_
      exact ax (s110 v) [0,1,2] ⟨rfl,rfl,rfl,rfl,rfl,rfl,rfl,rfl,rfl,rfl,rfl,rfl,trivial⟩
     refine bQ.cons rfl ?_ ?_
     ·
      refine bJ 2 rfl ?_
      refine fu fun hv=>?_
      refine aG rfl (bp (t:=.val) [(.tmp 45,.eq v)] [v] rfl rfl ox (.cons hv (.val hv) .nil) rfl rfl) ⟨rfl,trivial⟩ ?_
      exact ax (s230 v) [1,2,0] ⟨rfl,rfl,rfl,rfl,rfl,rfl,rfl,rfl,rfl,rfl,rfl,rfl,trivial⟩
     exact trivial
    have s225:∀(v:Value),J 8 [true,false,false,false,false,true,true,true,false,false,false,false] (fy [true,false,false,false,false,true,true,true,false,false,false,false] (mI y z.1 l v undef)++lS b2 y L.1 q1 l a1) [.obj y 107 (.agg (.pair (.at aw (a0,.map (some m))) (.eq z.1))),.sl z.1 23 .val (eA z.2 0 q2),.sl v 3 (.int .i64) l2]:=fun v=>by
     subst hJ
     refine JD.step [1] (by kernel_rfl) rfl ?_
     refine bQ.cons rfl ?_ ?_
     ·
      refine aC rfl rfl ?_
      exact ax (s227 v) [0,1,2] ⟨rfl,rfl,rfl,rfl,rfl,rfl,rfl,rfl,rfl,rfl,rfl,rfl,trivial⟩
     exact trivial
    have s226:∀(v:Value),J 8 [false,true,false,false,false,true,true,true,false,false,false,false] (fy [false,true,false,false,false,true,true,true,false,false,false,false] (mI y z.1 l v undef)++lS b2 y L.1 q1 l a1) [.obj y 107 (.agg (.pair (.at aw (a0,.map (some m))) (.eq z.1))),.sl z.1 23 .val (eA z.2 0 q2),.sl v 3 (.int .i64) l2]:=fun v=>by
     subst hJ
     refine JD.step [0,2] (by kernel_rfl) rfl ?_
     refine bQ.cons rfl ?_ ?_
     ·
      refine aC rfl rfl ?_
      exact ax (s227 v) [0,1,2] ⟨rfl,rfl,rfl,rfl,rfl,rfl,rfl,rfl,rfl,rfl,rfl,rfl,trivial⟩
     refine bQ.cons rfl ?_ ?_
     ·
      refine aG rfl (be rfl) ⟨rfl,trivial⟩ ?_
      exact ax (s230 v) [0,1,2] ⟨rfl,rfl,rfl,rfl,rfl,rfl,rfl,rfl,rfl,rfl,rfl,rfl,trivial⟩
     exact trivial
    have s7:J 9 [true,true,true,false,false,false,false,false,false,false,false,false] (fy [true,true,true,false,false,false,false,false,false,false,false,false] (mI y z.1 l undef undef)++lS b2 y L.1 q1 l a1) [.obj y 107 (.agg (.pair (.at aw (a0,.map (some m))) (.eq z.1))),.sl z.1 23 .val (eA z.2 0 q2)]:=by
     subst hJ
     refine JD.step [3,5] (by kernel_rfl) rfl ?_
     refine bQ.cons rfl ?_ ?_
     ·
      refine aG rfl (av rfl uj) ⟨rfl,trivial⟩ ?_
      exact ax (s15) [0,1] ⟨rfl,rfl,rfl,rfl,rfl,rfl,rfl,rfl,rfl,rfl,rfl,trivial⟩
     refine bQ.cons rfl ?_ ?_
     ·
      refine aC rfl rfl ?_
      exact ax (s39) [0,1] ⟨rfl,rfl,rfl,rfl,rfl,rfl,rfl,rfl,rfl,rfl,rfl,trivial⟩
     exact trivial
    have s14:J 9 [false,true,true,true,false,false,false,false,false,false,false,false] (fy [false,true,true,true,false,false,false,false,false,false,false,false] (mI y z.1 l undef undef)++lS b2 y L.1 q1 l a1) [.obj y 107 (.agg (.pair (.at aw (a0,.map (some m))) (.eq z.1))),.sl z.1 23 .val (eA z.2 0 q2)]:=by
     subst hJ
     refine JD.step [0,4,5] (by kernel_rfl) rfl ?_
     refine bQ.cons rfl ?_ ?_
     ·
      refine aC rfl rfl ?_
      exact ax (s15) [0,1] ⟨rfl,rfl,rfl,rfl,rfl,rfl,rfl,rfl,rfl,rfl,rfl,trivial⟩
     refine bQ.cons rfl ?_ ?_
     ·
      refine bX rfl rfl rfl (aj rfl ow jt rfl) ⟨rfl,trivial⟩ ?_
      exact ax (s30) [0,1] ⟨rfl,rfl,rfl,rfl,rfl,rfl,rfl,rfl,rfl,rfl,rfl,trivial⟩
     refine bQ.cons rfl ?_ ?_
     ·
      refine aC rfl rfl ?_
      exact ax (s46) [0,1] ⟨rfl,rfl,rfl,rfl,rfl,rfl,rfl,rfl,rfl,rfl,rfl,trivial⟩
     exact trivial
    have s35:J 9 [true,true,false,false,false,true,false,false,false,false,false,false] (fy [true,true,false,false,false,true,false,false,false,false,false,false] (mI y z.1 l undef undef)++lS b2 y L.1 q1 l a1) [.obj y 107 (.agg (.pair (.at aw (a0,.map (some m))) (.eq z.1))),.sl z.1 23 .val (eA z.2 0 q2)]:=by
     subst hJ
     refine JD.step [2,6] (by kernel_rfl) rfl ?_
     refine bQ.cons rfl ?_ ?_
     ·
      refine aG rfl (be rfl) ⟨rfl,trivial⟩ ?_
      exact ax (s39) [0,1] ⟨rfl,rfl,rfl,rfl,rfl,rfl,rfl,rfl,rfl,rfl,rfl,trivial⟩
     refine bQ.cons rfl ?_ ?_
     ·
      refine aD rfl rfl rfl (ar [.tmp 44] rfl rfl qB rfl cc) ⟨rfl,trivial⟩ fun v=>?_
      exact ax (s99 v) [1,2,0] ⟨rfl,rfl,rfl,rfl,rfl,rfl,rfl,rfl,rfl,rfl,rfl,trivial⟩
     exact trivial
    have s38:J 9 [false,true,true,false,false,true,false,false,false,false,false,false] (fy [false,true,true,false,false,true,false,false,false,false,false,false] (mI y z.1 l undef undef)++lS b2 y L.1 q1 l a1) [.obj y 107 (.agg (.pair (.at aw (a0,.map (some m))) (.eq z.1))),.sl z.1 23 .val (eA z.2 0 q2)]:=by
     subst hJ
     refine JD.step [0,3,6] (by kernel_rfl) rfl ?_
     refine bQ.cons rfl ?_ ?_
     ·
      refine aC rfl rfl ?_
      exact ax (s39) [0,1] ⟨rfl,rfl,rfl,rfl,rfl,rfl,rfl,rfl,rfl,rfl,rfl,trivial⟩
     refine bQ.cons rfl ?_ ?_
     ·
      refine aG rfl (av rfl uj) ⟨rfl,trivial⟩ ?_
      exact ax (s46) [0,1] ⟨rfl,rfl,rfl,rfl,rfl,rfl,rfl,rfl,rfl,rfl,rfl,trivial⟩
     refine bQ.cons rfl ?_ ?_
     ·
      refine aD rfl rfl rfl (ar [.tmp 44] rfl rfl qB rfl cc) ⟨rfl,trivial⟩ fun v=>?_
      exact ax (s102 v) [1,2,0] ⟨rfl,rfl,rfl,rfl,rfl,rfl,rfl,rfl,rfl,rfl,rfl,trivial⟩
     exact trivial
    have s97:∀(v:Value),J 9 [true,false,false,false,false,true,true,false,false,false,false,false] (fy [true,false,false,false,false,true,true,false,false,false,false,false] (mI y z.1 l v undef)++lS b2 y L.1 q1 l a1) [.obj y 107 (.agg (.pair (.at aw (a0,.map (some m))) (.eq z.1))),.sl z.1 23 .val (eA z.2 0 q2),.sl v 3 (.int .i64) l2]:=fun v=>by
     subst hJ
     refine JD.step [1,7] (by kernel_rfl) rfl ?_
     refine bQ.cons rfl ?_ ?_
     ·
      refine aC rfl rfl ?_
      exact ax (s99 v) [0,1,2] ⟨rfl,rfl,rfl,rfl,rfl,rfl,rfl,rfl,rfl,rfl,rfl,trivial⟩
     refine bQ.cons rfl ?_ ?_
     ·
      refine bJ 2 rfl ?_
      refine fu fun hv=>?_
      refine aG rfl (bp (t:=.val) [(.tmp 45,.eq v)] [v] rfl rfl ox (.cons hv (.val hv) .nil) rfl rfl) ⟨rfl,trivial⟩ ?_
      exact ax (s225 v) [1,2,0] ⟨rfl,rfl,rfl,rfl,rfl,rfl,rfl,rfl,rfl,rfl,rfl,trivial⟩
     exact trivial
    have s98:∀(v:Value),J 9 [false,true,false,false,false,true,true,false,false,false,false,false] (fy [false,true,false,false,false,true,true,false,false,false,false,false] (mI y z.1 l v undef)++lS b2 y L.1 q1 l a1) [.obj y 107 (.agg (.pair (.at aw (a0,.map (some m))) (.eq z.1))),.sl z.1 23 .val (eA z.2 0 q2),.sl v 3 (.int .i64) l2]:=fun v=>by
     subst hJ
     refine JD.step [0,2,7] (by kernel_rfl) rfl ?_
     refine bQ.cons rfl ?_ ?_
     ·
      refine aC rfl rfl ?_
      exact ax (s99 v) [0,1,2] ⟨rfl,rfl,rfl,rfl,rfl,rfl,rfl,rfl,rfl,rfl,rfl,trivial⟩
     refine bQ.cons rfl ?_ ?_
     ·
      refine aG rfl (be rfl) ⟨rfl,trivial⟩ ?_
      exact ax (s102 v) [0,1,2] ⟨rfl,rfl,rfl,rfl,rfl,rfl,rfl,rfl,rfl,rfl,rfl,trivial⟩
     refine bQ.cons rfl ?_ ?_
     ·
      refine bJ 2 rfl ?_
      refine fu fun hv=>?_
      refine aG rfl (bp (t:=.val) [(.tmp 45,.eq v)] [v] rfl rfl ox (.cons hv (.val hv) .nil) rfl rfl) ⟨rfl,trivial⟩ ?_
      exact ax (s226 v) [1,2,0] ⟨rfl,rfl,rfl,rfl,rfl,rfl,rfl,rfl,rfl,rfl,rfl,trivial⟩
     exact trivial
    have s224:∀(v:Value),J 9 [false,false,false,false,false,true,true,true,false,false,false,false] (fy [false,false,false,false,false,true,true,true,false,false,false,false] (mI y z.1 l v undef)++lS b2 y L.1 q1 l a1) [.obj y 107 (.agg (.pair (.at aw (a0,.map (some m))) (.eq z.1))),.sl z.1 23 .val (eA z.2 0 q2),.sl v 3 (.int .i64) l2]:=fun v=>by
     subst hJ
     refine JD.step [0,1] (by kernel_rfl) rfl ?_
     refine bQ.cons rfl ?_ ?_
     ·
      refine aC rfl rfl ?_
      exact ax (s225 v) [0,1,2] ⟨rfl,rfl,rfl,rfl,rfl,rfl,rfl,rfl,rfl,rfl,rfl,trivial⟩
     refine bQ.cons rfl ?_ ?_
     ·
      refine aC rfl rfl ?_
      exact ax (s226 v) [0,1,2] ⟨rfl,rfl,rfl,rfl,rfl,rfl,rfl,rfl,rfl,rfl,rfl,trivial⟩
     exact trivial
    have s3:J 10 [true,true,false,false,false,false,false,false,false,false,false,false] (fy [true,true,false,false,false,false,false,false,false,false,false,false] (mI y z.1 l undef undef)++lS b2 y L.1 q1 l a1) [.obj y 107 (.agg (.pair (.at aw (a0,.map (some m))) (.eq z.1))),.sl z.1 23 .val (eA z.2 0 q2)]:=by
     subst hJ
     refine JD.step [2,5] (by kernel_rfl) rfl ?_
     refine bQ.cons rfl ?_ ?_
     ·
      refine aG rfl (be rfl) ⟨rfl,trivial⟩ ?_
      exact ax (s7) [0,1] ⟨rfl,rfl,rfl,rfl,rfl,rfl,rfl,rfl,rfl,rfl,trivial⟩
     refine bQ.cons rfl ?_ ?_
     ·
      refine aC rfl rfl ?_
      exact ax (s35) [0,1] ⟨rfl,rfl,rfl,rfl,rfl,rfl,rfl,rfl,rfl,rfl,trivial⟩
     exact trivial
    have s6:J 10 [false,true,true,false,false,false,false,false,false,false,false,false] (fy [false,true,true,false,false,false,false,false,false,false,false,false] (mI y z.1 l undef undef)++lS b2 y L.1 q1 l a1) [.obj y 107 (.agg (.pair (.at aw (a0,.map (some m))) (.eq z.1))),.sl z.1 23 .val (eA z.2 0 q2)]:=by
     subst hJ
     refine JD.step [0,3,5] (by kernel_rfl) rfl ?_
     refine bQ.cons rfl ?_ ?_
     ·
      refine aC rfl rfl ?_
      exact ax (s7) [0,1] ⟨rfl,rfl,rfl,rfl,rfl,rfl,rfl,rfl,rfl,rfl,trivial⟩
     refine bQ.cons rfl ?_ ?_
     ·
      refine aG rfl (av rfl uj) ⟨rfl,trivial⟩ ?_
      exact ax (s14) [0,1] ⟨rfl,rfl,rfl,rfl,rfl,rfl,rfl,rfl,rfl,rfl,trivial⟩
     refine bQ.cons rfl ?_ ?_
     ·
      refine aC rfl rfl ?_
      exact ax (s38) [0,1] ⟨rfl,rfl,rfl,rfl,rfl,rfl,rfl,rfl,rfl,rfl,trivial⟩
     exact trivial
    have s33:J 10 [true,false,false,false,false,true,false,false,false,false,false,false] (fy [true,false,false,false,false,true,false,false,false,false,false,false] (mI y z.1 l undef undef)++lS b2 y L.1 q1 l a1) [.obj y 107 (.agg (.pair (.at aw (a0,.map (some m))) (.eq z.1))),.sl z.1 23 .val (eA z.2 0 q2)]:=by
     subst hJ
     refine JD.step [1,6] (by kernel_rfl) rfl ?_
     refine bQ.cons rfl ?_ ?_
     ·
      refine aC rfl rfl ?_
      exact ax (s35) [0,1] ⟨rfl,rfl,rfl,rfl,rfl,rfl,rfl,rfl,rfl,rfl,trivial⟩
     refine bQ.cons rfl ?_ ?_
     ·
      refine aD rfl rfl rfl (ar [.tmp 44] rfl rfl qB rfl cc) ⟨rfl,trivial⟩ fun v=>?_
      exact ax (s97 v) [1,2,0] ⟨rfl,rfl,rfl,rfl,rfl,rfl,rfl,rfl,rfl,rfl,trivial⟩
     exact trivial
    have s34:J 10 [false,true,false,false,false,true,false,false,false,false,false,false] (fy [false,true,false,false,false,true,false,false,false,false,false,false] (mI y z.1 l undef undef)++lS b2 y L.1 q1 l a1) [.obj y 107 (.agg (.pair (.at aw (a0,.map (some m))) (.eq z.1))),.sl z.1 23 .val (eA z.2 0 q2)]:=by
     subst hJ
     refine JD.step [0,2,6] (by kernel_rfl) rfl ?_
     refine bQ.cons rfl ?_ ?_
     ·
      refine aC rfl rfl ?_
      exact ax (s35) [0,1] ⟨rfl,rfl,rfl,rfl,rfl,rfl,rfl,rfl,rfl,rfl,trivial⟩
     refine bQ.cons rfl ?_ ?_
     ·
      refine aG rfl (be rfl) ⟨rfl,trivial⟩ ?_
      exact ax (s38) [0,1] ⟨rfl,rfl,rfl,rfl,rfl,rfl,rfl,rfl,rfl,rfl,trivial⟩
     refine bQ.cons rfl ?_ ?_
     ·
      refine aD rfl rfl rfl (ar [.tmp 44] rfl rfl qB rfl cc) ⟨rfl,trivial⟩ fun v=>?_
      exact ax (s98 v) [1,2,0] ⟨rfl,rfl,rfl,rfl,rfl,rfl,rfl,rfl,rfl,rfl,trivial⟩
     exact trivial
    have s96:∀(v:Value),J 10 [false,false,false,false,false,true,true,false,false,false,false,false] (fy [false,false,false,false,false,true,true,false,false,false,false,false] (mI y z.1 l v undef)++lS b2 y L.1 q1 l a1) [.obj y 107 (.agg (.pair (.at aw (a0,.map (some m))) (.eq z.1))),.sl z.1 23 .val (eA z.2 0 q2),.sl v 3 (.int .i64) l2]:=fun v=>by
     subst hJ
     refine JD.step [0,1,7] (by kernel_rfl) rfl ?_
     refine bQ.cons rfl ?_ ?_
     ·
      refine aC rfl rfl ?_
      exact ax (s97 v) [0,1,2] ⟨rfl,rfl,rfl,rfl,rfl,rfl,rfl,rfl,rfl,rfl,trivial⟩
     refine bQ.cons rfl ?_ ?_
     ·
      refine aC rfl rfl ?_
      exact ax (s98 v) [0,1,2] ⟨rfl,rfl,rfl,rfl,rfl,rfl,rfl,rfl,rfl,rfl,trivial⟩
     refine bQ.cons rfl ?_ ?_
     ·
      refine bJ 2 rfl ?_
      refine fu fun hv=>?_
      refine aG rfl (bp (t:=.val) [(.tmp 45,.eq v)] [v] rfl rfl ox (.cons hv (.val hv) .nil) rfl rfl) ⟨rfl,trivial⟩ ?_
      exact ax (s224 v) [1,2,0] ⟨rfl,rfl,rfl,rfl,rfl,rfl,rfl,rfl,rfl,rfl,trivial⟩
     exact trivial
    have s1:J 11 [true,false,false,false,false,false,false,false,false,false,false,false] (fy [true,false,false,false,false,false,false,false,false,false,false,false] (mI y z.1 l undef undef)++lS b2 y L.1 q1 l a1) [.obj y 107 (.agg (.pair (.at aw (a0,.map (some m))) (.eq z.1))),.sl z.1 23 .val (eA z.2 0 q2)]:=by
     subst hJ
     refine JD.step [1,5] (by kernel_rfl) rfl ?_
     refine bQ.cons rfl ?_ ?_
     ·
      refine aC rfl rfl ?_
      exact ax (s3) [0,1] ⟨rfl,rfl,rfl,rfl,rfl,rfl,rfl,rfl,rfl,trivial⟩
     refine bQ.cons rfl ?_ ?_
     ·
      refine aC rfl rfl ?_
      exact ax (s33) [0,1] ⟨rfl,rfl,rfl,rfl,rfl,rfl,rfl,rfl,rfl,trivial⟩
     exact trivial
    have s2:J 11 [false,true,false,false,false,false,false,false,false,false,false,false] (fy [false,true,false,false,false,false,false,false,false,false,false,false] (mI y z.1 l undef undef)++lS b2 y L.1 q1 l a1) [.obj y 107 (.agg (.pair (.at aw (a0,.map (some m))) (.eq z.1))),.sl z.1 23 .val (eA z.2 0 q2)]:=by
     subst hJ
     refine JD.step [0,2,5] (by kernel_rfl) rfl ?_
     refine bQ.cons rfl ?_ ?_
     ·
      refine aC rfl rfl ?_
      exact ax (s3) [0,1] ⟨rfl,rfl,rfl,rfl,rfl,rfl,rfl,rfl,rfl,trivial⟩
     refine bQ.cons rfl ?_ ?_
     ·
      refine aG rfl (be rfl) ⟨rfl,trivial⟩ ?_
      exact ax (s6) [0,1] ⟨rfl,rfl,rfl,rfl,rfl,rfl,rfl,rfl,rfl,trivial⟩
     refine bQ.cons rfl ?_ ?_
     ·
      refine aC rfl rfl ?_
      exact ax (s34) [0,1] ⟨rfl,rfl,rfl,rfl,rfl,rfl,rfl,rfl,rfl,trivial⟩
     exact trivial
    have s32:J 11 [false,false,false,false,false,true,false,false,false,false,false,false] (fy [false,false,false,false,false,true,false,false,false,false,false,false] (mI y z.1 l undef undef)++lS b2 y L.1 q1 l a1) [.obj y 107 (.agg (.pair (.at aw (a0,.map (some m))) (.eq z.1))),.sl z.1 23 .val (eA z.2 0 q2)]:=by
     subst hJ
     refine JD.step [0,1,6] (by kernel_rfl) rfl ?_
     refine bQ.cons rfl ?_ ?_
     ·
      refine aC rfl rfl ?_
      exact ax (s33) [0,1] ⟨rfl,rfl,rfl,rfl,rfl,rfl,rfl,rfl,rfl,trivial⟩
     refine bQ.cons rfl ?_ ?_
     ·
      refine aC rfl rfl ?_
      exact ax (s34) [0,1] ⟨rfl,rfl,rfl,rfl,rfl,rfl,rfl,rfl,rfl,trivial⟩
     refine bQ.cons rfl ?_ ?_
     ·
      refine aD rfl rfl rfl (ar [.tmp 44] rfl rfl qB rfl cc) ⟨rfl,trivial⟩ fun v=>?_
      exact ax (s96 v) [1,2,0] ⟨rfl,rfl,rfl,rfl,rfl,rfl,rfl,rfl,rfl,trivial⟩
     exact trivial
    have s0:J 12 [false,false,false,false,false,false,false,false,false,false,false,false] (fy [false,false,false,false,false,false,false,false,false,false,false,false] (mI y z.1 l undef undef)++lS b2 y L.1 q1 l a1) [.obj y 107 (.agg (.pair (.at aw (a0,.map (some m))) (.eq z.1))),.sl z.1 23 .val (eA z.2 0 q2)]:=by
     subst hJ
     refine JD.step [0,1,5] (by kernel_rfl) rfl ?_
     refine bQ.cons rfl ?_ ?_
     ·
      refine aC rfl rfl ?_
      exact ax (s1) [0,1] ⟨rfl,rfl,rfl,rfl,rfl,rfl,rfl,rfl,trivial⟩
     refine bQ.cons rfl ?_ ?_
     ·
      refine aC rfl rfl ?_
      exact ax (s2) [0,1] ⟨rfl,rfl,rfl,rfl,rfl,rfl,rfl,rfl,trivial⟩
     refine bQ.cons rfl ?_ ?_
     ·
      refine aC rfl rfl ?_
      exact ax (s32) [0,1] ⟨rfl,rfl,rfl,rfl,rfl,rfl,rfl,rfl,trivial⟩
     exact trivial
    exact s0
   ·
    exact fun a w st=>⟨rfl,p,st⟩
  ·
   subst hB
   refine aN ?_
   refine ag ?_
   refine bv (fC (Δ':=.sl p.1 3 (.int .i64) l2:: .sl p.2 23 .val (eA z.2 0 q2++[p.1])::([.obj y 107 (.agg (.pair (.at aw (a0,.map (some m))) (.eq p.2))),.inv m (bD k a0),.obj b2 25 (.rep ap a0),.inv 0 dZ]++kM z.2 0 q2)) ?_) ?_
   ·
    exact List.Perm.trans (List.Perm.swap _ _ _) (List.Perm.trans (List.Perm.cons _ (List.Perm.swap _ _ _)) (List.Perm.swap _ _ _))
   refine bv (xy (pre:=[.obj y 107 (.agg (.pair (.at aw (a0,.map (some m))) (.eq p.2))),.inv m (bD k a0),.obj b2 25 (.rep ap a0),.inv 0 dZ])) ?_
   show JC _ _ _ _ _
   refine ab ?_
   obtain⟨w3,ew,h⟩:=aa h
   refine aG rfl (bg rfl ew) ⟨rfl,rfl,trivial⟩ ?_
   refine aC rfl rfl ?_
   refine au ?_
   refine ag ?_
   exact iW ((p.2,ni z.2 q2.length p.1),(w3,q2++[l2])) h (bq [.obj y 107 (.agg (.pair (.at aw (a0,.map (some m))) (.eq p.2))),.inv m (bD k a0),.obj b2 25 (.rep ap a0),.inv 0 dZ] (fB 23 (p.2,ni z.2 q2.length p.1) (q2++[l2])) [0,1,2,3] ⟨rfl,rfl,rfl,rfl,rfl,rfl,trivial⟩ rfl)
 replace h:=bS (nI hb) h
 refine dF ?_
 refine aU ?_
 refine aU ?_
 refine bY ?_
 refine ag ?_
 show JC _ _ _ _ _
 replace h:((jC k a0 k (0,[],q.2)).bind fun p=>(lP k a0 p.1 p.2).bind fun b=>if(!b.2.2.1 || decide (L.1≤b.2.1))=true then some (0,0,0,11) else some (b.1.1,b.1.2,b.2.1,0)).bind some=some r:=h
 rw [Option.bind_assoc] at h
 generalize q.2=ls at h⊢
 refine ae ?_
 refine ab ?_
 refine dE rfl ?_
 refine cC (SE.nil 110 fk) ?_
 refine au ?_
 refine ag ?_
 show JC _ _ _ _ _
 refine dN (bq (Γ':=[(2,.eq (bP b2)),(8,.eq (.int .i64 L.1)),(10,.eq (bP y)),(13,.eq (.slice none 0 0))]) (pre':=[.inv m (bD k a0),.obj b2 25 (.rep ap a0),.inv 0 dZ,.sl (.slice none 0 0) 110 fk [],.obj y 107 (.agg (.pair (.at aw (a0,.map (some m))) (.eq z.1)))]) [.sl (.slice none 0 0) 110 fk [],.obj y 107 (.agg (.pair (.at aw (a0,.map (some m))) (.eq z.1))),.inv m (bD k a0),.obj b2 25 (.rep ap a0),.inv 0 dZ] (fB 23 z ls) [2,3,4,0,1] ⟨rfl,rfl,rfl,rfl,trivial⟩ rfl) ?_
 refine ae ?_
 refine ae ?_
 refine ab ?_
 refine aG rfl (av rfl L6) ⟨rfl,trivial⟩ ?_
 refine bJ 1 rfl ?_
 refine bX rfl rfl rfl (aj rfl LM jt rfl) ⟨rfl,trivial⟩ ?_
 refine aG rfl (jE rfl rfl mB) ⟨rfl,trivial⟩ ?_
 refine eG rfl ?_
 refine au ?_
 refine ag ?_
 show JC _ _ _ _ _
 refine ao ?_
 refine aK (Z:=Value) (α:=Int×List (Int×Int)×List (List Int)) (fun c q=>[(2,.eq (bP b2)),(8,.eq (.int .i64 L.1)),(10,.eq (bP y)),(13,.eq c),(53,.eq (.int .i64 (a0.2.1.length:Int))),(54,.eq (.int .i64 q.1))]) (fun c q=>[.obj b2 25 (.rep ap a0),.inv m (bD k a0),.inv 0 dZ,.sl c 110 fk q.2.1,.obj y 107 (.agg (.pair (.at aw (a0,.map (some m))) (.eq z.1)))]++fB 23 z q.2.2) (jC k a0) k (.slice none 0 0) (0,[],ls) (fun _=>rfl) h (bq [.obj b2 25 (.rep ap a0),.inv m (bD k a0),.inv 0 dZ,.sl (.slice none 0 0) 110 fk [],.obj y 107 (.agg (.pair (.at aw (a0,.map (some m))) (.eq z.1)))] (fB 23 z ls) [0,1,2,3,4] ⟨rfl,rfl,rfl,rfl,rfl,rfl,trivial⟩ rfl) (fun n c q h=>?_)
 obtain⟨q1,qp,ql⟩:=q
 unfold jC at h
 refine ae ?_
 refine ab ?_
 refine aG rfl (bj rfl) ⟨rfl,rfl,trivial⟩ ?_
 refine au ?_
 refine ag ?_
 show JC _ _ _ _ _
 refine ae ?_
 refine bK rfl (fun hb=>?_) (fun hb=>?_)
 ·
  replace h:=cH (oD hb) h
  obtain⟨w,ew,h⟩:=aa h
  rw [Option.bind_assoc] at h
  refine aY ?_
  refine ag ?_
  show JC _ _ _ _ _
  refine ae ?_
  refine ao ?_
  refine ae ?_
  refine ab ?_
  refine aC rfl rfl ?_
  refine dj rfl rfl ?_
  refine au ?_
  refine ag ?_
  show JC _ _ _ _ _
  refine ae ?_
  refine ab ?_
  refine aC rfl rfl ?_
  refine aG rfl (bg rfl ew) ⟨rfl,rfl,trivial⟩ ?_
  refine dj rfl rfl ?_
  refine au ?_
  refine ag ?_
  show JC _ _ _ _ _
  refine ao ?_
  refine aK (Z:=Value) (α:=Int×List (Int×Int)×List (List Int)) (fun c q=>[(2,.eq (bP b2)),(8,.eq (.int .i64 L.1)),(10,.eq (bP y)),(13,.eq c),(14,.eq (.int .i64 q1)),(15,.eq (.int .i64 q.1)),(53,.eq (.int .i64 (a0.2.1.length:Int))),(54,.eq (.int .i64 q1))]) (fun c q=>[.obj b2 25 (.rep ap a0),.inv m (bD k a0),.inv 0 dZ,.sl c 110 fk q.2.1,.obj y 107 (.agg (.pair (.at aw (a0,.map (some m))) (.eq z.1)))]++fB 23 z q.2.2) (kP k a0 q1) k c (w,qp,ql) (fun _=>rfl) h (bq [.obj b2 25 (.rep ap a0),.inv m (bD k a0),.inv 0 dZ,.sl c 110 fk qp,.obj y 107 (.agg (.pair (.at aw (a0,.map (some m))) (.eq z.1)))] (fB 23 z ql) [0,1,2,3,4] ⟨rfl,rfl,rfl,rfl,rfl,rfl,rfl,rfl,trivial⟩ rfl) (fun n3 c q h=>?_)
  obtain⟨j,rp,rl⟩:=q
  unfold kP at h
  refine ae ?_
  refine ae ?_
  refine ab ?_
  refine aC rfl rfl ?_
  refine aG rfl (av rfl L6) ⟨rfl,trivial⟩ ?_
  refine bX rfl rfl rfl (aj rfl LM jt rfl) ⟨rfl,trivial⟩ ?_
  refine aG rfl (jE rfl rfl mB) ⟨rfl,trivial⟩ ?_
  refine aG rfl (bj rfl) ⟨rfl,rfl,trivial⟩ ?_
  refine au ?_
  refine ag ?_
  show JC _ _ _ _ _
  refine bK rfl (fun hb=>?_) (fun hb=>?_)
  ·
   replace h:=cH (oD hb) h
   obtain⟨r1,Q,h⟩:=aa h
   have cv:=sQ k a0 (q1,j) rl r1 y m z Q
   refine aY ?_
   refine ag ?_
   show JC _ _ _ _ _
   refine ae ?_
   refine ao ?_
   refine ae ?_
   refine ab ?_
   refine aC rfl rfl ?_
   refine aC rfl rfl ?_
   refine aG rfl (cI [(0,.tmp 66,_),(1,.tmp 67,_)] rfl MS sM Ll (ia ⟨rfl,rfl,trivial⟩) rfl) ⟨rfl,rfl,trivial⟩ ?_
   refine aD rfl rfl rfl (a9 rfl sM vJ) trivial fun e=>?_
   refine bf rfl rfl (a8 rfl gW trivial rfl rfl) ⟨rfl,rfl,trivial⟩ ?_
   refine cC (og (a':=.rep fk (q1,j)) QY) ?_
   refine au ?_
   refine ag ?_
   show JC _ _ _ _ _
   refine ae ?_
   refine ab ?_
   refine aC rfl rfl ?_
   refine bX rfl rfl rfl (aj rfl gW (yW) rfl) ⟨rfl,trivial⟩ ?_
   refine cC (fC (Δ':=([.obj y 107 (.agg (.pair (.at aw (a0,.map (some m))) (.eq z.1)))]++fB 23 z rl)++[.obj e 110 (.rep fk (q1,j)),.obj b2 25 (.rep ap a0),.inv m (bD k a0),.inv 0 dZ,.sl c 110 fk rp]) (List.perm_append_comm (l₁:=([.obj e 110 (.rep fk (q1,j)),.obj b2 25 (.rep ap a0),.inv m (bD k a0),.inv 0 dZ,.sl c 110 fk rp]:List D)))) ?_
   refine bT (Δ:=_++_) (F:=[_,_,_,_,_]) (fun _ _ _=>ay rfl _) rfl rfl (ar [.tmp 69,.tmp 70] rfl rfl P7 rfl cv) ⟨rfl,rfl,trivial⟩ fun _=>?_
   refine cC (fC (Δ':=[.obj e 110 (.rep fk (q1,j)),.obj b2 25 (.rep ap a0),.inv m (bD k a0),.inv 0 dZ,.sl c 110 fk rp]++([.obj y 107 (.agg (.pair (.at aw (a0,.map (some m))) (.eq z.1)))]++fB 23 z r1.2)) List.perm_append_comm) ?_
   refine au ?_
   refine ag ?_
   show JC _ _ _ _ _
   refine bK rfl (fun hb=>?_) (fun hb=>?_)
   ·
    replace h:=cH (Ew hb) h
    have hk:bM (rp.length+1):=by
     apply Classical.byContradiction
     intro hn
     rw [if_neg hn] at h
     cases h
    replace h:=cH hk h
    refine ab ?_
    refine aC rfl rfl ?_
    refine bX rfl rfl rfl (aj rfl gW (yW) rfl) ⟨rfl,trivial⟩ ?_
    refine aG rfl (bp (t:=fk) [(.tmp 73,_)] [(q1,j)] rfl rfl GE (.cons rfl .rep .nil) rfl rfl) ⟨rfl,trivial⟩ ?_
    refine bJ 4 rfl ?_
    refine c6 rfl rfl rfl (bH rfl rfl GE (by simpa using hk)) ⟨rfl,rfl,trivial⟩ fun v'=>?_
    refine dj rfl rfl ?_
    refine au ?_
    refine aN ?_
    refine ag ?_
    show JC _ _ _ _ _
    refine ab ?_
    refine aC rfl rfl ?_
    obtain⟨w2,ew2,h⟩:=aa h
    refine aG rfl (bg rfl ew2) ⟨rfl,rfl,trivial⟩ ?_
    refine dj rfl rfl ?_
    refine au ?_
    refine ag ?_
    exact iW (v',(w2,rp++[(q1,j)],r1.2)) h (bq [.sl v' 110 fk (rp++[(q1,j)]),.obj e 110 (.rep fk (q1,j)),.obj b2 25 (.rep ap a0),.inv m (bD k a0),.inv 0 dZ,.obj y 107 (.agg (.pair (.at aw (a0,.map (some m))) (.eq z.1)))] (fB 23 z r1.2) [2,3,4,0,5] ⟨rfl,rfl,rfl,rfl,rfl,rfl,rfl,rfl,trivial⟩ rfl)
   ·
    replace h:=bS (Ey hb) h
    refine aY ?_
    refine aN ?_
    refine ag ?_
    show JC _ _ _ _ _
    refine ab ?_
    refine aC rfl rfl ?_
    obtain⟨w2,ew2,h⟩:=aa h
    refine aG rfl (bg rfl ew2) ⟨rfl,rfl,trivial⟩ ?_
    refine dj rfl rfl ?_
    refine au ?_
    refine ag ?_
    exact iW (c,(w2,rp,r1.2)) h (bq [.obj e 110 (.rep fk (q1,j)),.obj b2 25 (.rep ap a0),.inv m (bD k a0),.inv 0 dZ,.sl c 110 fk rp,.obj y 107 (.agg (.pair (.at aw (a0,.map (some m))) (.eq z.1)))] (fB 23 z r1.2) [1,2,3,4,5] ⟨rfl,rfl,rfl,rfl,rfl,rfl,rfl,rfl,trivial⟩ rfl)
  replace h:=bS (nI hb) h
  refine dF ?_
  refine aU ?_
  refine aU ?_
  refine bY ?_
  refine aN ?_
  refine ag ?_
  show JC _ _ _ _ _
  replace h:(jC k a0 n (w,rp,rl)).bind _=some r:=h
  refine ab ?_
  refine aG rfl (bg rfl ew) ⟨rfl,rfl,trivial⟩ ?_
  refine aC rfl rfl ?_
  refine au ?_
  refine ag ?_
  exact iW (c,(w,rp,rl)) h (bq [.obj b2 25 (.rep ap a0),.inv m (bD k a0),.inv 0 dZ,.sl c 110 fk rp,.obj y 107 (.agg (.pair (.at aw (a0,.map (some m))) (.eq z.1)))] (fB 23 z rl) [0,1,2,3,4] ⟨rfl,rfl,rfl,rfl,rfl,rfl,trivial⟩ rfl)
 replace h:=bS (nI hb) h
 refine dF ?_
 refine aU ?_
 refine aU ?_
 refine bY ?_
 refine ag ?_
 show JC _ _ _ _ _
 replace h:((lP k a0 qp ql).bind fun b=>if(!b.2.2.1 || decide (L.1≤b.2.1))=true then some (0,0,0,11) else some (b.1.1,b.1.2,b.2.1,0)).bind some=some r:=h
 obtain⟨b,eb,h⟩:=aa h
 have cx:=wb k a0 qp ql b y m z eb
 refine ae ?_
 refine ab ?_
 refine aC rfl rfl ?_
 refine aG rfl (tf [.tmp 78] [] [bP y] [] rfl rfl rfl) ⟨rfl,trivial⟩ ?_
 refine bJ 3 rfl ?_
 refine cC (eK [13] ⟨rfl,trivial⟩) ?_
 refine aC rfl rfl ?_
 refine cC (bq (Γ':=[(8,.eq (.int .i64 L.1)),(79,.eq (.func (.func 70) #[bP y] #[])),(80,Rs fk qp)]) (pre':=[.inv 0 dZ,.obj b2 25 (.rep ap a0),.inv m (bD k a0),.obj y 107 (.agg (.pair (.at aw (a0,.map (some m))) (.eq z.1)))]) [.obj b2 25 (.rep ap a0),.inv m (bD k a0),.inv 0 dZ,.obj y 107 (.agg (.pair (.at aw (a0,.map (some m))) (.eq z.1)))] (fB 23 z ql) [2,0,1,3] ⟨rfl,rfl,rfl,trivial⟩ rfl) ?_
 refine cC (fC (Δ':=([.inv m (bD k a0),.obj y 107 (.agg (.pair (.at aw (a0,.map (some m))) (.eq z.1)))]++fB 23 z ql)++[.inv 0 dZ,.obj b2 25 (.rep ap a0)]) (List.perm_append_comm (l₁:=([.inv 0 dZ,.obj b2 25 (.rep ap a0)]:List D)))) ?_
 refine bT (Δ:=_++_) (F:=[_,_]) (fun _ _ _=>ay rfl _) rfl rfl (ge [.tmp 79,.tmp 80] rfl rfl P6 rfl cx) ⟨rfl,rfl,trivial⟩ fun _=>?_
 refine cC (fC (Δ':=[.inv 0 dZ,.obj b2 25 (.rep ap a0)]++([.inv m (bD k a0),.obj y 107 (.agg (.pair (.at aw (a0,.map (some m))) (.eq z.1)))]++fB 23 z b.2.2.2)) List.perm_append_comm) ?_
 refine aC rfl rfl ?_
 refine aG rfl (dH rfl rfl) ⟨rfl,trivial⟩ ?_
 refine aG rfl (dH rfl rfl) ⟨rfl,trivial⟩ ?_
 refine aG rfl (dH rfl rfl) ⟨rfl,trivial⟩ ?_
 refine aD rfl rfl rfl (a9 rfl sM vJ) trivial fun s=>?_
 refine bf rfl rfl (a8 rfl gW rfl rfl rfl) ⟨rfl,rfl,trivial⟩ ?_
 refine dj rfl rfl ?_
 refine dj rfl rfl ?_
 refine au ?_
 refine ag ?_
 show JC _ _ _ _ _
 obtain⟨bx,bn,bo,bl⟩:=b
 cases bo with
 |false=>
  replace h:some (0,0,0,11)=some r:=by simpa using h
  obtain rfl:=Option.some.inj h
  refine ae ?_
  refine ae ?_
  refine ab ?_
  refine aC rfl rfl ?_
  refine aG rfl (eC rfl) ⟨rfl,trivial⟩ ?_
  refine aC rfl rfl ?_
  refine yR rfl rfl rfl rfl rfl rfl rfl ?_
  refine yR rfl rfl rfl rfl rfl rfl rfl ?_
  refine yR rfl rfl rfl rfl rfl rfl rfl ?_
  refine aG rfl (gq rfl) ⟨rfl,rfl,trivial⟩ ?_
  refine au ?_
  refine ag ?_
  show JC _ _ _ _ _
  refine bK rfl (fun hb=>?_) (fun hb=>(by cases hb))
  refine ae ?_
  refine ab ?_
  refine dE rfl ?_
  refine dE rfl ?_
  refine dE rfl ?_
  refine dE rfl ?_
  refine au ?_
  refine ag ?_
  show JC _ _ _ _ _
  refine aA ?_
  refine aV ?_
  refine dk 1 rfl ?_
  exact aQ () [_,_,_,_] 1 ⟨rfl,rfl,rfl,rfl,trivial⟩ rfl
 |true=>
  refine ae ?_
  refine ae ?_
  refine ab ?_
  refine aC rfl rfl ?_
  refine aG rfl (eC rfl) ⟨rfl,trivial⟩ ?_
  refine aC rfl rfl ?_
  refine mZ rfl rfl rfl rfl rfl rfl (aL rfl) ⟨rfl,trivial⟩ ?_
  refine mZ rfl rfl rfl rfl rfl rfl (aL rfl) ⟨rfl,trivial⟩ ?_
  refine mZ rfl rfl rfl rfl rfl rfl (qy rfl) ⟨rfl,rfl,trivial⟩ ?_
  refine aG rfl (l7 rfl) ⟨rfl,rfl,trivial⟩ ?_
  refine au ?_
  refine ag ?_
  show JC _ _ _ _ _
  refine bK rfl (fun hb=>?_) (fun hb=>?_)
  ·
   have hd:L.1≤bn:=of_decide_eq_true hb
   replace h:some (0,0,0,11)=some r:=by simpa [hd] using h
   obtain rfl:=Option.some.inj h
   refine ae ?_
   refine ab ?_
   refine dE rfl ?_
   refine dE rfl ?_
   refine dE rfl ?_
   refine dE rfl ?_
   refine au ?_
   refine ag ?_
   show JC _ _ _ _ _
   refine aA ?_
   refine aV ?_
   refine dk 1 rfl ?_
   exact aQ () [_,_,_,_] 1 ⟨rfl,rfl,rfl,rfl,trivial⟩ rfl
  ·
   have hd:¬L.1≤bn:=of_decide_eq_false hb
   replace h:some (bx.1,bx.2,bn,0)=some r:=by simpa [hd] using h
   refine aY ?_
   refine ag ?_
   obtain rfl:=Option.some.inj h
   show JC _ _ _ _ _
   refine ae ?_
   refine sH (Δ:=[.obj s 110 (.rep fk bx)]) (F:=[.inv 0 dZ,.obj b2 25 (.rep ap a0),.inv m (bD k a0),.obj y 107 (.agg (.pair (.at aw (a0,.map (some m))) (.eq z.1)))]++fB 23 z bl) (Z:=Unit) (fun _=>[(4,.eq (.int .i64 bx.1)),(5,.eq (.int .i64 bx.2)),(6,.eq (.int .i64 bn)),(7,.eq (.int .i64 0))]) (fun _=>[.obj s 110 (.rep fk bx)]) (fun S w=>?_) (fun _=>?_)
   ·
    refine dN (SE.sub (Γ':=[(17,.eq (bP s)),(18,.eq (.int .i64 bn))]) ⟨rfl,rfl,trivial⟩) ?_
    refine jm ?_
    refine aI rfl rfl rfl (av rfl Nv) ⟨rfl,trivial⟩ ?_
    refine dn 0 rfl rfl rfl rfl (aj rfl uf jt rfl) ⟨rfl,trivial⟩ ?_
    refine aI rfl rfl rfl (av rfl Nu) ⟨rfl,trivial⟩ ?_
    refine dn 0 rfl rfl rfl rfl (aj rfl uf jt rfl) ⟨rfl,trivial⟩ ?_
    refine aI rfl rfl rfl (aL rfl) ⟨rfl,trivial⟩ ?_
    refine mo 5 [true,true,false,false,false] [4,5,6,7] [0] [.obj s 110 (.rep fk bx)] rfl (by kernel_rfl) (by kernel_rfl) (by kernel_rfl) qW (fun vs hv hB=>?_)
    obtain⟨u0,mc,rfl,O⟩:=ak hv
    obtain⟨u1,ac,rfl,M⟩:=ak O
    obtain⟨u2,Y,rfl,E⟩:=ak M
    obtain⟨u3,X,rfl,x⟩:=ak E
    obtain⟨u4,U,rfl,u⟩:=ak x
    obtain rfl:=jW u
    refine⟨[0],[],by kernel_rfl,by decide,?_⟩
    refine pE rfl rfl rfl rfl (gr rfl) ⟨rfl,trivial⟩ (by kernel_rfl) ?_
    refine pE rfl rfl rfl rfl (gr rfl) ⟨rfl,trivial⟩ (by kernel_rfl) ?_
    refine pE rfl rfl rfl rfl (gr rfl) ⟨rfl,trivial⟩ (by kernel_rfl) ?_
    refine pE rfl rfl rfl rfl (gr rfl) ⟨rfl,trivial⟩ (by kernel_rfl) ?_
    refine pG ?_
    exact fun a w st=>⟨rfl,(),(SE.fin (Γ':=[(4,.eq (.int .i64 bx.1)),(5,.eq (.int .i64 bx.2)),(6,.eq (.int .i64 bn)),(7,.eq (.int .i64 0))]) [0] ⟨rfl,rfl,rfl,rfl,trivial⟩ rfl) a w st⟩
   ·
    refine ag ?_
    show JC _ _ _ _ _
    refine aA ?_
    refine dk 1 rfl ?_
    exact aQ () [_,_,_,_] 1 ⟨rfl,rfl,rfl,rfl,trivial⟩ rfl
def nM(k:Nat)(a0:(List Int))(a1:dp)(a2:(List (List Int)))(a3:Int)(a4:Int):Option Int:=
 (ix k a1 a2).bind fun r1=>
 (aS r1 a3).bind fun x3=>
 (dL k (List.set r1 (Int.toNat a3) a0)).bind fun r4=>
 (fY k a1 r4 a4).bind fun r5=>
 some r5
theorem ue(k:Nat)(a0:(List Int))(a1:dp)(l:Nat)(a2:(List (List Int)))(j:Nat)(a3:Int)(e:Nat)(a4:Int)(c:Nat)(r:Int)(h:nM k a0 a1 a2 a3 a4=some r):
 dJ (jj Tryz.prog) 74 [Ri a0,Pt l,Pt j,Pt e,Pt c] [.obj l 81 (.at bL a1),.obj j 86 (.rep (.arr 3 (.arr 5 (.int .i64))) a2),.obj e 3 (I a3),.obj c 3 (I a4)] (fun _:Unit=>(bu [I r],[.obj l 81 (.at bL a1),.obj j 86 (.rep (.arr 3 (.arr 5 (.int .i64))) a2),.obj e 3 (I a3),.obj c 3 (I a4)])):=by
 unfold nM at h
 replace h:=bb h
 refine dJ.of 20 Tryz.func74 rfl Tryz.ntmps74 rfl fun S w0=>?_
 refine sr ?_
 refine cq ?_
 refine nt ?_
 refine sr ?_
 refine lo xM ?_
 refine fr 1 ?_
 refine lo fm ?_
 obtain⟨r1,x,h⟩:=aa h
 have E:=jN k a1 a2 r1 x
 refine aD rfl rfl rfl (ar [.tmp 8,.tmp 9] rfl rfl NS rfl E) ⟨rfl,rfl,trivial⟩ fun v2=>?_
 refine aq ?_
 refine nt ?_
 refine sr ?_
 refine mq ?_
 refine fr 3 ?_
 refine lo cg ?_
 refine mq ?_
 obtain⟨x3,n,h⟩:=aa h
 refine fr 1 ?_
 refine kb (aZ (t:=(.slice (.int .i64))) rfl mA bR n) ?_
 refine bf rfl rfl (cF (i:=Int.toNat a3) rfl bR rfl (gf n) rfl .rep rfl) ⟨rfl,rfl,trivial⟩ ?_
 refine nt ?_
 refine ae ?_
 refine dN (eK [7,10,11] ⟨rfl,rfl,rfl,trivial⟩) ?_
 refine bO ?_
 refine ea 2 (aj rfl xM jt rfl) ?_
 refine dm ?_
 obtain⟨r4,u,h⟩:=aa h
 have D:=d5 k (List.set r1 (Int.toNat a3) a0) r4 u
 refine da (ar [.tmp 16] rfl rfl CU rfl D) ?_
 refine ea 3 (aj rfl cg jt rfl) ?_
 refine df cD ?_
 obtain⟨r5,s,h⟩:=aa h
 have y:=mG k a1 r4 a4 r5 s
 refine jc (ge [.tmp 15,.tmp 17,.tmp 18] rfl rfl Qh rfl y) ?_
 refine aq ?_
 refine nt ?_
 refine aA ?_
 refine bv (SE.fin (Γ':=[(6,_)]) [2,1,0,3] ⟨rfl,trivial⟩ rfl) ?_
 cases h
 exact aQ () [_] 4 ⟨rfl,trivial⟩ rfl
def im(k:Nat)(a0_0:dp)(a0_1:(List (List Int)))(a0_2:Int)(a0_3:Int)(a1:(List (List Int))):Nat→((List Int)×Int×Bool×Int)→Option ((List Int)×Int×Bool)
 |0,_=>none
 |n+1,y3=>
  if y3.2.2.2 < (a1.length:Int) then((((aS a1 y3.2.2.2).bind fun x7=>
  (nM k x7 a0_0 a0_1 a0_2 a0_3).bind fun r8=>
  ((if¬(y3.2.2.1=true) then(some true) else(some (decide (r8 < y3.2.1)))):Option (Bool)).bind fun x9=>
  if x9=true then(some (x7,r8,true)) else(some (y3.1,y3.2.1,y3.2.2.1))):Option ((List Int)×Int×Bool)).bind fun x5=>
  (ck (y3.2.2.2+1)).bind fun c=>
  im k a0_0 a0_1 a0_2 a0_3 a1 n (x5.1,x5.2.1,x5.2.2,c)) else(some (y3.1,y3.2.1,y3.2.2.1))
def lQ(k:Nat)(a0_0:dp)(a0_1:(List (List Int)))(a0_2:Int)(a0_3:Int)(a1:(List (List Int))):Option ((List Int)×Int×Bool):=
 ((im k a0_0 a0_1 a0_2 a0_3 a1 k ([],0,false,0)):Option ((List Int)×Int×Bool)).bind fun x1=>
 some (x1.1,x1.2.1,x1.2.2)
theorem rC(k:Nat)(a0_0:dp)(c_a0_0:Nat)(a0_1:(List (List Int)))(c_a0_1:Nat)(a0_2:Int)(c_a0_2:Nat)(a0_3:Int)(c_a0_3:Nat)(a1:(List (List Int)))(r:(List Int)×Int×Bool)(h:lQ k a0_0 a0_1 a0_2 a0_3 a1=some r):
 dJ (jj Tryz.prog) 76 [.eq (.func (.func 74) #[] #[(Pv c_a0_0),(Pv c_a0_1),(Pv c_a0_2),(Pv c_a0_3)]),.rep (.slice (.slice (.int .i64))) a1] [.obj c_a0_0 81 (.at bL a0_0),.obj c_a0_1 86 (.rep (.arr 3 (.arr 5 (.int .i64))) a0_1),.obj c_a0_2 3 (I a0_2),.obj c_a0_3 3 (I a0_3)] (fun _:Unit=>(bu [Ri r.1,I r.2.1,.eq (.bool r.2.2)],[.obj c_a0_0 81 (.at bL a0_0),.obj c_a0_1 86 (.rep (.arr 3 (.arr 5 (.int .i64))) a0_1),.obj c_a0_2 3 (I a0_2),.obj c_a0_3 3 (I a0_3)])):=by
 unfold lQ at h
 replace h:=bb h
 refine dJ.of 35 Tryz.func76 rfl Tryz.ntmps76 rfl fun S w0=>?_
 refine sr ?_
 refine cq ?_
 refine cq ?_
 refine cq ?_
 refine nt ?_
 refine sr ?_
 refine cq ?_
 refine nt ?_
 refine sr ?_
 refine cq ?_
 refine cq ?_
 refine nt ?_
 refine aM (Z:=Unit) (α:=(List Int)×Int×Bool) (fun z2 x1=>[(7,Ri x1.1),(8,I x1.2.1),(9,.eq (.bool x1.2.2))]) (fun z2 x1=>[.obj c_a0_0 81 (.at bL a0_0),.obj c_a0_1 86 (.rep (.arr 3 (.arr 5 (.int .i64))) a0_1),.obj c_a0_2 3 (I a0_2),.obj c_a0_3 3 (I a0_3)]) h (fun K h=>?_) (fun z2 x1 h=>?_)
 ·
  refine sr (mq ?_);refine ol mA ?_;refine eG rfl ?_;refine nt (ao (dN (ml (t:=(.slice (.int .i64))) (x:=[]) 7 rfl .nil rfl rfl) ?_));refine aK (fun z4 y3=>[(0,.eq (.func (.func 74) #[] #[(Pv c_a0_0),(Pv c_a0_1),(Pv c_a0_2),(Pv c_a0_3)])),(7,Ri y3.1),(8,I y3.2.1),(9,.eq (.bool y3.2.2.1)),(13,.rep (.slice (.slice (.int .i64))) a1),(14,I (a1.length:Int)),(15,I y3.2.2.2)]) (fun z4 y3=>[.obj c_a0_0 81 (.at bL a0_0),.obj c_a0_1 86 (.rep (.arr 3 (.arr 5 (.int .i64))) a0_1),.obj c_a0_2 3 (I a0_2),.obj c_a0_3 3 (I a0_3)]) (im k a0_0 a0_1 a0_2 a0_3 a1) k () ([],0,false,0) (fun _=>rfl) h (SE.fin [0,1,2,3] ⟨rfl,rfl,rfl,rfl,rfl,rfl,rfl,trivial⟩ rfl) (fun n z4 y3 h=>?_);unfold im at h;refine sr (jb (bj rfl) ?_);refine nt (ae (ci h (fun h=>?_) (fun h=>?_)))
  ·refine sk (aM (Z:=Unit) (α:=(List Int)×Int×Bool) (fun z6 x5=>[(0,.eq (.func (.func 74) #[] #[(Pv c_a0_0),(Pv c_a0_1),(Pv c_a0_2),(Pv c_a0_3)])),(7,Ri x5.1),(8,I x5.2.1),(9,.eq (.bool x5.2.2)),(13,.rep (.slice (.slice (.int .i64))) a1),(14,I (a1.length:Int)),(15,I y3.2.2.2)]) (fun z6 x5=>[.obj c_a0_0 81 (.at bL a0_0),.obj c_a0_1 86 (.rep (.arr 3 (.arr 5 (.int .i64))) a0_1),.obj c_a0_2 3 (I a0_2),.obj c_a0_3 3 (I a0_3)]) h (fun K h=>?_) (fun z6 x5 h=>?_))
   ·refine ao (sr ?_);obtain⟨x7,l,h⟩:=aa h;refine jb (aF (t:=(.slice (.int .i64))) rfl mA bR l) ?_;refine ja (an (t:=(.slice (.int .i64))) rfl bR rfl) ?_;refine aq (nt (sr ?_));iterate 2 refine mq ?_
    obtain⟨r8,u,h⟩:=aa h;refine fr 3 ?_;refine fr 3 ?_;refine fr 3 ?_;refine fr 3 ?_;refine bT (Δ:=[_,_,_,_]) (F:=_) (fun _ _ _=>ay rfl _) rfl rfl (o6 (fs:=[]) (cs:=[(Pv c_a0_0),(Pv c_a0_1),(Pv c_a0_2),(Pv c_a0_3)]) (ags:=[Ri x7]) [.tmp 20] rfl rfl SO rfl (ue k x7 a0_0 c_a0_0 a0_1 c_a0_1 a0_2 c_a0_2 a0_3 c_a0_3 r8 u)) ⟨rfl,rfl,trivial⟩ fun _=>?_;refine aq (nt ?_);refine aM (Z:=Unit) (α:=Bool) (fun c x9=>[(0,.eq (.func (.func 74) #[] #[(Pv c_a0_0),(Pv c_a0_1),(Pv c_a0_2),(Pv c_a0_3)])),(7,Ri y3.1),(8,I y3.2.1),(9,.eq (.bool y3.2.2.1)),(11,Ri x7),(12,I r8),(13,.rep (.slice (.slice (.int .i64))) a1),(14,I (a1.length:Int)),(15,I y3.2.2.2),(28,.eq (.bool x9))]) (fun c x9=>[.obj c_a0_0 81 (.at bL a0_0),.obj c_a0_1 86 (.rep (.arr 3 (.arr 5 (.int .i64))) a0_1),.obj c_a0_2 3 (I a0_2),.obj c_a0_3 3 (I a0_3)]) h (fun K h=>?_) (fun c x9 h=>?_)
    ·refine ab (mq ?_);refine ja (eC rfl) ?_;refine mq ?_;refine ct (s:=24) rfl (fun hb=>?_) (fun hb=>?_)
     ·replace h:=cH (BY hb) h;iterate 3 refine gn ?_
      refine pt (nl ?_);exact jz ((),true) h [0,1,2,3]
     ·replace h:=bS (vn hb) h;refine gm ?_;refine gm ?_;refine gb (bj rfl) ?_;refine pf (nl ?_);exact jz ((),decide (r8 < y3.2.1)) h [0,1,2,3]
    ·refine cv h (fun h=>?_) (fun h=>?_)
     ·refine ab ?_;iterate 2 refine mq ?_
      refine aq ?_;refine aq ?_;refine cq (au (bn ?_));exact jz ((),(x7,r8,true)) h [0,1,2,3]
     ·refine aY (bn ?_);exact jz ((),(y3.1,y3.2.1,y3.2.2.1)) h [0,1,2,3]
   ·refine ab ?_;obtain⟨j,e,h⟩:=aa h;refine jb (bg rfl e) ?_;refine mq (nl ?_);exact jz ((),(x5.1,x5.2.1,x5.2.2,j)) h [0,1,2,3]
  ·refine xa ?_;exact jz ((),(y3.1,y3.2.1,y3.2.2.1)) h [0,1,2,3]
 ·
  refine sr ?_;iterate 3 refine mq ?_
  refine aq ?_;refine aq ?_;refine aq (nt (aA ?_));cases h;exact aQ () [_,_,_] 4 ⟨rfl,rfl,rfl,trivial⟩ rfl
def qH(k:Nat)(a0:aP)(a1:(List (List Int)))(a2:Int)(a3:Int):Option ((List Int)×Int×Int):=
 (cz k a0 a1).bind fun r4=>
 if¬(r4=0) then(some ([],0,r4)) else((((ck ((a0.2.2.length:Int) - 1)).bind fun x7=>
 (eH k a2 0 x7).bind fun r8=>
 if¬(r8=true) then(some true) else((eH k a3 0 a0.1).bind fun r9=>
 some (!r9))):Option (Bool)).bind fun x5=>
 if x5=true then(some ([],0,3)) else((dL k a1).bind fun n=>
 (lM k (a0,()) n a3).bind fun e=>
 (dW k e a2).bind fun l=>
 (lU k l).bind fun j=>
 (lO k k j).bind fun h=>
 (lQ k (a0,()) e a2 a3 h).bind fun c=>
 some (c.1,c.2.1,0)))
theorem wc(k:Nat)(a0:aP)(a1:(List (List Int)))(a2:Int)(a3:Int)(r:(List Int)×Int×Int)(h:qH k a0 a1 a2 a3=some r):
 dJ (jj Tryz.prog) 29 [.rep ap a0,.rep (.slice (.slice (.int .i64))) a1,I a2,I a3] [.inv 0 (dZ)] (fun _:Unit=>(bu [Ri r.1,I r.2.1,I r.2.2],[.inv 0 (dZ)])):=by
 unfold qH at h
 replace h:=bb h
 refine dJ.of 60 Tryz.func29 rfl Tryz.ntmps29 rfl fun S w0=>?_
 refine sr ?_
 refine bx fun b1=>?_
 refine bx fun b2=>?_
 refine bx fun b3=>?_
 refine cq ?_
 refine cq ?_
 refine cq ?_
 refine nt ?_
 refine ae ?_
 refine sr ?_
 refine fr 2 ?_
 refine lo cJ ?_
 refine mq ?_
 obtain⟨r4,Un,h⟩:=aa h
 have Uo:=eN k a0 a1 r4 Un
 refine fr 3 ?_
 refine kb (ar [.tmp 18,.tmp 19] rfl rfl K0 rfl Uo) ?_
 refine aq ?_
 refine nt ?_
 refine sr ?_
 refine mq ?_
 refine jb (gP rfl) ?_
 refine nt ?_
 refine cn h (fun h=>?_) (fun h=>?_)
 ·
  refine sr (mq ?_);refine cq ?_;refine cq ?_;refine aq (nt (rx ?_));refine bv (ml (t:=(.slice (.int .i64))) (x:=[]) 8 rfl .nil rfl rfl) ?_;cases h;exact aQ () [_,_,_] 1 ⟨rfl,rfl,rfl,trivial⟩ rfl
 ·
  refine sk (ae (aM (Z:=Unit) (α:=Bool) (fun z6 x5=>[(1,.rep (.slice (.slice (.int .i64))) a1),(4,Pt b1),(6,Pt b2),(7,Pt b3),(37,.eq (.bool x5))]) (fun z6 x5=>[.obj b1 25 (.rep ap a0),.obj b2 3 (I a2),.obj b3 3 (I a3),.inv 0 (dZ)]) h (fun K h=>?_) (fun z6 x5 h=>?_)))
  ·refine ab (fr 3 ?_);refine lo cg ?_;refine fl cK ?_;refine fr 2 ?_;refine lo bR ?_;refine ol dA ?_;obtain⟨x7,Uk,h⟩:=aa h;refine jb (fS rfl Uk) ?_;obtain⟨r8,Um,h⟩:=aa h;refine jc (ar [.tmp 24,.const (.int .i64 (0)),.tmp 28] rfl rfl AB rfl (eV k a2 0 x7 r8 Um)) ?_;refine ja (eC rfl) ?_;refine mq ?_;refine ct (s:=31) rfl (fun hb=>?_) (fun hb=>?_)
   ·replace h:=cH (BY hb) h;iterate 5 refine gn ?_
    refine pt (nl ?_);exact jz ((),true) h [0,1,3,2]
   ·replace h:=bS (vn hb) h;refine fr 3 ?_;refine jA rfl rfl rfl rfl rfl rfl (aj rfl cg jt rfl) ⟨rfl,trivial⟩ ?_;refine ga (av rfl fp) ?_;refine fr 1 ?_;refine jA rfl rfl rfl rfl rfl rfl (aj rfl cg jt rfl) ⟨rfl,trivial⟩ ?_;obtain⟨r9,Ul,h⟩:=aa h;refine gc (ar [.tmp 32,.const (.int .i64 (0)),.tmp 34] rfl rfl AB rfl (eV k a3 0 a0.1 r9 Ul)) ?_;refine ga (eC rfl) ?_;refine pf (nl ?_);exact jz ((), !r9) h [0,2,1,3]
  ·refine cv h (fun h=>?_) (fun h=>?_)
   ·refine sr (cq ?_);refine cq ?_;refine cq (nt (rx ?_));refine bv (ml (t:=(.slice (.int .i64))) (x:=[]) 8 rfl .nil rfl rfl) ?_;refine bv (SE.fin (Γ':=[(8,_),(9,_),(10,_)]) [3,0,1,2] ⟨rfl,rfl,rfl,trivial⟩ rfl) ?_;cases h;exact aQ () [_,_,_] 1 ⟨rfl,rfl,rfl,trivial⟩ rfl
   ·refine sk (sr (lo cJ ?_));refine aD rfl rfl rfl (ar [.tmp 38] rfl rfl Iz rfl (gi a0)) ⟨rfl,trivial⟩ fun c=>?_;refine cC (kE (bD k a0) lJ) ?_;refine aD rfl rfl rfl (a9 rfl Ry TC) trivial fun j=>?_;refine bf rfl rfl (a8 rfl xM trivial rfl rfl) ⟨rfl,rfl,trivial⟩ ?_;refine nt (ae (jm ?_));refine dn 0 rfl rfl rfl rfl (aj rfl xM jt rfl) ⟨rfl,trivial⟩ ?_;refine aI rfl rfl rfl (aL rfl) ⟨rfl,trivial⟩ ?_;obtain⟨u,U,h⟩:=aa h;refine aI rfl rfl rfl (ar [.tmp 41] rfl rfl CU rfl (d5 k a1 u U)) ⟨rfl,trivial⟩ ?_;refine dn 4 rfl rfl rfl rfl (aj rfl cg jt rfl) ⟨rfl,trivial⟩ ?_;obtain⟨l,Q,h⟩:=aa h;refine aI rfl rfl rfl (dS (N:=[(.tmp 40,.at aw (a0,(.map (some c)))),(.tmp 42,.rep (.arr 3 (.arr 5 (.int .i64))) u),(.tmp 43,I a3)]) (ar [.tmp 40,.tmp 42,.tmp 43] rfl rfl SQ rfl (rA k (a0,()) u a3 l Q)) fun _ _ _ hn=>⟨(rf hn.1),hn.2.1,hn.2.2.1,trivial⟩) ⟨rfl,rfl,rfl,trivial⟩ ?_;refine uC (GR 86 (.rep (.arr 3 (.arr 5 (.int .i64))) [[0,0,0,0,0],[0,0,0,0,0],[0,0,0,0,0]])) (fun _=>rfl) rfl rfl rfl (a9 rfl qF rh) trivial ?_;refine mo 6 [true,true,true,true,true,true] [] [] [] rfl (by kernel_rfl) (by kernel_rfl) (by kernel_rfl) cD (fun vs hv hB=>?_);obtain⟨w0,Ux,rfl,se⟩:=ak hv;obtain⟨w1,Uw,rfl,qt⟩:=ak se;obtain⟨w2,Uu,rfl,pp⟩:=ak qt;obtain⟨w3,Ut,rfl,mc⟩:=ak pp;obtain⟨w4,Us,rfl,ac⟩:=ak mc;obtain⟨w5,Ur,rfl,Y⟩:=ak ac;obtain rfl:=jW Y;obtain⟨e,rfl⟩:=BN hB.2.2.2.2.2.1;refine⟨[0,1,2,3,4,5,6],[.obj j 81 (.at aw (a0,(.map (some c)))),.inv c (bD k a0),.obj b1 25 (.rep ap a0),.obj b2 3 (I a2),.obj b3 3 (I a3),.inv 0 (dZ),.obj e 86 (.rep (.arr 3 (.arr 5 (.int .i64))) [[0,0,0,0,0],[0,0,0,0,0],[0,0,0,0,0]])],by kernel_rfl,by decide,?_⟩;refine iN 6 rfl ?_;refine oh rfl rfl (a8 rfl fm rfl rfl rfl) ⟨rfl,rfl,trivial⟩ (by kernel_rfl) ?_;refine pG ?_;refine bv (SE.fin (Γ':=[(6,Pt b2),(7,Pt b3),(12,Pt j),(13,Pt e)]) (Δ':=[.obj e 86 (.rep (.arr 3 (.arr 5 (.int .i64))) l),.obj j 81 (.at aw (a0,(.map (some c)))),.inv c (bD k a0),.obj b1 25 (.rep ap a0),.obj b2 3 (I a2),.obj b3 3 (I a3),.inv 0 (dZ)]) [0,1,2,3,4,5,6] ⟨rfl,rfl,rfl,rfl,trivial⟩ rfl) ?_;refine tn (sr (aG rfl (tf [] [.tmp 12,.tmp 13,.tmp 6,.tmp 7] [] [(Pv j),(Pv e),(Pv b2),(Pv b3)] rfl rfl rfl) ⟨rfl,rfl,rfl,rfl,trivial⟩ ?_));refine aq (nt (sr ?_));refine mq ?_;refine lo fm ?_;refine fr 4 ?_;refine lo cg ?_;obtain⟨n,O,h⟩:=aa h;refine jb (ar [.tmp 48,.tmp 49] rfl rfl KY rfl (gj k l a2 n O)) ?_;refine aD rfl rfl rfl (ar [.tmp 50] rfl rfl SK rfl (rH n)) ⟨rfl,trivial⟩ fun Up=>?_;obtain⟨D,M,h⟩:=aa h;refine ka (ar [.tmp 51] rfl rfl SL rfl (rI k n Up D M)) ?_;obtain⟨y,J,h⟩:=aa h;refine ja (ar [.tmp 52] rfl rfl Qg rfl (wa k k D y J)) ?_;refine fr 3 ?_;refine cC (og (a:=.at aw (a0,(.map (some c)))) (a':=.at bL (a0,())) Oc) ?_
    obtain⟨X,E,h⟩:=aa h;refine fr 6 ?_;refine fr 3 ?_;refine fr 4 ?_;refine fr 3 ?_;refine bT (Δ:=[_,_,_,_]) (F:=_) (fun _ _ _=>ay rfl _) rfl rfl (ge [.tmp 47,.tmp 53] rfl rfl SN rfl (rC k (a0,()) j l e a2 b2 a3 b3 y X E)) ⟨rfl,rfl,trivial⟩ fun _=>?_;refine mq ?_;refine xr ?_;refine xr ?_;refine xr ?_;refine aq ?_;refine aq ?_;refine aq (nt (sr ?_));iterate 2 refine mq ?_
    refine aq ?_;refine aq ?_;refine cq (nt (aA ?_));refine bv (SE.fin (Γ':=[(8,_),(9,_),(10,_)]) [7,0,1,2,3,4,5,6] ⟨rfl,rfl,rfl,trivial⟩ rfl) ?_;cases h;exact aQ () [_,_,_] 1 ⟨rfl,rfl,rfl,trivial⟩ rfl
def io(k:Nat)(a0:aP)(a1:(List (List (List Int)))):Nat→((List (List Int))×Int×Bool×Int)→Option ((List (List Int))×Int×Bool)
 |0,_=>none
 |n+1,y5=>
  if y5.2.2.2 < (a1.length:Int) then((((aS a1 y5.2.2.2).bind fun x9=>
  (dh k a0 x9).bind fun c=>
  ((if¬(y5.2.2.1=true) then(some true) else(some (decide (c < y5.2.1)))):Option (Bool)).bind fun h=>
  if h=true then(some (x9,c,true)) else(some (y5.1,y5.2.1,y5.2.2.1))):Option ((List (List Int))×Int×Bool)).bind fun x7=>
  (ck (y5.2.2.2+1)).bind fun e=>
  io k a0 a1 n (x7.1,x7.2.1,x7.2.2,e)) else(some (y5.1,y5.2.1,y5.2.2.1))
def lR(k:Nat)(a0:aP)(a1:(List (List (List Int)))):Option ((List (List Int))×Int×Bool):=
 ((io k a0 a1 k ([[0,0,0,0,0],[0,0,0,0,0],[0,0,0,0,0]],0,false,0)):Option ((List (List Int))×Int×Bool)).bind fun x3=>
 some (x3.1,x3.2.1,x3.2.2)
theorem rD(k:Nat)(a0:aP)(z_a0:Nat)(a1:(List (List (List Int))))(r:(List (List Int))×Int×Bool)(h:lR k a0 a1=some r):
 dJ (jj Tryz.prog) 82 [.fn 83 (uF [.at aw (a0,(.map (some z_a0)))]),.rep (.slice (.arr 3 (.arr 5 (.int .i64)))) a1] [.inv z_a0 (bD k a0)] (fun _:Unit=>(bu [.rep (.arr 3 (.arr 5 (.int .i64))) r.1,I r.2.1,.eq (.bool r.2.2)],[.inv z_a0 (bD k a0)])):=by
 unfold lR at h
 replace h:=bb h
 refine dJ.of 35 Tryz.func82 rfl Tryz.ntmps82 rfl fun S w0=>?_
 refine sr ?_
 refine aD rfl rfl rfl (a9 rfl qF rh) trivial fun b1=>?_
 refine cq ?_
 refine cq ?_
 refine nt ?_
 refine sr ?_
 refine aD rfl rfl rfl (a9 rfl qF rh) trivial fun b2=>?_
 refine nt ?_
 refine sr ?_
 refine cq ?_
 refine cq ?_
 refine nt ?_
 refine aM (Z:=Unit) (α:=(List (List Int))×Int×Bool) (fun z4 x3=>[(4,Pt b1),(7,Pt b2),(8,I x3.2.1),(9,.eq (.bool x3.2.2))]) (fun z4 x3=>[.obj b1 86 (.rep (.arr 3 (.arr 5 (.int .i64))) [[0,0,0,0,0],[0,0,0,0,0],[0,0,0,0,0]]),.obj b2 86 (.rep (.arr 3 (.arr 5 (.int .i64))) x3.1),.inv z_a0 (bD k a0)]) h (fun K h=>?_) (fun z4 x3 h=>?_)
 ·
  refine sr (mq ?_);refine ol Q3 ?_;refine eG rfl ?_;refine nt (ao (aK (fun z6 y5=>[(0,.fn 83 (uF [.at aw (a0,(.map (some z_a0)))])),(4,Pt b1),(7,Pt b2),(8,I y5.2.1),(9,.eq (.bool y5.2.2.1)),(13,.rep (.slice (.arr 3 (.arr 5 (.int .i64)))) a1),(14,I (a1.length:Int)),(15,I y5.2.2.2)]) (fun z6 y5=>[.obj b1 86 (.rep (.arr 3 (.arr 5 (.int .i64))) [[0,0,0,0,0],[0,0,0,0,0],[0,0,0,0,0]]),.obj b2 86 (.rep (.arr 3 (.arr 5 (.int .i64))) y5.1),.inv z_a0 (bD k a0)]) (io k a0 a1) k () ([[0,0,0,0,0],[0,0,0,0,0],[0,0,0,0,0]],0,false,0) (fun _=>rfl) h (SE.fin [1,0,2] ⟨rfl,rfl,rfl,rfl,rfl,rfl,rfl,rfl,trivial⟩ rfl) (fun n z6 y5 h=>?_)));unfold io at h;refine sr (jb (bj rfl) ?_);refine nt (ae (ci h (fun h=>?_) (fun h=>?_)))
  ·refine sk (aM (Z:=Unit) (α:=(List (List Int))×Int×Bool) (fun z8 x7=>[(0,.fn 83 (uF [.at aw (a0,(.map (some z_a0)))])),(4,Pt b1),(7,Pt b2),(8,I x7.2.1),(9,.eq (.bool x7.2.2)),(13,.rep (.slice (.arr 3 (.arr 5 (.int .i64)))) a1),(14,I (a1.length:Int)),(15,I y5.2.2.2)]) (fun z8 x7=>[.obj b1 86 (.rep (.arr 3 (.arr 5 (.int .i64))) [[0,0,0,0,0],[0,0,0,0,0],[0,0,0,0,0]]),.obj b2 86 (.rep (.arr 3 (.arr 5 (.int .i64))) x7.1),.inv z_a0 (bD k a0)]) h (fun K h=>?_) (fun z8 x7 h=>?_))
   ·refine ao (sr ?_);obtain⟨x9,D,h⟩:=aa h;refine jb (aF (t:=(.arr 3 (.arr 5 (.int .i64)))) rfl Q3 fm D) ?_;refine ja (an (t:=(.arr 3 (.arr 5 (.int .i64)))) rfl fm rfl) ?_;refine aD rfl rfl rfl (a9 rfl qF rh) trivial fun x=>?_;refine bf rfl rfl (a8 rfl fm rfl rfl rfl) ⟨rfl,rfl,trivial⟩ ?_;refine nt (sr (mq ?_));refine lo fm ?_;obtain⟨c,u,h⟩:=aa h;refine fr 3 ?_;refine kb (Hm (fs:=[.at aw (a0,(.map (some z_a0)))]) (ags:=[.rep (.arr 3 (.arr 5 (.int .i64))) x9]) [.tmp 20] rfl rfl Qf rfl (jO k a0 z_a0 x9 c u)) ?_;refine aq (nt ?_);refine aM (Z:=Unit) (α:=Bool) (fun j e=>[(0,.fn 83 (uF [.at aw (a0,(.map (some z_a0)))])),(4,Pt b1),(7,Pt b2),(8,I y5.2.1),(9,.eq (.bool y5.2.2.1)),(11,Pt x),(12,I c),(13,.rep (.slice (.arr 3 (.arr 5 (.int .i64)))) a1),(14,I (a1.length:Int)),(15,I y5.2.2.2),(28,.eq (.bool e))]) (fun j e=>[.obj b1 86 (.rep (.arr 3 (.arr 5 (.int .i64))) [[0,0,0,0,0],[0,0,0,0,0],[0,0,0,0,0]]),.obj b2 86 (.rep (.arr 3 (.arr 5 (.int .i64))) y5.1),.obj x 86 (.rep (.arr 3 (.arr 5 (.int .i64))) x9),.inv z_a0 (bD k a0)]) h (fun K h=>?_) (fun j e h=>?_)
    ·refine ab (mq ?_);refine ja (eC rfl) ?_;refine mq ?_;refine ct (s:=24) rfl (fun hb=>?_) (fun hb=>?_)
     ·replace h:=cH (BY hb) h;iterate 3 refine gn ?_
      refine pt (nl ?_);exact jz ((),true) h [2,3,1,0]
     ·replace h:=bS (vn hb) h;refine gm ?_;refine gm ?_;refine gb (bj rfl) ?_;refine pf (nl ?_);exact jz ((),decide (c < y5.2.1)) h [2,3,1,0]
    ·refine cv h (fun h=>?_) (fun h=>?_)
     ·refine ab (fr 2 ?_);refine lo fm ?_;refine mq ?_;refine fr 2 ?_;refine bf rfl rfl (a8 rfl fm rfl rfl rfl) ⟨rfl,rfl,trivial⟩ ?_;refine aq ?_;refine cq (au (bn ?_));exact jz ((),(x9,c,true)) h [2,0,3]
     ·refine aY (bn ?_);exact jz ((),(y5.1,y5.2.1,y5.2.2.1)) h [0,1,3]
   ·refine ab ?_;obtain⟨y,l,h⟩:=aa h;refine jb (bg rfl l) ?_;refine mq (nl ?_);exact jz ((),(x7.1,x7.2.1,x7.2.2,y)) h [0,1,2]
  ·refine xa ?_;exact jz ((),(y5.1,y5.2.1,y5.2.2.1)) h [0,1,2]
 ·
  refine sr (fr 1 ?_);refine lo fm ?_;iterate 2 refine mq ?_
  refine fr 1 ?_;refine bf rfl rfl (a8 rfl fm rfl rfl rfl) ⟨rfl,rfl,trivial⟩ ?_;refine aq ?_;refine aq (nt (aA ?_));refine bv (SE.fin (Γ':=[(4,_),(5,_),(6,_)]) [2,0,1] ⟨rfl,rfl,rfl,trivial⟩ rfl) ?_;cases h;exact aQ () [.rep (.arr 3 (.arr 5 (.int .i64))) x3.1,_,_] 1 ⟨⟨_,_,_,_,_,rfl,(.tail _ (.head _)),fm,(vX),rfl⟩,rfl,rfl,trivial⟩ rfl
def uH(k:Nat)(a0:aP):Option ((List (List Int))×Int×Int):=
 (lD k a0).bind fun r2=>
 if¬(r2=0) then(some ([],0,r2)) else((km k (a0,())).bind fun r5=>
 (lR k a0 r5).bind fun r6=>
 if¬(r6.2.2=true) then(some ([],0,11)) else((ix k (a0,()) r6.1).bind fun r8=>
 some (r8,r6.2.1,0)))
theorem zo(k:Nat)(a0:aP)(r:(List (List Int))×Int×Int)(h:uH k a0=some r):
 dJ (jj Tryz.prog) 31 [.rep ap a0] [] (fun _:Unit=>(bu [.rep (.slice (.slice (.int .i64))) r.1,I r.2.1,I r.2.2],[])):=by
 unfold uH at h
 replace h:=bb h
 refine dJ.of 33 Tryz.func31 rfl Tryz.ntmps31 rfl fun S w0=>?_
 refine sr ?_
 refine bx fun b1=>?_
 refine cq ?_
 refine cq ?_
 refine cq ?_
 refine nt ?_
 refine ae ?_
 refine sr ?_
 refine lo cJ ?_
 obtain⟨r2,l,h⟩:=aa h
 have n:=rF k a0 r2 l
 refine ja (ar [.tmp 10] rfl rfl Qo rfl n) ?_
 refine aq ?_
 refine nt ?_
 refine sr ?_
 refine mq ?_
 refine jb (gP rfl) ?_
 refine nt ?_
 refine cn h (fun h=>?_) (fun h=>?_)
 ·
  refine sr (mq ?_);refine cq ?_;refine cq ?_;refine aq (nt (rx ?_));refine bv (ml (t:=(.slice (.slice (.int .i64)))) (x:=[]) 2 rfl .nil rfl rfl) ?_;cases h;exact aQ () [_,_,_] 0 ⟨rfl,rfl,rfl,trivial⟩ rfl
 ·
  refine sk (sr (lo cJ ?_));refine aD rfl rfl rfl (ar [.tmp 15] rfl rfl Iz rfl (gi a0)) ⟨rfl,trivial⟩ fun z3=>?_;refine cC (kE (bD k a0) lJ) ?_;refine aq (nt (sr ?_));refine mq ?_;refine ja (JX [.tmp 18] [.at aw (a0,(.map (some z3)))] rfl rfl) ?_;refine mq ?_;refine aD rfl rfl rfl (dS (N:=[(.tmp 20,.at aw (a0,(.map (some z3))))]) (ar [.tmp 20] rfl rfl SH rfl (oR (a0,()))) fun _ _ _ hn=>⟨rf hn.1,trivial⟩) ⟨rfl,trivial⟩ fun b4=>?_;obtain⟨r5,j,h⟩:=aa h;refine ka (ar [.tmp 21] rfl rfl SI rfl (qk k (a0,()) b4 r5 j)) ?_;obtain⟨r6,e,h⟩:=aa h;refine fr 1 ?_;refine kb (ge [.tmp 19,.tmp 22] rfl rfl SJ rfl (rD k a0 z3 r5 r6 e)) ?_;refine mq ?_;refine xr ?_;refine xr ?_;refine xr ?_;refine aD rfl rfl rfl (a9 rfl qF rh) trivial fun b7=>?_;refine bf rfl rfl (a8 rfl fm rfl rfl rfl) ⟨rfl,rfl,trivial⟩ ?_;refine aq ?_;refine aq (nt (ae (sr ?_)));refine mq ?_;refine ja (eC rfl) ?_;refine nt (cw h (fun h=>?_) (fun h=>?_))
  ·refine sr (cq ?_);refine cq ?_;refine cq (nt (rx ?_));refine bv (ml (t:=(.slice (.slice (.int .i64)))) (x:=[]) 2 rfl .nil rfl rfl) ?_;cases h;exact aQ () [_,_,_] 0 ⟨rfl,rfl,rfl,trivial⟩ rfl
  ·refine sk (sr (mq ?_));refine lo fm ?_;obtain⟨r8,c,h⟩:=aa h;refine aD rfl rfl rfl (dS (N:=[(.tmp 29,.at aw (a0,(.map (some z3)))),(.tmp 30,.rep (.arr 3 (.arr 5 (.int .i64))) r6.1)]) (ar [.tmp 29,.tmp 30] rfl rfl NS rfl (jN k (a0,()) r6.1 r8 c)) fun _ _ _ hn=>⟨(rf hn.1),hn.2.1,trivial⟩) ⟨rfl,rfl,trivial⟩ fun v9=>?_;refine mq ?_;refine aq ?_;refine aq ?_;refine cq (nt (aA ?_));refine bv (eK [2,31] ⟨rfl,rfl,trivial⟩) ?_;cases h;exact aQ () [_,_,_] 0 ⟨rfl,rfl,rfl,trivial⟩ rfl
set_option maxRecDepth 20000
set_option maxHeartbeats 4000000
def OB(b:Nat):List Int→Option Addr
 |[]=>none
 |_::_=>some ⟨b,0,none⟩
def Rk:List Int→Value→Value
 |[],_=>.slice none 0 0
 |_::_,v=>v
theorem N4(b:Nat)(l:List Int):OB b l=none∨OB b l=some ⟨b,0,none⟩:=by cases l <;> simp [OB]
theorem IQ(b:Nat)(l:List Int)(c:Int):OB b (l++[c])=some ⟨b,0,none⟩:=by cases l <;> rfl
theorem IP(l:List Int)(c:Int)(v:Value):Rk (l++[c]) v=v:=by cases l <;> rfl
theorem GH:mj Tryz.prog 143 9 1 16:=.of (z:=(.string .empty)) TG (by kernel_rfl) rfl rfl rfl
theorem NP:ah Tryz.prog 93:=ah.of Tryz.func93 (by kernel_rfl) (by kernel_rfl)
theorem Qc:ah Tryz.prog 22:=ah.of Tryz.func22 (by kernel_rfl) (by kernel_rfl)
theorem O0:dP Tryz.prog 25 3 true:=⟨fun w=>by kernel_rfl,fun w=>by kernel_rfl⟩
theorem LN:dP Tryz.prog 23 1 false:=⟨fun w=>by kernel_rfl,fun w=>by kernel_rfl⟩
theorem OZ:dP Tryz.prog 3 1 false:=⟨fun w=>by kernel_rfl,fun w=>by kernel_rfl⟩
def lN(c:Int):Int:=IntKind.i32.wrap (97+IntKind.i32.wrap c)
def lx(xs:List Int):Nat→Int×List Int→Option (List Int)
 |0,_=>none
 |n+1,y=>if y.1 < (xs.length:Int) then((aS xs y.1).bind fun c=>if 0≤lN c∧lN c≤127∧bM (y.2.length+1) then(ck (y.1+1)).bind fun z=>lx xs n (z,y.2++[lN c]) else none) else some y.2
def jP(k:Nat)(a1:List (List Int)):Nat→Int×List ByteArray→Option (List ByteArray)
 |0,_=>none
 |n+1,y=>if y.1 < (a1.length:Int) then((aS a1 y.1).bind fun xs=>(lx xs k (0,[])).bind fun l=>if bM (y.2.length+1) then(ck (y.1+1)).bind fun z=>jP k a1 n (z,y.2++[qI l]) else none) else some y.2
def sT(k:Nat)(a0:aP)(a1:(List (List Int))):Option (Value×Int):=
 (cz k a0 a1).bind fun e=>if¬(e=0) then some (.string .empty,e) else(jP k a1 k (0,[])).bind fun ss=>(uq k ss ⟨#[47]⟩).bind fun r=>some (.string r,0)
theorem xH(k:Nat)(a0:aP)(a1:(List (List Int)))(r:Value×Int)(h:sT k a0 a1=some r):
 bZ Tryz.prog 48 [.rep ap a0,.rep (.slice (.slice (.int .i64))) a1] [.inv 0 dZ] (fun _:Unit=>(bu [.eq r.1,I r.2],[.inv 0 dZ])):=by
 unfold sT at h
 replace h:=bb h
 refine bZ.of 43 Tryz.func48 rfl Tryz.ntmps48 rfl fun S w0=>?_
 refine sr ?_
 refine bx fun b2=>?_
 refine cq ?_
 refine cq ?_
 refine nt ?_
 refine ae ?_
 refine sr ?_
 obtain⟨e,ee,h⟩:=aa h
 have ce:=eN k a0 a1 e ee
 refine ka (aj rfl O0 (yW) rfl) ?_
 refine mq ?_
 refine fr 1 ?_
 refine kb (ar [.tmp 13,.tmp 14] rfl rfl Qc rfl ce) ?_
 refine aq ?_
 refine nt ?_
 refine sr ?_
 refine mq ?_
 refine jb (gP rfl) ?_
 refine nt ?_
 refine bK rfl (fun hb=>?_) (fun hb=>?_)
 ·
  replace h:=cH (Jl hb) h;refine sr (mq ?_);refine cq ?_;refine aq (nt (rx ?_));cases h;exact aQ () [_,_] 1 ⟨rfl,rfl,trivial⟩ rfl
 replace h:=bS (wu hb) h
 refine sk ?_
 refine sr ?_
 refine cq ?_
 refine nt ?_
 rw [Option.bind_assoc] at h
 refine ae ?_
 refine sr ?_
 refine mq ?_
 refine ol mA ?_
 refine eG rfl ?_
 refine cC (SE.nil 9 .str) ?_
 refine nt ?_
 refine ao ?_
 refine aK (fun v y=>[(7,.eq v),(19,.rep (.slice (.slice (.int .i64))) a1),(20,I (a1.length:Int)),(21,I y.1)]) (fun v y=>[.sl v 9 .str y.2,.inv 0 dZ]) (jP k a1) k (.slice none 0 0) (0,[]) (fun _=>rfl) h (SE.fin [0,1] ⟨rfl,rfl,rfl,rfl,trivial⟩ rfl) (fun n v7 y h=>?_)
 unfold jP at h
 refine sr ?_
 refine jb (bj rfl) ?_
 refine nt ?_
 refine ae ?_
 refine bK rfl (fun hb=>?_) (fun hb=>?_)
 ·
  replace h:=cH (oD hb) h;refine sk (ae (ao ?_));obtain⟨xs,exs,h⟩:=aa h;refine sr (jb (aF (t:=.slice (.int .i64)) rfl mA LN exs) ?_);refine ja (an (t:=.slice (.int .i64)) rfl LN rfl) ?_;refine aq (nt (sr ?_));refine aD rfl rfl rfl (a9 rfl F6 IT) trivial fun b=>?_;refine nt ?_;rw [Option.bind_assoc] at h;refine ae (sr (mq ?_));refine ol dA ?_;refine eG rfl ?_;refine cC (SE.nil 5 (.int .u8)) ?_;refine nt (ao ?_)
  refine aK (fun v q=>[(7,.eq v7),(10,.eq (bP b)),(19,.rep (.slice (.slice (.int .i64))) a1),(20,I (a1.length:Int)),(21,I y.1),(25,Ri xs),(26,I (xs.length:Int)),(27,I q.1)])
   (fun v q=>[.obj b 147 (bA (.pointer (OB b q.2)) (Rk q.2 v)),.sl (Rk q.2 v) 5 (.int .u8) q.2,.sl v7 9 .str y.2,.inv 0 dZ]) (lx xs) k undef (0,[]) (fun _=>rfl) h (SE.fin [1,0,2,3] ⟨rfl,rfl,rfl,rfl,rfl,rfl,rfl,rfl,trivial⟩ rfl) (fun n2 v q h=>?_)
  unfold lx at h;refine sr (jb (bj rfl) ?_);refine nt (ae (bK rfl (fun hb=>?_) (fun hb=>?_)))
  ·replace h:=cH (oD hb) h;refine sk (ae (ao ?_));obtain⟨c,ec,h⟩:=aa h;refine sr (jb (aF (t:=.int .i64) rfl dA OZ ec) ?_);refine ja (an (t:=.int .i64) rfl OZ rfl) ?_;refine aq (nt ?_)
   have hk:0≤lN c∧lN c≤127∧bM (q.2.length+1):=by
    apply Classical.byContradiction;intro hn;rw [if_neg hn] at h;cases h
   replace h:=cH hk h;refine vU 1 rfl fun hv=>?_;refine ab (mq ?_);refine ja (o4 rfl U3 Ui) ?_;refine jb (BX rfl) ?_;refine bT (Δ:=[_,_]) (F:=_) (fun _ _ _=>ay rfl _) rfl rfl (ar [.tmp 10,.tmp 33] rfl rfl NQ rfl (xO (b:=b) (p:=OB b q.2) (v:=Rk q.2 v) (l:=q.2) (r:=lN c) (N4 b q.2) hv hk.1 hk.2.1 hk.2.2)) ⟨rfl,rfl,trivial⟩ fun v2=>?_;refine au (aN (tn (ab ?_)));obtain⟨z3,ez3,h⟩:=aa h;refine jb (bg rfl ez3) ?_;refine mq (nl ?_);exact iW (v2,(z3,q.2++[lN c])) h (SE.fin [0,1,2,3] ⟨rfl,rfl,rfl,rfl,rfl,rfl,rfl,rfl,trivial⟩ (by simp only [IQ,IP];rfl))
  replace h:=bS (nI hb) h;refine dF (aU (aU (bY (tn ?_))));replace h:(if bM (y.2.length+1) then(ck (y.1+1)).bind fun z=>jP k a1 n (z,y.2++[qI q.2]) else none).bind _=some r:=h
  have hk:bM (y.2.length+1):=by
   apply Classical.byContradiction;intro hn;rw [if_neg hn] at h;cases h
  replace h:=cH hk h;refine ab (mq ?_);refine bT (Δ:=[_,_]) (F:=_) (fun _ _ _=>ay rfl _) rfl rfl (ar [.tmp 10] rfl rfl Iw rfl (wL (b:=b) (l:=q.2) (fun hn=>by rw [hn];rfl))) ⟨rfl,trivial⟩ fun _=>?_;refine ja (bp (t:=.str) [(.tmp 37,.eq (.string (qI q.2)))] [qI q.2] rfl rfl GH (.cons rfl .str .nil) rfl rfl) ?_;refine c6 rfl rfl rfl (bH rfl rfl GH (by simpa using hk)) ⟨rfl,rfl,trivial⟩ fun v'=>?_;refine aq (au (aN (tn (ab ?_))));obtain⟨z3,ez3,h⟩:=aa h;refine jb (bg rfl ez3) ?_;refine mq (nl ?_);exact jz (v',(z3,y.2++[qI q.2])) h [0,1]
 replace h:=bS (nI hb) h
 refine dF ?_
 refine aU ?_
 refine aU ?_
 refine bY ?_
 refine tn ?_
 replace h:((uq k y.2 ⟨#[47]⟩).bind fun r=>some (.string r,0)).bind some=some r:=h
 obtain⟨r1,j,h⟩:=aa h
 cases h
 have cj:=Bz k y.2 _ r1 j
 refine sr ?_
 refine cC (eK [7] ⟨rfl,trivial⟩) ?_
 refine mq ?_
 refine jb (ar [.tmp 41,.const (.string ⟨#[47]⟩)] rfl rfl NP rfl cj) ?_
 refine aq ?_
 refine cq ?_
 refine nt ?_
 refine aA ?_
 exact aQ () [_,_] 1 ⟨rfl,rfl,trivial⟩ rfl
def kw(k:Nat):Option Bool:=
 (kT k ([]:(List Int))).bind fun r1=>
 (wZ k).bind fun r2=>
 (xJ k r1 r2 1).bind fun r3=>
 (kT k ([]:(List Int))).bind fun r4=>
 (wZ k).bind fun r5=>
 (iQ k r4 r5).bind fun r6=>
 (kT k ([]:(List Int))).bind fun r7=>
 (uH k r7).bind fun r8=>
 (kT k ([]:(List Int))).bind fun r9=>
 (HV k).bind fun E=>
 (uG k r9 E).bind fun c=>
 (kT k ([]:(List Int))).bind fun D=>
 (wZ k).bind fun y=>
 (qH k D y 0 1).bind fun h=>
 (kT k ([]:(List Int))).bind fun x=>
 (wZ k).bind fun u=>
 (sT k x u).bind fun e=>
 ((if r3.2.2=0 then(if r6.2=0 then(if r8.2.2=0 then(if c.2.2.2=0 then(if h.2.2=0 then(if e.2=0 then(if r6.1=3 then(if r8.2.1=0 then(if c.1=0 then(if c.2.1=2 then(if c.2.2.1=1 then(if h.2.1=2 then((dy (L1 e.1=true)).bind fun _=>
 if Is e.1 (⟨#[98,97,100,47,99]⟩:ByteArray)=true then((dC k r3.1 [0]).bind fun s=>
 if s=true then((f5 k r3.2.1 [[0,1,3],[2]]).bind fun r=>
 if r=true then((f5 k r8.1 [[2,0],[1,3]]).bind fun n=>
 if n=true then((dC k h.1 [0,1,3]).bind fun l=>
 some l) else(some false)) else(some false)) else(some false)) else(some false)) else(some false)) else(some false)) else(some false)) else(some false)) else(some false)) else(some false)) else(some false)) else(some false)) else(some false)) else(some false)) else(some false)) else(some false)):Option (Bool)).bind fun j=>
 some j
theorem qA(k:Nat)(r:Bool)(h:kw k=some r):
 dJ (jj Tryz.prog) 12 [] [.inv 0 (dZ)] (fun _:Unit=>(bu [.eq (.bool r)],[.inv 0 (dZ)])):=by
 unfold kw at h
 replace h:=bb h
 refine dJ.of 132 Tryz.func12 rfl Tryz.ntmps12 rfl fun S w0=>?_
 refine sr ?_
 refine cq ?_
 refine nt ?_
 refine sr ?_
 obtain⟨r1,UG,h⟩:=aa h
 have UP:=jI k ([]:(List Int)) r1 UG
 refine ja (dS (N:=[(.const (.slice none 0 0),.eq (.slice none 0 0))]) (ar [.const (.slice none 0 0)] rfl rfl Fq rfl UP) fun _ _ _ hn=>⟨(kD (t:=(.slice (.int .i64))) (x:=([]:(List Int))) .nil rfl rfl hn.1),trivial⟩) ?_
 obtain⟨r2,UF,h⟩:=aa h
 have UO:=rW k r2 UF
 refine aG rfl (ar [] rfl rfl KZ rfl UO) trivial ?_
 obtain⟨r3,UE,h⟩:=aa h
 have UN:=Br k r1 r2 1 r3 UE
 refine kc (ar [.tmp 19,.tmp 20,.const (.int .i64 (1))] rfl rfl Tn rfl UN) ?_
 refine mq ?_
 refine xr ?_
 refine xr ?_
 refine xr ?_
 refine aq ?_
 refine aq ?_
 refine aq ?_
 refine nt ?_
 refine sr ?_
 obtain⟨r4,UD,h⟩:=aa h
 have UM:=jI k ([]:(List Int)) r4 UD
 refine ja (dS (N:=[(.const (.slice none 0 0),.eq (.slice none 0 0))]) (ar [.const (.slice none 0 0)] rfl rfl Fq rfl UM) fun _ _ _ hn=>⟨(kD (t:=(.slice (.int .i64))) (x:=([]:(List Int))) .nil rfl rfl hn.1),trivial⟩) ?_
 obtain⟨r5,UC,h⟩:=aa h
 have UL:=rW k r5 UC
 refine aG rfl (ar [] rfl rfl KZ rfl UL) trivial ?_
 obtain⟨r6,UB,h⟩:=aa h
 have UK:=nN k r4 r5 r6 UB
 refine kb (ge [.tmp 26,.tmp 27] rfl rfl Qm rfl UK) ?_
 refine mq ?_
 refine xr ?_
 refine xr ?_
 refine aq ?_
 refine aq ?_
 refine nt ?_
 refine sr ?_
 obtain⟨r7,UA,h⟩:=aa h
 have UJ:=jI k ([]:(List Int)) r7 UA
 refine ja (dS (N:=[(.const (.slice none 0 0),.eq (.slice none 0 0))]) (ar [.const (.slice none 0 0)] rfl rfl Fq rfl UJ) fun _ _ _ hn=>⟨(kD (t:=(.slice (.int .i64))) (x:=([]:(List Int))) .nil rfl rfl hn.1),trivial⟩) ?_
 obtain⟨r8,Uz,h⟩:=aa h
 have UI:=zo k r7 r8 Uz
 refine ja (ge [.tmp 32] rfl rfl Td rfl UI) ?_
 refine mq ?_
 refine xr ?_
 refine xr ?_
 refine xr ?_
 refine aq ?_
 refine aq ?_
 refine aq ?_
 refine nt ?_
 refine sr ?_
 obtain⟨r9,Uy,h⟩:=aa h
 have UH:=jI k ([]:(List Int)) r9 Uy
 refine ja (dS (N:=[(.const (.slice none 0 0),.eq (.slice none 0 0))]) (ar [.const (.slice none 0 0)] rfl rfl Fq rfl UH) fun _ _ _ hn=>⟨(kD (t:=(.slice (.int .i64))) (x:=([]:(List Int))) .nil rfl rfl hn.1),trivial⟩) ?_
 obtain⟨E,qt,h⟩:=aa h
 have Ur:=HU k E qt
 refine aG rfl (ar [] rfl rfl S7 rfl Ur) trivial ?_
 obtain⟨Ux,pp,h⟩:=aa h
 have Up:=zn k r9 E Ux pp
 refine kb (ge [.tmp 38,.tmp 39] rfl rfl Ti rfl Up) ?_
 refine mq ?_
 refine xr ?_
 refine xr ?_
 refine xr ?_
 refine xr ?_
 refine aq ?_
 refine aq ?_
 refine aq ?_
 refine aq ?_
 refine nt ?_
 refine sr ?_
 obtain⟨D,mc,h⟩:=aa h
 have Uo:=jI k ([]:(List Int)) D mc
 refine ja (dS (N:=[(.const (.slice none 0 0),.eq (.slice none 0 0))]) (ar [.const (.slice none 0 0)] rfl rfl Fq rfl Uo) fun _ _ _ hn=>⟨(kD (t:=(.slice (.int .i64))) (x:=([]:(List Int))) .nil rfl rfl hn.1),trivial⟩) ?_
 obtain⟨y,ac,h⟩:=aa h
 have Un:=rW k y ac
 refine aG rfl (ar [] rfl rfl KZ rfl Un) trivial ?_
 obtain⟨u,Y,h⟩:=aa h
 have Um:=wc k D y 0 1 u Y
 refine bX rfl rfl rfl (ge [.tmp 46,.tmp 47,.const (.int .i64 (0)),.const (.int .i64 (1))] rfl rfl Tf rfl Um) ⟨rfl,rfl,rfl,rfl,trivial⟩ ?_
 refine mq ?_
 refine xr ?_
 refine xr ?_
 refine xr ?_
 refine aq ?_
 refine aq ?_
 refine aq ?_
 refine nt ?_
 refine sr ?_
 obtain⟨n,X,h⟩:=aa h
 have Ul:=jI k ([]:(List Int)) n X
 refine ja (dS (N:=[(.const (.slice none 0 0),.eq (.slice none 0 0))]) (ar [.const (.slice none 0 0)] rfl rfl Fq rfl Ul) fun _ _ _ hn=>⟨(kD (t:=(.slice (.int .i64))) (x:=([]:(List Int))) .nil rfl rfl hn.1),trivial⟩) ?_
 obtain⟨l,U,h⟩:=aa h
 have Uk:=rW k l U
 refine aG rfl (ar [] rfl rfl KZ rfl Uk) trivial ?_
 obtain⟨Uw,Q,h⟩:=aa h
 have se:=xH k n l Uw Q
 refine kb (ar [.tmp 53,.tmp 54] rfl rfl S5 rfl se) ?_
 refine mq ?_
 refine xr ?_
 refine xr ?_
 refine aq ?_
 refine aq ?_
 refine nt ?_
 refine aM (Z:=Unit) (α:=Bool) (fun e c=>[(0,.eq (.bool c))]) (fun e c=>[.inv 0 (dZ)]) h (fun K h=>?_) (fun e c h=>?_)
 ·
  refine ab (mq ?_);refine jb (fU rfl) ?_;refine mq ?_;refine ct (s:=60) rfl (fun hb=>?_) (fun hb=>?_)
  ·replace h:=cH (oD hb) h;refine gm ?_;refine gb (fU rfl) ?_;refine pt ?_;refine mq ?_;refine ct (s:=64) rfl (fun hb=>?_) (fun hb=>?_)
   ·replace h:=cH (oD hb) h;refine gm ?_;refine gb (fU rfl) ?_;refine pt ?_;refine mq ?_;refine ct (s:=68) rfl (fun hb=>?_) (fun hb=>?_)
    ·replace h:=cH (oD hb) h;refine gm ?_;refine gb (fU rfl) ?_;refine pt ?_;refine mq ?_;refine ct (s:=72) rfl (fun hb=>?_) (fun hb=>?_)
     ·replace h:=cH (oD hb) h;refine gm ?_;refine gb (fU rfl) ?_;refine pt ?_;refine mq ?_;refine ct (s:=76) rfl (fun hb=>?_) (fun hb=>?_)
      ·replace h:=cH (oD hb) h;refine gm ?_;refine gb (fU rfl) ?_;refine pt ?_;refine mq ?_;refine ct (s:=80) rfl (fun hb=>?_) (fun hb=>?_)
       ·replace h:=cH (oD hb) h;refine gm ?_;refine gb (fU rfl) ?_;refine pt ?_;refine mq ?_;refine ct (s:=84) rfl (fun hb=>?_) (fun hb=>?_)
        ·replace h:=cH (oD hb) h;refine gm ?_;refine gb (fU rfl) ?_;refine pt ?_;refine mq ?_;refine ct (s:=88) rfl (fun hb=>?_) (fun hb=>?_)
         ·replace h:=cH (oD hb) h;refine gm ?_;refine gb (fU rfl) ?_;refine pt ?_;refine mq ?_;refine ct (s:=92) rfl (fun hb=>?_) (fun hb=>?_)
          ·replace h:=cH (oD hb) h;refine gm ?_;refine gb (fU rfl) ?_;refine pt ?_;refine mq ?_;refine ct (s:=96) rfl (fun hb=>?_) (fun hb=>?_)
           ·replace h:=cH (oD hb) h;refine gm ?_;refine gb (fU rfl) ?_;refine pt ?_;refine mq ?_;refine ct (s:=100) rfl (fun hb=>?_) (fun hb=>?_)
            ·replace h:=cH (oD hb) h;refine gm ?_;refine gb (fU rfl) ?_;refine pt ?_;refine mq ?_;refine ct (s:=104) rfl (fun hb=>?_) (fun hb=>?_)
             ·replace h:=cH (oD hb) h;refine gm ?_;obtain⟨UQ,F,h⟩:=aa h;refine gb (Hk rfl (aB F)) ?_;refine pt ?_;refine mq ?_;refine ct (s:=108) rfl (fun hb=>?_) (fun hb=>?_)
              ·replace h:=cH (Ew hb) h;refine gm ?_;refine ga (bp (t:=(.int .i64)) [(.const (.int .i64 (0)),_)] [0] rfl rfl dI (.cons rfl .int .nil) rfl rfl) ?_;obtain⟨Uu,O,h⟩:=aa h;refine gb (ar [.tmp 109,.tmp 110] rfl rfl Ft rfl (fH k r3.1 [0] Uu O)) ?_;refine pt ?_;refine mq ?_;refine ct (s:=113) rfl (fun hb=>?_) (fun hb=>?_)
               ·replace h:=cH (Ew hb) h;refine gm ?_;refine gc (bp (t:=(.int .i64)) [(.const (.int .i64 (0)),_),(.const (.int .i64 (1)),_),(.const (.int .i64 (3)),_)] [0,1,3] rfl rfl dI (.cons rfl .int (.cons rfl .int (.cons rfl .int .nil))) rfl rfl) ?_;refine ga (bp (t:=(.int .i64)) [(.const (.int .i64 (2)),_)] [2] rfl rfl dI (.cons rfl .int .nil) rfl rfl) ?_;refine gb (bp (t:=(.slice (.int .i64))) [(.tmp 115,_),(.tmp 116,_)] [[0,1,3],[2]] rfl rfl oV (.cons rfl .rep (.cons rfl .rep .nil)) rfl rfl) ?_;obtain⟨Ut,M,h⟩:=aa h;refine gb (ar [.tmp 114,.tmp 117] rfl rfl NU rfl (ky k r3.2.1 [[0,1,3],[2]] Ut M)) ?_;refine pt ?_;refine mq ?_;refine ct (s:=120) rfl (fun hb=>?_) (fun hb=>?_)
                ·replace h:=cH (Ew hb) h;refine gm ?_;refine gb (bp (t:=(.int .i64)) [(.const (.int .i64 (2)),_),(.const (.int .i64 (0)),_)] [2,0] rfl rfl dI (.cons rfl .int (.cons rfl .int .nil)) rfl rfl) ?_;refine gb (bp (t:=(.int .i64)) [(.const (.int .i64 (1)),_),(.const (.int .i64 (3)),_)] [1,3] rfl rfl dI (.cons rfl .int (.cons rfl .int .nil)) rfl rfl) ?_;refine gb (bp (t:=(.slice (.int .i64))) [(.tmp 122,_),(.tmp 123,_)] [[2,0],[1,3]] rfl rfl oV (.cons rfl .rep (.cons rfl .rep .nil)) rfl rfl) ?_;obtain⟨Us,J,h⟩:=aa h;refine gb (ar [.tmp 121,.tmp 124] rfl rfl NU rfl (ky k r8.1 [[2,0],[1,3]] Us J)) ?_;refine pt ?_;refine mq ?_;refine ct (s:=127) rfl (fun hb=>?_) (fun hb=>?_)
                 ·replace h:=cH (Ew hb) h;refine gm ?_;refine gc (bp (t:=(.int .i64)) [(.const (.int .i64 (0)),_),(.const (.int .i64 (1)),_),(.const (.int .i64 (3)),_)] [0,1,3] rfl rfl dI (.cons rfl .int (.cons rfl .int (.cons rfl .int .nil))) rfl rfl) ?_;obtain⟨j,I,h⟩:=aa h;refine gb (ar [.tmp 128,.tmp 129] rfl rfl Ft rfl (fH k u.1 [0,1,3] j I)) ?_;refine pt ?_;refine aq (nl ?_);exact jz ((),j) h [0]
                 ·replace h:=bS (Ey hb) h;iterate 3 refine gn ?_
                  refine pf ?_;refine aq (nl ?_);exact jz ((),false) h [0]
                ·replace h:=bS (Ey hb) h;iterate 5 refine gn ?_
                 refine pf ?_;refine mq ?_;iterate 3 refine gn ?_
                 refine pf ?_;refine aq (nl ?_);exact jz ((),false) h [0]
               ·replace h:=bS (Ey hb) h;iterate 5 refine gn ?_
                refine pf ?_;refine mq ?_;iterate 5 refine gn ?_
                refine pf ?_;refine mq ?_;iterate 3 refine gn ?_
                refine pf ?_;refine aq (nl ?_);exact jz ((),false) h [0]
              ·replace h:=bS (Ey hb) h;iterate 3 refine gn ?_
               refine pf ?_;refine mq ?_;iterate 5 refine gn ?_
               refine pf ?_;refine mq ?_;iterate 5 refine gn ?_
               refine pf ?_;refine mq ?_;iterate 3 refine gn ?_
               refine pf ?_;refine aq (nl ?_);exact jz ((),false) h [0]
             ·replace h:=bS (nI hb) h;iterate 2 refine gn ?_
              refine pf ?_;refine mq ?_;iterate 3 refine gn ?_
              refine pf ?_;refine mq ?_;iterate 5 refine gn ?_
              refine pf ?_;refine mq ?_;iterate 5 refine gn ?_
              refine pf ?_;refine mq ?_;iterate 3 refine gn ?_
              refine pf ?_;refine aq (nl ?_);exact jz ((),false) h [0]
            ·replace h:=bS (nI hb) h;iterate 2 refine gn ?_
             refine pf ?_;refine mq ?_;iterate 2 refine gn ?_
             refine pf ?_;refine mq ?_;iterate 3 refine gn ?_
             refine pf ?_;refine mq ?_;iterate 5 refine gn ?_
             refine pf ?_;refine mq ?_;iterate 5 refine gn ?_
             refine pf ?_;refine mq ?_;iterate 3 refine gn ?_
             refine pf ?_;refine aq (nl ?_);exact jz ((),false) h [0]
           ·replace h:=bS (nI hb) h;iterate 2 refine gn ?_
            refine pf ?_;refine mq ?_;iterate 2 refine gn ?_
            refine pf ?_;refine mq ?_;iterate 2 refine gn ?_
            refine pf ?_;refine mq ?_;iterate 3 refine gn ?_
            refine pf ?_;refine mq ?_;iterate 5 refine gn ?_
            refine pf ?_;refine mq ?_;iterate 5 refine gn ?_
            refine pf ?_;refine mq ?_;iterate 3 refine gn ?_
            refine pf ?_;refine aq (nl ?_);exact jz ((),false) h [0]
          ·replace h:=bS (nI hb) h;iterate 2 refine gn ?_
           refine pf ?_;refine mq ?_;iterate 2 refine gn ?_
           refine pf ?_;refine mq ?_;iterate 2 refine gn ?_
           refine pf ?_;refine mq ?_;iterate 2 refine gn ?_
           refine pf ?_;refine mq ?_;iterate 3 refine gn ?_
           refine pf ?_;refine mq ?_;iterate 5 refine gn ?_
           refine pf ?_;refine mq ?_;iterate 5 refine gn ?_
           refine pf ?_;refine mq ?_;iterate 3 refine gn ?_
           refine pf ?_;refine aq (nl ?_);exact jz ((),false) h [0]
         ·replace h:=bS (nI hb) h;iterate 2 refine gn ?_
          refine pf ?_;refine mq ?_;iterate 2 refine gn ?_
          refine pf ?_;refine mq ?_;iterate 2 refine gn ?_
          refine pf ?_;refine mq ?_;iterate 2 refine gn ?_
          refine pf ?_;refine mq ?_;iterate 2 refine gn ?_
          refine pf ?_;refine mq ?_;iterate 3 refine gn ?_
          refine pf ?_;refine mq ?_;iterate 5 refine gn ?_
          refine pf ?_;refine mq ?_;iterate 5 refine gn ?_
          refine pf ?_;refine mq ?_;iterate 3 refine gn ?_
          refine pf ?_;refine aq (nl ?_);exact jz ((),false) h [0]
        ·replace h:=bS (nI hb) h;iterate 2 refine gn ?_
         refine pf ?_;refine mq ?_;iterate 2 refine gn ?_
         refine pf ?_;refine mq ?_;iterate 2 refine gn ?_
         refine pf ?_;refine mq ?_;iterate 2 refine gn ?_
         refine pf ?_;refine mq ?_;iterate 2 refine gn ?_
         refine pf ?_;refine mq ?_;iterate 2 refine gn ?_
         refine pf ?_;refine mq ?_;iterate 3 refine gn ?_
         refine pf ?_;refine mq ?_;iterate 5 refine gn ?_
         refine pf ?_;refine mq ?_;iterate 5 refine gn ?_
         refine pf ?_;refine mq ?_;iterate 3 refine gn ?_
         refine pf ?_;refine aq (nl ?_);exact jz ((),false) h [0]
       ·replace h:=bS (nI hb) h;iterate 2 refine gn ?_
        refine pf ?_;refine mq ?_;iterate 2 refine gn ?_
        refine pf ?_;refine mq ?_;iterate 2 refine gn ?_
        refine pf ?_;refine mq ?_;iterate 2 refine gn ?_
        refine pf ?_;refine mq ?_;iterate 2 refine gn ?_
        refine pf ?_;refine mq ?_;iterate 2 refine gn ?_
        refine pf ?_;refine mq ?_;iterate 2 refine gn ?_
        refine pf ?_;refine mq ?_;iterate 3 refine gn ?_
        refine pf ?_;refine mq ?_;iterate 5 refine gn ?_
        refine pf ?_;refine mq ?_;iterate 5 refine gn ?_
        refine pf ?_;refine mq ?_;iterate 3 refine gn ?_
        refine pf ?_;refine aq (nl ?_);exact jz ((),false) h [0]
      ·replace h:=bS (nI hb) h;iterate 2 refine gn ?_
       refine pf ?_;refine mq ?_;iterate 2 refine gn ?_
       refine pf ?_;refine mq ?_;iterate 2 refine gn ?_
       refine pf ?_;refine mq ?_;iterate 2 refine gn ?_
       refine pf ?_;refine mq ?_;iterate 2 refine gn ?_
       refine pf ?_;refine mq ?_;iterate 2 refine gn ?_
       refine pf ?_;refine mq ?_;iterate 2 refine gn ?_
       refine pf ?_;refine mq ?_;iterate 2 refine gn ?_
       refine pf ?_;refine mq ?_;iterate 3 refine gn ?_
       refine pf ?_;refine mq ?_;iterate 5 refine gn ?_
       refine pf ?_;refine mq ?_;iterate 5 refine gn ?_
       refine pf ?_;refine mq ?_;iterate 3 refine gn ?_
       refine pf ?_;refine aq (nl ?_);exact jz ((),false) h [0]
     ·replace h:=bS (nI hb) h;iterate 2 refine gn ?_
      refine pf ?_;refine mq ?_;iterate 2 refine gn ?_
      refine pf ?_;refine mq ?_;iterate 2 refine gn ?_
      refine pf ?_;refine mq ?_;iterate 2 refine gn ?_
      refine pf ?_;refine mq ?_;iterate 2 refine gn ?_
      refine pf ?_;refine mq ?_;iterate 2 refine gn ?_
      refine pf ?_;refine mq ?_;iterate 2 refine gn ?_
      refine pf ?_;refine mq ?_;iterate 2 refine gn ?_
      refine pf ?_;refine mq ?_;iterate 2 refine gn ?_
      refine pf ?_;refine mq ?_;iterate 3 refine gn ?_
      refine pf ?_;refine mq ?_;iterate 5 refine gn ?_
      refine pf ?_;refine mq ?_;iterate 5 refine gn ?_
      refine pf ?_;refine mq ?_;iterate 3 refine gn ?_
      refine pf ?_;refine aq (nl ?_);exact jz ((),false) h [0]
    ·replace h:=bS (nI hb) h;iterate 2 refine gn ?_
     refine pf ?_;refine mq ?_;iterate 2 refine gn ?_
     refine pf ?_;refine mq ?_;iterate 2 refine gn ?_
     refine pf ?_;refine mq ?_;iterate 2 refine gn ?_
     refine pf ?_;refine mq ?_;iterate 2 refine gn ?_
     refine pf ?_;refine mq ?_;iterate 2 refine gn ?_
     refine pf ?_;refine mq ?_;iterate 2 refine gn ?_
     refine pf ?_;refine mq ?_;iterate 2 refine gn ?_
     refine pf ?_;refine mq ?_;iterate 2 refine gn ?_
     refine pf ?_;refine mq ?_;iterate 2 refine gn ?_
     refine pf ?_;refine mq ?_;iterate 3 refine gn ?_
     refine pf ?_;refine mq ?_;iterate 5 refine gn ?_
     refine pf ?_;refine mq ?_;iterate 5 refine gn ?_
     refine pf ?_;refine mq ?_;iterate 3 refine gn ?_
     refine pf ?_;refine aq (nl ?_);exact jz ((),false) h [0]
   ·replace h:=bS (nI hb) h;iterate 2 refine gn ?_
    refine pf ?_;refine mq ?_;iterate 2 refine gn ?_
    refine pf ?_;refine mq ?_;iterate 2 refine gn ?_
    refine pf ?_;refine mq ?_;iterate 2 refine gn ?_
    refine pf ?_;refine mq ?_;iterate 2 refine gn ?_
    refine pf ?_;refine mq ?_;iterate 2 refine gn ?_
    refine pf ?_;refine mq ?_;iterate 2 refine gn ?_
    refine pf ?_;refine mq ?_;iterate 2 refine gn ?_
    refine pf ?_;refine mq ?_;iterate 2 refine gn ?_
    refine pf ?_;refine mq ?_;iterate 2 refine gn ?_
    refine pf ?_;refine mq ?_;iterate 2 refine gn ?_
    refine pf ?_;refine mq ?_;iterate 3 refine gn ?_
    refine pf ?_;refine mq ?_;iterate 5 refine gn ?_
    refine pf ?_;refine mq ?_;iterate 5 refine gn ?_
    refine pf ?_;refine mq ?_;iterate 3 refine gn ?_
    refine pf ?_;refine aq (nl ?_);exact jz ((),false) h [0]
  ·replace h:=bS (nI hb) h;iterate 2 refine gn ?_
   refine pf ?_;refine mq ?_;iterate 2 refine gn ?_
   refine pf ?_;refine mq ?_;iterate 2 refine gn ?_
   refine pf ?_;refine mq ?_;iterate 2 refine gn ?_
   refine pf ?_;refine mq ?_;iterate 2 refine gn ?_
   refine pf ?_;refine mq ?_;iterate 2 refine gn ?_
   refine pf ?_;refine mq ?_;iterate 2 refine gn ?_
   refine pf ?_;refine mq ?_;iterate 2 refine gn ?_
   refine pf ?_;refine mq ?_;iterate 2 refine gn ?_
   refine pf ?_;refine mq ?_;iterate 2 refine gn ?_
   refine pf ?_;refine mq ?_;iterate 2 refine gn ?_
   refine pf ?_;refine mq ?_;iterate 2 refine gn ?_
   refine pf ?_;refine mq ?_;iterate 3 refine gn ?_
   refine pf ?_;refine mq ?_;iterate 5 refine gn ?_
   refine pf ?_;refine mq ?_;iterate 5 refine gn ?_
   refine pf ?_;refine mq ?_;iterate 3 refine gn ?_
   refine pf ?_;refine aq (nl ?_);exact jz ((),false) h [0]
 ·
  refine aA ?_;cases h;exact aQ () [_] 1 ⟨rfl,trivial⟩ rfl
def kU(k:Nat)(a0:aP)(a1:eF)(a2:(List (List Int)))(a3:bW):Option ((List aP)×(List (List (List Int)))×bW):=
 (kx k (a3.1,a3.2.1,a3.2.2) 4 3).bind fun r3=>
 (iU k r3.1).bind fun r5=>
 (dY k a1.2).bind fun r8=>
 (dy (bM (List.length r5.2.1+List.length [(a1.1,r8)]))).bind fun _=>
 (fa k (r3.2.1,r3.2.2.1,r3.2.2.2) r3.1).bind fun e=>
 (fa k (e.2.1,e.2.2.1,e.2.2.2) r3.1).bind fun c=>
 (((ck ((r3.1.2.2.length:Int) - 1)).bind fun h=>
 if(r5.2.2.length:Int) < 3 then((aS r5.2.2 h).bind fun u=>
 (ck (u+3)).bind fun s=>
 (aS r5.2.2 h).bind fun y=>
 (aS [a2,e.1,a2,c.1] 3).bind fun r=>
 (ff k r).bind fun n=>
 (aS [a2,e.1,a2,c.1] 3).bind fun x=>
 (aS n h).bind fun j=>
 (dy (bM (List.length j+List.length [(r3.1.2.1.length:Int)]))).bind fun _=>
 some (List.set r5.2.2 (Int.toNat h) (jZ 9 s),List.set [a2,e.1,a2,c.1] (Int.toNat 3) (List.set n (Int.toNat h) (j++[(r3.1.2.1.length:Int)])))) else(some (r5.2.2,[a2,e.1,a2,c.1]))):Option ((List Int)×(List (List (List Int))))).bind fun l=>
 some ([a0,r3.1,r3.1,(r5.1,r5.2.1++[(a1.1,r8)],l.1)],l.2,(c.2.1,c.2.2.1,c.2.2.2))
theorem vu(k:Nat)(a0:aP)(a1:eF)(a2:(List (List Int)))(a3:bW)(e:Nat)(r:(List aP)×(List (List (List Int)))×bW)(h:kU k a0 a1 a2 a3=some r):
 bZ Tryz.prog 14 [.rep ap a0,.rep aH a1,.rep (.slice (.slice (.int .i64))) a2,Pt e] [.obj e 75 (.agg (.pair (Ri a3.1) (.pair (I a3.2.1) (.eq (.int .u64 a3.2.2)))))] (fun _:Unit=>(bu [Rs ap r.1,.rep (.slice (.slice (.slice (.int .i64)))) r.2.1],[.obj e 75 (.agg (.pair (Ri r.2.2.1) (.pair (I r.2.2.2.1) (.eq (.int .u64 r.2.2.2.2)))))])):=by
 unfold kU at h
 replace h:=bb h
 refine bZ.of 85 Tryz.func14 rfl Tryz.ntmps14 rfl fun S w0=>?_
 refine sr ?_
 refine bx fun b1=>?_
 refine bx fun b2=>?_
 refine cq ?_
 refine cq ?_
 refine nt ?_
 refine sr ?_
 refine mq ?_
 obtain⟨r3,UQ,h⟩:=aa h
 have UT:=wx k (a3.1,a3.2.1,a3.2.2) e 4 3 r3 UQ
 refine fr 2 ?_
 refine kc (ar [.tmp 14,.const (.int .i64 (4)),.const (.int .i64 (3))] rfl rfl SZ rfl UT) ?_
 refine aD rfl rfl rfl (a9 rfl kh mz) trivial fun b4=>?_
 refine bf rfl rfl (a8 rfl cJ rfl rfl rfl) ⟨rfl,rfl,trivial⟩ ?_
 refine nt ?_
 refine sr ?_
 refine lo cJ ?_
 obtain⟨r5,UP,h⟩:=aa h
 have US:=ui k r3.1 r5 UP
 refine bT (Δ:=[]) (F:=_) (fun _ _ _=>ay rfl _) rfl rfl (ar [.tmp 16] rfl rfl Qx rfl US) ⟨rfl,trivial⟩ fun z6=>?_
 refine aD rfl rfl rfl (a9 rfl kh mz) trivial fun b7=>?_
 refine bf rfl rfl (a8 rfl cJ trivial rfl rfl) ⟨rfl,rfl,trivial⟩ ?_
 refine nt ?_
 refine ae ?_
 refine bO ?_
 refine da (av rfl bU) ?_
 refine ea 0 (aj rfl eR jt rfl) ?_
 refine da (av rfl kB) ?_
 refine ea 5 (aj rfl cg jt rfl) ?_
 refine da (av rfl j0) ?_
 refine ea 5 (aj rfl bR jt rfl) ?_
 obtain⟨r8,UO,h⟩:=aa h
 have UR:=cy k a1.2 r8 UO
 refine da (sF (ar [.tmp 23] rfl rfl ul rfl UR)) ?_
 refine db (cI [(0,.tmp 21,_),(1,.tmp 24,_)] rfl zG uc t9 (ia ⟨rfl,rfl,trivial⟩) rfl) ?_
 refine da (bp (t:=aH) [(.tmp 25,_)] [(a1.1,r8)] rfl rfl xN (.cons trivial (.agg (.pair .int .rep)) .nil) rfl rfl) ?_
 refine df cD ?_
 obtain⟨u9,UN,h⟩:=aa h
 refine fr 1 ?_
 refine c6 rfl rfl rfl (bH rfl rfl xN (aB UN)) ⟨rfl,rfl,trivial⟩ fun j=>?_
 refine fl bU ?_
 refine om fun o11=>?_
 refine fr 1 ?_
 refine bf rfl rfl (a8 rfl eR o11 rfl rfl) ⟨rfl,rfl,trivial⟩ ?_
 refine nt ?_
 refine ae ?_
 refine FX [0,2,4,5,6,1,3,7,8,9] (by kernel_rfl) ?_
 refine aI rfl rfl rfl (aL rfl) ⟨rfl,trivial⟩ ?_
 refine dn 3 rfl rfl rfl rfl (aj rfl cJ (vX) rfl) ⟨rfl,trivial⟩ ?_
 refine aI rfl rfl rfl (aL rfl) ⟨rfl,trivial⟩ ?_
 refine aI rfl rfl rfl (aL rfl) ⟨rfl,trivial⟩ ?_
 refine dn 3 rfl rfl rfl rfl (aj rfl cJ (vX) rfl) ⟨rfl,trivial⟩ ?_
 refine aI rfl rfl rfl (aL rfl) ⟨rfl,trivial⟩ ?_
 refine mo 6 [false,true,false,false,false,true] [32,36] [3] [.obj b4 25 (.rep ap r3.1)] rfl (by kernel_rfl) (by kernel_rfl) (by kernel_rfl) cD (fun vs hv hB=>?_)
 obtain⟨w0,UJ,rfl,Ul⟩:=ak hv
 obtain⟨w1,UI,rfl,Uk⟩:=ak Ul
 obtain⟨w2,UH,rfl,se⟩:=ak Uk
 obtain⟨w3,UG,rfl,qt⟩:=ak se
 obtain⟨w4,UF,rfl,pp⟩:=ak qt
 obtain⟨w5,UE,rfl,mc⟩:=ak pp
 obtain rfl:=jW mc
 refine⟨[3,0,1,2,4,5,6],[.obj b7 25 (.agg (.pair (I r5.1) (.pair (.eq j) (.eq z6.2)))),.sl j 27 aH (r5.2.1++[(a1.1,r8)]),.sl z6.2 3 (.int .i64) r5.2.2,.obj e 75 (.agg (.pair (Ri r3.2.1) (.pair (I r3.2.2.1) (.eq (.int .u64 r3.2.2.2))))),.obj b2 27 (.rep aH a1),.obj b1 25 (.rep ap a0)],by kernel_rfl,by decide,?_⟩
 obtain⟨x,UA,h⟩:=aa h
 have UC:=ny k (r3.2.1,r3.2.2.1,r3.2.2.2) e r3.1 x UA
 refine iN 3 rfl ?_
 refine vS rfl rfl rfl rfl (ar [.tmp 30,.tmp 31] rfl rfl Ql rfl UC) ⟨rfl,rfl,trivial⟩ (by kernel_rfl) ?_
 obtain⟨c,Uz,h⟩:=aa h
 have UB:=ny k (x.2.1,x.2.2.1,x.2.2.2) e r3.1 c Uz
 refine vS rfl rfl rfl rfl (ar [.tmp 34,.tmp 35] rfl rfl Ql rfl UB) ⟨rfl,rfl,trivial⟩ (by kernel_rfl) ?_
 refine C6 (by kernel_rfl) ?_
 refine aD rfl rfl rfl (l8 (t:=(.slice (.slice (.int .i64)))) [(.tmp 29,_),(.tmp 32,_),(.tmp 33,_),(.tmp 36,_)] [a2,x.1,a2,c.1] rfl rfl RG (.cons rfl .rep (.cons rfl .rep (.cons rfl .rep (.cons rfl .rep .nil)))) rfl rfl) ⟨rfl,rfl,rfl,rfl,trivial⟩ fun y=>?_
 refine aq ?_
 refine nt ?_
 refine aM (Z:=Unit) (α:=(List Int)×(List (List (List Int)))) (fun Um U=>[(4,Pt b1),(10,Pt b4),(11,Pt b7),(12,.eq y)]) (fun Um U=>[.obj b1 25 (.rep ap a0),.obj b4 25 (.rep ap r3.1),.obj b7 25 (.agg (.pair (I r5.1) (.pair (.eq j) (.eq z6.2)))),.sl j 27 aH (r5.2.1++[(a1.1,r8)]),.sl z6.2 3 (.int .i64) U.1,.sl y 28 (.slice (.slice (.int .i64))) U.2,.obj e 75 (.agg (.pair (Ri c.2.1) (.pair (I c.2.2.1) (.eq (.int .u64 c.2.2.2)))))]) h (fun K h=>?_) (fun Um U h=>?_)
 ·
  refine sr (fl cK ?_);refine fr 1 ?_;refine lo bR ?_;refine ol dA ?_;obtain⟨s,Uw,h⟩:=aa h;refine jb (fS rfl Uw) ?_;refine aq (nt (sr ?_));refine fl cK ?_;refine fr 3 ?_;refine lo bR ?_;refine fr 5 ?_;refine ka (cY rfl rfl dA) ?_;refine jb (bj rfl) ?_;refine nt (ci h (fun h=>?_) (fun h=>?_))
  ·refine ae (bO ?_);refine da (av rfl cK) ?_;refine ea 1 (aj rfl bR jt rfl) ?_;refine dm ?_;refine da (av rfl cK) ?_;refine ea 1 (aj rfl bR jt rfl) ?_;refine dm ?_;obtain⟨U2,ac,h⟩:=aa h;refine eb 0 (aZ (t:=(.int .i64)) rfl dA cg ac) ?_;refine ea 0 (dG (i:=Int.toNat s) (off:=0) rfl cg (fun _=>rfl) rfl (cm ac).2.2 rfl) ?_;obtain⟨D,Uu,h⟩:=aa h;refine db (bg rfl Uu) ?_;refine db (Dw rfl rfl) ?_;refine df cD ?_;obtain⟨U1,Y,h⟩:=aa h;refine kb (aZ (t:=(.int .i64)) rfl dA cg Y) ?_;refine bf rfl rfl (cF (i:=Int.toNat s) rfl cg rfl (gf Y) rfl .int rfl) ⟨rfl,rfl,trivial⟩ ?_;refine nt (sr ?_);iterate 2 refine mq ?_
   obtain⟨UD,X,h⟩:=aa h;refine fr 3 ?_;refine kb (aZ (t:=(.slice (.slice (.int .i64)))) rfl MA qh X) ?_;refine ka (dG (i:=Int.toNat 3) (off:=0) rfl qh (fun _=>rfl) rfl (cm X).2.2 rfl) ?_;obtain⟨E,Uy,h⟩:=aa h;refine bT (Δ:=[]) (F:=[.sl y 28 (.slice (.slice (.int .i64))) [a2,x.1,a2,c.1],.sl z6.2 3 (.int .i64) (List.set r5.2.2 (Int.toNat s) (jZ 9 D)),.obj b7 25 (.agg (.pair (I r5.1) (.pair (.eq j) (.eq z6.2)))),.obj b4 25 (.rep ap r3.1),.obj e 75 (.agg (.pair (Ri c.2.1) (.pair (I c.2.2.1) (.eq (.int .u64 c.2.2.2))))),.sl j 27 aH (r5.2.1++[(a1.1,r8)]),.obj b2 27 (.rep aH a1),.obj b1 25 (.rep ap a0)]) (fun _ _ _=>ay rfl _) rfl rfl (ar [.tmp 60] rfl rfl Qu rfl (rZ k UD E Uy)) ⟨rfl,trivial⟩ fun n=>?_;refine cC (fC List.perm_append_comm) ?_;obtain⟨U0,M,h⟩:=aa h;refine kb (aZ (t:=(.slice (.slice (.int .i64)))) rfl MA qh M) ?_;refine I9 (pre:=[.sl y 28 (.slice (.slice (.int .i64))) [a2,x.1,a2,c.1],.sl z6.2 3 (.int .i64) (List.set r5.2.2 (Int.toNat s) (jZ 9 D)),.obj b7 25 (.agg (.pair (I r5.1) (.pair (.eq j) (.eq z6.2)))),.obj b4 25 (.rep ap r3.1),.obj e 75 (.agg (.pair (Ri c.2.1) (.pair (I c.2.2.1) (.eq (.int .u64 c.2.2.2))))),.sl j 27 aH (r5.2.1++[(a1.1,r8)]),.obj b2 27 (.rep aH a1),.obj b1 25 (.rep ap a0)]) fun oz25=>?_;refine cC FM ?_;refine bf rfl rfl (cF (i:=Int.toNat 3) rfl qh rfl (by rw [List.length_map];exact gf M) rfl (.altR oz25) oz25) ⟨rfl,rfl,trivial⟩ ?_;refine nt ?_;obtain⟨Q,J,h⟩:=aa h;refine dN (tQ (pre:=[.sl y 28 (.alt (.slice (.slice (.int .i64)))) (List.set (List.map Sum.inl [a2,x.1,a2,c.1]) (Int.toNat 3) (.inr n.1)),.sl z6.2 3 (.int .i64) (List.set r5.2.2 (Int.toNat s) (jZ 9 D)),.obj b7 25 (.agg (.pair (I r5.1) (.pair (.eq j) (.eq z6.2)))),.obj b4 25 (.rep ap r3.1),.obj e 75 (.agg (.pair (Ri c.2.1) (.pair (I c.2.2.1) (.eq (.int .u64 c.2.2.2))))),.sl j 27 aH (r5.2.1++[(a1.1,r8)]),.obj b2 27 (.rep aH a1),.obj b1 25 (.rep ap a0)]) (pX J).2) ?_;obtain⟨Ve,Ux,h⟩:=aa h;refine sH (Δ:=[.sl (n.2 (Int.toNat s)) 3 (.int .i64) Q,.sl n.1 23 .val (eA n.2 0 E),.sl y 28 (.alt (.slice (.slice (.int .i64)))) (List.set (List.map Sum.inl [a2,x.1,a2,c.1]) (Int.toNat 3) (.inr n.1)),.sl z6.2 3 (.int .i64) (List.set r5.2.2 (Int.toNat s) (jZ 9 D)),.obj b7 25 (.agg (.pair (I r5.1) (.pair (.eq j) (.eq z6.2)))),.obj b4 25 (.rep ap r3.1),.obj e 75 (.agg (.pair (Ri c.2.1) (.pair (I c.2.2.1) (.eq (.int .u64 c.2.2.2))))),.sl j 27 aH (r5.2.1++[(a1.1,r8)]),.obj b2 27 (.rep aH a1),.obj b1 25 (.rep ap a0)]) (F:=(kM n.2 0 E).eraseIdx (Int.toNat s)) (Z:=Value) (fun i=>[(4,Pt b1),(10,Pt b4),(11,Pt b7),(12,.eq y)]) (fun i=>[.sl n.1 23 .val (List.set (eA n.2 0 E) (Int.toNat s) i),.sl i 3 (.int .i64) (Q++[(r3.1.2.1.length:Int)]),.sl y 28 (.alt (.slice (.slice (.int .i64)))) (List.set (List.map Sum.inl [a2,x.1,a2,c.1]) (Int.toNat 3) (.inr n.1)),.sl z6.2 3 (.int .i64) (List.set r5.2.2 (Int.toNat s) (jZ 9 D)),.obj b7 25 (.agg (.pair (I r5.1) (.pair (.eq j) (.eq z6.2)))),.obj b4 25 (.rep ap r3.1),.obj e 75 (.agg (.pair (Ri c.2.1) (.pair (I c.2.2.1) (.eq (.int .u64 c.2.2.2))))),.sl j 27 aH (r5.2.1++[(a1.1,r8)]),.obj b2 27 (.rep aH a1),.obj b1 25 (.rep ap a0)]) (fun S w=>?_) (fun O=>?_)
   ·refine jm ?_;refine aI rfl rfl rfl (aL rfl) ⟨rfl,trivial⟩ ?_;refine dn 2 rfl rfl rfl rfl (aZ (t:=.alt (.slice (.slice (.int .i64)))) rfl MA qh (sd M _)) ⟨rfl,rfl,trivial⟩ ?_;refine dn 2 rfl rfl rfl rfl (vj (i:=Int.toNat 3) rfl qh rfl (cm (sd M _)).2.2) ⟨rfl,trivial⟩ ?_;refine aI rfl rfl rfl (aL rfl) ⟨rfl,trivial⟩ ?_;refine aI rfl rfl rfl (aL rfl) ⟨rfl,trivial⟩ ?_;refine dn 2 rfl rfl rfl rfl (aZ (t:=.alt (.slice (.slice (.int .i64)))) rfl MA qh (sd M _)) ⟨rfl,rfl,trivial⟩ ?_;refine dn 2 rfl rfl rfl rfl (vj (i:=Int.toNat 3) rfl qh rfl (cm (sd M _)).2.2) ⟨rfl,trivial⟩ ?_;refine aI rfl rfl rfl (aL rfl) ⟨rfl,trivial⟩ ?_;refine dn 1 rfl rfl rfl rfl (aZ (t:=.val) rfl mA bR (kH J)) ⟨rfl,rfl,trivial⟩ ?_;refine dn 1 rfl rfl rfl rfl (dG (i:=Int.toNat s) (off:=0) rfl bR (fun _=>rfl) rfl (cm (kH J)).2.2 rfl) ⟨rfl,trivial⟩ ?_;refine aI rfl rfl rfl (av rfl bU) ⟨rfl,trivial⟩ ?_;refine dn 5 rfl rfl rfl rfl (aj rfl eR jt rfl) ⟨rfl,trivial⟩ ?_;refine aI rfl rfl rfl (jE rfl rfl mB) ⟨rfl,trivial⟩ ?_;refine aI rfl rfl rfl (bp (t:=(.int .i64)) [(.tmp 75,_)] [(r3.1.2.1.length:Int)] rfl rfl dI (.cons rfl .int .nil) rfl rfl) ⟨rfl,trivial⟩ ?_;refine sJ 0 rfl (fun v=>[.sl v 3 (.int .i64) (Q++[(r3.1.2.1.length:Int)])]) (fun _=>rfl) rfl rfl rfl (bH rfl rfl dI (aB Ux)) ⟨rfl,rfl,trivial⟩ ?_;refine mo 15 [true,true,true,true,true,true,true,true,true,true,true,true,true,true,true] [78] [] [] rfl (by kernel_rfl) (by kernel_rfl) (by kernel_rfl) cD (fun vs hv hB=>?_);obtain⟨w0,UJ,rfl,Ul⟩:=ak hv;obtain⟨w1,UI,rfl,Uk⟩:=ak Ul;obtain⟨w2,UH,rfl,se⟩:=ak Uk;obtain⟨w3,UG,rfl,qt⟩:=ak se;obtain⟨w4,UF,rfl,pp⟩:=ak qt;obtain⟨w5,UE,rfl,mc⟩:=ak pp;obtain⟨w6,Vd,rfl,UM⟩:=ak mc;obtain⟨w7,Vb,rfl,UL⟩:=ak UM;obtain⟨w8,Va,rfl,UK⟩:=ak UL;obtain⟨w9,UZ,rfl,Ut⟩:=ak UK;obtain⟨U8,UY,rfl,Us⟩:=ak Ut;obtain⟨U7,UX,rfl,Ur⟩:=ak Us;obtain⟨U6,UW,rfl,Up⟩:=ak Ur;obtain⟨U4,UV,rfl,Uo⟩:=ak Up;obtain⟨O,UU,rfl,Un⟩:=ak Uo;obtain rfl:=jW Un;refine⟨[0,1,2,3,4,5,6,7,8,9],[.sl n.1 23 .val (eA n.2 0 E),.sl y 28 (.alt (.slice (.slice (.int .i64)))) (List.set (List.map Sum.inl [a2,x.1,a2,c.1]) (Int.toNat 3) (.inr n.1)),.sl z6.2 3 (.int .i64) (List.set r5.2.2 (Int.toNat s) (jZ 9 D)),.obj b7 25 (.agg (.pair (I r5.1) (.pair (.eq j) (.eq z6.2)))),.obj b4 25 (.rep ap r3.1),.obj e 75 (.agg (.pair (Ri c.2.1) (.pair (I c.2.2.1) (.eq (.int .u64 c.2.2.2))))),.sl j 27 aH (r5.2.1++[(a1.1,r8)]),.obj b2 27 (.rep aH a1),.obj b1 25 (.rep ap a0),.sl O 3 (.int .i64) (Q++[(r3.1.2.1.length:Int)])],by kernel_rfl,by decide,?_⟩;refine vS rfl rfl rfl rfl (aZ (t:=.val) rfl mA bR (kH J)) ⟨rfl,rfl,trivial⟩ (by kernel_rfl) ?_;refine iN 9 rfl ?_;refine C5 fun o29=>?_;refine iN 1 rfl ?_;refine oh rfl rfl (cF (i:=Int.toNat s) rfl bR rfl (gf (kH J)) rfl (.val o29) o29) ⟨rfl,rfl,trivial⟩ (by kernel_rfl) ?_;refine pG ?_;refine bv (SE.fin (Γ':=[(4,Pt b1),(10,Pt b4),(11,Pt b7),(12,.eq y)]) (Δ':=[.sl n.1 23 .val (List.set (eA n.2 0 E) (Int.toNat s) O),.sl O 3 (.int .i64) (Q++[(r3.1.2.1.length:Int)]),.sl y 28 (.alt (.slice (.slice (.int .i64)))) (List.set (List.map Sum.inl [a2,x.1,a2,c.1]) (Int.toNat 3) (.inr n.1)),.sl z6.2 3 (.int .i64) (List.set r5.2.2 (Int.toNat s) (jZ 9 D)),.obj b7 25 (.agg (.pair (I r5.1) (.pair (.eq j) (.eq z6.2)))),.obj b4 25 (.rep ap r3.1),.obj e 75 (.agg (.pair (Ri c.2.1) (.pair (I c.2.2.1) (.eq (.int .u64 c.2.2.2))))),.sl j 27 aH (r5.2.1++[(a1.1,r8)]),.obj b2 27 (.rep aH a1),.obj b1 25 (.rep ap a0)]) [0,1,2,3,4,5,6,7,8,9] ⟨rfl,rfl,rfl,rfl,trivial⟩ rfl) ?_
    exact fun a w st=>⟨rfl,(O),(SE.fin (Γ':=[(4,Pt b1),(10,Pt b4),(11,Pt b7),(12,.eq y)]) (Δ':=[.sl n.1 23 .val (List.set (eA n.2 0 E) (Int.toNat s) O),.sl O 3 (.int .i64) (Q++[(r3.1.2.1.length:Int)]),.sl y 28 (.alt (.slice (.slice (.int .i64)))) (List.set (List.map Sum.inl [a2,x.1,a2,c.1]) (Int.toNat 3) (.inr n.1)),.sl z6.2 3 (.int .i64) (List.set r5.2.2 (Int.toNat s) (jZ 9 D)),.obj b7 25 (.agg (.pair (I r5.1) (.pair (.eq j) (.eq z6.2)))),.obj b4 25 (.rep ap r3.1),.obj e 75 (.agg (.pair (Ri c.2.1) (.pair (I c.2.2.1) (.eq (.int .u64 c.2.2.2))))),.sl j 27 aH (r5.2.1++[(a1.1,r8)]),.obj b2 27 (.rep aH a1),.obj b1 25 (.rep ap a0)]) [0,1,2,3,4,5,6,7,8,9] ⟨rfl,rfl,rfl,rfl,trivial⟩ rfl) a w st⟩
   ·show JN _ _ [(4,Pt b1),(10,Pt b4),(11,Pt b7),(12,.eq y)] ([.sl n.1 23 .val (List.set (eA n.2 0 E) (Int.toNat s) O),.sl O 3 (.int .i64) (Q++[(r3.1.2.1.length:Int)]),.sl y 28 (.alt (.slice (.slice (.int .i64)))) (List.set (List.map Sum.inl [a2,x.1,a2,c.1]) (Int.toNat 3) (.inr n.1)),.sl z6.2 3 (.int .i64) (List.set r5.2.2 (Int.toNat s) (jZ 9 D)),.obj b7 25 (.agg (.pair (I r5.1) (.pair (.eq j) (.eq z6.2)))),.obj b4 25 (.rep ap r3.1),.obj e 75 (.agg (.pair (Ri c.2.1) (.pair (I c.2.2.1) (.eq (.int .u64 c.2.2.2))))),.sl j 27 aH (r5.2.1++[(a1.1,r8)]),.obj b2 27 (.rep aH a1),.obj b1 25 (.rep ap a0)]++(kM n.2 0 E).eraseIdx (Int.toNat s));refine dk 1 rfl ?_;refine bv (vP (pre:=[.sl y 28 (.alt (.slice (.slice (.int .i64)))) (List.set (List.map Sum.inl [a2,x.1,a2,c.1]) (Int.toNat 3) (.inr n.1)),.sl z6.2 3 (.int .i64) (List.set r5.2.2 (Int.toNat s) (jZ 9 D)),.obj b7 25 (.agg (.pair (I r5.1) (.pair (.eq j) (.eq z6.2)))),.obj b4 25 (.rep ap r3.1),.obj e 75 (.agg (.pair (Ri c.2.1) (.pair (I c.2.2.1) (.eq (.int .u64 c.2.2.2))))),.sl j 27 aH (r5.2.1++[(a1.1,r8)]),.obj b2 27 (.rep aH a1),.obj b1 25 (.rep ap a0)]) (z:=n) (i:=Int.toNat s) (pX J).2) ?_;refine ag (bv (A0 (pre:=[.sl y 28 (.alt (.slice (.slice (.int .i64)))) (List.set (List.map Sum.inl [a2,x.1,a2,c.1]) (Int.toNat 3) (.inr n.1)),.sl z6.2 3 (.int .i64) (List.set r5.2.2 (Int.toNat s) (jZ 9 D)),.obj b7 25 (.agg (.pair (I r5.1) (.pair (.eq j) (.eq z6.2)))),.obj b4 25 (.rep ap r3.1),.obj e 75 (.agg (.pair (Ri c.2.1) (.pair (I c.2.2.1) (.eq (.int .u64 c.2.2.2))))),.sl j 27 aH (r5.2.1++[(a1.1,r8)]),.obj b2 27 (.rep aH a1),.obj b1 25 (.rep ap a0)])) ?_);refine bv (FN (u:=.slice (.int .i64)) (l:=[a2,x.1,a2,c.1]) (i:=Int.toNat 3)) ?_;exact jz ((),(List.set r5.2.2 (Int.toNat s) (jZ 9 D),List.set [a2,x.1,a2,c.1] (Int.toNat 3) (List.set E (Int.toNat s) (Q++[(r3.1.2.1.length:Int)])))) h [7,3,2,5,1,0,4]
  ·refine aY (ag ?_);exact jz ((),(r5.2.2,[a2,x.1,a2,c.1])) h [7,2,1,5,0,3,4]
 ·
  refine sr (lo cJ ?_);refine fr 1 ?_;refine lo cJ ?_;refine lo cJ ?_;refine fr 2 ?_;refine fr 3 ?_;refine cC (kF (off:=1) [] trivial rfl rfl) ?_;refine fr 3 ?_;refine cC (kF (off:=2) [] trivial rfl rfl) ?_;refine lo cJ ?_;refine aG rfl (bp (t:=ap) [(.tmp 79,_),(.tmp 80,_),(.tmp 81,_),(.tmp 82,_)] [a0,r3.1,r3.1,(r5.1,r5.2.1++[(a1.1,r8)],U.1)] rfl rfl RH (.cons rfl .rep (.cons rfl .rep (.cons rfl .rep (.cons trivial (.agg (.pair .int (.pair .rep .rep))) .nil)))) rfl rfl) ⟨rfl,rfl,rfl,rfl,trivial⟩ ?_;refine mq ?_;refine aq ?_;refine aq (nt (aA ?_));refine dk 3 rfl ?_;refine bv (eK [9,12,84] ⟨rfl,rfl,rfl,trivial⟩) ?_;refine bv (SE.fin (Γ':=[(8,_),(9,_)]) [3,0,1,2] ⟨rfl,rfl,trivial⟩ rfl) ?_;cases h;exact aQ () [_,_] 1 ⟨rfl,rfl,trivial⟩ rfl
def gV(k:Nat)(e:(List (List Int))×(List Int)×Int)(h:Int×(List (List Int))):Nat→((List Int)×Int)→Option (List Int)
 |0,_=>none
 |n+1,c=>
  if c.2 < (e.2.1.length:Int) then((((dK k h.1 c.2).bind fun u=>
  if u=true then((aS c.1 c.2).bind fun r=>
  (ck (r+1)).bind fun l=>
  (aS c.1 c.2).bind fun x=>
  some (List.set c.1 (Int.toNat c.2) l)) else(some c.1)):Option ((List Int))).bind fun s=>
  (ck (c.2+1)).bind fun j=>
  gV k e h n (s,j)) else(some c.1)
def iP(k:Nat)(a0:aP):Nat→((List (List Int))×(List Int)×Int)→Option (List Int)
 |0,_=>none
 |n+1,c=>
  if c.2.2 < a0.1 then((((gU k (a0,()) c.1 c.2.2).bind fun h=>
  ((gV k c h k (c.2.1,0)):Option ((List Int))).bind fun l=>
  some (h.2,l)):Option ((List (List Int))×(List Int))).bind fun e=>
  (ck (c.2.2+1)).bind fun j=>
  iP k a0 n (e.1,e.2,j)) else(some c.2.1)
def kj(k:Nat)(a0:aP)(a1:(List (List Int))):Option ((List Int)×Int):=
 (cz k a0 a1).bind fun r2=>
 if¬(r2=0) then(some ([],r2)) else((dL k a1).bind fun r4=>
 (dy (0≤(a0.2.1.length:Int)∧bM (Int.toNat (a0.2.1.length:Int)))).bind fun _=>
 ((iP k a0 k (r4,List.replicate (Int.toNat (a0.2.1.length:Int)) 0,0)):Option ((List Int))).bind fun x8=>
 some (x8,0))
theorem xI(k:Nat)(a0:aP)(a1:(List (List Int)))(r:(List Int)×Int)(h:kj k a0 a1=some r):
 bZ Tryz.prog 37 [.rep ap a0,.rep (.slice (.slice (.int .i64))) a1] [.inv 0 (dZ)] (fun _:Unit=>(bu [Ri r.1,I r.2],[.inv 0 (dZ)])):=by
 unfold kj at h
 replace h:=bb h
 refine bZ.of 58 Tryz.func37 rfl Tryz.ntmps37 rfl fun S w0=>?_
 refine sr ?_
 refine bx fun b1=>?_
 refine cq ?_
 refine cq ?_
 refine nt ?_
 refine ae ?_
 refine sr ?_
 refine lo cJ ?_
 refine mq ?_
 obtain⟨r2,Un,h⟩:=aa h
 have Uo:=eN k a0 a1 r2 Un
 refine fr 1 ?_
 refine kb (ar [.tmp 14,.tmp 15] rfl rfl K0 rfl Uo) ?_
 refine aq ?_
 refine nt ?_
 refine sr ?_
 refine mq ?_
 refine jb (gP rfl) ?_
 refine nt ?_
 refine cn h (fun h=>?_) (fun h=>?_)
 ·
  refine sr (mq ?_);refine cq ?_;refine aq (nt (rx ?_));refine bv (ml (t:=(.slice (.int .i64))) (x:=[]) 4 rfl .nil rfl rfl) ?_;cases h;exact aQ () [_,_] 1 ⟨rfl,rfl,trivial⟩ rfl
 ·
  refine sk (sr (fr 1 ?_));refine lo cJ ?_;refine aD rfl rfl rfl (ar [.tmp 20] rfl rfl Iz rfl (gi a0)) ⟨rfl,trivial⟩ fun z3=>?_;refine cC (kE (bD k a0) lJ) ?_;refine mq ?_;obtain⟨r4,Um,h⟩:=aa h;refine ja (ar [.tmp 22] rfl rfl CU rfl (d5 k a1 r4 Um)) ?_;refine aD rfl rfl rfl (a9 rfl qF rh) trivial fun b5=>?_;refine aq ?_;refine bf rfl rfl (a8 rfl fm rfl rfl rfl) ⟨rfl,rfl,trivial⟩ ?_;refine nt (sr (fl bU ?_));refine fr 2 ?_;refine lo eR ?_;refine ol mB ?_;obtain⟨u6,ac,h⟩:=aa h;refine aD rfl rfl rfl (ye (t:=(.int .i64)) (d:=0) rfl dI TP (aB ac).1 (aB ac).2) ⟨rfl,rfl,trivial⟩ fun v7=>?_;refine aq (nt ?_);refine aM (Z:=Unit) (α:=(List Int)) (fun z9 x8=>[(9,.eq v7)]) (fun z9 x8=>[.sl v7 3 (.int .i64) x8,.inv 0 (dZ),.inv z3 (bD k a0)]) h (fun K h=>?_) (fun z9 x8 h=>?_)
  ·refine sr (fl fp ?_);refine fr 1 ?_;refine lo cg ?_;refine eG rfl ?_;refine nt (ao (aK (fun Q c=>[(7,.at aw (a0,(.map (some z3)))),(8,Pt b5),(9,.eq v7),(29,I a0.1),(30,I c.2.2)]) (fun Q c=>[.obj b5 86 (.rep (.arr 3 (.arr 5 (.int .i64))) c.1),.sl v7 3 (.int .i64) c.2.1,.inv 0 (dZ),.inv z3 (bD k a0)]) (iP k a0) k () (r4,List.replicate (Int.toNat (a0.2.1.length:Int)) 0,0) (fun _=>rfl) h (SE.fin [2,1,4,3] ⟨rfl,rfl,rfl,rfl,rfl,trivial⟩ rfl) (fun n Q c h=>?_)));unfold iP at h;refine sr (jb (bj rfl) ?_);refine nt (ae (ci h (fun h=>?_) (fun h=>?_)))
   ·refine sk (aM (Z:=Unit) (α:=(List (List Int))×(List Int)) (fun O l=>[(7,.at aw (a0,(.map (some z3)))),(8,Pt b5),(9,.eq v7),(29,I a0.1),(30,I c.2.2)]) (fun O l=>[.obj b5 86 (.rep (.arr 3 (.arr 5 (.int .i64))) l.1),.sl v7 3 (.int .i64) l.2,.inv 0 (dZ),.inv z3 (bD k a0)]) h (fun K h=>?_) (fun O l h=>?_))
    ·refine ao (sr (mq ?_));refine aq (nt (sr ?_));refine mq ?_;refine lo fm ?_;refine mq ?_;obtain⟨j,pp,h⟩:=aa h;refine jc (dS (N:=[(.tmp 34,.at aw (a0,(.map (some z3)))),(.tmp 35,.rep (.arr 3 (.arr 5 (.int .i64))) c.1),(.tmp 36,I c.2.2)]) (ar [.tmp 34,.tmp 35,.tmp 36] rfl rfl NT rfl (lh k (a0,()) c.1 c.2.2 j pp)) fun _ _ _ hn=>⟨(rf hn.1),hn.2.1,hn.2.2.1,trivial⟩) ?_;refine mq ?_;refine xr ?_;refine xr ?_;refine aD rfl rfl rfl (a9 rfl qF rh) trivial fun s=>?_;refine aq ?_;refine bf rfl rfl (a8 rfl fm rfl rfl rfl) ⟨rfl,rfl,trivial⟩ ?_;refine nt (aM (Z:=Unit) (α:=(List Int)) (fun M y=>[(7,.at aw (a0,(.map (some z3)))),(8,Pt b5),(9,.eq v7),(12,Pt s),(29,I a0.1),(30,I c.2.2)]) (fun M y=>[.obj b5 86 (.rep (.arr 3 (.arr 5 (.int .i64))) c.1),.sl v7 3 (.int .i64) y,.obj s 86 (.rep (.arr 3 (.arr 5 (.int .i64))) j.2),.inv 0 (dZ),.inv z3 (bD k a0)]) h (fun K h=>?_) (fun M y h=>?_))
     ·refine sr (mq ?_);refine fr 2 ?_;refine ka (cY rfl rfl dA) ?_;refine eG rfl ?_;refine nt (ao (aK (fun J e=>[(7,.at aw (a0,(.map (some z3)))),(8,Pt b5),(9,.eq v7),(11,.eq (.int .u8 j.1)),(12,Pt s),(29,I a0.1),(30,I c.2.2),(41,I (c.2.1.length:Int)),(42,I e.2)]) (fun J e=>[.obj b5 86 (.rep (.arr 3 (.arr 5 (.int .i64))) c.1),.sl v7 3 (.int .i64) e.1,.obj s 86 (.rep (.arr 3 (.arr 5 (.int .i64))) j.2),.inv 0 (dZ),.inv z3 (bD k a0)]) (gV k c j) k () (c.2.1,0) (fun _=>rfl) h (SE.fin [2,0,1,3,4] ⟨rfl,rfl,rfl,rfl,rfl,rfl,rfl,rfl,rfl,trivial⟩ rfl) (fun n J e h=>?_)));unfold gV at h;refine sr (jb (bj rfl) ?_);refine nt (ae (ci h (fun h=>?_) (fun h=>?_)))
      ·refine sk (aM (Z:=Unit) (α:=(List Int)) (fun F u=>[(7,.at aw (a0,(.map (some z3)))),(8,Pt b5),(9,.eq v7),(11,.eq (.int .u8 j.1)),(12,Pt s),(29,I a0.1),(30,I c.2.2),(41,I (c.2.1.length:Int)),(42,I e.2)]) (fun F u=>[.obj b5 86 (.rep (.arr 3 (.arr 5 (.int .i64))) c.1),.sl v7 3 (.int .i64) u,.obj s 86 (.rep (.arr 3 (.arr 5 (.int .i64))) j.2),.inv 0 (dZ),.inv z3 (bD k a0)]) h (fun K h=>?_) (fun F u h=>?_))
       ·refine ao (sr (mq ?_));refine aq (nt (sr ?_));iterate 2 refine mq ?_
        obtain⟨Ul,mc,h⟩:=aa h;refine jb (ar [.tmp 45,.tmp 46] rfl rfl Iy rfl (gh k j.1 e.2 Ul mc)) ?_;refine nt (cv h (fun h=>?_) (fun h=>?_))
        ·refine ab ?_;iterate 2 refine mq ?_
         obtain⟨Ur,E,h⟩:=aa h;refine fr 1 ?_;refine kb (aZ (t:=(.int .i64)) rfl dA cg E) ?_;refine ka (dG (i:=Int.toNat e.2) (off:=0) rfl cg (fun _=>rfl) rfl (cm E).2.2 rfl) ?_;obtain⟨Uk,Y,h⟩:=aa h;refine jb (bg rfl Y) ?_;obtain⟨Up,D,h⟩:=aa h;refine kb (aZ (t:=(.int .i64)) rfl dA cg D) ?_;refine bf rfl rfl (cF (i:=Int.toNat e.2) rfl cg rfl (gf D) rfl .int rfl) ⟨rfl,rfl,trivial⟩ ?_;refine au (bn ?_);exact jz ((),List.set e.1 (Int.toNat e.2) Uk) h [1,0,2,3,4]
        ·refine aY (bn ?_);exact jz ((),e.1) h [0,1,2,3,4]
       ·refine ab ?_;obtain⟨se,X,h⟩:=aa h;refine jb (bg rfl X) ?_;refine mq (nl ?_);exact jz ((),(u,se)) h [0,1,2,3,4]
      ·refine xa ?_;exact jz ((),e.1) h [0,1,2,3,4]
     ·refine ab (fr 2 ?_);refine lo fm ?_;refine fr 1 ?_;refine bf rfl rfl (a8 rfl fm rfl rfl rfl) ⟨rfl,rfl,trivial⟩ ?_;refine au (bn ?_);exact jz ((),(j.2,y)) h [0,2,3,4]
    ·refine ab ?_;obtain⟨qt,U,h⟩:=aa h;refine jb (bg rfl U) ?_;refine mq (nl ?_);exact jz ((),(l.1,l.2,qt)) h [0,1,2,3]
   ·refine xa ?_;exact jz ((),c.2.1) h [1,2,3]
  ·refine sr (mq ?_);refine aq ?_;refine cq (nt (aA ?_));refine bv (eK [4,9,57] ⟨rfl,rfl,rfl,trivial⟩) ?_;cases h;exact aQ () [_,_] 1 ⟨rfl,rfl,trivial⟩ rfl
def dB(k:Nat)(e:(List aP)×(List (List (List Int)))×bW):Nat→Int→Option (Except Bool Unit)
 |0,_=>none
 |n+1,c=>
  if c < (e.1.length:Int) then((aS e.1 c).bind fun Q=>
  (ji k Q).bind fun j=>
  (aS e.2.1 c).bind fun O=>
  (ff k O).bind fun h=>
  (iQ k j h).bind fun u=>
  (aS e.1 c).bind fun M=>
  (aS e.2.1 c).bind fun J=>
  (lG k M J).bind fun s=>
  (kj k j h).bind fun r=>
  (aS e.1 c).bind fun I=>
  (aS e.2.1 c).bind fun F=>
  (lF k I F).bind fun l=>
  ((if¬(u.1=s.1) then(some true) else(if¬(u.2=s.2) then(some true) else(if¬(r.2=l.2) then(some true) else((dC k r.1 l.1).bind fun Y=>
  if¬(Y=true) then(some true) else((aS e.1 c).bind fun D=>
  (jg k j D).bind fun X=>
  if¬(X=true) then(some true) else((aS e.2.1 c).bind fun y=>
  (f5 k h y).bind fun U=>
  some (!U))))))):Option (Bool)).bind fun E=>
  if E=true then(some (.error false)) else((ck (c+1)).bind fun x=>
  dB k e n x)) else(some (.ok ()))
def jX(k:Nat)(a0:aP)(a1:eF)(a2:(List (List Int)))(a3:(List Int)):Option Bool:=
 (((nw k a0).bind fun r5=>
 if r5=true then(some true) else((nv k a2).bind fun r6=>
 if r6=true then(some true) else(some (decide (20 < (a1.2.length:Int)))))):Option (Bool)).bind fun x3=>
 if x3=true then((kw k).bind fun r7=>
 some r7) else((mO k a3).bind fun r8=>
 (kU k a0 a1 a2 (r8.1,r8.2.1,r8.2.2)).bind fun e=>
 bE (α:=Unit) (dB k e k 0) (some) fun _=>
 (kw k).bind fun c=>
 some c)
theorem rX(k:Nat)(a0:aP)(a1:eF)(a2:(List (List Int)))(a3:(List Int))(r:Bool)(h:jX k a0 a1 a2 a3=some r):
 dJ (jj Tryz.prog) 7 [.rep ap a0,.rep aH a1,.rep (.slice (.slice (.int .i64))) a2,Ri a3] [.inv 0 (dZ)] (fun _:Unit=>(bu [.eq (.bool r)],[.inv 0 (dZ)])):=by
 unfold jX at h
 replace h:=bb h
 refine dJ.of 134 Tryz.func7 rfl Tryz.ntmps7 rfl fun S w0=>?_
 refine sr ?_
 refine bx fun b1=>?_
 refine bx fun b2=>?_
 refine cq ?_
 refine nt ?_
 refine ae ?_
 refine aM (Z:=Unit) (α:=Bool) (fun z4 x3=>[(2,.rep (.slice (.slice (.int .i64))) a2),(3,Ri a3),(4,Pt b1),(5,Pt b2),(33,.eq (.bool x3))]) (fun z4 x3=>[.obj b1 25 (.rep ap a0),.obj b2 27 (.rep aH a1),.inv 0 (dZ)]) h (fun K h=>?_) (fun z4 x3 h=>?_)
 ·
  refine ab (fr 1 ?_);refine lo cJ ?_;obtain⟨r5,U1,h⟩:=aa h;refine ja (ar [.tmp 22] rfl rfl Tv rfl (An k a0 r5 U1)) ?_;refine mq ?_;refine ct (s:=24) rfl (fun hb=>?_) (fun hb=>?_)
  ·replace h:=cH (Ew hb) h;iterate 2 refine gn ?_
   refine pt ?_;refine mq ?_;iterate 4 refine gn ?_
   refine pt (nl ?_);exact jz ((),true) h [0,1,2]
  ·replace h:=bS (Ey hb) h;refine gm ?_;obtain⟨r6,U0,h⟩:=aa h;refine ga (ar [.tmp 25] rfl rfl Tt rfl (Am k a2 r6 U0)) ?_;refine pf ?_;refine mq ?_;refine ct (s:=28) rfl (fun hb=>?_) (fun hb=>?_)
   ·replace h:=cH (Ew hb) h;iterate 4 refine gn ?_
    refine pt (nl ?_);exact jz ((),true) h [0,1,2]
   ·replace h:=bS (Ey hb) h;refine ga (av rfl j0) ?_;refine fr 1 ?_;refine jA rfl rfl rfl rfl rfl rfl (aj rfl bR jt rfl) ⟨rfl,trivial⟩ ?_;refine ga (jE rfl rfl dA) ?_;refine gb (ip rfl) ?_;refine pf (nl ?_);exact jz ((),decide (20 < (a1.2.length:Int))) h [1,0,2]
 ·
  refine cv h (fun h=>?_) (fun h=>?_)
  ·refine sr ?_;obtain⟨r7,UZ,h⟩:=aa h;refine fr 2 ?_;refine bX rfl rfl rfl (ge [] rfl rfl QF rfl (qA k r7 UZ)) trivial ?_;refine aq (nt (rx ?_));cases h;exact aQ () [_] 1 ⟨rfl,trivial⟩ rfl
  ·refine sk (ae ?_);obtain⟨r8,j,h⟩:=aa h;obtain⟨c,UB,h⟩:=aa h;refine dN (SE.fin (Γ':=[(2,.rep (.slice (.slice (.int .i64))) a2),(3,Ri a3),(4,Pt b1),(5,Pt b2)]) (Δ':=[.obj b1 25 (.rep ap a0),.obj b2 27 (.rep aH a1),.inv 0 (dZ)]) [0,1,2] ⟨rfl,rfl,rfl,rfl,trivial⟩ rfl) ?_;refine vV (I:=Nat) (Ge:=fun i=>[(9,Rs ap c.1),(10,.rep (.slice (.slice (.slice (.int .i64)))) c.2.1)]) (De:=fun i=>[.inv 0 (dZ),.obj b1 25 (.rep ap a0),.obj b2 27 (.rep aH a1),.obj i 75 (.agg (.pair (Ri c.2.2.1) (.pair (I c.2.2.2.1) (.eq (.int .u64 c.2.2.2.2)))))]) (L:=[true,true,true,true,true,true,true,true,true,true,true]) cD rfl (fun J hJ hE=>?_) (by kernel_rfl) ?_
   ·have s1023:∀(b9:Nat),J 1 [true,true,true,true,true,true,true,true,true,true,false] [(9,Rs ap c.1),(43,.rep (.slice (.slice (.slice (.int .i64)))) c.2.1)] [.inv 0 (dZ),.obj b1 25 (.rep ap a0),.obj b2 27 (.rep aH a1),.obj b9 75 (.agg (.pair (Ri c.2.2.1) (.pair (I c.2.2.2.1) (.eq (.int .u64 c.2.2.2.2)))))]:=fun b9=>by
     subst hJ;refine JD.step [10] (by kernel_rfl) rfl ?_;refine bQ.cons rfl ?_ ?_
     ·refine aq ?_;exact ax (hE b9) [0,1,2,3] ⟨rfl,rfl,trivial⟩
     exact trivial
    have s511:∀(b9:Nat),J 2 [true,true,true,true,true,true,true,true,true,false,false] [(42,Rs ap c.1),(43,.rep (.slice (.slice (.slice (.int .i64)))) c.2.1)] [.inv 0 (dZ),.obj b1 25 (.rep ap a0),.obj b2 27 (.rep aH a1),.obj b9 75 (.agg (.pair (Ri c.2.2.1) (.pair (I c.2.2.2.1) (.eq (.int .u64 c.2.2.2.2)))))]:=fun b9=>by
     subst hJ;refine JD.step [9] (by kernel_rfl) rfl ?_;refine bQ.cons rfl ?_ ?_
     ·refine aq ?_;exact ax (s1023 b9) [0,1,2,3] ⟨rfl,rfl,trivial⟩
     exact trivial
    have s767:∀(b9:Nat),J 2 [true,true,true,true,true,true,true,true,false,true,false] [(9,Rs ap c.1),(35,.tup (.pair (Rs ap c.1) (.pair (.rep (.slice (.slice (.slice (.int .i64)))) c.2.1) (.any))))] [.inv 0 (dZ),.obj b1 25 (.rep ap a0),.obj b2 27 (.rep aH a1),.obj b9 75 (.agg (.pair (Ri c.2.2.1) (.pair (I c.2.2.2.1) (.eq (.int .u64 c.2.2.2.2)))))]:=fun b9=>by
     subst hJ;refine JD.step [8] (by kernel_rfl) rfl ?_;refine bQ.cons rfl ?_ ?_
     ·refine xr ?_;exact ax (s1023 b9) [0,1,2,3] ⟨rfl,rfl,trivial⟩
     exact trivial
    have s255:∀(b9:Nat),J 3 [true,true,true,true,true,true,true,true,false,false,false] [(35,.tup (.pair (Rs ap c.1) (.pair (.rep (.slice (.slice (.slice (.int .i64)))) c.2.1) (.any)))),(42,Rs ap c.1)] [.inv 0 (dZ),.obj b1 25 (.rep ap a0),.obj b2 27 (.rep aH a1),.obj b9 75 (.agg (.pair (Ri c.2.2.1) (.pair (I c.2.2.2.1) (.eq (.int .u64 c.2.2.2.2)))))]:=fun b9=>by
     subst hJ;refine JD.step [8,9] (by kernel_rfl) rfl ?_;refine bQ.cons rfl ?_ ?_
     ·refine xr ?_;exact ax (s511 b9) [0,1,2,3] ⟨rfl,rfl,trivial⟩
     refine bQ.cons rfl ?_ ?_
     ·refine aq ?_;exact ax (s767 b9) [0,1,2,3] ⟨rfl,rfl,trivial⟩
     exact trivial
    have s383:∀(b9:Nat),J 3 [true,true,true,true,true,true,true,false,true,false,false] [(35,.tup (.pair (Rs ap c.1) (.pair (.rep (.slice (.slice (.slice (.int .i64)))) c.2.1) (.any)))),(43,.rep (.slice (.slice (.slice (.int .i64)))) c.2.1)] [.inv 0 (dZ),.obj b1 25 (.rep ap a0),.obj b2 27 (.rep aH a1),.obj b9 75 (.agg (.pair (Ri c.2.2.1) (.pair (I c.2.2.2.1) (.eq (.int .u64 c.2.2.2.2)))))]:=fun b9=>by
     subst hJ;refine JD.step [7] (by kernel_rfl) rfl ?_;refine bQ.cons rfl ?_ ?_
     ·refine xr ?_;exact ax (s511 b9) [0,1,2,3] ⟨rfl,rfl,trivial⟩
     exact trivial
    have s127:∀(b9:Nat),J 4 [true,true,true,true,true,true,true,false,false,false,false] [(35,.tup (.pair (Rs ap c.1) (.pair (.rep (.slice (.slice (.slice (.int .i64)))) c.2.1) (.any))))] [.inv 0 (dZ),.obj b1 25 (.rep ap a0),.obj b2 27 (.rep aH a1),.obj b9 75 (.agg (.pair (Ri c.2.2.1) (.pair (I c.2.2.2.1) (.eq (.int .u64 c.2.2.2.2)))))]:=fun b9=>by
     subst hJ;refine JD.step [7,8] (by kernel_rfl) rfl ?_;refine bQ.cons rfl ?_ ?_
     ·refine xr ?_;exact ax (s255 b9) [0,1,2,3] ⟨rfl,rfl,trivial⟩
     refine bQ.cons rfl ?_ ?_
     ·refine xr ?_;exact ax (s383 b9) [0,1,2,3] ⟨rfl,rfl,trivial⟩
     exact trivial
    have s63:∀(b9:Nat),J 5 [true,true,true,true,true,true,false,false,false,false,false] [(41,.tup (.pair (Rs ap c.1) (.pair (.rep (.slice (.slice (.slice (.int .i64)))) c.2.1) (.any))))] [.inv 0 (dZ),.obj b1 25 (.rep ap a0),.obj b2 27 (.rep aH a1),.obj b9 75 (.agg (.pair (Ri c.2.2.1) (.pair (I c.2.2.2.1) (.eq (.int .u64 c.2.2.2.2)))))]:=fun b9=>by
     subst hJ;refine JD.step [6] (by kernel_rfl) rfl ?_;refine bQ.cons rfl ?_ ?_
     ·refine mq ?_;exact ax (s127 b9) [0,1,2,3] ⟨rfl,trivial⟩
     exact trivial
    have s31:∀(b9:Nat),J 6 [true,true,true,true,true,false,false,false,false,false,false] [(36,.rep ap a0),(37,.rep aH a1),(38,.rep (.slice (.slice (.int .i64))) a2),(40,Pt b9)] [.inv 0 (dZ),.obj b1 25 (.rep ap a0),.obj b2 27 (.rep aH a1),.obj b9 75 (.agg (.pair (Ri r8.1) (.pair (I r8.2.1) (.eq (.int .u64 r8.2.2)))))]:=fun b9=>by
     subst hJ;refine JD.step [5] (by kernel_rfl) rfl ?_;refine bQ.cons rfl ?_ ?_
     ·refine fr 3 ?_;refine bX rfl rfl rfl (ar [.tmp 36,.tmp 37,.tmp 38,.tmp 40] rfl rfl To rfl (vu k a0 a1 a2 (r8.1,r8.2.1,r8.2.2) b9 c UB)) ⟨rfl,rfl,rfl,rfl,trivial⟩ ?_;exact ax (s63 b9) [1,2,3,0] ⟨rfl,trivial⟩
     exact trivial
    have s15:J 7 [true,true,true,true,false,false,false,false,false,false,false] [(36,.rep ap a0),(37,.rep aH a1),(38,.rep (.slice (.slice (.int .i64))) a2),(39,Ri a3)] [.inv 0 (dZ),.obj b1 25 (.rep ap a0),.obj b2 27 (.rep aH a1)]:=by
     subst hJ;refine JD.step [4] (by kernel_rfl) rfl ?_;refine bQ.cons rfl ?_ ?_
     ·refine aD rfl rfl rfl (ar [.tmp 39] rfl rfl AC rfl (eh k a3 r8 j)) ⟨rfl,trivial⟩ fun b9=>?_;exact ax (s31 b9) [1,2,3,0] ⟨rfl,rfl,rfl,rfl,trivial⟩
     exact trivial
    have s27:∀(b9:Nat),J 7 [true,true,false,true,true,false,false,false,false,false,false] [(2,.rep (.slice (.slice (.int .i64))) a2),(36,.rep ap a0),(37,.rep aH a1),(40,Pt b9)] [.inv 0 (dZ),.obj b1 25 (.rep ap a0),.obj b2 27 (.rep aH a1),.obj b9 75 (.agg (.pair (Ri r8.1) (.pair (I r8.2.1) (.eq (.int .u64 r8.2.2)))))]:=fun b9=>by
     subst hJ;refine JD.step [2] (by kernel_rfl) rfl ?_;refine bQ.cons rfl ?_ ?_
     ·refine mq ?_;exact ax (s31 b9) [0,1,2,3] ⟨rfl,rfl,rfl,rfl,trivial⟩
     exact trivial
    have s29:∀(b9:Nat),J 7 [true,false,true,true,true,false,false,false,false,false,false] [(5,Pt b2),(36,.rep ap a0),(38,.rep (.slice (.slice (.int .i64))) a2),(40,Pt b9)] [.inv 0 (dZ),.obj b1 25 (.rep ap a0),.obj b2 27 (.rep aH a1),.obj b9 75 (.agg (.pair (Ri r8.1) (.pair (I r8.2.1) (.eq (.int .u64 r8.2.2)))))]:=fun b9=>by
     subst hJ;refine JD.step [1] (by kernel_rfl) rfl ?_;refine bQ.cons rfl ?_ ?_
     ·refine fr 2 ?_;refine lo gC ?_;exact ax (s31 b9) [1,2,0,3] ⟨rfl,rfl,rfl,rfl,trivial⟩
     exact trivial
    have s30:∀(b9:Nat),J 7 [false,true,true,true,true,false,false,false,false,false,false] [(4,Pt b1),(37,.rep aH a1),(38,.rep (.slice (.slice (.int .i64))) a2),(40,Pt b9)] [.inv 0 (dZ),.obj b1 25 (.rep ap a0),.obj b2 27 (.rep aH a1),.obj b9 75 (.agg (.pair (Ri r8.1) (.pair (I r8.2.1) (.eq (.int .u64 r8.2.2)))))]:=fun b9=>by
     subst hJ;refine JD.step [0] (by kernel_rfl) rfl ?_;refine bQ.cons rfl ?_ ?_
     ·refine fr 1 ?_;refine lo cJ ?_;exact ax (s31 b9) [1,0,2,3] ⟨rfl,rfl,rfl,rfl,trivial⟩
     exact trivial
    have s7:J 8 [true,true,true,false,false,false,false,false,false,false,false] [(3,Ri a3),(36,.rep ap a0),(37,.rep aH a1),(38,.rep (.slice (.slice (.int .i64))) a2)] [.inv 0 (dZ),.obj b1 25 (.rep ap a0),.obj b2 27 (.rep aH a1)]:=by
     subst hJ;refine JD.step [3] (by kernel_rfl) rfl ?_;refine bQ.cons rfl ?_ ?_
     ·refine mq ?_;exact ax s15 [0,1,2] ⟨rfl,rfl,rfl,rfl,trivial⟩
     exact trivial
    have s11:J 8 [true,true,false,true,false,false,false,false,false,false,false] [(2,.rep (.slice (.slice (.int .i64))) a2),(36,.rep ap a0),(37,.rep aH a1),(39,Ri a3)] [.inv 0 (dZ),.obj b1 25 (.rep ap a0),.obj b2 27 (.rep aH a1)]:=by
     subst hJ;refine JD.step [2,4] (by kernel_rfl) rfl ?_;refine bQ.cons rfl ?_ ?_
     ·refine mq ?_;exact ax s15 [0,1,2] ⟨rfl,rfl,rfl,rfl,trivial⟩
     refine bQ.cons rfl ?_ ?_
     ·refine aD rfl rfl rfl (ar [.tmp 39] rfl rfl AC rfl (eh k a3 r8 j)) ⟨rfl,trivial⟩ fun b9=>?_;exact ax (s27 b9) [1,2,3,0] ⟨rfl,rfl,rfl,rfl,trivial⟩
     exact trivial
    have s13:J 8 [true,false,true,true,false,false,false,false,false,false,false] [(5,Pt b2),(36,.rep ap a0),(38,.rep (.slice (.slice (.int .i64))) a2),(39,Ri a3)] [.inv 0 (dZ),.obj b1 25 (.rep ap a0),.obj b2 27 (.rep aH a1)]:=by
     subst hJ;refine JD.step [1,4] (by kernel_rfl) rfl ?_;refine bQ.cons rfl ?_ ?_
     ·refine fr 2 ?_;refine lo gC ?_;exact ax s15 [1,2,0] ⟨rfl,rfl,rfl,rfl,trivial⟩
     refine bQ.cons rfl ?_ ?_
     ·refine aD rfl rfl rfl (ar [.tmp 39] rfl rfl AC rfl (eh k a3 r8 j)) ⟨rfl,trivial⟩ fun b9=>?_;exact ax (s29 b9) [1,2,3,0] ⟨rfl,rfl,rfl,rfl,trivial⟩
     exact trivial
    have s25:∀(b9:Nat),J 8 [true,false,false,true,true,false,false,false,false,false,false] [(2,.rep (.slice (.slice (.int .i64))) a2),(5,Pt b2),(36,.rep ap a0),(40,Pt b9)] [.inv 0 (dZ),.obj b1 25 (.rep ap a0),.obj b2 27 (.rep aH a1),.obj b9 75 (.agg (.pair (Ri r8.1) (.pair (I r8.2.1) (.eq (.int .u64 r8.2.2)))))]:=fun b9=>by
     subst hJ;refine JD.step [1,2] (by kernel_rfl) rfl ?_;refine bQ.cons rfl ?_ ?_
     ·refine fr 2 ?_;refine lo gC ?_;exact ax (s27 b9) [1,2,0,3] ⟨rfl,rfl,rfl,rfl,trivial⟩
     refine bQ.cons rfl ?_ ?_
     ·refine mq ?_;exact ax (s29 b9) [0,1,2,3] ⟨rfl,rfl,rfl,rfl,trivial⟩
     exact trivial
    have s14:J 8 [false,true,true,true,false,false,false,false,false,false,false] [(4,Pt b1),(37,.rep aH a1),(38,.rep (.slice (.slice (.int .i64))) a2),(39,Ri a3)] [.inv 0 (dZ),.obj b1 25 (.rep ap a0),.obj b2 27 (.rep aH a1)]:=by
     subst hJ;refine JD.step [0,4] (by kernel_rfl) rfl ?_;refine bQ.cons rfl ?_ ?_
     ·refine fr 1 ?_;refine lo cJ ?_;exact ax s15 [1,0,2] ⟨rfl,rfl,rfl,rfl,trivial⟩
     refine bQ.cons rfl ?_ ?_
     ·refine aD rfl rfl rfl (ar [.tmp 39] rfl rfl AC rfl (eh k a3 r8 j)) ⟨rfl,trivial⟩ fun b9=>?_;exact ax (s30 b9) [1,2,3,0] ⟨rfl,rfl,rfl,rfl,trivial⟩
     exact trivial
    have s26:∀(b9:Nat),J 8 [false,true,false,true,true,false,false,false,false,false,false] [(2,.rep (.slice (.slice (.int .i64))) a2),(4,Pt b1),(37,.rep aH a1),(40,Pt b9)] [.inv 0 (dZ),.obj b1 25 (.rep ap a0),.obj b2 27 (.rep aH a1),.obj b9 75 (.agg (.pair (Ri r8.1) (.pair (I r8.2.1) (.eq (.int .u64 r8.2.2)))))]:=fun b9=>by
     subst hJ;refine JD.step [0,2] (by kernel_rfl) rfl ?_;refine bQ.cons rfl ?_ ?_
     ·refine fr 1 ?_;refine lo cJ ?_;exact ax (s27 b9) [1,0,2,3] ⟨rfl,rfl,rfl,rfl,trivial⟩
     refine bQ.cons rfl ?_ ?_
     ·refine mq ?_;exact ax (s30 b9) [0,1,2,3] ⟨rfl,rfl,rfl,rfl,trivial⟩
     exact trivial
    have s28:∀(b9:Nat),J 8 [false,false,true,true,true,false,false,false,false,false,false] [(4,Pt b1),(5,Pt b2),(38,.rep (.slice (.slice (.int .i64))) a2),(40,Pt b9)] [.inv 0 (dZ),.obj b1 25 (.rep ap a0),.obj b2 27 (.rep aH a1),.obj b9 75 (.agg (.pair (Ri r8.1) (.pair (I r8.2.1) (.eq (.int .u64 r8.2.2)))))]:=fun b9=>by
     subst hJ;refine JD.step [0,1] (by kernel_rfl) rfl ?_;refine bQ.cons rfl ?_ ?_
     ·refine fr 1 ?_;refine lo cJ ?_;exact ax (s29 b9) [1,0,2,3] ⟨rfl,rfl,rfl,rfl,trivial⟩
     refine bQ.cons rfl ?_ ?_
     ·refine fr 2 ?_;refine lo gC ?_;exact ax (s30 b9) [1,2,0,3] ⟨rfl,rfl,rfl,rfl,trivial⟩
     exact trivial
    have s3:J 9 [true,true,false,false,false,false,false,false,false,false,false] [(2,.rep (.slice (.slice (.int .i64))) a2),(3,Ri a3),(36,.rep ap a0),(37,.rep aH a1)] [.inv 0 (dZ),.obj b1 25 (.rep ap a0),.obj b2 27 (.rep aH a1)]:=by
     subst hJ;refine JD.step [2,3] (by kernel_rfl) rfl ?_;refine bQ.cons rfl ?_ ?_
     ·refine mq ?_;exact ax s7 [0,1,2] ⟨rfl,rfl,rfl,rfl,trivial⟩
     refine bQ.cons rfl ?_ ?_
     ·refine mq ?_;exact ax s11 [0,1,2] ⟨rfl,rfl,rfl,rfl,trivial⟩
     exact trivial
    have s5:J 9 [true,false,true,false,false,false,false,false,false,false,false] [(3,Ri a3),(5,Pt b2),(36,.rep ap a0),(38,.rep (.slice (.slice (.int .i64))) a2)] [.inv 0 (dZ),.obj b1 25 (.rep ap a0),.obj b2 27 (.rep aH a1)]:=by
     subst hJ;refine JD.step [1,3] (by kernel_rfl) rfl ?_;refine bQ.cons rfl ?_ ?_
     ·refine fr 2 ?_;refine lo gC ?_;exact ax s7 [1,2,0] ⟨rfl,rfl,rfl,rfl,trivial⟩
     refine bQ.cons rfl ?_ ?_
     ·refine mq ?_;exact ax s13 [0,1,2] ⟨rfl,rfl,rfl,rfl,trivial⟩
     exact trivial
    have s9:J 9 [true,false,false,true,false,false,false,false,false,false,false] [(2,.rep (.slice (.slice (.int .i64))) a2),(5,Pt b2),(36,.rep ap a0),(39,Ri a3)] [.inv 0 (dZ),.obj b1 25 (.rep ap a0),.obj b2 27 (.rep aH a1)]:=by
     subst hJ;refine JD.step [1,2,4] (by kernel_rfl) rfl ?_;refine bQ.cons rfl ?_ ?_
     ·refine fr 2 ?_;refine lo gC ?_;exact ax s11 [1,2,0] ⟨rfl,rfl,rfl,rfl,trivial⟩
     refine bQ.cons rfl ?_ ?_
     ·refine mq ?_;exact ax s13 [0,1,2] ⟨rfl,rfl,rfl,rfl,trivial⟩
     refine bQ.cons rfl ?_ ?_
     ·refine aD rfl rfl rfl (ar [.tmp 39] rfl rfl AC rfl (eh k a3 r8 j)) ⟨rfl,trivial⟩ fun b9=>?_;exact ax (s25 b9) [1,2,3,0] ⟨rfl,rfl,rfl,rfl,trivial⟩
     exact trivial
    have s6:J 9 [false,true,true,false,false,false,false,false,false,false,false] [(3,Ri a3),(4,Pt b1),(37,.rep aH a1),(38,.rep (.slice (.slice (.int .i64))) a2)] [.inv 0 (dZ),.obj b1 25 (.rep ap a0),.obj b2 27 (.rep aH a1)]:=by
     subst hJ;refine JD.step [0,3] (by kernel_rfl) rfl ?_;refine bQ.cons rfl ?_ ?_
     ·refine fr 1 ?_;refine lo cJ ?_;exact ax s7 [1,0,2] ⟨rfl,rfl,rfl,rfl,trivial⟩
     refine bQ.cons rfl ?_ ?_
     ·refine mq ?_;exact ax s14 [0,1,2] ⟨rfl,rfl,rfl,rfl,trivial⟩
     exact trivial
    have s10:J 9 [false,true,false,true,false,false,false,false,false,false,false] [(2,.rep (.slice (.slice (.int .i64))) a2),(4,Pt b1),(37,.rep aH a1),(39,Ri a3)] [.inv 0 (dZ),.obj b1 25 (.rep ap a0),.obj b2 27 (.rep aH a1)]:=by
     subst hJ;refine JD.step [0,2,4] (by kernel_rfl) rfl ?_;refine bQ.cons rfl ?_ ?_
     ·refine fr 1 ?_;refine lo cJ ?_;exact ax s11 [1,0,2] ⟨rfl,rfl,rfl,rfl,trivial⟩
     refine bQ.cons rfl ?_ ?_
     ·refine mq ?_;exact ax s14 [0,1,2] ⟨rfl,rfl,rfl,rfl,trivial⟩
     refine bQ.cons rfl ?_ ?_
     ·refine aD rfl rfl rfl (ar [.tmp 39] rfl rfl AC rfl (eh k a3 r8 j)) ⟨rfl,trivial⟩ fun b9=>?_;exact ax (s26 b9) [1,2,3,0] ⟨rfl,rfl,rfl,rfl,trivial⟩
     exact trivial
    have s12:J 9 [false,false,true,true,false,false,false,false,false,false,false] [(4,Pt b1),(5,Pt b2),(38,.rep (.slice (.slice (.int .i64))) a2),(39,Ri a3)] [.inv 0 (dZ),.obj b1 25 (.rep ap a0),.obj b2 27 (.rep aH a1)]:=by
     subst hJ;refine JD.step [0,1,4] (by kernel_rfl) rfl ?_;refine bQ.cons rfl ?_ ?_
     ·refine fr 1 ?_;refine lo cJ ?_;exact ax s13 [1,0,2] ⟨rfl,rfl,rfl,rfl,trivial⟩
     refine bQ.cons rfl ?_ ?_
     ·refine fr 2 ?_;refine lo gC ?_;exact ax s14 [1,2,0] ⟨rfl,rfl,rfl,rfl,trivial⟩
     refine bQ.cons rfl ?_ ?_
     ·refine aD rfl rfl rfl (ar [.tmp 39] rfl rfl AC rfl (eh k a3 r8 j)) ⟨rfl,trivial⟩ fun b9=>?_;exact ax (s28 b9) [1,2,3,0] ⟨rfl,rfl,rfl,rfl,trivial⟩
     exact trivial
    have s24:∀(b9:Nat),J 9 [false,false,false,true,true,false,false,false,false,false,false] [(2,.rep (.slice (.slice (.int .i64))) a2),(4,Pt b1),(5,Pt b2),(40,Pt b9)] [.inv 0 (dZ),.obj b1 25 (.rep ap a0),.obj b2 27 (.rep aH a1),.obj b9 75 (.agg (.pair (Ri r8.1) (.pair (I r8.2.1) (.eq (.int .u64 r8.2.2)))))]:=fun b9=>by
     subst hJ;refine JD.step [0,1,2] (by kernel_rfl) rfl ?_;refine bQ.cons rfl ?_ ?_
     ·refine fr 1 ?_;refine lo cJ ?_;exact ax (s25 b9) [1,0,2,3] ⟨rfl,rfl,rfl,rfl,trivial⟩
     refine bQ.cons rfl ?_ ?_
     ·refine fr 2 ?_;refine lo gC ?_;exact ax (s26 b9) [1,2,0,3] ⟨rfl,rfl,rfl,rfl,trivial⟩
     refine bQ.cons rfl ?_ ?_
     ·refine mq ?_;exact ax (s28 b9) [0,1,2,3] ⟨rfl,rfl,rfl,rfl,trivial⟩
     exact trivial
    have s1:J 10 [true,false,false,false,false,false,false,false,false,false,false] [(2,.rep (.slice (.slice (.int .i64))) a2),(3,Ri a3),(5,Pt b2),(36,.rep ap a0)] [.inv 0 (dZ),.obj b1 25 (.rep ap a0),.obj b2 27 (.rep aH a1)]:=by
     subst hJ;refine JD.step [1,2,3] (by kernel_rfl) rfl ?_;refine bQ.cons rfl ?_ ?_
     ·refine fr 2 ?_;refine lo gC ?_;exact ax s3 [1,2,0] ⟨rfl,rfl,rfl,rfl,trivial⟩
     refine bQ.cons rfl ?_ ?_
     ·refine mq ?_;exact ax s5 [0,1,2] ⟨rfl,rfl,rfl,rfl,trivial⟩
     refine bQ.cons rfl ?_ ?_
     ·refine mq ?_;exact ax s9 [0,1,2] ⟨rfl,rfl,rfl,rfl,trivial⟩
     exact trivial
    have s2:J 10 [false,true,false,false,false,false,false,false,false,false,false] [(2,.rep (.slice (.slice (.int .i64))) a2),(3,Ri a3),(4,Pt b1),(37,.rep aH a1)] [.inv 0 (dZ),.obj b1 25 (.rep ap a0),.obj b2 27 (.rep aH a1)]:=by
     subst hJ;refine JD.step [0,2,3] (by kernel_rfl) rfl ?_;refine bQ.cons rfl ?_ ?_
     ·refine fr 1 ?_;refine lo cJ ?_;exact ax s3 [1,0,2] ⟨rfl,rfl,rfl,rfl,trivial⟩
     refine bQ.cons rfl ?_ ?_
     ·refine mq ?_;exact ax s6 [0,1,2] ⟨rfl,rfl,rfl,rfl,trivial⟩
     refine bQ.cons rfl ?_ ?_
     ·refine mq ?_;exact ax s10 [0,1,2] ⟨rfl,rfl,rfl,rfl,trivial⟩
     exact trivial
    have s4:J 10 [false,false,true,false,false,false,false,false,false,false,false] [(3,Ri a3),(4,Pt b1),(5,Pt b2),(38,.rep (.slice (.slice (.int .i64))) a2)] [.inv 0 (dZ),.obj b1 25 (.rep ap a0),.obj b2 27 (.rep aH a1)]:=by
     subst hJ;refine JD.step [0,1,3] (by kernel_rfl) rfl ?_;refine bQ.cons rfl ?_ ?_
     ·refine fr 1 ?_;refine lo cJ ?_;exact ax s5 [1,0,2] ⟨rfl,rfl,rfl,rfl,trivial⟩
     refine bQ.cons rfl ?_ ?_
     ·refine fr 2 ?_;refine lo gC ?_;exact ax s6 [1,2,0] ⟨rfl,rfl,rfl,rfl,trivial⟩
     refine bQ.cons rfl ?_ ?_
     ·refine mq ?_;exact ax s12 [0,1,2] ⟨rfl,rfl,rfl,rfl,trivial⟩
     exact trivial
    have s8:J 10 [false,false,false,true,false,false,false,false,false,false,false] [(2,.rep (.slice (.slice (.int .i64))) a2),(4,Pt b1),(5,Pt b2),(39,Ri a3)] [.inv 0 (dZ),.obj b1 25 (.rep ap a0),.obj b2 27 (.rep aH a1)]:=by
     subst hJ;refine JD.step [0,1,2,4] (by kernel_rfl) rfl ?_;refine bQ.cons rfl ?_ ?_
     ·refine fr 1 ?_;refine lo cJ ?_;exact ax s9 [1,0,2] ⟨rfl,rfl,rfl,rfl,trivial⟩
     refine bQ.cons rfl ?_ ?_
     ·refine fr 2 ?_;refine lo gC ?_;exact ax s10 [1,2,0] ⟨rfl,rfl,rfl,rfl,trivial⟩
     refine bQ.cons rfl ?_ ?_
     ·refine mq ?_;exact ax s12 [0,1,2] ⟨rfl,rfl,rfl,rfl,trivial⟩
     refine bQ.cons rfl ?_ ?_
     ·refine aD rfl rfl rfl (ar [.tmp 39] rfl rfl AC rfl (eh k a3 r8 j)) ⟨rfl,trivial⟩ fun b9=>?_;exact ax (s24 b9) [1,2,3,0] ⟨rfl,rfl,rfl,rfl,trivial⟩
     exact trivial
    have s0:J 11 [false,false,false,false,false,false,false,false,false,false,false] [(2,.rep (.slice (.slice (.int .i64))) a2),(3,Ri a3),(4,Pt b1),(5,Pt b2)] [.obj b1 25 (.rep ap a0),.obj b2 27 (.rep aH a1),.inv 0 (dZ)]:=by
     subst hJ;refine JD.step [0,1,2,3] (by kernel_rfl) rfl ?_;refine bQ.cons rfl ?_ ?_
     ·refine lo cJ ?_;exact ax s1 [2,0,1] ⟨rfl,rfl,rfl,rfl,trivial⟩
     refine bQ.cons rfl ?_ ?_
     ·refine fr 1 ?_;refine lo gC ?_;exact ax s2 [2,1,0] ⟨rfl,rfl,rfl,rfl,trivial⟩
     refine bQ.cons rfl ?_ ?_
     ·refine mq ?_;exact ax s4 [2,0,1] ⟨rfl,rfl,rfl,rfl,trivial⟩
     refine bQ.cons rfl ?_ ?_
     ·refine mq ?_;exact ax s8 [2,0,1] ⟨rfl,rfl,rfl,rfl,trivial⟩
     exact trivial
    exact s0
   intro b9;show JN _ _ [(9,Rs ap c.1),(10,.rep (.slice (.slice (.slice (.int .i64)))) c.2.1)] [.inv 0 (dZ),.obj b1 25 (.rep ap a0),.obj b2 27 (.rep aH a1),.obj b9 75 (.agg (.pair (Ri c.2.2.1) (.pair (I c.2.2.2.1) (.eq (.int .u64 c.2.2.2.2)))))];refine tn (dQ (Z:=Unit) (α:=Unit) (fun M O=>[]) (fun M O=>[.inv 0 (dZ)]) (fun e=>e=r) h (fun e h=>Option.some.inj h) (fun K hR h=>?_) (fun M O h=>?_))
   ·refine sr (cq (nt (ao ?_)));refine aK (fun F l=>[(9,Rs ap c.1),(10,.rep (.slice (.slice (.slice (.int .i64)))) c.2.1),(11,I l)]) (fun F l=>[.inv 0 (dZ)]) (dB k c) k () 0 (fun _=>rfl) h (SE.fin [0] ⟨rfl,rfl,rfl,trivial⟩ rfl) (fun n F l h=>?_);unfold dB at h;refine ae (sr ?_);iterate 2 refine mq ?_
    refine ol Q1 ?_;refine jb (bj rfl) ?_;refine nt (ci h (fun h=>?_) (fun h=>?_))
    ·refine sk (ae (ao (ae (jm ?_))));refine aI rfl rfl rfl (aL rfl) ⟨rfl,trivial⟩ ?_;refine aI rfl rfl rfl (aL rfl) ⟨rfl,trivial⟩ ?_;obtain⟨UK,Uo,h⟩:=aa h;refine aI rfl rfl rfl (aF (t:=ap) rfl Q1 cJ Uo) ⟨rfl,rfl,trivial⟩ ?_;refine aI rfl rfl rfl (an (t:=ap) rfl cJ rfl) ⟨rfl,trivial⟩ ?_;obtain⟨x,UA,h⟩:=aa h;refine aI rfl rfl rfl (ar [.tmp 53] rfl rfl Qx rfl (tD k UK x UA)) ⟨rfl,trivial⟩ ?_;refine aI rfl rfl rfl (aL rfl) ⟨rfl,trivial⟩ ?_;refine aI rfl rfl rfl (aL rfl) ⟨rfl,trivial⟩ ?_;obtain⟨UJ,Un,h⟩:=aa h;refine aI rfl rfl rfl (aF (t:=(.slice (.slice (.int .i64)))) rfl MA qh Un) ⟨rfl,rfl,trivial⟩ ?_;refine aI rfl rfl rfl (an (t:=(.slice (.slice (.int .i64)))) rfl qh rfl) ⟨rfl,trivial⟩ ?_;obtain⟨u,Uz,h⟩:=aa h;refine aI rfl rfl rfl (sF (ar [.tmp 58] rfl rfl Qu rfl (tG k UJ u Uz))) ⟨rfl,trivial⟩ ?_;refine uC (GR 25 (.agg (.pair (I 0) (.pair (.eq (.slice none 0 0)) (.eq (.slice none 0 0)))))) (fun _=>rfl) rfl rfl rfl (a9 rfl kh mz) trivial ?_;refine mo 11 [true,true,true,true,true,true,true,true,true,true,true] [13] [] [] rfl (by kernel_rfl) (by kernel_rfl) (by kernel_rfl) cD (fun vs hv hB=>?_);obtain⟨w0,Vh,rfl,UY⟩:=ak hv;obtain⟨w1,Vg,rfl,UX⟩:=ak UY;obtain⟨w2,Vf,rfl,UW⟩:=ak UX;obtain⟨w3,Ve,rfl,UV⟩:=ak UW;obtain⟨w4,Vd,rfl,UU⟩:=ak UV;obtain⟨w5,Vb,rfl,UT⟩:=ak UU;obtain⟨w6,Va,rfl,US⟩:=ak UT;obtain⟨w7,U8,rfl,UR⟩:=ak US;obtain⟨w8,U7,rfl,UQ⟩:=ak UR;obtain⟨w9,U4,rfl,ac⟩:=ak UQ;obtain⟨U6,U2,rfl,Y⟩:=ak ac;obtain rfl:=jW Y;obtain⟨D,rfl⟩:=BN hB.2.2.2.2.2.2.2.2.2.2.1;refine⟨[0,1],[.inv 0 (dZ),.obj D 25 (.agg (.pair (I 0) (.pair (.eq (.slice none 0 0)) (.eq (.slice none 0 0)))))],by kernel_rfl,by decide,?_⟩;refine iN 1 rfl ?_;refine oh rfl rfl (a8 rfl cJ rfl rfl rfl) ⟨rfl,rfl,trivial⟩ (by kernel_rfl) ?_;refine pE rfl rfl rfl rfl (gr rfl) ⟨rfl,trivial⟩ (by kernel_rfl) ?_;refine pG ?_;refine bv (SE.fin (Γ':=[(9,Rs ap c.1),(10,.rep (.slice (.slice (.slice (.int .i64)))) c.2.1),(11,I l),(12,Pt D),(13,.rep (.slice (.slice (.int .i64))) u)]) (Δ':=[.obj D 25 (.rep ap x),.inv 0 (dZ)]) [0,1] ⟨rfl,rfl,rfl,rfl,rfl,trivial⟩ rfl) ?_;refine tn (sr (lo cJ ?_));refine mq ?_;obtain⟨UP,Uy,h⟩:=aa h;refine fr 1 ?_;refine kb (ge [.tmp 61,.tmp 62] rfl rfl Qm rfl (nN k x u UP Uy)) ?_;refine mq ?_;refine xr ?_;refine xr ?_;refine aq ?_;refine aq (nt (ae ?_));refine bO ?_;refine dm ?_;refine dm ?_;obtain⟨UI,Um,h⟩:=aa h;refine db (aF (t:=ap) rfl Q1 cJ Um) ?_;refine da (an (t:=ap) rfl cJ rfl) ?_;refine dm ?_;refine dm ?_;obtain⟨UH,Ul,h⟩:=aa h;refine db (aF (t:=(.slice (.slice (.int .i64)))) rfl MA qh Ul) ?_;refine da (an (t:=(.slice (.slice (.int .i64)))) rfl qh rfl) ?_;obtain⟨UO,Ux,h⟩:=aa h;refine db (ar [.tmp 70,.tmp 74] rfl rfl Ta rfl (xX k UI UH UO Ux)) ?_;refine dm ?_;refine da (dH rfl rfl) ?_;refine da (dH rfl rfl) ?_;refine da (gr rfl) ?_;refine df cD ?_;refine aq (nt (sr ?_));refine fr 1 ?_;refine lo cJ ?_;refine mq ?_;obtain⟨X,Uw,h⟩:=aa h;refine fr 1 ?_;refine kb (ar [.tmp 79,.tmp 80] rfl rfl S9 rfl (xI k x u X Uw)) ?_;refine mq ?_;refine xr ?_;refine xr ?_;refine aq ?_;refine aq ?_
     refine nt (ae (bO ?_));refine dm ?_;refine dm ?_;obtain⟨UG,Uk,h⟩:=aa h;refine db (aF (t:=ap) rfl Q1 cJ Uk) ?_;refine da (an (t:=ap) rfl cJ rfl) ?_;refine dm ?_;refine dm ?_;obtain⟨UF,se,h⟩:=aa h;refine db (aF (t:=(.slice (.slice (.int .i64)))) rfl MA qh se) ?_;refine da (an (t:=(.slice (.slice (.int .i64)))) rfl qh rfl) ?_;obtain⟨U,Uu,h⟩:=aa h;refine db (ar [.tmp 88,.tmp 92] rfl rfl S8 rfl (xW k UG UF U Uu)) ?_;refine dm ?_;refine da (dH rfl rfl) ?_;refine da (dH rfl rfl) ?_;refine da (gr rfl) ?_;refine df cD ?_;refine aq (nt ?_);refine aM (Z:=Unit) (α:=Bool) (fun E y=>[(9,Rs ap c.1),(10,.rep (.slice (.slice (.slice (.int .i64)))) c.2.1),(11,I l),(132,.eq (.bool y))]) (fun E y=>[.inv 0 (dZ)]) h (fun K h=>?_) (fun E y h=>?_)
     ·refine bO ?_;refine dm ?_;refine dm ?_;refine db (gP rfl) ?_;refine kN rfl rfl rfl (aL rfl) ⟨rfl,trivial⟩ (fun hb=>?_) (fun hb=>?_)
      ·replace h:=cH (Jl hb) h;iterate 3 refine dg ?_
       refine db (gq rfl) ?_;refine dm ?_;iterate 3 refine dg ?_
       refine db (gq rfl) ?_;refine dm ?_;iterate 4 refine dg ?_
       refine db (gq rfl) ?_;refine dm ?_;iterate 7 refine dg ?_
       refine db (gq rfl) ?_;refine dm ?_;iterate 5 refine dg ?_
       refine df cD ?_;iterate 2 refine gn ?_
       refine pt (nl ?_);exact jz ((),true) h [0]
      ·replace h:=bS (wu hb) h;refine aW rfl rfl rfl rfl rfl (aL rfl) ⟨rfl,rfl,trivial⟩ ?_;refine aW rfl rfl rfl rfl rfl (aL rfl) ⟨rfl,rfl,trivial⟩ ?_;refine aW rfl rfl rfl rfl rfl (gP rfl) ⟨rfl,rfl,rfl,trivial⟩ ?_;refine db (l7 rfl) ?_;refine kN rfl rfl rfl (aL rfl) ⟨rfl,trivial⟩ (fun hb=>?_) (fun hb=>?_)
       ·replace h:=cH (Jl hb) h;iterate 3 refine dg ?_
        refine db (gq rfl) ?_;refine dm ?_;iterate 4 refine dg ?_
        refine db (gq rfl) ?_;refine dm ?_;iterate 7 refine dg ?_
        refine db (gq rfl) ?_;refine dm ?_;iterate 5 refine dg ?_
        refine df cD ?_;iterate 2 refine gn ?_
        refine pt (nl ?_);exact jz ((),true) h [0]
       ·replace h:=bS (wu hb) h;refine aW rfl rfl rfl rfl rfl (aL rfl) ⟨rfl,rfl,trivial⟩ ?_;refine aW rfl rfl rfl rfl rfl (aL rfl) ⟨rfl,rfl,trivial⟩ ?_;refine aW rfl rfl rfl rfl rfl (gP rfl) ⟨rfl,rfl,rfl,trivial⟩ ?_;refine db (l7 rfl) ?_;refine kN rfl rfl rfl (aL rfl) ⟨rfl,trivial⟩ (fun hb=>?_) (fun hb=>?_)
        ·replace h:=cH (Jl hb) h;iterate 4 refine dg ?_
         refine db (gq rfl) ?_;refine dm ?_;iterate 7 refine dg ?_
         refine db (gq rfl) ?_;refine dm ?_;iterate 5 refine dg ?_
         refine df cD ?_;iterate 2 refine gn ?_
         refine pt (nl ?_);exact jz ((),true) h [0]
        ·replace h:=bS (wu hb) h;refine aW rfl rfl rfl rfl rfl (aL rfl) ⟨rfl,rfl,trivial⟩ ?_;refine aW rfl rfl rfl rfl rfl (aL rfl) ⟨rfl,rfl,trivial⟩ ?_;obtain⟨UN,Ut,h⟩:=aa h;refine aW rfl rfl rfl rfl rfl (ar [.tmp 110,.tmp 111] rfl rfl Ft rfl (fH k X.1 U.1 UN Ut)) ⟨rfl,rfl,rfl,trivial⟩ ?_;refine aW rfl rfl rfl rfl rfl (eC rfl) ⟨rfl,rfl,trivial⟩ ?_;refine db (l7 rfl) ?_;refine kN rfl rfl rfl (aL rfl) ⟨rfl,trivial⟩ (fun hb=>?_) (fun hb=>?_)
         ·replace h:=cH (BY hb) h;iterate 7 refine dg ?_
          refine db (gq rfl) ?_;refine dm ?_;iterate 5 refine dg ?_
          refine df cD ?_;iterate 2 refine gn ?_
          refine pt (nl ?_);exact jz ((),true) h [0]
         ·replace h:=bS (vn hb) h;refine kd 1 rfl rfl rfl rfl rfl rfl (aj rfl cJ (vX) rfl) ⟨rfl,rfl,trivial⟩ ?_;refine aW rfl rfl rfl rfl rfl (aL rfl) ⟨rfl,rfl,trivial⟩ ?_;refine aW rfl rfl rfl rfl rfl (aL rfl) ⟨rfl,rfl,trivial⟩ ?_;obtain⟨UE,qt,h⟩:=aa h;refine aW rfl rfl rfl rfl rfl (aF (t:=ap) rfl Q1 cJ qt) ⟨rfl,rfl,rfl,trivial⟩ ?_;refine aW rfl rfl rfl rfl rfl (an (t:=ap) rfl cJ rfl) ⟨rfl,rfl,trivial⟩ ?_;obtain⟨UM,Us,h⟩:=aa h;refine aW rfl rfl rfl rfl rfl (ar [.tmp 116,.tmp 120] rfl rfl Tj rfl (tB k x UE UM Us)) ⟨rfl,rfl,rfl,trivial⟩ ?_;refine aW rfl rfl rfl rfl rfl (eC rfl) ⟨rfl,rfl,trivial⟩ ?_;refine db (l7 rfl) ?_;refine kN rfl rfl rfl (aL rfl) ⟨rfl,trivial⟩ (fun hb=>?_) (fun hb=>?_)
          ·replace h:=cH (BY hb) h;iterate 5 refine dg ?_
           refine df cD ?_;iterate 2 refine gn ?_
           refine pt (nl ?_);exact jz ((),true) h [0]
          ·replace h:=bS (vn hb) h;refine aW rfl rfl rfl rfl rfl (aL rfl) ⟨rfl,rfl,trivial⟩ ?_;refine aW rfl rfl rfl rfl rfl (aL rfl) ⟨rfl,rfl,trivial⟩ ?_;refine aW rfl rfl rfl rfl rfl (aL rfl) ⟨rfl,rfl,trivial⟩ ?_;obtain⟨UD,pp,h⟩:=aa h;refine aW rfl rfl rfl rfl rfl (aF (t:=(.slice (.slice (.int .i64)))) rfl MA qh pp) ⟨rfl,rfl,rfl,trivial⟩ ?_;refine aW rfl rfl rfl rfl rfl (an (t:=(.slice (.slice (.int .i64)))) rfl qh rfl) ⟨rfl,rfl,trivial⟩ ?_;refine df cD ?_;obtain⟨Q,Ur,h⟩:=aa h;refine gb (ar [.tmp 125,.tmp 129] rfl rfl NU rfl (ky k u UD Q Ur)) ?_;refine ga (eC rfl) ?_;refine pf (nl ?_);exact jz ((), !Q) h [0]
     ·refine cv h (fun h=>?_) (fun h=>?_)
      ·refine sr (cq (nt (aA (br (bi (aV ?_))))));obtain rfl:=hR _ h;exact aQ () [_] 1 ⟨rfl,trivial⟩ rfl
      ·refine aY (aN (tn (ab (mq ?_))));obtain⟨UC,mc,h⟩:=aa h;refine jb (bg rfl mc) ?_;refine aq (nl ?_);exact jz ((),UC) h [0]
    ·refine xa ?_;exact jz ((),()) h [0]
   ·refine sr ?_;obtain⟨UL,Up,h⟩:=aa h;refine bX rfl rfl rfl (ge [] rfl rfl QF rfl (qA k UL Up)) trivial ?_;refine aq (nt (aA ?_));cases h;exact aQ () [_] 1 ⟨rfl,trivial⟩ rfl
end Go.Proofs.YtghkncjelangeaaGreatDoor
