import Derived.Test.YtghkncjelangeaaGreatDoorQCB10
import Derived.Test.YtghkncjelangeaaGreatDoorQCB8
import Derived.Test.YtghkncjelangeaaGreatDoorQCB9
import Derived.Test.YtghkncjelangeaaGreatDoorQCB5
import Derived.Test.YtghkncjelangeaaGreatDoorQCCore45
set_option linter.unusedSimpArgs false
set_option linter.unusedVariables false
set_option maxRecDepth 4000
set_option maxHeartbeats 1000000
namespace Go.Proofs.YtghkncjelangeaaGreatDoor
open K Go Go.Proofs
def co(k:Nat)(a0:aO)(a1:(List (List Int))):Option Int:=
 (lK k a0).bind fun r2=>
 if¬(r2=0) then(some r2) else((lJ k a0 a1).bind fun r4=>
 (Q9 r4).bind fun q5=>
 if q5.isSome=true then(some (q5.getD 0)) else(some 0))
theorem dO(k:Nat)(a0:aO)(a1:(List (List Int)))(r:Int)(h:co k a0 a1=some r):
 bX Tryz.prog 22 [.rep av a0,.rep (.slice (.slice (.int .i64))) a1] [.inv 0 (iI)] (fun _:Unit=>(bq [I r],[.inv 0 (iI)])):=by
 unfold co at h
 replace h:=a8 h
 refine bX.of 19 Tryz.func22 rfl Tryz.ntmps22 rfl fun S w0=>?_
 refine sr ?_
 refine bx fun b1=>?_
 refine cq ?_
 refine nt ?_
 refine ae ?_
 refine sr ?_
 refine lo dj ?_
 obtain⟨r2,e,h⟩:=aa h
 have l:=rG k a0 r2 e
 refine ja (ap [.tmp 7] rfl rfl Qh rfl l) ?_
 refine aq ?_
 refine nt ?_
 refine sr ?_
 refine mq ?_
 refine jb (fL rfl) ?_
 refine nt ?_
 refine cn h (fun h=>?_) (fun h=>?_)
 ·
  refine sr (mq ?_);refine aq (nt (rx ?_));refine bu (SE.fin (Γ':=[(4,_)]) [1,0] ⟨rfl,trivial⟩ rfl) ?_;cases h;exact aL () [_] 1 ⟨rfl,trivial⟩ rfl
 ·
  refine sk (sr (aF rfl rfl rfl (be rfl Bc Tm) trivial fun b3=>?_));refine nt (ae (sr (fr 1 ?_)));refine lo dj ?_;refine mq ?_;obtain⟨r4,c,h⟩:=aa h;refine jb (ap [.tmp 12,.tmp 13] rfl rfl SI rfl (rA k a0 a1 r4 c)) ?_;refine ja (G8 rfl TB) ?_;obtain⟨q5,j,h⟩:=aa h;refine fr 2 ?_;refine fr 2 ?_;refine bS (Δ:=[_,_]) (F:=_) (fun _ _ _=>ax rfl _) rfl rfl (ap [.tmp 14,.tmp 15] rfl rfl Qc rfl (QJ j)) ⟨rfl,rfl,trivial⟩ fun _=>?_;refine nt (cv h (fun h=>?_) (fun h=>?_))
  ·refine sr (fl Nk ?_);refine lo Rw ?_;refine aq (nt (rx ?_));refine bu (SE.fin (Γ':=[(4,_)]) [1,0,2] ⟨rfl,trivial⟩ rfl) ?_;cases h;exact aL () [_] 1 ⟨rfl,trivial⟩ rfl
  ·refine sk (sr (cq (nt (ay ?_))));refine bu (SE.fin (Γ':=[(4,_)]) [1,0,2] ⟨rfl,trivial⟩ rfl) ?_;cases h;exact aL () [_] 1 ⟨rfl,trivial⟩ rfl
def nQ(k:Nat)(a0:aO)(r7:Int×(List (List Int))):Nat→((List Int)×Int)→Option (List Int)
 |0,_=>none
 |n+1,c=>
  if c.2 < (a0.2.1.length:Int) then((((fe k r7.1 c.2).bind fun j=>
  if j=true then((dE (bQ (List.length c.1+List.length [c.2]))).bind fun _=>
  some (c.1++[c.2])) else(some c.1)):Option ((List Int))).bind fun h=>
  (ck (c.2+1)).bind fun e=>
  nQ k a0 r7 n (h,e)) else(some c.1)
def xO(k:Nat)(a0:aO)(a1:(List (List Int)))(a2:Int):Option ((List Int)×(List (List Int))×Int):=
 (co k a0 a1).bind fun r2=>
 if¬(r2=0) then(some ([],[],r2)) else((ck (a0.1 - 1)).bind fun x3=>
 (dG k a2 0 x3).bind fun r4=>
 if¬(r4=true) then(some ([],[],3)) else((dP k a1).bind fun r6=>
 (iZ k (a0,()) r6 a2).bind fun r7=>
 ((nQ k a0 r7 k (([]:(List Int)),0)):Option ((List Int))).bind fun x9=>
 (eB k (a0,()) r7.2).bind fun c=>
 some (x9,c,0)))
theorem Bm(k:Nat)(a0:aO)(a1:(List (List Int)))(a2:Int)(r:(List Int)×(List (List Int))×Int)(h:xO k a0 a1 a2=some r):
 bX Tryz.prog 18 [.rep av a0,.rep (.slice (.slice (.int .i64))) a1,I a2] [.inv 0 (iI)] (fun _:Unit=>(bq [Ri r.1,.rep (.slice (.slice (.int .i64))) r.2.1,I r.2.2],[.inv 0 (iI)])):=by
 unfold xO at h
 replace h:=a8 h
 refine bX.of 55 Tryz.func18 rfl Tryz.ntmps18 rfl fun S w0=>?_
 refine sr ?_
 refine bx fun b1=>?_
 refine cq ?_
 refine cq ?_
 refine cq ?_
 refine nt ?_
 refine ae ?_
 refine sr ?_
 refine lo dj ?_
 refine mq ?_
 obtain⟨r2,ac,h⟩:=aa h
 have mc:=dO k a0 a1 r2 ac
 refine fr 1 ?_
 refine kb (ap [.tmp 15,.tmp 16] rfl rfl It rfl mc) ?_
 refine aq ?_
 refine nt ?_
 refine sr ?_
 refine mq ?_
 refine jb (fL rfl) ?_
 refine nt ?_
 refine cn h (fun h=>?_) (fun h=>?_)
 ·
  refine sr (mq ?_);refine cq ?_;refine cq ?_;refine aq (nt (rx ?_));refine bu (lx (t:=(.slice (.int .i64))) (x:=[]) 6 rfl .nil rfl rfl) ?_;refine bu (lx (t:=(.slice (.slice (.int .i64)))) (x:=[]) 7 rfl .nil rfl rfl) ?_;cases h;exact aL () [_,_,_] 1 ⟨rfl,rfl,rfl,trivial⟩ rfl
 ·
  refine sk (ae (sr (mq ?_)));refine fl fD ?_;refine fr 1 ?_;refine lo cm ?_;obtain⟨x3,Q,h⟩:=aa h;refine jb (eK rfl Q) ?_;obtain⟨r4,Y,h⟩:=aa h;refine jc (ap [.tmp 21,.const (.int .i64 (0)),.tmp 24] rfl rfl wF rfl (dF k a2 0 x3 r4 Y)) ?_;refine ja (dT rfl) ?_;refine nt (cw h (fun h=>?_) (fun h=>?_))
  ·refine sr (cq ?_);refine cq ?_;refine cq (nt (rx ?_));refine bu (lx (t:=(.slice (.int .i64))) (x:=[]) 6 rfl .nil rfl rfl) ?_;refine bu (lx (t:=(.slice (.slice (.int .i64)))) (x:=[]) 7 rfl .nil rfl rfl) ?_;refine bu (SE.fin (Γ':=[(6,_),(7,_),(8,_)]) [1,0] ⟨rfl,rfl,rfl,trivial⟩ rfl) ?_;cases h;exact aL () [_,_,_] 1 ⟨rfl,rfl,rfl,trivial⟩ rfl
  ·refine sk (sr (lo dj ?_));refine aF rfl rfl rfl (ap [.tmp 27] rfl rfl Ir rfl (gy a0)) ⟨rfl,trivial⟩ fun z5=>?_;refine cD (kO (bO k a0) lO) ?_;refine aq (nt (sr ?_));iterate 2 refine mq ?_
   obtain⟨r6,X,h⟩:=aa h;refine ja (ap [.tmp 31] rfl rfl CO rfl (eC k a1 r6 X)) ?_;refine mq ?_;obtain⟨r7,U,h⟩:=aa h;refine jc (dL (N:=[(.tmp 30,.at aw (a0,(.map (some z5)))),(.tmp 32,.rep (.arr 3 (.arr 5 (.int .i64))) r6),(.tmp 33,I a2)]) (ap [.tmp 30,.tmp 32,.tmp 33] rfl rfl Qe rfl (oy k (a0,()) r6 a2 r7 U)) fun _ _ _ hn=>⟨(pC hn.1),hn.2.1,hn.2.2.1,trivial⟩) ?_;refine mq ?_;refine xr ?_;refine xr ?_;refine aF rfl rfl rfl (be rfl sP tR) trivial fun b8=>?_;refine aq ?_;refine bh rfl rfl (bb rfl gq rfl rfl rfl) ⟨rfl,rfl,trivial⟩ ?_;refine nt (sr (cq (nt ?_)));refine aN (Z:=Value) (α:=(List Int)) (fun l x9=>[(10,.at aw (a0,(.map (some z5)))),(12,Pt b8),(13,.eq l)]) (fun l x9=>[.obj b8 86 (.rep (.arr 3 (.arr 5 (.int .i64))) r7.2),.sl l 3 (.int .i64) x9,.inv 0 (iI),.inv z5 (bO k a0)]) h (fun K h=>?_) (fun l x9 h=>?_)
   ·refine sr (fl bT ?_);refine fr 2 ?_;refine lo eX ?_;refine ol mD ?_;refine eU rfl ?_;refine nt (ao (dW (SE.nil 3 (.int .i64)) ?_));refine aK (fun e c=>[(10,.at aw (a0,(.map (some z5)))),(11,.eq (.int .u8 r7.1)),(12,Pt b8),(13,.eq e),(39,I (a0.2.1.length:Int)),(40,I c.2)]) (fun e c=>[.obj b8 86 (.rep (.arr 3 (.arr 5 (.int .i64))) r7.2),.sl e 3 (.int .i64) c.1,.inv 0 (iI),.inv z5 (bO k a0)]) (nQ k a0 r7) k (.slice none 0 0) (([]:(List Int)),0) (fun _=>rfl) h (SE.fin [2,0,4,3] ⟨rfl,rfl,rfl,rfl,rfl,rfl,trivial⟩ rfl) (fun n e c h=>?_);unfold nQ at h;refine sr (jb (bp rfl) ?_);refine nt (ae (ci h (fun h=>?_) (fun h=>?_)))
    ·refine sk (aN (Z:=Value) (α:=(List Int)) (fun j s=>[(10,.at aw (a0,(.map (some z5)))),(11,.eq (.int .u8 r7.1)),(12,Pt b8),(13,.eq j),(39,I (a0.2.1.length:Int)),(40,I c.2)]) (fun j s=>[.obj b8 86 (.rep (.arr 3 (.arr 5 (.int .i64))) r7.2),.sl j 3 (.int .i64) s,.inv 0 (iI),.inv z5 (bO k a0)]) h (fun K h=>?_) (fun j s h=>?_))
     ·refine ao (sr (mq ?_));refine aq (nt (sr ?_));iterate 2 refine mq ?_
      obtain⟨O,E,h⟩:=aa h;refine jb (ap [.tmp 43,.tmp 44] rfl rfl KQ rfl (iJ k r7.1 c.2 O E)) ?_;refine nt (cv h (fun h=>?_) (fun h=>?_))
      ·refine ab ?_;iterate 2 refine mq ?_
       refine ja (bj (t:=(.int .i64)) [(.tmp 47,_)] [c.2] rfl rfl dI (.cons rfl .int .nil) rfl rfl) ?_;obtain⟨u16,y,h⟩:=aa h;refine fr 1 ?_;refine c6 rfl rfl rfl (bI rfl rfl dI (aC y)) ⟨rfl,rfl,trivial⟩ fun J=>?_;refine aq (au (bn ?_));exact jz (J,c.1++[c.2]) h [1,0,2,3]
      ·refine aW (bn ?_);exact jz (e,c.1) h [0,1,2,3]
     ·refine ab ?_;obtain⟨F,u,h⟩:=aa h;refine jb (bf rfl u) ?_;refine mq (nl ?_);exact jz (j,(s,F)) h [0,1,2,3]
    ·refine xa ?_;exact jz (e,c.1) h [0,1,2,3]
   ·refine sr ?_;iterate 2 refine mq ?_
    refine lo gq ?_;obtain⟨M,D,h⟩:=aa h;refine aF rfl rfl rfl (dL (N:=[(.tmp 52,.at aw (a0,(.map (some z5)))),(.tmp 53,.rep (.arr 3 (.arr 5 (.int .i64))) r7.2)]) (ap [.tmp 52,.tmp 53] rfl rfl KP rfl (ix k (a0,()) r7.2 M D)) fun _ _ _ hn=>⟨(pC hn.1),hn.2.1,trivial⟩) ⟨rfl,rfl,trivial⟩ fun pp=>?_;refine aq ?_;refine aq ?_;refine cq (nt (ay ?_));refine dn 2 rfl ?_;refine bu (eR [6,13,51] ⟨rfl,rfl,rfl,trivial⟩) ?_;refine bu (eR [7,54] ⟨rfl,rfl,trivial⟩) ?_;refine bu (SE.fin (Γ':=[(6,_),(7,_),(8,_)]) [1,0,2] ⟨rfl,rfl,rfl,trivial⟩ rfl) ?_;cases h;exact aL () [_,_,_] 1 ⟨rfl,rfl,rfl,trivial⟩ rfl
theorem jY(k:Nat)(a0:aO)(z_a0:Nat)(a1:(List (List Int)))(r:Int)(h:dH k a0 a1=some r):
 du (jv Tryz.prog) 83 [.at aw (a0,(.map (some z_a0))),.rep (.arr 3 (.arr 5 (.int .i64))) a1] [.inv z_a0 (bO k a0)] (fun _:Unit=>(bq [I r],[.inv z_a0 (bO k a0)])):=by
 have h0:=h
 unfold dH at h
 replace h:=a8 h
 obtain⟨u1,eg,h⟩:=aa h
 have hg:=aC eg
 have gk:=HV hg
 refine du.of 28 Tryz.func83 rfl Tryz.ntmps83 rfl fun S w0=>?_
 refine sr ?_
 refine bx fun b1=>?_
 refine cq ?_
 refine nt ?_
 refine ae ?_
 refine jx 1 rfl ?_
 refine C4 fun ob hob=>?_
 obtain⟨lnn,lbb,hlR,hlk⟩:=yn (z:=z_a0) QV L9 Ak gk E2 hob
 refine bz ?_
 refine dm ?_
 refine da (dU rfl) ?_
 refine da (aJ 1 false rfl DO rfl) ?_
 refine da (ak (t:=.val) rfl LI rfl) ?_
 refine ea 1 (aj rfl gq (tw) rfl) ?_
 refine eb 0 (ET (kv:=lA a1) (wY _) (mr.calm hob) rfl (fun _ _ _ hh=>vz hh) hlk) ?_
 refine dm ?_
 refine da (cE rfl rfl) ?_
 refine da (cE rfl rfl) ?_
 refine da (dV rfl) ?_
 refine df cp ?_
 refine aq ?_
 refine nt ?_
 refine ae ?_
 refine sr ?_
 refine mq ?_
 refine ja (dT rfl) ?_
 refine nt ?_
 refine dW (kO (bO k a0) hob) ?_
 refine bK rfl (fun hb=>?_) (fun hb=>?_)
 ·
  refine sr (mq ?_);refine fr 1 ?_;refine lo gq ?_;obtain⟨r2,c,h⟩:=aa h;refine jc (dL (N:=[(.tmp 18,.at aw (a0,(.map (some z_a0)))),(.tmp 19,.rep (.arr 3 (.arr 5 (.int .i64))) a1),(.const (.int .i64 (0)),I 0)]) (ia [.tmp 18,.tmp 19,.const (.int .i64 (0))] rfl rfl P8 rfl (mI k (a0,()) a1 0 r2 c)) fun _ _ _ hn=>⟨(pC hn.1),hn.2.1,hn.2.2.1,trivial⟩) ?_;refine aq (nt ?_);refine bz ?_;refine dm ?_;refine da (dU rfl) ?_;refine da (aJ 1 false rfl DO rfl) ?_;refine da (ak (t:=.val) rfl LI rfl) ?_;refine ea 0 (aj rfl gq (tw) rfl) ?_;refine dm ?_;refine df cp ?_;refine fr 1 ?_;have hl:dH k a0 a1=some r2:=h0.trans (show some r=some r2 from h.symm);refine bh rfl rfl (zH (kv:=lA a1) (wY _) rfl QV Ak (fun _ _ _ hh=>vz hh) gk ⟨a1,hg,rfl,hl⟩) ⟨rfl,rfl,rfl,trivial⟩ ?_;refine nt (sr (mq ?_));refine aq (nt (ay ?_));cases h;exact aL () [_] 1 ⟨rfl,trivial⟩ rfl
 ·
  obtain⟨p,hp,he,hl⟩:=hlR (by simpa using hb);obtain rfl:=wZ hg hp he;replace h:some lnn=some r:=hl.symm.trans h0;refine sk (sr (mq ?_));refine aq (nt (ay ?_));cases h;exact aL () [_] 1 ⟨rfl,trivial⟩ rfl
def pR(k:Nat)(a0:aO)(a1:(List (List Int))):Option (Int×Int):=
 (co k a0 a1).bind fun r2=>
 if¬(r2=0) then(some (0,r2)) else((dP k a1).bind fun r4=>
 (dH k a0 r4).bind fun r5=>
 some (r5,0))
theorem rF(k:Nat)(a0:aO)(a1:(List (List Int)))(r:Int×Int)(h:pR k a0 a1=some r):
 du (jv Tryz.prog) 35 [.rep av a0,.rep (.slice (.slice (.int .i64))) a1] [.inv 0 (iI)] (fun _:Unit=>(bq [I r.1,I r.2],[.inv 0 (iI)])):=by
 unfold pR at h
 replace h:=a8 h
 refine du.of 18 Tryz.func35 rfl Tryz.ntmps35 rfl fun S w0=>?_
 refine sr ?_
 refine bx fun b1=>?_
 refine cq ?_
 refine cq ?_
 refine nt ?_
 refine ae ?_
 refine sr ?_
 refine lo dj ?_
 refine mq ?_
 obtain⟨r2,j,h⟩:=aa h
 have l:=dO k a0 a1 r2 j
 refine fr 1 ?_
 refine kb (ap [.tmp 7,.tmp 8] rfl rfl It rfl l) ?_
 refine aq ?_
 refine nt ?_
 refine sr ?_
 refine mq ?_
 refine jb (fL rfl) ?_
 refine nt ?_
 refine cn h (fun h=>?_) (fun h=>?_)
 ·
  refine sr (mq ?_);refine cq ?_;refine aq (nt (rx ?_));cases h;exact aL () [_,_] 1 ⟨rfl,rfl,trivial⟩ rfl
 ·
  refine sk (sr (fr 1 ?_));refine lo dj ?_;refine aF rfl rfl rfl (ap [.tmp 13] rfl rfl Ir rfl (gy a0)) ⟨rfl,trivial⟩ fun z3=>?_;refine cD (kO (bO k a0) lO) ?_;refine mq ?_;obtain⟨r4,e,h⟩:=aa h;refine ja (ap [.tmp 15] rfl rfl CO rfl (eC k a1 r4 e)) ?_;obtain⟨r5,c,h⟩:=aa h;refine kb (ia [.tmp 14,.tmp 16] rfl rfl P6 rfl (jY k a0 z3 r4 r5 c)) ?_;refine aq ?_;refine cq (nt (ay ?_));refine bu (SE.fin (Γ':=[(4,_),(5,_)]) [2,0,1] ⟨rfl,rfl,trivial⟩ rfl) ?_;cases h;exact aL () [_,_] 1 ⟨rfl,rfl,trivial⟩ rfl
set_option maxRecDepth 20000
set_option maxHeartbeats 4000000
@[reducible] def fA:Ty:=.agg (.pair (.int .i64) (.int .i64))
def PU(x:Int×Int):Value:=.agg #[.int .i64 x.1,.int .i64 x.2]
theorem KL{S:FS}{w:World}{x:Int×Int}:(A.rep fA x).holds S w (PU x):=⟨[_,_],⟨[_],[_],rfl,rfl,rfl⟩,rfl⟩
theorem Il{S:FS}{w:World}{x:Int×Int}{v:Value}(h:(A.rep fA x).holds S w v):(A.eq (PU x)).holds S w v:=by
 obtain⟨cs,⟨c1,c2,rfl,h1,h2⟩,rfl⟩:=h;have h1:c1=_:=h1;have h2:c2=_:=h2;subst h1 h2;rfl
theorem g7:dS Tryz.prog 110 2 true:=⟨fun w=>by kernel_rfl,fun w=>by kernel_rfl⟩
theorem oz:dS Tryz.prog 28 1 false:=⟨fun w=>by kernel_rfl,fun w=>by kernel_rfl⟩
theorem Di:dS Tryz.prog 23 1 false:=⟨fun w=>by kernel_rfl,fun w=>by kernel_rfl⟩
theorem ug:dS Tryz.prog 3 1 false:=⟨fun w=>by kernel_rfl,fun w=>by kernel_rfl⟩
theorem Gt:dS Tryz.prog 81 1 false:=⟨fun w=>by kernel_rfl,fun w=>by kernel_rfl⟩
theorem Ni:a9 Tryz.prog 110 0 0:=a9.of (by kernel_rfl)
theorem Nh:a9 Tryz.prog 110 1 1:=a9.of (by kernel_rfl)
theorem PS:a9 Tryz.prog 107 0 0:=a9.of (by kernel_rfl)
theorem uo:a9 Tryz.prog 107 1 1:=a9.of (by kernel_rfl)
theorem yA:ag Tryz.prog 108:=ag.of Tryz.func108 (by kernel_rfl) (by kernel_rfl)
def jN(x:Int×Int)(m:Int):Nat→Int×List Int→Option (List Int)
 |0,_=>none
 |n+1,q=>if q.1 < m then((aQ q.2 q.1).bind fun c=>if c=x.1 then(ck (q.1+1)).bind fun w=>jN x m n (w,q.2.set q.1.toNat x.2) else if c=x.2 then(ck (q.1+1)).bind fun w=>jN x m n (w,q.2.set q.1.toNat x.1) else(ck (q.1+1)).bind fun w=>jN x m n (w,q.2)) else some q.2
def kW(k:Nat)(x:Int×Int)(m:Int):Nat→Int×List (List Int)→Option (List (List Int))
 |0,_=>none
 |n+1,q=>if q.1 < m then((aQ q.2 q.1).bind fun l=>(jN x (l.length:Int) k (0,l)).bind fun l2=>(ck (q.1+1)).bind fun w=>kW k x m n (w,q.2.set q.1.toNat l2)) else some q.2
def na(k:Nat)(x:Int×Int)(ls:List (List Int)):Option (List (List Int)):=kW k x (ls.length:Int) k (0,ls)
theorem mH(k:Nat)(x:Int×Int)(ls r:List (List Int))(y:Nat)(d0:aw.den)(z:Value×(Nat→Value))(h:na k x ls=some r):
 bX Tryz.prog 108 [.eq (bP y),.rep fA x] ([.obj y 107 (.agg (.pair (.at aw d0) (.eq z.1)))]++fK 23 z ls) (fun _:Unit=>(bq [],[.obj y 107 (.agg (.pair (.at aw d0) (.eq z.1)))]++fK 23 z r)):=by
 unfold na at h
 replace h:=a8 h
 refine bX.of 45 Tryz.func108 rfl Tryz.ntmps108 rfl fun S w0=>?_
 refine sr ?_
 refine bx fun b3=>?_
 refine nt ?_
 refine sr ?_
 refine mq ?_
 refine ja (ba rfl) ?_
 refine fl uo ?_
 refine fr 1 ?_
 refine lo oz ?_
 refine cD (D8 (pre:=[.obj y 107 (.agg (.pair (.at aw d0) (.eq z.1))),.obj b3 110 (.rep fA x)])) ?_
 refine ka (dh rfl rfl lw) ?_
 rw [gY]
 refine cD (FH (pre:=[.obj y 107 (.agg (.pair (.at aw d0) (.eq z.1))),.obj b3 110 (.rep fA x)])) ?_
 refine eU rfl ?_
 refine nt ?_
 refine ao ?_
 refine aK (Z:=Unit) (α:=Int×List (List Int)) (fun _ q=>[(3,.eq (bP b3)),(11,.eq z.1),(12,I (ls.length:Int)),(13,I q.1)]) (fun _ q=>[.obj y 107 (.agg (.pair (.at aw d0) (.eq z.1))),.obj b3 110 (.rep fA x)]++fK 23 z q.2) (kW k x (ls.length:Int)) k () (0,ls) (fun _=>rfl) h (bv [.obj y 107 (.agg (.pair (.at aw d0) (.eq z.1))),.obj b3 110 (.rep fA x)] (fK 23 z ls) [0,1] ⟨rfl,rfl,rfl,rfl,trivial⟩ rfl) (fun n u q h=>?_)
 unfold kW at h
 refine sr ?_
 refine jb (bp rfl) ?_
 refine nt ?_
 refine ae ?_
 refine bK rfl (fun hb=>?_) (fun hb=>?_)
 ·
  replace h:=cF (oH hb) h;refine sk (ae (ao ?_));obtain⟨l,el,h⟩:=aa h;refine dW (tU (pre:=[.obj y 107 (.agg (.pair (.at aw d0) (.eq z.1))),.obj b3 110 (.rep fA x)]) (qe el).2) ?_;refine sr (fr 1 ?_);refine kb (aZ (t:=.val) rfl lw Di (kR el)) ?_;refine ka (dX (i:=q.1.toNat) (off:=0) rfl Di (fun _=>rfl) rfl (cC (kR el)).2.2 rfl) ?_;refine aq (nt ?_);rw [Option.bind_assoc] at h;refine sr (mq ?_);refine fr 1 ?_;refine ka (dh rfl rfl dw) ?_;refine eU rfl ?_;refine nt (ao (aK (Z:=Unit) (α:=Int×List Int) (fun _ q2=>[(3,.eq (bP b3)),(5,.eq (z.2 q.1.toNat)),(11,.eq z.1),(12,I (ls.length:Int)),(13,I q.1),(17,.eq (z.2 q.1.toNat)),(18,I (l.length:Int)),(19,I q2.1)]) (fun _ q2=>[.sl (z.2 q.1.toNat) 3 (.int .i64) (q2.2),.sl z.1 23 .val (eG z.2 0 q.2),.obj y 107 (.agg (.pair (.at aw d0) (.eq z.1))),.obj b3 110 (.rep fA x)]++((kV z.2 0 q.2).eraseIdx q.1.toNat)) (jN x (l.length:Int)) k () (0,l) (fun _=>rfl) h (bv [.sl (z.2 q.1.toNat) 3 (.int .i64) (l),.sl z.1 23 .val (eG z.2 0 q.2),.obj y 107 (.agg (.pair (.at aw d0) (.eq z.1))),.obj b3 110 (.rep fA x)] ((kV z.2 0 q.2).eraseIdx q.1.toNat) [0,1,2,3] ⟨rfl,rfl,rfl,rfl,rfl,rfl,rfl,rfl,trivial⟩ rfl) (fun n2 u2 q2 h=>?_)));unfold jN at h;refine sr (jb (bp rfl) ?_);refine nt (ae (bK rfl (fun hb=>?_) (fun hb=>?_)))
  ·replace h:=cF (oH hb) h;refine sk (ae (ao ?_));obtain⟨c,ec,h⟩:=aa h;refine sr (mq ?_);refine kb (aZ (t:=.int .i64) rfl dw ug ec) ?_;refine ka (dX (i:=q2.1.toNat) (off:=0) rfl ug (fun _=>rfl) rfl (cC ec).2.2 rfl) ?_;refine aq ?_;refine aq (nt (sr ?_));refine mq (nt (ao (sr ?_)));refine fl Ni ?_;refine fr 3 ?_;refine lo ug ?_;refine jb (fM rfl) ?_;refine aq (nt ?_);refine ci h (fun h=>?_) (fun h=>?_)
   ·refine ab ?_;iterate 2 refine mq ?_
    refine fl Nh ?_;refine lo ug ?_;refine fr 1 ?_;refine kb (aZ (t:=.int .i64) rfl dw ug ec) ?_;refine bh rfl rfl (cR (i:=q2.1.toNat) rfl ug rfl (ib ec) rfl .int rfl) ⟨rfl,rfl,trivial⟩ ?_;refine au (aM (aM (tn (ab ?_))));obtain⟨w,ew,h⟩:=aa h;refine jb (bf rfl ew) ?_;refine mq (nl ?_);exact jf ((),(w,q2.2.set q2.1.toNat x.2)) h (bv [.sl (z.2 q.1.toNat) 3 (.int .i64) (q2.2.set q2.1.toNat x.2),.obj b3 110 (.rep fA x),.sl z.1 23 .val (eG z.2 0 q.2),.obj y 107 (.agg (.pair (.at aw d0) (.eq z.1)))] ((kV z.2 0 q.2).eraseIdx q.1.toNat) [0,2,3,1] ⟨rfl,rfl,rfl,rfl,rfl,rfl,rfl,rfl,trivial⟩ rfl)
   ·refine sr (fl Nh ?_);refine lo ug ?_;refine jb (fM rfl) ?_;refine aq (nt ?_);refine ci h (fun h=>?_) (fun h=>?_)
    ·refine ab ?_;iterate 2 refine mq ?_
     refine fl Ni ?_;refine lo ug ?_;refine fr 1 ?_;refine kb (aZ (t:=.int .i64) rfl dw ug ec) ?_;refine bh rfl rfl (cR (i:=q2.1.toNat) rfl ug rfl (ib ec) rfl .int rfl) ⟨rfl,rfl,trivial⟩ ?_;refine au (aM (aM (tn (ab ?_))));obtain⟨w,ew,h⟩:=aa h;refine jb (bf rfl ew) ?_;refine mq (nl ?_);exact jf ((),(w,q2.2.set q2.1.toNat x.1)) h (bv [.sl (z.2 q.1.toNat) 3 (.int .i64) (q2.2.set q2.1.toNat x.1),.obj b3 110 (.rep fA x),.sl z.1 23 .val (eG z.2 0 q.2),.obj y 107 (.agg (.pair (.at aw d0) (.eq z.1)))] ((kV z.2 0 q.2).eraseIdx q.1.toNat) [0,2,3,1] ⟨rfl,rfl,rfl,rfl,rfl,rfl,rfl,rfl,trivial⟩ rfl)
    ·refine aW (aM (aM (tn (ab ?_))));obtain⟨w,ew,h⟩:=aa h;refine jb (bf rfl ew) ?_;refine mq (nl ?_);exact jf ((),(w,q2.2)) h (bv [.obj b3 110 (.rep fA x),.sl (z.2 q.1.toNat) 3 (.int .i64) (q2.2),.sl z.1 23 .val (eG z.2 0 q.2),.obj y 107 (.agg (.pair (.at aw d0) (.eq z.1)))] ((kV z.2 0 q.2).eraseIdx q.1.toNat) [1,2,3,0] ⟨rfl,rfl,rfl,rfl,rfl,rfl,rfl,rfl,trivial⟩ rfl)
  replace h:=bN (nL hb) h;refine dC (aU (aU (bU (aM (tn (dW (AV (pre:=[.obj y 107 (.agg (.pair (.at aw d0) (.eq z.1))),.obj b3 110 (.rep fA x)]) (l':=q2.2) (qe el).2) ?_))))));refine ab ?_;obtain⟨w,ew,h⟩:=aa (X:=ck (q.1+1)) (f:=fun w=>kW k x (ls.length:Int) n (w,q.2.set q.1.toNat q2.2)) (K:=some) (r:=r) (by simpa using h);refine jb (bf rfl ew) ?_;refine mq (nl ?_);exact jf ((),(w,q.2.set q.1.toNat q2.2)) h (bv [.obj y 107 (.agg (.pair (.at aw d0) (.eq z.1))),.obj b3 110 (.rep fA x)] (fK 23 z (q.2.set q.1.toNat q2.2)) [0,1] ⟨rfl,rfl,rfl,rfl,trivial⟩ rfl)
 replace h:=bN (nL hb) h
 refine dC ?_
 refine aU ?_
 refine aU ?_
 refine bU ?_
 cases h
 refine jw ?_
 refine bu (bv (Γ':=[]) (pre':=[.obj y 107 (.agg (.pair (.at aw d0) (.eq z.1)))]) [.obj y 107 (.agg (.pair (.at aw d0) (.eq z.1))),.obj b3 110 (.rep fA x)] (fK 23 z q.2) [0] trivial rfl) ?_
 exact jg () [] trivial rfl
@[reducible] def Jy:Ty:=.agg (.pair (.ptr aw) (.slice (.slice (.int .i64))))
theorem MD{S:FS}{w:World}{y:Nat}{d0:aw.den}{z:Value×(Nat→Value)}{ls:List (List Int)}(h:∀d∈[D.obj y 107 (.agg (.pair (.at aw d0) (.eq z.1)))]++fK 23 z ls,d.holds S w∧∀b,d.foot=some b→S b):(A.at Jy (d0,ls)).holds S w (bP y):=by
 obtain⟨⟨cs,h1,c1,c2,rfl,g1,rfl,g2⟩,h2⟩:=h _ (List.mem_cons_self ..);have h3:=MX (fun d hd=>h d (List.mem_cons_of_mem _ hd));refine⟨y,0,_,107,(0,0),rfl,h2 y rfl,h1,c1,[z.1],?_,g1,?_⟩
 ·have l1:=aP (.ptr aw) g1;simp only [Ty.cells] at l1;match c1,l1 with
  |[u],_=>rfl
 ·obtain⟨cs,h4,h5⟩:=h3;have l1:=aP (.slice (.slice (.int .i64))) h4;simp only [Ty.cells] at l1;match cs,l1 with
  |[u],_=>rw [h5];exact h4
theorem zf{S:FS}{w:World}{a:Act}{Γ:Ga}{y:Nat}{d0:aw.den}{z:Value×(Nat→Value)}{ls:List (List Int)}(h:∀d∈[D.obj y 107 (.agg (.pair (.at aw d0) (.eq z.1)))]++fK 23 z ls,d.holds S w∧∀b,d.foot=some b→S b)
 (hk:∀s r,lk Γ s=some r→r.holds S w (a.tmps.getD s undef)) (h0:lk Γ 0=some (.eq (bP y))):∀s r,lk [(0,A.at Jy (d0,ls))] s=some r→r.holds S w (a.tmps.getD s undef):=fun s r hl=>by
 simp only [lk] at hl
 split at hl
 ·
  rename_i e
  cases hl
  subst e
  have e1:a.tmps.getD 0 undef=bP y:=hk 0 _ h0
  rw [e1]
  exact MD h
 ·
  cases hl
theorem LX{n:Nat}{r0:A}(h:r0.flat=true):∀s r,lk [(n,r0)] s=some r→r.flat=true:=fun s r hl=>by
 simp only [lk] at hl
 split at hl
 ·
  cases hl;exact h
 ·
  cases hl
theorem Nl{d0:D}(h:d0.flat=true):∀d∈[d0],d.flat=true:=fun d hd=>by
 simp only [List.mem_cons,List.not_mem_nil,or_false] at hd
 subst hd;exact h
theorem KJ{d0 d1:D}(h:d0.flat=true)(h1:d1.flat=true):∀d∈[d0,d1],d.flat=true:=fun d hd=>by
 simp only [List.mem_cons,List.not_mem_nil,or_false] at hd
 rcases hd with rfl |rfl <;> assumption
theorem zg{y:Nat}{x:Int×Int}(S:FS)(w:World):ge S w [.eq (bP y),.rep fA x] [bP y,PU x]:=⟨_,_,rfl,rfl,_,_,rfl,KL,rfl⟩
theorem Nc:a9 Tryz.prog 157 0 0:=a9.of (by kernel_rfl)
theorem Gs:dS Tryz.prog 25 3 true:=⟨fun w=>by kernel_rfl,fun w=>by kernel_rfl⟩
theorem PY:ag Tryz.prog 64:=ag.of Tryz.func64 (by kernel_rfl) (by kernel_rfl)
theorem PZ:ag Tryz.prog 56:=ag.of Tryz.func56 (by kernel_rfl) (by kernel_rfl)
theorem Nr:ag Tryz.prog 83:=ag.of Tryz.func83 (by kernel_rfl) (by kernel_rfl)
def mX(k:Nat)(t:aO)(x:Int×Int)(ls:List (List Int)):Option (Bool×List (List Int)):=
 (na k x ls).bind fun l1=>(lJ k t l1).bind fun e=>if Kq e=true then(na k x l1).bind fun l2=>some (!vC e,l2) else none
theorem sU(k:Nat)(t:aO)(x:Int×Int)(ls:List (List Int))(r:Bool×List (List Int))(y m:Nat)(z:Value×(Nat→Value))(h:mX k t x ls=some r):
 bX Tryz.prog 68 [.eq (bP y),.rep fA x] ([.obj y 107 (.agg (.pair (.at aw (t,.map (some m))) (.eq z.1)))]++fK 23 z ls) (fun _:Unit=>(bq [.eq (.bool r.1)],[.obj y 107 (.agg (.pair (.at aw (t,.map (some m))) (.eq z.1)))]++fK 23 z r.2)):=by
 unfold mX at h
 replace h:=a8 h
 obtain⟨l1,e1,h⟩:=aa h
 obtain⟨e,e2,h⟩:=aa h
 have he:Kq e=true:=by
  apply Classical.byContradiction;intro hn;rw [if_neg hn] at h;cases h
 replace h:=cF he h
 obtain⟨l2,e3,h⟩:=aa h
 cases h
 have cv:=rA k t l1 e e2
 refine LA 23 Tryz.func68 rfl Tryz.ntmps68 rfl fun S w0=>?_
 refine sr ?_
 refine bx fun b3=>?_
 refine cq ?_
 refine nt ?_
 refine sr ?_
 refine mq ?_
 refine ka (aj rfl g7 (yT) rfl) ?_
 refine cD (fN (Δ':=([.obj y 107 (.agg (.pair (.at aw (t,.map (some m))) (.eq z.1)))]++fK 23 z ls)++[.obj b3 110 (.rep fA x)]) (List.perm_append_comm (l₁:=([.obj b3 110 (.rep fA x)]:List D)))) ?_
 refine bS (Δ:=_++_) (F:=[_]) (fun _ _ _=>ax rfl _) rfl rfl (ap [.tmp 5,.tmp 6] rfl rfl yA rfl (mH k x ls l1 y (t,.map (some m)) z e1)) ⟨rfl,rfl,trivial⟩ fun _=>?_
 refine nt ?_
 refine sr ?_
 refine mq ?_
 refine cD (fN (Δ':=[.obj b3 110 (.rep fA x)]++([.obj y 107 (.agg (.pair (.at aw (t,.map (some m))) (.eq z.1)))]++fK 23 z l1)) List.perm_append_comm) ?_
 refine ka (aj rfl g7 (yT) rfl) ?_
 refine cD (sG 9 rfl fun _ _ _ h=>Il h) ?_
 refine xG (vs:=[bP y,PU x]) [.tmp 8,.tmp 9] rfl rfl rfl rfl rfl ⟨rfl,rfl,trivial⟩ ?_
 refine au ?_
 refine ah ?_
 refine bu (fN (Δ':=([.obj y 107 (.agg (.pair (.at aw (t,.map (some m))) (.eq z.1)))]++fK 23 z l1)++[.obj b3 110 (.rep fA x)]) (List.perm_append_comm (l₁:=([.obj b3 110 (.rep fA x)]:List D)))) ?_
 show JC _ _ _ _ _
 refine ae ?_
 refine Ef (L:=_++_) (Δ:=[_]) (Γ1:=[(0,.at Jy ((t,.map (some m)),l1))]) (Z:=Unit) (fun _=>[(4,.eq (.bool (!vC e)))]) (fun _=>[.obj b3 110 (.rep fA x)]) (fun S w a hl hk=>zf hl hk rfl) (fun _=>⟨LX rfl,Nl rfl⟩) (fun S w=>?_) (fun _=>?_)
 ·
  refine bz ?_;refine dm ?_;refine da (dU rfl) ?_;refine da (aJ 1 false rfl PS rfl) ?_;refine da (ak (t:=.ptr aw) rfl Gt rfl) ?_;refine da (dU rfl) ?_;refine da (aJ 3 true rfl Nc rfl) ?_;refine da (ak (t:=av) rfl Gs rfl) ?_;refine dm ?_;refine da (dU rfl) ?_;refine da (aJ 1 false rfl uo rfl) ?_;refine da (ak (t:=.slice (.slice (.int .i64))) rfl oz rfl) ?_;refine tX (by kernel_rfl) qZ ?_;refine jb (ap [.tmp 16,.tmp 20] rfl rfl PY rfl cv) ?_;refine jb (rS rfl TC he) ?_;refine aq (au ?_);exact fun a w st=>⟨rfl,(),(SE.fin (Γ':=[(4,.eq (.bool (!vC e)))]) [0] ⟨rfl,trivial⟩ rfl) a w st⟩
 ·
  refine tn (ay (Ed (Δ1:=[.obj y 107 (.agg (.pair (.at aw (t,.map (some m))) (.eq z.1)))]++fK 23 z l1) (F:=[.obj b3 110 (.rep fA x)]) yA (mH k x l1 l2 y (t,.map (some m)) z e3 _) zg (fun _=>?_)));refine bu (fN (Δ':=[.obj b3 110 (.rep fA x)]++([.obj y 107 (.agg (.pair (.at aw (t,.map (some m))) (.eq z.1)))]++fK 23 z l2)) List.perm_append_comm) ?_;refine bu (bv (pre':=[.obj y 107 (.agg (.pair (.at aw (t,.map (some m))) (.eq z.1)))]) (Γ':=[(4,.eq (.bool (!vC e)))]) [.obj b3 110 (.rep fA x),.obj y 107 (.agg (.pair (.at aw (t,.map (some m))) (.eq z.1)))] (fK 23 z l2) [1] ⟨rfl,trivial⟩ rfl) ?_;exact jg () [_] ⟨rfl,trivial⟩ rfl
def mY(k:Nat)(t:aO)(x:Int×Int)(ls:List (List Int)):Option (Int×List (List Int)):=
 (na k x ls).bind fun l1=>(dP k l1).bind fun ld=>(dH k t ld).bind fun n=>(na k x l1).bind fun l2=>some (n,l2)
theorem sV(k:Nat)(t:aO)(x:Int×Int)(ls:List (List Int))(r:Int×List (List Int))(y m:Nat)(z:Value×(Nat→Value))(h:mY k t x ls=some r):
 du (jv Tryz.prog) 70 [.eq (bP y),.rep fA x] ([.inv m (bO k t)]++([.obj y 107 (.agg (.pair (.at aw (t,.map (some m))) (.eq z.1)))]++fK 23 z ls)) (fun _:Unit=>(bq [I r.1],[.inv m (bO k t)]++([.obj y 107 (.agg (.pair (.at aw (t,.map (some m))) (.eq z.1)))]++fK 23 z r.2))):=by
 unfold mY at h
 replace h:=a8 h
 obtain⟨l1,e1,h⟩:=aa h
 obtain⟨ld,e2,h⟩:=aa h
 obtain⟨n,e2',h⟩:=aa h
 obtain⟨l2,e3,h⟩:=aa h
 cases h
 have cv:=eC k l1 ld e2
 have cl:=jY k t m ld n e2'
 refine A4 20 Tryz.func70 rfl Tryz.ntmps70 rfl fun S w0=>?_
 refine sr ?_
 refine bx fun b3=>?_
 refine cq ?_
 refine nt ?_
 refine sr ?_
 refine mq ?_
 refine ka (aj rfl g7 (yT) rfl) ?_
 refine cD (fN (Δ':=([.obj y 107 (.agg (.pair (.at aw (t,.map (some m))) (.eq z.1)))]++fK 23 z ls)++[.obj b3 110 (.rep fA x),.inv m (bO k t)]) (List.perm_append_comm (l₁:=([.obj b3 110 (.rep fA x),.inv m (bO k t)]:List D)))) ?_
 refine bS (Δ:=_++_) (F:=[_,_]) (fun _ _ _=>ax rfl _) rfl rfl (ap [.tmp 5,.tmp 6] rfl rfl yA rfl (mH k x ls l1 y (t,.map (some m)) z e1)) ⟨rfl,rfl,trivial⟩ fun _=>?_
 refine nt ?_
 refine sr ?_
 refine mq ?_
 refine cD (fN (Δ':=[.obj b3 110 (.rep fA x),.inv m (bO k t)]++([.obj y 107 (.agg (.pair (.at aw (t,.map (some m))) (.eq z.1)))]++fK 23 z l1)) List.perm_append_comm) ?_
 refine ka (aj rfl g7 (yT) rfl) ?_
 refine cD (sG 9 rfl fun _ _ _ h=>Il h) ?_
 refine xG (vs:=[bP y,PU x]) [.tmp 8,.tmp 9] rfl rfl rfl rfl rfl ⟨rfl,rfl,trivial⟩ ?_
 refine au ?_
 refine ah ?_
 refine bu (fN (Δ':=([.obj y 107 (.agg (.pair (.at aw (t,.map (some m))) (.eq z.1)))]++fK 23 z l1)++[.obj b3 110 (.rep fA x),.inv m (bO k t)]) (List.perm_append_comm (l₁:=([.obj b3 110 (.rep fA x),.inv m (bO k t)]:List D)))) ?_
 show JC _ _ _ _ _
 refine ae ?_
 refine Ef (L:=_++_) (Δ:=[_,_]) (Γ1:=[(0,.at Jy ((t,.map (some m)),l1))]) (Z:=Unit) (fun _=>[(4,I n)]) (fun _=>[.obj b3 110 (.rep fA x),.inv m (bO k t)]) (fun S w a hl hk=>zf hl hk rfl) (fun _=>⟨LX rfl,KJ rfl rfl⟩) (fun S w=>?_) (fun _=>?_)
 ·
  refine bz ?_;refine dm ?_;refine da (dU rfl) ?_;refine da (aJ 1 false rfl PS rfl) ?_;refine da (ak (t:=.ptr aw) rfl Gt rfl) ?_;refine dm ?_;refine da (dU rfl) ?_;refine da (aJ 1 false rfl uo rfl) ?_;refine da (ak (t:=.slice (.slice (.int .i64))) rfl oz rfl) ?_;refine da (ap [.tmp 17] rfl rfl PZ rfl cv) ?_;refine tX (by kernel_rfl) qZ ?_;refine fr 1 ?_;refine kb (ia [.tmp 13,.tmp 18] rfl rfl Nr rfl cl) ?_;refine aq (au ?_);exact fun a w st=>⟨rfl,(),(SE.fin (Γ':=[(4,I n)]) [1,0] ⟨rfl,trivial⟩ rfl) a w st⟩
 ·
  refine tn (ay (Ed (Δ1:=[.obj y 107 (.agg (.pair (.at aw (t,.map (some m))) (.eq z.1)))]++fK 23 z l1) (F:=[.obj b3 110 (.rep fA x),.inv m (bO k t)]) yA (mH k x l1 l2 y (t,.map (some m)) z e3 _) zg (fun _=>?_)));refine bu (fN (Δ':=[.obj b3 110 (.rep fA x),.inv m (bO k t)]++([.obj y 107 (.agg (.pair (.at aw (t,.map (some m))) (.eq z.1)))]++fK 23 z l2)) List.perm_append_comm) ?_;refine bu (bv (pre':=[.inv m (bO k t),.obj y 107 (.agg (.pair (.at aw (t,.map (some m))) (.eq z.1)))]) (Γ':=[(4,I n)]) [.obj b3 110 (.rep fA x),.inv m (bO k t),.obj y 107 (.agg (.pair (.at aw (t,.map (some m))) (.eq z.1)))] (fK 23 z l2) [1,2] ⟨rfl,trivial⟩ rfl) ?_;exact jg () [_] ⟨rfl,trivial⟩ rfl
theorem sO:∀w,(zeroValue 110).run Tryz.prog w= .ok (.agg #[.int .i64 0,.int .i64 0]) w:=fun w=>by kernel_rfl
theorem vQ:∀S w,(A.cells S w (.rep fA (0,0)) (Value.cells (.agg #[.int .i64 0,.int .i64 0])).toList):=fun _ _=>⟨[_],[_],rfl,rfl,rfl⟩
theorem Nu:ag Tryz.prog 70:=ag.of Tryz.func70 (by kernel_rfl) (by kernel_rfl)
abbrev L0:=Int×(Int×Int)×Int×Bool×List (List Int)
def io(k:Nat)(t:aO)(xs:List (Int×Int)):Nat→L0→Option ((Int×Int)×Int×Bool×List (List Int))
 |0,_=>none
 |n+1,q=>if q.1 < (xs.length:Int) then((aQ xs q.1).bind fun x=>(mY k t x q.2.2.2.2).bind fun r=>(ck (q.1+1)).bind fun w=>io k t xs n (if(!q.2.2.2.1 || decide (r.1 < q.2.2.1))=true then(w,x,r.1,true,r.2) else(w,q.2.1,q.2.2.1,q.2.2.2.1,r.2))) else some q.2
def lT(k:Nat)(t:aO)(xs:List (Int×Int))(ls:List (List Int)):Option ((Int×Int)×Int×Bool×List (List Int)):=io k t xs k (0,(0,0),0,false,ls)
theorem wj(k:Nat)(t:aO)(xs:List (Int×Int))(ls:List (List Int))(r:(Int×Int)×Int×Bool×List (List Int))(y m:Nat)(z:Value×(Nat→Value))(h:lT k t xs ls=some r):
 du (jv Tryz.prog) 69 [.eq (.func (.func 70) #[bP y] #[]),Rs fA xs] ([.inv m (bO k t),.obj y 107 (.agg (.pair (.at aw (t,.map (some m))) (.eq z.1)))]++fK 23 z ls) (fun _:Unit=>(bq [.rep fA r.1,I r.2.1,.eq (.bool r.2.2.1)],[.inv m (bO k t),.obj y 107 (.agg (.pair (.at aw (t,.map (some m))) (.eq z.1)))]++fK 23 z r.2.2.2)):=by
 unfold lT at h
 replace h:=a8 h
 refine du.of 35 Tryz.func69 rfl Tryz.ntmps69 rfl fun S w0=>?_
 refine sr ?_
 refine aF rfl rfl rfl (be rfl sO vQ) trivial fun b4=>?_
 refine cq ?_
 refine cq ?_
 refine nt ?_
 refine sr ?_
 refine aF rfl rfl rfl (be rfl sO vQ) trivial fun b7=>?_
 refine nt ?_
 refine sr ?_
 refine cq ?_
 refine cq ?_
 refine nt ?_
 refine ae ?_
 refine sr ?_
 refine mq ?_
 refine ol N3 ?_
 refine eU rfl ?_
 refine nt ?_
 refine ao ?_
 refine aK (Z:=Unit) (α:=L0) (fun _ q=>[(0,.eq (.func (.func 70) #[bP y] #[])),(4,.eq (bP b4)),(7,.eq (bP b7)),(8,I q.2.2.1),(9,.eq (.bool q.2.2.2.1)),(13,Rs fA xs),(14,I (xs.length:Int)),(15,I q.1)]) (fun _ q=>[.obj b7 110 (.rep fA q.2.1),.obj b4 110 (.rep fA (0,0)),.inv m (bO k t),.obj y 107 (.agg (.pair (.at aw (t,.map (some m))) (.eq z.1)))]++fK 23 z q.2.2.2.2) (io k t xs) k () (0,(0,0),0,false,ls) (fun _=>rfl) h (bv [.obj b7 110 (.rep fA (0,0)),.obj b4 110 (.rep fA (0,0)),.inv m (bO k t),.obj y 107 (.agg (.pair (.at aw (t,.map (some m))) (.eq z.1)))] (fK 23 z ls) [0,1,2,3] ⟨rfl,rfl,rfl,rfl,rfl,rfl,rfl,rfl,trivial⟩ rfl) (fun n u q h=>?_)
 unfold io at h
 obtain⟨q1,q2,q3,q4,q5⟩:=q
 refine sr ?_
 refine jb (bp rfl) ?_
 refine nt ?_
 refine ae ?_
 refine bK rfl (fun hb=>?_) (fun hb=>?_)
 ·
  replace h:=cF (oH hb) h;obtain⟨x,ex,h⟩:=aa h;obtain⟨r1,e,h⟩:=aa h;obtain⟨w,ew,h⟩:=aa h;have cl:=sV k t x q5 r1 y m z e;refine sk (ae (ao (sr (jb (aA (t:=fA) rfl N3 g7 ex) ?_))));refine ja (ak (t:=fA) rfl g7 rfl) ?_;refine aF rfl rfl rfl (be rfl sO vQ) trivial fun c=>?_;refine bh rfl rfl (bb rfl g7 rfl rfl rfl) ⟨rfl,rfl,trivial⟩ ?_;refine nt (sr (mq ?_));refine ka (aj rfl g7 (yT) rfl) ?_;refine cD (fN (Δ':=([.inv m (bO k t)]++([.obj y 107 (.agg (.pair (.at aw (t,.map (some m))) (.eq z.1)))]++fK 23 z q5))++[.obj c 110 (.rep fA x),.obj b7 110 (.rep fA q2),.obj b4 110 (.rep fA (0,0))]) (List.perm_append_comm (l₁:=([.obj c 110 (.rep fA x),.obj b7 110 (.rep fA q2),.obj b4 110 (.rep fA (0,0))]:List D)))) ?_;refine bS (Δ:=_++_) (F:=[_,_,_]) (fun _ _ _=>ax rfl _) rfl rfl (pi (fs:=[bP y]) (cs:=[]) (ags:=[.rep fA x]) [.tmp 20] rfl rfl Nu rfl cl) ⟨rfl,rfl,trivial⟩ fun _=>?_;refine aq ?_;refine cD (fN (Δ':=[.obj c 110 (.rep fA x),.obj b7 110 (.rep fA q2),.obj b4 110 (.rep fA (0,0))]++([.inv m (bO k t)]++([.obj y 107 (.agg (.pair (.at aw (t,.map (some m))) (.eq z.1)))]++fK 23 z r1.2))) List.perm_append_comm) ?_;refine nt ?_;cases q4 with
  |false=>
   refine sr (mq ?_);refine ja (dT rfl) ?_;refine mq ?_;iterate 3 refine gn ?_
   refine pt (nt ?_);refine bK rfl (fun hb=>?_) (fun hb=>(by cases hb));refine ab (ka (aj rfl g7 (yT) rfl) ?_);refine mq ?_;refine fr 1 ?_;refine bh rfl rfl (bb rfl g7 rfl rfl rfl) ⟨rfl,rfl,trivial⟩ ?_;refine aq ?_;refine cq (au (aM (tn (ab ?_))));refine jb (bf rfl ew) ?_;refine mq (nl ?_);exact jf ((),(w,x,r1.1,true,r1.2)) h (bv [.obj b7 110 (.rep fA x),.obj c 110 (.rep fA x),.obj b4 110 (.rep fA (0,0)),.inv m (bO k t),.obj y 107 (.agg (.pair (.at aw (t,.map (some m))) (.eq z.1)))] (fK 23 z r1.2) [0,2,3,4] ⟨rfl,rfl,rfl,rfl,rfl,rfl,rfl,rfl,trivial⟩ rfl)
  |true=>
   refine sr (mq ?_);refine ja (dT rfl) ?_;refine mq ?_;refine gm ?_;refine gm ?_;refine gb (bp rfl) ?_;refine pf (nt ?_);refine bK rfl (fun hb=>?_) (fun hb=>?_)
   ·replace h:(io k t xs n (w,x,r1.1,true,r1.2)).bind some=some r:=by
     have hd:r1.1 < q3:=of_decide_eq_true hb;simpa [hd] using h
    refine ab (ka (aj rfl g7 (yT) rfl) ?_);refine mq ?_;refine fr 1 ?_;refine bh rfl rfl (bb rfl g7 rfl rfl rfl) ⟨rfl,rfl,trivial⟩ ?_;refine aq ?_;refine cq (au (aM (tn (ab ?_))));refine jb (bf rfl ew) ?_;refine mq (nl ?_);exact jf ((),(w,x,r1.1,true,r1.2)) h (bv [.obj b7 110 (.rep fA x),.obj c 110 (.rep fA x),.obj b4 110 (.rep fA (0,0)),.inv m (bO k t),.obj y 107 (.agg (.pair (.at aw (t,.map (some m))) (.eq z.1)))] (fK 23 z r1.2) [0,2,3,4] ⟨rfl,rfl,rfl,rfl,rfl,rfl,rfl,rfl,trivial⟩ rfl)
   ·replace h:(io k t xs n (w,q2,q3,true,r1.2)).bind some=some r:=by
     have hd:¬r1.1 < q3:=of_decide_eq_false hb;simpa [hd] using h
    refine aW (aM (tn (ab (jb (bf rfl ew) ?_))));refine mq (nl ?_);exact jf ((),(w,q2,q3,true,r1.2)) h (bv [.obj c 110 (.rep fA x),.obj b7 110 (.rep fA q2),.obj b4 110 (.rep fA (0,0)),.inv m (bO k t),.obj y 107 (.agg (.pair (.at aw (t,.map (some m))) (.eq z.1)))] (fK 23 z r1.2) [1,2,3,4] ⟨rfl,rfl,rfl,rfl,rfl,rfl,rfl,rfl,trivial⟩ rfl)
 replace h:=bN (nL hb) h
 refine dC ?_
 refine aU ?_
 refine aU ?_
 refine bU ?_
 refine tn ?_
 cases h
 refine sr ?_
 refine ka (aj rfl g7 (yT) rfl) ?_
 iterate 2 refine mq ?_
 refine fr 1 ?_
 refine bh rfl rfl (bb rfl g7 rfl rfl rfl) ⟨rfl,rfl,trivial⟩ ?_
 refine aq ?_
 refine aq ?_
 refine nt ?_
 refine ay ?_
 refine bu (fN (Δ':=([.inv m (bO k t),.obj y 107 (.agg (.pair (.at aw (t,.map (some m))) (.eq z.1)))]++fK 23 z q5)++[.obj b4 110 (.rep fA q2),.obj b7 110 (.rep fA q2)]) (List.perm_append_comm (l₁:=([.obj b4 110 (.rep fA q2),.obj b7 110 (.rep fA q2)]:List D)))) ?_
 exact aL () [_,_,_] ([.inv m (bO k t),.obj y 107 (.agg (.pair (.at aw (t,.map (some m))) (.eq z.1)))]++fK 23 z q5:List D).length ⟨⟨b4,110,.rep fA q2,2,true,rfl,List.mem_append.2 (.inr (List.mem_cons_self ..)),g7,yT,rfl⟩,rfl,rfl,trivial⟩ (by rw [List.take_left])
theorem qG:ag Tryz.prog 67:=ag.of Tryz.func67 (by kernel_rfl) (by kernel_rfl)
theorem P1:ag Tryz.prog 35:=ag.of Tryz.func35 (by kernel_rfl) (by kernel_rfl)
theorem P0:ag Tryz.prog 54:=ag.of Tryz.func54 (by kernel_rfl) (by kernel_rfl)
theorem PX:ag Tryz.prog 68:=ag.of Tryz.func68 (by kernel_rfl) (by kernel_rfl)
theorem PW:ag Tryz.prog 69:=ag.of Tryz.func69 (by kernel_rfl) (by kernel_rfl)
theorem LF:dS Tryz.prog 22 1 false:=⟨fun w=>by kernel_rfl,fun w=>by kernel_rfl⟩
theorem LW:a9 Tryz.prog 25 1 1:=a9.of (by kernel_rfl)
theorem oC:mn Tryz.prog 28 23 1 24:=.of (z:=(.slice none 0 0)) lw (by kernel_rfl) rfl rfl rfl
theorem Gx:mn Tryz.prog 108 110 2 16:=.of (z:=(.agg #[.int .i64 0,.int .i64 0])) N3 (by kernel_rfl) rfl rfl rfl
theorem ML:yS Tryz.prog 107 #[(0,1),(1,1)]:=⟨_,TA,fun _=>by kernel_rfl⟩
theorem Mc:∀w,(zeroValue 107).run Tryz.prog w= .ok (.agg #[.pointer none,.slice none 0 0]) w:=fun w=>by kernel_rfl
theorem NV:∀S w,(A.cells S w (.pair (.eq (.pointer none)) (.eq (.slice none 0 0))) (Value.cells (.agg #[.pointer none,.slice none 0 0])).toList):=fun _ _=>⟨[_],_,rfl,⟨rfl,rfl⟩,rfl,rfl⟩
theorem MK:yS Tryz.prog 110 #[(0,1),(1,1)]:=⟨_,Tz,fun _=>by kernel_rfl⟩
theorem K9:∀S w,(A.cells S w (.pair (I 0) (I 0)) (Value.cells (.agg #[.int .i64 0,.int .i64 0])).toList):=fun _ _=>⟨[_],_,rfl,⟨rfl,rfl⟩,rfl,rfl⟩
def fJ:List Bool→Ga→Ga
 |true::l,e::g=>e::fJ l g
 |false::l,_::g=>fJ l g
 |_,_=>[]
def mL(y:Nat)(z1:Value)(l:List Int)(v v2:Value):Ga:=[(39,.eq (bP y)),(40,.eq (bP y)),(41,.eq (bP y)),(42,.eq (.pointer (some ⟨y,0+1,none⟩))),(43,.eq z1),(44,Ri l),(45,.eq v),(46,.rep (.slice .val) [v]),(47,.eq v2),(48,.eq (bP y)),(49,.eq (.pointer (some ⟨y,0+1,none⟩)))]
def lW(b2 y:Nat)(n i:Int)(l:List Int)(a1:List (List Int)):Ga:=[(2,.eq (bP b2)),(8,I n),(10,.eq (bP y)),(12,Ri l),(33,.rep (.slice (.slice (.int .i64))) a1),(34,I (a1.length:Int)),(35,I i)]
theorem QQ{i j:Int}:AE (.agg (.pair (I i) (I j))) (.rep fA (i,j)):=fun S w cs h=>by
 obtain⟨c1,c2,e,h1,h2⟩:=h
 exact⟨c1,c2,e,h1.1,h2.1⟩
def mK(k:Nat)(a1:List (List Int)):Nat→Int×List (List Int)→Option (List (List Int))
 |0,_=>none
 |n+1,q=>if q.1 < (a1.length:Int) then((aQ a1 q.1).bind fun l=>(kU k l).bind fun l2=>if bQ (q.2.length+1) then(ck (q.1+1)).bind fun w=>mK k a1 n (w,q.2++[l2]) else none) else some q.2
def kX(k:Nat)(t:aO)(i:Int):Nat→Int×List (Int×Int)×List (List Int)→Option (List (Int×Int)×List (List Int))
 |0,_=>none
 |n+1,q=>if q.1 < (t.2.1.length:Int) then((mX k t (i,q.1) q.2.2).bind fun r=>if r.1=true then(if bQ (q.2.1.length+1) then(ck (q.1+1)).bind fun w=>kX k t i n (w,q.2.1++[(i,q.1)],r.2) else none) else(ck (q.1+1)).bind fun w=>kX k t i n (w,q.2.1,r.2)) else some q.2
def jO(k:Nat)(t:aO):Nat→Int×List (Int×Int)×List (List Int)→Option (List (Int×Int)×List (List Int))
 |0,_=>none
 |n+1,q=>if q.1 < (t.2.1.length:Int) then((ck (q.1+1)).bind fun w=>(kX k t q.1 k (w,q.2)).bind fun p=>jO k t n (w,p)) else some q.2
def uJ(k:Nat)(a0:aO)(a1:(List (List Int))):Option (Int×Int×Int×Int):=
 (pR k a0 a1).bind fun L=>if¬(L.2=0) then some (0,0,0,L.2) else
 (mK k a1 k (0,[])).bind fun ls=>(jO k a0 k (0,[],ls)).bind fun p=>(lT k a0 p.1 p.2).bind fun b=>
 if(!b.2.2.1 || decide (L.1≤b.2.1))=true then some (0,0,0,11) else some (b.1.1,b.1.2,b.2.1,0)
theorem zj(k:Nat)(a0:aO)(a1:(List (List Int)))(r:Int×Int×Int×Int)(h:uJ k a0 a1=some r):
 du (jv Tryz.prog) 27 [.rep av a0,.rep (.slice (.slice (.int .i64))) a1] [.inv 0 iI] (fun _:Unit=>(bq [.eq (.int .i64 r.1),.eq (.int .i64 r.2.1),.eq (.int .i64 r.2.2.1),.eq (.int .i64 r.2.2.2)],[.inv 0 iI])):=by
 unfold uJ at h
 replace h:=a8 h
 refine du.of 97 Tryz.func27 rfl Tryz.ntmps27 rfl fun S w0=>?_
 refine ae ?_
 refine ab ?_
 refine aF rfl rfl rfl (oD rfl rfl) ⟨rfl,trivial⟩ fun b2=>?_
 refine dM rfl ?_
 refine dM rfl ?_
 refine dM rfl ?_
 refine dM rfl ?_
 refine au ?_
 refine ah ?_
 show JC _ _ _ _ _
 obtain⟨L,eL,h⟩:=aa h
 have cL:=rF k a0 a1 L eL
 refine ae ?_
 refine ab ?_
 refine bY rfl rfl rfl (aj rfl Gs (yT) rfl) ⟨rfl,trivial⟩ ?_
 refine aB rfl rfl ?_
 refine bJ 1 rfl ?_
 refine bY rfl rfl rfl (ia [.tmp 21,.tmp 22] rfl rfl P1 rfl cL) ⟨rfl,rfl,trivial⟩ ?_
 refine aB rfl rfl ?_
 refine aE rfl (cE rfl rfl) ⟨rfl,trivial⟩ ?_
 refine aE rfl (cE rfl rfl) ⟨rfl,trivial⟩ ?_
 refine dk rfl rfl ?_
 refine dk rfl rfl ?_
 refine au ?_
 refine ah ?_
 show JC _ _ _ _ _
 refine ae ?_
 refine ae ?_
 refine ab ?_
 refine aB rfl rfl ?_
 refine aE rfl (fL rfl) ⟨rfl,rfl,trivial⟩ ?_
 refine au ?_
 refine ah ?_
 show JC _ _ _ _ _
 refine bK rfl (fun hb=>?_) (fun hb=>?_)
 ·
  replace h:=cF (HD hb) h
  refine ae ?_
  refine ab ?_
  refine aB rfl rfl ?_
  refine dM rfl ?_
  refine dM rfl ?_
  refine dM rfl ?_
  refine dk rfl rfl ?_
  refine au ?_
  refine ah ?_
  show JC _ _ _ _ _
  refine ay ?_
  refine aV ?_
  obtain rfl:=Option.some.inj h
  exact aL () [_,_,_,_] 1 ⟨rfl,rfl,rfl,rfl,trivial⟩ rfl
 replace h:=bN (vx hb) h
 refine aW ?_
 refine ah ?_
 show JC _ _ _ _ _
 rw [Option.bind_assoc] at h
 refine ae ?_
 refine ab ?_
 refine bJ 1 rfl ?_
 refine bY rfl rfl rfl (aj rfl Gs (yT) rfl) ⟨rfl,trivial⟩ ?_
 refine aF rfl rfl rfl (ap [.tmp 29] rfl rfl P0 rfl (gy a0)) ⟨rfl,trivial⟩ fun m=>?_
 refine cD (kO (bO k a0) lO) ?_
 refine aE rfl (cI [(0,.tmp 30,_)] rfl ML Mc NV (ij ⟨trivial,trivial⟩) rfl) ⟨rfl,trivial⟩ ?_
 refine aF rfl rfl rfl (oD rfl trivial) ⟨rfl,trivial⟩ fun y=>?_
 refine dk rfl rfl ?_
 refine au ?_
 refine ah ?_
 show JC _ _ _ _ _
 refine ae ?_
 refine ae ?_
 refine ab ?_
 refine aB rfl rfl ?_
 refine aE rfl (jq rfl rfl lw) ⟨rfl,trivial⟩ ?_
 refine eU rfl ?_
 refine cD (SE.nil 23 .val) ?_
 refine cD (fN (Δ':=[.obj y 107 (.agg (.pair (.at aw (a0,.map (some m))) (.eq (.slice none 0 0)))),.inv m (bO k a0),.obj b2 25 (.rep av a0),.inv 0 iI]++fK 23 (.slice none 0 0,fun _=>undef) []) (List.Perm.trans (List.perm_append_comm (l₁:=([.sl (.slice none 0 0) 23 .val []]:List D))) (List.Perm.refl _))) ?_
 refine au ?_
 refine ah ?_
 show JC _ _ _ _ _
 refine ao ?_
 refine aK (Z:=Value×(Nat→Value)) (α:=Int×List (List Int)) (fun z q=>[(2,.eq (bP b2)),(8,.eq (.int .i64 L.1)),(10,.eq (bP y)),(33,.rep (.slice (.slice (.int .i64))) a1),(34,.eq (.int .i64 (a1.length:Int))),(35,.eq (.int .i64 q.1))]) (fun z q=>[.obj y 107 (.agg (.pair (.at aw (a0,.map (some m))) (.eq z.1))),.inv m (bO k a0),.obj b2 25 (.rep av a0),.inv 0 iI]++fK 23 z q.2) (mK k a1) k (.slice none 0 0,fun _=>undef) (0,[]) (fun _=>rfl) h (bv [.obj y 107 (.agg (.pair (.at aw (a0,.map (some m))) (.eq (.slice none 0 0)))),.inv m (bO k a0),.obj b2 25 (.rep av a0),.inv 0 iI] (fK 23 (.slice none 0 0,fun _=>undef) []) [0,1,2,3] ⟨rfl,rfl,rfl,rfl,rfl,rfl,trivial⟩ rfl) (fun n z q h=>?_)
 unfold mK at h
 refine ae ?_
 refine ab ?_
 refine aE rfl (bp rfl) ⟨rfl,rfl,trivial⟩ ?_
 refine au ?_
 refine ah ?_
 show JC _ _ _ _ _
 refine ae ?_
 refine bK rfl (fun hb=>?_) (fun hb=>?_)
 ·
  replace h:=cF (oH hb) h
  obtain⟨q1,q2⟩:=q
  obtain⟨l,el,h⟩:=aa h
  obtain⟨l2,el2,h⟩:=aa h
  have hk:bQ (q2.length+1):=by
   apply Classical.byContradiction
   intro hn
   rw [if_neg hn] at h
   cases h
  replace h:=cF hk h
  have cc:=nk k l l2 el2
  refine aW ?_
  refine ah ?_
  show JC _ _ _ _ _
  refine ae ?_
  refine ao ?_
  refine ae ?_
  refine ab ?_
  refine aE rfl (aA (t:=.slice (.int .i64)) rfl lw Di el) ⟨rfl,rfl,trivial⟩ ?_
  refine aE rfl (ak (t:=.slice (.int .i64)) rfl Di rfl) ⟨rfl,trivial⟩ ?_
  refine dk rfl rfl ?_
  refine au ?_
  refine ah ?_
  show JC _ _ _ _ _
  refine dW (D8 (pre:=[.obj y 107 (.agg (.pair (.at aw (a0,.map (some m))) (.eq z.1))),.inv m (bO k a0),.obj b2 25 (.rep av a0),.inv 0 iI])) ?_
  refine jx 1 rfl ?_
  refine dW (SE.sub (Γ':=lW b2 y L.1 q1 l a1) ⟨rfl,rfl,rfl,rfl,rfl,rfl,rfl,trivial⟩) ?_
  generalize hB:lW b2 y L.1 q1 l a1=B
  refine sK (Δ:=[.obj y 107 (.agg (.pair (.at aw (a0,.map (some m))) (.eq z.1))),.sl z.1 23 .val (eG z.2 0 q2)]) (F:=[.inv m (bO k a0),.obj b2 25 (.rep av a0),.inv 0 iI]++kV z.2 0 q2) (Z:=Value×Value) (fun p=>B) (fun p=>[.obj y 107 (.agg (.pair (.at aw (a0,.map (some m))) (.eq p.2))),.sl p.2 23 .val (eG z.2 0 q2++[p.1]),.sl p.1 3 (.int .i64) l2]) (fun S w=>?_) (fun p=>?_)
  ·
   subst hB
   refine A1 (I:=Value×Value) (Ge:=fun _=>lW b2 y L.1 q1 l a1) (De:=fun p=>[.obj y 107 (.agg (.pair (.at aw (a0,.map (some m))) (.eq p.2))),.sl p.2 23 .val (eG z.2 0 q2++[p.1]),.sl p.1 3 (.int .i64) l2]) (L:=[true,true,true,true,true,true,true,true,true,true,true,true]) qZ rfl (fun J hJ hE=>?_) (by kernel_rfl) (fun p=>?_)
   ·
    have s2047:∀(v v2:Value),J 1 [true,true,true,true,true,true,true,true,true,true,true,false] (fJ [true,true,true,true,true,true,true,true,true,true,true,false] (mL y z.1 l v v2)++lW b2 y L.1 q1 l a1) [.obj y 107 (.agg (.pair (.at aw (a0,.map (some m))) (.eq z.1))),.sl v2 23 .val (eG z.2 0 q2++[v]),.sl v 3 (.int .i64) l2]:=fun v v2=>by
     subst hJ
     refine JD.step [11] (by kernel_rfl) rfl ?_
     refine cM.cons rfl ?_ ?_
     ·
      refine bJ 1 rfl ?_
      refine fG fun hv=>?_
      refine bJ 1 rfl ?_
      refine bh rfl rfl (bb rfl oz hv rfl rfl) ⟨rfl,rfl,trivial⟩ ?_
      exact aG (hE (v,v2)) [0,1,2] ⟨rfl,rfl,rfl,rfl,rfl,rfl,rfl,trivial⟩
     exact trivial
    have s1023:∀(v v2:Value),J 2 [true,true,true,true,true,true,true,true,true,true,false,false] (fJ [true,true,true,true,true,true,true,true,true,true,false,false] (mL y z.1 l v v2)++lW b2 y L.1 q1 l a1) [.obj y 107 (.agg (.pair (.at aw (a0,.map (some m))) (.eq z.1))),.sl v2 23 .val (eG z.2 0 q2++[v]),.sl v 3 (.int .i64) l2]:=fun v v2=>by
     subst hJ
     refine JD.step [10] (by kernel_rfl) rfl ?_
     refine cM.cons rfl ?_ ?_
     ·
      refine aE rfl (ar rfl uo) ⟨rfl,trivial⟩ ?_
      exact aG (s2047 v v2) [0,1,2] ⟨rfl,rfl,rfl,rfl,rfl,rfl,rfl,rfl,rfl,rfl,rfl,rfl,rfl,rfl,rfl,rfl,rfl,rfl,trivial⟩
     exact trivial
    have s511:∀(v v2:Value),J 3 [true,true,true,true,true,true,true,true,true,false,false,false] (fJ [true,true,true,true,true,true,true,true,true,false,false,false] (mL y z.1 l v v2)++lW b2 y L.1 q1 l a1) [.obj y 107 (.agg (.pair (.at aw (a0,.map (some m))) (.eq z.1))),.sl v2 23 .val (eG z.2 0 q2++[v]),.sl v 3 (.int .i64) l2]:=fun v v2=>by
     subst hJ
     refine JD.step [9] (by kernel_rfl) rfl ?_
     refine cM.cons rfl ?_ ?_
     ·
      refine aE rfl (ba rfl) ⟨rfl,trivial⟩ ?_
      exact aG (s1023 v v2) [0,1,2] ⟨rfl,rfl,rfl,rfl,rfl,rfl,rfl,rfl,rfl,rfl,rfl,rfl,rfl,rfl,rfl,rfl,rfl,trivial⟩
     exact trivial
    have s255:∀(v:Value),J 4 [true,true,true,true,true,true,true,true,false,false,false,false] (fJ [true,true,true,true,true,true,true,true,false,false,false,false] (mL y z.1 l v undef)++lW b2 y L.1 q1 l a1) [.obj y 107 (.agg (.pair (.at aw (a0,.map (some m))) (.eq z.1))),.sl z.1 23 .val (eG z.2 0 q2),.sl v 3 (.int .i64) l2]:=fun v=>by
     subst hJ
     refine JD.step [8] (by kernel_rfl) rfl ?_
     refine cM.cons rfl ?_ ?_
     ·
      refine bJ 1 rfl ?_
      refine c6 rfl rfl rfl (bI rfl rfl oC (by simpa [gY] using hk)) ⟨rfl,rfl,trivial⟩ fun v2=>?_
      exact aG (s511 v v2) [1,0,2] ⟨rfl,rfl,rfl,rfl,rfl,rfl,rfl,rfl,rfl,rfl,rfl,rfl,rfl,rfl,rfl,rfl,trivial⟩
     exact trivial
    have s510:∀(v v2:Value),J 4 [false,true,true,true,true,true,true,true,true,false,false,false] (fJ [false,true,true,true,true,true,true,true,true,false,false,false] (mL y z.1 l v v2)++lW b2 y L.1 q1 l a1) [.obj y 107 (.agg (.pair (.at aw (a0,.map (some m))) (.eq z.1))),.sl v2 23 .val (eG z.2 0 q2++[v]),.sl v 3 (.int .i64) l2]:=fun v v2=>by
     subst hJ
     refine JD.step [0] (by kernel_rfl) rfl ?_
     refine cM.cons rfl ?_ ?_
     ·
      refine aB rfl rfl ?_
      exact aG (s511 v v2) [0,1,2] ⟨rfl,rfl,rfl,rfl,rfl,rfl,rfl,rfl,rfl,rfl,rfl,rfl,rfl,rfl,rfl,rfl,trivial⟩
     exact trivial
    have s127:∀(v:Value),J 5 [true,true,true,true,true,true,true,false,false,false,false,false] (fJ [true,true,true,true,true,true,true,false,false,false,false,false] (mL y z.1 l v undef)++lW b2 y L.1 q1 l a1) [.obj y 107 (.agg (.pair (.at aw (a0,.map (some m))) (.eq z.1))),.sl z.1 23 .val (eG z.2 0 q2),.sl v 3 (.int .i64) l2]:=fun v=>by
     subst hJ
     refine JD.step [7] (by kernel_rfl) rfl ?_
     refine cM.cons rfl ?_ ?_
     ·
      refine bJ 2 rfl ?_
      refine fG fun hv=>?_
      refine aE rfl (bj (t:=.val) [(.tmp 45,.eq v)] [v] rfl rfl oC (.cons hv (.val hv) .nil) rfl rfl) ⟨rfl,trivial⟩ ?_
      exact aG (s255 v) [1,2,0] ⟨rfl,rfl,rfl,rfl,rfl,rfl,rfl,rfl,rfl,rfl,rfl,rfl,rfl,rfl,rfl,trivial⟩
     exact trivial
    have s239:∀(v:Value),J 5 [true,true,true,true,false,true,true,true,false,false,false,false] (fJ [true,true,true,true,false,true,true,true,false,false,false,false] (mL y z.1 l v undef)++lW b2 y L.1 q1 l a1) [.obj y 107 (.agg (.pair (.at aw (a0,.map (some m))) (.eq z.1))),.sl z.1 23 .val (eG z.2 0 q2),.sl v 3 (.int .i64) l2]:=fun v=>by
     subst hJ
     refine JD.step [4] (by kernel_rfl) rfl ?_
     refine cM.cons rfl ?_ ?_
     ·
      refine bY rfl rfl rfl (aj rfl oz jo rfl) ⟨rfl,trivial⟩ ?_
      exact aG (s255 v) [0,1,2] ⟨rfl,rfl,rfl,rfl,rfl,rfl,rfl,rfl,rfl,rfl,rfl,rfl,rfl,rfl,rfl,trivial⟩
     exact trivial
    have s254:∀(v:Value),J 5 [false,true,true,true,true,true,true,true,false,false,false,false] (fJ [false,true,true,true,true,true,true,true,false,false,false,false] (mL y z.1 l v undef)++lW b2 y L.1 q1 l a1) [.obj y 107 (.agg (.pair (.at aw (a0,.map (some m))) (.eq z.1))),.sl z.1 23 .val (eG z.2 0 q2),.sl v 3 (.int .i64) l2]:=fun v=>by
     subst hJ
     refine JD.step [0,8] (by kernel_rfl) rfl ?_
     refine cM.cons rfl ?_ ?_
     ·
      refine aB rfl rfl ?_
      exact aG (s255 v) [0,1,2] ⟨rfl,rfl,rfl,rfl,rfl,rfl,rfl,rfl,rfl,rfl,rfl,rfl,rfl,rfl,rfl,trivial⟩
     refine cM.cons rfl ?_ ?_
     ·
      refine bJ 1 rfl ?_
      refine c6 rfl rfl rfl (bI rfl rfl oC (by simpa [gY] using hk)) ⟨rfl,rfl,trivial⟩ fun v2=>?_
      exact aG (s510 v v2) [1,0,2] ⟨rfl,rfl,rfl,rfl,rfl,rfl,rfl,rfl,rfl,rfl,rfl,rfl,rfl,rfl,rfl,trivial⟩
     exact trivial
    have s63:J 6 [true,true,true,true,true,true,false,false,false,false,false,false] (fJ [true,true,true,true,true,true,false,false,false,false,false,false] (mL y z.1 l undef undef)++lW b2 y L.1 q1 l a1) [.obj y 107 (.agg (.pair (.at aw (a0,.map (some m))) (.eq z.1))),.sl z.1 23 .val (eG z.2 0 q2)]:=by
     subst hJ
     refine JD.step [6] (by kernel_rfl) rfl ?_
     refine cM.cons rfl ?_ ?_
     ·
      refine aF rfl rfl rfl (ap [.tmp 44] rfl rfl qG rfl cc) ⟨rfl,trivial⟩ fun v=>?_
      exact aG (s127 v) [1,2,0] ⟨rfl,rfl,rfl,rfl,rfl,rfl,rfl,rfl,rfl,rfl,rfl,rfl,rfl,rfl,trivial⟩
     exact trivial
    have s111:∀(v:Value),J 6 [true,true,true,true,false,true,true,false,false,false,false,false] (fJ [true,true,true,true,false,true,true,false,false,false,false,false] (mL y z.1 l v undef)++lW b2 y L.1 q1 l a1) [.obj y 107 (.agg (.pair (.at aw (a0,.map (some m))) (.eq z.1))),.sl z.1 23 .val (eG z.2 0 q2),.sl v 3 (.int .i64) l2]:=fun v=>by
     subst hJ
     refine JD.step [4,7] (by kernel_rfl) rfl ?_
     refine cM.cons rfl ?_ ?_
     ·
      refine bY rfl rfl rfl (aj rfl oz jo rfl) ⟨rfl,trivial⟩ ?_
      exact aG (s127 v) [0,1,2] ⟨rfl,rfl,rfl,rfl,rfl,rfl,rfl,rfl,rfl,rfl,rfl,rfl,rfl,rfl,trivial⟩
     refine cM.cons rfl ?_ ?_
     ·
      refine bJ 2 rfl ?_
      refine fG fun hv=>?_
      refine aE rfl (bj (t:=.val) [(.tmp 45,.eq v)] [v] rfl rfl oC (.cons hv (.val hv) .nil) rfl rfl) ⟨rfl,trivial⟩ ?_
      exact aG (s239 v) [1,2,0] ⟨rfl,rfl,rfl,rfl,rfl,rfl,rfl,rfl,rfl,rfl,rfl,rfl,rfl,rfl,trivial⟩
     exact trivial
    have s126:∀(v:Value),J 6 [false,true,true,true,true,true,true,false,false,false,false,false] (fJ [false,true,true,true,true,true,true,false,false,false,false,false] (mL y z.1 l v undef)++lW b2 y L.1 q1 l a1) [.obj y 107 (.agg (.pair (.at aw (a0,.map (some m))) (.eq z.1))),.sl z.1 23 .val (eG z.2 0 q2),.sl v 3 (.int .i64) l2]:=fun v=>by
     subst hJ
     refine JD.step [0,7] (by kernel_rfl) rfl ?_
     refine cM.cons rfl ?_ ?_
     ·
      refine aB rfl rfl ?_
      exact aG (s127 v) [0,1,2] ⟨rfl,rfl,rfl,rfl,rfl,rfl,rfl,rfl,rfl,rfl,rfl,rfl,rfl,rfl,trivial⟩
     refine cM.cons rfl ?_ ?_
     ·
      refine bJ 2 rfl ?_
      refine fG fun hv=>?_
      refine aE rfl (bj (t:=.val) [(.tmp 45,.eq v)] [v] rfl rfl oC (.cons hv (.val hv) .nil) rfl rfl) ⟨rfl,trivial⟩ ?_
      exact aG (s254 v) [1,2,0] ⟨rfl,rfl,rfl,rfl,rfl,rfl,rfl,rfl,rfl,rfl,rfl,rfl,rfl,rfl,trivial⟩
     exact trivial
    have s231:∀(v:Value),J 6 [true,true,true,false,false,true,true,true,false,false,false,false] (fJ [true,true,true,false,false,true,true,true,false,false,false,false] (mL y z.1 l v undef)++lW b2 y L.1 q1 l a1) [.obj y 107 (.agg (.pair (.at aw (a0,.map (some m))) (.eq z.1))),.sl z.1 23 .val (eG z.2 0 q2),.sl v 3 (.int .i64) l2]:=fun v=>by
     subst hJ
     refine JD.step [3] (by kernel_rfl) rfl ?_
     refine cM.cons rfl ?_ ?_
     ·
      refine aE rfl (ar rfl uo) ⟨rfl,trivial⟩ ?_
      exact aG (s239 v) [0,1,2] ⟨rfl,rfl,rfl,rfl,rfl,rfl,rfl,rfl,rfl,rfl,rfl,rfl,rfl,rfl,trivial⟩
     exact trivial
    have s238:∀(v:Value),J 6 [false,true,true,true,false,true,true,true,false,false,false,false] (fJ [false,true,true,true,false,true,true,true,false,false,false,false] (mL y z.1 l v undef)++lW b2 y L.1 q1 l a1) [.obj y 107 (.agg (.pair (.at aw (a0,.map (some m))) (.eq z.1))),.sl z.1 23 .val (eG z.2 0 q2),.sl v 3 (.int .i64) l2]:=fun v=>by
     subst hJ
     refine JD.step [0,4] (by kernel_rfl) rfl ?_
     refine cM.cons rfl ?_ ?_
     ·
      refine aB rfl rfl ?_
      exact aG (s239 v) [0,1,2] ⟨rfl,rfl,rfl,rfl,rfl,rfl,rfl,rfl,rfl,rfl,rfl,rfl,rfl,rfl,trivial⟩
     refine cM.cons rfl ?_ ?_
     ·
      refine bY rfl rfl rfl (aj rfl oz jo rfl) ⟨rfl,trivial⟩ ?_
      exact aG (s254 v) [0,1,2] ⟨rfl,rfl,rfl,rfl,rfl,rfl,rfl,rfl,rfl,rfl,rfl,rfl,rfl,rfl,trivial⟩
     exact trivial
    have s31:J 7 [true,true,true,true,true,false,false,false,false,false,false,false] (fJ [true,true,true,true,true,false,false,false,false,false,false,false] (mL y z.1 l undef undef)++lW b2 y L.1 q1 l a1) [.obj y 107 (.agg (.pair (.at aw (a0,.map (some m))) (.eq z.1))),.sl z.1 23 .val (eG z.2 0 q2)]:=by
     subst hJ
     refine JD.step [5] (by kernel_rfl) rfl ?_
     refine cM.cons rfl ?_ ?_
     ·
      refine aB rfl rfl ?_
      exact aG (s63) [0,1] ⟨rfl,rfl,rfl,rfl,rfl,rfl,rfl,rfl,rfl,rfl,rfl,rfl,rfl,trivial⟩
     exact trivial
    have s47:J 7 [true,true,true,true,false,true,false,false,false,false,false,false] (fJ [true,true,true,true,false,true,false,false,false,false,false,false] (mL y z.1 l undef undef)++lW b2 y L.1 q1 l a1) [.obj y 107 (.agg (.pair (.at aw (a0,.map (some m))) (.eq z.1))),.sl z.1 23 .val (eG z.2 0 q2)]:=by
     subst hJ
     refine JD.step [4,6] (by kernel_rfl) rfl ?_
     refine cM.cons rfl ?_ ?_
     ·
      refine bY rfl rfl rfl (aj rfl oz jo rfl) ⟨rfl,trivial⟩ ?_
      exact aG (s63) [0,1] ⟨rfl,rfl,rfl,rfl,rfl,rfl,rfl,rfl,rfl,rfl,rfl,rfl,rfl,trivial⟩
     refine cM.cons rfl ?_ ?_
     ·
      refine aF rfl rfl rfl (ap [.tmp 44] rfl rfl qG rfl cc) ⟨rfl,trivial⟩ fun v=>?_
      exact aG (s111 v) [1,2,0] ⟨rfl,rfl,rfl,rfl,rfl,rfl,rfl,rfl,rfl,rfl,rfl,rfl,rfl,trivial⟩
     exact trivial
    have s62:J 7 [false,true,true,true,true,true,false,false,false,false,false,false] (fJ [false,true,true,true,true,true,false,false,false,false,false,false] (mL y z.1 l undef undef)++lW b2 y L.1 q1 l a1) [.obj y 107 (.agg (.pair (.at aw (a0,.map (some m))) (.eq z.1))),.sl z.1 23 .val (eG z.2 0 q2)]:=by
     subst hJ
     refine JD.step [0,6] (by kernel_rfl) rfl ?_
     refine cM.cons rfl ?_ ?_
     ·
      refine aB rfl rfl ?_
      exact aG (s63) [0,1] ⟨rfl,rfl,rfl,rfl,rfl,rfl,rfl,rfl,rfl,rfl,rfl,rfl,rfl,trivial⟩
     refine cM.cons rfl ?_ ?_
     ·
      refine aF rfl rfl rfl (ap [.tmp 44] rfl rfl qG rfl cc) ⟨rfl,trivial⟩ fun v=>?_
      exact aG (s126 v) [1,2,0] ⟨rfl,rfl,rfl,rfl,rfl,rfl,rfl,rfl,rfl,rfl,rfl,rfl,rfl,trivial⟩
     exact trivial
    have s103:∀(v:Value),J 7 [true,true,true,false,false,true,true,false,false,false,false,false] (fJ [true,true,true,false,false,true,true,false,false,false,false,false] (mL y z.1 l v undef)++lW b2 y L.1 q1 l a1) [.obj y 107 (.agg (.pair (.at aw (a0,.map (some m))) (.eq z.1))),.sl z.1 23 .val (eG z.2 0 q2),.sl v 3 (.int .i64) l2]:=fun v=>by
     subst hJ
     refine JD.step [3,7] (by kernel_rfl) rfl ?_
     refine cM.cons rfl ?_ ?_
     ·
      refine aE rfl (ar rfl uo) ⟨rfl,trivial⟩ ?_
      exact aG (s111 v) [0,1,2] ⟨rfl,rfl,rfl,rfl,rfl,rfl,rfl,rfl,rfl,rfl,rfl,rfl,rfl,trivial⟩
     refine cM.cons rfl ?_ ?_
     ·
      refine bJ 2 rfl ?_
      refine fG fun hv=>?_
      refine aE rfl (bj (t:=.val) [(.tmp 45,.eq v)] [v] rfl rfl oC (.cons hv (.val hv) .nil) rfl rfl) ⟨rfl,trivial⟩ ?_
      exact aG (s231 v) [1,2,0] ⟨rfl,rfl,rfl,rfl,rfl,rfl,rfl,rfl,rfl,rfl,rfl,rfl,rfl,trivial⟩
     exact trivial
    have s110:∀(v:Value),J 7 [false,true,true,true,false,true,true,false,false,false,false,false] (fJ [false,true,true,true,false,true,true,false,false,false,false,false] (mL y z.1 l v undef)++lW b2 y L.1 q1 l a1) [.obj y 107 (.agg (.pair (.at aw (a0,.map (some m))) (.eq z.1))),.sl z.1 23 .val (eG z.2 0 q2),.sl v 3 (.int .i64) l2]:=fun v=>by
     subst hJ
     refine JD.step [0,4,7] (by kernel_rfl) rfl ?_
     refine cM.cons rfl ?_ ?_
     ·
      refine aB rfl rfl ?_
      exact aG (s111 v) [0,1,2] ⟨rfl,rfl,rfl,rfl,rfl,rfl,rfl,rfl,rfl,rfl,rfl,rfl,rfl,trivial⟩
     refine cM.cons rfl ?_ ?_
     ·
      refine bY rfl rfl rfl (aj rfl oz jo rfl) ⟨rfl,trivial⟩ ?_
      exact aG (s126 v) [0,1,2] ⟨rfl,rfl,rfl,rfl,rfl,rfl,rfl,rfl,rfl,rfl,rfl,rfl,rfl,trivial⟩
     refine cM.cons rfl ?_ ?_
     ·
      refine bJ 2 rfl ?_
      refine fG fun hv=>?_
      refine aE rfl (bj (t:=.val) [(.tmp 45,.eq v)] [v] rfl rfl oC (.cons hv (.val hv) .nil) rfl rfl) ⟨rfl,trivial⟩ ?_
      exact aG (s238 v) [1,2,0] ⟨rfl,rfl,rfl,rfl,rfl,rfl,rfl,rfl,rfl,rfl,rfl,rfl,rfl,trivial⟩
     exact trivial
    have s227:∀(v:Value),J 7 [true,true,false,false,false,true,true,true,false,false,false,false] (fJ [true,true,false,false,false,true,true,true,false,false,false,false] (mL y z.1 l v undef)++lW b2 y L.1 q1 l a1) [.obj y 107 (.agg (.pair (.at aw (a0,.map (some m))) (.eq z.1))),.sl z.1 23 .val (eG z.2 0 q2),.sl v 3 (.int .i64) l2]:=fun v=>by
     subst hJ
     refine JD.step [2] (by kernel_rfl) rfl ?_
     refine cM.cons rfl ?_ ?_
     ·
      refine aE rfl (ba rfl) ⟨rfl,trivial⟩ ?_
      exact aG (s231 v) [0,1,2] ⟨rfl,rfl,rfl,rfl,rfl,rfl,rfl,rfl,rfl,rfl,rfl,rfl,rfl,trivial⟩
     exact trivial
    have s230:∀(v:Value),J 7 [false,true,true,false,false,true,true,true,false,false,false,false] (fJ [false,true,true,false,false,true,true,true,false,false,false,false] (mL y z.1 l v undef)++lW b2 y L.1 q1 l a1) [.obj y 107 (.agg (.pair (.at aw (a0,.map (some m))) (.eq z.1))),.sl z.1 23 .val (eG z.2 0 q2),.sl v 3 (.int .i64) l2]:=fun v=>by
     subst hJ
     refine JD.step [0,3] (by kernel_rfl) rfl ?_
     refine cM.cons rfl ?_ ?_
     ·
      refine aB rfl rfl ?_
      exact aG (s231 v) [0,1,2] ⟨rfl,rfl,rfl,rfl,rfl,rfl,rfl,rfl,rfl,rfl,rfl,rfl,rfl,trivial⟩
     refine cM.cons rfl ?_ ?_
     ·
      refine aE rfl (ar rfl uo) ⟨rfl,trivial⟩ ?_
      exact aG (s238 v) [0,1,2] ⟨rfl,rfl,rfl,rfl,rfl,rfl,rfl,rfl,rfl,rfl,rfl,rfl,rfl,trivial⟩
     exact trivial
    have s15:J 8 [true,true,true,true,false,false,false,false,false,false,false,false] (fJ [true,true,true,true,false,false,false,false,false,false,false,false] (mL y z.1 l undef undef)++lW b2 y L.1 q1 l a1) [.obj y 107 (.agg (.pair (.at aw (a0,.map (some m))) (.eq z.1))),.sl z.1 23 .val (eG z.2 0 q2)]:=by
     subst hJ
     refine JD.step [4,5] (by kernel_rfl) rfl ?_
     refine cM.cons rfl ?_ ?_
     ·
      refine bY rfl rfl rfl (aj rfl oz jo rfl) ⟨rfl,trivial⟩ ?_
      exact aG (s31) [0,1] ⟨rfl,rfl,rfl,rfl,rfl,rfl,rfl,rfl,rfl,rfl,rfl,rfl,trivial⟩
     refine cM.cons rfl ?_ ?_
     ·
      refine aB rfl rfl ?_
      exact aG (s47) [0,1] ⟨rfl,rfl,rfl,rfl,rfl,rfl,rfl,rfl,rfl,rfl,rfl,rfl,trivial⟩
     exact trivial
    have s30:J 8 [false,true,true,true,true,false,false,false,false,false,false,false] (fJ [false,true,true,true,true,false,false,false,false,false,false,false] (mL y z.1 l undef undef)++lW b2 y L.1 q1 l a1) [.obj y 107 (.agg (.pair (.at aw (a0,.map (some m))) (.eq z.1))),.sl z.1 23 .val (eG z.2 0 q2)]:=by
     subst hJ
     refine JD.step [0,5] (by kernel_rfl) rfl ?_
     refine cM.cons rfl ?_ ?_
     ·
      refine aB rfl rfl ?_
      exact aG (s31) [0,1] ⟨rfl,rfl,rfl,rfl,rfl,rfl,rfl,rfl,rfl,rfl,rfl,rfl,trivial⟩
     refine cM.cons rfl ?_ ?_
     ·
      refine aB rfl rfl ?_
      exact aG (s62) [0,1] ⟨rfl,rfl,rfl,rfl,rfl,rfl,rfl,rfl,rfl,rfl,rfl,rfl,trivial⟩
     exact trivial
    have s39:J 8 [true,true,true,false,false,true,false,false,false,false,false,false] (fJ [true,true,true,false,false,true,false,false,false,false,false,false] (mL y z.1 l undef undef)++lW b2 y L.1 q1 l a1) [.obj y 107 (.agg (.pair (.at aw (a0,.map (some m))) (.eq z.1))),.sl z.1 23 .val (eG z.2 0 q2)]:=by
     subst hJ
     refine JD.step [3,6] (by kernel_rfl) rfl ?_
     refine cM.cons rfl ?_ ?_
     ·
      refine aE rfl (ar rfl uo) ⟨rfl,trivial⟩ ?_
      exact aG (s47) [0,1] ⟨rfl,rfl,rfl,rfl,rfl,rfl,rfl,rfl,rfl,rfl,rfl,rfl,trivial⟩
     refine cM.cons rfl ?_ ?_
     ·
      refine aF rfl rfl rfl (ap [.tmp 44] rfl rfl qG rfl cc) ⟨rfl,trivial⟩ fun v=>?_
      exact aG (s103 v) [1,2,0] ⟨rfl,rfl,rfl,rfl,rfl,rfl,rfl,rfl,rfl,rfl,rfl,rfl,trivial⟩
     exact trivial
    have s46:J 8 [false,true,true,true,false,true,false,false,false,false,false,false] (fJ [false,true,true,true,false,true,false,false,false,false,false,false] (mL y z.1 l undef undef)++lW b2 y L.1 q1 l a1) [.obj y 107 (.agg (.pair (.at aw (a0,.map (some m))) (.eq z.1))),.sl z.1 23 .val (eG z.2 0 q2)]:=by
     subst hJ
     refine JD.step [0,4,6] (by kernel_rfl) rfl ?_
     refine cM.cons rfl ?_ ?_
     ·
      refine aB rfl rfl ?_
      exact aG (s47) [0,1] ⟨rfl,rfl,rfl,rfl,rfl,rfl,rfl,rfl,rfl,rfl,rfl,rfl,trivial⟩
     refine cM.cons rfl ?_ ?_
     ·
      refine bY rfl rfl rfl (aj rfl oz jo rfl) ⟨rfl,trivial⟩ ?_
      exact aG (s62) [0,1] ⟨rfl,rfl,rfl,rfl,rfl,rfl,rfl,rfl,rfl,rfl,rfl,rfl,trivial⟩
     refine cM.cons rfl ?_ ?_
     ·
      refine aF rfl rfl rfl (ap [.tmp 44] rfl rfl qG rfl cc) ⟨rfl,trivial⟩ fun v=>?_
      exact aG (s110 v) [1,2,0] ⟨rfl,rfl,rfl,rfl,rfl,rfl,rfl,rfl,rfl,rfl,rfl,rfl,trivial⟩
     exact trivial
    have s99:∀(v:Value),J 8 [true,true,false,false,false,true,true,false,false,false,false,false] (fJ [true,true,false,false,false,true,true,false,false,false,false,false] (mL y z.1 l v undef)++lW b2 y L.1 q1 l a1) [.obj y 107 (.agg (.pair (.at aw (a0,.map (some m))) (.eq z.1))),.sl z.1 23 .val (eG z.2 0 q2),.sl v 3 (.int .i64) l2]:=fun v=>by
     subst hJ
     refine JD.step [2,7] (by kernel_rfl) rfl ?_
     refine cM.cons rfl ?_ ?_
     ·
      refine aE rfl (ba rfl) ⟨rfl,trivial⟩ ?_
      exact aG (s103 v) [0,1,2] ⟨rfl,rfl,rfl,rfl,rfl,rfl,rfl,rfl,rfl,rfl,rfl,rfl,trivial⟩
     refine cM.cons rfl ?_ ?_
     ·
      refine bJ 2 rfl ?_
      refine fG fun hv=>?_
      refine aE rfl (bj (t:=.val) [(.tmp 45,.eq v)] [v] rfl rfl oC (.cons hv (.val hv) .nil) rfl rfl) ⟨rfl,trivial⟩ ?_
      exact aG (s227 v) [1,2,0] ⟨rfl,rfl,rfl,rfl,rfl,rfl,rfl,rfl,rfl,rfl,rfl,rfl,trivial⟩
     exact trivial
    have s102:∀(v:Value),J 8 [false,true,true,false,false,true,true,false,false,false,false,false] (fJ [false,true,true,false,false,true,true,false,false,false,false,false] (mL y z.1 l v undef)++lW b2 y L.1 q1 l a1) [.obj y 107 (.agg (.pair (.at aw (a0,.map (some m))) (.eq z.1))),.sl z.1 23 .val (eG z.2 0 q2),.sl v 3 (.int .i64) l2]:=fun v=>by
     subst hJ
     refine JD.step [0,3,7] (by kernel_rfl) rfl ?_
     refine cM.cons rfl ?_ ?_
     ·
      refine aB rfl rfl ?_
      exact aG (s103 v) [0,1,2] ⟨rfl,rfl,rfl,rfl,rfl,rfl,rfl,rfl,rfl,rfl,rfl,rfl,trivial⟩
     refine cM.cons rfl ?_ ?_
     ·
      refine aE rfl (ar rfl uo) ⟨rfl,trivial⟩ ?_
      exact aG (s110 v) [0,1,2] ⟨rfl,rfl,rfl,rfl,rfl,rfl,rfl,rfl,rfl,rfl,rfl,rfl,trivial⟩
     refine cM.cons rfl ?_ ?_
     ·
      refine bJ 2 rfl ?_
      refine fG fun hv=>?_
      refine aE rfl (bj (t:=.val) [(.tmp 45,.eq v)] [v] rfl rfl oC (.cons hv (.val hv) .nil) rfl rfl) ⟨rfl,trivial⟩ ?_
      exact aG (s230 v) [1,2,0] ⟨rfl,rfl,rfl,rfl,rfl,rfl,rfl,rfl,rfl,rfl,rfl,rfl,trivial⟩
     exact trivial
    have s225:∀(v:Value),J 8 [true,false,false,false,false,true,true,true,false,false,false,false] (fJ [true,false,false,false,false,true,true,true,false,false,false,false] (mL y z.1 l v undef)++lW b2 y L.1 q1 l a1) [.obj y 107 (.agg (.pair (.at aw (a0,.map (some m))) (.eq z.1))),.sl z.1 23 .val (eG z.2 0 q2),.sl v 3 (.int .i64) l2]:=fun v=>by
     subst hJ
     refine JD.step [1] (by kernel_rfl) rfl ?_
     refine cM.cons rfl ?_ ?_
     ·
      refine aB rfl rfl ?_
      exact aG (s227 v) [0,1,2] ⟨rfl,rfl,rfl,rfl,rfl,rfl,rfl,rfl,rfl,rfl,rfl,rfl,trivial⟩
     exact trivial
    have s226:∀(v:Value),J 8 [false,true,false,false,false,true,true,true,false,false,false,false] (fJ [false,true,false,false,false,true,true,true,false,false,false,false] (mL y z.1 l v undef)++lW b2 y L.1 q1 l a1) [.obj y 107 (.agg (.pair (.at aw (a0,.map (some m))) (.eq z.1))),.sl z.1 23 .val (eG z.2 0 q2),.sl v 3 (.int .i64) l2]:=fun v=>by
     subst hJ
     refine JD.step [0,2] (by kernel_rfl) rfl ?_
     refine cM.cons rfl ?_ ?_
     ·
      refine aB rfl rfl ?_
      exact aG (s227 v) [0,1,2] ⟨rfl,rfl,rfl,rfl,rfl,rfl,rfl,rfl,rfl,rfl,rfl,rfl,trivial⟩
     refine cM.cons rfl ?_ ?_
     ·
      refine aE rfl (ba rfl) ⟨rfl,trivial⟩ ?_
      exact aG (s230 v) [0,1,2] ⟨rfl,rfl,rfl,rfl,rfl,rfl,rfl,rfl,rfl,rfl,rfl,rfl,trivial⟩
     exact trivial
    have s7:J 9 [true,true,true,false,false,false,false,false,false,false,false,false] (fJ [true,true,true,false,false,false,false,false,false,false,false,false] (mL y z.1 l undef undef)++lW b2 y L.1 q1 l a1) [.obj y 107 (.agg (.pair (.at aw (a0,.map (some m))) (.eq z.1))),.sl z.1 23 .val (eG z.2 0 q2)]:=by
     subst hJ
     refine JD.step [3,5] (by kernel_rfl) rfl ?_
     refine cM.cons rfl ?_ ?_
     ·
      refine aE rfl (ar rfl uo) ⟨rfl,trivial⟩ ?_
      exact aG (s15) [0,1] ⟨rfl,rfl,rfl,rfl,rfl,rfl,rfl,rfl,rfl,rfl,rfl,trivial⟩
     refine cM.cons rfl ?_ ?_
     ·
      refine aB rfl rfl ?_
      exact aG (s39) [0,1] ⟨rfl,rfl,rfl,rfl,rfl,rfl,rfl,rfl,rfl,rfl,rfl,trivial⟩
     exact trivial
    have s14:J 9 [false,true,true,true,false,false,false,false,false,false,false,false] (fJ [false,true,true,true,false,false,false,false,false,false,false,false] (mL y z.1 l undef undef)++lW b2 y L.1 q1 l a1) [.obj y 107 (.agg (.pair (.at aw (a0,.map (some m))) (.eq z.1))),.sl z.1 23 .val (eG z.2 0 q2)]:=by
     subst hJ
     refine JD.step [0,4,5] (by kernel_rfl) rfl ?_
     refine cM.cons rfl ?_ ?_
     ·
      refine aB rfl rfl ?_
      exact aG (s15) [0,1] ⟨rfl,rfl,rfl,rfl,rfl,rfl,rfl,rfl,rfl,rfl,rfl,trivial⟩
     refine cM.cons rfl ?_ ?_
     ·
      refine bY rfl rfl rfl (aj rfl oz jo rfl) ⟨rfl,trivial⟩ ?_
      exact aG (s30) [0,1] ⟨rfl,rfl,rfl,rfl,rfl,rfl,rfl,rfl,rfl,rfl,rfl,trivial⟩
     refine cM.cons rfl ?_ ?_
     ·
      refine aB rfl rfl ?_
      exact aG (s46) [0,1] ⟨rfl,rfl,rfl,rfl,rfl,rfl,rfl,rfl,rfl,rfl,rfl,trivial⟩
     exact trivial
    have s35:J 9 [true,true,false,false,false,true,false,false,false,false,false,false] (fJ [true,true,false,false,false,true,false,false,false,false,false,false] (mL y z.1 l undef undef)++lW b2 y L.1 q1 l a1) [.obj y 107 (.agg (.pair (.at aw (a0,.map (some m))) (.eq z.1))),.sl z.1 23 .val (eG z.2 0 q2)]:=by
     subst hJ
     refine JD.step [2,6] (by kernel_rfl) rfl ?_
     refine cM.cons rfl ?_ ?_
     ·
      refine aE rfl (ba rfl) ⟨rfl,trivial⟩ ?_
      exact aG (s39) [0,1] ⟨rfl,rfl,rfl,rfl,rfl,rfl,rfl,rfl,rfl,rfl,rfl,trivial⟩
     refine cM.cons rfl ?_ ?_
     ·
      refine aF rfl rfl rfl (ap [.tmp 44] rfl rfl qG rfl cc) ⟨rfl,trivial⟩ fun v=>?_
      exact aG (s99 v) [1,2,0] ⟨rfl,rfl,rfl,rfl,rfl,rfl,rfl,rfl,rfl,rfl,rfl,trivial⟩
     exact trivial
    have s38:J 9 [false,true,true,false,false,true,false,false,false,false,false,false] (fJ [false,true,true,false,false,true,false,false,false,false,false,false] (mL y z.1 l undef undef)++lW b2 y L.1 q1 l a1) [.obj y 107 (.agg (.pair (.at aw (a0,.map (some m))) (.eq z.1))),.sl z.1 23 .val (eG z.2 0 q2)]:=by
     subst hJ
     refine JD.step [0,3,6] (by kernel_rfl) rfl ?_
     refine cM.cons rfl ?_ ?_
     ·
      refine aB rfl rfl ?_
      exact aG (s39) [0,1] ⟨rfl,rfl,rfl,rfl,rfl,rfl,rfl,rfl,rfl,rfl,rfl,trivial⟩
     refine cM.cons rfl ?_ ?_
     ·
      refine aE rfl (ar rfl uo) ⟨rfl,trivial⟩ ?_
      exact aG (s46) [0,1] ⟨rfl,rfl,rfl,rfl,rfl,rfl,rfl,rfl,rfl,rfl,rfl,trivial⟩
     refine cM.cons rfl ?_ ?_
     ·
      refine aF rfl rfl rfl (ap [.tmp 44] rfl rfl qG rfl cc) ⟨rfl,trivial⟩ fun v=>?_
      exact aG (s102 v) [1,2,0] ⟨rfl,rfl,rfl,rfl,rfl,rfl,rfl,rfl,rfl,rfl,rfl,trivial⟩
     exact trivial
    have s97:∀(v:Value),J 9 [true,false,false,false,false,true,true,false,false,false,false,false] (fJ [true,false,false,false,false,true,true,false,false,false,false,false] (mL y z.1 l v undef)++lW b2 y L.1 q1 l a1) [.obj y 107 (.agg (.pair (.at aw (a0,.map (some m))) (.eq z.1))),.sl z.1 23 .val (eG z.2 0 q2),.sl v 3 (.int .i64) l2]:=fun v=>by
     subst hJ
     refine JD.step [1,7] (by kernel_rfl) rfl ?_
     refine cM.cons rfl ?_ ?_
     ·
      refine aB rfl rfl ?_
      exact aG (s99 v) [0,1,2] ⟨rfl,rfl,rfl,rfl,rfl,rfl,rfl,rfl,rfl,rfl,rfl,trivial⟩
     refine cM.cons rfl ?_ ?_
     ·
      refine bJ 2 rfl ?_
      refine fG fun hv=>?_
      refine aE rfl (bj (t:=.val) [(.tmp 45,.eq v)] [v] rfl rfl oC (.cons hv (.val hv) .nil) rfl rfl) ⟨rfl,trivial⟩ ?_
      exact aG (s225 v) [1,2,0] ⟨rfl,rfl,rfl,rfl,rfl,rfl,rfl,rfl,rfl,rfl,rfl,trivial⟩
     exact trivial
    have s98:∀(v:Value),J 9 [false,true,false,false,false,true,true,false,false,false,false,false] (fJ [false,true,false,false,false,true,true,false,false,false,false,false] (mL y z.1 l v undef)++lW b2 y L.1 q1 l a1) [.obj y 107 (.agg (.pair (.at aw (a0,.map (some m))) (.eq z.1))),.sl z.1 23 .val (eG z.2 0 q2),.sl v 3 (.int .i64) l2]:=fun v=>by
     subst hJ
     refine JD.step [0,2,7] (by kernel_rfl) rfl ?_
     refine cM.cons rfl ?_ ?_
     ·
      refine aB rfl rfl ?_
      exact aG (s99 v) [0,1,2] ⟨rfl,rfl,rfl,rfl,rfl,rfl,rfl,rfl,rfl,rfl,rfl,trivial⟩
     refine cM.cons rfl ?_ ?_
     ·
      refine aE rfl (ba rfl) ⟨rfl,trivial⟩ ?_
      exact aG (s102 v) [0,1,2] ⟨rfl,rfl,rfl,rfl,rfl,rfl,rfl,rfl,rfl,rfl,rfl,trivial⟩
     refine cM.cons rfl ?_ ?_
     ·
      refine bJ 2 rfl ?_
      refine fG fun hv=>?_
      refine aE rfl (bj (t:=.val) [(.tmp 45,.eq v)] [v] rfl rfl oC (.cons hv (.val hv) .nil) rfl rfl) ⟨rfl,trivial⟩ ?_
      exact aG (s226 v) [1,2,0] ⟨rfl,rfl,rfl,rfl,rfl,rfl,rfl,rfl,rfl,rfl,rfl,trivial⟩
     exact trivial
    have s224:∀(v:Value),J 9 [false,false,false,false,false,true,true,true,false,false,false,false] (fJ [false,false,false,false,false,true,true,true,false,false,false,false] (mL y z.1 l v undef)++lW b2 y L.1 q1 l a1) [.obj y 107 (.agg (.pair (.at aw (a0,.map (some m))) (.eq z.1))),.sl z.1 23 .val (eG z.2 0 q2),.sl v 3 (.int .i64) l2]:=fun v=>by
     subst hJ
     refine JD.step [0,1] (by kernel_rfl) rfl ?_
     refine cM.cons rfl ?_ ?_
     ·
      refine aB rfl rfl ?_
      exact aG (s225 v) [0,1,2] ⟨rfl,rfl,rfl,rfl,rfl,rfl,rfl,rfl,rfl,rfl,rfl,trivial⟩
     refine cM.cons rfl ?_ ?_
     ·
      refine aB rfl rfl ?_
      exact aG (s226 v) [0,1,2] ⟨rfl,rfl,rfl,rfl,rfl,rfl,rfl,rfl,rfl,rfl,rfl,trivial⟩
     exact trivial
    have s3:J 10 [true,true,false,false,false,false,false,false,false,false,false,false] (fJ [true,true,false,false,false,false,false,false,false,false,false,false] (mL y z.1 l undef undef)++lW b2 y L.1 q1 l a1) [.obj y 107 (.agg (.pair (.at aw (a0,.map (some m))) (.eq z.1))),.sl z.1 23 .val (eG z.2 0 q2)]:=by
     subst hJ
     refine JD.step [2,5] (by kernel_rfl) rfl ?_
     refine cM.cons rfl ?_ ?_
     ·
      refine aE rfl (ba rfl) ⟨rfl,trivial⟩ ?_
      exact aG (s7) [0,1] ⟨rfl,rfl,rfl,rfl,rfl,rfl,rfl,rfl,rfl,rfl,trivial⟩
     refine cM.cons rfl ?_ ?_
     ·
      refine aB rfl rfl ?_
      exact aG (s35) [0,1] ⟨rfl,rfl,rfl,rfl,rfl,rfl,rfl,rfl,rfl,rfl,trivial⟩
     exact trivial
    have s6:J 10 [false,true,true,false,false,false,false,false,false,false,false,false] (fJ [false,true,true,false,false,false,false,false,false,false,false,false] (mL y z.1 l undef undef)++lW b2 y L.1 q1 l a1) [.obj y 107 (.agg (.pair (.at aw (a0,.map (some m))) (.eq z.1))),.sl z.1 23 .val (eG z.2 0 q2)]:=by
     subst hJ
     refine JD.step [0,3,5] (by kernel_rfl) rfl ?_
     refine cM.cons rfl ?_ ?_
     ·
      refine aB rfl rfl ?_
      exact aG (s7) [0,1] ⟨rfl,rfl,rfl,rfl,rfl,rfl,rfl,rfl,rfl,rfl,trivial⟩
     refine cM.cons rfl ?_ ?_
     ·
      refine aE rfl (ar rfl uo) ⟨rfl,trivial⟩ ?_
      exact aG (s14) [0,1] ⟨rfl,rfl,rfl,rfl,rfl,rfl,rfl,rfl,rfl,rfl,trivial⟩
     refine cM.cons rfl ?_ ?_
     ·
      refine aB rfl rfl ?_
      exact aG (s38) [0,1] ⟨rfl,rfl,rfl,rfl,rfl,rfl,rfl,rfl,rfl,rfl,trivial⟩
     exact trivial
    have s33:J 10 [true,false,false,false,false,true,false,false,false,false,false,false] (fJ [true,false,false,false,false,true,false,false,false,false,false,false] (mL y z.1 l undef undef)++lW b2 y L.1 q1 l a1) [.obj y 107 (.agg (.pair (.at aw (a0,.map (some m))) (.eq z.1))),.sl z.1 23 .val (eG z.2 0 q2)]:=by
     subst hJ
     refine JD.step [1,6] (by kernel_rfl) rfl ?_
     refine cM.cons rfl ?_ ?_
     ·
      refine aB rfl rfl ?_
      exact aG (s35) [0,1] ⟨rfl,rfl,rfl,rfl,rfl,rfl,rfl,rfl,rfl,rfl,trivial⟩
     refine cM.cons rfl ?_ ?_
     ·
      refine aF rfl rfl rfl (ap [.tmp 44] rfl rfl qG rfl cc) ⟨rfl,trivial⟩ fun v=>?_
      exact aG (s97 v) [1,2,0] ⟨rfl,rfl,rfl,rfl,rfl,rfl,rfl,rfl,rfl,rfl,trivial⟩
     exact trivial
    have s34:J 10 [false,true,false,false,false,true,false,false,false,false,false,false] (fJ [false,true,false,false,false,true,false,false,false,false,false,false] (mL y z.1 l undef undef)++lW b2 y L.1 q1 l a1) [.obj y 107 (.agg (.pair (.at aw (a0,.map (some m))) (.eq z.1))),.sl z.1 23 .val (eG z.2 0 q2)]:=by
     subst hJ
     refine JD.step [0,2,6] (by kernel_rfl) rfl ?_
     refine cM.cons rfl ?_ ?_
     ·
      refine aB rfl rfl ?_
      exact aG (s35) [0,1] ⟨rfl,rfl,rfl,rfl,rfl,rfl,rfl,rfl,rfl,rfl,trivial⟩
     refine cM.cons rfl ?_ ?_
     ·
      refine aE rfl (ba rfl) ⟨rfl,trivial⟩ ?_
      exact aG (s38) [0,1] ⟨rfl,rfl,rfl,rfl,rfl,rfl,rfl,rfl,rfl,rfl,trivial⟩
     refine cM.cons rfl ?_ ?_
     ·
      refine aF rfl rfl rfl (ap [.tmp 44] rfl rfl qG rfl cc) ⟨rfl,trivial⟩ fun v=>?_
      exact aG (s98 v) [1,2,0] ⟨rfl,rfl,rfl,rfl,rfl,rfl,rfl,rfl,rfl,rfl,trivial⟩
     exact trivial
    have s96:∀(v:Value),J 10 [false,false,false,false,false,true,true,false,false,false,false,false] (fJ [false,false,false,false,false,true,true,false,false,false,false,false] (mL y z.1 l v undef)++lW b2 y L.1 q1 l a1) [.obj y 107 (.agg (.pair (.at aw (a0,.map (some m))) (.eq z.1))),.sl z.1 23 .val (eG z.2 0 q2),.sl v 3 (.int .i64) l2]:=fun v=>by
     subst hJ
     refine JD.step [0,1,7] (by kernel_rfl) rfl ?_
     refine cM.cons rfl ?_ ?_
     ·
      refine aB rfl rfl ?_
      exact aG (s97 v) [0,1,2] ⟨rfl,rfl,rfl,rfl,rfl,rfl,rfl,rfl,rfl,rfl,trivial⟩
     refine cM.cons rfl ?_ ?_
     ·
      refine aB rfl rfl ?_
      exact aG (s98 v) [0,1,2] ⟨rfl,rfl,rfl,rfl,rfl,rfl,rfl,rfl,rfl,rfl,trivial⟩
     refine cM.cons rfl ?_ ?_
     ·
      refine bJ 2 rfl ?_
      refine fG fun hv=>?_
      refine aE rfl (bj (t:=.val) [(.tmp 45,.eq v)] [v] rfl rfl oC (.cons hv (.val hv) .nil) rfl rfl) ⟨rfl,trivial⟩ ?_
      exact aG (s224 v) [1,2,0] ⟨rfl,rfl,rfl,rfl,rfl,rfl,rfl,rfl,rfl,rfl,trivial⟩
     exact trivial
    have s1:J 11 [true,false,false,false,false,false,false,false,false,false,false,false] (fJ [true,false,false,false,false,false,false,false,false,false,false,false] (mL y z.1 l undef undef)++lW b2 y L.1 q1 l a1) [.obj y 107 (.agg (.pair (.at aw (a0,.map (some m))) (.eq z.1))),.sl z.1 23 .val (eG z.2 0 q2)]:=by
     subst hJ
     refine JD.step [1,5] (by kernel_rfl) rfl ?_
     refine cM.cons rfl ?_ ?_
     ·
      refine aB rfl rfl ?_
      exact aG (s3) [0,1] ⟨rfl,rfl,rfl,rfl,rfl,rfl,rfl,rfl,rfl,trivial⟩
     refine cM.cons rfl ?_ ?_
     ·
      refine aB rfl rfl ?_
      exact aG (s33) [0,1] ⟨rfl,rfl,rfl,rfl,rfl,rfl,rfl,rfl,rfl,trivial⟩
     exact trivial
    have s2:J 11 [false,true,false,false,false,false,false,false,false,false,false,false] (fJ [false,true,false,false,false,false,false,false,false,false,false,false] (mL y z.1 l undef undef)++lW b2 y L.1 q1 l a1) [.obj y 107 (.agg (.pair (.at aw (a0,.map (some m))) (.eq z.1))),.sl z.1 23 .val (eG z.2 0 q2)]:=by
     subst hJ
     refine JD.step [0,2,5] (by kernel_rfl) rfl ?_
     refine cM.cons rfl ?_ ?_
     ·
      refine aB rfl rfl ?_
      exact aG (s3) [0,1] ⟨rfl,rfl,rfl,rfl,rfl,rfl,rfl,rfl,rfl,trivial⟩
     refine cM.cons rfl ?_ ?_
     ·
      refine aE rfl (ba rfl) ⟨rfl,trivial⟩ ?_
      exact aG (s6) [0,1] ⟨rfl,rfl,rfl,rfl,rfl,rfl,rfl,rfl,rfl,trivial⟩
     refine cM.cons rfl ?_ ?_
     ·
      refine aB rfl rfl ?_
      exact aG (s34) [0,1] ⟨rfl,rfl,rfl,rfl,rfl,rfl,rfl,rfl,rfl,trivial⟩
     exact trivial
    have s32:J 11 [false,false,false,false,false,true,false,false,false,false,false,false] (fJ [false,false,false,false,false,true,false,false,false,false,false,false] (mL y z.1 l undef undef)++lW b2 y L.1 q1 l a1) [.obj y 107 (.agg (.pair (.at aw (a0,.map (some m))) (.eq z.1))),.sl z.1 23 .val (eG z.2 0 q2)]:=by
     subst hJ
     refine JD.step [0,1,6] (by kernel_rfl) rfl ?_
     refine cM.cons rfl ?_ ?_
     ·
      refine aB rfl rfl ?_
      exact aG (s33) [0,1] ⟨rfl,rfl,rfl,rfl,rfl,rfl,rfl,rfl,rfl,trivial⟩
     refine cM.cons rfl ?_ ?_
     ·
      refine aB rfl rfl ?_
      exact aG (s34) [0,1] ⟨rfl,rfl,rfl,rfl,rfl,rfl,rfl,rfl,rfl,trivial⟩
     refine cM.cons rfl ?_ ?_
     ·
      refine aF rfl rfl rfl (ap [.tmp 44] rfl rfl qG rfl cc) ⟨rfl,trivial⟩ fun v=>?_
      exact aG (s96 v) [1,2,0] ⟨rfl,rfl,rfl,rfl,rfl,rfl,rfl,rfl,rfl,trivial⟩
     exact trivial
    have s0:J 12 [false,false,false,false,false,false,false,false,false,false,false,false] (fJ [false,false,false,false,false,false,false,false,false,false,false,false] (mL y z.1 l undef undef)++lW b2 y L.1 q1 l a1) [.obj y 107 (.agg (.pair (.at aw (a0,.map (some m))) (.eq z.1))),.sl z.1 23 .val (eG z.2 0 q2)]:=by
     subst hJ
     refine JD.step [0,1,5] (by kernel_rfl) rfl ?_
     refine cM.cons rfl ?_ ?_
     ·
      refine aB rfl rfl ?_
      exact aG (s1) [0,1] ⟨rfl,rfl,rfl,rfl,rfl,rfl,rfl,rfl,trivial⟩
     refine cM.cons rfl ?_ ?_
     ·
      refine aB rfl rfl ?_
      exact aG (s2) [0,1] ⟨rfl,rfl,rfl,rfl,rfl,rfl,rfl,rfl,trivial⟩
     refine cM.cons rfl ?_ ?_
     ·
      refine aB rfl rfl ?_
      exact aG (s32) [0,1] ⟨rfl,rfl,rfl,rfl,rfl,rfl,rfl,rfl,trivial⟩
     exact trivial
    exact s0
   ·
    exact fun a w st=>⟨rfl,p,st⟩
  ·
   subst hB
   refine aM ?_
   refine ah ?_
   refine bu (fN (Δ':=.sl p.1 3 (.int .i64) l2:: .sl p.2 23 .val (eG z.2 0 q2++[p.1])::([.obj y 107 (.agg (.pair (.at aw (a0,.map (some m))) (.eq p.2))),.inv m (bO k a0),.obj b2 25 (.rep av a0),.inv 0 iI]++kV z.2 0 q2)) ?_) ?_
   ·
    exact List.Perm.trans (List.Perm.swap _ _ _) (List.Perm.trans (List.Perm.cons _ (List.Perm.swap _ _ _)) (List.Perm.swap _ _ _))
   refine bu (xC (pre:=[.obj y 107 (.agg (.pair (.at aw (a0,.map (some m))) (.eq p.2))),.inv m (bO k a0),.obj b2 25 (.rep av a0),.inv 0 iI])) ?_
   show JC _ _ _ _ _
   refine ab ?_
   obtain⟨w3,ew,h⟩:=aa h
   refine aE rfl (bf rfl ew) ⟨rfl,rfl,trivial⟩ ?_
   refine aB rfl rfl ?_
   refine au ?_
   refine ah ?_
   exact jf ((p.2,nn z.2 q2.length p.1),(w3,q2++[l2])) h (bv [.obj y 107 (.agg (.pair (.at aw (a0,.map (some m))) (.eq p.2))),.inv m (bO k a0),.obj b2 25 (.rep av a0),.inv 0 iI] (fK 23 (p.2,nn z.2 q2.length p.1) (q2++[l2])) [0,1,2,3] ⟨rfl,rfl,rfl,rfl,rfl,rfl,trivial⟩ rfl)
 replace h:=bN (nL hb) h
 refine dC ?_
 refine aU ?_
 refine aU ?_
 refine bU ?_
 refine ah ?_
 show JC _ _ _ _ _
 replace h:((jO k a0 k (0,[],q.2)).bind fun p=>(lT k a0 p.1 p.2).bind fun b=>if(!b.2.2.1 || decide (L.1≤b.2.1))=true then some (0,0,0,11) else some (b.1.1,b.1.2,b.2.1,0)).bind some=some r:=h
 rw [Option.bind_assoc] at h
 generalize q.2=ls at h⊢
 refine ae ?_
 refine ab ?_
 refine dM rfl ?_
 refine cD (SE.nil 110 fA) ?_
 refine au ?_
 refine ah ?_
 show JC _ _ _ _ _
 refine dW (bv (Γ':=[(2,.eq (bP b2)),(8,.eq (.int .i64 L.1)),(10,.eq (bP y)),(13,.eq (.slice none 0 0))]) (pre':=[.inv m (bO k a0),.obj b2 25 (.rep av a0),.inv 0 iI,.sl (.slice none 0 0) 110 fA [],.obj y 107 (.agg (.pair (.at aw (a0,.map (some m))) (.eq z.1)))]) [.sl (.slice none 0 0) 110 fA [],.obj y 107 (.agg (.pair (.at aw (a0,.map (some m))) (.eq z.1))),.inv m (bO k a0),.obj b2 25 (.rep av a0),.inv 0 iI] (fK 23 z ls) [2,3,4,0,1] ⟨rfl,rfl,rfl,rfl,trivial⟩ rfl) ?_
 refine ae ?_
 refine ae ?_
 refine ab ?_
 refine aE rfl (ar rfl LW) ⟨rfl,trivial⟩ ?_
 refine bJ 1 rfl ?_
 refine bY rfl rfl rfl (aj rfl LF jo rfl) ⟨rfl,trivial⟩ ?_
 refine aE rfl (jq rfl rfl mD) ⟨rfl,trivial⟩ ?_
 refine eU rfl ?_
 refine au ?_
 refine ah ?_
 show JC _ _ _ _ _
 refine ao ?_
 refine aK (Z:=Value) (α:=Int×List (Int×Int)×List (List Int)) (fun c q=>[(2,.eq (bP b2)),(8,.eq (.int .i64 L.1)),(10,.eq (bP y)),(13,.eq c),(53,.eq (.int .i64 (a0.2.1.length:Int))),(54,.eq (.int .i64 q.1))]) (fun c q=>[.obj b2 25 (.rep av a0),.inv m (bO k a0),.inv 0 iI,.sl c 110 fA q.2.1,.obj y 107 (.agg (.pair (.at aw (a0,.map (some m))) (.eq z.1)))]++fK 23 z q.2.2) (jO k a0) k (.slice none 0 0) (0,[],ls) (fun _=>rfl) h (bv [.obj b2 25 (.rep av a0),.inv m (bO k a0),.inv 0 iI,.sl (.slice none 0 0) 110 fA [],.obj y 107 (.agg (.pair (.at aw (a0,.map (some m))) (.eq z.1)))] (fK 23 z ls) [0,1,2,3,4] ⟨rfl,rfl,rfl,rfl,rfl,rfl,trivial⟩ rfl) (fun n c q h=>?_)
 obtain⟨q1,qp,ql⟩:=q
 unfold jO at h
 refine ae ?_
 refine ab ?_
 refine aE rfl (bp rfl) ⟨rfl,rfl,trivial⟩ ?_
 refine au ?_
 refine ah ?_
 show JC _ _ _ _ _
 refine ae ?_
 refine bK rfl (fun hb=>?_) (fun hb=>?_)
 ·
  replace h:=cF (oH hb) h
  obtain⟨w,ew,h⟩:=aa h
  rw [Option.bind_assoc] at h
  refine aW ?_
  refine ah ?_
  show JC _ _ _ _ _
  refine ae ?_
  refine ao ?_
  refine ae ?_
  refine ab ?_
  refine aB rfl rfl ?_
  refine dk rfl rfl ?_
  refine au ?_
  refine ah ?_
  show JC _ _ _ _ _
  refine ae ?_
  refine ab ?_
  refine aB rfl rfl ?_
  refine aE rfl (bf rfl ew) ⟨rfl,rfl,trivial⟩ ?_
  refine dk rfl rfl ?_
  refine au ?_
  refine ah ?_
  show JC _ _ _ _ _
  refine ao ?_
  refine aK (Z:=Value) (α:=Int×List (Int×Int)×List (List Int)) (fun c q=>[(2,.eq (bP b2)),(8,.eq (.int .i64 L.1)),(10,.eq (bP y)),(13,.eq c),(14,.eq (.int .i64 q1)),(15,.eq (.int .i64 q.1)),(53,.eq (.int .i64 (a0.2.1.length:Int))),(54,.eq (.int .i64 q1))]) (fun c q=>[.obj b2 25 (.rep av a0),.inv m (bO k a0),.inv 0 iI,.sl c 110 fA q.2.1,.obj y 107 (.agg (.pair (.at aw (a0,.map (some m))) (.eq z.1)))]++fK 23 z q.2.2) (kX k a0 q1) k c (w,qp,ql) (fun _=>rfl) h (bv [.obj b2 25 (.rep av a0),.inv m (bO k a0),.inv 0 iI,.sl c 110 fA qp,.obj y 107 (.agg (.pair (.at aw (a0,.map (some m))) (.eq z.1)))] (fK 23 z ql) [0,1,2,3,4] ⟨rfl,rfl,rfl,rfl,rfl,rfl,rfl,rfl,trivial⟩ rfl) (fun n3 c q h=>?_)
  obtain⟨j,rp,rl⟩:=q
  unfold kX at h
  refine ae ?_
  refine ae ?_
  refine ab ?_
  refine aB rfl rfl ?_
  refine aE rfl (ar rfl LW) ⟨rfl,trivial⟩ ?_
  refine bY rfl rfl rfl (aj rfl LF jo rfl) ⟨rfl,trivial⟩ ?_
  refine aE rfl (jq rfl rfl mD) ⟨rfl,trivial⟩ ?_
  refine aE rfl (bp rfl) ⟨rfl,rfl,trivial⟩ ?_
  refine au ?_
  refine ah ?_
  show JC _ _ _ _ _
  refine bK rfl (fun hb=>?_) (fun hb=>?_)
  ·
   replace h:=cF (oH hb) h
   obtain⟨r1,Q,h⟩:=aa h
   have cv:=sU k a0 (q1,j) rl r1 y m z Q
   refine aW ?_
   refine ah ?_
   show JC _ _ _ _ _
   refine ae ?_
   refine ao ?_
   refine ae ?_
   refine ab ?_
   refine aB rfl rfl ?_
   refine aB rfl rfl ?_
   refine aE rfl (cI [(0,.tmp 66,_),(1,.tmp 67,_)] rfl MK sO K9 (ij ⟨rfl,rfl,trivial⟩) rfl) ⟨rfl,rfl,trivial⟩ ?_
   refine aF rfl rfl rfl (be rfl sO vQ) trivial fun e=>?_
   refine bh rfl rfl (bb rfl g7 trivial rfl rfl) ⟨rfl,rfl,trivial⟩ ?_
   refine cD (oq (a':=.rep fA (q1,j)) QQ) ?_
   refine au ?_
   refine ah ?_
   show JC _ _ _ _ _
   refine ae ?_
   refine ab ?_
   refine aB rfl rfl ?_
   refine bY rfl rfl rfl (aj rfl g7 (yT) rfl) ⟨rfl,trivial⟩ ?_
   refine cD (fN (Δ':=([.obj y 107 (.agg (.pair (.at aw (a0,.map (some m))) (.eq z.1)))]++fK 23 z rl)++[.obj e 110 (.rep fA (q1,j)),.obj b2 25 (.rep av a0),.inv m (bO k a0),.inv 0 iI,.sl c 110 fA rp]) (List.perm_append_comm (l₁:=([.obj e 110 (.rep fA (q1,j)),.obj b2 25 (.rep av a0),.inv m (bO k a0),.inv 0 iI,.sl c 110 fA rp]:List D)))) ?_
   refine bS (Δ:=_++_) (F:=[_,_,_,_,_]) (fun _ _ _=>ax rfl _) rfl rfl (ap [.tmp 69,.tmp 70] rfl rfl PX rfl cv) ⟨rfl,rfl,trivial⟩ fun _=>?_
   refine cD (fN (Δ':=[.obj e 110 (.rep fA (q1,j)),.obj b2 25 (.rep av a0),.inv m (bO k a0),.inv 0 iI,.sl c 110 fA rp]++([.obj y 107 (.agg (.pair (.at aw (a0,.map (some m))) (.eq z.1)))]++fK 23 z r1.2)) List.perm_append_comm) ?_
   refine au ?_
   refine ah ?_
   show JC _ _ _ _ _
   refine bK rfl (fun hb=>?_) (fun hb=>?_)
   ·
    replace h:=cF (Db hb) h
    have hk:bQ (rp.length+1):=by
     apply Classical.byContradiction
     intro hn
     rw [if_neg hn] at h
     cases h
    replace h:=cF hk h
    refine ab ?_
    refine aB rfl rfl ?_
    refine bY rfl rfl rfl (aj rfl g7 (yT) rfl) ⟨rfl,trivial⟩ ?_
    refine aE rfl (bj (t:=fA) [(.tmp 73,_)] [(q1,j)] rfl rfl Gx (.cons rfl .rep .nil) rfl rfl) ⟨rfl,trivial⟩ ?_
    refine bJ 4 rfl ?_
    refine c6 rfl rfl rfl (bI rfl rfl Gx (by simpa using hk)) ⟨rfl,rfl,trivial⟩ fun v'=>?_
    refine dk rfl rfl ?_
    refine au ?_
    refine aM ?_
    refine ah ?_
    show JC _ _ _ _ _
    refine ab ?_
    refine aB rfl rfl ?_
    obtain⟨w2,ew2,h⟩:=aa h
    refine aE rfl (bf rfl ew2) ⟨rfl,rfl,trivial⟩ ?_
    refine dk rfl rfl ?_
    refine au ?_
    refine ah ?_
    exact jf (v',(w2,rp++[(q1,j)],r1.2)) h (bv [.sl v' 110 fA (rp++[(q1,j)]),.obj e 110 (.rep fA (q1,j)),.obj b2 25 (.rep av a0),.inv m (bO k a0),.inv 0 iI,.obj y 107 (.agg (.pair (.at aw (a0,.map (some m))) (.eq z.1)))] (fK 23 z r1.2) [2,3,4,0,5] ⟨rfl,rfl,rfl,rfl,rfl,rfl,rfl,rfl,trivial⟩ rfl)
   ·
    replace h:=bN (Dc hb) h
    refine aW ?_
    refine aM ?_
    refine ah ?_
    show JC _ _ _ _ _
    refine ab ?_
    refine aB rfl rfl ?_
    obtain⟨w2,ew2,h⟩:=aa h
    refine aE rfl (bf rfl ew2) ⟨rfl,rfl,trivial⟩ ?_
    refine dk rfl rfl ?_
    refine au ?_
    refine ah ?_
    exact jf (c,(w2,rp,r1.2)) h (bv [.obj e 110 (.rep fA (q1,j)),.obj b2 25 (.rep av a0),.inv m (bO k a0),.inv 0 iI,.sl c 110 fA rp,.obj y 107 (.agg (.pair (.at aw (a0,.map (some m))) (.eq z.1)))] (fK 23 z r1.2) [1,2,3,4,5] ⟨rfl,rfl,rfl,rfl,rfl,rfl,rfl,rfl,trivial⟩ rfl)
  replace h:=bN (nL hb) h
  refine dC ?_
  refine aU ?_
  refine aU ?_
  refine bU ?_
  refine aM ?_
  refine ah ?_
  show JC _ _ _ _ _
  replace h:(jO k a0 n (w,rp,rl)).bind _=some r:=h
  refine ab ?_
  refine aE rfl (bf rfl ew) ⟨rfl,rfl,trivial⟩ ?_
  refine aB rfl rfl ?_
  refine au ?_
  refine ah ?_
  exact jf (c,(w,rp,rl)) h (bv [.obj b2 25 (.rep av a0),.inv m (bO k a0),.inv 0 iI,.sl c 110 fA rp,.obj y 107 (.agg (.pair (.at aw (a0,.map (some m))) (.eq z.1)))] (fK 23 z rl) [0,1,2,3,4] ⟨rfl,rfl,rfl,rfl,rfl,rfl,trivial⟩ rfl)
 replace h:=bN (nL hb) h
 refine dC ?_
 refine aU ?_
 refine aU ?_
 refine bU ?_
 refine ah ?_
 show JC _ _ _ _ _
 replace h:((lT k a0 qp ql).bind fun b=>if(!b.2.2.1 || decide (L.1≤b.2.1))=true then some (0,0,0,11) else some (b.1.1,b.1.2,b.2.1,0)).bind some=some r:=h
 obtain⟨b,eb,h⟩:=aa h
 have cx:=wj k a0 qp ql b y m z eb
 refine ae ?_
 refine ab ?_
 refine aB rfl rfl ?_
 refine aE rfl (tf [.tmp 78] [] [bP y] [] rfl rfl rfl) ⟨rfl,trivial⟩ ?_
 refine bJ 3 rfl ?_
 refine cD (eR [13] ⟨rfl,trivial⟩) ?_
 refine aB rfl rfl ?_
 refine cD (bv (Γ':=[(8,.eq (.int .i64 L.1)),(79,.eq (.func (.func 70) #[bP y] #[])),(80,Rs fA qp)]) (pre':=[.inv 0 iI,.obj b2 25 (.rep av a0),.inv m (bO k a0),.obj y 107 (.agg (.pair (.at aw (a0,.map (some m))) (.eq z.1)))]) [.obj b2 25 (.rep av a0),.inv m (bO k a0),.inv 0 iI,.obj y 107 (.agg (.pair (.at aw (a0,.map (some m))) (.eq z.1)))] (fK 23 z ql) [2,0,1,3] ⟨rfl,rfl,rfl,trivial⟩ rfl) ?_
 refine cD (fN (Δ':=([.inv m (bO k a0),.obj y 107 (.agg (.pair (.at aw (a0,.map (some m))) (.eq z.1)))]++fK 23 z ql)++[.inv 0 iI,.obj b2 25 (.rep av a0)]) (List.perm_append_comm (l₁:=([.inv 0 iI,.obj b2 25 (.rep av a0)]:List D)))) ?_
 refine bS (Δ:=_++_) (F:=[_,_]) (fun _ _ _=>ax rfl _) rfl rfl (ia [.tmp 79,.tmp 80] rfl rfl PW rfl cx) ⟨rfl,rfl,trivial⟩ fun _=>?_
 refine cD (fN (Δ':=[.inv 0 iI,.obj b2 25 (.rep av a0)]++([.inv m (bO k a0),.obj y 107 (.agg (.pair (.at aw (a0,.map (some m))) (.eq z.1)))]++fK 23 z b.2.2.2)) List.perm_append_comm) ?_
 refine aB rfl rfl ?_
 refine aE rfl (cE rfl rfl) ⟨rfl,trivial⟩ ?_
 refine aE rfl (cE rfl rfl) ⟨rfl,trivial⟩ ?_
 refine aE rfl (cE rfl rfl) ⟨rfl,trivial⟩ ?_
 refine aF rfl rfl rfl (be rfl sO vQ) trivial fun s=>?_
 refine bh rfl rfl (bb rfl g7 rfl rfl rfl) ⟨rfl,rfl,trivial⟩ ?_
 refine dk rfl rfl ?_
 refine dk rfl rfl ?_
 refine au ?_
 refine ah ?_
 show JC _ _ _ _ _
 obtain⟨bx,bn,bo,bl⟩:=b
 cases bo with
 |false=>
  replace h:some (0,0,0,11)=some r:=by simpa using h
  obtain rfl:=Option.some.inj h
  refine ae ?_
  refine ae ?_
  refine ab ?_
  refine aB rfl rfl ?_
  refine aE rfl (dT rfl) ⟨rfl,trivial⟩ ?_
  refine aB rfl rfl ?_
  refine yN rfl rfl rfl rfl rfl rfl rfl ?_
  refine yN rfl rfl rfl rfl rfl rfl rfl ?_
  refine yN rfl rfl rfl rfl rfl rfl rfl ?_
  refine aE rfl (dJ rfl) ⟨rfl,rfl,trivial⟩ ?_
  refine au ?_
  refine ah ?_
  show JC _ _ _ _ _
  refine bK rfl (fun hb=>?_) (fun hb=>(by cases hb))
  refine ae ?_
  refine ab ?_
  refine dM rfl ?_
  refine dM rfl ?_
  refine dM rfl ?_
  refine dM rfl ?_
  refine au ?_
  refine ah ?_
  show JC _ _ _ _ _
  refine ay ?_
  refine aV ?_
  refine dn 1 rfl ?_
  exact aL () [_,_,_,_] 1 ⟨rfl,rfl,rfl,rfl,trivial⟩ rfl
 |true=>
  refine ae ?_
  refine ae ?_
  refine ab ?_
  refine aB rfl rfl ?_
  refine aE rfl (dT rfl) ⟨rfl,trivial⟩ ?_
  refine aB rfl rfl ?_
  refine m4 rfl rfl rfl rfl rfl rfl (aH rfl) ⟨rfl,trivial⟩ ?_
  refine m4 rfl rfl rfl rfl rfl rfl (aH rfl) ⟨rfl,trivial⟩ ?_
  refine m4 rfl rfl rfl rfl rfl rfl (pe rfl) ⟨rfl,rfl,trivial⟩ ?_
  refine aE rfl (kg rfl) ⟨rfl,rfl,trivial⟩ ?_
  refine au ?_
  refine ah ?_
  show JC _ _ _ _ _
  refine bK rfl (fun hb=>?_) (fun hb=>?_)
  ·
   have hd:L.1≤bn:=of_decide_eq_true hb
   replace h:some (0,0,0,11)=some r:=by simpa [hd] using h
   obtain rfl:=Option.some.inj h
   refine ae ?_
   refine ab ?_
   refine dM rfl ?_
   refine dM rfl ?_
   refine dM rfl ?_
   refine dM rfl ?_
   refine au ?_
   refine ah ?_
   show JC _ _ _ _ _
   refine ay ?_
   refine aV ?_
   refine dn 1 rfl ?_
   exact aL () [_,_,_,_] 1 ⟨rfl,rfl,rfl,rfl,trivial⟩ rfl
  ·
   have hd:¬L.1≤bn:=of_decide_eq_false hb
   replace h:some (bx.1,bx.2,bn,0)=some r:=by simpa [hd] using h
   refine aW ?_
   refine ah ?_
   obtain rfl:=Option.some.inj h
   show JC _ _ _ _ _
   refine ae ?_
   refine sK (Δ:=[.obj s 110 (.rep fA bx)]) (F:=[.inv 0 iI,.obj b2 25 (.rep av a0),.inv m (bO k a0),.obj y 107 (.agg (.pair (.at aw (a0,.map (some m))) (.eq z.1)))]++fK 23 z bl) (Z:=Unit) (fun _=>[(4,.eq (.int .i64 bx.1)),(5,.eq (.int .i64 bx.2)),(6,.eq (.int .i64 bn)),(7,.eq (.int .i64 0))]) (fun _=>[.obj s 110 (.rep fA bx)]) (fun S w=>?_) (fun _=>?_)
   ·
    refine dW (SE.sub (Γ':=[(17,.eq (bP s)),(18,.eq (.int .i64 bn))]) ⟨rfl,rfl,trivial⟩) ?_
    refine jy ?_
    refine aI rfl rfl rfl (ar rfl Ni) ⟨rfl,trivial⟩ ?_
    refine dp 0 rfl rfl rfl rfl (aj rfl ug jo rfl) ⟨rfl,trivial⟩ ?_
    refine aI rfl rfl rfl (ar rfl Nh) ⟨rfl,trivial⟩ ?_
    refine dp 0 rfl rfl rfl rfl (aj rfl ug jo rfl) ⟨rfl,trivial⟩ ?_
    refine aI rfl rfl rfl (aH rfl) ⟨rfl,trivial⟩ ?_
    refine my 5 [true,true,false,false,false] [4,5,6,7] [0] [.obj s 110 (.rep fA bx)] rfl (by kernel_rfl) (by kernel_rfl) (by kernel_rfl) qZ (fun vs hv hB=>?_)
    obtain⟨u0,mc,rfl,O⟩:=an hv
    obtain⟨u1,ac,rfl,M⟩:=an O
    obtain⟨u2,Y,rfl,E⟩:=an M
    obtain⟨u3,X,rfl,x⟩:=an E
    obtain⟨u4,U,rfl,u⟩:=an x
    obtain rfl:=kl u
    refine⟨[0],[],by kernel_rfl,by decide,?_⟩
    refine pI rfl rfl rfl rfl (dV rfl) ⟨rfl,trivial⟩ (by kernel_rfl) ?_
    refine pI rfl rfl rfl rfl (dV rfl) ⟨rfl,trivial⟩ (by kernel_rfl) ?_
    refine pI rfl rfl rfl rfl (dV rfl) ⟨rfl,trivial⟩ (by kernel_rfl) ?_
    refine pI rfl rfl rfl rfl (dV rfl) ⟨rfl,trivial⟩ (by kernel_rfl) ?_
    refine pJ ?_
    exact fun a w st=>⟨rfl,(),(SE.fin (Γ':=[(4,.eq (.int .i64 bx.1)),(5,.eq (.int .i64 bx.2)),(6,.eq (.int .i64 bn)),(7,.eq (.int .i64 0))]) [0] ⟨rfl,rfl,rfl,rfl,trivial⟩ rfl) a w st⟩
   ·
    refine ah ?_
    show JC _ _ _ _ _
    refine ay ?_
    refine dn 1 rfl ?_
    exact aL () [_,_,_,_] 1 ⟨rfl,rfl,rfl,rfl,trivial⟩ rfl
def nP(k:Nat)(a0:(List Int))(a1:dq)(a2:(List (List Int)))(a3:Int)(a4:Int):Option Int:=
 (eB k a1 a2).bind fun r1=>
 (aQ r1 a3).bind fun x3=>
 (dP k (List.set r1 (Int.toNat a3) a0)).bind fun r4=>
 (jp k a1 r4 a4).bind fun r5=>
 some r5
theorem uf(k:Nat)(a0:(List Int))(a1:dq)(l:Nat)(a2:(List (List Int)))(j:Nat)(a3:Int)(e:Nat)(a4:Int)(c:Nat)(r:Int)(h:nP k a0 a1 a2 a3 a4=some r):
 du (jv Tryz.prog) 74 [Ri a0,Pt l,Pt j,Pt e,Pt c] [.obj l 81 (.at bM a1),.obj j 86 (.rep (.arr 3 (.arr 5 (.int .i64))) a2),.obj e 3 (I a3),.obj c 3 (I a4)] (fun _:Unit=>(bq [I r],[.obj l 81 (.at bM a1),.obj j 86 (.rep (.arr 3 (.arr 5 (.int .i64))) a2),.obj e 3 (I a3),.obj c 3 (I a4)])):=by
 unfold nP at h
 replace h:=a8 h
 refine du.of 20 Tryz.func74 rfl Tryz.ntmps74 rfl fun S w0=>?_
 refine sr ?_
 refine cq ?_
 refine nt ?_
 refine sr ?_
 refine lo xQ ?_
 refine fr 1 ?_
 refine lo gq ?_
 obtain⟨r1,x,h⟩:=aa h
 have E:=ix k a1 a2 r1 x
 refine aF rfl rfl rfl (ap [.tmp 8,.tmp 9] rfl rfl KP rfl E) ⟨rfl,rfl,trivial⟩ fun v2=>?_
 refine aq ?_
 refine nt ?_
 refine sr ?_
 refine mq ?_
 refine fr 3 ?_
 refine lo cm ?_
 refine mq ?_
 obtain⟨x3,n,h⟩:=aa h
 refine fr 1 ?_
 refine kb (aZ (t:=(.slice (.int .i64))) rfl lw bF n) ?_
 refine bh rfl rfl (cR (i:=Int.toNat a3) rfl bF rfl (ib n) rfl .rep rfl) ⟨rfl,rfl,trivial⟩ ?_
 refine nt ?_
 refine ae ?_
 refine dW (eR [7,10,11] ⟨rfl,rfl,rfl,trivial⟩) ?_
 refine bz ?_
 refine ea 2 (aj rfl xQ jo rfl) ?_
 refine dm ?_
 obtain⟨r4,u,h⟩:=aa h
 have D:=eC k (List.set r1 (Int.toNat a3) a0) r4 u
 refine da (ap [.tmp 16] rfl rfl CO rfl D) ?_
 refine ea 3 (aj rfl cm jo rfl) ?_
 refine df cp ?_
 obtain⟨r5,s,h⟩:=aa h
 have y:=mI k a1 r4 a4 r5 s
 refine jc (ia [.tmp 15,.tmp 17,.tmp 18] rfl rfl P8 rfl y) ?_
 refine aq ?_
 refine nt ?_
 refine ay ?_
 refine bu (SE.fin (Γ':=[(6,_)]) [2,1,0,3] ⟨rfl,trivial⟩ rfl) ?_
 cases h
 exact aL () [_] 4 ⟨rfl,trivial⟩ rfl
def iy(k:Nat)(a0_0:dq)(a0_1:(List (List Int)))(a0_2:Int)(a0_3:Int)(a1:(List (List Int))):Nat→((List Int)×Int×Bool×Int)→Option ((List Int)×Int×Bool)
 |0,_=>none
 |n+1,y3=>
  if y3.2.2.2 < (a1.length:Int) then((((aQ a1 y3.2.2.2).bind fun x7=>
  (nP k x7 a0_0 a0_1 a0_2 a0_3).bind fun r8=>
  ((if¬(y3.2.2.1=true) then(some true) else(some (decide (r8 < y3.2.1)))):Option (Bool)).bind fun x9=>
  if x9=true then(some (x7,r8,true)) else(some (y3.1,y3.2.1,y3.2.2.1))):Option ((List Int)×Int×Bool)).bind fun x5=>
  (ck (y3.2.2.2+1)).bind fun c=>
  iy k a0_0 a0_1 a0_2 a0_3 a1 n (x5.1,x5.2.1,x5.2.2,c)) else(some (y3.1,y3.2.1,y3.2.2.1))
def lU(k:Nat)(a0_0:dq)(a0_1:(List (List Int)))(a0_2:Int)(a0_3:Int)(a1:(List (List Int))):Option ((List Int)×Int×Bool):=
 ((iy k a0_0 a0_1 a0_2 a0_3 a1 k ([],0,false,0)):Option ((List Int)×Int×Bool)).bind fun x1=>
 some (x1.1,x1.2.1,x1.2.2)
theorem rC(k:Nat)(a0_0:dq)(c_a0_0:Nat)(a0_1:(List (List Int)))(c_a0_1:Nat)(a0_2:Int)(c_a0_2:Nat)(a0_3:Int)(c_a0_3:Nat)(a1:(List (List Int)))(r:(List Int)×Int×Bool)(h:lU k a0_0 a0_1 a0_2 a0_3 a1=some r):
 du (jv Tryz.prog) 76 [.eq (.func (.func 74) #[] #[(Pv c_a0_0),(Pv c_a0_1),(Pv c_a0_2),(Pv c_a0_3)]),.rep (.slice (.slice (.int .i64))) a1] [.obj c_a0_0 81 (.at bM a0_0),.obj c_a0_1 86 (.rep (.arr 3 (.arr 5 (.int .i64))) a0_1),.obj c_a0_2 3 (I a0_2),.obj c_a0_3 3 (I a0_3)] (fun _:Unit=>(bq [Ri r.1,I r.2.1,.eq (.bool r.2.2)],[.obj c_a0_0 81 (.at bM a0_0),.obj c_a0_1 86 (.rep (.arr 3 (.arr 5 (.int .i64))) a0_1),.obj c_a0_2 3 (I a0_2),.obj c_a0_3 3 (I a0_3)])):=by
 unfold lU at h
 replace h:=a8 h
 refine du.of 35 Tryz.func76 rfl Tryz.ntmps76 rfl fun S w0=>?_
 refine sr ?_
 refine cq ?_
 refine cq ?_
 refine cq ?_
 refine nt ?_
 refine sr ?_
 refine cq ?_
 refine nt ?_
 refine sr ?_
 refine cq ?_
 refine cq ?_
 refine nt ?_
 refine aN (Z:=Unit) (α:=(List Int)×Int×Bool) (fun z2 x1=>[(7,Ri x1.1),(8,I x1.2.1),(9,.eq (.bool x1.2.2))]) (fun z2 x1=>[.obj c_a0_0 81 (.at bM a0_0),.obj c_a0_1 86 (.rep (.arr 3 (.arr 5 (.int .i64))) a0_1),.obj c_a0_2 3 (I a0_2),.obj c_a0_3 3 (I a0_3)]) h (fun K h=>?_) (fun z2 x1 h=>?_)
 ·
  refine sr (mq ?_);refine ol lw ?_;refine eU rfl ?_;refine nt (ao (dW (lx (t:=(.slice (.int .i64))) (x:=[]) 7 rfl .nil rfl rfl) ?_));refine aK (fun z4 y3=>[(0,.eq (.func (.func 74) #[] #[(Pv c_a0_0),(Pv c_a0_1),(Pv c_a0_2),(Pv c_a0_3)])),(7,Ri y3.1),(8,I y3.2.1),(9,.eq (.bool y3.2.2.1)),(13,.rep (.slice (.slice (.int .i64))) a1),(14,I (a1.length:Int)),(15,I y3.2.2.2)]) (fun z4 y3=>[.obj c_a0_0 81 (.at bM a0_0),.obj c_a0_1 86 (.rep (.arr 3 (.arr 5 (.int .i64))) a0_1),.obj c_a0_2 3 (I a0_2),.obj c_a0_3 3 (I a0_3)]) (iy k a0_0 a0_1 a0_2 a0_3 a1) k () ([],0,false,0) (fun _=>rfl) h (SE.fin [0,1,2,3] ⟨rfl,rfl,rfl,rfl,rfl,rfl,rfl,trivial⟩ rfl) (fun n z4 y3 h=>?_);unfold iy at h;refine sr (jb (bp rfl) ?_);refine nt (ae (ci h (fun h=>?_) (fun h=>?_)))
  ·refine sk (aN (Z:=Unit) (α:=(List Int)×Int×Bool) (fun z6 x5=>[(0,.eq (.func (.func 74) #[] #[(Pv c_a0_0),(Pv c_a0_1),(Pv c_a0_2),(Pv c_a0_3)])),(7,Ri x5.1),(8,I x5.2.1),(9,.eq (.bool x5.2.2)),(13,.rep (.slice (.slice (.int .i64))) a1),(14,I (a1.length:Int)),(15,I y3.2.2.2)]) (fun z6 x5=>[.obj c_a0_0 81 (.at bM a0_0),.obj c_a0_1 86 (.rep (.arr 3 (.arr 5 (.int .i64))) a0_1),.obj c_a0_2 3 (I a0_2),.obj c_a0_3 3 (I a0_3)]) h (fun K h=>?_) (fun z6 x5 h=>?_))
   ·refine ao (sr ?_);obtain⟨x7,l,h⟩:=aa h;refine jb (aA (t:=(.slice (.int .i64))) rfl lw bF l) ?_;refine ja (ak (t:=(.slice (.int .i64))) rfl bF rfl) ?_;refine aq (nt (sr ?_));iterate 2 refine mq ?_
    obtain⟨r8,u,h⟩:=aa h;refine fr 3 ?_;refine fr 3 ?_;refine fr 3 ?_;refine fr 3 ?_;refine bS (Δ:=[_,_,_,_]) (F:=_) (fun _ _ _=>ax rfl _) rfl rfl (pi (fs:=[]) (cs:=[(Pv c_a0_0),(Pv c_a0_1),(Pv c_a0_2),(Pv c_a0_3)]) (ags:=[Ri x7]) [.tmp 20] rfl rfl SG rfl (uf k x7 a0_0 c_a0_0 a0_1 c_a0_1 a0_2 c_a0_2 a0_3 c_a0_3 r8 u)) ⟨rfl,rfl,trivial⟩ fun _=>?_;refine aq (nt ?_);refine aN (Z:=Unit) (α:=Bool) (fun c x9=>[(0,.eq (.func (.func 74) #[] #[(Pv c_a0_0),(Pv c_a0_1),(Pv c_a0_2),(Pv c_a0_3)])),(7,Ri y3.1),(8,I y3.2.1),(9,.eq (.bool y3.2.2.1)),(11,Ri x7),(12,I r8),(13,.rep (.slice (.slice (.int .i64))) a1),(14,I (a1.length:Int)),(15,I y3.2.2.2),(28,.eq (.bool x9))]) (fun c x9=>[.obj c_a0_0 81 (.at bM a0_0),.obj c_a0_1 86 (.rep (.arr 3 (.arr 5 (.int .i64))) a0_1),.obj c_a0_2 3 (I a0_2),.obj c_a0_3 3 (I a0_3)]) h (fun K h=>?_) (fun c x9 h=>?_)
    ·refine ab (mq ?_);refine ja (dT rfl) ?_;refine mq ?_;refine cu (s:=24) rfl (fun hb=>?_) (fun hb=>?_)
     ·replace h:=cF (BU hb) h;iterate 3 refine gn ?_
      refine pt (nl ?_);exact jz ((),true) h [0,1,2,3]
     ·replace h:=bN (vq hb) h;refine gm ?_;refine gm ?_;refine gb (bp rfl) ?_;refine pf (nl ?_);exact jz ((),decide (r8 < y3.2.1)) h [0,1,2,3]
    ·refine cv h (fun h=>?_) (fun h=>?_)
     ·refine ab ?_;iterate 2 refine mq ?_
      refine aq ?_;refine aq ?_;refine cq (au (bn ?_));exact jz ((),(x7,r8,true)) h [0,1,2,3]
     ·refine aW (bn ?_);exact jz ((),(y3.1,y3.2.1,y3.2.2.1)) h [0,1,2,3]
   ·refine ab ?_;obtain⟨j,e,h⟩:=aa h;refine jb (bf rfl e) ?_;refine mq (nl ?_);exact jz ((),(x5.1,x5.2.1,x5.2.2,j)) h [0,1,2,3]
  ·refine xa ?_;exact jz ((),(y3.1,y3.2.1,y3.2.2.1)) h [0,1,2,3]
 ·
  refine sr ?_;iterate 3 refine mq ?_
  refine aq ?_;refine aq ?_;refine aq (nt (ay ?_));cases h;exact aL () [_,_,_] 4 ⟨rfl,rfl,rfl,trivial⟩ rfl
def qL(k:Nat)(a0:aO)(a1:(List (List Int)))(a2:Int)(a3:Int):Option ((List Int)×Int×Int):=
 (co k a0 a1).bind fun r4=>
 if¬(r4=0) then(some ([],0,r4)) else((((ck ((a0.2.2.length:Int) - 1)).bind fun x7=>
 (dG k a2 0 x7).bind fun r8=>
 if¬(r8=true) then(some true) else((dG k a3 0 a0.1).bind fun r9=>
 some (!r9))):Option (Bool)).bind fun x5=>
 if x5=true then(some ([],0,3)) else((dP k a1).bind fun n=>
 (gx k (a0,()) n a3).bind fun e=>
 (d6 k e a2).bind fun l=>
 (lY k l).bind fun j=>
 (lS k k j).bind fun h=>
 (lU k (a0,()) e a2 a3 h).bind fun c=>
 some (c.1,c.2.1,0)))
theorem wl(k:Nat)(a0:aO)(a1:(List (List Int)))(a2:Int)(a3:Int)(r:(List Int)×Int×Int)(h:qL k a0 a1 a2 a3=some r):
 du (jv Tryz.prog) 29 [.rep av a0,.rep (.slice (.slice (.int .i64))) a1,I a2,I a3] [.inv 0 (iI)] (fun _:Unit=>(bq [Ri r.1,I r.2.1,I r.2.2],[.inv 0 (iI)])):=by
 unfold qL at h
 replace h:=a8 h
 refine du.of 60 Tryz.func29 rfl Tryz.ntmps29 rfl fun S w0=>?_
 refine sr ?_
 refine bx fun b1=>?_
 refine bx fun b2=>?_
 refine bx fun b3=>?_
 refine cq ?_
 refine cq ?_
 refine cq ?_
 refine nt ?_
 refine ae ?_
 refine sr ?_
 refine fr 2 ?_
 refine lo dj ?_
 refine mq ?_
 obtain⟨r4,Ug,h⟩:=aa h
 have Uh:=dO k a0 a1 r4 Ug
 refine fr 3 ?_
 refine kb (ap [.tmp 18,.tmp 19] rfl rfl It rfl Uh) ?_
 refine aq ?_
 refine nt ?_
 refine sr ?_
 refine mq ?_
 refine jb (fL rfl) ?_
 refine nt ?_
 refine cn h (fun h=>?_) (fun h=>?_)
 ·
  refine sr (mq ?_);refine cq ?_;refine cq ?_;refine aq (nt (rx ?_));refine bu (lx (t:=(.slice (.int .i64))) (x:=[]) 8 rfl .nil rfl rfl) ?_;cases h;exact aL () [_,_,_] 1 ⟨rfl,rfl,rfl,trivial⟩ rfl
 ·
  refine sk (ae (aN (Z:=Unit) (α:=Bool) (fun z6 x5=>[(1,.rep (.slice (.slice (.int .i64))) a1),(4,Pt b1),(6,Pt b2),(7,Pt b3),(37,.eq (.bool x5))]) (fun z6 x5=>[.obj b1 25 (.rep av a0),.obj b2 3 (I a2),.obj b3 3 (I a3),.inv 0 (iI)]) h (fun K h=>?_) (fun z6 x5 h=>?_)))
  ·refine ab (fr 3 ?_);refine lo cm ?_;refine fl cJ ?_;refine fr 2 ?_;refine lo bF ?_;refine ol dw ?_;obtain⟨x7,Ud,h⟩:=aa h;refine jb (eK rfl Ud) ?_;obtain⟨r8,Uf,h⟩:=aa h;refine jc (ap [.tmp 24,.const (.int .i64 (0)),.tmp 28] rfl rfl wF rfl (dF k a2 0 x7 r8 Uf)) ?_;refine ja (dT rfl) ?_;refine mq ?_;refine cu (s:=31) rfl (fun hb=>?_) (fun hb=>?_)
   ·replace h:=cF (BU hb) h;iterate 5 refine gn ?_
    refine pt (nl ?_);exact jz ((),true) h [0,1,3,2]
   ·replace h:=bN (vq hb) h;refine fr 3 ?_;refine jM rfl rfl rfl rfl rfl rfl (aj rfl cm jo rfl) ⟨rfl,trivial⟩ ?_;refine ga (ar rfl fD) ?_;refine fr 1 ?_;refine jM rfl rfl rfl rfl rfl rfl (aj rfl cm jo rfl) ⟨rfl,trivial⟩ ?_;obtain⟨r9,Ue,h⟩:=aa h;refine gc (ap [.tmp 32,.const (.int .i64 (0)),.tmp 34] rfl rfl wF rfl (dF k a3 0 a0.1 r9 Ue)) ?_;refine ga (dT rfl) ?_;refine pf (nl ?_);exact jz ((), !r9) h [0,2,1,3]
  ·refine cv h (fun h=>?_) (fun h=>?_)
   ·refine sr (cq ?_);refine cq ?_;refine cq (nt (rx ?_));refine bu (lx (t:=(.slice (.int .i64))) (x:=[]) 8 rfl .nil rfl rfl) ?_;refine bu (SE.fin (Γ':=[(8,_),(9,_),(10,_)]) [3,0,1,2] ⟨rfl,rfl,rfl,trivial⟩ rfl) ?_;cases h;exact aL () [_,_,_] 1 ⟨rfl,rfl,rfl,trivial⟩ rfl
   ·refine sk (sr (lo dj ?_));refine aF rfl rfl rfl (ap [.tmp 38] rfl rfl Ir rfl (gy a0)) ⟨rfl,trivial⟩ fun c=>?_;refine cD (kO (bO k a0) lO) ?_;refine aF rfl rfl rfl (be rfl Ro Tn) trivial fun j=>?_;refine bh rfl rfl (bb rfl xQ trivial rfl rfl) ⟨rfl,rfl,trivial⟩ ?_;refine nt (ae (jy ?_));refine dp 0 rfl rfl rfl rfl (aj rfl xQ jo rfl) ⟨rfl,trivial⟩ ?_;refine aI rfl rfl rfl (aH rfl) ⟨rfl,trivial⟩ ?_;obtain⟨u,U,h⟩:=aa h;refine aI rfl rfl rfl (ap [.tmp 41] rfl rfl CO rfl (eC k a1 u U)) ⟨rfl,trivial⟩ ?_;refine dp 4 rfl rfl rfl rfl (aj rfl cm jo rfl) ⟨rfl,trivial⟩ ?_;obtain⟨l,Q,h⟩:=aa h;refine aI rfl rfl rfl (dL (N:=[(.tmp 40,.at aw (a0,(.map (some c)))),(.tmp 42,.rep (.arr 3 (.arr 5 (.int .i64))) u),(.tmp 43,I a3)]) (ap [.tmp 40,.tmp 42,.tmp 43] rfl rfl P9 rfl (mJ k (a0,()) u a3 l Q)) fun _ _ _ hn=>⟨(pC hn.1),hn.2.1,hn.2.2.1,trivial⟩) ⟨rfl,rfl,rfl,trivial⟩ ?_;refine uF (GN 86 (.rep (.arr 3 (.arr 5 (.int .i64))) [[0,0,0,0,0],[0,0,0,0,0],[0,0,0,0,0]])) (fun _=>rfl) rfl rfl rfl (be rfl sP tR) trivial ?_;refine my 6 [true,true,true,true,true,true] [] [] [] rfl (by kernel_rfl) (by kernel_rfl) (by kernel_rfl) cp (fun vs hv hB=>?_);obtain⟨w0,Uo,rfl,se⟩:=an hv;obtain⟨w1,Un,rfl,qt⟩:=an se;obtain⟨w2,Um,rfl,pp⟩:=an qt;obtain⟨w3,Ul,rfl,mc⟩:=an pp;obtain⟨w4,Uk,rfl,ac⟩:=an mc;obtain⟨w5,Uj,rfl,Y⟩:=an ac;obtain rfl:=kl Y;obtain⟨e,rfl⟩:=BI hB.2.2.2.2.2.1;refine⟨[0,1,2,3,4,5,6],[.obj j 81 (.at aw (a0,(.map (some c)))),.inv c (bO k a0),.obj b1 25 (.rep av a0),.obj b2 3 (I a2),.obj b3 3 (I a3),.inv 0 (iI),.obj e 86 (.rep (.arr 3 (.arr 5 (.int .i64))) [[0,0,0,0,0],[0,0,0,0,0],[0,0,0,0,0]])],by kernel_rfl,by decide,?_⟩;refine iY 6 rfl ?_;refine ot rfl rfl (bb rfl gq rfl rfl rfl) ⟨rfl,rfl,trivial⟩ (by kernel_rfl) ?_;refine pJ ?_;refine bu (SE.fin (Γ':=[(6,Pt b2),(7,Pt b3),(12,Pt j),(13,Pt e)]) (Δ':=[.obj e 86 (.rep (.arr 3 (.arr 5 (.int .i64))) l),.obj j 81 (.at aw (a0,(.map (some c)))),.inv c (bO k a0),.obj b1 25 (.rep av a0),.obj b2 3 (I a2),.obj b3 3 (I a3),.inv 0 (iI)]) [0,1,2,3,4,5,6] ⟨rfl,rfl,rfl,rfl,trivial⟩ rfl) ?_;refine tn (sr (aE rfl (tf [] [.tmp 12,.tmp 13,.tmp 6,.tmp 7] [] [(Pv j),(Pv e),(Pv b2),(Pv b3)] rfl rfl rfl) ⟨rfl,rfl,rfl,rfl,trivial⟩ ?_));refine aq (nt (sr ?_));refine mq ?_;refine lo gq ?_;refine fr 4 ?_;refine lo cm ?_;obtain⟨n,O,h⟩:=aa h;refine jb (ap [.tmp 48,.tmp 49] rfl rfl KO rfl (gz k l a2 n O)) ?_;refine aF rfl rfl rfl (ap [.tmp 50] rfl rfl SB rfl (rJ n)) ⟨rfl,trivial⟩ fun Ui=>?_;obtain⟨D,M,h⟩:=aa h;refine ka (ap [.tmp 51] rfl rfl SC rfl (rK k n Ui D M)) ?_;obtain⟨y,J,h⟩:=aa h;refine ja (ap [.tmp 52] rfl rfl P7 rfl (wi k k D y J)) ?_;refine fr 3 ?_;refine cD (oq (a:=.at aw (a0,(.map (some c)))) (a':=.at bM (a0,())) NY) ?_
    obtain⟨X,E,h⟩:=aa h;refine fr 6 ?_;refine fr 3 ?_;refine fr 4 ?_;refine fr 3 ?_;refine bS (Δ:=[_,_,_,_]) (F:=_) (fun _ _ _=>ax rfl _) rfl rfl (ia [.tmp 47,.tmp 53] rfl rfl SD rfl (rC k (a0,()) j l e a2 b2 a3 b3 y X E)) ⟨rfl,rfl,trivial⟩ fun _=>?_;refine mq ?_;refine xr ?_;refine xr ?_;refine xr ?_;refine aq ?_;refine aq ?_;refine aq (nt (sr ?_));iterate 2 refine mq ?_
    refine aq ?_;refine aq ?_;refine cq (nt (ay ?_));refine bu (SE.fin (Γ':=[(8,_),(9,_),(10,_)]) [7,0,1,2,3,4,5,6] ⟨rfl,rfl,rfl,trivial⟩ rfl) ?_;cases h;exact aL () [_,_,_] 1 ⟨rfl,rfl,rfl,trivial⟩ rfl
def iz(k:Nat)(a0:aO)(a1:(List (List (List Int)))):Nat→((List (List Int))×Int×Bool×Int)→Option ((List (List Int))×Int×Bool)
 |0,_=>none
 |n+1,y5=>
  if y5.2.2.2 < (a1.length:Int) then((((aQ a1 y5.2.2.2).bind fun x9=>
  (dH k a0 x9).bind fun c=>
  ((if¬(y5.2.2.1=true) then(some true) else(some (decide (c < y5.2.1)))):Option (Bool)).bind fun h=>
  if h=true then(some (x9,c,true)) else(some (y5.1,y5.2.1,y5.2.2.1))):Option ((List (List Int))×Int×Bool)).bind fun x7=>
  (ck (y5.2.2.2+1)).bind fun e=>
  iz k a0 a1 n (x7.1,x7.2.1,x7.2.2,e)) else(some (y5.1,y5.2.1,y5.2.2.1))
def lV(k:Nat)(a0:aO)(a1:(List (List (List Int)))):Option ((List (List Int))×Int×Bool):=
 ((iz k a0 a1 k ([[0,0,0,0,0],[0,0,0,0,0],[0,0,0,0,0]],0,false,0)):Option ((List (List Int))×Int×Bool)).bind fun x3=>
 some (x3.1,x3.2.1,x3.2.2)
theorem rD(k:Nat)(a0:aO)(z_a0:Nat)(a1:(List (List (List Int))))(r:(List (List Int))×Int×Bool)(h:lV k a0 a1=some r):
 du (jv Tryz.prog) 82 [.fn 83 (uI [.at aw (a0,(.map (some z_a0)))]),.rep (.slice (.arr 3 (.arr 5 (.int .i64)))) a1] [.inv z_a0 (bO k a0)] (fun _:Unit=>(bq [.rep (.arr 3 (.arr 5 (.int .i64))) r.1,I r.2.1,.eq (.bool r.2.2)],[.inv z_a0 (bO k a0)])):=by
 unfold lV at h
 replace h:=a8 h
 refine du.of 35 Tryz.func82 rfl Tryz.ntmps82 rfl fun S w0=>?_
 refine sr ?_
 refine aF rfl rfl rfl (be rfl sP tR) trivial fun b1=>?_
 refine cq ?_
 refine cq ?_
 refine nt ?_
 refine sr ?_
 refine aF rfl rfl rfl (be rfl sP tR) trivial fun b2=>?_
 refine nt ?_
 refine sr ?_
 refine cq ?_
 refine cq ?_
 refine nt ?_
 refine aN (Z:=Unit) (α:=(List (List Int))×Int×Bool) (fun z4 x3=>[(4,Pt b1),(7,Pt b2),(8,I x3.2.1),(9,.eq (.bool x3.2.2))]) (fun z4 x3=>[.obj b1 86 (.rep (.arr 3 (.arr 5 (.int .i64))) [[0,0,0,0,0],[0,0,0,0,0],[0,0,0,0,0]]),.obj b2 86 (.rep (.arr 3 (.arr 5 (.int .i64))) x3.1),.inv z_a0 (bO k a0)]) h (fun K h=>?_) (fun z4 x3 h=>?_)
 ·
  refine sr (mq ?_);refine ol QW ?_;refine eU rfl ?_;refine nt (ao (aK (fun z6 y5=>[(0,.fn 83 (uI [.at aw (a0,(.map (some z_a0)))])),(4,Pt b1),(7,Pt b2),(8,I y5.2.1),(9,.eq (.bool y5.2.2.1)),(13,.rep (.slice (.arr 3 (.arr 5 (.int .i64)))) a1),(14,I (a1.length:Int)),(15,I y5.2.2.2)]) (fun z6 y5=>[.obj b1 86 (.rep (.arr 3 (.arr 5 (.int .i64))) [[0,0,0,0,0],[0,0,0,0,0],[0,0,0,0,0]]),.obj b2 86 (.rep (.arr 3 (.arr 5 (.int .i64))) y5.1),.inv z_a0 (bO k a0)]) (iz k a0 a1) k () ([[0,0,0,0,0],[0,0,0,0,0],[0,0,0,0,0]],0,false,0) (fun _=>rfl) h (SE.fin [1,0,2] ⟨rfl,rfl,rfl,rfl,rfl,rfl,rfl,rfl,trivial⟩ rfl) (fun n z6 y5 h=>?_)));unfold iz at h;refine sr (jb (bp rfl) ?_);refine nt (ae (ci h (fun h=>?_) (fun h=>?_)))
  ·refine sk (aN (Z:=Unit) (α:=(List (List Int))×Int×Bool) (fun z8 x7=>[(0,.fn 83 (uI [.at aw (a0,(.map (some z_a0)))])),(4,Pt b1),(7,Pt b2),(8,I x7.2.1),(9,.eq (.bool x7.2.2)),(13,.rep (.slice (.arr 3 (.arr 5 (.int .i64)))) a1),(14,I (a1.length:Int)),(15,I y5.2.2.2)]) (fun z8 x7=>[.obj b1 86 (.rep (.arr 3 (.arr 5 (.int .i64))) [[0,0,0,0,0],[0,0,0,0,0],[0,0,0,0,0]]),.obj b2 86 (.rep (.arr 3 (.arr 5 (.int .i64))) x7.1),.inv z_a0 (bO k a0)]) h (fun K h=>?_) (fun z8 x7 h=>?_))
   ·refine ao (sr ?_);obtain⟨x9,D,h⟩:=aa h;refine jb (aA (t:=(.arr 3 (.arr 5 (.int .i64)))) rfl QW gq D) ?_;refine ja (ak (t:=(.arr 3 (.arr 5 (.int .i64)))) rfl gq rfl) ?_;refine aF rfl rfl rfl (be rfl sP tR) trivial fun x=>?_;refine bh rfl rfl (bb rfl gq rfl rfl rfl) ⟨rfl,rfl,trivial⟩ ?_;refine nt (sr (mq ?_));refine lo gq ?_;obtain⟨c,u,h⟩:=aa h;refine fr 3 ?_;refine kb (Hh (fs:=[.at aw (a0,(.map (some z_a0)))]) (ags:=[.rep (.arr 3 (.arr 5 (.int .i64))) x9]) [.tmp 20] rfl rfl P6 rfl (jY k a0 z_a0 x9 c u)) ?_;refine aq (nt ?_);refine aN (Z:=Unit) (α:=Bool) (fun j e=>[(0,.fn 83 (uI [.at aw (a0,(.map (some z_a0)))])),(4,Pt b1),(7,Pt b2),(8,I y5.2.1),(9,.eq (.bool y5.2.2.1)),(11,Pt x),(12,I c),(13,.rep (.slice (.arr 3 (.arr 5 (.int .i64)))) a1),(14,I (a1.length:Int)),(15,I y5.2.2.2),(28,.eq (.bool e))]) (fun j e=>[.obj b1 86 (.rep (.arr 3 (.arr 5 (.int .i64))) [[0,0,0,0,0],[0,0,0,0,0],[0,0,0,0,0]]),.obj b2 86 (.rep (.arr 3 (.arr 5 (.int .i64))) y5.1),.obj x 86 (.rep (.arr 3 (.arr 5 (.int .i64))) x9),.inv z_a0 (bO k a0)]) h (fun K h=>?_) (fun j e h=>?_)
    ·refine ab (mq ?_);refine ja (dT rfl) ?_;refine mq ?_;refine cu (s:=24) rfl (fun hb=>?_) (fun hb=>?_)
     ·replace h:=cF (BU hb) h;iterate 3 refine gn ?_
      refine pt (nl ?_);exact jz ((),true) h [2,3,1,0]
     ·replace h:=bN (vq hb) h;refine gm ?_;refine gm ?_;refine gb (bp rfl) ?_;refine pf (nl ?_);exact jz ((),decide (c < y5.2.1)) h [2,3,1,0]
    ·refine cv h (fun h=>?_) (fun h=>?_)
     ·refine ab (fr 2 ?_);refine lo gq ?_;refine mq ?_;refine fr 2 ?_;refine bh rfl rfl (bb rfl gq rfl rfl rfl) ⟨rfl,rfl,trivial⟩ ?_;refine aq ?_;refine cq (au (bn ?_));exact jz ((),(x9,c,true)) h [2,0,3]
     ·refine aW (bn ?_);exact jz ((),(y5.1,y5.2.1,y5.2.2.1)) h [0,1,3]
   ·refine ab ?_;obtain⟨y,l,h⟩:=aa h;refine jb (bf rfl l) ?_;refine mq (nl ?_);exact jz ((),(x7.1,x7.2.1,x7.2.2,y)) h [0,1,2]
  ·refine xa ?_;exact jz ((),(y5.1,y5.2.1,y5.2.2.1)) h [0,1,2]
 ·
  refine sr (fr 1 ?_);refine lo gq ?_;iterate 2 refine mq ?_
  refine fr 1 ?_;refine bh rfl rfl (bb rfl gq rfl rfl rfl) ⟨rfl,rfl,trivial⟩ ?_;refine aq ?_;refine aq (nt (ay ?_));refine bu (SE.fin (Γ':=[(4,_),(5,_),(6,_)]) [2,0,1] ⟨rfl,rfl,rfl,trivial⟩ rfl) ?_;cases h;exact aL () [.rep (.arr 3 (.arr 5 (.int .i64))) x3.1,_,_] 1 ⟨⟨_,_,_,_,_,rfl,(.tail _ (.head _)),gq,(tw),rfl⟩,rfl,rfl,trivial⟩ rfl
def uK(k:Nat)(a0:aO):Option ((List (List Int))×Int×Int):=
 (lK k a0).bind fun r2=>
 if¬(r2=0) then(some ([],0,r2)) else((kC k (a0,())).bind fun r5=>
 (lV k a0 r5).bind fun r6=>
 if¬(r6.2.2=true) then(some ([],0,11)) else((eB k (a0,()) r6.1).bind fun r8=>
 some (r8,r6.2.1,0)))
theorem zk(k:Nat)(a0:aO)(r:(List (List Int))×Int×Int)(h:uK k a0=some r):
 du (jv Tryz.prog) 31 [.rep av a0] [] (fun _:Unit=>(bq [.rep (.slice (.slice (.int .i64))) r.1,I r.2.1,I r.2.2],[])):=by
 unfold uK at h
 replace h:=a8 h
 refine du.of 33 Tryz.func31 rfl Tryz.ntmps31 rfl fun S w0=>?_
 refine sr ?_
 refine bx fun b1=>?_
 refine cq ?_
 refine cq ?_
 refine cq ?_
 refine nt ?_
 refine ae ?_
 refine sr ?_
 refine lo dj ?_
 obtain⟨r2,l,h⟩:=aa h
 have n:=rG k a0 r2 l
 refine ja (ap [.tmp 10] rfl rfl Qh rfl n) ?_
 refine aq ?_
 refine nt ?_
 refine sr ?_
 refine mq ?_
 refine jb (fL rfl) ?_
 refine nt ?_
 refine cn h (fun h=>?_) (fun h=>?_)
 ·
  refine sr (mq ?_);refine cq ?_;refine cq ?_;refine aq (nt (rx ?_));refine bu (lx (t:=(.slice (.slice (.int .i64)))) (x:=[]) 2 rfl .nil rfl rfl) ?_;cases h;exact aL () [_,_,_] 0 ⟨rfl,rfl,rfl,trivial⟩ rfl
 ·
  refine sk (sr (lo dj ?_));refine aF rfl rfl rfl (ap [.tmp 15] rfl rfl Ir rfl (gy a0)) ⟨rfl,trivial⟩ fun z3=>?_;refine cD (kO (bO k a0) lO) ?_;refine aq (nt (sr ?_));refine mq ?_;refine ja (JM [.tmp 18] [.at aw (a0,(.map (some z3)))] rfl rfl) ?_;refine mq ?_;refine aF rfl rfl rfl (dL (N:=[(.tmp 20,.at aw (a0,(.map (some z3))))]) (ap [.tmp 20] rfl rfl Sv rfl (oS (a0,()))) fun _ _ _ hn=>⟨pC hn.1,trivial⟩) ⟨rfl,trivial⟩ fun b4=>?_;obtain⟨r5,j,h⟩:=aa h;refine ka (ap [.tmp 21] rfl rfl Sz rfl (qu k (a0,()) b4 r5 j)) ?_;obtain⟨r6,e,h⟩:=aa h;refine fr 1 ?_;refine kb (ia [.tmp 19,.tmp 22] rfl rfl SA rfl (rD k a0 z3 r5 r6 e)) ?_;refine mq ?_;refine xr ?_;refine xr ?_;refine xr ?_;refine aF rfl rfl rfl (be rfl sP tR) trivial fun b7=>?_;refine bh rfl rfl (bb rfl gq rfl rfl rfl) ⟨rfl,rfl,trivial⟩ ?_;refine aq ?_;refine aq (nt (ae (sr ?_)));refine mq ?_;refine ja (dT rfl) ?_;refine nt (cw h (fun h=>?_) (fun h=>?_))
  ·refine sr (cq ?_);refine cq ?_;refine cq (nt (rx ?_));refine bu (lx (t:=(.slice (.slice (.int .i64)))) (x:=[]) 2 rfl .nil rfl rfl) ?_;cases h;exact aL () [_,_,_] 0 ⟨rfl,rfl,rfl,trivial⟩ rfl
  ·refine sk (sr (mq ?_));refine lo gq ?_;obtain⟨r8,c,h⟩:=aa h;refine aF rfl rfl rfl (dL (N:=[(.tmp 29,.at aw (a0,(.map (some z3)))),(.tmp 30,.rep (.arr 3 (.arr 5 (.int .i64))) r6.1)]) (ap [.tmp 29,.tmp 30] rfl rfl KP rfl (ix k (a0,()) r6.1 r8 c)) fun _ _ _ hn=>⟨(pC hn.1),hn.2.1,trivial⟩) ⟨rfl,rfl,trivial⟩ fun v9=>?_;refine mq ?_;refine aq ?_;refine aq ?_;refine cq (nt (ay ?_));refine bu (eR [2,31] ⟨rfl,rfl,trivial⟩) ?_;cases h;exact aL () [_,_,_] 0 ⟨rfl,rfl,rfl,trivial⟩ rfl
set_option maxRecDepth 20000
set_option maxHeartbeats 4000000
def Om(b:Nat):List Int→Option Addr
 |[]=>none
 |_::_=>some ⟨b,0,none⟩
def Q8:List Int→Value→Value
 |[],_=>.slice none 0 0
 |_::_,v=>v
theorem NQ(b:Nat)(l:List Int):Om b l=none∨Om b l=some ⟨b,0,none⟩:=by cases l <;> simp [Om]
theorem IK(b:Nat)(l:List Int)(c:Int):Om b (l++[c])=some ⟨b,0,none⟩:=by cases l <;> rfl
theorem IJ(l:List Int)(c:Int)(v:Value):Q8 (l++[c]) v=v:=by cases l <;> rfl
theorem GA:mn Tryz.prog 143 9 1 16:=.of (z:=(.string .empty)) Tv (by kernel_rfl) rfl rfl rfl
theorem ND:ag Tryz.prog 93:=ag.of Tryz.func93 (by kernel_rfl) (by kernel_rfl)
theorem P2:ag Tryz.prog 22:=ag.of Tryz.func22 (by kernel_rfl) (by kernel_rfl)
theorem OO:dS Tryz.prog 25 3 true:=⟨fun w=>by kernel_rfl,fun w=>by kernel_rfl⟩
theorem LG:dS Tryz.prog 23 1 false:=⟨fun w=>by kernel_rfl,fun w=>by kernel_rfl⟩
theorem ON:dS Tryz.prog 3 1 false:=⟨fun w=>by kernel_rfl,fun w=>by kernel_rfl⟩
def lR(c:Int):Int:=IntKind.i32.wrap (97+IntKind.i32.wrap c)
def lE(xs:List Int):Nat→Int×List Int→Option (List Int)
 |0,_=>none
 |n+1,y=>if y.1 < (xs.length:Int) then((aQ xs y.1).bind fun c=>if 0≤lR c∧lR c≤127∧bQ (y.2.length+1) then(ck (y.1+1)).bind fun z=>lE xs n (z,y.2++[lR c]) else none) else some y.2
def jZ(k:Nat)(a1:List (List Int)):Nat→Int×List ByteArray→Option (List ByteArray)
 |0,_=>none
 |n+1,y=>if y.1 < (a1.length:Int) then((aQ a1 y.1).bind fun xs=>(lE xs k (0,[])).bind fun l=>if bQ (y.2.length+1) then(ck (y.1+1)).bind fun z=>jZ k a1 n (z,y.2++[qM l]) else none) else some y.2
def sX(k:Nat)(a0:aO)(a1:(List (List Int))):Option (Value×Int):=
 (co k a0 a1).bind fun e=>if¬(e=0) then some (.string .empty,e) else(jZ k a1 k (0,[])).bind fun ss=>(uv k ss ⟨#[47]⟩).bind fun r=>some (.string r,0)
theorem xM(k:Nat)(a0:aO)(a1:(List (List Int)))(r:Value×Int)(h:sX k a0 a1=some r):
 bX Tryz.prog 48 [.rep av a0,.rep (.slice (.slice (.int .i64))) a1] [.inv 0 iI] (fun _:Unit=>(bq [.eq r.1,I r.2],[.inv 0 iI])):=by
 unfold sX at h
 replace h:=a8 h
 refine bX.of 43 Tryz.func48 rfl Tryz.ntmps48 rfl fun S w0=>?_
 refine sr ?_
 refine bx fun b2=>?_
 refine cq ?_
 refine cq ?_
 refine nt ?_
 refine ae ?_
 refine sr ?_
 obtain⟨e,ee,h⟩:=aa h
 have ce:=dO k a0 a1 e ee
 refine ka (aj rfl OO (yT) rfl) ?_
 refine mq ?_
 refine fr 1 ?_
 refine kb (ap [.tmp 13,.tmp 14] rfl rfl P2 rfl ce) ?_
 refine aq ?_
 refine nt ?_
 refine sr ?_
 refine mq ?_
 refine jb (fL rfl) ?_
 refine nt ?_
 refine bK rfl (fun hb=>?_) (fun hb=>?_)
 ·
  replace h:=cF (HD hb) h;refine sr (mq ?_);refine cq ?_;refine aq (nt (rx ?_));cases h;exact aL () [_,_] 1 ⟨rfl,rfl,trivial⟩ rfl
 replace h:=bN (vx hb) h
 refine sk ?_
 refine sr ?_
 refine cq ?_
 refine nt ?_
 rw [Option.bind_assoc] at h
 refine ae ?_
 refine sr ?_
 refine mq ?_
 refine ol lw ?_
 refine eU rfl ?_
 refine cD (SE.nil 9 .str) ?_
 refine nt ?_
 refine ao ?_
 refine aK (fun v y=>[(7,.eq v),(19,.rep (.slice (.slice (.int .i64))) a1),(20,I (a1.length:Int)),(21,I y.1)]) (fun v y=>[.sl v 9 .str y.2,.inv 0 iI]) (jZ k a1) k (.slice none 0 0) (0,[]) (fun _=>rfl) h (SE.fin [0,1] ⟨rfl,rfl,rfl,rfl,trivial⟩ rfl) (fun n v7 y h=>?_)
 unfold jZ at h
 refine sr ?_
 refine jb (bp rfl) ?_
 refine nt ?_
 refine ae ?_
 refine bK rfl (fun hb=>?_) (fun hb=>?_)
 ·
  replace h:=cF (oH hb) h;refine sk (ae (ao ?_));obtain⟨xs,exs,h⟩:=aa h;refine sr (jb (aA (t:=.slice (.int .i64)) rfl lw LG exs) ?_);refine ja (ak (t:=.slice (.int .i64)) rfl LG rfl) ?_;refine aq (nt (sr ?_));refine aF rfl rfl rfl (be rfl FY IN) trivial fun b=>?_;refine nt ?_;rw [Option.bind_assoc] at h;refine ae (sr (mq ?_));refine ol dw ?_;refine eU rfl ?_;refine cD (SE.nil 5 (.int .u8)) ?_;refine nt (ao ?_)
  refine aK (fun v q=>[(7,.eq v7),(10,.eq (bP b)),(19,.rep (.slice (.slice (.int .i64))) a1),(20,I (a1.length:Int)),(21,I y.1),(25,Ri xs),(26,I (xs.length:Int)),(27,I q.1)])
   (fun v q=>[.obj b 147 (bA (.pointer (Om b q.2)) (Q8 q.2 v)),.sl (Q8 q.2 v) 5 (.int .u8) q.2,.sl v7 9 .str y.2,.inv 0 iI]) (lE xs) k undef (0,[]) (fun _=>rfl) h (SE.fin [1,0,2,3] ⟨rfl,rfl,rfl,rfl,rfl,rfl,rfl,rfl,trivial⟩ rfl) (fun n2 v q h=>?_)
  unfold lE at h;refine sr (jb (bp rfl) ?_);refine nt (ae (bK rfl (fun hb=>?_) (fun hb=>?_)))
  ·replace h:=cF (oH hb) h;refine sk (ae (ao ?_));obtain⟨c,ec,h⟩:=aa h;refine sr (jb (aA (t:=.int .i64) rfl dw ON ec) ?_);refine ja (ak (t:=.int .i64) rfl ON rfl) ?_;refine aq (nt ?_)
   have hk:0≤lR c∧lR c≤127∧bQ (q.2.length+1):=by
    apply Classical.byContradiction;intro hn;rw [if_neg hn] at h;cases h
   replace h:=cF hk h;refine wb 1 rfl fun hv=>?_;refine ab (mq ?_);refine ja (pg rfl U3 Ub) ?_;refine jb (BS rfl) ?_;refine bS (Δ:=[_,_]) (F:=_) (fun _ _ _=>ax rfl _) rfl rfl (ap [.tmp 10,.tmp 33] rfl rfl NE rfl (xT (b:=b) (p:=Om b q.2) (v:=Q8 q.2 v) (l:=q.2) (r:=lR c) (NQ b q.2) hv hk.1 hk.2.1 hk.2.2)) ⟨rfl,rfl,trivial⟩ fun v2=>?_;refine au (aM (tn (ab ?_)));obtain⟨z3,ez3,h⟩:=aa h;refine jb (bf rfl ez3) ?_;refine mq (nl ?_);exact jf (v2,(z3,q.2++[lR c])) h (SE.fin [0,1,2,3] ⟨rfl,rfl,rfl,rfl,rfl,rfl,rfl,rfl,trivial⟩ (by simp only [IK,IJ];rfl))
  replace h:=bN (nL hb) h;refine dC (aU (aU (bU (tn ?_))));replace h:(if bQ (y.2.length+1) then(ck (y.1+1)).bind fun z=>jZ k a1 n (z,y.2++[qM q.2]) else none).bind _=some r:=h
  have hk:bQ (y.2.length+1):=by
   apply Classical.byContradiction;intro hn;rw [if_neg hn] at h;cases h
  replace h:=cF hk h;refine ab (mq ?_);refine bS (Δ:=[_,_]) (F:=_) (fun _ _ _=>ax rfl _) rfl rfl (ap [.tmp 10] rfl rfl Iq rfl (wP (b:=b) (l:=q.2) (fun hn=>by rw [hn];rfl))) ⟨rfl,trivial⟩ fun _=>?_;refine ja (bj (t:=.str) [(.tmp 37,.eq (.string (qM q.2)))] [qM q.2] rfl rfl GA (.cons rfl .str .nil) rfl rfl) ?_;refine c6 rfl rfl rfl (bI rfl rfl GA (by simpa using hk)) ⟨rfl,rfl,trivial⟩ fun v'=>?_;refine aq (au (aM (tn (ab ?_))));obtain⟨z3,ez3,h⟩:=aa h;refine jb (bf rfl ez3) ?_;refine mq (nl ?_);exact jz (v',(z3,y.2++[qM q.2])) h [0,1]
 replace h:=bN (nL hb) h
 refine dC ?_
 refine aU ?_
 refine aU ?_
 refine bU ?_
 refine tn ?_
 replace h:((uv k y.2 ⟨#[47]⟩).bind fun r=>some (.string r,0)).bind some=some r:=h
 obtain⟨r1,j,h⟩:=aa h
 cases h
 have cj:=Br k y.2 _ r1 j
 refine sr ?_
 refine cD (eR [7] ⟨rfl,trivial⟩) ?_
 refine mq ?_
 refine jb (ap [.tmp 41,.const (.string ⟨#[47]⟩)] rfl rfl ND rfl cj) ?_
 refine aq ?_
 refine cq ?_
 refine nt ?_
 refine ay ?_
 exact aL () [_,_] 1 ⟨rfl,rfl,trivial⟩ rfl
def kG(k:Nat):Option Bool:=
 (k9 k ([]:(List Int))).bind fun r1=>
 (xd k).bind fun r2=>
 (xO k r1 r2 1).bind fun r3=>
 (k9 k ([]:(List Int))).bind fun r4=>
 (xd k).bind fun r5=>
 (pR k r4 r5).bind fun r6=>
 (k9 k ([]:(List Int))).bind fun r7=>
 (uK k r7).bind fun r8=>
 (k9 k ([]:(List Int))).bind fun r9=>
 (HT k).bind fun E=>
 (uJ k r9 E).bind fun c=>
 (k9 k ([]:(List Int))).bind fun D=>
 (xd k).bind fun y=>
 (qL k D y 0 1).bind fun h=>
 (k9 k ([]:(List Int))).bind fun x=>
 (xd k).bind fun u=>
 (sX k x u).bind fun e=>
 ((if r3.2.2=0 then(if r6.2=0 then(if r8.2.2=0 then(if c.2.2.2=0 then(if h.2.2=0 then(if e.2=0 then(if r6.1=3 then(if r8.2.1=0 then(if c.1=0 then(if c.2.1=2 then(if c.2.2.1=1 then(if h.2.1=2 then((dE (LU e.1=true)).bind fun _=>
 if Im e.1 (⟨#[98,97,100,47,99]⟩:ByteArray)=true then((eh k r3.1 [0]).bind fun s=>
 if s=true then((fj k r3.2.1 [[0,1,3],[2]]).bind fun r=>
 if r=true then((fj k r8.1 [[2,0],[1,3]]).bind fun n=>
 if n=true then((eh k h.1 [0,1,3]).bind fun l=>
 some l) else(some false)) else(some false)) else(some false)) else(some false)) else(some false)) else(some false)) else(some false)) else(some false)) else(some false)) else(some false)) else(some false)) else(some false)) else(some false)) else(some false)) else(some false)) else(some false)):Option (Bool)).bind fun j=>
 some j
theorem qF(k:Nat)(r:Bool)(h:kG k=some r):
 du (jv Tryz.prog) 12 [] [.inv 0 (iI)] (fun _:Unit=>(bq [.eq (.bool r)],[.inv 0 (iI)])):=by
 unfold kG at h
 replace h:=a8 h
 refine du.of 132 Tryz.func12 rfl Tryz.ntmps12 rfl fun S w0=>?_
 refine sr ?_
 refine cq ?_
 refine nt ?_
 refine sr ?_
 obtain⟨r1,Uz,h⟩:=aa h
 have UI:=jU k ([]:(List Int)) r1 Uz
 refine ja (dL (N:=[(.const (.slice none 0 0),.eq (.slice none 0 0))]) (ap [.const (.slice none 0 0)] rfl rfl Fg rfl UI) fun _ _ _ hn=>⟨(kN (t:=(.slice (.int .i64))) (x:=([]:(List Int))) .nil rfl rfl hn.1),trivial⟩) ?_
 obtain⟨r2,Uy,h⟩:=aa h
 have UH:=rZ k r2 Uy
 refine aE rfl (ap [] rfl rfl KR rfl UH) trivial ?_
 obtain⟨r3,Ux,h⟩:=aa h
 have UG:=Bm k r1 r2 1 r3 Ux
 refine kc (ap [.tmp 19,.tmp 20,.const (.int .i64 (1))] rfl rfl S8 rfl UG) ?_
 refine mq ?_
 refine xr ?_
 refine xr ?_
 refine xr ?_
 refine aq ?_
 refine aq ?_
 refine aq ?_
 refine nt ?_
 refine sr ?_
 obtain⟨r4,Uw,h⟩:=aa h
 have UF:=jU k ([]:(List Int)) r4 Uw
 refine ja (dL (N:=[(.const (.slice none 0 0),.eq (.slice none 0 0))]) (ap [.const (.slice none 0 0)] rfl rfl Fg rfl UF) fun _ _ _ hn=>⟨(kN (t:=(.slice (.int .i64))) (x:=([]:(List Int))) .nil rfl rfl hn.1),trivial⟩) ?_
 obtain⟨r5,Uu,h⟩:=aa h
 have UE:=rZ k r5 Uu
 refine aE rfl (ap [] rfl rfl KR rfl UE) trivial ?_
 obtain⟨r6,Ut,h⟩:=aa h
 have UD:=rF k r4 r5 r6 Ut
 refine kb (ia [.tmp 26,.tmp 27] rfl rfl SU rfl UD) ?_
 refine mq ?_
 refine xr ?_
 refine xr ?_
 refine aq ?_
 refine aq ?_
 refine nt ?_
 refine sr ?_
 obtain⟨r7,Us,h⟩:=aa h
 have UC:=jU k ([]:(List Int)) r7 Us
 refine ja (dL (N:=[(.const (.slice none 0 0),.eq (.slice none 0 0))]) (ap [.const (.slice none 0 0)] rfl rfl Fg rfl UC) fun _ _ _ hn=>⟨(kN (t:=(.slice (.int .i64))) (x:=([]:(List Int))) .nil rfl rfl hn.1),trivial⟩) ?_
 obtain⟨r8,Ur,h⟩:=aa h
 have UB:=zk k r7 r8 Ur
 refine ja (ia [.tmp 32] rfl rfl SV rfl UB) ?_
 refine mq ?_
 refine xr ?_
 refine xr ?_
 refine xr ?_
 refine aq ?_
 refine aq ?_
 refine aq ?_
 refine nt ?_
 refine sr ?_
 obtain⟨r9,Up,h⟩:=aa h
 have UA:=jU k ([]:(List Int)) r9 Up
 refine ja (dL (N:=[(.const (.slice none 0 0),.eq (.slice none 0 0))]) (ap [.const (.slice none 0 0)] rfl rfl Fg rfl UA) fun _ _ _ hn=>⟨(kN (t:=(.slice (.int .i64))) (x:=([]:(List Int))) .nil rfl rfl hn.1),trivial⟩) ?_
 obtain⟨E,qt,h⟩:=aa h
 have Uj:=HS k E qt
 refine aE rfl (ap [] rfl rfl SO rfl Uj) trivial ?_
 obtain⟨Uo,pp,h⟩:=aa h
 have Ui:=zj k r9 E Uo pp
 refine kb (ia [.tmp 38,.tmp 39] rfl rfl SY rfl Ui) ?_
 refine mq ?_
 refine xr ?_
 refine xr ?_
 refine xr ?_
 refine xr ?_
 refine aq ?_
 refine aq ?_
 refine aq ?_
 refine aq ?_
 refine nt ?_
 refine sr ?_
 obtain⟨D,mc,h⟩:=aa h
 have Uh:=jU k ([]:(List Int)) D mc
 refine ja (dL (N:=[(.const (.slice none 0 0),.eq (.slice none 0 0))]) (ap [.const (.slice none 0 0)] rfl rfl Fg rfl Uh) fun _ _ _ hn=>⟨(kN (t:=(.slice (.int .i64))) (x:=([]:(List Int))) .nil rfl rfl hn.1),trivial⟩) ?_
 obtain⟨y,ac,h⟩:=aa h
 have Ug:=rZ k y ac
 refine aE rfl (ap [] rfl rfl KR rfl Ug) trivial ?_
 obtain⟨u,Y,h⟩:=aa h
 have Uf:=wl k D y 0 1 u Y
 refine bY rfl rfl rfl (ia [.tmp 46,.tmp 47,.const (.int .i64 (0)),.const (.int .i64 (1))] rfl rfl SX rfl Uf) ⟨rfl,rfl,rfl,rfl,trivial⟩ ?_
 refine mq ?_
 refine xr ?_
 refine xr ?_
 refine xr ?_
 refine aq ?_
 refine aq ?_
 refine aq ?_
 refine nt ?_
 refine sr ?_
 obtain⟨n,X,h⟩:=aa h
 have Ue:=jU k ([]:(List Int)) n X
 refine ja (dL (N:=[(.const (.slice none 0 0),.eq (.slice none 0 0))]) (ap [.const (.slice none 0 0)] rfl rfl Fg rfl Ue) fun _ _ _ hn=>⟨(kN (t:=(.slice (.int .i64))) (x:=([]:(List Int))) .nil rfl rfl hn.1),trivial⟩) ?_
 obtain⟨l,U,h⟩:=aa h
 have Ud:=rZ k l U
 refine aE rfl (ap [] rfl rfl KR rfl Ud) trivial ?_
 obtain⟨Un,Q,h⟩:=aa h
 have se:=xM k n l Un Q
 refine kb (ap [.tmp 53,.tmp 54] rfl rfl SN rfl se) ?_
 refine mq ?_
 refine xr ?_
 refine xr ?_
 refine aq ?_
 refine aq ?_
 refine nt ?_
 refine aN (Z:=Unit) (α:=Bool) (fun e c=>[(0,.eq (.bool c))]) (fun e c=>[.inv 0 (iI)]) h (fun K h=>?_) (fun e c h=>?_)
 ·
  refine ab (mq ?_);refine jb (fM rfl) ?_;refine mq ?_;refine cu (s:=60) rfl (fun hb=>?_) (fun hb=>?_)
  ·replace h:=cF (oH hb) h;refine gm ?_;refine gb (fM rfl) ?_;refine pt ?_;refine mq ?_;refine cu (s:=64) rfl (fun hb=>?_) (fun hb=>?_)
   ·replace h:=cF (oH hb) h;refine gm ?_;refine gb (fM rfl) ?_;refine pt ?_;refine mq ?_;refine cu (s:=68) rfl (fun hb=>?_) (fun hb=>?_)
    ·replace h:=cF (oH hb) h;refine gm ?_;refine gb (fM rfl) ?_;refine pt ?_;refine mq ?_;refine cu (s:=72) rfl (fun hb=>?_) (fun hb=>?_)
     ·replace h:=cF (oH hb) h;refine gm ?_;refine gb (fM rfl) ?_;refine pt ?_;refine mq ?_;refine cu (s:=76) rfl (fun hb=>?_) (fun hb=>?_)
      ·replace h:=cF (oH hb) h;refine gm ?_;refine gb (fM rfl) ?_;refine pt ?_;refine mq ?_;refine cu (s:=80) rfl (fun hb=>?_) (fun hb=>?_)
       ·replace h:=cF (oH hb) h;refine gm ?_;refine gb (fM rfl) ?_;refine pt ?_;refine mq ?_;refine cu (s:=84) rfl (fun hb=>?_) (fun hb=>?_)
        ·replace h:=cF (oH hb) h;refine gm ?_;refine gb (fM rfl) ?_;refine pt ?_;refine mq ?_;refine cu (s:=88) rfl (fun hb=>?_) (fun hb=>?_)
         ·replace h:=cF (oH hb) h;refine gm ?_;refine gb (fM rfl) ?_;refine pt ?_;refine mq ?_;refine cu (s:=92) rfl (fun hb=>?_) (fun hb=>?_)
          ·replace h:=cF (oH hb) h;refine gm ?_;refine gb (fM rfl) ?_;refine pt ?_;refine mq ?_;refine cu (s:=96) rfl (fun hb=>?_) (fun hb=>?_)
           ·replace h:=cF (oH hb) h;refine gm ?_;refine gb (fM rfl) ?_;refine pt ?_;refine mq ?_;refine cu (s:=100) rfl (fun hb=>?_) (fun hb=>?_)
            ·replace h:=cF (oH hb) h;refine gm ?_;refine gb (fM rfl) ?_;refine pt ?_;refine mq ?_;refine cu (s:=104) rfl (fun hb=>?_) (fun hb=>?_)
             ·replace h:=cF (oH hb) h;refine gm ?_;obtain⟨UJ,F,h⟩:=aa h;refine gb (Hf rfl (aC F)) ?_;refine pt ?_;refine mq ?_;refine cu (s:=108) rfl (fun hb=>?_) (fun hb=>?_)
              ·replace h:=cF (Db hb) h;refine gm ?_;refine ga (bj (t:=(.int .i64)) [(.const (.int .i64 (0)),_)] [0] rfl rfl dI (.cons rfl .int .nil) rfl rfl) ?_;obtain⟨Um,O,h⟩:=aa h;refine gb (ap [.tmp 109,.tmp 110] rfl rfl Is rfl (il k r3.1 [0] Um O)) ?_;refine pt ?_;refine mq ?_;refine cu (s:=113) rfl (fun hb=>?_) (fun hb=>?_)
               ·replace h:=cF (Db hb) h;refine gm ?_;refine gc (bj (t:=(.int .i64)) [(.const (.int .i64 (0)),_),(.const (.int .i64 (1)),_),(.const (.int .i64 (3)),_)] [0,1,3] rfl rfl dI (.cons rfl .int (.cons rfl .int (.cons rfl .int .nil))) rfl rfl) ?_;refine ga (bj (t:=(.int .i64)) [(.const (.int .i64 (2)),_)] [2] rfl rfl dI (.cons rfl .int .nil) rfl rfl) ?_;refine gb (bj (t:=(.slice (.int .i64))) [(.tmp 115,_),(.tmp 116,_)] [[0,1,3],[2]] rfl rfl oW (.cons rfl .rep (.cons rfl .rep .nil)) rfl rfl) ?_;obtain⟨Ul,M,h⟩:=aa h;refine gb (ap [.tmp 114,.tmp 117] rfl rfl KT rfl (i8 k r3.2.1 [[0,1,3],[2]] Ul M)) ?_;refine pt ?_;refine mq ?_;refine cu (s:=120) rfl (fun hb=>?_) (fun hb=>?_)
                ·replace h:=cF (Db hb) h;refine gm ?_;refine gb (bj (t:=(.int .i64)) [(.const (.int .i64 (2)),_),(.const (.int .i64 (0)),_)] [2,0] rfl rfl dI (.cons rfl .int (.cons rfl .int .nil)) rfl rfl) ?_;refine gb (bj (t:=(.int .i64)) [(.const (.int .i64 (1)),_),(.const (.int .i64 (3)),_)] [1,3] rfl rfl dI (.cons rfl .int (.cons rfl .int .nil)) rfl rfl) ?_;refine gb (bj (t:=(.slice (.int .i64))) [(.tmp 122,_),(.tmp 123,_)] [[2,0],[1,3]] rfl rfl oW (.cons rfl .rep (.cons rfl .rep .nil)) rfl rfl) ?_;obtain⟨Uk,J,h⟩:=aa h;refine gb (ap [.tmp 121,.tmp 124] rfl rfl KT rfl (i8 k r8.1 [[2,0],[1,3]] Uk J)) ?_;refine pt ?_;refine mq ?_;refine cu (s:=127) rfl (fun hb=>?_) (fun hb=>?_)
                 ·replace h:=cF (Db hb) h;refine gm ?_;refine gc (bj (t:=(.int .i64)) [(.const (.int .i64 (0)),_),(.const (.int .i64 (1)),_),(.const (.int .i64 (3)),_)] [0,1,3] rfl rfl dI (.cons rfl .int (.cons rfl .int (.cons rfl .int .nil))) rfl rfl) ?_;obtain⟨j,I,h⟩:=aa h;refine gb (ap [.tmp 128,.tmp 129] rfl rfl Is rfl (il k u.1 [0,1,3] j I)) ?_;refine pt ?_;refine aq (nl ?_);exact jz ((),j) h [0]
                 ·replace h:=bN (Dc hb) h;iterate 3 refine gn ?_
                  refine pf ?_;refine aq (nl ?_);exact jz ((),false) h [0]
                ·replace h:=bN (Dc hb) h;iterate 5 refine gn ?_
                 refine pf ?_;refine mq ?_;iterate 3 refine gn ?_
                 refine pf ?_;refine aq (nl ?_);exact jz ((),false) h [0]
               ·replace h:=bN (Dc hb) h;iterate 5 refine gn ?_
                refine pf ?_;refine mq ?_;iterate 5 refine gn ?_
                refine pf ?_;refine mq ?_;iterate 3 refine gn ?_
                refine pf ?_;refine aq (nl ?_);exact jz ((),false) h [0]
              ·replace h:=bN (Dc hb) h;iterate 3 refine gn ?_
               refine pf ?_;refine mq ?_;iterate 5 refine gn ?_
               refine pf ?_;refine mq ?_;iterate 5 refine gn ?_
               refine pf ?_;refine mq ?_;iterate 3 refine gn ?_
               refine pf ?_;refine aq (nl ?_);exact jz ((),false) h [0]
             ·replace h:=bN (nL hb) h;iterate 2 refine gn ?_
              refine pf ?_;refine mq ?_;iterate 3 refine gn ?_
              refine pf ?_;refine mq ?_;iterate 5 refine gn ?_
              refine pf ?_;refine mq ?_;iterate 5 refine gn ?_
              refine pf ?_;refine mq ?_;iterate 3 refine gn ?_
              refine pf ?_;refine aq (nl ?_);exact jz ((),false) h [0]
            ·replace h:=bN (nL hb) h;iterate 2 refine gn ?_
             refine pf ?_;refine mq ?_;iterate 2 refine gn ?_
             refine pf ?_;refine mq ?_;iterate 3 refine gn ?_
             refine pf ?_;refine mq ?_;iterate 5 refine gn ?_
             refine pf ?_;refine mq ?_;iterate 5 refine gn ?_
             refine pf ?_;refine mq ?_;iterate 3 refine gn ?_
             refine pf ?_;refine aq (nl ?_);exact jz ((),false) h [0]
           ·replace h:=bN (nL hb) h;iterate 2 refine gn ?_
            refine pf ?_;refine mq ?_;iterate 2 refine gn ?_
            refine pf ?_;refine mq ?_;iterate 2 refine gn ?_
            refine pf ?_;refine mq ?_;iterate 3 refine gn ?_
            refine pf ?_;refine mq ?_;iterate 5 refine gn ?_
            refine pf ?_;refine mq ?_;iterate 5 refine gn ?_
            refine pf ?_;refine mq ?_;iterate 3 refine gn ?_
            refine pf ?_;refine aq (nl ?_);exact jz ((),false) h [0]
          ·replace h:=bN (nL hb) h;iterate 2 refine gn ?_
           refine pf ?_;refine mq ?_;iterate 2 refine gn ?_
           refine pf ?_;refine mq ?_;iterate 2 refine gn ?_
           refine pf ?_;refine mq ?_;iterate 2 refine gn ?_
           refine pf ?_;refine mq ?_;iterate 3 refine gn ?_
           refine pf ?_;refine mq ?_;iterate 5 refine gn ?_
           refine pf ?_;refine mq ?_;iterate 5 refine gn ?_
           refine pf ?_;refine mq ?_;iterate 3 refine gn ?_
           refine pf ?_;refine aq (nl ?_);exact jz ((),false) h [0]
         ·replace h:=bN (nL hb) h;iterate 2 refine gn ?_
          refine pf ?_;refine mq ?_;iterate 2 refine gn ?_
          refine pf ?_;refine mq ?_;iterate 2 refine gn ?_
          refine pf ?_;refine mq ?_;iterate 2 refine gn ?_
          refine pf ?_;refine mq ?_;iterate 2 refine gn ?_
          refine pf ?_;refine mq ?_;iterate 3 refine gn ?_
          refine pf ?_;refine mq ?_;iterate 5 refine gn ?_
          refine pf ?_;refine mq ?_;iterate 5 refine gn ?_
          refine pf ?_;refine mq ?_;iterate 3 refine gn ?_
          refine pf ?_;refine aq (nl ?_);exact jz ((),false) h [0]
        ·replace h:=bN (nL hb) h;iterate 2 refine gn ?_
         refine pf ?_;refine mq ?_;iterate 2 refine gn ?_
         refine pf ?_;refine mq ?_;iterate 2 refine gn ?_
         refine pf ?_;refine mq ?_;iterate 2 refine gn ?_
         refine pf ?_;refine mq ?_;iterate 2 refine gn ?_
         refine pf ?_;refine mq ?_;iterate 2 refine gn ?_
         refine pf ?_;refine mq ?_;iterate 3 refine gn ?_
         refine pf ?_;refine mq ?_;iterate 5 refine gn ?_
         refine pf ?_;refine mq ?_;iterate 5 refine gn ?_
         refine pf ?_;refine mq ?_;iterate 3 refine gn ?_
         refine pf ?_;refine aq (nl ?_);exact jz ((),false) h [0]
       ·replace h:=bN (nL hb) h;iterate 2 refine gn ?_
        refine pf ?_;refine mq ?_;iterate 2 refine gn ?_
        refine pf ?_;refine mq ?_;iterate 2 refine gn ?_
        refine pf ?_;refine mq ?_;iterate 2 refine gn ?_
        refine pf ?_;refine mq ?_;iterate 2 refine gn ?_
        refine pf ?_;refine mq ?_;iterate 2 refine gn ?_
        refine pf ?_;refine mq ?_;iterate 2 refine gn ?_
        refine pf ?_;refine mq ?_;iterate 3 refine gn ?_
        refine pf ?_;refine mq ?_;iterate 5 refine gn ?_
        refine pf ?_;refine mq ?_;iterate 5 refine gn ?_
        refine pf ?_;refine mq ?_;iterate 3 refine gn ?_
        refine pf ?_;refine aq (nl ?_);exact jz ((),false) h [0]
      ·replace h:=bN (nL hb) h;iterate 2 refine gn ?_
       refine pf ?_;refine mq ?_;iterate 2 refine gn ?_
       refine pf ?_;refine mq ?_;iterate 2 refine gn ?_
       refine pf ?_;refine mq ?_;iterate 2 refine gn ?_
       refine pf ?_;refine mq ?_;iterate 2 refine gn ?_
       refine pf ?_;refine mq ?_;iterate 2 refine gn ?_
       refine pf ?_;refine mq ?_;iterate 2 refine gn ?_
       refine pf ?_;refine mq ?_;iterate 2 refine gn ?_
       refine pf ?_;refine mq ?_;iterate 3 refine gn ?_
       refine pf ?_;refine mq ?_;iterate 5 refine gn ?_
       refine pf ?_;refine mq ?_;iterate 5 refine gn ?_
       refine pf ?_;refine mq ?_;iterate 3 refine gn ?_
       refine pf ?_;refine aq (nl ?_);exact jz ((),false) h [0]
     ·replace h:=bN (nL hb) h;iterate 2 refine gn ?_
      refine pf ?_;refine mq ?_;iterate 2 refine gn ?_
      refine pf ?_;refine mq ?_;iterate 2 refine gn ?_
      refine pf ?_;refine mq ?_;iterate 2 refine gn ?_
      refine pf ?_;refine mq ?_;iterate 2 refine gn ?_
      refine pf ?_;refine mq ?_;iterate 2 refine gn ?_
      refine pf ?_;refine mq ?_;iterate 2 refine gn ?_
      refine pf ?_;refine mq ?_;iterate 2 refine gn ?_
      refine pf ?_;refine mq ?_;iterate 2 refine gn ?_
      refine pf ?_;refine mq ?_;iterate 3 refine gn ?_
      refine pf ?_;refine mq ?_;iterate 5 refine gn ?_
      refine pf ?_;refine mq ?_;iterate 5 refine gn ?_
      refine pf ?_;refine mq ?_;iterate 3 refine gn ?_
      refine pf ?_;refine aq (nl ?_);exact jz ((),false) h [0]
    ·replace h:=bN (nL hb) h;iterate 2 refine gn ?_
     refine pf ?_;refine mq ?_;iterate 2 refine gn ?_
     refine pf ?_;refine mq ?_;iterate 2 refine gn ?_
     refine pf ?_;refine mq ?_;iterate 2 refine gn ?_
     refine pf ?_;refine mq ?_;iterate 2 refine gn ?_
     refine pf ?_;refine mq ?_;iterate 2 refine gn ?_
     refine pf ?_;refine mq ?_;iterate 2 refine gn ?_
     refine pf ?_;refine mq ?_;iterate 2 refine gn ?_
     refine pf ?_;refine mq ?_;iterate 2 refine gn ?_
     refine pf ?_;refine mq ?_;iterate 2 refine gn ?_
     refine pf ?_;refine mq ?_;iterate 3 refine gn ?_
     refine pf ?_;refine mq ?_;iterate 5 refine gn ?_
     refine pf ?_;refine mq ?_;iterate 5 refine gn ?_
     refine pf ?_;refine mq ?_;iterate 3 refine gn ?_
     refine pf ?_;refine aq (nl ?_);exact jz ((),false) h [0]
   ·replace h:=bN (nL hb) h;iterate 2 refine gn ?_
    refine pf ?_;refine mq ?_;iterate 2 refine gn ?_
    refine pf ?_;refine mq ?_;iterate 2 refine gn ?_
    refine pf ?_;refine mq ?_;iterate 2 refine gn ?_
    refine pf ?_;refine mq ?_;iterate 2 refine gn ?_
    refine pf ?_;refine mq ?_;iterate 2 refine gn ?_
    refine pf ?_;refine mq ?_;iterate 2 refine gn ?_
    refine pf ?_;refine mq ?_;iterate 2 refine gn ?_
    refine pf ?_;refine mq ?_;iterate 2 refine gn ?_
    refine pf ?_;refine mq ?_;iterate 2 refine gn ?_
    refine pf ?_;refine mq ?_;iterate 2 refine gn ?_
    refine pf ?_;refine mq ?_;iterate 3 refine gn ?_
    refine pf ?_;refine mq ?_;iterate 5 refine gn ?_
    refine pf ?_;refine mq ?_;iterate 5 refine gn ?_
    refine pf ?_;refine mq ?_;iterate 3 refine gn ?_
    refine pf ?_;refine aq (nl ?_);exact jz ((),false) h [0]
  ·replace h:=bN (nL hb) h;iterate 2 refine gn ?_
   refine pf ?_;refine mq ?_;iterate 2 refine gn ?_
   refine pf ?_;refine mq ?_;iterate 2 refine gn ?_
   refine pf ?_;refine mq ?_;iterate 2 refine gn ?_
   refine pf ?_;refine mq ?_;iterate 2 refine gn ?_
   refine pf ?_;refine mq ?_;iterate 2 refine gn ?_
   refine pf ?_;refine mq ?_;iterate 2 refine gn ?_
   refine pf ?_;refine mq ?_;iterate 2 refine gn ?_
   refine pf ?_;refine mq ?_;iterate 2 refine gn ?_
   refine pf ?_;refine mq ?_;iterate 2 refine gn ?_
   refine pf ?_;refine mq ?_;iterate 2 refine gn ?_
   refine pf ?_;refine mq ?_;iterate 2 refine gn ?_
   refine pf ?_;refine mq ?_;iterate 3 refine gn ?_
   refine pf ?_;refine mq ?_;iterate 5 refine gn ?_
   refine pf ?_;refine mq ?_;iterate 5 refine gn ?_
   refine pf ?_;refine mq ?_;iterate 3 refine gn ?_
   refine pf ?_;refine aq (nl ?_);exact jz ((),false) h [0]
 ·
  refine ay ?_;cases h;exact aL () [_] 1 ⟨rfl,trivial⟩ rfl
def lb(k:Nat)(a0:aO)(a1:eO)(a2:(List (List Int)))(a3:bR):Option ((List aO)×(List (List (List Int)))×bR):=
 (kH k (a3.1,a3.2.1,a3.2.2) 4 3).bind fun r3=>
 (jd k r3.1).bind fun r5=>
 (ek k a1.2).bind fun r8=>
 (dE (bQ (List.length r5.2.1+List.length [(a1.1,r8)]))).bind fun _=>
 (fk k (r3.2.1,r3.2.2.1,r3.2.2.2) r3.1).bind fun e=>
 (fk k (e.2.1,e.2.2.1,e.2.2.2) r3.1).bind fun c=>
 (((ck ((r3.1.2.2.length:Int) - 1)).bind fun h=>
 if(r5.2.2.length:Int) < 3 then((aQ r5.2.2 h).bind fun u=>
 (ck (u+3)).bind fun s=>
 (aQ r5.2.2 h).bind fun y=>
 (aQ [a2,e.1,a2,c.1] 3).bind fun r=>
 (fo k r).bind fun n=>
 (aQ [a2,e.1,a2,c.1] 3).bind fun x=>
 (aQ n h).bind fun j=>
 (dE (bQ (List.length j+List.length [(r3.1.2.1.length:Int)]))).bind fun _=>
 some (List.set r5.2.2 (Int.toNat h) (ko 9 s),List.set [a2,e.1,a2,c.1] (Int.toNat 3) (List.set n (Int.toNat h) (j++[(r3.1.2.1.length:Int)])))) else(some (r5.2.2,[a2,e.1,a2,c.1]))):Option ((List Int)×(List (List (List Int))))).bind fun l=>
 some ([a0,r3.1,r3.1,(r5.1,r5.2.1++[(a1.1,r8)],l.1)],l.2,(c.2.1,c.2.2.1,c.2.2.2))
theorem vA(k:Nat)(a0:aO)(a1:eO)(a2:(List (List Int)))(a3:bR)(e:Nat)(r:(List aO)×(List (List (List Int)))×bR)(h:lb k a0 a1 a2 a3=some r):
 bX Tryz.prog 14 [.rep av a0,.rep aY a1,.rep (.slice (.slice (.int .i64))) a2,Pt e] [.obj e 75 (.agg (.pair (Ri a3.1) (.pair (I a3.2.1) (.eq (.int .u64 a3.2.2)))))] (fun _:Unit=>(bq [Rs av r.1,.rep (.slice (.slice (.slice (.int .i64)))) r.2.1],[.obj e 75 (.agg (.pair (Ri r.2.2.1) (.pair (I r.2.2.2.1) (.eq (.int .u64 r.2.2.2.2)))))])):=by
 unfold lb at h
 replace h:=a8 h
 refine bX.of 85 Tryz.func14 rfl Tryz.ntmps14 rfl fun S w0=>?_
 refine sr ?_
 refine bx fun b1=>?_
 refine bx fun b2=>?_
 refine cq ?_
 refine cq ?_
 refine nt ?_
 refine sr ?_
 refine mq ?_
 obtain⟨r3,UJ,h⟩:=aa h
 have UM:=wC k (a3.1,a3.2.1,a3.2.2) e 4 3 r3 UJ
 refine fr 2 ?_
 refine kc (ap [.tmp 14,.const (.int .i64 (4)),.const (.int .i64 (3))] rfl rfl SL rfl UM) ?_
 refine aF rfl rfl rfl (be rfl kA mC) trivial fun b4=>?_
 refine bh rfl rfl (bb rfl dj rfl rfl rfl) ⟨rfl,rfl,trivial⟩ ?_
 refine nt ?_
 refine sr ?_
 refine lo dj ?_
 obtain⟨r5,UI,h⟩:=aa h
 have UL:=uk k r3.1 r5 UI
 refine bS (Δ:=[]) (F:=_) (fun _ _ _=>ax rfl _) rfl rfl (ap [.tmp 16] rfl rfl Qo rfl UL) ⟨rfl,trivial⟩ fun z6=>?_
 refine aF rfl rfl rfl (be rfl kA mC) trivial fun b7=>?_
 refine bh rfl rfl (bb rfl dj trivial rfl rfl) ⟨rfl,rfl,trivial⟩ ?_
 refine nt ?_
 refine ae ?_
 refine bz ?_
 refine da (ar rfl bT) ?_
 refine ea 0 (aj rfl eX jo rfl) ?_
 refine da (ar rfl kL) ?_
 refine ea 5 (aj rfl cm jo rfl) ?_
 refine da (ar rfl ku) ?_
 refine ea 5 (aj rfl bF jo rfl) ?_
 obtain⟨r8,UH,h⟩:=aa h
 have UK:=cz k a1.2 r8 UH
 refine da (sH (ap [.tmp 23] rfl rfl ut rfl UK)) ?_
 refine db (cI [(0,.tmp 21,_),(1,.tmp 24,_)] rfl zD ue ub (ij ⟨rfl,rfl,trivial⟩) rfl) ?_
 refine da (bj (t:=aY) [(.tmp 25,_)] [(a1.1,r8)] rfl rfl xR (.cons trivial (.agg (.pair .int .rep)) .nil) rfl rfl) ?_
 refine df cp ?_
 obtain⟨u9,UG,h⟩:=aa h
 refine fr 1 ?_
 refine c6 rfl rfl rfl (bI rfl rfl xR (aC UG)) ⟨rfl,rfl,trivial⟩ fun j=>?_
 refine fl bT ?_
 refine ou fun o11=>?_
 refine fr 1 ?_
 refine bh rfl rfl (bb rfl eX o11 rfl rfl) ⟨rfl,rfl,trivial⟩ ?_
 refine nt ?_
 refine ae ?_
 refine FR [0,2,4,5,6,1,3,7,8,9] (by kernel_rfl) ?_
 refine aI rfl rfl rfl (aH rfl) ⟨rfl,trivial⟩ ?_
 refine dp 3 rfl rfl rfl rfl (aj rfl dj (tw) rfl) ⟨rfl,trivial⟩ ?_
 refine aI rfl rfl rfl (aH rfl) ⟨rfl,trivial⟩ ?_
 refine aI rfl rfl rfl (aH rfl) ⟨rfl,trivial⟩ ?_
 refine dp 3 rfl rfl rfl rfl (aj rfl dj (tw) rfl) ⟨rfl,trivial⟩ ?_
 refine aI rfl rfl rfl (aH rfl) ⟨rfl,trivial⟩ ?_
 refine my 6 [false,true,false,false,false,true] [32,36] [3] [.obj b4 25 (.rep av r3.1)] rfl (by kernel_rfl) (by kernel_rfl) (by kernel_rfl) cp (fun vs hv hB=>?_)
 obtain⟨w0,UC,rfl,Ue⟩:=an hv
 obtain⟨w1,UB,rfl,Ud⟩:=an Ue
 obtain⟨w2,UA,rfl,se⟩:=an Ud
 obtain⟨w3,Uz,rfl,qt⟩:=an se
 obtain⟨w4,Uy,rfl,pp⟩:=an qt
 obtain⟨w5,Ux,rfl,mc⟩:=an pp
 obtain rfl:=kl mc
 refine⟨[3,0,1,2,4,5,6],[.obj b7 25 (.agg (.pair (I r5.1) (.pair (.eq j) (.eq z6.2)))),.sl j 27 aY (r5.2.1++[(a1.1,r8)]),.sl z6.2 3 (.int .i64) r5.2.2,.obj e 75 (.agg (.pair (Ri r3.2.1) (.pair (I r3.2.2.1) (.eq (.int .u64 r3.2.2.2))))),.obj b2 27 (.rep aY a1),.obj b1 25 (.rep av a0)],by kernel_rfl,by decide,?_⟩
 obtain⟨x,Us,h⟩:=aa h
 have Uu:=nC k (r3.2.1,r3.2.2.1,r3.2.2.2) e r3.1 x Us
 refine iY 3 rfl ?_
 refine vZ rfl rfl rfl rfl (ap [.tmp 30,.tmp 31] rfl rfl Qf rfl Uu) ⟨rfl,rfl,trivial⟩ (by kernel_rfl) ?_
 obtain⟨c,Ur,h⟩:=aa h
 have Ut:=nC k (x.2.1,x.2.2.1,x.2.2.2) e r3.1 c Ur
 refine vZ rfl rfl rfl rfl (ap [.tmp 34,.tmp 35] rfl rfl Qf rfl Ut) ⟨rfl,rfl,trivial⟩ (by kernel_rfl) ?_
 refine C3 (by kernel_rfl) ?_
 refine aF rfl rfl rfl (me (t:=(.slice (.slice (.int .i64)))) [(.tmp 29,_),(.tmp 32,_),(.tmp 33,_),(.tmp 36,_)] [a2,x.1,a2,c.1] rfl rfl Ry (.cons rfl .rep (.cons rfl .rep (.cons rfl .rep (.cons rfl .rep .nil)))) rfl rfl) ⟨rfl,rfl,rfl,rfl,trivial⟩ fun y=>?_
 refine aq ?_
 refine nt ?_
 refine aN (Z:=Unit) (α:=(List Int)×(List (List (List Int)))) (fun Uf U=>[(4,Pt b1),(10,Pt b4),(11,Pt b7),(12,.eq y)]) (fun Uf U=>[.obj b1 25 (.rep av a0),.obj b4 25 (.rep av r3.1),.obj b7 25 (.agg (.pair (I r5.1) (.pair (.eq j) (.eq z6.2)))),.sl j 27 aY (r5.2.1++[(a1.1,r8)]),.sl z6.2 3 (.int .i64) U.1,.sl y 28 (.slice (.slice (.int .i64))) U.2,.obj e 75 (.agg (.pair (Ri c.2.1) (.pair (I c.2.2.1) (.eq (.int .u64 c.2.2.2)))))]) h (fun K h=>?_) (fun Uf U h=>?_)
 ·
  refine sr (fl cJ ?_);refine fr 1 ?_;refine lo bF ?_;refine ol dw ?_;obtain⟨s,Un,h⟩:=aa h;refine jb (eK rfl Un) ?_;refine aq (nt (sr ?_));refine fl cJ ?_;refine fr 3 ?_;refine lo bF ?_;refine fr 5 ?_;refine ka (dh rfl rfl dw) ?_;refine jb (bp rfl) ?_;refine nt (ci h (fun h=>?_) (fun h=>?_))
  ·refine ae (bz ?_);refine da (ar rfl cJ) ?_;refine ea 1 (aj rfl bF jo rfl) ?_;refine dm ?_;refine da (ar rfl cJ) ?_;refine ea 1 (aj rfl bF jo rfl) ?_;refine dm ?_;obtain⟨UV,ac,h⟩:=aa h;refine eb 0 (aZ (t:=(.int .i64)) rfl dw cm ac) ?_;refine ea 0 (dX (i:=Int.toNat s) (off:=0) rfl cm (fun _=>rfl) rfl (cC ac).2.2 rfl) ?_;obtain⟨D,Um,h⟩:=aa h;refine db (bf rfl Um) ?_;refine db (Du rfl rfl) ?_;refine df cp ?_;obtain⟨UU,Y,h⟩:=aa h;refine kb (aZ (t:=(.int .i64)) rfl dw cm Y) ?_;refine bh rfl rfl (cR (i:=Int.toNat s) rfl cm rfl (ib Y) rfl .int rfl) ⟨rfl,rfl,trivial⟩ ?_;refine nt (sr ?_);iterate 2 refine mq ?_
   obtain⟨Uw,X,h⟩:=aa h;refine fr 3 ?_;refine kb (aZ (t:=(.slice (.slice (.int .i64)))) rfl L1 qn X) ?_;refine ka (dX (i:=Int.toNat 3) (off:=0) rfl qn (fun _=>rfl) rfl (cC X).2.2 rfl) ?_;obtain⟨E,Up,h⟩:=aa h;refine bS (Δ:=[]) (F:=[.sl y 28 (.slice (.slice (.int .i64))) [a2,x.1,a2,c.1],.sl z6.2 3 (.int .i64) (List.set r5.2.2 (Int.toNat s) (ko 9 D)),.obj b7 25 (.agg (.pair (I r5.1) (.pair (.eq j) (.eq z6.2)))),.obj b4 25 (.rep av r3.1),.obj e 75 (.agg (.pair (Ri c.2.1) (.pair (I c.2.2.1) (.eq (.int .u64 c.2.2.2))))),.sl j 27 aY (r5.2.1++[(a1.1,r8)]),.obj b2 27 (.rep aY a1),.obj b1 25 (.rep av a0)]) (fun _ _ _=>ax rfl _) rfl rfl (ap [.tmp 60] rfl rfl Ql rfl (sb k Uw E Up)) ⟨rfl,trivial⟩ fun n=>?_;refine cD (fN List.perm_append_comm) ?_;obtain⟨UT,M,h⟩:=aa h;refine kb (aZ (t:=(.slice (.slice (.int .i64)))) rfl L1 qn M) ?_;refine I3 (pre:=[.sl y 28 (.slice (.slice (.int .i64))) [a2,x.1,a2,c.1],.sl z6.2 3 (.int .i64) (List.set r5.2.2 (Int.toNat s) (ko 9 D)),.obj b7 25 (.agg (.pair (I r5.1) (.pair (.eq j) (.eq z6.2)))),.obj b4 25 (.rep av r3.1),.obj e 75 (.agg (.pair (Ri c.2.1) (.pair (I c.2.2.1) (.eq (.int .u64 c.2.2.2))))),.sl j 27 aY (r5.2.1++[(a1.1,r8)]),.obj b2 27 (.rep aY a1),.obj b1 25 (.rep av a0)]) fun oz25=>?_;refine cD FD ?_;refine bh rfl rfl (cR (i:=Int.toNat 3) rfl qn rfl (by rw [List.length_map];exact ib M) rfl (.altR oz25) oz25) ⟨rfl,rfl,trivial⟩ ?_;refine nt ?_;obtain⟨Q,J,h⟩:=aa h;refine dW (tU (pre:=[.sl y 28 (.alt (.slice (.slice (.int .i64)))) (List.set (List.map Sum.inl [a2,x.1,a2,c.1]) (Int.toNat 3) (.inr n.1)),.sl z6.2 3 (.int .i64) (List.set r5.2.2 (Int.toNat s) (ko 9 D)),.obj b7 25 (.agg (.pair (I r5.1) (.pair (.eq j) (.eq z6.2)))),.obj b4 25 (.rep av r3.1),.obj e 75 (.agg (.pair (Ri c.2.1) (.pair (I c.2.2.1) (.eq (.int .u64 c.2.2.2))))),.sl j 27 aY (r5.2.1++[(a1.1,r8)]),.obj b2 27 (.rep aY a1),.obj b1 25 (.rep av a0)]) (qe J).2) ?_;obtain⟨U4,Uo,h⟩:=aa h;refine sK (Δ:=[.sl (n.2 (Int.toNat s)) 3 (.int .i64) Q,.sl n.1 23 .val (eG n.2 0 E),.sl y 28 (.alt (.slice (.slice (.int .i64)))) (List.set (List.map Sum.inl [a2,x.1,a2,c.1]) (Int.toNat 3) (.inr n.1)),.sl z6.2 3 (.int .i64) (List.set r5.2.2 (Int.toNat s) (ko 9 D)),.obj b7 25 (.agg (.pair (I r5.1) (.pair (.eq j) (.eq z6.2)))),.obj b4 25 (.rep av r3.1),.obj e 75 (.agg (.pair (Ri c.2.1) (.pair (I c.2.2.1) (.eq (.int .u64 c.2.2.2))))),.sl j 27 aY (r5.2.1++[(a1.1,r8)]),.obj b2 27 (.rep aY a1),.obj b1 25 (.rep av a0)]) (F:=(kV n.2 0 E).eraseIdx (Int.toNat s)) (Z:=Value) (fun i=>[(4,Pt b1),(10,Pt b4),(11,Pt b7),(12,.eq y)]) (fun i=>[.sl n.1 23 .val (List.set (eG n.2 0 E) (Int.toNat s) i),.sl i 3 (.int .i64) (Q++[(r3.1.2.1.length:Int)]),.sl y 28 (.alt (.slice (.slice (.int .i64)))) (List.set (List.map Sum.inl [a2,x.1,a2,c.1]) (Int.toNat 3) (.inr n.1)),.sl z6.2 3 (.int .i64) (List.set r5.2.2 (Int.toNat s) (ko 9 D)),.obj b7 25 (.agg (.pair (I r5.1) (.pair (.eq j) (.eq z6.2)))),.obj b4 25 (.rep av r3.1),.obj e 75 (.agg (.pair (Ri c.2.1) (.pair (I c.2.2.1) (.eq (.int .u64 c.2.2.2))))),.sl j 27 aY (r5.2.1++[(a1.1,r8)]),.obj b2 27 (.rep aY a1),.obj b1 25 (.rep av a0)]) (fun S w=>?_) (fun O=>?_)
   ·refine jy ?_;refine aI rfl rfl rfl (aH rfl) ⟨rfl,trivial⟩ ?_;refine dp 2 rfl rfl rfl rfl (aZ (t:=.alt (.slice (.slice (.int .i64)))) rfl L1 qn (si M _)) ⟨rfl,rfl,trivial⟩ ?_;refine dp 2 rfl rfl rfl rfl (vo (i:=Int.toNat 3) rfl qn rfl (cC (si M _)).2.2) ⟨rfl,trivial⟩ ?_;refine aI rfl rfl rfl (aH rfl) ⟨rfl,trivial⟩ ?_;refine aI rfl rfl rfl (aH rfl) ⟨rfl,trivial⟩ ?_;refine dp 2 rfl rfl rfl rfl (aZ (t:=.alt (.slice (.slice (.int .i64)))) rfl L1 qn (si M _)) ⟨rfl,rfl,trivial⟩ ?_;refine dp 2 rfl rfl rfl rfl (vo (i:=Int.toNat 3) rfl qn rfl (cC (si M _)).2.2) ⟨rfl,trivial⟩ ?_;refine aI rfl rfl rfl (aH rfl) ⟨rfl,trivial⟩ ?_;refine dp 1 rfl rfl rfl rfl (aZ (t:=.val) rfl lw bF (kR J)) ⟨rfl,rfl,trivial⟩ ?_;refine dp 1 rfl rfl rfl rfl (dX (i:=Int.toNat s) (off:=0) rfl bF (fun _=>rfl) rfl (cC (kR J)).2.2 rfl) ⟨rfl,trivial⟩ ?_;refine aI rfl rfl rfl (ar rfl bT) ⟨rfl,trivial⟩ ?_;refine dp 5 rfl rfl rfl rfl (aj rfl eX jo rfl) ⟨rfl,trivial⟩ ?_;refine aI rfl rfl rfl (jq rfl rfl mD) ⟨rfl,trivial⟩ ?_;refine aI rfl rfl rfl (bj (t:=(.int .i64)) [(.tmp 75,_)] [(r3.1.2.1.length:Int)] rfl rfl dI (.cons rfl .int .nil) rfl rfl) ⟨rfl,trivial⟩ ?_;refine sL 0 rfl (fun v=>[.sl v 3 (.int .i64) (Q++[(r3.1.2.1.length:Int)])]) (fun _=>rfl) rfl rfl rfl (bI rfl rfl dI (aC Uo)) ⟨rfl,rfl,trivial⟩ ?_;refine my 15 [true,true,true,true,true,true,true,true,true,true,true,true,true,true,true] [78] [] [] rfl (by kernel_rfl) (by kernel_rfl) (by kernel_rfl) cp (fun vs hv hB=>?_);obtain⟨w0,UC,rfl,Ue⟩:=an hv;obtain⟨w1,UB,rfl,Ud⟩:=an Ue;obtain⟨w2,UA,rfl,se⟩:=an Ud;obtain⟨w3,Uz,rfl,qt⟩:=an se;obtain⟨w4,Uy,rfl,pp⟩:=an qt;obtain⟨w5,Ux,rfl,mc⟩:=an pp;obtain⟨w6,U2,rfl,UF⟩:=an mc;obtain⟨w7,U1,rfl,UE⟩:=an UF;obtain⟨w8,U0,rfl,UD⟩:=an UE;obtain⟨w9,US,rfl,Ul⟩:=an UD;obtain⟨UZ,UR,rfl,Uk⟩:=an Ul;obtain⟨UY,UQ,rfl,Uj⟩:=an Uk;obtain⟨UX,UP,rfl,Ui⟩:=an Uj;obtain⟨UW,UO,rfl,Uh⟩:=an Ui;obtain⟨O,UN,rfl,Ug⟩:=an Uh;obtain rfl:=kl Ug;refine⟨[0,1,2,3,4,5,6,7,8,9],[.sl n.1 23 .val (eG n.2 0 E),.sl y 28 (.alt (.slice (.slice (.int .i64)))) (List.set (List.map Sum.inl [a2,x.1,a2,c.1]) (Int.toNat 3) (.inr n.1)),.sl z6.2 3 (.int .i64) (List.set r5.2.2 (Int.toNat s) (ko 9 D)),.obj b7 25 (.agg (.pair (I r5.1) (.pair (.eq j) (.eq z6.2)))),.obj b4 25 (.rep av r3.1),.obj e 75 (.agg (.pair (Ri c.2.1) (.pair (I c.2.2.1) (.eq (.int .u64 c.2.2.2))))),.sl j 27 aY (r5.2.1++[(a1.1,r8)]),.obj b2 27 (.rep aY a1),.obj b1 25 (.rep av a0),.sl O 3 (.int .i64) (Q++[(r3.1.2.1.length:Int)])],by kernel_rfl,by decide,?_⟩;refine vZ rfl rfl rfl rfl (aZ (t:=.val) rfl lw bF (kR J)) ⟨rfl,rfl,trivial⟩ (by kernel_rfl) ?_;refine iY 9 rfl ?_;refine C0 fun o29=>?_;refine iY 1 rfl ?_;refine ot rfl rfl (cR (i:=Int.toNat s) rfl bF rfl (ib (kR J)) rfl (.val o29) o29) ⟨rfl,rfl,trivial⟩ (by kernel_rfl) ?_;refine pJ ?_;refine bu (SE.fin (Γ':=[(4,Pt b1),(10,Pt b4),(11,Pt b7),(12,.eq y)]) (Δ':=[.sl n.1 23 .val (List.set (eG n.2 0 E) (Int.toNat s) O),.sl O 3 (.int .i64) (Q++[(r3.1.2.1.length:Int)]),.sl y 28 (.alt (.slice (.slice (.int .i64)))) (List.set (List.map Sum.inl [a2,x.1,a2,c.1]) (Int.toNat 3) (.inr n.1)),.sl z6.2 3 (.int .i64) (List.set r5.2.2 (Int.toNat s) (ko 9 D)),.obj b7 25 (.agg (.pair (I r5.1) (.pair (.eq j) (.eq z6.2)))),.obj b4 25 (.rep av r3.1),.obj e 75 (.agg (.pair (Ri c.2.1) (.pair (I c.2.2.1) (.eq (.int .u64 c.2.2.2))))),.sl j 27 aY (r5.2.1++[(a1.1,r8)]),.obj b2 27 (.rep aY a1),.obj b1 25 (.rep av a0)]) [0,1,2,3,4,5,6,7,8,9] ⟨rfl,rfl,rfl,rfl,trivial⟩ rfl) ?_
    exact fun a w st=>⟨rfl,(O),(SE.fin (Γ':=[(4,Pt b1),(10,Pt b4),(11,Pt b7),(12,.eq y)]) (Δ':=[.sl n.1 23 .val (List.set (eG n.2 0 E) (Int.toNat s) O),.sl O 3 (.int .i64) (Q++[(r3.1.2.1.length:Int)]),.sl y 28 (.alt (.slice (.slice (.int .i64)))) (List.set (List.map Sum.inl [a2,x.1,a2,c.1]) (Int.toNat 3) (.inr n.1)),.sl z6.2 3 (.int .i64) (List.set r5.2.2 (Int.toNat s) (ko 9 D)),.obj b7 25 (.agg (.pair (I r5.1) (.pair (.eq j) (.eq z6.2)))),.obj b4 25 (.rep av r3.1),.obj e 75 (.agg (.pair (Ri c.2.1) (.pair (I c.2.2.1) (.eq (.int .u64 c.2.2.2))))),.sl j 27 aY (r5.2.1++[(a1.1,r8)]),.obj b2 27 (.rep aY a1),.obj b1 25 (.rep av a0)]) [0,1,2,3,4,5,6,7,8,9] ⟨rfl,rfl,rfl,rfl,trivial⟩ rfl) a w st⟩
   ·show JN _ _ [(4,Pt b1),(10,Pt b4),(11,Pt b7),(12,.eq y)] ([.sl n.1 23 .val (List.set (eG n.2 0 E) (Int.toNat s) O),.sl O 3 (.int .i64) (Q++[(r3.1.2.1.length:Int)]),.sl y 28 (.alt (.slice (.slice (.int .i64)))) (List.set (List.map Sum.inl [a2,x.1,a2,c.1]) (Int.toNat 3) (.inr n.1)),.sl z6.2 3 (.int .i64) (List.set r5.2.2 (Int.toNat s) (ko 9 D)),.obj b7 25 (.agg (.pair (I r5.1) (.pair (.eq j) (.eq z6.2)))),.obj b4 25 (.rep av r3.1),.obj e 75 (.agg (.pair (Ri c.2.1) (.pair (I c.2.2.1) (.eq (.int .u64 c.2.2.2))))),.sl j 27 aY (r5.2.1++[(a1.1,r8)]),.obj b2 27 (.rep aY a1),.obj b1 25 (.rep av a0)]++(kV n.2 0 E).eraseIdx (Int.toNat s));refine dn 1 rfl ?_;refine bu (vW (pre:=[.sl y 28 (.alt (.slice (.slice (.int .i64)))) (List.set (List.map Sum.inl [a2,x.1,a2,c.1]) (Int.toNat 3) (.inr n.1)),.sl z6.2 3 (.int .i64) (List.set r5.2.2 (Int.toNat s) (ko 9 D)),.obj b7 25 (.agg (.pair (I r5.1) (.pair (.eq j) (.eq z6.2)))),.obj b4 25 (.rep av r3.1),.obj e 75 (.agg (.pair (Ri c.2.1) (.pair (I c.2.2.1) (.eq (.int .u64 c.2.2.2))))),.sl j 27 aY (r5.2.1++[(a1.1,r8)]),.obj b2 27 (.rep aY a1),.obj b1 25 (.rep av a0)]) (z:=n) (i:=Int.toNat s) (qe J).2) ?_;refine ah (bu (AU (pre:=[.sl y 28 (.alt (.slice (.slice (.int .i64)))) (List.set (List.map Sum.inl [a2,x.1,a2,c.1]) (Int.toNat 3) (.inr n.1)),.sl z6.2 3 (.int .i64) (List.set r5.2.2 (Int.toNat s) (ko 9 D)),.obj b7 25 (.agg (.pair (I r5.1) (.pair (.eq j) (.eq z6.2)))),.obj b4 25 (.rep av r3.1),.obj e 75 (.agg (.pair (Ri c.2.1) (.pair (I c.2.2.1) (.eq (.int .u64 c.2.2.2))))),.sl j 27 aY (r5.2.1++[(a1.1,r8)]),.obj b2 27 (.rep aY a1),.obj b1 25 (.rep av a0)])) ?_);refine bu (FG (u:=.slice (.int .i64)) (l:=[a2,x.1,a2,c.1]) (i:=Int.toNat 3)) ?_;exact jz ((),(List.set r5.2.2 (Int.toNat s) (ko 9 D),List.set [a2,x.1,a2,c.1] (Int.toNat 3) (List.set E (Int.toNat s) (Q++[(r3.1.2.1.length:Int)])))) h [7,3,2,5,1,0,4]
  ·refine aW (ah ?_);exact jz ((),(r5.2.2,[a2,x.1,a2,c.1])) h [7,2,1,5,0,3,4]
 ·
  refine sr (lo dj ?_);refine fr 1 ?_;refine lo dj ?_;refine lo dj ?_;refine fr 2 ?_;refine fr 3 ?_;refine cD (kP (off:=1) [] trivial rfl rfl) ?_;refine fr 3 ?_;refine cD (kP (off:=2) [] trivial rfl rfl) ?_;refine lo dj ?_;refine aE rfl (bj (t:=av) [(.tmp 79,_),(.tmp 80,_),(.tmp 81,_),(.tmp 82,_)] [a0,r3.1,r3.1,(r5.1,r5.2.1++[(a1.1,r8)],U.1)] rfl rfl Rz (.cons rfl .rep (.cons rfl .rep (.cons rfl .rep (.cons trivial (.agg (.pair .int (.pair .rep .rep))) .nil)))) rfl rfl) ⟨rfl,rfl,rfl,rfl,trivial⟩ ?_;refine mq ?_;refine aq ?_;refine aq (nt (ay ?_));refine dn 3 rfl ?_;refine bu (eR [9,12,84] ⟨rfl,rfl,rfl,trivial⟩) ?_;refine bu (SE.fin (Γ':=[(8,_),(9,_)]) [3,0,1,2] ⟨rfl,rfl,trivial⟩ rfl) ?_;cases h;exact aL () [_,_] 1 ⟨rfl,rfl,trivial⟩ rfl
def gB(k:Nat)(a0:aO)(a1:(List (List Int)))(a2:Int):Option ((List (List Int))×Int):=
 (co k a0 a1).bind fun r2=>
 if¬(r2=0) then(some ([],r2)) else((dG k a2 0 a0.1).bind fun r3=>
 if¬(r3=true) then(some ([],3)) else((dP k a1).bind fun r5=>
 (gx k (a0,()) r5 a2).bind fun r6=>
 (eB k (a0,()) r6).bind fun r7=>
 some (r7,0)))
theorem rH(k:Nat)(a0:aO)(a1:(List (List Int)))(a2:Int)(r:(List (List Int))×Int)(h:gB k a0 a1 a2=some r):
 bX Tryz.prog 39 [.rep av a0,.rep (.slice (.slice (.int .i64))) a1,I a2] [.inv 0 (iI)] (fun _:Unit=>(bq [.rep (.slice (.slice (.int .i64))) r.1,I r.2],[.inv 0 (iI)])):=by
 unfold gB at h
 replace h:=a8 h
 refine bX.of 30 Tryz.func39 rfl Tryz.ntmps39 rfl fun S w0=>?_
 refine sr ?_
 refine bx fun b1=>?_
 refine cq ?_
 refine cq ?_
 refine nt ?_
 refine ae ?_
 refine sr ?_
 refine lo dj ?_
 refine mq ?_
 obtain⟨r2,n,h⟩:=aa h
 have s:=dO k a0 a1 r2 n
 refine fr 1 ?_
 refine kb (ap [.tmp 10,.tmp 11] rfl rfl It rfl s) ?_
 refine aq ?_
 refine nt ?_
 refine sr ?_
 refine mq ?_
 refine jb (fL rfl) ?_
 refine nt ?_
 refine cn h (fun h=>?_) (fun h=>?_)
 ·
  refine sr (mq ?_);refine cq ?_;refine aq (nt (rx ?_));refine bu (lx (t:=(.slice (.slice (.int .i64)))) (x:=[]) 6 rfl .nil rfl rfl) ?_;cases h;exact aL () [_,_] 1 ⟨rfl,rfl,trivial⟩ rfl
 ·
  refine sk (ae (sr (mq ?_)));refine fl fD ?_;refine fr 1 ?_;refine lo cm ?_;obtain⟨r3,l,h⟩:=aa h;refine jc (ap [.tmp 16,.const (.int .i64 (0)),.tmp 18] rfl rfl wF rfl (dF k a2 0 a0.1 r3 l)) ?_;refine ja (dT rfl) ?_;refine nt (cw h (fun h=>?_) (fun h=>?_))
  ·refine sr (cq ?_);refine cq (nt (rx ?_));refine bu (lx (t:=(.slice (.slice (.int .i64)))) (x:=[]) 6 rfl .nil rfl rfl) ?_;refine bu (SE.fin (Γ':=[(6,_),(7,_)]) [1,0] ⟨rfl,rfl,trivial⟩ rfl) ?_;cases h;exact aL () [_,_] 1 ⟨rfl,rfl,trivial⟩ rfl
  ·refine sk (sr (lo dj ?_));refine aF rfl rfl rfl (ap [.tmp 21] rfl rfl Ir rfl (gy a0)) ⟨rfl,trivial⟩ fun z4=>?_;refine cD (kO (bO k a0) lO) ?_;refine aq (nt (sr ?_));iterate 3 refine mq ?_
   obtain⟨r5,j,h⟩:=aa h;refine ja (ap [.tmp 25] rfl rfl CO rfl (eC k a1 r5 j)) ?_;refine mq ?_;obtain⟨r6,e,h⟩:=aa h;refine jc (dL (N:=[(.tmp 24,.at aw (a0,(.map (some z4)))),(.tmp 26,.rep (.arr 3 (.arr 5 (.int .i64))) r5),(.tmp 27,I a2)]) (ap [.tmp 24,.tmp 26,.tmp 27] rfl rfl P9 rfl (mJ k (a0,()) r5 a2 r6 e)) fun _ _ _ hn=>⟨(pC hn.1),hn.2.1,hn.2.2.1,trivial⟩) ?_;obtain⟨r7,c,h⟩:=aa h;refine aF rfl rfl rfl (dL (N:=[(.tmp 23,.at aw (a0,(.map (some z4)))),(.tmp 28,.rep (.arr 3 (.arr 5 (.int .i64))) r6)]) (ap [.tmp 23,.tmp 28] rfl rfl KP rfl (ix k (a0,()) r6 r7 c)) fun _ _ _ hn=>⟨(pC hn.1),hn.2.1,trivial⟩) ⟨rfl,rfl,trivial⟩ fun v8=>?_;refine aq ?_;refine cq (nt (ay ?_));refine bu (eR [6,29] ⟨rfl,rfl,trivial⟩) ?_;refine bu (SE.fin (Γ':=[(6,_),(7,_)]) [2,0,1] ⟨rfl,rfl,trivial⟩ rfl) ?_;cases h;exact aL () [_,_] 1 ⟨rfl,rfl,trivial⟩ rfl
def fV(k:Nat)(a2:Int)(r5:(List (List Int))×Int):Nat→Int→Option (Except (Int×Int×Int) Unit)
 |0,_=>none
 |n+1,y8=>
  if y8 < (r5.1.length:Int) then((aQ r5.1 y8).bind fun c=>
  (ip k c a2).bind fun e=>
  if 0≤e then((ck ((c.length:Int) - 1)).bind fun l=>
  (ck (l - e)).bind fun j=>
  some (.error (y8,j,0))) else((ck (y8+1)).bind fun h=>
  fV k a2 r5 n h)) else(some (.ok ()))
def i7(k:Nat)(a0:aO)(a1:(List (List Int)))(a2:Int)(a3:Int):Option (Int×Int×Int):=
 (co k a0 a1).bind fun r2=>
 if¬(r2=0) then(some (0,0,r2)) else((ck ((a0.2.1.length:Int) - 1)).bind fun x3=>
 (dG k a2 0 x3).bind fun r4=>
 if¬(r4=true) then(some (0,0,3)) else((gB k a0 a1 a3).bind fun r5=>
 if¬(r5.2=0) then(some (0,0,r5.2)) else(bE (α:=Unit) (fV k a2 r5 k 0) (some) fun _=>
 some (0,0,0))))
theorem xN(k:Nat)(a0:aO)(a1:(List (List Int)))(a2:Int)(a3:Int)(r:Int×Int×Int)(h:i7 k a0 a1 a2 a3=some r):
 bX Tryz.prog 41 [.rep av a0,.rep (.slice (.slice (.int .i64))) a1,I a2,I a3] [.inv 0 (iI)] (fun _:Unit=>(bq [I r.1,I r.2.1,I r.2.2],[.inv 0 (iI)])):=by
 unfold i7 at h
 replace h:=a8 h
 refine bX.of 59 Tryz.func41 rfl Tryz.ntmps41 rfl fun S w0=>?_
 refine sr ?_
 refine bx fun b1=>?_
 refine cq ?_
 refine cq ?_
 refine cq ?_
 refine nt ?_
 refine ae ?_
 refine sr ?_
 refine lo dj ?_
 refine mq ?_
 obtain⟨r2,M,h⟩:=aa h
 have O:=dO k a0 a1 r2 M
 refine fr 1 ?_
 refine kb (ap [.tmp 17,.tmp 18] rfl rfl It rfl O) ?_
 refine aq ?_
 refine nt ?_
 refine sr ?_
 refine mq ?_
 refine jb (fL rfl) ?_
 refine nt ?_
 refine cn h (fun h=>?_) (fun h=>?_)
 ·
  refine sr (mq ?_);refine cq ?_;refine cq ?_;refine aq (nt (rx ?_));cases h;exact aL () [_,_,_] 1 ⟨rfl,rfl,rfl,trivial⟩ rfl
 ·
  refine sk (ae (sr (mq ?_)));refine fl bT ?_;refine fr 1 ?_;refine lo eX ?_;refine ol mD ?_;obtain⟨x3,E,h⟩:=aa h;refine jb (eK rfl E) ?_;obtain⟨r4,J,h⟩:=aa h;refine jc (ap [.tmp 23,.const (.int .i64 (0)),.tmp 27] rfl rfl wF rfl (dF k a2 0 x3 r4 J)) ?_;refine ja (dT rfl) ?_;refine nt (cw h (fun h=>?_) (fun h=>?_))
  ·refine sr (cq ?_);refine cq ?_;refine cq (nt (rx ?_));refine bu (SE.fin (Γ':=[(8,_),(9,_),(10,_)]) [1,0] ⟨rfl,rfl,rfl,trivial⟩ rfl) ?_;cases h;exact aL () [_,_,_] 1 ⟨rfl,rfl,rfl,trivial⟩ rfl
  ·refine sk (sr (lo dj ?_));iterate 2 refine mq ?_
   obtain⟨r5,F,h⟩:=aa h;refine fr 1 ?_;refine kc (ap [.tmp 31,.tmp 32,.tmp 33] rfl rfl Qg rfl (rH k a0 a1 a3 r5 F)) ?_;refine mq ?_;refine xr ?_;refine xr ?_;refine aq ?_;refine aq (nt (ae (sr ?_)));refine mq ?_;refine jb (fL rfl) ?_;refine nt (cn h (fun h=>?_) (fun h=>?_))
   ·refine sr (mq ?_);refine cq ?_;refine cq ?_;refine aq (nt (rx ?_));cases h;exact aL () [_,_,_] 1 ⟨rfl,rfl,rfl,trivial⟩ rfl
   ·refine sk (dN (Z:=Unit) (α:=Unit) (fun z7 x6=>[]) (fun z7 x6=>[.inv 0 (iI)]) (fun e=>e=r) h (fun e h=>Option.some.inj h) (fun K hR h=>?_) (fun z7 x6 h=>?_))
    ·refine sr (mq ?_);refine ol lw ?_;refine eU rfl ?_;refine nt (ao (aK (fun z9 y8=>[(2,I a2),(40,.rep (.slice (.slice (.int .i64))) r5.1),(41,I (r5.1.length:Int)),(42,I y8)]) (fun z9 y8=>[.inv 0 (iI)]) (fV k a2 r5) k () 0 (fun _=>rfl) h (SE.fin [0] ⟨rfl,rfl,rfl,rfl,trivial⟩ rfl) (fun n z9 y8 h=>?_)));unfold fV at h;refine sr (jb (bp rfl) ?_);refine nt (ae (ci h (fun h=>?_) (fun h=>?_)))
     ·refine sk (ae (ao (sr (mq ?_))));obtain⟨y,s,h⟩:=aa h;refine jb (aA (t:=(.slice (.int .i64))) rfl lw bF s) ?_;refine ja (ak (t:=(.slice (.int .i64))) rfl bF rfl) ?_;refine aq ?_;refine aq (nt (sr ?_));iterate 2 refine mq ?_
      obtain⟨D,u,h⟩:=aa h;refine jb (ap [.tmp 47,.tmp 48] rfl rfl P5 rfl (nj k y a2 D u)) ?_;refine aq (nt (sr ?_));refine mq ?_;refine jb (pe rfl) ?_;refine nt (ci h (fun h=>?_) (fun h=>?_))
      ·refine sr ?_;iterate 2 refine mq ?_
       refine ol dw ?_;obtain⟨U,l,h⟩:=aa h;refine jb (eK rfl l) ?_;refine mq ?_;obtain⟨Q,j,h⟩:=aa h;refine jb (eK rfl j) ?_;refine aq ?_;refine aq ?_;refine cq (nt (ay (br (bi (aV ?_)))));obtain rfl:=hR _ h;exact aL () [_,_,_] 1 ⟨rfl,rfl,rfl,trivial⟩ rfl
      ·refine aW (aM (tn (ab ?_)));obtain⟨x,c,h⟩:=aa h;refine jb (bf rfl c) ?_;refine mq (nl ?_);exact jz ((),x) h [0]
     ·refine xa ?_;exact jz ((),()) h [0]
    ·refine sr (cq ?_);refine cq ?_;refine cq (nt (ay ?_));cases h;exact aL () [_,_,_] 1 ⟨rfl,rfl,rfl,trivial⟩ rfl
def dr(k:Nat)(a3:Int)(a4:Int)(e:(List aO)×(List (List (List Int)))×bR)(j:Int×bR)(h:Int×bR)(y:Int×bR)(x:Int×bR):Nat→Int→Option (Except Bool Unit)
 |0,_=>none
 |n+1,c=>
  if c < (e.1.length:Int) then((aQ e.1 c).bind fun Ud=>
  (ju k Ud).bind fun u=>
  (aQ e.2.1 c).bind fun se=>
  (fo k se).bind fun s=>
  (aQ [a4,j.1,a4,h.1] c).bind fun qt=>
  (gB k u s qt).bind fun E=>
  (aQ e.1 c).bind fun pp=>
  (aQ e.2.1 c).bind fun mc=>
  (aQ [a4,j.1,a4,h.1] c).bind fun ac=>
  (kD k pp mc ac).bind fun D=>
  (aQ [a3,y.1,a3,x.1] c).bind fun Z=>
  (aQ [a4,j.1,a4,h.1] c).bind fun Y=>
  (i7 k u s Z Y).bind fun r=>
  (aQ e.1 c).bind fun X=>
  (aQ e.2.1 c).bind fun U=>
  (aQ [a3,y.1,a3,x.1] c).bind fun Q=>
  (aQ [a4,j.1,a4,h.1] c).bind fun O=>
  (jQ k X U Q O).bind fun l=>
  ((if¬(E.2=D.2) then(some true) else((fj k E.1 D.1).bind fun Ug=>
  if¬(Ug=true) then(some true) else(if¬(r.1=l.1) then(some true) else(if¬(r.2.1=l.2.1) then(some true) else(if¬(r.2.2=l.2.2) then(some true) else((aQ e.1 c).bind fun J=>
  (jr k u J).bind fun Uf=>
  if¬(Uf=true) then(some true) else((aQ e.2.1 c).bind fun I=>
  (fj k s I).bind fun Ue=>
  some (!Ue)))))))):Option (Bool)).bind fun M=>
  if M=true then(some (.error false)) else((ck (c+1)).bind fun F=>
  dr k a3 a4 e j h y x n F)) else(some (.ok ()))
def jE(k:Nat)(a0:aO)(a1:eO)(a2:(List (List Int)))(a3:Int)(a4:Int)(a5:(List Int)):Option Bool:=
 (((nB k a0).bind fun r5=>
 if r5=true then(some true) else((nz k a2).bind fun r6=>
 if r6=true then(some true) else(some (decide (20 < (a1.2.length:Int)))))):Option (Bool)).bind fun x3=>
 if x3=true then((kG k).bind fun r7=>
 some r7) else((mQ k a5).bind fun r8=>
 (lb k a0 a1 a2 (r8.1,r8.2.1,r8.2.2)).bind fun j=>
 (bV k (j.2.2.1,j.2.2.2.1,j.2.2.2.2) 4).bind fun h=>
 (bV k (h.2.1,h.2.2.1,h.2.2.2) 4).bind fun e=>
 (bV k (e.2.1,e.2.2.1,e.2.2.2) 3).bind fun c=>
 (bV k (c.2.1,c.2.2.1,c.2.2.2) 3).bind fun n=>
 bE (α:=Unit) (dr k a3 a4 j h e c n k 0) (some) fun _=>
 (kG k).bind fun l=>
 some l)
theorem q9(k:Nat)(a0:aO)(a1:eO)(a2:(List (List Int)))(a3:Int)(a4:Int)(a5:(List Int))(r:Bool)(h:jE k a0 a1 a2 a3 a4 a5=some r):
 du (jv Tryz.prog) 8 [.rep av a0,.rep aY a1,.rep (.slice (.slice (.int .i64))) a2,I a3,I a4,Ri a5] [.inv 0 (iI)] (fun _:Unit=>(bq [.eq (.bool r)],[.inv 0 (iI)])):=by
 unfold jE at h
 replace h:=a8 h
 refine du.of 189 Tryz.func8 rfl Tryz.ntmps8 rfl fun S w0=>?_
 refine sr ?_
 refine bx fun b1=>?_
 refine bx fun b2=>?_
 refine cq ?_
 refine nt ?_
 refine ae ?_
 refine aN (Z:=Unit) (α:=Bool) (fun z4 x3=>[(2,.rep (.slice (.slice (.int .i64))) a2),(3,I a3),(4,I a4),(5,Ri a5),(6,Pt b1),(7,Pt b2),(42,.eq (.bool x3))]) (fun z4 x3=>[.obj b1 25 (.rep av a0),.obj b2 27 (.rep aY a1),.inv 0 (iI)]) h (fun K h=>?_) (fun z4 x3 h=>?_)
 ·
  refine ab (fr 1 ?_);refine lo dj ?_;obtain⟨r5,Vh,h⟩:=aa h;refine ja (ap [.tmp 31] rfl rfl Tf rfl (Ai k a0 r5 Vh)) ?_;refine mq ?_;refine cu (s:=33) rfl (fun hb=>?_) (fun hb=>?_)
  ·replace h:=cF (Db hb) h;iterate 2 refine gn ?_
   refine pt ?_;refine mq ?_;iterate 4 refine gn ?_
   refine pt (nl ?_);exact jz ((),true) h [0,1,2]
  ·replace h:=bN (Dc hb) h;refine gm ?_;obtain⟨r6,Vg,h⟩:=aa h;refine ga (ap [.tmp 34] rfl rfl Td rfl (Ah k a2 r6 Vg)) ?_;refine pf ?_;refine mq ?_;refine cu (s:=37) rfl (fun hb=>?_) (fun hb=>?_)
   ·replace h:=cF (Db hb) h;iterate 4 refine gn ?_
    refine pt (nl ?_);exact jz ((),true) h [0,1,2]
   ·replace h:=bN (Dc hb) h;refine ga (ar rfl ku) ?_;refine fr 1 ?_;refine jM rfl rfl rfl rfl rfl rfl (aj rfl bF jo rfl) ⟨rfl,trivial⟩ ?_;refine ga (jq rfl rfl dw) ?_;refine gb (iC rfl) ?_;refine pf (nl ?_);exact jz ((),decide (20 < (a1.2.length:Int))) h [1,0,2]
 ·
  refine cv h (fun h=>?_) (fun h=>?_)
  ·refine sr ?_;obtain⟨r7,Vf,h⟩:=aa h;refine fr 2 ?_;refine bY rfl rfl rfl (ia [] rfl rfl Qy rfl (qF k r7 Vf)) trivial ?_;refine aq (nt (rx ?_));cases h;exact aL () [_] 1 ⟨rfl,trivial⟩ rfl
  ·refine sk (sr (mq ?_));obtain⟨r8,Ve,h⟩:=aa h;refine aF rfl rfl rfl (ap [.tmp 44] rfl rfl Ta rfl (vB k a5 r8 Ve)) ⟨rfl,trivial⟩ fun b9=>?_;refine aq (nt (sr ?_));refine fr 1 ?_;refine lo dj ?_;refine fr 2 ?_;refine lo j7 ?_;iterate 2 refine mq ?_
   obtain⟨c,UG,h⟩:=aa h;refine fr 2 ?_;refine bY rfl rfl rfl (ap [.tmp 47,.tmp 48,.tmp 49,.tmp 50] rfl rfl S9 rfl (vA k a0 a1 a2 (r8.1,r8.2.1,r8.2.2) b9 c UG)) ⟨rfl,rfl,rfl,rfl,trivial⟩ ?_;refine mq ?_;refine xr ?_;refine xr ?_;refine aq ?_;refine aq (nt (sr ?_));iterate 2 refine mq ?_
   obtain⟨u,UF,h⟩:=aa h;refine kb (ap [.tmp 55,.const (.int .i64 (4))] rfl rfl yB rfl (cY k (c.2.2.1,c.2.2.2.1,c.2.2.2.2) b9 4 u UF)) ?_;iterate 2 refine mq ?_
   obtain⟨l,UE,h⟩:=aa h;refine kb (ap [.tmp 58,.const (.int .i64 (4))] rfl rfl yB rfl (cY k (u.2.1,u.2.2.1,u.2.2.2) b9 4 l UE)) ?_;refine aE rfl (bj (t:=(.int .i64)) [(.tmp 54,_),(.tmp 56,_),(.tmp 57,_),(.tmp 59,_)] [a4,u.1,a4,l.1] rfl rfl dI (.cons rfl .int (.cons rfl .int (.cons rfl .int (.cons rfl .int .nil)))) rfl rfl) ⟨rfl,rfl,rfl,rfl,trivial⟩ ?_;iterate 2 refine mq ?_
   obtain⟨j,UD,h⟩:=aa h;refine kb (ap [.tmp 62,.const (.int .i64 (3))] rfl rfl yB rfl (cY k (l.2.1,l.2.2.1,l.2.2.2) b9 3 j UD)) ?_;iterate 2 refine mq ?_
   obtain⟨x,UC,h⟩:=aa h;refine kb (ap [.tmp 65,.const (.int .i64 (3))] rfl rfl yB rfl (cY k (j.2.1,j.2.2.1,j.2.2.2) b9 3 x UC)) ?_;refine aE rfl (bj (t:=(.int .i64)) [(.tmp 61,_),(.tmp 63,_),(.tmp 64,_),(.tmp 66,_)] [a3,j.1,a3,x.1] rfl rfl dI (.cons rfl .int (.cons rfl .int (.cons rfl .int (.cons rfl .int .nil)))) rfl rfl) ⟨rfl,rfl,rfl,rfl,trivial⟩ ?_;refine aq ?_;refine aq (nt ?_);refine dN (Z:=Unit) (α:=Unit) (fun Q U=>[]) (fun Q U=>[.inv 0 (iI)]) (fun e=>e=r) h (fun e h=>Option.some.inj h) (fun K hR h=>?_) (fun Q U h=>?_)
   ·refine sr (cq (nt (ao ?_)));refine aK (fun O y=>[(14,Rs av c.1),(15,.rep (.slice (.slice (.slice (.int .i64)))) c.2.1),(16,Ri [a4,u.1,a4,l.1]),(17,Ri [a3,j.1,a3,x.1]),(18,I y)]) (fun O y=>[.inv 0 (iI)]) (dr k a3 a4 c u l j x) k () 0 (fun _=>rfl) h (SE.fin [3] ⟨rfl,rfl,rfl,rfl,rfl,trivial⟩ rfl) (fun n O y h=>?_);unfold dr at h;refine ae (sr ?_);iterate 2 refine mq ?_
    refine ol QU ?_;refine jb (bp rfl) ?_;refine nt (ci h (fun h=>?_) (fun h=>?_))
    ·refine sk (ae (ao (ae (jy ?_))));refine aI rfl rfl rfl (aH rfl) ⟨rfl,trivial⟩ ?_;refine aI rfl rfl rfl (aH rfl) ⟨rfl,trivial⟩ ?_;obtain⟨UV,Up,h⟩:=aa h;refine aI rfl rfl rfl (aA (t:=av) rfl QU dj Up) ⟨rfl,rfl,trivial⟩ ?_;refine aI rfl rfl rfl (ak (t:=av) rfl dj rfl) ⟨rfl,trivial⟩ ?_;obtain⟨E,UB,h⟩:=aa h;refine aI rfl rfl rfl (ap [.tmp 77] rfl rfl Qo rfl (tG k UV E UB)) ⟨rfl,trivial⟩ ?_;refine aI rfl rfl rfl (aH rfl) ⟨rfl,trivial⟩ ?_;refine aI rfl rfl rfl (aH rfl) ⟨rfl,trivial⟩ ?_;obtain⟨UU,Uo,h⟩:=aa h;refine aI rfl rfl rfl (aA (t:=(.slice (.slice (.int .i64)))) rfl L1 qn Uo) ⟨rfl,rfl,trivial⟩ ?_;refine aI rfl rfl rfl (ak (t:=(.slice (.slice (.int .i64)))) rfl qn rfl) ⟨rfl,trivial⟩ ?_;obtain⟨D,UA,h⟩:=aa h;refine aI rfl rfl rfl (sH (ap [.tmp 82] rfl rfl Ql rfl (tH k UU D UA))) ⟨rfl,trivial⟩ ?_;refine uF (GN 25 (.agg (.pair (I 0) (.pair (.eq (.slice none 0 0)) (.eq (.slice none 0 0)))))) (fun _=>rfl) rfl rfl rfl (be rfl kA mC) trivial ?_;refine my 11 [true,true,true,true,true,true,true,true,true,true,true] [20] [] [] rfl (by kernel_rfl) (by kernel_rfl) (by kernel_rfl) cp (fun vs hv hB=>?_);obtain⟨w0,Vt,rfl,Vd⟩:=an hv;obtain⟨w1,Vs,rfl,Vb⟩:=an Vd;obtain⟨w2,Vr,rfl,Va⟩:=an Vb;obtain⟨w3,Vq,rfl,U8⟩:=an Va;obtain⟨w4,Vp,rfl,U7⟩:=an U8;obtain⟨w5,Vo,rfl,U6⟩:=an U7;obtain⟨w6,Vn,rfl,U4⟩:=an U6;obtain⟨w7,Vm,rfl,U2⟩:=an U4;obtain⟨w8,Vl,rfl,U1⟩:=an U2;obtain⟨w9,Vj,rfl,pp⟩:=an U1;obtain⟨Vk,Vi,rfl,mc⟩:=an pp;obtain rfl:=kl mc;obtain⟨J,rfl⟩:=BI hB.2.2.2.2.2.2.2.2.2.2.1;refine⟨[0,1],[.inv 0 (iI),.obj J 25 (.agg (.pair (I 0) (.pair (.eq (.slice none 0 0)) (.eq (.slice none 0 0)))))],by kernel_rfl,by decide,?_⟩;refine iY 1 rfl ?_;refine ot rfl rfl (bb rfl dj rfl rfl rfl) ⟨rfl,rfl,trivial⟩ (by kernel_rfl) ?_;refine pI rfl rfl rfl rfl (dV rfl) ⟨rfl,trivial⟩ (by kernel_rfl) ?_;refine pJ ?_;refine bu (SE.fin (Γ':=[(14,Rs av c.1),(15,.rep (.slice (.slice (.slice (.int .i64)))) c.2.1),(16,Ri [a4,u.1,a4,l.1]),(17,Ri [a3,j.1,a3,x.1]),(18,I y),(19,Pt J),(20,.rep (.slice (.slice (.int .i64))) D)]) (Δ':=[.obj J 25 (.rep av E),.inv 0 (iI)]) [0,1] ⟨rfl,rfl,rfl,rfl,rfl,rfl,rfl,trivial⟩ rfl) ?_;refine tn (ae (bz ?_));refine ea 0 (aj rfl dj (tw) rfl) ?_;refine dm ?_;refine dm ?_;refine dm ?_;obtain⟨UT,Un,h⟩:=aa h;refine db (aA (t:=(.int .i64)) rfl dw cm Un) ?_;refine da (ak (t:=(.int .i64)) rfl cm rfl) ?_;obtain⟨ac,Uz,h⟩:=aa h;refine ec 1 (ap [.tmp 85,.tmp 86,.tmp 90] rfl rfl Qg rfl (rH k E D UT ac Uz)) ?_;refine dm ?_;refine da (cE rfl rfl) ?_;refine da (cE rfl rfl) ?_;refine da (dV rfl) ?_;refine df cp ?_;refine aq (nt (ae ?_));refine bz ?_;refine dm ?_;refine dm ?_;obtain⟨US,Um,h⟩:=aa h;refine db (aA (t:=av) rfl QU dj Um) ?_;refine da (ak (t:=av) rfl dj rfl) ?_;refine dm ?_;refine dm ?_;obtain⟨UR,Ul,h⟩:=aa h;refine db (aA (t:=(.slice (.slice (.int .i64)))) rfl L1 qn Ul) ?_;refine da (ak (t:=(.slice (.slice (.int .i64)))) rfl qn rfl) ?_;refine dm ?_;refine dm ?_;obtain⟨UQ,Uk,h⟩:=aa h;refine db (aA (t:=(.int .i64)) rfl dw cm Uk) ?_
     refine da (ak (t:=(.int .i64)) rfl cm rfl) ?_;obtain⟨Y,Uy,h⟩:=aa h;refine dc (ap [.tmp 98,.tmp 102,.tmp 106] rfl rfl SS rfl (ya k US UR UQ Y Uy)) ?_;refine dm ?_;refine da (cE rfl rfl) ?_;refine da (cE rfl rfl) ?_;refine da (dV rfl) ?_;refine df cp ?_;refine aq (nt (ae ?_));refine bz ?_;refine ea 0 (aj rfl dj (tw) rfl) ?_;refine dm ?_;refine dm ?_;refine dm ?_;obtain⟨UP,Uj,h⟩:=aa h;refine db (aA (t:=(.int .i64)) rfl dw cm Uj) ?_;refine da (ak (t:=(.int .i64)) rfl cm rfl) ?_;refine dm ?_;refine dm ?_;obtain⟨UO,Ui,h⟩:=aa h;refine db (aA (t:=(.int .i64)) rfl dw cm Ui) ?_;refine da (ak (t:=(.int .i64)) rfl cm rfl) ?_;obtain⟨U0,Ux,h⟩:=aa h;refine m6 1 rfl rfl rfl rfl (ap [.tmp 111,.tmp 112,.tmp 116,.tmp 120] rfl rfl SR rfl (xN k E D UP UO U0 Ux)) ⟨rfl,rfl,rfl,rfl,trivial⟩ ?_;refine dm ?_;refine da (cE rfl rfl) ?_;refine da (cE rfl rfl) ?_;refine da (cE rfl rfl) ?_;refine da (dV rfl) ?_;refine da (dV rfl) ?_;refine df cp ?_;refine aq (nt (ae ?_));refine bz ?_;refine dm ?_;refine dm ?_;obtain⟨UN,Uh,h⟩:=aa h;refine db (aA (t:=av) rfl QU dj Uh) ?_;refine da (ak (t:=av) rfl dj rfl) ?_;refine dm ?_;refine dm ?_;obtain⟨UM,Ug,h⟩:=aa h;refine db (aA (t:=(.slice (.slice (.int .i64)))) rfl L1 qn Ug) ?_;refine da (ak (t:=(.slice (.slice (.int .i64)))) rfl qn rfl) ?_;refine dm ?_;refine dm ?_;obtain⟨UL,Uf,h⟩:=aa h;refine db (aA (t:=(.int .i64)) rfl dw cm Uf) ?_;refine da (ak (t:=(.int .i64)) rfl cm rfl) ?_;refine dm ?_;refine dm ?_;obtain⟨UK,Ue,h⟩:=aa h;refine db (aA (t:=(.int .i64)) rfl dw cm Ue) ?_;refine da (ak (t:=(.int .i64)) rfl cm rfl) ?_;obtain⟨UZ,Uw,h⟩:=aa h;refine dt rfl rfl rfl (ap [.tmp 129,.tmp 133,.tmp 137,.tmp 141] rfl rfl SQ rfl (xY k UN UM UL UK UZ Uw)) ⟨rfl,rfl,rfl,rfl,trivial⟩ ?_;refine dm ?_;refine da (cE rfl rfl) ?_;refine da (cE rfl rfl) ?_;refine da (cE rfl rfl) ?_;refine da (dV rfl) ?_;refine da (dV rfl) ?_;refine df cp ?_;refine aq (nt ?_);refine aN (Z:=Unit) (α:=Bool) (fun M F=>[(14,Rs av c.1),(15,.rep (.slice (.slice (.slice (.int .i64)))) c.2.1),(16,Ri [a4,u.1,a4,l.1]),(17,Ri [a3,j.1,a3,x.1]),(18,I y),(187,.eq (.bool F))]) (fun M F=>[.inv 0 (iI)]) h (fun K h=>?_) (fun M F h=>?_)
     ·refine bz ?_;refine dm ?_;refine dm ?_;refine db (fL rfl) ?_;refine jH rfl rfl rfl (aH rfl) ⟨rfl,trivial⟩ (fun hb=>?_) (fun hb=>?_)
      ·replace h:=cF (HD hb) h;iterate 4 refine dg ?_
       refine db (dJ rfl) ?_;refine dm ?_;iterate 3 refine dg ?_
       refine db (dJ rfl) ?_;refine dm ?_;iterate 3 refine dg ?_
       refine db (dJ rfl) ?_;refine dm ?_;iterate 3 refine dg ?_
       refine db (dJ rfl) ?_;refine dm ?_;iterate 7 refine dg ?_
       refine db (dJ rfl) ?_;refine dm ?_;iterate 5 refine dg ?_
       refine df cp ?_;iterate 2 refine gn ?_
       refine pt (nl ?_);exact jz ((),true) h [1]
      ·replace h:=bN (vx hb) h;refine aR rfl rfl rfl rfl rfl (aH rfl) ⟨rfl,rfl,trivial⟩ ?_;refine aR rfl rfl rfl rfl rfl (aH rfl) ⟨rfl,rfl,trivial⟩ ?_;obtain⟨UY,Uu,h⟩:=aa h;refine aR rfl rfl rfl rfl rfl (ap [.tmp 150,.tmp 151] rfl rfl KT rfl (i8 k ac.1 Y.1 UY Uu)) ⟨rfl,rfl,rfl,trivial⟩ ?_;refine aR rfl rfl rfl rfl rfl (dT rfl) ⟨rfl,rfl,trivial⟩ ?_;refine db (kg rfl) ?_;refine jH rfl rfl rfl (aH rfl) ⟨rfl,trivial⟩ (fun hb=>?_) (fun hb=>?_)
       ·replace h:=cF (BU hb) h;iterate 3 refine dg ?_
        refine db (dJ rfl) ?_;refine dm ?_;iterate 3 refine dg ?_
        refine db (dJ rfl) ?_;refine dm ?_;iterate 3 refine dg ?_
        refine db (dJ rfl) ?_;refine dm ?_;iterate 7 refine dg ?_
        refine db (dJ rfl) ?_;refine dm ?_;iterate 5 refine dg ?_
        refine df cp ?_;iterate 2 refine gn ?_
        refine pt (nl ?_);exact jz ((),true) h [1]
       ·replace h:=bN (vq hb) h;refine aR rfl rfl rfl rfl rfl (aH rfl) ⟨rfl,rfl,trivial⟩ ?_;refine aR rfl rfl rfl rfl rfl (aH rfl) ⟨rfl,rfl,trivial⟩ ?_;refine aR rfl rfl rfl rfl rfl (fL rfl) ⟨rfl,rfl,rfl,trivial⟩ ?_;refine db (kg rfl) ?_;refine jH rfl rfl rfl (aH rfl) ⟨rfl,trivial⟩ (fun hb=>?_) (fun hb=>?_)
        ·replace h:=cF (HD hb) h;iterate 3 refine dg ?_
         refine db (dJ rfl) ?_;refine dm ?_;iterate 3 refine dg ?_
         refine db (dJ rfl) ?_;refine dm ?_;iterate 7 refine dg ?_
         refine db (dJ rfl) ?_;refine dm ?_;iterate 5 refine dg ?_
         refine df cp ?_;iterate 2 refine gn ?_
         refine pt (nl ?_);exact jz ((),true) h [1]
        ·replace h:=bN (vx hb) h;refine aR rfl rfl rfl rfl rfl (aH rfl) ⟨rfl,rfl,trivial⟩ ?_;refine aR rfl rfl rfl rfl rfl (aH rfl) ⟨rfl,rfl,trivial⟩ ?_;refine aR rfl rfl rfl rfl rfl (fL rfl) ⟨rfl,rfl,rfl,trivial⟩ ?_;refine db (kg rfl) ?_;refine jH rfl rfl rfl (aH rfl) ⟨rfl,trivial⟩ (fun hb=>?_) (fun hb=>?_)
         ·replace h:=cF (HD hb) h;iterate 3 refine dg ?_
          refine db (dJ rfl) ?_;refine dm ?_;iterate 7 refine dg ?_
          refine db (dJ rfl) ?_;refine dm ?_;iterate 5 refine dg ?_
          refine df cp ?_;iterate 2 refine gn ?_
          refine pt (nl ?_);exact jz ((),true) h [1]
         ·replace h:=bN (vx hb) h;refine aR rfl rfl rfl rfl rfl (aH rfl) ⟨rfl,rfl,trivial⟩ ?_;refine aR rfl rfl rfl rfl rfl (aH rfl) ⟨rfl,rfl,trivial⟩ ?_;refine aR rfl rfl rfl rfl rfl (fL rfl) ⟨rfl,rfl,rfl,trivial⟩ ?_;refine db (kg rfl) ?_;refine jH rfl rfl rfl (aH rfl) ⟨rfl,trivial⟩ (fun hb=>?_) (fun hb=>?_)
          ·replace h:=cF (HD hb) h;iterate 7 refine dg ?_
           refine db (dJ rfl) ?_;refine dm ?_;iterate 5 refine dg ?_
           refine df cp ?_;iterate 2 refine gn ?_
           refine pt (nl ?_);exact jz ((),true) h [1]
          ·replace h:=bN (vx hb) h;refine jG 0 rfl rfl rfl rfl rfl rfl (aj rfl dj (tw) rfl) ⟨rfl,rfl,trivial⟩ ?_;refine aR rfl rfl rfl rfl rfl (aH rfl) ⟨rfl,rfl,trivial⟩ ?_;refine aR rfl rfl rfl rfl rfl (aH rfl) ⟨rfl,rfl,trivial⟩ ?_;obtain⟨UJ,Ud,h⟩:=aa h;refine aR rfl rfl rfl rfl rfl (aA (t:=av) rfl QU dj Ud) ⟨rfl,rfl,rfl,trivial⟩ ?_;refine aR rfl rfl rfl rfl rfl (ak (t:=av) rfl dj rfl) ⟨rfl,rfl,trivial⟩ ?_;obtain⟨UX,Ut,h⟩:=aa h;refine aR rfl rfl rfl rfl rfl (ap [.tmp 171,.tmp 175] rfl rfl SZ rfl (tC k E UJ UX Ut)) ⟨rfl,rfl,rfl,trivial⟩ ?_;refine aR rfl rfl rfl rfl rfl (dT rfl) ⟨rfl,rfl,trivial⟩ ?_;refine db (kg rfl) ?_;refine jH rfl rfl rfl (aH rfl) ⟨rfl,trivial⟩ (fun hb=>?_) (fun hb=>?_)
           ·replace h:=cF (BU hb) h;iterate 5 refine dg ?_
            refine df cp ?_;iterate 2 refine gn ?_
            refine pt (nl ?_);exact jz ((),true) h [1]
           ·replace h:=bN (vq hb) h;refine aR rfl rfl rfl rfl rfl (aH rfl) ⟨rfl,rfl,trivial⟩ ?_;refine aR rfl rfl rfl rfl rfl (aH rfl) ⟨rfl,rfl,trivial⟩ ?_;refine aR rfl rfl rfl rfl rfl (aH rfl) ⟨rfl,rfl,trivial⟩ ?_;obtain⟨UI,se,h⟩:=aa h;refine aR rfl rfl rfl rfl rfl (aA (t:=(.slice (.slice (.int .i64)))) rfl L1 qn se) ⟨rfl,rfl,rfl,trivial⟩ ?_;refine aR rfl rfl rfl rfl rfl (ak (t:=(.slice (.slice (.int .i64)))) rfl qn rfl) ⟨rfl,rfl,trivial⟩ ?_;refine df cp ?_;obtain⟨X,Us,h⟩:=aa h;refine gb (ap [.tmp 180,.tmp 184] rfl rfl KT rfl (i8 k D UI X Us)) ?_;refine ga (dT rfl) ?_;refine pf (nl ?_);exact jz ((), !X) h [1]
     ·refine cv h (fun h=>?_) (fun h=>?_)
      ·refine sr (cq (nt (ay (br (bi (aV ?_))))));obtain rfl:=hR _ h;exact aL () [_] 1 ⟨rfl,trivial⟩ rfl
      ·refine aW (aM (tn (ab (mq ?_))));obtain⟨UH,qt,h⟩:=aa h;refine jb (bf rfl qt) ?_;refine aq (nl ?_);exact jz ((),UH) h [0]
    ·refine xa ?_;exact jz ((),()) h [0]
   ·refine sr ?_;obtain⟨UW,Ur,h⟩:=aa h;refine bY rfl rfl rfl (ia [] rfl rfl Qy rfl (qF k UW Ur)) trivial ?_;refine aq (nt (ay ?_));cases h;exact aL () [_] 1 ⟨rfl,trivial⟩ rfl
end Go.Proofs.YtghkncjelangeaaGreatDoor
