import Derived.Test.YtcnpijmfgfnpiaaGreatDoorFacts
set_option linter.unusedVariables false
set_option maxRecDepth 4000
set_option maxHeartbeats 1000000
namespace Go.Proofs.YtcnpijmfgfnpiaaGreatDoor
open K Go Go.Proofs
def dQ(k:Nat)(a0:Int)(a1:Int)(a2:Int):Option Bool:=
 ((if a1≤a0 then(some (decide (a0≤a2))) else(some false)):Option (Bool)).bind fun x1=>
 some x1
theorem eD(k:Nat)(a0:Int)(a1:Int)(a2:Int)(r:Bool)(h:dQ k a0 a1 a2=some r):
 bW Tryz.prog 83 [I a0,I a1,I a2] [] (fun _:Unit=>(bp [.eq (.bool r)],[])):=by
 unfold dQ at h
 replace h:=ba h
 refine bW.of 15 Tryz.func83 rfl Tryz.ntmps83 rfl fun S w0=>?_
 refine sr ?_
 refine cq ?_
 refine nt ?_
 refine aP (Z:=Unit) (α:=Bool) (fun z2 x1=>[(6,.eq (.bool x1))]) (fun z2 x1=>[]) h (fun K h=>?_) (fun z2 x1 h=>?_)
 ·
  refine aa ?_;iterate 2 refine mq ?_
  refine jb (tV rfl) ?_;refine mq ?_;refine cd (s:=10) rfl (fun hb=>?_) (fun hb=>?_)
  ·replace h:=cK (od hb) h;refine gm ?_;refine gm ?_;refine gb (tV rfl) ?_;refine pt ?_;refine aq (nl ?_);exact jz ((),decide (a0≤a2)) h []
  ·replace h:=bR (nr hb) h;iterate 3 refine gn ?_
   refine pf ?_;refine aq (nl ?_);exact jz ((),false) h []
 ·
  refine aA ?_;cases h;exact ra
def cJ(k:Nat)(a0:aZ)(a1:ll):Nat→Int→Option (Except Int Unit)
 |0,_=>none
 |n+1,y6=>
  if y6 < (a1.2.length:Int) then((a8 a1.2 y6).bind fun x8=>
  (ck (a0.1 - 1)).bind fun x9=>
  (dQ k x8 0 x9).bind fun l=>
  if¬(l=true) then(some (.error 1)) else(((if 0 < y6 then((ck (y6 - 1)).bind fun h=>
  (a8 a1.2 h).bind fun e=>
  some (decide (x8≤e))) else(some false)):Option (Bool)).bind fun j=>
  if j=true then(some (.error 5)) else((ck (y6+1)).bind fun c=>
  cJ k a0 a1 n c))) else(some (.ok ()))
def hC(k:Nat)(a0:aZ)(a1:ll):Option Int:=
 (dQ k a1.1 1 3).bind fun r3=>
 if¬(r3=true) then(some 1) else(bE (α:=Unit) (cJ k a0 a1 k 0) (some) fun _=>
 some 0)
theorem qo(k:Nat)(a0:aZ)(a1:ll)(r:Int)(h:hC k a0 a1=some r):
 bW Tryz.prog 92 [.rep aD a0,.rep cF a1] [] (fun _:Unit=>(bp [I r],[])):=by
 unfold hC at h
 replace h:=ba h
 refine bW.of 38 Tryz.func92 rfl Tryz.ntmps92 rfl fun S w0=>?_
 refine sr ?_
 refine bx fun b1=>?_
 refine bx fun b2=>?_
 refine cq ?_
 refine nt ?_
 refine ah ?_
 refine sr ?_
 refine fl nZ ?_
 refine lo cI ?_
 obtain⟨r3,O,h⟩:=ab h
 have Q:=eD k a1.1 1 3 r3 O
 refine jc (ap [.tmp 8,.const (.int .i64 (1)),.const (.int .i64 (3))] rfl rfl yO rfl Q) ?_
 refine ja (dY rfl) ?_
 refine nt ?_
 refine cw h (fun h=>?_) (fun h=>?_)
 ·
  refine sr (cq (nt (rx ?_)));cases h;exact ra
 ·
  refine sk (dC (Z:=Unit) (α:=Unit) (fun z5 x4=>[]) (fun z5 x4=>[]) (fun e=>e=r) h (fun e h=>Option.some.inj h) (fun K hR h=>?_) (fun z5 x4 h=>?_))
  ·refine sr (fl pU ?_);refine lo cm ?_;refine ol dW ?_;refine eK rfl ?_;refine nt (aj (aE (fun z7 y6=>[(2,Pt b1),(3,Pt b2),(12,Ri a1.2),(13,I (a1.2.length:Int)),(14,I y6)]) (fun z7 y6=>[.obj b1 25 (.rep aD a0),.obj b2 27 (.rep cF a1)]) (cJ k a0 a1) k () 0 (fun _=>rfl) h (SE.fin [1,0] ⟨rfl,rfl,rfl,rfl,rfl,trivial⟩ rfl) (fun n z7 y6 h=>?_)));unfold cJ at h;refine sr (jb (bj rfl) ?_);refine nt (ah (ci h (fun h=>?_) (fun h=>?_)))
   ·refine sk (ah (aj (sr (mq ?_))));obtain⟨x8,M,h⟩:=ab h;refine jb (aF (t:=(.int .i64)) rfl dW cI M) ?_;refine ja (ak (t:=(.int .i64)) rfl cI rfl) ?_;refine aq ?_;refine aq (nt (ah (sr ?_)));refine mq ?_;refine fl lW ?_;refine lo cI ?_;obtain⟨x9,J,h⟩:=ab h;refine jb (fF rfl J) ?_;obtain⟨F,y,h⟩:=ab h;refine jc (ap [.tmp 19,.const (.int .i64 (0)),.tmp 22] rfl rfl yO rfl (eD k x8 0 x9 F y)) ?_;refine ja (dY rfl) ?_;refine nt (cw h (fun h=>?_) (fun h=>?_))
    ·refine sr (cq (nt (rx (br (aY (aO ?_))))));obtain rfl:=hR _ h;exact ra
    ·refine sk (aP (Z:=Unit) (α:=Bool) (fun j c=>[(2,Pt b1),(3,Pt b2),(12,Ri a1.2),(13,I (a1.2.length:Int)),(14,I y6),(36,.eq (.bool c))]) (fun j c=>[.obj b1 25 (.rep aD a0),.obj b2 27 (.rep cF a1)]) h (fun K h=>?_) (fun j c h=>?_))
     ·refine aa (mq ?_);refine jb (jM rfl) ?_;refine mq ?_;refine cd (s:=27) rfl (fun hb=>?_) (fun hb=>?_)
      ·replace h:=cK (od hb) h;refine gm ?_;refine ga (aw rfl pU) ?_;refine fr 1 ?_;refine l5 rfl rfl rfl rfl rfl rfl (an rfl cm mY rfl) ⟨rfl,trivial⟩ ?_;refine gm ?_;obtain⟨U,x,h⟩:=ab h;refine gb (fF rfl x) ?_;obtain⟨E,u,h⟩:=ab h;refine gb (aF (t:=(.int .i64)) rfl dW cI u) ?_;refine ga (ak (t:=(.int .i64)) rfl cI rfl) ?_;refine gb (tV rfl) ?_;refine pt (nl ?_);exact jz ((),decide (x8≤E)) h [1,0]
      ·replace h:=bR (nr hb) h;iterate 8 refine gn ?_
       refine pf (nl ?_);exact jz ((),false) h [0,1]
     ·refine cv h (fun h=>?_) (fun h=>?_)
      ·refine sr (cq (nt (aA (br (aY (aO ?_))))));obtain rfl:=hR _ h;exact ra
      ·refine aS (aN (tn (aa ?_)));obtain⟨D,l,h⟩:=ab h;refine jb (a9 rfl l) ?_;refine mq (nl ?_);exact jz ((),D) h [0,1]
   ·refine xa ?_;exact jz ((),()) h []
  ·refine sr (cq (nt (aA ?_)));cases h;exact ra
def fj(k:Nat)(a0:aZ):Nat→Int→Option (Except Int Unit)
 |0,_=>none
 |n+1,y5=>
  if y5 < (a0.2.1.length:Int) then((a8 a0.2.1 y5).bind fun x7=>
  (hC k a0 x7).bind fun r9=>
  if¬(r9=0) then(some (.error r9)) else((ck (y5+1)).bind fun c=>
  fj k a0 n c)) else(some (.ok ()))
def fi(k:Nat)(a0:aZ):Nat→Int→Option (Except Int Unit)
 |0,_=>none
 |n+1,c=>
  if c < (a0.2.2.length:Int) then((a8 a0.2.2 c).bind fun h=>
  (dQ k h 0 9).bind fun j=>
  if¬(j=true) then(some (.error 1)) else((ck (c+1)).bind fun e=>
  fi k a0 n e)) else(some (.ok ()))
def kB(k:Nat)(a0:aZ):Option Int:=
 (dQ k a0.1 1 6).bind fun r2=>
 if¬(r2=true) then(some 1) else(if 5 < (a0.2.1.length:Int) then(some 6) else(bE (α:=Unit) (fj k a0 k 0) (some) fun _=>
 if(a0.2.2.length:Int) < 1 then(some 7) else(if 3 < (a0.2.2.length:Int) then(some 6) else(bE (α:=Unit) (fi k a0 k 0) (some) fun _=>
 some 0))))
theorem qs(k:Nat)(a0:aZ)(r:Int)(h:kB k a0=some r):
 bW Tryz.prog 33 [.rep aD a0] [] (fun _:Unit=>(bp [I r],[])):=by
 unfold kB at h
 replace h:=ba h
 refine bW.of 51 Tryz.func33 rfl Tryz.ntmps33 rfl fun S w0=>?_
 refine sr ?_
 refine bx fun b1=>?_
 refine cq ?_
 refine nt ?_
 refine ah ?_
 refine sr ?_
 refine fl lW ?_
 refine lo cI ?_
 obtain⟨r2,U,h⟩:=ab h
 have X:=eD k a0.1 1 6 r2 U
 refine jc (ap [.tmp 10,.const (.int .i64 (1)),.const (.int .i64 (6))] rfl rfl yO rfl X) ?_
 refine ja (dY rfl) ?_
 refine nt ?_
 refine cw h (fun h=>?_) (fun h=>?_)
 ·
  refine sr (cq (nt (rx ?_)));cases h;exact ra
 ·
  refine sk (ah (sr (fl eA ?_)));refine lo kj ?_;refine ol sH ?_;refine jb (jM rfl) ?_;refine nt (ci h (fun h=>?_) (fun h=>?_))
  ·refine sr (cq (nt (rx ?_)));cases h;exact ra
  ·refine sk (dC (Z:=Unit) (α:=Unit) (fun z4 x3=>[(1,Pt b1)]) (fun z4 x3=>[.obj b1 25 (.rep aD a0)]) (fun e=>e=r) h (fun e h=>Option.some.inj h) (fun K hR h=>?_) (fun z4 x3 h=>?_))
   ·refine sr (fl eA ?_);refine lo kj ?_;refine ol sH ?_;refine eK rfl ?_;refine nt (aj (aE (fun z6 y5=>[(1,Pt b1),(18,Rs cF a0.2.1),(19,I (a0.2.1.length:Int)),(20,I y5)]) (fun z6 y5=>[.obj b1 25 (.rep aD a0)]) (fj k a0) k () 0 (fun _=>rfl) h (SE.fin [0] ⟨rfl,rfl,rfl,rfl,trivial⟩ rfl) (fun n z6 y5 h=>?_)));unfold fj at h;refine sr (jb (bj rfl) ?_);refine nt (ah (ci h (fun h=>?_) (fun h=>?_)))
    ·refine sk (ah (aj (sr ?_)));obtain⟨x7,O,h⟩:=ab h;refine jb (aF (t:=cF) rfl sH mP O) ?_;refine ja (ak (t:=cF) rfl mP rfl) ?_;refine aL rfl rfl rfl (bL rfl vU IO) trivial fun b8=>?_;refine bg rfl rfl (bb rfl mP rfl rfl rfl) ⟨rfl,rfl,trivial⟩ ?_;refine nt (sr (fr 1 ?_));refine lo hH ?_;refine fr 1 ?_;refine lo mP ?_;obtain⟨r9,Q,h⟩:=ab h;refine jb (ap [.tmp 24,.tmp 25] rfl rfl P3 rfl (qo k a0 x7 r9 Q)) ?_;refine aq (nt (sr ?_));refine mq ?_;refine jb (iS rfl) ?_;refine nt (cn h (fun h=>?_) (fun h=>?_))
     ·refine sr (mq ?_);refine aq (nt (aA (br (aY (aO ?_)))));obtain rfl:=hR _ h;exact ra
     ·refine aS (aN (tn (aa ?_)));obtain⟨J,y,h⟩:=ab h;refine jb (a9 rfl y) ?_;refine mq (nl ?_);exact jz ((),J) h [1]
    ·refine xa ?_;exact jz ((),()) h [0]
   ·refine ah (sr (fl fD ?_));refine lo cm ?_;refine ol dW ?_;refine aq (nt (aj (sr ?_)));refine mq ?_;refine jb (bj rfl) ?_;refine aq (nt ?_);refine ci h (fun h=>?_) (fun h=>?_)
    ·refine sr (cq (nt (aA (aY (aO ?_)))));cases h;exact ra
    ·refine sr (mq ?_);refine jb (jM rfl) ?_;refine aq (nt ?_);refine ci h (fun h=>?_) (fun h=>?_)
     ·refine sr (cq (nt (aA (aY (aO ?_)))));cases h;exact ra
     ·refine aS (aN (tn (dC (Z:=Unit) (α:=Unit) (fun l s=>[]) (fun l s=>[]) (fun e=>e=r) h (fun e h=>Option.some.inj h) (fun K hR h=>?_) (fun l s h=>?_))))
      ·refine sr (fl fD ?_);refine lo cm ?_;refine ol dW ?_;refine eK rfl ?_;refine nt (aj (aE (fun j c=>[(41,Ri a0.2.2),(42,I (a0.2.2.length:Int)),(43,I c)]) (fun j c=>[]) (fi k a0) k () 0 (fun _=>rfl) h (SE.fin [] ⟨rfl,rfl,rfl,trivial⟩ rfl) (fun n j c h=>?_)));unfold fi at h;refine sr (jb (bj rfl) ?_);refine nt (ah (ci h (fun h=>?_) (fun h=>?_)))
       ·refine sk (ah (aj (sr ?_)));obtain⟨F,x,h⟩:=ab h;refine jb (aF (t:=(.int .i64)) rfl dW cI x) ?_;refine ja (ak (t:=(.int .i64)) rfl cI rfl) ?_;refine aq (nt (sr ?_));refine mq ?_;obtain⟨M,D,h⟩:=ab h;refine jc (ap [.tmp 47,.const (.int .i64 (0)),.const (.int .i64 (9))] rfl rfl yO rfl (eD k F 0 9 M D)) ?_;refine ja (dY rfl) ?_;refine nt (cw h (fun h=>?_) (fun h=>?_))
        ·refine sr (cq (nt (aA (br (aY (aO ?_))))));obtain rfl:=hR _ h;exact ra
        ·refine aS (aN (tn (aa ?_)));obtain⟨E,u,h⟩:=ab h;refine jb (a9 rfl u) ?_;refine mq (nl ?_);exact jz ((),E) h []
       ·refine xa ?_;exact jz ((),()) h []
      ·refine sr (cq (nt (aA ?_)));cases h;exact ra
def eE(k:Nat)(a0:Int)(a1:Int):Option Bool:=
 (d4 (0≤a1)).bind fun _=>
 some (decide ((uT .u8 (gZ .u8 a0 a1) 1)=1))
theorem g8(k:Nat)(a0:Int)(a1:Int)(r:Bool)(h:eE k a0 a1=some r):
 bW Tryz.prog 87 [.eq (.int .u8 a0),I a1] [] (fun _:Unit=>(bp [.eq (.bool r)],[])):=by
 unfold eE at h
 replace h:=ba h
 refine bW.of 10 Tryz.func87 rfl Tryz.ntmps87 rfl fun S w0=>?_
 refine sr ?_
 refine cq ?_
 refine nt ?_
 refine sr ?_
 iterate 2 refine mq ?_
 obtain⟨u1,c,h⟩:=ab h
 refine jb (tQ rfl (aC c)) ?_
 refine jb (MR rfl) ?_
 refine jb (eY rfl) ?_
 refine aq ?_
 refine nt ?_
 refine aA ?_
 cases h
 exact ra
def d6(k:Nat)(a0:Int)(a1:Int):Option Int:=
 (d4 (0≤a1)).bind fun _=>
 some (A5 .u8 a0 (mD .u8 1 a1))
theorem iI(k:Nat)(a0:Int)(a1:Int)(r:Int)(h:d6 k a0 a1=some r):
 bW Tryz.prog 134 [.eq (.int .u8 a0),I a1] [] (fun _:Unit=>(bp [.eq (.int .u8 r)],[])):=by
 unfold d6 at h
 replace h:=ba h
 refine bW.of 9 Tryz.func134 rfl Tryz.ntmps134 rfl fun S w0=>?_
 refine sr ?_
 refine cq ?_
 refine nt ?_
 refine sr ?_
 iterate 2 refine mq ?_
 obtain⟨u1,c,h⟩:=ab h
 refine jb (ED rfl (aC c)) ?_
 refine jb (MP rfl) ?_
 refine aq ?_
 refine nt ?_
 refine aA ?_
 cases h
 exact ra
def fZ(k:Nat)(a0:aZ)(a1:(List Int)):Nat→(Int×Int)→Option Int
 |0,_=>none
 |n+1,y4=>
  if y4.2 < (a1.length:Int) then((a8 a1 y4.2).bind fun x6=>
  (a8 a0.2.1 x6).bind fun x7=>
  (ck (y4.1+x7.1)).bind fun x8=>
  (ck (y4.2+1)).bind fun x9=>
  fZ k a0 a1 n (x8,x9)) else(some y4.1)
def mg(k:Nat)(a0:aZ)(a1:(List Int)):Option Int:=
 ((fZ k a0 a1 k (0,0)):Option (Int)).bind fun x2=>
 some x2
theorem sx(k:Nat)(a0:aZ)(a1:(List Int))(r:Int)(h:mg k a0 a1=some r):
 bW Tryz.prog 135 [.rep aD a0,Ri a1] [] (fun _:Unit=>(bp [I r],[])):=by
 unfold mg at h
 replace h:=ba h
 refine bW.of 24 Tryz.func135 rfl Tryz.ntmps135 rfl fun S w0=>?_
 refine sr ?_
 refine bx fun b1=>?_
 refine cq ?_
 refine nt ?_
 refine sr ?_
 refine cq ?_
 refine nt ?_
 refine aP (Z:=Unit) (α:=Int) (fun z3 x2=>[(5,I x2)]) (fun z3 x2=>[]) h (fun K h=>?_) (fun z3 x2 h=>?_)
 ·
  refine sr (mq ?_);refine ol dW ?_;refine eK rfl ?_;refine nt (aj (aE (fun z5 y4=>[(2,Pt b1),(5,I y4.1),(8,Ri a1),(9,I (a1.length:Int)),(10,I y4.2)]) (fun z5 y4=>[.obj b1 25 (.rep aD a0)]) (fZ k a0 a1) k () (0,0) (fun _=>rfl) h (SE.fin [0] ⟨rfl,rfl,rfl,rfl,rfl,trivial⟩ rfl) (fun n z5 y4 h=>?_)));unfold fZ at h;refine sr (jb (bj rfl) ?_);refine nt (ah (ci h (fun h=>?_) (fun h=>?_)))
  ·refine sk (ah (aj (sr ?_)));obtain⟨x6,l,h⟩:=ab h;refine jb (aF (t:=(.int .i64)) rfl dW cI l) ?_;refine ja (ak (t:=(.int .i64)) rfl cI rfl) ?_;refine aq (nt (aa ?_));refine mq ?_;refine fl eA ?_;refine lo kj ?_;refine mq ?_;obtain⟨x7,j,h⟩:=ab h;refine jb (aF (t:=cF) rfl sH mP j) ?_;refine ja (aI 1 false rfl nZ rfl) ?_;refine ja (ak (t:=(.int .i64)) rfl cI rfl) ?_;obtain⟨x8,e,h⟩:=ab h;refine jb (a9 rfl e) ?_;refine aq (ar (aN (tn (aa ?_))));obtain⟨x9,c,h⟩:=ab h;refine jb (a9 rfl c) ?_;refine mq (nl ?_);exact jz ((),(x8,x9)) h [0]
  ·refine xa ?_;exact jz ((),y4.1) h []
 ·
  refine sr (mq ?_);refine aq (nt (aA ?_));cases h;exact ra
def d5(k:Nat)(a0:aZ)(x8:(List Int)):Nat→(Int×Int)→Option (Except Value Int)
 |0,_=>none
 |n+1,c=>
  if c.2 < (x8.length:Int) then((a8 x8 c.2).bind fun e=>
  (ck ((a0.2.1.length:Int) - 1)).bind fun j=>
  (dQ k e 0 j).bind fun s=>
  if¬(s=true) then(some (.error (.iface 118 (.agg #[.int .i64 3])))) else((eE k c.1 e).bind fun r=>
  if r=true then(some (.error (.iface 118 (.agg #[.int .i64 4])))) else((d6 k c.1 e).bind fun l=>
  (ck (c.2+1)).bind fun h=>
  d5 k a0 x8 n (l,h)))) else(some (.ok c.1))
def fh(k:Nat)(a0:aZ)(a1:(List (List Int))):Nat→(Int×Int)→Option (Except Value Int)
 |0,_=>none
 |n+1,y4=>
  if y4.2 < (a1.length:Int) then(bE (α:=Int) ((a8 a1 y4.2).bind fun x8=>
  bE (α:=Int) (d5 k a0 x8 k (y4.1,0)) (fun e=>some (.error e)) fun x9=>
  (mg k a0 x8).bind fun j=>
  (a8 a0.2.2 y4.2).bind fun h=>
  if h < j then(some (.error (.iface 118 (.agg #[.int .i64 12])))) else(some (.ok x9))) (fun e=>some (.error e)) fun x6=>
  (ck (y4.2+1)).bind fun c=>
  fh k a0 a1 n (x6,c)) else(some (.ok y4.1))
def kA(k:Nat)(a0:aZ)(a1:(List (List Int))):Option Value:=
 if(a1.length:Int) < (a0.2.2.length:Int) then(some (.iface 118 (.agg #[.int .i64 7]))) else(if(a0.2.2.length:Int) < (a1.length:Int) then(some (.iface 118 (.agg #[.int .i64 6]))) else(bE (α:=Int) (fh k a0 a1 k (0,0)) (some) fun x2=>
 (d4 (0≤(a0.2.1.length:Int))).bind fun _=>
 if¬(x2=(IntKind.u8.wrap ((mD .u8 1 (a0.2.1.length:Int)) - 1))) then(some (.iface 118 (.agg #[.int .i64 7]))) else(some (.nilIface))))
theorem qj(k:Nat)(a0:aZ)(a1:(List (List Int)))(r:Value)(h:kA k a0 a1=some r):
 bW Tryz.prog 94 [.rep aD a0,.rep (.slice (.slice (.int .i64))) a1] [] (fun _:Unit=>(bp [.eq r],[])):=by
 unfold kA at h
 replace h:=ba h
 refine bW.of 80 Tryz.func94 rfl Tryz.ntmps94 rfl fun S w0=>?_
 refine sr ?_
 refine bx fun b1=>?_
 refine cq ?_
 refine nt ?_
 refine ah ?_
 refine sr ?_
 refine fl fD ?_
 refine lo cm ?_
 refine ol dW ?_
 refine aq ?_
 refine nt ?_
 refine aj ?_
 refine sr ?_
 refine mq ?_
 refine ol lP ?_
 refine mq ?_
 refine jb (bj rfl) ?_
 refine aq ?_
 refine nt ?_
 refine ci h (fun h=>?_) (fun h=>?_)
 ·
  refine sr (ja (dt [(0,.const (.int .i64 (7)),_)] rfl vf ta so (je ⟨rfl,trivial⟩) rfl) ?_);refine ja (mo rfl Dk) ?_;refine aq (nt (aA (aY (aO ?_))));cases h;exact ra
 ·
  refine sr (mq ?_);refine ol lP ?_;refine mq ?_;refine jb (jM rfl) ?_;refine aq (nt ?_);refine ci h (fun h=>?_) (fun h=>?_)
  ·refine sr (ja (dt [(0,.const (.int .i64 (6)),_)] rfl vf ta so (je ⟨rfl,trivial⟩) rfl) ?_);refine ja (mo rfl Dk) ?_;refine aq (nt (aA (aY (aO ?_))));cases h;exact ra
  ·refine aS (aN (tn (sr (cq (nt ?_)))));refine dC (Z:=Unit) (α:=Int) (fun z3 x2=>[(2,Pt b1),(6,.eq (.int .u8 x2))]) (fun z3 x2=>[.obj b1 25 (.rep aD a0)]) (fun e=>e=r) h (fun e h=>Option.some.inj h) (fun K hR h=>?_) (fun z3 x2 h=>?_)
   ·refine sr (mq ?_);refine ol lP ?_;refine eK rfl ?_;refine nt (aj (aE (fun z5 y4=>[(2,Pt b1),(6,.eq (.int .u8 y4.1)),(28,.rep (.slice (.slice (.int .i64))) a1),(29,I (a1.length:Int)),(30,I y4.2)]) (fun z5 y4=>[.obj b1 25 (.rep aD a0)]) (fh k a0 a1) k () (0,0) (fun _=>rfl) h (SE.fin [0] ⟨rfl,rfl,rfl,rfl,rfl,trivial⟩ rfl) (fun n z5 y4 h=>?_)));unfold fh at h;refine sr (jb (bj rfl) ?_);refine nt (ah (ci h (fun h=>?_) (fun h=>?_)))
    ·refine sk (dC (Z:=Unit) (α:=Int) (fun z7 x6=>[(2,Pt b1),(6,.eq (.int .u8 x6)),(28,.rep (.slice (.slice (.int .i64))) a1),(29,I (a1.length:Int)),(30,I y4.2)]) (fun z7 x6=>[.obj b1 25 (.rep aD a0)]) (fun e=>e=r) h (fun e h=>hR e h) (fun K hR h=>?_) (fun z7 x6 h=>?_))
     ·refine aj (sr (mq ?_));obtain⟨x8,se,h⟩:=ab h;refine jb (aF (t:=(.slice (.int .i64))) rfl lP cm se) ?_;refine ja (ak (t:=(.slice (.int .i64))) rfl cm rfl) ?_;refine aq ?_;refine aq (nt ?_);refine dC (Z:=Unit) (α:=Int) (fun s x9=>[(2,Pt b1),(6,.eq (.int .u8 x9)),(7,I y4.2),(8,Ri x8),(28,.rep (.slice (.slice (.int .i64))) a1),(29,I (a1.length:Int)),(30,I y4.2)]) (fun s x9=>[.obj b1 25 (.rep aD a0)]) (fun e=>e=r) h (fun e h=>hR e h) (fun K hR h=>?_) (fun s x9 h=>?_)
      ·refine sr (mq ?_);refine ol dW ?_;refine eK rfl ?_;refine nt (aj (aE (fun l c=>[(2,Pt b1),(6,.eq (.int .u8 c.1)),(7,I y4.2),(8,Ri x8),(28,.rep (.slice (.slice (.int .i64))) a1),(29,I (a1.length:Int)),(30,I y4.2),(35,Ri x8),(36,I (x8.length:Int)),(37,I c.2)]) (fun l c=>[.obj b1 25 (.rep aD a0)]) (d5 k a0 x8) k () (y4.1,0) (fun _=>rfl) h (SE.fin [0] ⟨rfl,rfl,rfl,rfl,rfl,rfl,rfl,rfl,rfl,rfl,trivial⟩ rfl) (fun n l c h=>?_)));unfold d5 at h;refine sr (jb (bj rfl) ?_);refine nt (ah (ci h (fun h=>?_) (fun h=>?_)))
       ·refine sk (ah (aj (sr ?_)));obtain⟨j,F,h⟩:=ab h;refine jb (aF (t:=(.int .i64)) rfl dW cI F) ?_;refine ja (ak (t:=(.int .i64)) rfl cI rfl) ?_;refine aq (nt (ah (sr ?_)));refine mq ?_;refine fl eA ?_;refine lo kj ?_;refine ol sH ?_;obtain⟨ac,E,h⟩:=ab h;refine jb (fF rfl E) ?_;obtain⟨qt,U,h⟩:=ab h;refine jc (ap [.tmp 41,.const (.int .i64 (0)),.tmp 45] rfl rfl yO rfl (eD k j 0 ac qt U)) ?_;refine ja (dY rfl) ?_;refine nt (cw h (fun h=>?_) (fun h=>?_))
        ·refine sr (ja (dt [(0,.const (.int .i64 (3)),_)] rfl vf ta so (je ⟨rfl,trivial⟩) rfl) ?_);refine ja (mo rfl Dk) ?_;refine aq (nt (rx (br (aY (aO (br (aY (aO ?_))))))));obtain rfl:=hR _ h;exact ra
        ·refine sk (ah (sr ?_));iterate 2 refine mq ?_
         obtain⟨pp,Q,h⟩:=ab h;refine jb (ap [.tmp 50,.tmp 51] rfl rfl Iw rfl (g8 k c.1 j pp Q)) ?_;refine nt (cv h (fun h=>?_) (fun h=>?_))
         ·refine sr (ja (dt [(0,.const (.int .i64 (4)),_)] rfl vf ta so (je ⟨rfl,trivial⟩) rfl) ?_);refine ja (mo rfl Dk) ?_;refine aq (nt (rx (br (aY (aO (br (aY (aO ?_))))))));obtain rfl:=hR _ h;exact ra
         ·refine sk (aa ?_);iterate 2 refine mq ?_
          obtain⟨u,O,h⟩:=ab h;refine jb (ap [.tmp 55,.tmp 56] rfl rfl Bg rfl (iI k c.1 j u O)) ?_;refine aq (ar (aN (tn (aa ?_))));obtain⟨Y,D,h⟩:=ab h;refine jb (a9 rfl D) ?_;refine mq (nl ?_);exact jz ((),(u,Y)) h [0]
       ·refine xa ?_;exact jz ((),c.1) h [0]
      ·refine ah (bX ?_);refine ea 0 (an rfl hH (uA) rfl) ?_;refine dm ?_;obtain⟨mc,M,h⟩:=ab h;refine db (ap [.tmp 59,.tmp 60] rfl rfl Jw rfl (sx k a0 x8 mc M)) ?_;refine da (aw rfl fD) ?_;refine ea 0 (an rfl cm mY rfl) ?_;refine dm ?_;obtain⟨QO,y,h⟩:=ab h;refine db (aF (t:=(.int .i64)) rfl dW cI y) ?_;refine da (ak (t:=(.int .i64)) rfl cI rfl) ?_;refine df d3 ?_;refine jb (jM rfl) ?_;refine nt (ci h (fun h=>?_) (fun h=>?_))
       ·refine sr (ja (dt [(0,.const (.int .i64 (12)),_)] rfl vf ta so (je ⟨rfl,trivial⟩) rfl) ?_);refine ja (mo rfl Dk) ?_;refine aq (nt (aA (br (aY (aO ?_)))));obtain rfl:=hR _ h;exact ra
       ·refine aS (bn ?_);exact jz ((),x9) h [0]
     ·refine aa ?_;obtain⟨X,x,h⟩:=ab h;refine jb (a9 rfl x) ?_;refine mq (nl ?_);exact jz ((),(x6,X)) h [0]
    ·refine xa ?_;exact jz ((),y4.1) h [0]
   ·refine ah (sr (mq ?_));refine fl eA ?_;refine lo kj ?_;refine ol sH ?_;obtain⟨QP,J,h⟩:=ab h;refine jb (ED rfl (aC J)) ?_;refine jb (EC rfl) ?_;refine jb (iS rfl) ?_;refine nt (cn h (fun h=>?_) (fun h=>?_))
    ·refine sr (ja (dt [(0,.const (.int .i64 (7)),_)] rfl vf ta so (je ⟨rfl,trivial⟩) rfl) ?_);refine ja (mo rfl Dk) ?_;refine aq (nt (rx ?_));cases h;exact ra
    ·refine sk (sr (cq (nt (aA ?_))));cases h;exact ra
def cz(k:Nat)(a0:(List (List Int)))(y5:(List (List Int))×Int):Nat→((List (List Int))×Int)→Option (List (List Int))
 |0,_=>none
 |n+1,y9=>
  if y9.2 < 5 then((((d4 (0≤y5.2∧y5.2 < 3)).bind fun _=>
  (a8 y9.1 y5.2).bind fun c=>
  (d4 (0≤y9.2∧y9.2 < 5)).bind fun _=>
  ((if y5.2 < (a0.length:Int) then((a8 a0 y5.2).bind fun r=>
  some (decide (y9.2 < (r.length:Int)))) else(some false)):Option (Bool)).bind fun s=>
  if s=true then((a8 a0 y5.2).bind fun l=>
  (a8 l y9.2).bind fun j=>
  (d4 (0≤y5.2∧y5.2 < 3)).bind fun _=>
  (a8 (List.set y9.1 (Int.toNat y5.2) (List.set c (Int.toNat y9.2) (-1:Int))) y5.2).bind fun h=>
  (d4 (0≤y9.2∧y9.2 < 5)).bind fun _=>
  some (List.set (List.set y9.1 (Int.toNat y5.2) (List.set c (Int.toNat y9.2) (-1:Int))) (Int.toNat y5.2) (List.set h (Int.toNat y9.2) j))) else(some (List.set y9.1 (Int.toNat y5.2) (List.set c (Int.toNat y9.2) (-1:Int))))):Option ((List (List Int)))).bind fun u=>
  (ck (y9.2+1)).bind fun e=>
  cz k a0 y5 n (u,e)) else(some y9.1)
def cN(k:Nat)(a0:(List (List Int))):Nat→((List (List Int))×Int)→Option (List (List Int))
 |0,_=>none
 |n+1,y5=>
  if y5.2 < 3 then(((cz k a0 y5 k (y5.1,0)):Option ((List (List Int)))).bind fun x7=>
  (ck (y5.2+1)).bind fun c=>
  cN k a0 n (x7,c)) else(some y5.1)
def dE(k:Nat)(a0:(List (List Int))):Option (List (List Int)):=
 ((cN k a0 k ([[0,0,0,0,0],[0,0,0,0,0],[0,0,0,0,0]],0)):Option ((List (List Int)))).bind fun x3=>
 some x3
theorem eQ(k:Nat)(a0:(List (List Int)))(r:(List (List Int)))(h:dE k a0=some r):
 bW Tryz.prog 86 [.rep (.slice (.slice (.int .i64))) a0] [] (fun _:Unit=>(bp [.rep (.arr 3 (.arr 5 (.int .i64))) r],[])):=by
 unfold dE at h
 replace h:=ba h
 refine bW.of 43 Tryz.func86 rfl Tryz.ntmps86 rfl fun S w0=>?_
 refine sr ?_
 refine aL rfl rfl rfl (bL rfl l9 mJ) trivial fun b1=>?_
 refine nt ?_
 refine sr ?_
 refine aL rfl rfl rfl (bL rfl l9 mJ) trivial fun b2=>?_
 refine nt ?_
 refine aP (Z:=Unit) (α:=(List (List Int))) (fun z4 x3=>[(2,Pt b1),(3,Pt b2)]) (fun z4 x3=>[.obj b1 107 (.rep (.arr 3 (.arr 5 (.int .i64))) [[0,0,0,0,0],[0,0,0,0,0],[0,0,0,0,0]]),.obj b2 107 (.rep (.arr 3 (.arr 5 (.int .i64))) x3)]) h (fun K h=>?_) (fun z4 x3 h=>?_)
 ·
  refine sr (eK rfl ?_);refine nt (aj (aE (fun z6 y5=>[(0,.rep (.slice (.slice (.int .i64))) a0),(2,Pt b1),(3,Pt b2),(6,I y5.2)]) (fun z6 y5=>[.obj b1 107 (.rep (.arr 3 (.arr 5 (.int .i64))) [[0,0,0,0,0],[0,0,0,0,0],[0,0,0,0,0]]),.obj b2 107 (.rep (.arr 3 (.arr 5 (.int .i64))) y5.1)]) (cN k a0) k () ([[0,0,0,0,0],[0,0,0,0,0],[0,0,0,0,0]],0) (fun _=>rfl) h (SE.fin [1,0] ⟨rfl,rfl,rfl,rfl,trivial⟩ rfl) (fun n z6 y5 h=>?_)));unfold cN at h;refine sr (jb (bj rfl) ?_);refine nt (ah (ci h (fun h=>?_) (fun h=>?_)))
  ·refine sk (aP (Z:=Unit) (α:=(List (List Int))) (fun z8 x7=>[(0,.rep (.slice (.slice (.int .i64))) a0),(2,Pt b1),(3,Pt b2),(6,I y5.2)]) (fun z8 x7=>[.obj b1 107 (.rep (.arr 3 (.arr 5 (.int .i64))) [[0,0,0,0,0],[0,0,0,0,0],[0,0,0,0,0]]),.obj b2 107 (.rep (.arr 3 (.arr 5 (.int .i64))) x7)]) h (fun K h=>?_) (fun z8 x7 h=>?_))
   ·refine aj (sr (mq ?_));refine aq (nt (sr ?_));refine eK rfl ?_;refine nt (aj (aE (fun J y9=>[(0,.rep (.slice (.slice (.int .i64))) a0),(2,Pt b1),(3,Pt b2),(4,I y5.2),(6,I y5.2),(9,I y9.2)]) (fun J y9=>[.obj b1 107 (.rep (.arr 3 (.arr 5 (.int .i64))) [[0,0,0,0,0],[0,0,0,0,0],[0,0,0,0,0]]),.obj b2 107 (.rep (.arr 3 (.arr 5 (.int .i64))) y9.1)]) (cz k a0 y5) k () (y5.1,0) (fun _=>rfl) h (SE.fin [0,1] ⟨rfl,rfl,rfl,rfl,rfl,rfl,trivial⟩ rfl) (fun n J y9 h=>?_)));unfold cz at h;refine sr (jb (bj rfl) ?_);refine nt (ah (ci h (fun h=>?_) (fun h=>?_)))
    ·refine sk (aP (Z:=Unit) (α:=(List (List Int))) (fun F l=>[(0,.rep (.slice (.slice (.int .i64))) a0),(2,Pt b1),(3,Pt b2),(4,I y5.2),(6,I y5.2),(9,I y9.2)]) (fun F l=>[.obj b1 107 (.rep (.arr 3 (.arr 5 (.int .i64))) [[0,0,0,0,0],[0,0,0,0,0],[0,0,0,0,0]]),.obj b2 107 (.rep (.arr 3 (.arr 5 (.int .i64))) l)]) h (fun K h=>?_) (fun F l h=>?_))
     ·refine aj (sr (mq ?_));refine aq (nt (sr ?_));iterate 2 refine mq ?_
      obtain⟨QU,x,h⟩:=ab h;refine jb (ie rfl IU xJ (aC x).1 (aC x).2) ?_;obtain⟨D,ac,h⟩:=ab h;obtain⟨QT,e,h⟩:=ab h;refine jb (ie rfl IV cI (aC e).1 (aC e).2) ?_;refine fr 1 ?_;refine bg rfl rfl (mV (t:=(.int .i64)) (off:=0) (i:=y5.2) (j:=y9.2) (N:=3) (L:=5) rfl cI .int rfl rfl rfl rfl ac (aC e).1 (aC e).2 rfl) ⟨rfl,rfl,trivial⟩ ?_;refine nt (aP (Z:=Unit) (α:=Bool) (fun E y=>[(0,.rep (.slice (.slice (.int .i64))) a0),(2,Pt b1),(3,Pt b2),(4,I y5.2),(5,I y9.2),(6,I y5.2),(9,I y9.2),(28,.eq (.bool y))]) (fun E y=>[.obj b1 107 (.rep (.arr 3 (.arr 5 (.int .i64))) [[0,0,0,0,0],[0,0,0,0,0],[0,0,0,0,0]]),.obj b2 107 (.rep (.arr 3 (.arr 5 (.int .i64))) (List.set y9.1 (Int.toNat y5.2) (List.set D (Int.toNat y9.2) (-1:Int))))]) h (fun K h=>?_) (fun E y h=>?_))
      ·refine aa ?_;iterate 2 refine mq ?_
       refine ol lP ?_;refine jb (bj rfl) ?_;refine mq ?_;refine cd (s:=20) rfl (fun hb=>?_) (fun hb=>?_)
       ·replace h:=cK (od hb) h;refine gm ?_;refine gm ?_;refine gm ?_;obtain⟨QO,Y,h⟩:=ab h;refine gb (aF (t:=(.slice (.int .i64))) rfl lP cm Y) ?_;refine ga (ak (t:=(.slice (.int .i64))) rfl cm rfl) ?_;refine ga (k7 rfl rfl dW) ?_;refine gb (bj rfl) ?_;refine pt (nl ?_);exact jz ((),decide (y9.2 < (QO.length:Int))) h [1,0]
       ·replace h:=bR (nr hb) h;iterate 7 refine gn ?_
        refine pf (nl ?_);exact jz ((),false) h [1,0]
      ·refine cv h (fun h=>?_) (fun h=>?_)
       ·refine bX ?_;refine dm ?_;refine dm ?_;refine dm ?_;refine dm ?_;obtain⟨QP,X,h⟩:=ab h;refine db (aF (t:=(.slice (.int .i64))) rfl lP cm X) ?_;refine da (ak (t:=(.slice (.int .i64))) rfl cm rfl) ?_;refine dm ?_;obtain⟨se,U,h⟩:=ab h;refine db (aF (t:=(.int .i64)) rfl dW cI U) ?_;refine da (ak (t:=(.int .i64)) rfl cI rfl) ?_;obtain⟨QR,u,h⟩:=ab h;refine db (ie rfl IU xJ (aC u).1 (aC u).2) ?_;refine df d3 ?_;obtain⟨qt,Q,h⟩:=ab h;obtain⟨QQ,c,h⟩:=ab h;refine jb (ie rfl IV cI (aC c).1 (aC c).2) ?_;refine fr 1 ?_;refine bg rfl rfl (mV (t:=(.int .i64)) (off:=0) (i:=y5.2) (j:=y9.2) (N:=3) (L:=5) rfl cI .int rfl rfl rfl rfl Q (aC c).1 (aC c).2 rfl) ⟨rfl,rfl,trivial⟩ ?_;refine ar (bn ?_);exact jz ((),List.set (List.set y9.1 (Int.toNat y5.2) (List.set D (Int.toNat y9.2) (-1:Int))) (Int.toNat y5.2) (List.set qt (Int.toNat y9.2) se)) h [1,0]
       ·refine aS (bn ?_);exact jz ((),List.set y9.1 (Int.toNat y5.2) (List.set D (Int.toNat y9.2) (-1:Int))) h [0,1]
     ·refine aa ?_;obtain⟨pp,O,h⟩:=ab h;refine jb (a9 rfl O) ?_;refine mq (nl ?_);exact jz ((),(l,pp)) h [0,1]
    ·refine cZ (aJ (aJ (bH (bn ?_))));exact jz ((),y9.1) h [0,1]
   ·refine aa ?_;obtain⟨mc,M,h⟩:=ab h;refine jb (a9 rfl M) ?_;refine mq (nl ?_);exact jz ((),(x7,mc)) h [0,1]
  ·refine xa ?_;exact jz ((),y5.1) h [0,1]
 ·
  refine sr (fr 1 ?_);refine lo cP ?_;refine fr 1 ?_;refine bg rfl rfl (bb rfl cP rfl rfl rfl) ⟨rfl,rfl,trivial⟩ ?_;refine nt (aA ?_);obtain rfl:=Option.some.inj h;exact aM () [.rep (.arr 3 (.arr 5 (.int .i64))) x3] 0 ⟨⟨_,_,_,_,_,rfl,(.head _),cP,(uA),rfl⟩,trivial⟩ rfl
def cG(k:Nat)(x5:(List Int)):Nat→((List Int)×Int)→Option (List Int)
 |0,_=>none
 |n+1,y6=>
  if y6.2 < 5 then((((a8 x5 y6.2).bind fun c=>
  if 0≤c then((d4 (bS (List.length y6.1+List.length [c]))).bind fun _=>
  some (y6.1++[c])) else(some y6.1)):Option ((List Int))).bind fun x8=>
  (ck (y6.2+1)).bind fun e=>
  cG k x5 n (x8,e)) else(some y6.1)
def dz(k:Nat)(a0:(List (List Int)))(a1:Int):Option (List Int):=
 (((d4 (0≤a1∧a1 < 3)).bind fun _=>
 (a8 a0 a1).bind fun x5=>
 cG k x5 k (([]:(List Int)),0)):Option ((List Int))).bind fun x2=>
 some x2
theorem fL(k:Nat)(a0:(List (List Int)))(a1:Int)(r:(List Int))(h:dz k a0 a1=some r):
 bW Tryz.prog 110 [.rep (.arr 3 (.arr 5 (.int .i64))) a0,I a1] [] (fun _:Unit=>(bp [Ri r],[])):=by
 unfold dz at h
 replace h:=ba h
 refine bW.of 22 Tryz.func110 rfl Tryz.ntmps110 rfl fun S w0=>?_
 refine sr ?_
 refine bx fun b1=>?_
 refine cq ?_
 refine nt ?_
 refine sr ?_
 refine cq ?_
 refine nt ?_
 refine aP (Z:=Value) (α:=(List Int)) (fun z3 x2=>[(5,.eq z3)]) (fun z3 x2=>[.sl z3 3 (.int .i64) x2]) h (fun K h=>?_) (fun z3 x2 h=>?_)
 ·
  refine sr (mq ?_);obtain⟨u4,l,h⟩:=ab h;refine jb (ie rfl IU xJ (aC l).1 (aC l).2) ?_;obtain⟨x5,y,h⟩:=ab h;refine ka (zT (t:=(.arr 5 (.int .i64))) (off:=0) (i:=a1) (N:=3) rfl xJ (uA) rfl rfl rfl rfl y) ?_;refine eK rfl ?_;refine nt (aj (fG (SE.nil 3 (.int .i64)) ?_));refine aE (fun z7 y6=>[(5,.eq z7),(10,.rep (.arr 5 (.int .i64)) x5),(11,I y6.2)]) (fun z7 y6=>[.sl z7 3 (.int .i64) y6.1]) (cG k x5) k (.slice none 0 0) (([]:(List Int)),0) (fun _=>rfl) h (SE.fin [0] ⟨rfl,rfl,rfl,trivial⟩ rfl) (fun n z7 y6 h=>?_);unfold cG at h;refine sr (jb (bj rfl) ?_);refine nt (ah (ci h (fun h=>?_) (fun h=>?_)))
  ·refine sk (aP (Z:=Value) (α:=(List Int)) (fun z9 x8=>[(5,.eq z9),(10,.rep (.arr 5 (.int .i64)) x5),(11,I y6.2)]) (fun z9 x8=>[.sl z9 3 (.int .i64) x8]) h (fun K h=>?_) (fun z9 x8 h=>?_))
   ·refine aj (sr ?_);obtain⟨c,j,h⟩:=ab h;refine jb (ya (t:=(.int .i64)) rfl IV cI rfl rfl (fun _=>rfl) j) ?_;refine aq (nt (sr ?_));refine mq ?_;refine jb (ni rfl) ?_;refine nt (ci h (fun h=>?_) (fun h=>?_))
    ·refine aa ?_;iterate 2 refine mq ?_
     refine ja (bz (t:=(.int .i64)) [(.tmp 17,_)] [c] rfl rfl eh (.cons rfl .int .nil) rfl rfl) ?_;obtain⟨D,s,h⟩:=ab h;refine dV rfl rfl rfl (bY rfl rfl eh (aC s)) ⟨rfl,rfl,trivial⟩ fun x=>?_;refine aq (ar (bn ?_));exact jz (x,y6.1++[c]) h [0]
    ·refine aS (bn ?_);exact jz (z7,y6.1) h [0]
   ·refine aa ?_;obtain⟨u,e,h⟩:=ab h;refine jb (a9 rfl e) ?_;refine mq (nl ?_);exact jz (z9,(x8,u)) h [0]
  ·refine xa ?_;exact jz (z7,y6.1) h [0]
 ·
  refine sr (mq ?_);refine aq (nt (aA ?_));refine bM (gK [4,5,21] ⟨rfl,rfl,rfl,trivial⟩) ?_;cases h;exact ra
def cp{σ:Type}(k:Nat)(a1:(List Int))(Y:σ→(Int×Int)→Option (σ×Bool)):Nat→(Int×σ)→Option (σ)
 |0,_=>none
 |n+1,y2=>
  if 0≤y2.1 then((a8 a1 y2.1).bind fun x4=>
  (Y y2.2 (y2.1,x4)).bind fun r5=>
  if¬(r5.2=true) then(some r5.1) else((ck (y2.1 - 1)).bind fun x7=>
  cp k a1 Y n (x7,r5.1))) else(some y2.2)
def gg{σ:Type}(k:Nat)(Y:σ→(Int×Int)→Option (σ×Bool))(a1:(List Int))(s0:σ):Option (σ):=
 (ck ((a1.length:Int) - 1)).bind fun x1=>
 cp k a1 Y k (x1,s0)
theorem nn{M:Md Tryz.prog}{σ Z:Type}(E:Z→σ→List D)(l:Nat)(Y:σ→(Int×Int)→Option (σ×Bool))(k:Nat)(a1:(List Int))(c:Nat)(hY:∀z s p r,Y s p=some r→YT M l [I p.1,I p.2] (E z s) (fun z':Z=>(.eq (.bool r.2),E z' r.1))):
 ∀(z0:Z) (s0:σ) (r:σ),gg k Y a1 s0=some r→dn M 208 [.eq (.func (.yield l) #[] #[]),Pt c] ([.obj c 23 (Ri a1)]++E z0 s0) (fun z:Z=>(bp [],[.obj c 23 (Ri a1)]++E z r)):=by
 intro z0 s0 r h
 unfold gg at h
 replace h:=ba h
 refine dn.of 19 Tryz.func208 rfl Tryz.ntmps208 rfl fun S w0=>?_
 refine sr ?_
 refine lo cm ?_
 refine ol dW ?_
 obtain⟨x1,u,h⟩:=ab h
 refine jb (fF rfl u) ?_
 refine aq ?_
 refine nt ?_
 refine aj ?_
 refine aE (Z:=Z) (α:=Int×σ) (fun z3 y2=>[(0,.eq (.func (.yield l) #[] #[])),(1,Pt c),(3,I y2.1)]) (fun z3 y2=>[.obj c 23 (Ri a1)]++E z3 y2.2) (cp k a1 Y) k z0 (x1,s0) (fun _=>rfl) h (be [.obj c 23 (Ri a1)] (E z0 s0) [0] ⟨rfl,rfl,rfl,trivial⟩ rfl) (fun n z3 y2 h=>?_)
 unfold cp at h
 refine ah ?_
 refine sr ?_
 refine mq ?_
 refine jb (ni rfl) ?_
 refine nt ?_
 refine ci h (fun h=>?_) (fun h=>?_)
 ·
  refine sk (ah (aj (sr ?_)));iterate 2 refine mq ?_
  refine lo cm ?_;refine mq ?_;obtain⟨x4,j,h⟩:=ab h;refine jb (aF (t:=(.int .i64)) rfl dW cI j) ?_;refine ja (ak (t:=(.int .i64)) rfl cI rfl) ?_;obtain⟨r5,x,h⟩:=ab h;refine ou [.obj c 23 (Ri a1)] rfl rfl rfl (wj [.tmp 12,.tmp 16] rfl rfl rfl (hY z3 y2.2 (y2.1,x4) r5 x)) ⟨rfl,rfl,rfl,trivial⟩ fun z6=>?_;refine ja (dY rfl) ?_;refine nt (cw h (fun h=>?_) (fun h=>?_))
  ·refine aA (br (aY ?_));cases h;exact io z6 [] trivial rfl
  ·refine aS (aN (tn (aa (mq ?_))));obtain⟨x7,e,h⟩:=ab h;refine jb (fF rfl e) ?_;refine aq (nl ?_);exact iE (z6,(x7,r5.1)) h (be [.obj c 23 (Ri a1)] (E z6 r5.1) [0] ⟨rfl,rfl,rfl,trivial⟩ rfl)
 ·
  refine cZ (aJ (aJ (bH (iG ?_))));cases h;exact io z3 [] trivial rfl
theorem o5(a0:(List Int)):bW Tryz.prog 190 [Ri a0] [] (fun z:Nat=>(bp [.eq (.func (.func 208) #[] #[(Pv z)])],[.obj z 23 (Ri a0)])):=by
 refine bW.of 4 Tryz.func190 rfl Tryz.ntmps190 rfl fun S w0=>?_;refine sr (bx fun z=>?_);refine cq (nt (sr ?_));refine ja (rL [] [.tmp 1] [] [(Pv z)] rfl rfl rfl) ?_;refine aq (nt (aA ?_));exact aM z [_] 1 ⟨rfl,trivial⟩ rfl
def nD(k:Nat)(a0:(List Int)):Option (List Int):=
 (gg k (pm (fun(y3:(List Int)) (p5:(Int×Int))=>
  some ((p5.2::y3),true))) a0 ([],false)).bind fun r6=>
 if r6.2=true then(none) else(some r6.1)
theorem xB(k:Nat)(a0:(List Int))(r:(List Int))(h:nD k a0=some r):
 bW Tryz.prog 157 [Ri a0] [] (fun _:Unit=>(bp [.rep (.lst (.int .i64)) r],[])):=by
 unfold nD at h
 replace h:=ba h
 refine xe 15 Tryz.func157 rfl Tryz.ntmps157 rfl fun {M} S w0=>?_
 refine sr ?_
 refine cq ?_
 refine nt ?_
 refine sr ?_
 refine aL rfl rfl rfl (bL rfl LU OE) trivial fun b1=>?_
 refine nt ?_
 refine ah ?_
 refine sr ?_
 refine mq ?_
 refine aL rfl rfl rfl (ap [.tmp 6] rfl rfl N5 rfl (o5 a0)) ⟨rfl,trivial⟩ fun b2=>?_
 refine nt ?_
 refine aj ?_
 refine iH 1 rfl ?_
 refine fG (oV (a:=.eq (.pointer none)) (a':=.rep (.lst (.int .i64)) []) (xg .lnil)) ?_
 refine iH 1 rfl ?_
 obtain⟨r6,c,h⟩:=ab h
 refine m8 (Δ:=[.obj b2 23 (Ri a0),.obj b1 216 (.rep (.lst (.int .i64)) [])]) (F:=[]) (X:=Unit) (J:=fun _=>H6 r6.2) (E:=fun z4=>[.obj b2 23 (Ri a0),.obj b1 216 (.rep (.lst (.int .i64)) r6.1)]) (r0:=fun _=>.tup .any) rfl rfl NY (fun rec hp ha hb hs hpe hN hv l=>?_) (fun dl z4=>pB (fun hj=>?_) (fun hj=>?_))
 ·
  rcases rec with⟨st0,pe0,fn0,tm0,ps0,as0,bd0,df0⟩;dsimp only at hp ha hb hs hpe hN hv;subst hp hs hpe;have vN:uo tm0 [(3,Pt b1)]:=⟨congrArg A.eq (hv 3 _ rfl).symm,trivial⟩;refine dn.pick (M:=M) [1,0,2] [1,0,2] (nn (fun(z4:Unit) (q:(List Int)×Bool)=>[.raw l (.loop (jg ⟨.ready,none,fn0,tm0, #[8,9],as0,bd0,df0⟩ (H6 q.2))),.obj b1 216 (.rep (.lst (.int .i64)) q.1)]) l (pm (fun(y3:(List Int)) (p5:(Int×Int))=>
  some ((p5.2::y3),true))) k a0 b2 (fun z4 q p r' h=>?_) () ([],false) r6 c) rfl (fun _=>rfl) (fun _=>rfl)
  obtain⟨rq,hq,h2,rfl⟩:=pC h;obtain⟨y3,b5⟩:=q;obtain rfl:b5=false:=hq;replace h:=ba h2;obtain⟨p5,hpv⟩:∃x,x=p:=⟨_,rfl⟩;subst hpv;refine YT.pick (R':=(fun z4:Unit=>(.eq (.bool rq.2),[.raw l (.loop (jg ⟨.ready,none,fn0,tm0, #[8,9],as0,bd0,df0⟩ (H6 (!rq.2)))),.obj b1 216 (.rep (.lst (.int .i64)) rq.1)]))) [0,1] [0,1] (IT ha hb (N:=15) (Γ:=[(3,Pt b1)]) rfl hN (by decide) vN (fun S w=>?_)) rfl (fun _=>rfl) (fun _=>rfl);refine aa (aq (nl ?_));refine uv rfl rfl ?_;refine aj (aa (mq ?_));refine fr 1 ?_;refine lo xH ?_;refine jb (dt [(0,.tmp 10,_),(1,.tmp 11,_)] rfl ML LS Ln (je ⟨rfl,rfl,trivial⟩) rfl) ?_;refine aL rfl rfl rfl (nj rfl trivial) ⟨rfl,trivial⟩ fun b7=>?_;refine cS (kH (t:=D6) (x:=(p5.2,y3)) [13] (.agg (.pair .int .rep)) ⟨rfl,trivial⟩) ?_;refine bg rfl rfl (bb rfl xH trivial rfl rfl) ⟨rfl,rfl,trivial⟩ ?_;refine ar (aN (bM (oV (a:=.at D6 (p5.2,y3)) (a':=.rep (.lst (.int .i64)) (p5.2::y3)) (xg .lcons)) ?_));refine dK 1 rfl ?_;cases h;exact su () 1 rfl
 ·
  replace h:=bR (BM hj) h;refine aN (tn (sr (fr 2 ?_)));refine lo xH ?_;refine aq (nt (aA ?_));refine dK 1 rfl ?_;refine xc ?_;cases h;exact ra
 ·
  replace h:=cK (BL hj) h;cases h
def f4(k:Nat)(a1:Int):Nat→(Int×(List Int)×(List Int)×(List Int))→Option (Int×(List Int))
 |0,_=>none
 |n+1,y2=>
  if List.isEmpty y2.2.2.2=true then((d4 (bS (List.length y2.2.2.1+List.length y2.2.1))).bind fun _=>
  some (y2.1,y2.2.2.1++y2.2.1)) else((nz y2.2.2.2).bind fun x6=>
  (eE k a1 x6.1).bind fun r7=>
  if r7=true then((nz y2.2.2.2).bind fun x8=>
  (d4 (bS (List.length y2.2.1+List.length [x8.1]))).bind fun _=>
  (nz y2.2.2.2).bind fun l=>
  f4 k a1 n (y2.1,y2.2.1++[x8.1],y2.2.2.1,l.2)) else(((if 0 < (y2.2.1.length:Int) then((nz y2.2.2.2).bind fun h=>
  (d6 k y2.1 h.1).bind fun r=>
  some r) else(some y2.1)):Option (Int)).bind fun j=>
  (nz y2.2.2.2).bind fun c=>
  (d4 (bS (List.length y2.2.2.1+List.length [c.1]))).bind fun _=>
  (nz y2.2.2.2).bind fun e=>
  f4 k a1 n (j,y2.2.1,y2.2.2.1++[c.1],e.2)))
def mh(k:Nat)(a0:(List Int))(a1:Int):Option (Int×(List Int)):=
 (nD k a0).bind fun r1=>
 f4 k a1 k (0,([]:(List Int)),([]:(List Int)),r1)
theorem sA(k:Nat)(a0:(List Int))(a1:Int)(r:Int×(List Int))(h:mh k a0 a1=some r):
 bW Tryz.prog 127 [Ri a0,.eq (.int .u8 a1)] [] (fun _:Unit=>(bp [.eq (.int .u8 r.1),Ri r.2],[])):=by
 unfold mh at h
 replace h:=ba h
 refine bW.of 54 Tryz.func127 rfl Tryz.ntmps127 rfl fun S w0=>?_
 refine sr ?_
 refine cq ?_
 refine cq ?_
 refine nt ?_
 refine Dv rfl (Bd (by kernel_rfl) (Bd (by kernel_rfl) (KQ KP))) ?_
 refine sr ?_
 refine cq ?_
 refine cq ?_
 refine nt ?_
 refine sr ?_
 refine mq ?_
 obtain⟨r1,mc,h⟩:=ab h
 have pp:=xB k a0 r1 mc
 refine ja (ap [.tmp 9] rfl rfl Oa rfl pp) ?_
 refine aq ?_
 refine nt ?_
 refine ah ?_
 refine GY ?_
 refine tn ?_
 refine fG (SE.nil 3 (.int .i64)) ?_
 refine fG (SE.nil 3 (.int .i64)) ?_
 refine AI (Z:=Value×Value) (α:=Int×(List Int)×(List Int)×(List Int)) rfl (fun z3 y2=>[(1,.eq (.int .u8 a1)),(4,.eq (.int .u8 y2.1)),(6,.eq z3.1),(7,.eq z3.2),(8,.rep (.lst (.int .i64)) y2.2.2.2)]) (fun z3 y2=>[.sl z3.1 3 (.int .i64) y2.2.1,.sl z3.2 3 (.int .i64) y2.2.2.1]) (f4 k a1) k ((.slice none 0 0),(.slice none 0 0)) (0,([]:(List Int)),([]:(List Int)),r1) (fun _=>rfl) h (SE.fin [1,0] ⟨rfl,rfl,rfl,rfl,rfl,trivial⟩ rfl) (fun n z3 y2 h=>?_)
 unfold f4 at h
 refine ah ?_
 refine sr ?_
 refine mq ?_
 refine jb (EK rfl Ql) ?_
 refine nt ?_
 refine cv h (fun h=>?_) (fun h=>?_)
 ·
  refine sr ?_;iterate 3 refine mq ?_
  refine cS (gK [6,15] ⟨rfl,rfl,trivial⟩) ?_;obtain⟨u4,Y,h⟩:=ab h;refine dV rfl rfl rfl (bY rfl rfl eh (aC Y)) ⟨rfl,rfl,trivial⟩ fun v5=>?_;refine aq ?_;refine aq (nt (rx ?_));refine GX ?_;refine bM (gK [5,16] ⟨rfl,rfl,trivial⟩) ?_;cases h;exact rb
 ·
  refine sk (ah (sr ?_));iterate 2 refine mq ?_
  obtain⟨x6,U,h⟩:=ab h;refine ja (kE rfl U) ?_;refine ja (aI 1 false rfl s5 rfl) ?_;refine ja (ak (t:=(.int .i64)) rfl cI rfl) ?_;obtain⟨r7,ac,h⟩:=ab h;refine jb (ap [.tmp 17,.tmp 21] rfl rfl Iw rfl (g8 k a1 x6.1 r7 ac)) ?_;refine nt (cv h (fun h=>?_) (fun h=>?_))
  ·refine sr ?_;iterate 2 refine mq ?_
   obtain⟨x8,Q,h⟩:=ab h;refine ja (kE rfl Q) ?_;refine ja (aI 1 false rfl s5 rfl) ?_;refine ja (ak (t:=(.int .i64)) rfl cI rfl) ?_;refine ja (bz (t:=(.int .i64)) [(.tmp 27,_)] [x8.1] rfl rfl eh (.cons rfl .int .nil) rfl rfl) ?_;obtain⟨u9,X,h⟩:=ab h;refine dV rfl rfl rfl (bY rfl rfl eh (aC X)) ⟨rfl,rfl,trivial⟩ fun O=>?_;refine aq (nt (sr ?_));refine mq ?_;obtain⟨J,y,h⟩:=ab h;refine ja (kE rfl y) ?_;refine ja (aI 1 false rfl Ba rfl) ?_;refine ja (ak (t:=(.lst (.int .i64))) rfl xH rfl) ?_;refine aq (nt ?_);refine Bz ?_;refine Du ?_;exact Bw ((O,z3.2),(y2.1,y2.2.1++[x8.1],y2.2.2.1,J.2)) h (SE.fin [0,1] ⟨rfl,rfl,rfl,rfl,rfl,trivial⟩ rfl)
  ·refine sk (aP (Z:=Unit) (α:=Int) (fun e c=>[(1,.eq (.int .u8 a1)),(4,.eq (.int .u8 c)),(6,.eq z3.1),(7,.eq z3.2),(8,.rep (.lst (.int .i64)) y2.2.2.2)]) (fun e c=>[.sl z3.1 3 (.int .i64) y2.2.1,.sl z3.2 3 (.int .i64) y2.2.2.1]) h (fun K h=>?_) (fun e c h=>?_))
   ·refine sr (mq ?_);refine ka (dj rfl rfl dW) ?_;refine jb (jM rfl) ?_;refine nt (ci h (fun h=>?_) (fun h=>?_))
    ·refine aa ?_;iterate 2 refine mq ?_
     obtain⟨I,x,h⟩:=ab h;refine ja (kE rfl x) ?_;refine ja (aI 1 false rfl s5 rfl) ?_;refine ja (ak (t:=(.int .i64)) rfl cI rfl) ?_;obtain⟨l,E,h⟩:=ab h;refine jb (ap [.tmp 37,.tmp 41] rfl rfl Bg rfl (iI k y2.1 I.1 l E)) ?_;refine aq (nl ?_);exact jz ((),l) h [0,1]
    ·refine aS (ae ?_);exact jz ((),y2.1) h [0,1]
   ·refine sr ?_;iterate 2 refine mq ?_
    obtain⟨j,u,h⟩:=ab h;refine ja (kE rfl u) ?_;refine ja (aI 1 false rfl s5 rfl) ?_;refine ja (ak (t:=(.int .i64)) rfl cI rfl) ?_;refine ja (bz (t:=(.int .i64)) [(.tmp 47,_)] [j.1] rfl rfl eh (.cons rfl .int .nil) rfl rfl) ?_;obtain⟨qt,D,h⟩:=ab h;refine fr 1 ?_;refine dV rfl rfl rfl (bY rfl rfl eh (aC D)) ⟨rfl,rfl,trivial⟩ fun M=>?_;refine aq (nt (sr ?_));refine mq ?_;obtain⟨F,s,h⟩:=ab h;refine ja (kE rfl s) ?_;refine ja (aI 1 false rfl Ba rfl) ?_;refine ja (ak (t:=(.lst (.int .i64))) rfl xH rfl) ?_;refine aq (nt ?_);refine Bz ?_;exact Bw ((z3.1,M),(c,y2.2.1,y2.2.2.1++[j.1],F.2)) h (SE.fin [1,0] ⟨rfl,rfl,rfl,rfl,rfl,trivial⟩ rfl)
def cT(k:Nat)(a0:(List Int))(a1:Int):Nat→Int→Option (Except Int Unit)
 |0,_=>none
 |n+1,y3=>
  if y3 < (a0.length:Int) then((a8 a0 y3).bind fun x5=>
  if a1=x5 then(some (.error y3)) else((ck (y3+1)).bind fun x6=>
  cT k a0 a1 n x6)) else(some (.ok ()))
def iy(k:Nat)(a0:(List Int))(a1:Int):Option Int:=
 bE (α:=Unit) (cT k a0 a1 k 0) (some) fun _=>
 some (-1:Int)
theorem rE(k:Nat)(a0:(List Int))(a1:Int)(r:Int)(h:iy k a0 a1=some r):
 bW Tryz.prog 123 [Ri a0,I a1] [] (fun _:Unit=>(bp [I r],[])):=by
 unfold iy at h
 replace h:=ba h
 refine bW.of 19 Tryz.func123 rfl Tryz.ntmps123 rfl fun S w0=>?_
 refine sr ?_
 refine cq ?_
 refine nt ?_
 refine dC (Z:=Unit) (α:=Unit) (fun z2 x1=>[]) (fun z2 x1=>[]) (fun e=>e=r) h (fun e h=>Option.some.inj h) (fun K hR h=>?_) (fun z2 x1 h=>?_)
 ·
  refine sr (mq ?_);refine ol dW ?_;refine eK rfl ?_;refine nt (aj (aE (fun z4 y3=>[(0,Ri a0),(1,I a1),(7,I (a0.length:Int)),(8,I y3)]) (fun z4 y3=>[]) (cT k a0 a1) k () 0 (fun _=>rfl) h (SE.fin [] ⟨rfl,rfl,rfl,rfl,trivial⟩ rfl) (fun n z4 y3 h=>?_)));unfold cT at h;refine sr (jb (bj rfl) ?_);refine nt (ah (ci h (fun h=>?_) (fun h=>?_)))
  ·refine sk (ah (aj (sr (mq ?_))));refine aq (nt (sr ?_));iterate 3 refine mq ?_
   obtain⟨x5,j,h⟩:=ab h;refine jb (aF (t:=(.int .i64)) rfl dW cI j) ?_;refine ja (ak (t:=(.int .i64)) rfl cI rfl) ?_;refine jb (eY rfl) ?_;refine nt (ci h (fun h=>?_) (fun h=>?_))
   ·refine sr (mq ?_);refine aq (nt (aA (br (aY (aO ?_)))));obtain rfl:=hR _ h;exact ra
   ·refine aS (aN (tn (aa ?_)));obtain⟨x6,c,h⟩:=ab h;refine jb (a9 rfl c) ?_;refine mq (nl ?_);exact jz ((),x6) h []
  ·refine xa ?_;exact jz ((),()) h []
 ·
  refine sr (cq (nt (aA ?_)));cases h;exact ra
def fM(k:Nat)(a0:(List Int))(a1:Int):Option Bool:=
 (iy k a0 a1).bind fun r1=>
 some (decide (0≤r1))
theorem o0(k:Nat)(a0:(List Int))(a1:Int)(r:Bool)(h:fM k a0 a1=some r):
 bW Tryz.prog 158 [Ri a0,I a1] [] (fun _:Unit=>(bp [.eq (.bool r)],[])):=by
 unfold fM at h
 replace h:=ba h
 refine bW.of 9 Tryz.func158 rfl Tryz.ntmps158 rfl fun S w0=>?_
 refine sr ?_
 refine cq ?_
 refine nt ?_
 refine sr ?_
 iterate 2 refine mq ?_
 obtain⟨r1,c,h⟩:=ab h
 have e:=rE k a0 a1 r1 c
 refine jb (ap [.tmp 5,.tmp 6] rfl rfl Om rfl e) ?_
 refine jb (ni rfl) ?_
 refine aq ?_
 refine nt ?_
 refine aA ?_
 cases h
 exact ra
def eM(k:Nat)(a0:cR)(a1:Int):Nat→(Int×Int)→Option Int
 |0,_=>none
 |n+1,y3=>
  if y3.2 < (a0.1.2.1.length:Int) then((((a8 a0.1.2.1 y3.2).bind fun x7=>
  (fM k x7.2 a1).bind fun r9=>
  if r9=true then((d6 k y3.1 y3.2).bind fun e=>
  some e) else(some y3.1)):Option (Int)).bind fun x5=>
  (ck (y3.2+1)).bind fun c=>
  eM k a0 a1 n (x5,c)) else(some y3.1)
def gy(k:Nat)(a0:cR)(a1:Int):Option Int:=
 ((eM k a0 a1 k (0,0)):Option (Int)).bind fun x1=>
 some x1
theorem mf(k:Nat)(a0:cR)(a1:Int)(r:Int)(h:gy k a0 a1=some r):
 bW Tryz.prog 128 [.at bB a0,I a1] [] (fun _:Unit=>(bp [.eq (.int .u8 r)],[])):=by
 unfold gy at h
 replace h:=ba h
 refine bW.of 28 Tryz.func128 rfl Tryz.ntmps128 rfl fun S w0=>?_
 refine sr ?_
 refine cq ?_
 refine nt ?_
 refine sr ?_
 refine cq ?_
 refine nt ?_
 refine aP (Z:=Unit) (α:=Int) (fun z2 x1=>[(5,.eq (.int .u8 x1))]) (fun z2 x1=>[]) h (fun K h=>?_) (fun z2 x1 h=>?_)
 ·
  refine sr (mq ?_);refine ja (dr rfl) ?_;refine ja (aI 3 true rfl jm rfl) ?_;refine ja (aI 1 false rfl eA rfl) ?_;refine ja (ak (t:=(.slice cF)) rfl kj rfl) ?_;refine ol sH ?_;refine eK rfl ?_;refine nt (aj (aE (fun z4 y3=>[(1,I a1),(5,.eq (.int .u8 y3.1)),(12,Rs cF a0.1.2.1),(13,I (a0.1.2.1.length:Int)),(14,I y3.2)]) (fun z4 y3=>[]) (eM k a0 a1) k () (0,0) (fun _=>rfl) h (SE.fin [] ⟨rfl,rfl,rfl,rfl,rfl,trivial⟩ rfl) (fun n z4 y3 h=>?_)));unfold eM at h;refine sr (jb (bj rfl) ?_);refine nt (ah (ci h (fun h=>?_) (fun h=>?_)))
  ·refine sk (aP (Z:=Unit) (α:=Int) (fun z6 x5=>[(1,I a1),(5,.eq (.int .u8 x5)),(12,Rs cF a0.1.2.1),(13,I (a0.1.2.1.length:Int)),(14,I y3.2)]) (fun z6 x5=>[]) h (fun K h=>?_) (fun z6 x5 h=>?_))
   ·refine aj (sr (mq ?_));obtain⟨x7,s,h⟩:=ab h;refine jb (aF (t:=cF) rfl sH mP s) ?_;refine ja (ak (t:=cF) rfl mP rfl) ?_;refine aL rfl rfl rfl (bL rfl vU IO) trivial fun b8=>?_;refine aq ?_;refine bg rfl rfl (bb rfl mP rfl rfl rfl) ⟨rfl,rfl,trivial⟩ ?_;refine nt (sr (fl pU ?_));refine lo cm ?_;refine mq ?_;obtain⟨r9,u,h⟩:=ab h;refine jb (ap [.tmp 20,.tmp 21] rfl rfl N9 rfl (o0 k x7.2 a1 r9 u)) ?_;refine nt (cv h (fun h=>?_) (fun h=>?_))
    ·refine aa ?_;iterate 2 refine mq ?_
     obtain⟨c,j,h⟩:=ab h;refine jb (ap [.tmp 23,.tmp 24] rfl rfl Bg rfl (iI k y3.1 y3.2 c j)) ?_;refine aq (ar (bn ?_));exact jz ((),c) h []
    ·refine aS (bn ?_);exact jz ((),y3.1) h []
   ·refine aa ?_;obtain⟨l,e,h⟩:=ab h;refine jb (a9 rfl e) ?_;refine mq (nl ?_);exact jz ((),(x5,l)) h []
  ·refine xa ?_;exact jz ((),y3.1) h []
 ·
  refine sr (mq ?_);refine aq (nt (aA ?_));cases h;exact ra
def cE(k:Nat)(a0:cR)(a1:(List (List Int)))(a2:Int):Nat→(Int×(List (List Int))×Int)→Option (Int×(List (List Int)))
 |0,_=>none
 |n+1,y5=>
  if y5.2.2 < 3 then((dz k a1 y5.2.2).bind fun r7=>
  (gy k a0 a2).bind fun r8=>
  (mh k r7 r8).bind fun r9=>
  (d4 (bS (List.length y5.2.1+List.length [r9.2]))).bind fun _=>
  (ck (y5.2.2+1)).bind fun c=>
  cE k a0 a1 a2 n (A5 .u8 y5.1 r9.1,y5.2.1++[r9.2],c)) else(some (y5.1,y5.2.1))
def ik(k:Nat)(a0:cR)(a1:(List (List Int)))(a2:Int):Option (Int×(List (List Int))):=
 ((cE k a0 a1 a2 k (0,([]:(List (List Int))),0)):Option (Int×(List (List Int)))).bind fun x3=>
 (dE k x3.2).bind fun c=>
 some (x3.1,c)
theorem nc(k:Nat)(a0:cR)(a1:(List (List Int)))(a2:Int)(r:Int×(List (List Int)))(h:ik k a0 a1 a2=some r):
 bW Tryz.prog 85 [.at bB a0,.rep (.arr 3 (.arr 5 (.int .i64))) a1,I a2] [] (fun _:Unit=>(bp [.eq (.int .u8 r.1),.rep (.arr 3 (.arr 5 (.int .i64))) r.2],[])):=by
 unfold ik at h
 replace h:=ba h
 refine bW.of 37 Tryz.func85 rfl Tryz.ntmps85 rfl fun S w0=>?_
 refine sr ?_
 refine bx fun b1=>?_
 refine cq ?_
 refine aL rfl rfl rfl (bL rfl l9 mJ) trivial fun b2=>?_
 refine nt ?_
 refine sr ?_
 refine cq ?_
 refine nt ?_
 refine sr ?_
 refine cq ?_
 refine nt ?_
 refine aP (Z:=Value) (α:=Int×(List (List Int))) (fun z4 x3=>[(7,Pt b2),(8,.eq (.int .u8 x3.1)),(9,.eq z4)]) (fun z4 x3=>[.obj b2 107 (.rep (.arr 3 (.arr 5 (.int .i64))) [[0,0,0,0,0],[0,0,0,0,0],[0,0,0,0,0]]),.sl z4 23 (.slice (.int .i64)) x3.2]) h (fun K h=>?_) (fun z4 x3 h=>?_)
 ·
  refine sr (eK rfl ?_);refine nt (aj (fG (SE.nil 23 (.slice (.int .i64))) ?_));refine aE (fun z6 y5=>[(0,.at bB a0),(2,I a2),(4,Pt b1),(7,Pt b2),(8,.eq (.int .u8 y5.1)),(9,.eq z6),(13,I y5.2.2)]) (fun z6 y5=>[.obj b1 107 (.rep (.arr 3 (.arr 5 (.int .i64))) a1),.obj b2 107 (.rep (.arr 3 (.arr 5 (.int .i64))) [[0,0,0,0,0],[0,0,0,0,0],[0,0,0,0,0]]),.sl z6 23 (.slice (.int .i64)) y5.2.1]) (cE k a0 a1 a2) k (.slice none 0 0) (0,([]:(List (List Int))),0) (fun _=>rfl) h (SE.fin [2,1,0] ⟨rfl,rfl,rfl,rfl,rfl,rfl,rfl,trivial⟩ rfl) (fun n z6 y5 h=>?_);unfold cE at h;refine sr (jb (bj rfl) ?_);refine nt (ah (ci h (fun h=>?_) (fun h=>?_)))
  ·refine sk (ah (aj (sr (mq ?_))));refine aq (nt (sr ?_));refine lo cP ?_;refine mq ?_;obtain⟨r7,D,h⟩:=ab h;refine jb (ap [.tmp 17,.tmp 18] rfl rfl Bh rfl (fL k a1 y5.2.2 r7 D)) ?_;iterate 2 refine mq ?_
   obtain⟨r8,y,h⟩:=ab h;refine jb (ap [.tmp 20,.tmp 21] rfl rfl Oj rfl (mf k a0 a2 r8 y)) ?_;obtain⟨r9,x,h⟩:=ab h;refine jb (ap [.tmp 19,.tmp 22] rfl rfl Ol rfl (sA k r7 r8 r9 x)) ?_;refine mq ?_;refine xr ?_;refine xr ?_;refine aq ?_;refine aq (nt (sr ?_));iterate 2 refine mq ?_
   refine jb (MP rfl) ?_;refine aq (nt (aa ?_));iterate 2 refine mq ?_
   refine ja (bz (t:=(.slice (.int .i64))) [(.tmp 30,_)] [r9.2] rfl rfl tw (.cons rfl .rep .nil) rfl rfl) ?_;obtain⟨E,j,h⟩:=ab h;refine fr 2 ?_;refine dV rfl rfl rfl (bY rfl rfl tw (aC j)) ⟨rfl,rfl,trivial⟩ fun u=>?_;refine aq (ar (aN (tn (aa ?_))));obtain⟨s,e,h⟩:=ab h;refine jb (a9 rfl e) ?_;refine mq (nl ?_);exact jz (u,(A5 .u8 y5.1 r9.1,y5.2.1++[r9.2],s)) h [1,2,0]
  ·refine xa ?_;exact jz (z6,(y5.1,y5.2.1)) h [1,2]
 ·
  refine sr ?_;iterate 2 refine mq ?_
  obtain⟨c,l,h⟩:=ab h;refine fr 1 ?_;refine ka (qc (N:=[(.tmp 35,.eq z4)]) (ap [.tmp 35] rfl rfl C5 rfl (eQ k x3.2 c l)) (fun _ _ _ hv hn=>⟨(lend hn.1 hv),trivial⟩) (fun _=>⟨rfl,ue⟩)) ?_;refine aq ?_;refine fr 1 ?_;refine bg rfl rfl (bb rfl cP rfl rfl rfl) ⟨rfl,rfl,trivial⟩ ?_;refine nt (aA ?_);cases h;exact aM () [_,.rep (.arr 3 (.arr 5 (.int .i64))) c] 0 ⟨rfl,⟨_,_,_,_,_,rfl,(.head _),cP,(uA),rfl⟩,trivial⟩ rfl
def dN(k:Nat)(a0:cR)(a1:(List (List Int))):Nat→((List (List Int))×Int)→Option (List (List Int))
 |0,_=>none
 |n+1,y6=>
  if y6.2 < ((List.replicate (Int.toNat (a0.1.2.2.length:Int)) ([]:(List Int))).length:Int) then((dz k a1 y6.2).bind fun r8=>
  (a8 y6.1 y6.2).bind fun x9=>
  (ck (y6.2+1)).bind fun c=>
  dN k a0 a1 n (List.set y6.1 (Int.toNat y6.2) r8,c)) else(some y6.1)
def eP(k:Nat)(a0:cR)(a1:(List (List Int))):Option (List (List Int)):=
 (d4 (0≤(a0.1.2.2.length:Int)∧bS (Int.toNat (a0.1.2.2.length:Int)))).bind fun _=>
 ((dN k a0 a1 k (List.replicate (Int.toNat (a0.1.2.2.length:Int)) ([]:(List Int)),0)):Option ((List (List Int)))).bind fun x4=>
 some x4
theorem i7(k:Nat)(a0:cR)(a1:(List (List Int)))(r:(List (List Int)))(h:eP k a0 a1=some r):
 bW Tryz.prog 88 [.at bB a0,.rep (.arr 3 (.arr 5 (.int .i64))) a1] [] (fun z:Value=>(bp [.eq z],[.sl z 23 (.slice (.int .i64)) r])):=by
 unfold eP at h
 replace h:=ba h
 refine bW.of 27 Tryz.func88 rfl Tryz.ntmps88 rfl fun S w0=>?_
 refine sr ?_
 refine bx fun b1=>?_
 refine cq ?_
 refine nt ?_
 refine sr ?_
 refine mq ?_
 refine ja (dr rfl) ?_
 refine ja (aI 3 true rfl jm rfl) ?_
 refine ja (aI 1 false rfl fD rfl) ?_
 refine ja (ak (t:=(.slice (.int .i64))) rfl cm rfl) ?_
 refine ol dW ?_
 obtain⟨u2,j,h⟩:=ab h
 refine aL rfl rfl rfl (EJ (t:=(.slice (.int .i64))) (d:=([]:(List Int))) rfl tw Pj (aC j).1 (aC j).2) ⟨rfl,rfl,trivial⟩ fun v3=>?_
 refine aq ?_
 refine nt ?_
 refine aP (Z:=Unit) (α:=(List (List Int))) (fun z5 x4=>[(5,.eq v3)]) (fun z5 x4=>[.sl v3 23 (.slice (.int .i64)) x4]) h (fun K h=>?_) (fun z5 x4 h=>?_)
 ·
  refine sr (mq ?_);refine ka (dj rfl rfl lP) ?_;refine eK rfl ?_;refine nt (aj (aE (fun z7 y6=>[(3,Pt b1),(5,.eq v3),(15,I ((List.replicate (Int.toNat (a0.1.2.2.length:Int)) ([]:(List Int))).length:Int)),(16,I y6.2)]) (fun z7 y6=>[.obj b1 107 (.rep (.arr 3 (.arr 5 (.int .i64))) a1),.sl v3 23 (.slice (.int .i64)) y6.1]) (dN k a0 a1) k () (List.replicate (Int.toNat (a0.1.2.2.length:Int)) ([]:(List Int)),0) (fun _=>rfl) h (SE.fin [1,0] ⟨rfl,rfl,rfl,rfl,trivial⟩ rfl) (fun n z7 y6 h=>?_)));unfold dN at h;refine sr (jb (bj rfl) ?_);refine nt (ah (ci h (fun h=>?_) (fun h=>?_)))
  ·refine sk (ah (aj (sr (mq ?_))));refine aq (nt (aa ?_));iterate 2 refine mq ?_
   refine lo cP ?_;refine mq ?_;obtain⟨r8,s,h⟩:=ab h;refine jb (ap [.tmp 21,.tmp 22] rfl rfl Bh rfl (fL k a1 y6.2 r8 s)) ?_;obtain⟨x9,c,h⟩:=ab h;refine fr 1 ?_;refine kb (bJ (t:=(.slice (.int .i64))) rfl lP cm c) ?_;refine bg rfl rfl (dF (i:=Int.toNat y6.2) rfl cm rfl (jl c) rfl .rep rfl) ⟨rfl,rfl,trivial⟩ ?_;refine ar (aN (tn (aa ?_)));obtain⟨l,e,h⟩:=ab h;refine jb (a9 rfl e) ?_;refine mq (nl ?_);exact jz ((),(List.set y6.1 (Int.toNat y6.2) r8,l)) h [1,0]
  ·refine xa ?_;exact jz ((),y6.1) h [1]
 ·
  refine sr (mq ?_);refine aq (nt (aA ?_));cases h;exact aM v3 [.eq v3] 1 ⟨rfl,trivial⟩ rfl
def dp(k:Nat)(a0:(List Int))(a1:(List Int)):Nat→Int→Option (Except Bool Unit)
 |0,_=>none
 |n+1,y3=>
  if y3 < (a0.length:Int) then((a8 a0 y3).bind fun x5=>
  (a8 a1 y3).bind fun x6=>
  if¬(x5=x6) then(some (.error false)) else((ck (y3+1)).bind fun x7=>
  dp k a0 a1 n x7)) else(some (.ok ()))
def dA(k:Nat)(a0:(List Int))(a1:(List Int)):Option Bool:=
 if¬((a0.length:Int)=(a1.length:Int)) then(some false) else(bE (α:=Unit) (dp k a0 a1 k 0) (some) fun _=>
 some true)
theorem gw(k:Nat)(a0:(List Int))(a1:(List Int))(r:Bool)(h:dA k a0 a1=some r):
 bW Tryz.prog 37 [Ri a0,Ri a1] [] (fun _:Unit=>(bp [.eq (.bool r)],[])):=by
 unfold dA at h
 replace h:=ba h
 refine bW.of 26 Tryz.func37 rfl Tryz.ntmps37 rfl fun S w0=>?_
 refine sr ?_
 refine cq ?_
 refine nt ?_
 refine ah ?_
 refine sr ?_
 refine mq ?_
 refine ol dW ?_
 refine mq ?_
 refine ol dW ?_
 refine jb (iS rfl) ?_
 refine nt ?_
 refine cn h (fun h=>?_) (fun h=>?_)
 ·
  refine sr (cq (nt (rx ?_)));cases h;exact ra
 ·
  refine sk (dC (Z:=Unit) (α:=Unit) (fun z2 x1=>[]) (fun z2 x1=>[]) (fun e=>e=r) h (fun e h=>Option.some.inj h) (fun K hR h=>?_) (fun z2 x1 h=>?_))
  ·refine sr (cq (nt (aj ?_)));refine aE (fun z4 y3=>[(0,Ri a0),(1,Ri a1),(5,I y3)]) (fun z4 y3=>[]) (dp k a0 a1) k () 0 (fun _=>rfl) h (SE.fin [] ⟨rfl,rfl,rfl,trivial⟩ rfl) (fun n z4 y3 h=>?_);unfold dp at h;refine ah (sr ?_);iterate 2 refine mq ?_
   refine ol dW ?_;refine jb (bj rfl) ?_;refine nt (ci h (fun h=>?_) (fun h=>?_))
   ·refine sk (ah (aj (ah (bX ?_))));refine dm ?_;refine dm ?_;obtain⟨x5,l,h⟩:=ab h;refine db (aF (t:=(.int .i64)) rfl dW cI l) ?_;refine da (ak (t:=(.int .i64)) rfl cI rfl) ?_;refine dm ?_;refine dm ?_;obtain⟨x6,j,h⟩:=ab h;refine db (aF (t:=(.int .i64)) rfl dW cI j) ?_;refine da (ak (t:=(.int .i64)) rfl cI rfl) ?_;refine df d3 ?_;refine jb (iS rfl) ?_;refine nt (cn h (fun h=>?_) (fun h=>?_))
    ·refine sr (cq (nt (aA (br (aY (aO ?_))))));obtain rfl:=hR _ h;exact ra
    ·refine aS (aN (tn (aa (mq ?_))));obtain⟨x7,c,h⟩:=ab h;refine jb (a9 rfl c) ?_;refine aq (nl ?_);exact jz ((),x7) h []
   ·refine xa ?_;exact jz ((),()) h []
  ·refine sr (cq (nt (aA ?_)));cases h;exact ra
def il(k:Nat)(a0:(List (List Int)))(a1:(List (List Int))):Nat→Int→Option (Except Bool Unit)
 |0,_=>none
 |n+1,y3=>
  if y3 < (a0.length:Int) then((a8 a0 y3).bind fun x5=>
  (a8 a1 y3).bind fun x6=>
  (dA k x5 x6).bind fun r7=>
  if¬(r7=true) then(some (.error false)) else((ck (y3+1)).bind fun x8=>
  il k a0 a1 n x8)) else(some (.ok ()))
def jI(k:Nat)(a0:(List (List Int)))(a1:(List (List Int))):Option Bool:=
 if¬((a0.length:Int)=(a1.length:Int)) then(some false) else(bE (α:=Unit) (il k a0 a1 k 0) (some) fun _=>
 some true)
theorem mB(k:Nat)(a0:(List (List Int)))(a1:(List (List Int)))(r:Bool)(h:jI k a0 a1=some r):
 bW Tryz.prog 38 [.rep (.slice (.slice (.int .i64))) a0,.rep (.slice (.slice (.int .i64))) a1] [] (fun _:Unit=>(bp [.eq (.bool r)],[])):=by
 unfold jI at h
 replace h:=ba h
 refine bW.of 27 Tryz.func38 rfl Tryz.ntmps38 rfl fun S w0=>?_
 refine sr ?_
 refine cq ?_
 refine nt ?_
 refine ah ?_
 refine sr ?_
 refine mq ?_
 refine ol lP ?_
 refine mq ?_
 refine ol lP ?_
 refine jb (iS rfl) ?_
 refine nt ?_
 refine cn h (fun h=>?_) (fun h=>?_)
 ·
  refine sr (cq (nt (rx ?_)));cases h;exact ra
 ·
  refine sk (dC (Z:=Unit) (α:=Unit) (fun z2 x1=>[]) (fun z2 x1=>[]) (fun e=>e=r) h (fun e h=>Option.some.inj h) (fun K hR h=>?_) (fun z2 x1 h=>?_))
  ·refine sr (cq (nt (aj ?_)));refine aE (fun z4 y3=>[(0,.rep (.slice (.slice (.int .i64))) a0),(1,.rep (.slice (.slice (.int .i64))) a1),(5,I y3)]) (fun z4 y3=>[]) (il k a0 a1) k () 0 (fun _=>rfl) h (SE.fin [] ⟨rfl,rfl,rfl,trivial⟩ rfl) (fun n z4 y3 h=>?_);unfold il at h;refine ah (sr ?_);iterate 2 refine mq ?_
   refine ol lP ?_;refine jb (bj rfl) ?_;refine nt (ci h (fun h=>?_) (fun h=>?_))
   ·refine sk (ah (aj (ah (bX ?_))));refine dm ?_;refine dm ?_;obtain⟨x5,l,h⟩:=ab h;refine db (aF (t:=(.slice (.int .i64))) rfl lP cm l) ?_;refine da (ak (t:=(.slice (.int .i64))) rfl cm rfl) ?_;refine dm ?_;refine dm ?_;obtain⟨x6,j,h⟩:=ab h;refine db (aF (t:=(.slice (.int .i64))) rfl lP cm j) ?_;refine da (ak (t:=(.slice (.int .i64))) rfl cm rfl) ?_;refine df d3 ?_;obtain⟨r7,s,h⟩:=ab h;refine jb (ap [.tmp 20,.tmp 24] rfl rfl Gf rfl (gw k x5 x6 r7 s)) ?_;refine ja (dY rfl) ?_;refine nt (cw h (fun h=>?_) (fun h=>?_))
    ·refine sr (cq (nt (aA (br (aY (aO ?_))))));obtain rfl:=hR _ h;exact ra
    ·refine aS (aN (tn (aa (mq ?_))));obtain⟨x8,c,h⟩:=ab h;refine jb (a9 rfl c) ?_;refine aq (nl ?_);exact jz ((),x8) h []
   ·refine xa ?_;exact jz ((),()) h []
  ·refine sr (cq (nt (aA ?_)));cases h;exact ra
def jH(k:Nat)(a0:List Int):Option (List Int):=
 (d4 (bS (List.length a0))).bind fun _=>some a0
theorem ml(k:Nat)(a0:List Int)(r:List Int)(h:jH k a0=some r):
 bW Tryz.prog 97 [Ri a0] [] (fun z:Value=>(bp [.eq z],[.sl z 3 (.int .i64) r])):=by
 unfold jH at h
 replace h:=ba h
 refine bW.of 8 Tryz.func97 rfl Tryz.ntmps97 rfl fun S w0=>?_
 obtain⟨u1,c,h⟩:=ab h
 cases h
 refine sr ?_
 refine cq ?_
 refine nt ?_
 refine ah ?_
 refine sr ?_
 refine mq ?_
 refine bN (Δ:=[]) (F:=_) (fun _ _ _=>av rfl _) rfl rfl (HH rfl dW) ⟨rfl,rfl,trivial⟩ fun b=>?_
 refine nt ?_
 refine bC rfl (fun hb=>?_) (fun hb=>?_)
 ·
  refine sr (cq (nt (rx ?_)));obtain rfl:=b.2 hb;refine bM (SE.nil 3 (.int .i64)) ?_;exact aM (.slice none 0 0) [.eq (.slice none 0 0)] 1 ⟨rfl,trivial⟩ rfl
 ·
  refine sk (sr (aL rfl rfl rfl (pK (t:=(.int .i64)) [] [] rfl rfl eh .nil rfl rfl) trivial fun v1=>?_));refine mq ?_;refine dV rfl rfl rfl (bY rfl rfl eh (by simpa using aC c)) ⟨rfl,rfl,trivial⟩ fun v2=>?_;refine aq (nt (aA ?_));exact aM v2 [.eq v2] 1 ⟨rfl,trivial⟩ rfl
def gR(k:Nat)(a0:cR)(a2:Int):Nat→((List (List Int))×Int)→Option (List (List Int))
 |0,_=>none
 |n+1,y5=>
  if y5.2 < a2 then((ik k a0 y5.1 y5.2).bind fun r7=>
  (ck (y5.2+1)).bind fun x8=>
  gR k a0 a2 n (r7.2,x8)) else(some y5.1)
def kK(k:Nat)(a0:cR)(a1:(List (List Int)))(a2:Int):Option (List (List Int)):=
 ((gR k a0 a2 k (a1,0)):Option ((List (List Int)))).bind fun x3=>
 some x3
theorem qk(k:Nat)(a0:cR)(a1:(List (List Int)))(a2:Int)(r:(List (List Int)))(h:kK k a0 a1 a2=some r):
 bW Tryz.prog 103 [.at bB a0,.rep (.arr 3 (.arr 5 (.int .i64))) a1,I a2] [] (fun _:Unit=>(bp [.rep (.arr 3 (.arr 5 (.int .i64))) r],[])):=by
 unfold kK at h
 replace h:=ba h
 refine bW.of 21 Tryz.func103 rfl Tryz.ntmps103 rfl fun S w0=>?_
 refine sr ?_
 refine bx fun b1=>?_
 refine aL rfl rfl rfl (bL rfl l9 mJ) trivial fun b2=>?_
 refine nt ?_
 refine aP (Z:=Unit) (α:=(List (List Int))) (fun z4 x3=>[(4,Pt b1),(6,Pt b2)]) (fun z4 x3=>[.obj b1 107 (.rep (.arr 3 (.arr 5 (.int .i64))) x3),.obj b2 107 (.rep (.arr 3 (.arr 5 (.int .i64))) [[0,0,0,0,0],[0,0,0,0,0],[0,0,0,0,0]])]) h (fun K h=>?_) (fun z4 x3 h=>?_)
 ·
  refine sr (mq ?_);refine eK rfl ?_;refine nt (aj (aE (fun z6 y5=>[(0,.at bB a0),(4,Pt b1),(6,Pt b2),(8,I a2),(9,I y5.2)]) (fun z6 y5=>[.obj b1 107 (.rep (.arr 3 (.arr 5 (.int .i64))) y5.1),.obj b2 107 (.rep (.arr 3 (.arr 5 (.int .i64))) [[0,0,0,0,0],[0,0,0,0,0],[0,0,0,0,0]])]) (gR k a0 a2) k () (a1,0) (fun _=>rfl) h (SE.fin [1,0] ⟨rfl,rfl,rfl,rfl,rfl,trivial⟩ rfl) (fun n z6 y5 h=>?_)));unfold gR at h;refine sr (jb (bj rfl) ?_);refine nt (ah (ci h (fun h=>?_) (fun h=>?_)))
  ·refine sk (ah (aj (sr (mq ?_))));refine aq (nt (aa ?_));refine mq ?_;refine lo cP ?_;refine mq ?_;obtain⟨r7,e,h⟩:=ab h;refine jc (ap [.tmp 13,.tmp 14,.tmp 15] rfl rfl NS rfl (nc k a0 y5.1 y5.2 r7 e)) ?_;refine mq ?_;refine xr ?_;refine xr ?_;refine bg rfl rfl (bb rfl cP rfl rfl rfl) ⟨rfl,rfl,trivial⟩ ?_;refine ar (aN (tn (aa ?_)));obtain⟨x8,c,h⟩:=ab h;refine jb (a9 rfl c) ?_;refine mq (nl ?_);exact jz ((),(r7.2,x8)) h [0,1]
  ·refine xa ?_;exact jz ((),y5.1) h [0,1]
 ·
  refine sr (lo cP ?_);refine fr 1 ?_;refine bg rfl rfl (bb rfl cP rfl rfl rfl) ⟨rfl,rfl,trivial⟩ ?_;refine nt (aA ?_);obtain rfl:=Option.some.inj h;exact aM () [.rep (.arr 3 (.arr 5 (.int .i64))) x3] 0 ⟨⟨_,_,_,_,_,rfl,(.head _),cP,(uA),rfl⟩,trivial⟩ rfl
def kT(k:Nat)(a0:List Int)(a1 a2:Int):Option (List Int):=
 (d4 (0≤a1∧a1 < a2∧a2≤(a0.length:Int))).bind fun _=>some (a0.take a1.toNat++a0.drop a2.toNat)
theorem qz(k:Nat)(a0:List Int)(v:Value)(a1 a2:Int)(r:List Int)(h:kT k a0 a1 a2=some r):bW Tryz.prog 143 [.eq v,.eq (.int .i64 a1),.eq (.int .i64 a2)] [.sl v 3 (.int .i64) a0] (fun z:Value=>(bp [.eq z],[.sl z 3 (.int .i64) r])):=by
 unfold kT at h
 replace h:=ba h
 obtain⟨u1,eg,h⟩:=ab h
 obtain⟨h1,h2,h3⟩:=aC eg
 obtain rfl:=Option.some.inj h
 refine bW.of 33 Tryz.func143 rfl Tryz.ntmps143 rfl fun S w0=>?_
 refine Dw (fun e=>by rw [e] at h3;simp at h3;omega) fun b cap hv hcap=>?_
 subst hv
 have hl:(a0.take a1.toNat++a0.drop a2.toNat).length=a1.toNat+(a0.length - a2.toNat):=by simp;omega
 refine ah ?_
 refine aa ?_
 refine dx rfl ?_
 refine ar (ae ?_)
 show JC _ _ _ _ _
 refine ah ?_
 refine aa ?_
 refine ax rfl rfl ?_
 refine ax rfl rfl ?_
 refine ax rfl rfl ?_
 refine ax rfl rfl ?_
 refine bQ rfl rfl rfl (dj rfl rfl dW) ⟨rfl,trivial⟩ ?_
 refine aB rfl (wl rfl dW cI h1 (by omega) h3 (by omega)) ⟨rfl,rfl,rfl,rfl,trivial⟩ ?_
 refine ar (ae ?_)
 show JC _ _ _ _ _
 refine ah ?_
 refine ah ?_
 refine aa ?_
 refine ax rfl rfl ?_
 refine ax rfl rfl ?_
 refine aB rfl (eY rfl) ⟨rfl,rfl,trivial⟩ ?_
 refine ar (ae ?_)
 show JC _ _ _ _ _
 refine bC rfl (fun hb=>absurd (of_decide_eq_true hb) (by omega)) (fun hb=>?_)
 refine aS (ae ?_)
 show JC _ _ _ _ _
 refine ah ?_
 refine aa ?_
 refine ax rfl rfl ?_
 refine bQ rfl rfl rfl (dj rfl rfl dW) ⟨rfl,trivial⟩ ?_
 refine de rfl rfl ?_
 refine ar (ae ?_)
 show JC _ _ _ _ _
 refine ah ?_
 refine bX ?_
 refine c9 rfl rfl rfl (aQ rfl) ⟨rfl,trivial⟩ ?_
 refine c9 rfl rfl rfl (aQ rfl) ⟨rfl,trivial⟩ ?_
 refine c9 rfl rfl rfl (tP rfl dW cI h1 (by omega)) ⟨rfl,rfl,trivial⟩ ?_
 refine c9 rfl rfl rfl (aQ rfl) ⟨rfl,trivial⟩ ?_
 refine c9 rfl rfl rfl (aQ rfl) ⟨rfl,trivial⟩ ?_
 refine c9 rfl rfl rfl (zR rfl dW cI (by omega) h3) ⟨rfl,rfl,trivial⟩ ?_
 refine sw (by kernel_rfl) d3 ?_
 refine cS (q9 22 rfl fun _ _ _ h=>(AS▸h:(A.eq (.slice (some ⟨b,0,none⟩) a1.toNat cap)).holds _ _ _)) ?_
 refine bQ rfl rfl rfl (wo (t:=.int .i64) (b:=b) (cap:=cap) (l:=a0) (i:=a1.toNat) (j:=a2.toNat) rfl rfl eh (by omega) (by omega) hcap) ⟨rfl,rfl,trivial⟩ ?_
 refine de rfl rfl ?_
 refine ar (ae ?_)
 show JC _ _ _ _ _
 refine ah ?_
 refine aa ?_
 refine ax rfl rfl ?_
 refine ax rfl rfl ?_
 refine bQ rfl rfl rfl (dj rfl rfl dW) ⟨rfl,trivial⟩ ?_
 refine ax rfl rfl ?_
 refine aB rfl (xW rfl dW cI (by omega) (by rw [hl];omega) (by omega)) ⟨rfl,rfl,rfl,trivial⟩ ?_
 refine bg rfl rfl (yd (t:=.int .i64) (b:=b) (cap:=cap) (l:=a0.take a1.toNat++a0.drop a2.toNat) (n:=a0.length) rfl rfl dW rfl QE rfl rfl (by rw [hl];omega) hcap) ⟨rfl,trivial⟩ ?_
 refine ar (ae ?_)
 show JC _ _ _ _ _
 refine ah ?_
 refine aa ?_
 refine ax rfl rfl ?_
 refine de rfl rfl ?_
 refine ar (ae ?_)
 show JC _ _ _ _ _
 refine aA ?_
 exact aM _ [.eq _] 1 ⟨rfl,trivial⟩ rfl
def jF(k:Nat)(x7:Int)(h:(List (List Int))):Nat→((List (List Int))×Int)→Option (List (List Int))
 |0,_=>none
 |n+1,c=>
  if c.2 < (h.length:Int) then((a8 h c.2).bind fun e=>
  (d4 (bS (List.length [x7]+List.length e))).bind fun _=>
  (d4 (bS (List.length c.1+List.length [[x7]++e]))).bind fun _=>
  (ck (c.2+1)).bind fun j=>
  jF k x7 h n (c.1++[[x7]++e],j)) else(some c.1)
def jG(k:Nat)(a0:(List Int))(self:(List Int)→Option ((List (List Int)))):Nat→((List (List Int))×Int)→Option (List (List Int))
 |0,_=>none
 |n+1,y3=>
  if y3.2 < (a0.length:Int) then((((a8 a0 y3.2).bind fun x7=>
  (jH k a0).bind fun r8=>
  (ck (y3.2+1)).bind fun e=>
  (kT k r8 y3.2 e).bind fun j=>
  (self j).bind fun h=>
  jF k x7 h k (y3.1,0)):Option ((List (List Int)))).bind fun x5=>
  (ck (y3.2+1)).bind fun c=>
  jG k a0 self n (x5,c)) else(some y3.1)
def kM(k:Nat):Nat→(List Int)→Option ((List (List Int)))
 |0,_=>none
 |m0+1,a0=>
  if(a0.length:Int)=0 then(some [[]]) else(((jG k a0 (kM k m0) k (([]:(List (List Int))),0)):Option ((List (List Int)))).bind fun x1=>
  some x1)
theorem uE(k:Nat):
 ∀(n:Nat) (a0:(List Int)) (r:(List (List Int))),kM k n a0=some r→bW Tryz.prog 107 [Ri a0] ([]) (fun _:Unit=>(bp [.rep (.slice (.slice (.int .i64))) r],[])):=by
 intro n
 induction n with
 |zero=>intro a0 r h;cases h
 |succ m0 ih=>
  intro a0 r h;rw [kM] at h;replace h:=ba h;refine bW.of 41 Tryz.func107 rfl Tryz.ntmps107 rfl fun S w0=>?_;refine sr (cq (nt (ah (sr ?_))));refine mq ?_;refine ol dW ?_;refine jb (eY rfl) ?_;refine nt (ci h (fun h=>?_) (fun h=>?_))
  ·refine sr (ja (bz (t:=(.slice (.int .i64))) [(.const (.slice none 0 0),_)] [[]] rfl rfl tw (.cons rfl .nil .nil) rfl rfl) ?_);refine aq (nt (rx ?_));cases h;exact ra
  ·refine sk (sr (cq (nt ?_)));refine aP (Z:=Value) (α:=(List (List Int))) (fun z2 x1=>[(3,.eq z2)]) (fun z2 x1=>[.sl z2 23 (.slice (.int .i64)) x1]) h (fun K h=>?_) (fun z2 x1 h=>?_)
   ·refine sr (mq ?_);refine ol dW ?_;refine eK rfl ?_;refine nt (aj (fG (SE.nil 23 (.slice (.int .i64))) ?_));refine aE (fun z4 y3=>[(0,Ri a0),(3,.eq z4),(12,Ri a0),(13,I (a0.length:Int)),(14,I y3.2)]) (fun z4 y3=>[.sl z4 23 (.slice (.int .i64)) y3.1]) (jG k a0 (kM k m0)) k (.slice none 0 0) (([]:(List (List Int))),0) (fun _=>rfl) h (SE.fin [0] ⟨rfl,rfl,rfl,rfl,rfl,trivial⟩ rfl) (fun n z4 y3 h=>?_);unfold jG at h;refine sr (jb (bj rfl) ?_);refine nt (ah (ci h (fun h=>?_) (fun h=>?_)))
    ·refine sk (aP (Z:=Value) (α:=(List (List Int))) (fun z6 x5=>[(0,Ri a0),(3,.eq z6),(12,Ri a0),(13,I (a0.length:Int)),(14,I y3.2)]) (fun z6 x5=>[.sl z6 23 (.slice (.int .i64)) x5]) h (fun K h=>?_) (fun z6 x5 h=>?_))
     ·refine aj (sr (mq ?_));obtain⟨x7,Y,h⟩:=ab h;refine jb (aF (t:=(.int .i64)) rfl dW cI Y) ?_;refine ja (ak (t:=(.int .i64)) rfl cI rfl) ?_;refine aq ?_;refine aq (nt (sr ?_));refine mq ?_;obtain⟨r8,ac,h⟩:=ab h;refine aL rfl rfl rfl (ap [.tmp 19] rfl rfl PY rfl (ml k a0 r8 ac)) ⟨rfl,trivial⟩ fun v9=>?_;iterate 2 refine mq ?_
      obtain⟨U,D,h⟩:=ab h;refine jb (a9 rfl D) ?_;obtain⟨s,M,h⟩:=ab h;refine dV rfl rfl rfl (ap [.tmp 20,.tmp 21,.tmp 23] rfl rfl Oh rfl (qz k r8 v9 y3.2 U s M)) ⟨rfl,rfl,rfl,trivial⟩ fun qt=>?_;refine cS (gK [24] ⟨rfl,trivial⟩) ?_;obtain⟨j,J,h⟩:=ab h;refine ja (ap [.tmp 24] rfl rfl JA rfl (ih s j J)) ?_;refine ol lP ?_;refine eK rfl ?_;refine nt (aj (aE (fun e c=>[(0,Ri a0),(3,.eq e),(5,I x7),(12,Ri a0),(13,I (a0.length:Int)),(14,I y3.2),(25,.rep (.slice (.slice (.int .i64))) j),(26,I (j.length:Int)),(27,I c.2)]) (fun e c=>[.sl e 23 (.slice (.int .i64)) c.1]) (jF k x7 j) k z4 (y3.1,0) (fun _=>rfl) h (SE.fin [0] ⟨rfl,rfl,rfl,rfl,rfl,rfl,rfl,rfl,rfl,trivial⟩ rfl) (fun n e c h=>?_)));unfold jF at h;refine sr (jb (bj rfl) ?_);refine nt (ah (ci h (fun h=>?_) (fun h=>?_)))
      ·refine sk (ah (aj (sr ?_)));obtain⟨l,y,h⟩:=ab h;refine jb (aF (t:=(.slice (.int .i64))) rfl lP cm y) ?_;refine ja (ak (t:=(.slice (.int .i64))) rfl cm rfl) ?_;refine aq (nt (aa ?_));iterate 2 refine mq ?_
       refine aL rfl rfl rfl (pK (t:=(.int .i64)) [(.tmp 32,_)] [x7] rfl rfl eh (.cons rfl .int .nil) rfl rfl) ⟨rfl,trivial⟩ fun pp=>?_;refine mq ?_;obtain⟨QO,F,h⟩:=ab h;refine dV rfl rfl rfl (bY rfl rfl eh (aC F)) ⟨rfl,rfl,trivial⟩ fun mc=>?_;refine cS (gK [35] ⟨rfl,trivial⟩) ?_;refine ja (bz (t:=(.slice (.int .i64))) [(.tmp 35,_)] [[x7]++l] rfl rfl tw (.cons rfl .rep .nil) rfl rfl) ?_;obtain⟨se,E,h⟩:=ab h;refine dV rfl rfl rfl (bY rfl rfl tw (aC E)) ⟨rfl,rfl,trivial⟩ fun X=>?_;refine aq (ar (aN (tn (aa ?_))));obtain⟨Q,x,h⟩:=ab h;refine jb (a9 rfl x) ?_;refine mq (nl ?_);exact jz (X,(c.1++[[x7]++l],Q)) h [0]
      ·refine cZ (aJ (aJ (bH (bn ?_))));exact jz (e,c.1) h [0]
     ·refine aa ?_;obtain⟨O,u,h⟩:=ab h;refine jb (a9 rfl u) ?_;refine mq (nl ?_);exact jz (z6,(x5,O)) h [0]
    ·refine xa ?_;exact jz (z4,y3.1) h [0]
   ·refine sr (mq ?_);refine aq (nt (aA ?_));refine bM (gK [2,3,40] ⟨rfl,rfl,rfl,trivial⟩) ?_;cases h;exact ra
def fJ{σ:Type}(k:Nat)(a1:(List Int))(Y:σ→Int→Option (σ×Bool)):Nat→(Int×σ)→Option (σ)
 |0,_=>none
 |n+1,y1=>
  if y1.1 < (a1.length:Int) then((a8 a1 y1.1).bind fun x3=>
  (Y y1.2 x3).bind fun r4=>
  if¬(r4.2=true) then(some r4.1) else((ck (y1.1+1)).bind fun x6=>
  fJ k a1 Y n (x6,r4.1))) else(some y1.2)
def jt{σ:Type}(k:Nat)(Y:σ→Int→Option (σ×Bool))(a1:(List Int))(s0:σ):Option (σ):=
 fJ k a1 Y k (0,s0)
theorem oZ{M:Md Tryz.prog}{σ Z:Type}(E:Z→σ→List D)(l:Nat)(Y:σ→Int→Option (σ×Bool))(k:Nat)(a1:(List Int))(c:Nat)(hY:∀z s p r,Y s p=some r→YT M l [I p] (E z s) (fun z':Z=>(.eq (.bool r.2),E z' r.1))):
 ∀(z0:Z) (s0:σ) (r:σ),jt k Y a1 s0=some r→dn M 146 [.eq (.func (.yield l) #[] #[]),Pt c] ([.obj c 23 (Ri a1)]++E z0 s0) (fun z:Z=>(bp [],[.obj c 23 (Ri a1)]++E z r)):=by
 intro z0 s0 r h
 unfold jt at h
 replace h:=ba h
 refine dn.of 16 Tryz.func146 rfl Tryz.ntmps146 rfl fun S w0=>?_
 refine sr ?_
 refine lo cm ?_
 refine ol dW ?_
 refine eK rfl ?_
 refine nt ?_
 refine aj ?_
 refine aE (Z:=Z) (α:=Int×σ) (fun z2 y1=>[(0,.eq (.func (.yield l) #[] #[])),(5,Ri a1),(6,I (a1.length:Int)),(7,I y1.1)]) (fun z2 y1=>[.obj c 23 (Ri a1)]++E z2 y1.2) (fJ k a1 Y) k z0 (0,s0) (fun _=>rfl) h (be [.obj c 23 (Ri a1)] (E z0 s0) [0] ⟨rfl,rfl,rfl,rfl,trivial⟩ rfl) (fun n z2 y1 h=>?_)
 unfold fJ at h
 refine sr ?_
 refine jb (bj rfl) ?_
 refine nt ?_
 refine ah ?_
 refine ci h (fun h=>?_) (fun h=>?_)
 ·
  refine sk (ah (aj (sr ?_)));obtain⟨x3,j,h⟩:=ab h;refine jb (aF (t:=(.int .i64)) rfl dW cI j) ?_;refine ja (ak (t:=(.int .i64)) rfl cI rfl) ?_;refine aq (nt (sr ?_));iterate 2 refine mq ?_
  obtain⟨r4,u,h⟩:=ab h;refine ou [.obj c 23 (Ri a1)] rfl rfl rfl (wj [.tmp 12] rfl rfl rfl (hY z2 y1.2 x3 r4 u)) ⟨rfl,rfl,trivial⟩ fun z5=>?_;refine ja (dY rfl) ?_;refine nt (cw h (fun h=>?_) (fun h=>?_))
  ·refine aA (br (aY ?_));cases h;exact io z5 [] trivial rfl
  ·refine aS (aN (tn (aa ?_)));obtain⟨x6,e,h⟩:=ab h;refine jb (a9 rfl e) ?_;refine mq (nl ?_);exact iE (z5,(x6,r4.1)) h (be [.obj c 23 (Ri a1)] (E z5 r4.1) [0] ⟨rfl,rfl,rfl,rfl,trivial⟩ rfl)
 ·
  refine cZ (aJ (aJ (bH (iG ?_))));cases h;exact io z2 [] trivial rfl
def jf(k:Nat)(a1:(List Int)):Option (List Int):=
 (jt k (pm (fun(y2:(List Int)) (p4:Int)=>
  (d4 (bS (List.length y2+List.length [p4]))).bind fun _=>
  some (y2++[p4],true))) a1 (([]:(List Int)),false)).bind fun r5=>
 if r5.2=true then(none) else(some r5.1)
theorem nE(k:Nat)(a1:(List Int))(c:Nat)(r:(List Int))(h:jf k a1=some r):
 bW Tryz.prog 183 [.eq (.slice none 0 0),.eq (.func (.func 146) #[] #[(Pv c)])] [.obj c 23 (Ri a1)] (fun z:Value=>(bp [.eq z],[.sl z 3 (.int .i64) r,.obj c 23 (Ri a1)])):=by
 unfold jf at h
 replace h:=ba h
 refine xe 13 Tryz.func183 rfl Tryz.ntmps183 rfl fun {M} S w0=>?_
 refine sr ?_
 refine bx fun b1=>?_
 refine cq ?_
 refine nt ?_
 refine ah ?_
 refine sr ?_
 refine mq ?_
 refine nt ?_
 refine aj ?_
 refine fG (SE.nil 3 (.int .i64)) ?_
 refine iH 1 rfl ?_
 refine iH 2 rfl ?_
 obtain⟨r5,j,h⟩:=ab h
 refine m8 (Δ:=[.obj c 23 (Ri a1),.obj b1 23 (.eq (.slice none 0 0)),.sl (.slice none 0 0) 3 (.int .i64) ([]:(List Int))]) (F:=[]) (X:=Value) (J:=fun _=>H6 r5.2) (E:=fun z3=>[.obj c 23 (Ri a1),.obj b1 23 (.eq z3),.sl z3 3 (.int .i64) r5.1]) (r0:=fun _=>.tup .any) rfl rfl Oe (fun rec hp ha hb hs hpe hN hv l=>?_) (fun dl z3=>pB (fun hj=>?_) (fun hj=>?_))
 ·
  rcases rec with⟨st0,pe0,fn0,tm0,ps0,as0,bd0,df0⟩;dsimp only at hp ha hb hs hpe hN hv;subst hp hs hpe;have vN:uo tm0 [(2,Pt b1)]:=⟨congrArg A.eq (hv 2 _ rfl).symm,trivial⟩;refine dn.pick (M:=M) [1,0,2,3] [1,0,2,3] (oZ (fun(z3:Value) (q:(List Int)×Bool)=>[.raw l (.loop (jg ⟨.ready,none,fn0,tm0, #[7],as0,bd0,df0⟩ (H6 q.2))),.obj b1 23 (.eq z3),.sl z3 3 (.int .i64) q.1]) l (pm (fun(y2:(List Int)) (p4:Int)=>
  (d4 (bS (List.length y2+List.length [p4]))).bind fun _=>
  some (y2++[p4],true))) k a1 c (fun z3 q p r' h=>?_) (.slice none 0 0) (([]:(List Int)),false) r5 j) rfl (fun _=>rfl) (fun _=>rfl)
  obtain⟨rq,hq,h2,rfl⟩:=pC h;obtain⟨y2,b5⟩:=q;obtain rfl:b5=false:=hq;replace h:=ba h2;obtain⟨p4,hpv⟩:∃x,x=p:=⟨_,rfl⟩;subst hpv;refine YT.pick (R':=(fun z3:Value=>(.eq (.bool rq.2),[.raw l (.loop (jg ⟨.ready,none,fn0,tm0, #[7],as0,bd0,df0⟩ (H6 (!rq.2)))),.obj b1 23 (.eq z3),.sl z3 3 (.int .i64) rq.1]))) [0,1,2] [0,1,2] (GG ha hb (N:=13) (Γ:=[(2,Pt b1)]) rfl hN (by decide) vN (fun S w=>?_)) rfl (fun _=>rfl) (fun _=>rfl);refine aa (aq (nl ?_));refine uv rfl rfl ?_;refine aj (aa (fr 1 ?_));refine lo cm ?_;refine mq ?_;refine ja (bz (t:=(.int .i64)) [(.tmp 9,_)] [p4] rfl rfl eh (.cons rfl .int .nil) rfl rfl) ?_;obtain⟨u6,e,h⟩:=ab h;refine fr 2 ?_;refine dV rfl rfl rfl (bY rfl rfl eh (aC e)) ⟨rfl,rfl,trivial⟩ fun v7=>?_;refine wZ fun o8=>?_;refine fr 1 ?_;refine bg rfl rfl (bb rfl cm o8 rfl rfl) ⟨rfl,rfl,trivial⟩ ?_;refine ar (aN (dK 1 rfl ?_));refine dK 1 rfl ?_;refine dK 2 rfl ?_;cases h;exact su v7 2 rfl
 ·
  replace h:=bR (BM hj) h;refine aN (tn (sr (fr 2 ?_)));refine lo cm ?_;refine aq (nt (aA ?_));refine dK 1 rfl ?_;refine xc ?_;refine bM (SE.fin (Γ':=[(4,_)]) [2,1,0] ⟨rfl,trivial⟩ rfl) ?_;cases h;exact aM z3 [.eq z3] 2 ⟨rfl,trivial⟩ rfl
 ·
  replace h:=cK (BL hj) h;cases h
def jZ(k:Nat)(a0:(List Int)):Option (List Int):=
 (jf k a0).bind fun r1=>
 some r1
theorem pG(k:Nat)(a0:(List Int))(c:Nat)(r:(List Int))(h:jZ k a0=some r):
 bW Tryz.prog 144 [.eq (.func (.func 146) #[] #[(Pv c)])] [.obj c 23 (Ri a0)] (fun z:Value=>(bp [.eq z],[.sl z 3 (.int .i64) r,.obj c 23 (Ri a0)])):=by
 unfold jZ at h
 replace h:=ba h
 refine bW.of 5 Tryz.func144 rfl Tryz.ntmps144 rfl fun S w0=>?_
 refine sr ?_
 refine cq ?_
 refine nt ?_
 refine sr ?_
 refine mq ?_
 obtain⟨r1,e,h⟩:=ab h
 have j:=nE k a0 c r1 e
 refine bN (Δ:=[_]) (F:=_) (fun _ _ _=>av rfl _) rfl rfl (ap [.const (.slice none 0 0),.tmp 3] rfl rfl N8 rfl j) ⟨rfl,rfl,trivial⟩ fun z2=>?_
 refine aq ?_
 refine nt ?_
 refine aA ?_
 cases h
 exact aM z2 [.eq z2] 2 ⟨rfl,trivial⟩ rfl
def oS(k:Nat)(a0:Int):Option Bool:=
 some (!decide (a0=a0))
theorem qU(k:Nat)(a0:Int)(r:Bool)(h:oS k a0=some r):
 bW Tryz.prog 189 [I a0] [] (fun _:Unit=>(bp [.eq (.bool r)],[])):=by
 unfold oS at h
 replace h:=ba h
 refine bW.of 6 Tryz.func189 rfl Tryz.ntmps189 rfl fun S w0=>?_
 refine sr ?_
 refine cq ?_
 refine nt ?_
 refine sr ?_
 iterate 2 refine mq ?_
 refine jb (iS rfl) ?_
 refine aq ?_
 refine nt ?_
 refine aA ?_
 cases h
 exact ra
def ui(k:Nat)(a0:Int)(a1:Int):Option Bool:=
 (((oS k a0).bind fun r3=>
 if r3=true then((oS k a1).bind fun r4=>
 if¬(r4=true) then(some true) else(some (decide (a0 < a1)))) else(some (decide (a0 < a1)))):Option (Bool)).bind fun x1=>
 some x1
theorem yU(k:Nat)(a0:Int)(a1:Int)(r:Bool)(h:ui k a0 a1=some r):
 bW Tryz.prog 202 [I a0,I a1] [] (fun _:Unit=>(bp [.eq (.bool r)],[])):=by
 unfold ui at h
 replace h:=ba h
 refine bW.of 17 Tryz.func202 rfl Tryz.ntmps202 rfl fun S w0=>?_
 refine sr ?_
 refine cq ?_
 refine nt ?_
 refine aP (Z:=Unit) (α:=Bool) (fun z2 x1=>[(4,.eq (.bool x1))]) (fun z2 x1=>[]) h (fun K h=>?_) (fun z2 x1 h=>?_)
 ·
  refine aa (mq ?_);obtain⟨r3,e,h⟩:=ab h;refine ja (ap [.tmp 5] rfl rfl Jv rfl (qU k a0 r3 e)) ?_;refine mq ?_;refine cd (s:=7) rfl (fun hb=>?_) (fun hb=>?_)
  ·replace h:=cK (BL hb) h;refine gm ?_;obtain⟨r4,c,h⟩:=ab h;refine ga (ap [.tmp 8] rfl rfl Jv rfl (qU k a1 r4 c)) ?_;refine ga (dY rfl) ?_;refine pt ?_;refine mq ?_;refine cd (s:=12) rfl (fun hb=>?_) (fun hb=>?_)
   ·replace h:=cK (ET hb) h;iterate 3 refine gn ?_
    refine pt ?_;refine aq (nl ?_);exact jz ((),true) h []
   ·replace h:=bR (yg hb) h;refine gm ?_;refine gm ?_;refine gb (bj rfl) ?_;refine pf ?_;refine aq (nl ?_);exact jz ((),decide (a0 < a1)) h []
  ·replace h:=bR (BM hb) h;iterate 3 refine gn ?_
   refine pf ?_;refine mq ?_;refine gm ?_;refine gm ?_;refine gb (bj rfl) ?_;refine pf ?_;refine aq (nl ?_);exact jz ((),decide (a0 < a1)) h []
 ·
  refine aA ?_;cases h;exact ra
def ct(k:Nat)(a1:Int):Nat→((List Int)×Int)→Option (List Int)
 |0,_=>none
 |n+1,y6=>
  ((if a1 < y6.2 then((a8 y6.1 y6.2).bind fun u=>
  (ck (y6.2 - 1)).bind fun s=>
  (a8 y6.1 s).bind fun r=>
  (ui k u r).bind fun x=>
  some x) else(some false)):Option (Bool)).bind fun x8=>
  if x8=true then((ck (y6.2 - 1)).bind fun e=>
  (ck (y6.2 - 1)).bind fun l=>
  (a8 y6.1 l).bind fun c=>
  (a8 y6.1 y6.2).bind fun j=>
  (a8 y6.1 y6.2).bind fun D=>
  (a8 (List.set y6.1 (Int.toNat y6.2) c) e).bind fun y=>
  (ck (y6.2 - 1)).bind fun h=>
  ct k a1 n (List.set (List.set y6.1 (Int.toNat y6.2) c) (Int.toNat e) j,h)) else(some y6.1)
def cu(k:Nat)(a1:Int)(a2:Int):Nat→((List Int)×Int)→Option (List Int)
 |0,_=>none
 |n+1,y2=>
  if y2.2 < a2 then(((ct k a1 k (y2.1,y2.2)):Option ((List Int))).bind fun x4=>
  (ck (y2.2+1)).bind fun c=>
  cu k a1 a2 n (x4,c)) else(some y2.1)
def dR(k:Nat)(a0:(List Int))(a1:Int)(a2:Int):Option (List Int):=
 (ck (a1+1)).bind fun x1=>
 cu k a1 a2 k (a0,x1)
theorem jp(k:Nat)(a0:(List Int))(c:Value)(a1:Int)(a2:Int)(r:(List Int))(h:dR k a0 a1 a2=some r):
 bW Tryz.prog 196 [.eq c,I a1,I a2] [.sl c 3 (.int .i64) a0] (fun _:Unit=>(bp [],[.sl c 3 (.int .i64) r])):=by
 unfold dR at h
 replace h:=ba h
 refine bW.of 49 Tryz.func196 rfl Tryz.ntmps196 rfl fun S w0=>?_
 refine sr ?_
 refine mq ?_
 obtain⟨x1,Q4,h⟩:=ab h
 refine jb (a9 rfl Q4) ?_
 refine aq ?_
 refine nt ?_
 refine aj ?_
 refine aE (fun z3 y2=>[(0,.eq c),(1,I a1),(2,I a2),(6,I y2.2)]) (fun z3 y2=>[.sl c 3 (.int .i64) y2.1]) (cu k a1 a2) k () (a0,x1) (fun _=>rfl) h (SE.fin [0] ⟨rfl,rfl,rfl,rfl,trivial⟩ rfl) (fun n z3 y2 h=>?_)
 unfold cu at h
 refine ah ?_
 refine sr ?_
 iterate 2 refine mq ?_
 refine jb (bj rfl) ?_
 refine nt ?_
 refine ci h (fun h=>?_) (fun h=>?_)
 ·
  refine sk (aP (Z:=Unit) (α:=(List Int)) (fun z5 x4=>[(0,.eq c),(1,I a1),(2,I a2),(6,I y2.2)]) (fun z5 x4=>[.sl c 3 (.int .i64) x4]) h (fun K h=>?_) (fun z5 x4 h=>?_))
  ·refine aj (sr (mq ?_));refine aq (nt (aj ?_));refine aE (fun z7 y6=>[(0,.eq c),(1,I a1),(2,I a2),(6,I y2.2),(7,I y6.2)]) (fun z7 y6=>[.sl c 3 (.int .i64) y6.1]) (ct k a1) k () (y2.1,y2.2) (fun _=>rfl) h (SE.fin [0] ⟨rfl,rfl,rfl,rfl,rfl,trivial⟩ rfl) (fun n z7 y6 h=>?_);unfold ct at h;refine ah (aP (Z:=Unit) (α:=Bool) (fun z9 x8=>[(0,.eq c),(1,I a1),(2,I a2),(6,I y2.2),(7,I y6.2),(30,.eq (.bool x8))]) (fun z9 x8=>[.sl c 3 (.int .i64) y6.1]) h (fun K h=>?_) (fun z9 x8 h=>?_))
   ·refine bX ?_;refine dm ?_;refine dm ?_;refine db (jM rfl) ?_;refine rf rfl rfl rfl (aQ rfl) ⟨rfl,trivial⟩ (fun hb=>?_) (fun hb=>?_)
    ·replace h:=cK (od hb) h;refine bI rfl rfl rfl rfl rfl (aQ rfl) ⟨rfl,rfl,trivial⟩ ?_;refine bI rfl rfl rfl rfl rfl (aQ rfl) ⟨rfl,rfl,trivial⟩ ?_;obtain⟨QU,x,h⟩:=ab h;refine kx 0 rfl rfl rfl rfl rfl rfl (bJ (t:=(.int .i64)) rfl dW cI x) ⟨rfl,rfl,rfl,trivial⟩ ?_;refine kx 0 rfl rfl rfl rfl rfl rfl (gB (i:=Int.toNat y6.2) (off:=0) rfl cI (fun _=>rfl) rfl (dk x).2.2 rfl) ⟨rfl,rfl,trivial⟩ ?_;refine bI rfl rfl rfl rfl rfl (aQ rfl) ⟨rfl,rfl,trivial⟩ ?_;refine bI rfl rfl rfl rfl rfl (aQ rfl) ⟨rfl,rfl,trivial⟩ ?_;obtain⟨QT,qt,h⟩:=ab h;refine bI rfl rfl rfl rfl rfl (fF rfl qt) ⟨rfl,rfl,rfl,trivial⟩ ?_;obtain⟨QR,u,h⟩:=ab h;refine kx 0 rfl rfl rfl rfl rfl rfl (bJ (t:=(.int .i64)) rfl dW cI u) ⟨rfl,rfl,rfl,trivial⟩ ?_;refine kx 0 rfl rfl rfl rfl rfl rfl (gB (i:=Int.toNat QT) (off:=0) rfl cI (fun _=>rfl) rfl (dk u).2.2 rfl) ⟨rfl,rfl,trivial⟩ ?_;refine df d3 ?_;obtain⟨F,se,h⟩:=ab h;refine gb (ap [.tmp 23,.tmp 28] rfl rfl N3 rfl (yU k QU QR F se)) ?_;refine pt (nl ?_);exact jz ((),F) h [0]
    ·replace h:=bR (nr hb) h;iterate 9 refine dg ?_
     refine df d3 ?_;refine gn ?_;refine pf (nl ?_);exact jz ((),false) h [0]
   ·refine cv h (fun h=>?_) (fun h=>?_)
    ·refine sk (ah (aj (jY ?_)));refine aK rfl rfl rfl (aQ rfl) ⟨rfl,trivial⟩ ?_;refine aK rfl rfl rfl (aQ rfl) ⟨rfl,trivial⟩ ?_;refine aK rfl rfl rfl (aQ rfl) ⟨rfl,trivial⟩ ?_;refine aK rfl rfl rfl (aQ rfl) ⟨rfl,trivial⟩ ?_;obtain⟨y,pp,h⟩:=ab h;refine aK rfl rfl rfl (fF rfl pp) ⟨rfl,rfl,trivial⟩ ?_;refine aK rfl rfl rfl (aQ rfl) ⟨rfl,trivial⟩ ?_;refine aK rfl rfl rfl (aQ rfl) ⟨rfl,trivial⟩ ?_;obtain⟨QQ,mc,h⟩:=ab h;refine aK rfl rfl rfl (fF rfl mc) ⟨rfl,rfl,trivial⟩ ?_;obtain⟨E,s,h⟩:=ab h;refine eV 0 rfl rfl rfl rfl (bJ (t:=(.int .i64)) rfl dW cI s) ⟨rfl,rfl,trivial⟩ ?_;refine eV 0 rfl rfl rfl rfl (gB (i:=Int.toNat QQ) (off:=0) rfl cI (fun _=>rfl) rfl (dk s).2.2 rfl) ⟨rfl,trivial⟩ ?_;refine aK rfl rfl rfl (aQ rfl) ⟨rfl,trivial⟩ ?_;refine aK rfl rfl rfl (aQ rfl) ⟨rfl,trivial⟩ ?_;obtain⟨D,l,h⟩:=ab h;refine eV 0 rfl rfl rfl rfl (bJ (t:=(.int .i64)) rfl dW cI l) ⟨rfl,rfl,trivial⟩ ?_;refine eV 0 rfl rfl rfl rfl (gB (i:=Int.toNat y6.2) (off:=0) rfl cI (fun _=>rfl) rfl (dk l).2.2 rfl) ⟨rfl,trivial⟩ ?_;obtain⟨Rf,j,h⟩:=ab h;refine eV 0 rfl rfl rfl rfl (bJ (t:=(.int .i64)) rfl dW cI j) ⟨rfl,rfl,trivial⟩ ?_;refine ov 15 [true,true,false,false,false,true,true,true,true,true,true,true,true,true,true] [48] [] [] rfl (by kernel_rfl) (by kernel_rfl) (by kernel_rfl) d3 (fun vs hv hB=>?_);obtain⟨w0,Ry,rfl,Q3⟩:=ao hv;obtain⟨w1,Rx,rfl,Q2⟩:=ao Q3;obtain⟨w2,Rw,rfl,Q1⟩:=ao Q2;obtain⟨w3,Ru,rfl,Q0⟩:=ao Q1;obtain⟨w4,Rt,rfl,QZ⟩:=ao Q0;obtain⟨w5,Rr,rfl,QY⟩:=ao QZ;obtain⟨w6,Rq,rfl,QX⟩:=ao QY;obtain⟨w7,Ro,rfl,QW⟩:=ao QX;obtain⟨w8,Rn,rfl,QV⟩:=ao QW;obtain⟨w9,Rb,rfl,X⟩:=ao QV;obtain⟨Rm,Q9,rfl,U⟩:=ao X;obtain⟨Rl,Q8,rfl,Q⟩:=ao U;obtain⟨Rk,Q7,rfl,O⟩:=ao Q;obtain⟨Rj,Q6,rfl,M⟩:=ao O;obtain⟨Rh,Q5,rfl,J⟩:=ao M;obtain rfl:=lK J;refine⟨[0],[.sl c 3 (.int .i64) y6.1],by kernel_rfl,by decide,?_⟩;refine qd rfl rfl (dF (i:=Int.toNat y6.2) rfl cI rfl (jl j) rfl .int rfl) ⟨rfl,rfl,trivial⟩ (by kernel_rfl) ?_;obtain⟨Re,e,h⟩:=ab h;refine GU rfl rfl rfl rfl (bJ (t:=(.int .i64)) rfl dW cI e) ⟨rfl,rfl,trivial⟩ (by kernel_rfl) ?_;refine qd rfl rfl (dF (i:=Int.toNat y) rfl cI rfl (jl e) rfl .int rfl) ⟨rfl,rfl,trivial⟩ (by kernel_rfl) ?_;refine sq ?_;refine bM (SE.fin (Γ':=[(0,.eq c),(1,I a1),(2,I a2),(6,I y2.2),(7,I y6.2)]) (Δ':=[.sl c 3 (.int .i64) (List.set (List.set y6.1 (Int.toNat y6.2) E) (Int.toNat y) D)]) [0] ⟨rfl,rfl,rfl,rfl,rfl,trivial⟩ rfl) ?_;refine aN (tn (aa (mq ?_)));obtain⟨QP,ac,h⟩:=ab h;refine jb (fF rfl ac) ?_;refine aq (nl ?_);exact jz ((),(List.set (List.set y6.1 (Int.toNat y6.2) E) (Int.toNat y) D,QP)) h [0]
    ·refine cZ (aJ (aJ (bH (bn ?_))));exact jz ((),y6.1) h [0]
  ·refine aa (mq ?_);obtain⟨QO,Y,h⟩:=ab h;refine jb (a9 rfl Y) ?_;refine aq (nl ?_);exact jz ((),(x4,QO)) h [0]
 ·
  refine cZ (aJ (aJ (bH (iG ?_))));cases h;exact aM () [] 1 trivial rfl
def j0(k:Nat)(a0:Int):Option Int:=
 ((if 4294967296≤a0 then(some (gZ .u64 a0 32,32)) else(some (a0,0))):Option (Int×Int)).bind fun x1=>
 ((if 65536≤x1.1 then((ck (x1.2+16)).bind fun x5=>
 some (gZ .u64 x1.1 16,x5)) else(some (x1.1,x1.2))):Option (Int×Int)).bind fun x3=>
 ((if 256≤x3.1 then((ck (x3.2+8)).bind fun x8=>
 some (gZ .u64 x3.1 8,x8)) else(some (x3.1,x3.2))):Option (Int×Int)).bind fun x6=>
 (Aj H2 (IntKind.u8.wrap x6.1)).bind fun x9=>
 (ck (x9.toNat:Int)).bind fun e=>
 (ck (x6.2+e)).bind fun c=>
 some c
theorem pS(k:Nat)(a0:Int)(r:Int)(h:j0 k a0=some r):
 bW Tryz.prog 206 [.eq (.int .u64 a0)] [] (fun _:Unit=>(bp [I r],[])):=by
 unfold j0 at h
 replace h:=ba h
 refine bW.of 25 Tryz.func206 rfl Tryz.ntmps206 rfl fun S w0=>?_
 refine sr ?_
 refine cq ?_
 refine nt ?_
 refine aP (Z:=Unit) (α:=Int×Int) (fun z2 x1=>[(0,.eq (.int .u64 x1.1)),(2,I x1.2)]) (fun z2 x1=>[]) h (fun K h=>?_) (fun z2 x1 h=>?_)
 ·
  refine sr (mq ?_);refine jb (ni rfl) ?_;refine nt (ci h (fun h=>?_) (fun h=>?_))
  ·refine sr (mq ?_);refine aB rfl (tQ rfl (by decide)) ⟨rfl,rfl,trivial⟩ ?_;refine aq (nt (aa ?_));refine cq (nl ?_);exact jz ((),(gZ .u64 a0 32,32)) h []
  ·refine aS (ae ?_);exact jz ((),(a0,0)) h []
 ·
  refine aP (Z:=Unit) (α:=Int×Int) (fun z4 x3=>[(0,.eq (.int .u64 x3.1)),(2,I x3.2)]) (fun z4 x3=>[]) h (fun K h=>?_) (fun z4 x3 h=>?_)
  ·refine sr (mq ?_);refine jb (ni rfl) ?_;refine nt (ci h (fun h=>?_) (fun h=>?_))
   ·refine sr (mq ?_);refine aB rfl (tQ rfl (by decide)) ⟨rfl,rfl,trivial⟩ ?_;refine aq (nt (aa ?_));refine mq ?_;obtain⟨x5,n,h⟩:=ab h;refine jb (a9 rfl n) ?_;refine aq (nl ?_);exact jz ((),(gZ .u64 x1.1 16,x5)) h []
   ·refine aS (ae ?_);exact jz ((),(x1.1,x1.2)) h []
  ·refine aP (Z:=Unit) (α:=Int×Int) (fun z7 x6=>[(0,.eq (.int .u64 x6.1)),(2,I x6.2)]) (fun z7 x6=>[]) h (fun K h=>?_) (fun z7 x6 h=>?_)
   ·refine sr (mq ?_);refine jb (ni rfl) ?_;refine nt (ci h (fun h=>?_) (fun h=>?_))
    ·refine sr (mq ?_);refine aB rfl (tQ rfl (by decide)) ⟨rfl,rfl,trivial⟩ ?_;refine aq (nt (aa ?_));refine mq ?_;obtain⟨x8,l,h⟩:=ab h;refine jb (a9 rfl l) ?_;refine aq (nl ?_);exact jz ((),(gZ .u64 x3.1 8,x8)) h []
    ·refine aS (ae ?_);exact jz ((),(x3.1,x3.2)) h []
   ·refine sr ?_;iterate 2 refine mq ?_
    refine ja (nJ rfl O7 U5) ?_;obtain⟨x9,j,h⟩:=ab h;refine ja (yb rfl U9 j) ?_;obtain⟨u,e,h⟩:=ab h;refine ja (yc rfl U5 U3 e) ?_;obtain⟨s,c,h⟩:=ab h;refine jb (a9 rfl c) ?_;refine aq (nt (aA ?_));cases h;exact ra
def wT(k:Nat)(a0:Int):Option Int:=
 (j0 k a0).bind fun r1=>
 some r1
theorem AC(k:Nat)(a0:Int)(r:Int)(h:wT k a0=some r):
 bW Tryz.prog 185 [.eq (.int .u64 a0)] [] (fun _:Unit=>(bp [I r],[])):=by
 unfold wT at h
 replace h:=ba h
 refine bW.of 8 Tryz.func185 rfl Tryz.ntmps185 rfl fun S w0=>?_
 refine sr ?_
 refine cq ?_
 refine nt ?_
 refine ah ?_
 refine G2 (fun hb=>(by cases hb)) (fun hb=>?_)
 refine sk ?_
 refine sr ?_
 refine mq ?_
 obtain⟨r1,c,h⟩:=ab h
 have e:=pS k a0 r1 c
 refine ja (ap [.tmp 6] rfl rfl NZ rfl e) ?_
 refine aq ?_
 refine nt ?_
 refine aA ?_
 cases h
 exact ra
def fa(k:Nat)(a0:(List Int))(a1:Int)(a2:Int)(a3:Int):Nat→Unit→Option (List Int)
 |0,_=>none
 |n+1,y1=>
  (ck (a2 - a1)).bind fun x3=>
  if x3≤12 then((dR k a0 a1 a2).bind fun r4=>
  some r4) else(if a3=0 then(none) else(none))
def gf(k:Nat)(a0:(List Int))(a1:Int)(a2:Int)(a3:Int):Option (List Int):=
 fa k a0 a1 a2 a3 k ()
theorem lx(k:Nat)(a0:(List Int))(c:Value)(a1:Int)(a2:Int)(a3:Int)(r:(List Int))(h:gf k a0 a1 a2 a3=some r):
 bW Tryz.prog 184 [.eq c,I a1,I a2,I a3] [.sl c 3 (.int .i64) a0] (fun _:Unit=>(bp [],[.sl c 3 (.int .i64) r])):=by
 unfold gf at h
 replace h:=ba h
 refine bW.of 134 Tryz.func184 rfl Tryz.ntmps184 rfl fun S w0=>?_
 refine sr ?_
 refine cq ?_
 refine nt ?_
 refine sr ?_
 refine cq ?_
 refine nt ?_
 refine aj ?_
 refine aE (fun z2 y1=>[(0,.eq c),(1,I a1),(2,I a2),(3,I a3),(8,.eq (.bool true)),(9,.eq (.bool true))]) (fun z2 y1=>[.sl c 3 (.int .i64) a0]) (fa k a0 a1 a2 a3) k () () (fun _=>rfl) h (SE.fin [0] ⟨rfl,rfl,rfl,rfl,rfl,rfl,trivial⟩ rfl) (fun n z2 y1 h=>?_)
 unfold fa at h
 refine aj ?_
 refine sr ?_
 iterate 2 refine mq ?_
 obtain⟨x3,e,h⟩:=ab h
 refine jb (fF rfl e) ?_
 refine aq ?_
 refine nt ?_
 refine ah ?_
 refine sr ?_
 refine mq ?_
 refine jb (tV rfl) ?_
 refine nt ?_
 refine ci h (fun h=>?_) (fun h=>?_)
 ·
  refine sr ?_;iterate 3 refine mq ?_
  obtain⟨r4,j,h⟩:=ab h;refine kc (ap [.tmp 24,.tmp 25,.tmp 26] rfl rfl N4 rfl (jp k a0 c a1 a2 r4 j)) ?_;refine nt (rx (aY (aO (aY ?_))));cases h;exact aM () [] 1 trivial rfl
 ·
  refine sk (ah (sr (mq ?_)));refine jb (eY rfl) ?_;refine nt (ci h (fun h=>?_) (fun h=>?_))
  ·refine sr ?_;iterate 3 refine mq ?_
   cases h
  ·refine sk (ah (sr (mq ?_)));refine ja (dY rfl) ?_;refine nt (bC rfl (fun hb=>(by cases hb)) (fun hb=>?_));refine sk (sr ?_);iterate 3 refine mq ?_
   cases h
def mR(k:Nat)(a0:(List Int)):Option (List Int):=
 (wT k (IntKind.u64.wrap (a0.length:Int))).bind fun r1=>
 (gf k a0 0 (a0.length:Int) r1).bind fun r2=>
 some r2
theorem sN(k:Nat)(a0:(List Int))(c:Value)(r:(List Int))(h:mR k a0=some r):
 bW Tryz.prog 145 [.eq c] [.sl c 3 (.int .i64) a0] (fun _:Unit=>(bp [],[.sl c 3 (.int .i64) r])):=by
 unfold mR at h
 replace h:=ba h
 refine bW.of 11 Tryz.func145 rfl Tryz.ntmps145 rfl fun S w0=>?_
 refine sr ?_
 refine mq ?_
 refine ka (dj rfl rfl dW) ?_
 refine aq ?_
 refine nt ?_
 refine aa ?_
 iterate 3 refine mq ?_
 refine ja (nJ rfl U3 Qm) ?_
 obtain⟨r1,j,h⟩:=ab h
 have n:=AC k (IntKind.u64.wrap (a0.length:Int)) r1 j
 refine ja (ap [.tmp 8] rfl rfl N6 rfl n) ?_
 obtain⟨r2,e,h⟩:=ab h
 have l:=lx k a0 c 0 (a0.length:Int) r1 r2 e
 refine bQ rfl rfl rfl (ap [.tmp 5,.const (.int .i64 (0)),.tmp 6,.tmp 9] rfl rfl N7 rfl l) ⟨rfl,rfl,rfl,rfl,trivial⟩ ?_
 refine ar ?_
 refine iG ?_
 cases h
 exact aM () [] 1 trivial rfl
def kS(k:Nat)(a0:(List Int)):Option (List Int):=
 (jZ k a0).bind fun r1=>
 (mR k r1).bind fun r3=>
 some r3
theorem qy(k:Nat)(a0:(List Int))(c:Nat)(r:(List Int))(h:kS k a0=some r):
 bW Tryz.prog 108 [.eq (.func (.func 146) #[] #[(Pv c)])] [.obj c 23 (Ri a0)] (fun _:Unit=>(bp [Ri r],[.obj c 23 (Ri a0)])):=by
 unfold kS at h
 replace h:=ba h
 refine bW.of 9 Tryz.func108 rfl Tryz.ntmps108 rfl fun S w0=>?_
 refine sr ?_
 refine cq ?_
 refine nt ?_
 refine sr ?_
 refine mq ?_
 obtain⟨r1,j,h⟩:=ab h
 have n:=pG k a0 c r1 j
 refine bN (Δ:=[_]) (F:=_) (fun _ _ _=>av rfl _) rfl rfl (ap [.tmp 4] rfl rfl Og rfl n) ⟨rfl,trivial⟩ fun z2=>?_
 refine aq ?_
 refine nt ?_
 refine sr ?_
 refine mq ?_
 obtain⟨r3,e,h⟩:=ab h
 have l:=sN k r1 z2 r3 e
 refine ka (ap [.tmp 6] rfl rfl Of rfl l) ?_
 refine nt ?_
 refine sr ?_
 refine mq ?_
 refine aq ?_
 refine nt ?_
 refine aA ?_
 refine bM (gK [2,3,5,6,8] ⟨rfl,rfl,rfl,rfl,rfl,trivial⟩) ?_
 cases h
 exact aM () [_] 1 ⟨rfl,trivial⟩ rfl
theorem qx(a0:(List Int)):bW Tryz.prog 109 [Ri a0] [] (fun z:Nat=>(bp [.eq (.func (.func 146) #[] #[(Pv z)])],[.obj z 23 (Ri a0)])):=by
 refine bW.of 4 Tryz.func109 rfl Tryz.ntmps109 rfl fun S w0=>?_;refine sr (bx fun z=>?_);refine cq (nt (sr ?_));refine ja (rL [] [.tmp 1] [] [(Pv z)] rfl rfl rfl) ?_;refine aq (nt (aA ?_));exact aM z [_] 1 ⟨rfl,trivial⟩ rfl
def dy{σ:Type}(k:Nat)(a0:(List (List Int)))(a1:Int)(a2:Int)(a3:cR)(self:(List (List Int))→Int→Int→σ→Option (Bool×σ))(h:(List Int)):Nat→(Int×σ)→Option (Except (Bool×σ) (σ))
 |0,_=>none
 |n+1,c=>
  if c.1 < (a3.1.2.1.length:Int) then(bE (α:=σ) ((a8 a3.1.2.1 c.1).bind fun y=>
  (((eE k a2 c.1).bind fun I=>
  if I=true then(some (true,c.2)) else((mg k a3.1 h).bind fun F=>
  (ck (F+y.1)).bind fun x=>
  (a8 a3.1.2.2 a1).bind fun u=>
  some (decide (u < x),c.2))):Option (Bool×σ)).bind fun j=>
  if j.1=true then(some (.ok j.2)) else((d4 (0≤a1∧a1 < 3)).bind fun _=>
  (a8 a0 a1).bind fun s=>
  (d4 (0≤(h.length:Int)∧(h.length:Int) < 5)).bind fun _=>
  (d6 k a2 c.1).bind fun E=>
  (self (List.set a0 (Int.toNat a1) (List.set s (Int.toNat (h.length:Int)) c.1)) a1 E j.2).bind fun l=>
  if¬(l.1=true) then(some (.error (false,l.2))) else(some (.ok l.2)))) (fun e=>some (.error e)) fun D=>
  (ck (c.1+1)).bind fun r=>
  dy k a0 a1 a2 a3 self h n (r,D)) else(some (.ok c.2))
def cM{σ:Type}(k:Nat)(Y:σ→(List (List Int))→Option (σ×Bool))(a3:cR):Nat→(List (List Int))→Int→Int→σ→Option (Bool×σ)
 |0,_,_,_,_=>none
 |m0+1,a0,a1,a2,s0=>
  if a1=(a3.1.2.2.length:Int) then((((d4 (0≤(a3.1.2.1.length:Int))).bind fun _=>
  if¬(a2=(IntKind.u8.wrap ((mD .u8 1 (a3.1.2.1.length:Int)) - 1))) then(some (true,s0)) else((Y s0 a0).bind fun r5=>
  some (r5.2,r5.1))):Option (Bool×σ)).bind fun x2=>
  some (x2.1,x2.2)) else((ck (a1+1)).bind fun x7=>
  ((cM k Y a3 m0) a0 x7 a2 s0).bind fun r8=>
  if¬(r8.1=true) then(some (false,r8.2)) else((dz k a0 a1).bind fun e=>
  bE (α:=σ) (dy k a0 a1 a2 a3 (cM k Y a3 m0) e k (0,r8.2)) (some) fun c=>
  some (true,c)))
theorem lV{M:Md Tryz.prog}{σ Z:Type}(E:Z→σ→List D)(l:Nat)(Y:σ→(List (List Int))→Option (σ×Bool))(k:Nat)(a3:cR)(u:Nat)(x:Nat)(c:Nat)(hY:∀z s p r,Y s p=some r→YT M l [.rep (.arr 3 (.arr 5 (.int .i64))) p] (E z s) (fun z':Z=>(.eq (.bool r.2),E z' r.1))):
 ∀(n:Nat) (a0:(List (List Int))) (a1:Int) (a2:Int) (z0:Z) (s0:σ) (r:Bool×σ),cM k Y a3 n a0 a1 a2 s0=some r→dn M 149 [.rep (.arr 3 (.arr 5 (.int .i64))) a0,I a1,.eq (.int .u8 a2),Pt u,Pt x,Pt c] ([.obj u 102 (.at bB a3),.obj x 210 (.eq (.func (.yield l) #[] #[])),.obj c 211 (.eq (.func (.func 149) #[] #[(Pv u),(Pv x),(Pv c)]))]++E z0 s0) (fun z:Z=>(bp [.eq (.bool r.1)],[.obj u 102 (.at bB a3),.obj x 210 (.eq (.func (.yield l) #[] #[])),.obj c 211 (.eq (.func (.func 149) #[] #[(Pv u),(Pv x),(Pv c)]))]++E z r.2)):=by
 intro n
 induction n with
 |zero=>intro a0 a1 a2 z0 s0 r h;cases h
 |succ m0 ih=>
  intro a0 a1 a2 z0 s0 r h;rw [cM] at h;replace h:=ba h;refine dn.of 97 Tryz.func149 rfl Tryz.ntmps149 rfl fun S w0=>?_;refine sr (bx fun b1=>?_);refine cq (nt (ah (sr ?_)));refine mq ?_;refine fr 1 ?_;refine lo qu ?_;refine ja (dr rfl) ?_;refine ja (aI 3 true rfl jm rfl) ?_;refine ja (aI 1 false rfl fD rfl) ?_;refine ja (ak (t:=(.slice (.int .i64))) rfl cm rfl) ?_;refine ol dW ?_;refine jb (eY rfl) ?_;refine nt (ci h (fun h=>?_) (fun h=>?_))
  ·refine aP (Z:=Z) (α:=Bool×σ) (fun z3 x2=>[(9,.eq (.bool x2.1))]) (fun z3 x2=>[.obj u 102 (.at bB a3),.obj x 210 (.eq (.func (.yield l) #[] #[])),.obj c 211 (.eq (.func (.func 149) #[] #[(Pv u),(Pv x),(Pv c)]))]++E z3 x2.2) h (fun K h=>?_) (fun z3 x2 h=>?_)
   ·refine aa (mq ?_);refine lo qu ?_;refine ja (dr rfl) ?_;refine ja (aI 3 true rfl jm rfl) ?_;refine ja (aI 1 false rfl eA rfl) ?_;refine ja (ak (t:=(.slice cF)) rfl kj rfl) ?_;refine ol sH ?_;obtain⟨u4,Re,h⟩:=ab h;refine jb (ED rfl (aC Re)) ?_;refine jb (EC rfl) ?_;refine jb (iS rfl) ?_;refine mq ?_;refine cd (s:=32) rfl (fun hb=>?_) (fun hb=>?_)
    ·replace h:=cK (LO hb) h;iterate 3 refine gn ?_
     refine pt ?_;refine aq (nl ?_);exact iE (z0,(true,s0)) h (be [.obj u 102 (.at bB a3),.obj b1 107 (.rep (.arr 3 (.arr 5 (.int .i64))) a0),.obj x 210 (.eq (.func (.yield l) #[] #[])),.obj c 211 (.eq (.func (.func 149) #[] #[(Pv u),(Pv x),(Pv c)]))] (E z0 s0) [0,2,3] ⟨rfl,trivial⟩ rfl)
    ·replace h:=bR (CN hb) h;refine fr 2 ?_;refine l5 rfl rfl rfl rfl rfl rfl (an rfl MH mY rfl) ⟨rfl,trivial⟩ ?_;refine fr 2 ?_;refine l5 rfl rfl rfl rfl rfl rfl (an rfl cP (uA) rfl) ⟨rfl,trivial⟩ ?_;obtain⟨r5,Rh,h⟩:=ab h;refine fr 3 ?_;refine fr 3 ?_;refine fr 3 ?_;refine fr 3 ?_;refine Ds [.obj b1 107 (.rep (.arr 3 (.arr 5 (.int .i64))) a0),.obj x 210 (.eq (.func (.yield l) #[] #[])),.obj u 102 (.at bB a3),.obj c 211 (.eq (.func (.func 149) #[] #[(Pv u),(Pv x),(Pv c)]))] rfl rfl rfl rfl rfl rfl (wj [.tmp 34] rfl rfl rfl (hY z0 s0 a0 r5 Rh)) ⟨rfl,rfl,trivial⟩ fun z6=>?_;refine pf ?_;refine aq (nl ?_);exact iE (z6,(r5.2,r5.1)) h (be [.obj b1 107 (.rep (.arr 3 (.arr 5 (.int .i64))) a0),.obj x 210 (.eq (.func (.yield l) #[] #[])),.obj u 102 (.at bB a3),.obj c 211 (.eq (.func (.func 149) #[] #[(Pv u),(Pv x),(Pv c)]))] (E z6 r5.1) [2,1,3] ⟨rfl,trivial⟩ rfl)
   ·refine rx ?_;cases h;exact io z3 [_] ⟨rfl,trivial⟩ rfl
  ·refine sk (ah (sr (fr 3 ?_)));refine lo AQ ?_;refine fr 2 ?_;refine lo cP ?_;refine mq ?_;obtain⟨x7,Rb,h⟩:=ab h;refine jb (a9 rfl Rb) ?_;refine mq ?_;obtain⟨r8,Rf,h⟩:=ab h;refine fr 1 ?_;refine fr 3 ?_;refine fr 3 ?_;refine fr 3 ?_;refine ou [.obj b1 107 (.rep (.arr 3 (.arr 5 (.int .i64))) a0)] rfl rfl rfl (nK (fs:=[]) (cs:=[(Pv u),(Pv x),(Pv c)]) (ags:=[.rep (.arr 3 (.arr 5 (.int .i64))) a0,I x7,.eq (.int .u8 a2)]) [.tmp 38,.tmp 40,.tmp 41] rfl rfl Gh rfl (ih a0 x7 a2 z0 s0 r8 Rf)) ⟨rfl,rfl,rfl,rfl,trivial⟩ fun z9=>?_;refine ja (dY rfl) ?_;refine nt (cw h (fun h=>?_) (fun h=>?_))
   ·refine sr (cq (nt (rx ?_)));refine bM (be (Γ':=[(9,_)]) [.obj b1 107 (.rep (.arr 3 (.arr 5 (.int .i64))) a0),.obj u 102 (.at bB a3),.obj x 210 (.eq (.func (.yield l) #[] #[])),.obj c 211 (.eq (.func (.func 149) #[] #[(Pv u),(Pv x),(Pv c)]))] (E z9 r8.2) [1,2,3] ⟨rfl,trivial⟩ rfl) ?_;cases h;exact io z9 [_] ⟨rfl,trivial⟩ rfl
   ·refine sk (sr (lo cP ?_));refine mq ?_;obtain⟨F,Q3,h⟩:=ab h;refine jb (ap [.tmp 44,.tmp 45] rfl rfl Bh rfl (fL k a0 a1 F Q3)) ?_;refine aq (nt ?_);refine dC (Z:=Z) (α:=σ) (fun qt QP=>[]) (fun qt QP=>[.obj u 102 (.at bB a3),.obj x 210 (.eq (.func (.yield l) #[] #[])),.obj c 211 (.eq (.func (.func 149) #[] #[(Pv u),(Pv x),(Pv c)]))]++E qt QP) (fun e=>e=r) h (fun e h=>Option.some.inj h) (fun K hR h=>?_) (fun qt QP h=>?_)
    ·refine sr (fr 1 ?_);refine lo qu ?_;refine ja (dr rfl) ?_;refine ja (aI 3 true rfl jm rfl) ?_;refine ja (aI 1 false rfl eA rfl) ?_;refine ja (ak (t:=(.slice cF)) rfl kj rfl) ?_;refine ol sH ?_;refine eK rfl ?_;refine nt (aj (aE (Z:=Z) (α:=Int×σ) (fun J y=>[(1,I a1),(2,.eq (.int .u8 a2)),(3,Pt u),(5,Pt c),(6,Pt b1),(10,Ri F),(51,Rs cF a3.1.2.1),(52,I (a3.1.2.1.length:Int)),(53,I y.1)]) (fun J y=>[.obj u 102 (.at bB a3),.obj c 211 (.eq (.func (.func 149) #[] #[(Pv u),(Pv x),(Pv c)])),.obj x 210 (.eq (.func (.yield l) #[] #[])),.obj b1 107 (.rep (.arr 3 (.arr 5 (.int .i64))) a0)]++E J y.2) (dy k a0 a1 a2 a3 (cM k Y a3 m0) F) k z9 (0,r8.2) (fun _=>rfl) h (be [.obj u 102 (.at bB a3),.obj b1 107 (.rep (.arr 3 (.arr 5 (.int .i64))) a0),.obj x 210 (.eq (.func (.yield l) #[] #[])),.obj c 211 (.eq (.func (.func 149) #[] #[(Pv u),(Pv x),(Pv c)]))] (E z9 r8.2) [0,3,2,1] ⟨rfl,rfl,rfl,rfl,rfl,rfl,rfl,rfl,rfl,trivial⟩ rfl) (fun n J y h=>?_)));unfold dy at h;refine sr (jb (bj rfl) ?_);refine nt (ah (ci h (fun h=>?_) (fun h=>?_)))
     ·refine sk (dC (Z:=Z) (α:=σ) (fun X mc=>[(1,I a1),(2,.eq (.int .u8 a2)),(3,Pt u),(5,Pt c),(6,Pt b1),(10,Ri F),(51,Rs cF a3.1.2.1),(52,I (a3.1.2.1.length:Int)),(53,I y.1)]) (fun X mc=>[.obj u 102 (.at bB a3),.obj c 211 (.eq (.func (.func 149) #[] #[(Pv u),(Pv x),(Pv c)])),.obj x 210 (.eq (.func (.yield l) #[] #[])),.obj b1 107 (.rep (.arr 3 (.arr 5 (.int .i64))) a0)]++E X mc) (fun e=>e=r) h (fun e h=>hR e h) (fun K hR h=>?_) (fun X mc h=>?_))
      ·refine aj (sr (mq ?_));obtain⟨QT,QY,h⟩:=ab h;refine jb (aF (t:=cF) rfl sH mP QY) ?_;refine ja (ak (t:=cF) rfl mP rfl) ?_;refine aL rfl rfl rfl (bL rfl vU IO) trivial fun Q4=>?_;refine aq ?_;refine bg rfl rfl (bb rfl mP rfl rfl rfl) ⟨rfl,rfl,trivial⟩ ?_;refine nt (ah (aP (Z:=Z) (α:=Bool×σ) (fun U O=>[(1,I a1),(2,.eq (.int .u8 a2)),(3,Pt u),(5,Pt c),(6,Pt b1),(10,Ri F),(11,I y.1),(51,Rs cF a3.1.2.1),(52,I (a3.1.2.1.length:Int)),(53,I y.1),(80,.eq (.bool O.1))]) (fun U O=>[.obj u 102 (.at bB a3),.obj c 211 (.eq (.func (.func 149) #[] #[(Pv u),(Pv x),(Pv c)])),.obj x 210 (.eq (.func (.yield l) #[] #[])),.obj b1 107 (.rep (.arr 3 (.arr 5 (.int .i64))) a0)]++E U O.2) h (fun K h=>?_) (fun U O h=>?_)))
       ·refine bX ?_;refine dm ?_;refine dm ?_;obtain⟨Q9,Q2,h⟩:=ab h;refine db (ap [.tmp 58,.tmp 59] rfl rfl Iw rfl (g8 k a2 y.1 Q9 Q2)) ?_;refine rf rfl rfl rfl (aQ rfl) ⟨rfl,trivial⟩ (fun hb=>?_) (fun hb=>?_)
        ·replace h:=cK (BL hb) h;iterate 17 refine dg ?_
         refine df d3 ?_;refine gn ?_;refine pt (nl ?_);exact iE (J,(true,y.2)) h (be [.obj Q4 27 (.rep cF QT),.obj u 102 (.at bB a3),.obj c 211 (.eq (.func (.func 149) #[] #[(Pv u),(Pv x),(Pv c)])),.obj x 210 (.eq (.func (.yield l) #[] #[])),.obj b1 107 (.rep (.arr 3 (.arr 5 (.int .i64))) a0)] (E J y.2) [1,2,3,4] ⟨rfl,rfl,rfl,rfl,rfl,rfl,rfl,rfl,rfl,rfl,rfl,trivial⟩ rfl)
        ·replace h:=bR (BM hb) h;refine kx 1 rfl rfl rfl rfl rfl rfl (an rfl qu mY rfl) ⟨rfl,rfl,trivial⟩ ?_;refine bI rfl rfl rfl rfl rfl (dr rfl) ⟨rfl,rfl,trivial⟩ ?_;refine bI rfl rfl rfl rfl rfl (aI 3 true rfl jm rfl) ⟨rfl,rfl,trivial⟩ ?_;refine bI rfl rfl rfl rfl rfl (ak (t:=aD) rfl hH rfl) ⟨rfl,rfl,trivial⟩ ?_;refine bI rfl rfl rfl rfl rfl (aQ rfl) ⟨rfl,rfl,trivial⟩ ?_;obtain⟨Q8,Q1,h⟩:=ab h;refine bI rfl rfl rfl rfl rfl (ap [.tmp 65,.tmp 66] rfl rfl Jw rfl (sx k a3.1 F Q8 Q1)) ⟨rfl,rfl,rfl,trivial⟩ ?_;refine bI rfl rfl rfl rfl rfl (aw rfl nZ) ⟨rfl,rfl,trivial⟩ ?_;refine kx 0 rfl rfl rfl rfl rfl rfl (an rfl cI mY rfl) ⟨rfl,rfl,trivial⟩ ?_;obtain⟨Q7,QX,h⟩:=ab h;refine bI rfl rfl rfl rfl rfl (a9 rfl QX) ⟨rfl,rfl,rfl,trivial⟩ ?_;refine kx 1 rfl rfl rfl rfl rfl rfl (an rfl qu mY rfl) ⟨rfl,rfl,trivial⟩ ?_;refine bI rfl rfl rfl rfl rfl (dr rfl) ⟨rfl,rfl,trivial⟩ ?_;refine bI rfl rfl rfl rfl rfl (aI 3 true rfl jm rfl) ⟨rfl,rfl,trivial⟩ ?_;refine bI rfl rfl rfl rfl rfl (aI 1 false rfl fD rfl) ⟨rfl,rfl,trivial⟩ ?_;refine bI rfl rfl rfl rfl rfl (ak (t:=(.slice (.int .i64))) rfl cm rfl) ⟨rfl,rfl,trivial⟩ ?_;refine bI rfl rfl rfl rfl rfl (aQ rfl) ⟨rfl,rfl,trivial⟩ ?_;obtain⟨Q6,QW,h⟩:=ab h;refine bI rfl rfl rfl rfl rfl (aF (t:=(.int .i64)) rfl dW cI QW) ⟨rfl,rfl,rfl,trivial⟩ ?_;refine bI rfl rfl rfl rfl rfl (ak (t:=(.int .i64)) rfl cI rfl) ⟨rfl,rfl,trivial⟩ ?_;refine df d3 ?_;refine gb (jM rfl) ?_;refine pf (nl ?_);exact iE (J,(decide (Q6 < Q7),y.2)) h (be [.obj Q4 27 (.rep cF QT),.obj u 102 (.at bB a3),.obj c 211 (.eq (.func (.func 149) #[] #[(Pv u),(Pv x),(Pv c)])),.obj x 210 (.eq (.func (.yield l) #[] #[])),.obj b1 107 (.rep (.arr 3 (.arr 5 (.int .i64))) a0)] (E J y.2) [1,2,3,4] ⟨rfl,rfl,rfl,rfl,rfl,rfl,rfl,rfl,rfl,rfl,rfl,trivial⟩ rfl)
       ·refine cv h (fun h=>?_) (fun h=>?_)
        ·refine cZ (aJ (bH (ae ?_)));exact iE (U,O.2) h (be [.obj u 102 (.at bB a3),.obj c 211 (.eq (.func (.func 149) #[] #[(Pv u),(Pv x),(Pv c)])),.obj x 210 (.eq (.func (.yield l) #[] #[])),.obj b1 107 (.rep (.arr 3 (.arr 5 (.int .i64))) a0)] (E U O.2) [0,1,2,3] ⟨rfl,rfl,rfl,rfl,rfl,rfl,rfl,rfl,rfl,trivial⟩ rfl)
        ·refine sk (sr (fr 3 ?_));refine lo cP ?_;refine aL rfl rfl rfl (bL rfl l9 mJ) trivial fun QR=>?_;refine bg rfl rfl (bb rfl cP rfl rfl rfl) ⟨rfl,rfl,trivial⟩ ?_;refine nt (sr ?_);iterate 2 refine mq ?_
         refine ol dW ?_;refine mq ?_;obtain⟨Rk,QO,h⟩:=ab h;refine jb (ie rfl IU xJ (aC QO).1 (aC QO).2) ?_;obtain⟨ac,QV,h⟩:=ab h;obtain⟨Rj,Q,h⟩:=ab h;refine jb (ie rfl IV cI (aC Q).1 (aC Q).2) ?_;refine bg rfl rfl (mV (t:=(.int .i64)) (off:=0) (i:=a1) (j:=(F.length:Int)) (N:=3) (L:=5) rfl cI .int rfl rfl rfl rfl QV (aC Q).1 (aC Q).2 rfl) ⟨rfl,rfl,trivial⟩ ?_;refine nt (ah (bX ?_));refine ea 3 (an rfl AQ mY rfl) ?_;refine ea 0 (an rfl cP (uA) rfl) ?_;refine dm ?_;refine dm ?_;refine dm ?_;obtain⟨QQ,Q0,h⟩:=ab h;refine db (ap [.tmp 91,.tmp 92] rfl rfl Bg rfl (iI k a2 y.1 QQ Q0)) ?_;refine df d3 ?_;obtain⟨se,QZ,h⟩:=ab h;refine fr 3 ?_;refine fr 4 ?_;refine fr 4 ?_;refine fr 4 ?_;refine fr 4 ?_;refine ou [.obj QR 107 (.rep (.arr 3 (.arr 5 (.int .i64))) (List.set a0 (Int.toNat a1) (List.set ac (Int.toNat (F.length:Int)) y.1))),.obj b1 107 (.rep (.arr 3 (.arr 5 (.int .i64))) a0)] rfl rfl rfl (nK (fs:=[]) (cs:=[(Pv u),(Pv x),(Pv c)]) (ags:=[.rep (.arr 3 (.arr 5 (.int .i64))) (List.set a0 (Int.toNat a1) (List.set ac (Int.toNat (F.length:Int)) y.1)),I a1,.eq (.int .u8 QQ)]) [.tmp 89,.tmp 90,.tmp 93] rfl rfl Gh rfl (ih (List.set a0 (Int.toNat a1) (List.set ac (Int.toNat (F.length:Int)) y.1)) a1 QQ U O.2 se QZ)) ⟨rfl,rfl,rfl,rfl,trivial⟩ fun pp=>?_;refine ja (dY rfl) ?_;refine nt (cw h (fun h=>?_) (fun h=>?_))
         ·refine sr (cq (nt (aA (br (aY (aO ?_))))));refine bM (be (Γ':=[(9,_)]) [.obj QR 107 (.rep (.arr 3 (.arr 5 (.int .i64))) (List.set a0 (Int.toNat a1) (List.set ac (Int.toNat (F.length:Int)) y.1))),.obj b1 107 (.rep (.arr 3 (.arr 5 (.int .i64))) a0),.obj u 102 (.at bB a3),.obj x 210 (.eq (.func (.yield l) #[] #[])),.obj c 211 (.eq (.func (.func 149) #[] #[(Pv u),(Pv x),(Pv c)]))] (E pp se.2) [2,3,4] ⟨rfl,trivial⟩ rfl) ?_;obtain rfl:=hR _ h;exact io pp [_] ⟨rfl,trivial⟩ rfl
         ·refine aS (bn ?_);exact iE (pp,se.2) h (be [.obj QR 107 (.rep (.arr 3 (.arr 5 (.int .i64))) (List.set a0 (Int.toNat a1) (List.set ac (Int.toNat (F.length:Int)) y.1))),.obj b1 107 (.rep (.arr 3 (.arr 5 (.int .i64))) a0),.obj u 102 (.at bB a3),.obj x 210 (.eq (.func (.yield l) #[] #[])),.obj c 211 (.eq (.func (.func 149) #[] #[(Pv u),(Pv x),(Pv c)]))] (E pp se.2) [2,4,3,1] ⟨rfl,rfl,rfl,rfl,rfl,rfl,rfl,rfl,rfl,trivial⟩ rfl)
      ·refine aa ?_;obtain⟨Q5,QU,h⟩:=ab h;refine jb (a9 rfl QU) ?_;refine mq (nl ?_);exact iE (X,(Q5,mc)) h (be [.obj u 102 (.at bB a3),.obj c 211 (.eq (.func (.func 149) #[] #[(Pv u),(Pv x),(Pv c)])),.obj x 210 (.eq (.func (.yield l) #[] #[])),.obj b1 107 (.rep (.arr 3 (.arr 5 (.int .i64))) a0)] (E X mc) [0,1,2,3] ⟨rfl,rfl,rfl,rfl,rfl,rfl,rfl,rfl,rfl,trivial⟩ rfl)
     ·refine xa ?_;exact iE (J,y.2) h (be [.obj u 102 (.at bB a3),.obj c 211 (.eq (.func (.func 149) #[] #[(Pv u),(Pv x),(Pv c)])),.obj x 210 (.eq (.func (.yield l) #[] #[])),.obj b1 107 (.rep (.arr 3 (.arr 5 (.int .i64))) a0)] (E J y.2) [0,2,1] trivial rfl)
    ·refine sr (cq (nt (aA ?_)));cases h;exact io qt [_] ⟨rfl,trivial⟩ rfl
def ir{σ:Type}(k:Nat)(Y:σ→(List (List Int))→Option (σ×Bool))(a1:cR)(s0:σ):Option (σ):=
 (dE k ([]:(List (List Int)))).bind fun r2=>
 (cM k Y a1 k r2 0 0 s0).bind fun r5=>
 some r5.2
theorem mN{M:Md Tryz.prog}{σ Z:Type}(E:Z→σ→List D)(l:Nat)(Y:σ→(List (List Int))→Option (σ×Bool))(k:Nat)(a1:cR)(c:Nat)(hY:∀z s p r,Y s p=some r→YT M l [.rep (.arr 3 (.arr 5 (.int .i64))) p] (E z s) (fun z':Z=>(.eq (.bool r.2),E z' r.1))):
 ∀(z0:Z) (s0:σ) (r:σ),ir k Y a1 s0=some r→dn M 148 [.eq (.func (.yield l) #[] #[]),Pt c] ([.obj c 102 (.at bB a1)]++E z0 s0) (fun z:Z=>(bp [],[.obj c 102 (.at bB a1)]++E z r)):=by
 intro z0 s0 r h
 unfold ir at h
 replace h:=ba h
 refine dn.of 10 Tryz.func148 rfl Tryz.ntmps148 rfl fun S w0=>?_
 refine sr ?_
 refine bx fun b1=>?_
 refine nt ?_
 refine sr ?_
 obtain⟨r2,j,h⟩:=ab h
 have u:=eQ k ([]:(List (List Int))) r2 j
 refine ja (dJ (N:=[(.const (.slice none 0 0),.eq (.slice none 0 0))]) (ap [.const (.slice none 0 0)] rfl rfl C5 rfl u) fun _ _ _ hn=>⟨(jD (t:=(.slice (.slice (.int .i64)))) (x:=([]:(List (List Int)))) .nil rfl rfl hn.1),trivial⟩) ?_
 refine aL rfl rfl rfl (bL rfl l9 mJ) trivial fun b3=>?_
 refine bg rfl rfl (bb rfl cP rfl rfl rfl) ⟨rfl,rfl,trivial⟩ ?_
 refine nt ?_
 refine sr ?_
 refine aL rfl rfl rfl (bL rfl LV OF) trivial fun b4=>?_
 refine nt ?_
 refine sr ?_
 refine jc (rL [] [.tmp 1,.tmp 2,.tmp 4] [] [(Pv c),(Pv b1),(Pv b4)] rfl rfl rfl) ?_
 refine bg rfl rfl (bb rfl AQ rfl rfl rfl) ⟨rfl,rfl,trivial⟩ ?_
 refine nt ?_
 refine aa ?_
 refine lo AQ ?_
 refine fr 1 ?_
 refine lo cP ?_
 obtain⟨r5,e,h⟩:=ab h
 have n:=lV E l Y k a1 c b1 b4 hY k r2 0 0 z0 s0 r5 e
 refine fr 1 ?_
 refine fr 2 ?_
 refine fr 3 ?_
 refine fr 3 ?_
 refine ou [.obj b3 107 (.rep (.arr 3 (.arr 5 (.int .i64))) r2)] rfl rfl rfl (nK (fs:=[]) (cs:=[(Pv c),(Pv b1),(Pv b4)]) (ags:=[.rep (.arr 3 (.arr 5 (.int .i64))) r2,I 0,.eq (.int .u8 0)]) [.tmp 8,.const (.int .i64 (0)),.const (.int .u8 (0))] rfl rfl Gh rfl n) ⟨rfl,rfl,rfl,rfl,trivial⟩ fun z6=>?_
 refine ar ?_
 refine iG ?_
 refine bM (be (Γ':=[]) [.obj b3 107 (.rep (.arr 3 (.arr 5 (.int .i64))) r2),.obj c 102 (.at bB a1),.obj b1 210 (.eq (.func (.yield l) #[] #[])),.obj b4 211 (.eq (.func (.func 149) #[] #[(Pv c),(Pv b1),(Pv b4)]))] (E z6 r5.2) [1] trivial rfl) ?_
 cases h
 exact io z6 [] trivial rfl
def iO(k:Nat)(a1:cR):Option (List (List (List Int))):=
 (ir k (pm (fun(y2:(List (List (List Int)))) (p4:(List (List Int)))=>
  (d4 (bS (List.length y2+List.length [p4]))).bind fun _=>
  some (y2++[p4],true))) a1 (([]:(List (List (List Int)))),false)).bind fun r5=>
 if r5.2=true then(none) else(some r5.1)
theorem np(k:Nat)(a1:cR)(c:Nat)(r:(List (List (List Int))))(h:iO k a1=some r):
 bW Tryz.prog 147 [.eq (.slice none 0 0),.eq (.func (.func 148) #[] #[(Pv c)])] [.obj c 102 (.at bB a1)] (fun z:Value=>(bp [.eq z],[.sl z 107 (.arr 3 (.arr 5 (.int .i64))) r,.obj c 102 (.at bB a1)])):=by
 unfold iO at h
 replace h:=ba h
 refine xe 13 Tryz.func147 rfl Tryz.ntmps147 rfl fun {M} S w0=>?_
 refine sr ?_
 refine bx fun b1=>?_
 refine cq ?_
 refine nt ?_
 refine ah ?_
 refine sr ?_
 refine mq ?_
 refine nt ?_
 refine aj ?_
 refine fG (SE.nil 107 (.arr 3 (.arr 5 (.int .i64)))) ?_
 refine iH 1 rfl ?_
 refine iH 2 rfl ?_
 obtain⟨r5,j,h⟩:=ab h
 refine m8 (Δ:=[.obj c 102 (.at bB a1),.obj b1 152 (.eq (.slice none 0 0)),.sl (.slice none 0 0) 107 (.arr 3 (.arr 5 (.int .i64))) ([]:(List (List (List Int))))]) (F:=[]) (X:=Value) (J:=fun _=>H6 r5.2) (E:=fun z3=>[.obj c 102 (.at bB a1),.obj b1 152 (.eq z3),.sl z3 107 (.arr 3 (.arr 5 (.int .i64))) r5.1]) (r0:=fun _=>.tup .any) rfl rfl Ob (fun rec hp ha hb hs hpe hN hv l=>?_) (fun dl z3=>pB (fun hj=>?_) (fun hj=>?_))
 ·
  rcases rec with⟨st0,pe0,fn0,tm0,ps0,as0,bd0,df0⟩;dsimp only at hp ha hb hs hpe hN hv;subst hp hs hpe;have vN:uo tm0 [(2,Pt b1)]:=⟨congrArg A.eq (hv 2 _ rfl).symm,trivial⟩;refine dn.pick (M:=M) [1,0,2,3] [1,0,2,3] (mN (fun(z3:Value) (q:(List (List (List Int)))×Bool)=>[.raw l (.loop (jg ⟨.ready,none,fn0,tm0, #[7],as0,bd0,df0⟩ (H6 q.2))),.obj b1 152 (.eq z3),.sl z3 107 (.arr 3 (.arr 5 (.int .i64))) q.1]) l (pm (fun(y2:(List (List (List Int)))) (p4:(List (List Int)))=>
  (d4 (bS (List.length y2+List.length [p4]))).bind fun _=>
  some (y2++[p4],true))) k a1 c (fun z3 q p r' h=>?_) (.slice none 0 0) (([]:(List (List (List Int)))),false) r5 j) rfl (fun _=>rfl) (fun _=>rfl)
  obtain⟨rq,hq,h2,rfl⟩:=pC h;obtain⟨y2,b5⟩:=q;obtain rfl:b5=false:=hq;replace h:=ba h2;obtain⟨p4,hpv⟩:∃x,x=p:=⟨_,rfl⟩;subst hpv;refine YT.pick (R':=(fun z3:Value=>(.eq (.bool rq.2),[.raw l (.loop (jg ⟨.ready,none,fn0,tm0, #[7],as0,bd0,df0⟩ (H6 (!rq.2)))),.obj b1 152 (.eq z3),.sl z3 107 (.arr 3 (.arr 5 (.int .i64))) rq.1]))) [0,1,2] [0,1,2] (GG ha hb (N:=13) (Γ:=[(2,Pt b1)]) rfl hN (by decide) vN (fun S w=>?_)) rfl (fun _=>rfl) (fun _=>rfl);refine aa (aL rfl rfl rfl (bL rfl l9 mJ) trivial fun b6=>?_);refine bg rfl rfl (bb rfl cP rfl rfl rfl) ⟨rfl,rfl,trivial⟩ ?_;refine nl (dK 1 rfl ?_);refine uv rfl rfl ?_;refine aj (aa (fr 2 ?_));refine lo Ea ?_;refine fr 2 ?_;refine lo cP ?_;refine ja (bz (t:=(.arr 3 (.arr 5 (.int .i64)))) [(.tmp 9,_)] [p4] rfl rfl Ji (.cons rfl .rep .nil) rfl rfl) ?_;obtain⟨u7,e,h⟩:=ab h;refine fr 3 ?_;refine dV rfl rfl rfl (bY rfl rfl Ji (aC e)) ⟨rfl,rfl,trivial⟩ fun v8=>?_;refine wZ fun o9=>?_;refine fr 2 ?_;refine bg rfl rfl (bb rfl Ea o9 rfl rfl) ⟨rfl,rfl,trivial⟩ ?_;refine ar (aN (dK 1 rfl ?_));refine dK 1 rfl ?_;refine dK 3 rfl ?_;cases h;exact su v8 2 rfl
 ·
  replace h:=bR (BM hj) h;refine aN (tn (sr (fr 2 ?_)));refine lo Ea ?_;refine aq (nt (aA ?_));refine dK 1 rfl ?_;refine xc ?_;refine bM (SE.fin (Γ':=[(4,_)]) [2,1,0] ⟨rfl,trivial⟩ rfl) ?_;cases h;exact aM z3 [.eq z3] 2 ⟨rfl,trivial⟩ rfl
 ·
  replace h:=cK (BL hj) h;cases h
def ju(k:Nat)(a0:cR):Option (List (List (List Int))):=
 (iO k a0).bind fun r1=>
 some r1
theorem o4(k:Nat)(a0:cR)(c:Nat)(r:(List (List (List Int))))(h:ju k a0=some r):
 bW Tryz.prog 115 [.eq (.func (.func 148) #[] #[(Pv c)])] [.obj c 102 (.at bB a0)] (fun _:Unit=>(bp [.rep (.slice (.arr 3 (.arr 5 (.int .i64)))) r],[.obj c 102 (.at bB a0)])):=by
 unfold ju at h
 replace h:=ba h
 refine bW.of 5 Tryz.func115 rfl Tryz.ntmps115 rfl fun S w0=>?_
 refine sr ?_
 refine cq ?_
 refine nt ?_
 refine sr ?_
 refine mq ?_
 obtain⟨r1,e,h⟩:=ab h
 have j:=np k a0 c r1 e
 refine bN (Δ:=[_]) (F:=_) (fun _ _ _=>av rfl _) rfl rfl (ap [.const (.slice none 0 0),.tmp 3] rfl rfl Oc rfl j) ⟨rfl,rfl,trivial⟩ fun z2=>?_
 refine aq ?_
 refine nt ?_
 refine aA ?_
 refine bM (gK [2,4] ⟨rfl,rfl,trivial⟩) ?_
 cases h
 exact aM () [_] 1 ⟨rfl,trivial⟩ rfl
theorem nC(a0:cR):bW Tryz.prog 116 [.at bB a0] [] (fun z:Nat=>(bp [.eq (.func (.func 148) #[] #[(Pv z)])],[.obj z 102 (.at bB a0)])):=by
 refine bW.of 4 Tryz.func116 rfl Tryz.ntmps116 rfl fun S w0=>?_;refine sr (aL rfl rfl rfl (nj rfl trivial) ⟨rfl,trivial⟩ fun z=>?_);refine cq (nt (sr ?_));refine ja (rL [] [.tmp 1] [] [(Pv z)] rfl rfl rfl) ?_;refine aq (nt (aA ?_));exact aM z [_] 1 ⟨rfl,trivial⟩ rfl
def jP(k:Nat)(a0:(List Int)):Option aZ:=
 ((if(a0.length:Int)=0 then(some [3,2]) else(some a0)):Option ((List Int))).bind fun x2=>
 some (3,[(1,[0,2]),(1,[1]),(2,[2]),(1,[0,1])],x2)
theorem iU(k:Nat)(a0:(List Int))(r:aZ)(h:jP k a0=some r):
 bW Tryz.prog 78 [Ri a0] [] (fun _:Unit=>(bp [.rep aD r],[])):=by
 unfold jP at h
 replace h:=ba h
 refine bW.of 18 Tryz.func78 rfl Tryz.ntmps78 rfl fun S w0=>?_
 refine sr ?_
 refine aL rfl rfl rfl (bL rfl xl Dj) trivial fun b1=>?_
 refine nt ?_
 refine aP (Z:=Unit) (α:=(List Int)) (fun z3 x2=>[(0,Ri x2),(2,Pt b1)]) (fun z3 x2=>[.obj b1 25 (.agg (.pair (I 0) (.pair (.eq (.slice none 0 0)) (.eq (.slice none 0 0)))))]) h (fun K h=>?_) (fun z3 x2 h=>?_)
 ·
  refine sr (mq ?_);refine ol dW ?_;refine jb (eY rfl) ?_;refine nt (ci h (fun h=>?_) (fun h=>?_))
  ·refine aa (jb (bz (t:=(.int .i64)) [(.const (.int .i64 (3)),_),(.const (.int .i64 (2)),_)] [3,2] rfl rfl eh (.cons rfl .int (.cons rfl .int .nil)) rfl rfl) ?_);refine aq (nl ?_);exact jz ((),[3,2]) h [0]
  ·refine aS (ae ?_);exact jz ((),a0) h [0]
 ·
  refine sr (jb (bz (t:=(.int .i64)) [(.const (.int .i64 (0)),_),(.const (.int .i64 (2)),_)] [0,2] rfl rfl eh (.cons rfl .int (.cons rfl .int .nil)) rfl rfl) ?_);refine jb (dt [(0,.const (.int .i64 (1)),_),(1,.tmp 7,_)] rfl Es vU yY (je ⟨rfl,rfl,trivial⟩) rfl) ?_;refine ja (bz (t:=(.int .i64)) [(.const (.int .i64 (1)),_)] [1] rfl rfl eh (.cons rfl .int .nil) rfl rfl) ?_;refine jb (dt [(0,.const (.int .i64 (1)),_),(1,.tmp 9,_)] rfl Es vU yY (je ⟨rfl,rfl,trivial⟩) rfl) ?_;refine ja (bz (t:=(.int .i64)) [(.const (.int .i64 (2)),_)] [2] rfl rfl eh (.cons rfl .int .nil) rfl rfl) ?_;refine jb (dt [(0,.const (.int .i64 (2)),_),(1,.tmp 11,_)] rfl Es vU yY (je ⟨rfl,rfl,trivial⟩) rfl) ?_;refine jb (bz (t:=(.int .i64)) [(.const (.int .i64 (0)),_),(.const (.int .i64 (1)),_)] [0,1] rfl rfl eh (.cons rfl .int (.cons rfl .int .nil)) rfl rfl) ?_;refine jb (dt [(0,.const (.int .i64 (1)),_),(1,.tmp 13,_)] rfl Es vU yY (je ⟨rfl,rfl,trivial⟩) rfl) ?_;refine aB rfl (bz (t:=cF) [(.tmp 8,_),(.tmp 10,_),(.tmp 12,_),(.tmp 14,_)] [(1,[0,2]),(1,[1]),(2,[2]),(1,[0,1])] rfl rfl JW (.cons trivial (.agg (.pair .int .rep)) (.cons trivial (.agg (.pair .int .rep)) (.cons trivial (.agg (.pair .int .rep)) (.cons trivial (.agg (.pair .int .rep)) .nil)))) rfl rfl) ⟨rfl,rfl,rfl,rfl,trivial⟩ ?_;refine mq ?_;refine jc (dt [(0,.const (.int .i64 (3)),_),(1,.tmp 15,_),(2,.tmp 16,_)] rfl MK xl JG (je ⟨rfl,rfl,rfl,trivial⟩) rfl) ?_;refine bg rfl rfl (bb rfl hH trivial rfl rfl) ⟨rfl,rfl,trivial⟩ ?_;refine nt (aA (bM (oV (a:=.agg (.pair (I 3) (.pair (Rs cF [(1,[0,2]),(1,[1]),(2,[2]),(1,[0,1])]) (Ri x2)))) (a':=.rep aD (3,[(1,[0,2]),(1,[1]),(2,[2]),(1,[0,1])],x2)) (xg (.agg (.pair .int (.pair .rep .rep))))) ?_));cases h;exact aM () [.rep aD (3,[(1,[0,2]),(1,[1]),(2,[2]),(1,[0,1])],x2)] 0 ⟨⟨_,_,_,_,_,rfl,(.head _),hH,(uA),rfl⟩,trivial⟩ rfl
def vu(k:Nat):Option (List (List Int)):=
 some [[1,0,3],[2]]
theorem qM(k:Nat)(r:(List (List Int)))(h:vu k=some r):
 bW Tryz.prog 79 [] [] (fun _:Unit=>(bp [.rep (.slice (.slice (.int .i64))) r],[])):=by
 unfold vu at h
 replace h:=ba h
 refine bW.of 4 Tryz.func79 rfl Tryz.ntmps79 rfl fun S w0=>?_
 refine sr ?_
 refine cq ?_
 refine nt ?_
 refine sr ?_
 refine jc (bz (t:=(.int .i64)) [(.const (.int .i64 (1)),_),(.const (.int .i64 (0)),_),(.const (.int .i64 (3)),_)] [1,0,3] rfl rfl eh (.cons rfl .int (.cons rfl .int (.cons rfl .int .nil))) rfl rfl) ?_
 refine ja (bz (t:=(.int .i64)) [(.const (.int .i64 (2)),_)] [2] rfl rfl eh (.cons rfl .int .nil) rfl rfl) ?_
 refine jb (bz (t:=(.slice (.int .i64))) [(.tmp 1,_),(.tmp 2,_)] [[1,0,3],[2]] rfl rfl tw (.cons rfl .rep (.cons rfl .rep .nil)) rfl rfl) ?_
 refine aq ?_
 refine nt ?_
 refine aA ?_
 cases h
 exact ra
def FA(k:Nat):Option (List (List Int)):=
 some [[0,2],[3,1]]
theorem Fz(k:Nat)(r:(List (List Int)))(h:FA k=some r):
 bW Tryz.prog 80 [] [] (fun _:Unit=>(bp [.rep (.slice (.slice (.int .i64))) r],[])):=by
 unfold FA at h
 replace h:=ba h
 refine bW.of 4 Tryz.func80 rfl Tryz.ntmps80 rfl fun S w0=>?_
 refine sr ?_
 refine cq ?_
 refine nt ?_
 refine sr ?_
 refine jb (bz (t:=(.int .i64)) [(.const (.int .i64 (0)),_),(.const (.int .i64 (2)),_)] [0,2] rfl rfl eh (.cons rfl .int (.cons rfl .int .nil)) rfl rfl) ?_
 refine jb (bz (t:=(.int .i64)) [(.const (.int .i64 (3)),_),(.const (.int .i64 (1)),_)] [3,1] rfl rfl eh (.cons rfl .int (.cons rfl .int .nil)) rfl rfl) ?_
 refine jb (bz (t:=(.slice (.int .i64))) [(.tmp 1,_),(.tmp 2,_)] [[0,2],[3,1]] rfl rfl tw (.cons rfl .rep (.cons rfl .rep .nil)) rfl rfl) ?_
 refine aq ?_
 refine nt ?_
 refine aA ?_
 cases h
 exact ra
def lL(k:Nat)(a0:(List Int)):Option bv:=
 some (a0,0,1)
theorem t7(k:Nat)(a0:(List Int))(r:bv)(h:lL k a0=some r):
 bW Tryz.prog 26 [Ri a0] [] (fun z:Nat=>(bp [Pt z],[.obj z 98 (.agg (.pair (Ri r.1) (.pair (I r.2.1) (.eq (.int .u64 r.2.2)))))])):=by
 unfold lL at h
 replace h:=ba h
 refine bW.of 6 Tryz.func26 rfl Tryz.ntmps26 rfl fun S w0=>?_
 refine sr ?_
 refine cq ?_
 refine nt ?_
 refine sr ?_
 refine mq ?_
 refine jb (dt [(0,.tmp 3,_),(2,.const (.int .u64 (1)),_)] rfl Pz Pl OD (je ⟨rfl,rfl,trivial⟩) rfl) ?_
 refine aL rfl rfl rfl (nj rfl trivial) ⟨rfl,trivial⟩ fun b1=>?_
 refine aq ?_
 refine nt ?_
 refine aA ?_
 cases h
 exact aM b1 [Pt b1] 1 ⟨rfl,trivial⟩ rfl
def iC(k:Nat)(a0:bv):Option (Int×bv):=
 ((if a0.2.1 < (a0.1.length:Int) then((a8 a0.1 a0.2.1).bind fun x3=>
 some (IntKind.u64.wrap ((IntKind.u64.wrap ((IntKind.u64.wrap (a0.2.2 * 6364136223846793005))+1442695040888963407))+(IntKind.u64.wrap ((IntKind.u64.wrap x3) * 2862933555777941757))))) else(some (IntKind.u64.wrap ((IntKind.u64.wrap (a0.2.2 * 6364136223846793005))+1442695040888963407)))):Option (Int)).bind fun x1=>
 (ck (a0.2.1+1)).bind fun x4=>
 some (gZ .u64 (pT .u64 (IntKind.u64.wrap ((pT .u64 x1 (gZ .u64 x1 29)) * 2685821657736338717)) (gZ .u64 (IntKind.u64.wrap ((pT .u64 x1 (gZ .u64 x1 29)) * 2685821657736338717)) 32)) 8,(a0.1,x4,x1))
theorem rX(k:Nat)(a0:bv)(c:Nat)(r:Int×bv)(h:iC k a0=some r):
 bW Tryz.prog 82 [Pt c] [.obj c 98 (.agg (.pair (Ri a0.1) (.pair (I a0.2.1) (.eq (.int .u64 a0.2.2)))))] (fun _:Unit=>(bp [.eq (.int .u64 r.1)],[.obj c 98 (.agg (.pair (Ri r.2.1) (.pair (I r.2.2.1) (.eq (.int .u64 r.2.2.2)))))])):=by
 unfold iC at h
 replace h:=ba h
 refine bW.of 67 Tryz.func82 rfl Tryz.ntmps82 rfl fun S w0=>?_
 refine sr ?_
 refine cq ?_
 refine nt ?_
 refine sr ?_
 iterate 2 refine mq ?_
 refine ja (aV rfl) ?_
 refine fl sa ?_
 refine lo BR ?_
 refine jb (zS rfl) ?_
 refine jb (zU rfl) ?_
 refine ja (aV rfl) ?_
 refine fl sa ?_
 refine bg rfl rfl (bb rfl BR rfl rfl rfl) ⟨rfl,rfl,trivial⟩ ?_
 refine nt ?_
 refine aP (Z:=Unit) (α:=Int) (fun z2 x1=>[(0,Pt c)]) (fun z2 x1=>[.obj c 98 (.agg (.pair (Ri a0.1) (.pair (I a0.2.1) (.eq (.int .u64 x1)))))]) h (fun K h=>?_) (fun z2 x1 h=>?_)
 ·
  refine ah (bX ?_);refine dm ?_;refine da (aV rfl) ?_;refine da (aw rfl wN) ?_;refine ea 0 (an rfl cI mY rfl) ?_;refine dm ?_;refine da (aV rfl) ?_;refine da (aw rfl F3) ?_;refine ea 0 (an rfl cm mY rfl) ?_;refine da (k7 rfl rfl dW) ?_;refine df d3 ?_;refine jb (bj rfl) ?_;refine nt (ci h (fun h=>?_) (fun h=>?_))
  ·refine bX ?_;refine dm ?_;refine dm ?_;refine da (aV rfl) ?_;refine da (aw rfl sa) ?_;refine ea 0 (an rfl BR mY rfl) ?_;refine dm ?_;refine da (aV rfl) ?_;refine da (aw rfl F3) ?_;refine ea 0 (an rfl cm mY rfl) ?_;refine dm ?_;refine da (aV rfl) ?_;refine da (aw rfl wN) ?_;refine ea 0 (an rfl cI mY rfl) ?_;obtain⟨x3,j,h⟩:=ab h;refine db (aF (t:=(.int .i64)) rfl dW cI j) ?_;refine da (ak (t:=(.int .i64)) rfl cI rfl) ?_;refine da (nJ rfl U3 O7) ?_;refine db (zS rfl) ?_;refine db (zU rfl) ?_;refine df d3 ?_;refine ja (aV rfl) ?_;refine fl sa ?_;refine bg rfl rfl (bb rfl BR rfl rfl rfl) ⟨rfl,rfl,trivial⟩ ?_;refine nl ?_;exact jz ((),IntKind.u64.wrap ((IntKind.u64.wrap ((IntKind.u64.wrap (a0.2.2 * 6364136223846793005))+1442695040888963407))+(IntKind.u64.wrap ((IntKind.u64.wrap x3) * 2862933555777941757)))) h [0]
  ·refine aS (ae ?_);exact jz ((),IntKind.u64.wrap ((IntKind.u64.wrap (a0.2.2 * 6364136223846793005))+1442695040888963407)) h [0]
 ·
  refine sr (mq ?_);refine ja (aV rfl) ?_;refine fl wN ?_;refine lo cI ?_;obtain⟨x4,e,h⟩:=ab h;refine jb (a9 rfl e) ?_;refine ja (aV rfl) ?_;refine fl wN ?_;refine bg rfl rfl (bb rfl cI rfl rfl rfl) ⟨rfl,rfl,trivial⟩ ?_;refine nt (ah (bX ?_));refine dm ?_;refine da (aV rfl) ?_;refine da (aw rfl sa) ?_;refine ea 0 (an rfl BR mY rfl) ?_;refine dm ?_;refine da (aV rfl) ?_;refine da (aw rfl sa) ?_;refine ea 0 (an rfl BR mY rfl) ?_;refine c9 rfl rfl rfl (tQ rfl (by decide)) ⟨rfl,rfl,trivial⟩ ?_;refine df d3 ?_;refine jb (Jl rfl) ?_;refine aq (nt (sr ?_));refine mq ?_;refine jb (zS rfl) ?_;refine aq (nt (sr ?_));iterate 2 refine mq ?_
  refine aB rfl (tQ rfl (by decide)) ⟨rfl,rfl,trivial⟩ ?_;refine jb (Jl rfl) ?_;refine aB rfl (tQ rfl (by decide)) ⟨rfl,rfl,trivial⟩ ?_;refine aq (nt (aA ?_));cases h;exact aM () [_] 1 ⟨rfl,trivial⟩ rfl
def dB(k:Nat)(a0:bv)(a1:Int):Option (Int×bv):=
 if a1 < 1 then(some (0,(a0.1,a0.2.1,a0.2.2))) else((iC k (a0.1,a0.2.1,a0.2.2)).bind fun r1=>
 (ck (a1+1)).bind fun x2=>
 (d4 ((IntKind.u64.wrap x2)≠0)).bind fun _=>
 (ck (Int.tmod r1.1 (IntKind.u64.wrap x2))).bind fun x4=>
 some (x4,(r1.2.1,r1.2.2.1,r1.2.2.2)))
theorem fR(k:Nat)(a0:bv)(c:Nat)(a1:Int)(r:Int×bv)(h:dB k a0 a1=some r):
 bW Tryz.prog 28 [Pt c,I a1] [.obj c 98 (.agg (.pair (Ri a0.1) (.pair (I a0.2.1) (.eq (.int .u64 a0.2.2)))))] (fun _:Unit=>(bp [I r.1],[.obj c 98 (.agg (.pair (Ri r.2.1) (.pair (I r.2.2.1) (.eq (.int .u64 r.2.2.2)))))])):=by
 unfold dB at h
 replace h:=ba h
 refine bW.of 14 Tryz.func28 rfl Tryz.ntmps28 rfl fun S w0=>?_
 refine sr ?_
 refine cq ?_
 refine nt ?_
 refine ah ?_
 refine sr ?_
 refine mq ?_
 refine jb (bj rfl) ?_
 refine nt ?_
 refine ci h (fun h=>?_) (fun h=>?_)
 ·
  refine sr (cq (nt (rx ?_)));cases h;exact aM () [_] 1 ⟨rfl,trivial⟩ rfl
 ·
  refine sk (sr (mq ?_));obtain⟨r1,n,h⟩:=ab h;refine ka (ap [.tmp 7] rfl rfl P4 rfl (rX k (a0.1,a0.2.1,a0.2.2) c r1 n)) ?_;refine mq ?_;obtain⟨x2,j,h⟩:=ab h;refine jb (a9 rfl j) ?_;refine ja (nJ rfl U3 O7) ?_;obtain⟨u3,l,h⟩:=ab h;refine jb (EF rfl (aC l)) ?_;obtain⟨x4,e,h⟩:=ab h;refine ja (yc rfl O7 U3 e) ?_;refine aq (nt (aA ?_));cases h;exact aM () [_] 1 ⟨rfl,trivial⟩ rfl
def eJ(k:Nat)(a0:bv)(a1:Int)(a2:Int):Option (Int×bv):=
 (ck (a2 - a1)).bind fun x1=>
 (dB k (a0.1,a0.2.1,a0.2.2) x1).bind fun r2=>
 (ck (a1+r2.1)).bind fun x3=>
 some (x3,(r2.2.1,r2.2.2.1,r2.2.2.2))
theorem li(k:Nat)(a0:bv)(c:Nat)(a1:Int)(a2:Int)(r:Int×bv)(h:eJ k a0 a1 a2=some r):
 bW Tryz.prog 51 [Pt c,I a1,I a2] [.obj c 98 (.agg (.pair (Ri a0.1) (.pair (I a0.2.1) (.eq (.int .u64 a0.2.2)))))] (fun _:Unit=>(bp [I r.1],[.obj c 98 (.agg (.pair (Ri r.2.1) (.pair (I r.2.2.1) (.eq (.int .u64 r.2.2.2)))))])):=by
 unfold eJ at h
 replace h:=ba h
 refine bW.of 14 Tryz.func51 rfl Tryz.ntmps51 rfl fun S w0=>?_
 refine sr ?_
 refine cq ?_
 refine nt ?_
 refine sr ?_
 iterate 4 refine mq ?_
 obtain⟨x1,j,h⟩:=ab h
 refine jb (fF rfl j) ?_
 obtain⟨r2,l,h⟩:=ab h
 have n:=fR k (a0.1,a0.2.1,a0.2.2) c x1 r2 l
 refine kb (ap [.tmp 8,.tmp 11] rfl rfl Gg rfl n) ?_
 obtain⟨x3,e,h⟩:=ab h
 refine jb (a9 rfl e) ?_
 refine aq ?_
 refine nt ?_
 refine aA ?_
 cases h
 exact aM () [_] 1 ⟨rfl,trivial⟩ rfl
def iV(k:Nat)(a0:bv)(a1:(List Int)):Option (Int×bv):=
 (ck ((a1.length:Int) - 1)).bind fun x1=>
 (dB k (a0.1,a0.2.1,a0.2.2) x1).bind fun r2=>
 (a8 a1 r2.1).bind fun x3=>
 some (x3,(r2.2.1,r2.2.2.1,r2.2.2.2))
theorem nS(k:Nat)(a0:bv)(c:Nat)(a1:(List Int))(r:Int×bv)(h:iV k a0 a1=some r):
 bW Tryz.prog 112 [Pt c,Ri a1] [.obj c 98 (.agg (.pair (Ri a0.1) (.pair (I a0.2.1) (.eq (.int .u64 a0.2.2)))))] (fun _:Unit=>(bp [I r.1],[.obj c 98 (.agg (.pair (Ri r.2.1) (.pair (I r.2.2.1) (.eq (.int .u64 r.2.2.2)))))])):=by
 unfold iV at h
 replace h:=ba h
 refine bW.of 13 Tryz.func112 rfl Tryz.ntmps112 rfl fun S w0=>?_
 refine sr ?_
 refine cq ?_
 refine nt ?_
 refine sr ?_
 iterate 3 refine mq ?_
 refine ol dW ?_
 obtain⟨x1,j,h⟩:=ab h
 refine jb (fF rfl j) ?_
 obtain⟨r2,l,h⟩:=ab h
 have n:=fR k (a0.1,a0.2.1,a0.2.2) c x1 r2 l
 refine kb (ap [.tmp 6,.tmp 9] rfl rfl Gg rfl n) ?_
 obtain⟨x3,e,h⟩:=ab h
 refine jb (aF (t:=(.int .i64)) rfl dW cI e) ?_
 refine ja (ak (t:=(.int .i64)) rfl cI rfl) ?_
 refine aq ?_
 refine nt ?_
 refine aA ?_
 cases h
 exact aM () [_] 1 ⟨rfl,trivial⟩ rfl
def fC(k:Nat)(a0:bv)(a1:Int):Option (Bool×bv):=
 (ck (a1 - 1)).bind fun x1=>
 (dB k (a0.1,a0.2.1,a0.2.2) x1).bind fun r2=>
 some (decide (r2.1=0),(r2.2.1,r2.2.2.1,r2.2.2.2))
theorem mC(k:Nat)(a0:bv)(c:Nat)(a1:Int)(r:Bool×bv)(h:fC k a0 a1=some r):
 bW Tryz.prog 113 [Pt c,I a1] [.obj c 98 (.agg (.pair (Ri a0.1) (.pair (I a0.2.1) (.eq (.int .u64 a0.2.2)))))] (fun _:Unit=>(bp [.eq (.bool r.1)],[.obj c 98 (.agg (.pair (Ri r.2.1) (.pair (I r.2.2.1) (.eq (.int .u64 r.2.2.2)))))])):=by
 unfold fC at h
 replace h:=ba h
 refine bW.of 10 Tryz.func113 rfl Tryz.ntmps113 rfl fun S w0=>?_
 refine sr ?_
 refine cq ?_
 refine nt ?_
 refine sr ?_
 iterate 2 refine mq ?_
 obtain⟨x1,e,h⟩:=ab h
 refine jb (fF rfl e) ?_
 obtain⟨r2,j,h⟩:=ab h
 have l:=fR k (a0.1,a0.2.1,a0.2.2) c x1 r2 j
 refine kb (ap [.tmp 5,.tmp 7] rfl rfl Gg rfl l) ?_
 refine jb (eY rfl) ?_
 refine aq ?_
 refine nt ?_
 refine aA ?_
 cases h
 exact aM () [_] 1 ⟨rfl,trivial⟩ rfl
def eH(k:Nat)(r2:Int×bv):Nat→((List Int)×Int×Int×(List Int)×Int)→Option ((List Int)×Int×Int×(List Int))
 |0,_=>none
 |n+1,c=>
  if c.2.2.2.2 < r2.1 then((((fC k (c.1,c.2.1,c.2.2.1) 2).bind fun e=>
  if e.1=true then((d4 (bS (List.length c.2.2.2.1+List.length [c.2.2.2.2]))).bind fun _=>
  some (e.2.1,e.2.2.1,e.2.2.2,c.2.2.2.1++[c.2.2.2.2])) else(some (e.2.1,e.2.2.1,e.2.2.2,c.2.2.2.1))):Option ((List Int)×Int×Int×(List Int))).bind fun h=>
  (ck (c.2.2.2.2+1)).bind fun j=>
  eH k r2 n (h.1,h.2.1,h.2.2.1,h.2.2.2,j)) else(some (c.1,c.2.1,c.2.2.1,c.2.2.2.1))
def eI(k:Nat)(r2:Int×bv):Nat→((List Int)×Int×Int×(List ll)×Int×Int)→Option ((List Int)×Int×Int×(List ll)×Int)
 |0,_=>none
 |n+1,y7=>
  if 0 < y7.2.2.2.2.2 then((((iV k (y7.1,y7.2.1,y7.2.2.1) [1,1,1,2,3]).bind fun c=>
  ((eH k r2 k (c.2.1,c.2.2.1,c.2.2.2,([]:(List Int)),0)):Option ((List Int)×Int×Int×(List Int))).bind fun e=>
  (d4 (bS (List.length y7.2.2.2.1+List.length [(c.1,e.2.2.2)]))).bind fun _=>
  (ck (y7.2.2.2.2.1+c.1)).bind fun j=>
  some (e.1,e.2.1,e.2.2.1,y7.2.2.2.1++[(c.1,e.2.2.2)],j)):Option ((List Int)×Int×Int×(List ll)×Int)).bind fun x9=>
  (ck (y7.2.2.2.2.2 - 1)).bind fun h=>
  eI k r2 n (x9.1,x9.2.1,x9.2.2.1,x9.2.2.2.1,x9.2.2.2.2,h)) else(some (y7.1,y7.2.1,y7.2.2.1,y7.2.2.2.1,y7.2.2.2.2.1))
def eG(k:Nat)(x4:(List Int)×Int×Int×(List ll)×Int):Nat→((List Int)×Int×Int×(List Int)×Int)→Option ((List Int)×Int×Int×(List Int))
 |0,_=>none
 |n+1,c=>
  if 0 < c.2.2.2.2 then((ck (x4.2.2.2.2+1)).bind fun j=>
  (iV k (c.1,c.2.1,c.2.2.1) [1,2,3,pg 9 x4.2.2.2.2,pg 9 j]).bind fun e=>
  (d4 (bS (List.length c.2.2.2.1+List.length [e.1]))).bind fun _=>
  (ck (c.2.2.2.2 - 1)).bind fun h=>
  eG k x4 n (e.2.1,e.2.2.1,e.2.2.2,c.2.2.2.1++[e.1],h)) else(some (c.1,c.2.1,c.2.2.1,c.2.2.2.1))
def jy(k:Nat)(a0:bv)(a1:Int)(a2:Int):Option (aZ×bv):=
 (eJ k (a0.1,a0.2.1,a0.2.2) 1 4).bind fun r2=>
 (((eJ k (r2.2.1,r2.2.2.1,r2.2.2.2) 0 a1).bind fun r6=>
 eI k r2 k (r6.2.1,r6.2.2.1,r6.2.2.2,([]:(List ll)),0,r6.1)):Option ((List Int)×Int×Int×(List ll)×Int)).bind fun x4=>
 (((eJ k (x4.1,x4.2.1,x4.2.2.1) 1 a2).bind fun j=>
 eG k x4 k (j.2.1,j.2.2.1,j.2.2.2,([]:(List Int)),j.1)):Option ((List Int)×Int×Int×(List Int))).bind fun e=>
 (((fC k (e.1,e.2.1,e.2.2.1) 2).bind fun c=>
 if c.1=true then((a8 e.2.2.2 0).bind fun l=>
 some (List.set e.2.2.2 (Int.toNat 0) (pg 9 x4.2.2.2.2),c.2.1,c.2.2.1,c.2.2.2)) else(some (e.2.2.2,c.2.1,c.2.2.1,c.2.2.2))):Option ((List Int)×(List Int)×Int×Int)).bind fun h=>
 some ((r2.1,x4.2.2.2.1,h.1),(h.2.1,h.2.2.1,h.2.2.2))
theorem uR(k:Nat)(a0:bv)(c:Nat)(a1:Int)(a2:Int)(r:aZ×bv)(h:jy k a0 a1 a2=some r):
 bW Tryz.prog 49 [Pt c,I a1,I a2] [.obj c 98 (.agg (.pair (Ri a0.1) (.pair (I a0.2.1) (.eq (.int .u64 a0.2.2)))))] (fun _:Unit=>(bp [.rep aD r.1],[.obj c 98 (.agg (.pair (Ri r.2.1) (.pair (I r.2.2.1) (.eq (.int .u64 r.2.2.2)))))])):=by
 unfold jy at h
 replace h:=ba h
 refine bW.of 79 Tryz.func49 rfl Tryz.ntmps49 rfl fun S w0=>?_
 refine sr ?_
 refine aL rfl rfl rfl (bL rfl xl Dj) trivial fun b1=>?_
 refine nt ?_
 refine sr ?_
 refine mq ?_
 obtain⟨r2,Ro,h⟩:=ab h
 have Rq:=li k (a0.1,a0.2.1,a0.2.2) c 1 4 r2 Ro
 refine fr 1 ?_
 refine kc (ap [.tmp 13,.const (.int .i64 (1)),.const (.int .i64 (4))] rfl rfl K4 rfl Rq) ?_
 refine ja (dt [(0,.tmp 14,_)] rfl MK xl JG (je ⟨rfl,trivial⟩) rfl) ?_
 refine aL rfl rfl rfl (bL rfl xl Dj) trivial fun b3=>?_
 refine bg rfl rfl (bb rfl hH trivial rfl rfl) ⟨rfl,rfl,trivial⟩ ?_
 refine nt ?_
 refine sr ?_
 refine cq ?_
 refine nt ?_
 refine aP (Z:=Value) (α:=(List Int)×Int×Int×(List ll)×Int) (fun z5 x4=>[(0,Pt c),(2,I a2),(6,Pt b1),(7,Pt b3),(8,I x4.2.2.2.2)]) (fun z5 x4=>[.obj c 98 (.agg (.pair (Ri x4.1) (.pair (I x4.2.1) (.eq (.int .u64 x4.2.2.1))))),.obj b1 25 (.agg (.pair (I 0) (.pair (.eq (.slice none 0 0)) (.eq (.slice none 0 0))))),.obj b3 25 (.agg (.pair (I r2.1) (.pair (.eq z5) (.eq (.slice none 0 0))))),.sl z5 27 cF x4.2.2.2.1]) h (fun K h=>?_) (fun z5 x4 h=>?_)
 ·
  refine sr ?_;iterate 2 refine mq ?_
  obtain⟨r6,Rn,h⟩:=ab h;refine fr 1 ?_;refine kc (ap [.tmp 16,.const (.int .i64 (0)),.tmp 17] rfl rfl K4 rfl (li k (r2.2.1,r2.2.2.1,r2.2.2.2) c 0 a1 r6 Rn)) ?_;refine aq (nt (aj ?_));refine fG (SE.nil 27 cF) ?_;refine aE (fun z8 y7=>[(0,Pt c),(2,I a2),(6,Pt b1),(7,Pt b3),(8,I y7.2.2.2.2.1),(9,I y7.2.2.2.2.2)]) (fun z8 y7=>[.obj c 98 (.agg (.pair (Ri y7.1) (.pair (I y7.2.1) (.eq (.int .u64 y7.2.2.1))))),.obj b1 25 (.agg (.pair (I 0) (.pair (.eq (.slice none 0 0)) (.eq (.slice none 0 0))))),.obj b3 25 (.agg (.pair (I r2.1) (.pair (.eq z8) (.eq (.slice none 0 0))))),.sl z8 27 cF y7.2.2.2.1]) (eI k r2) k (.slice none 0 0) (r6.2.1,r6.2.2.1,r6.2.2.2,([]:(List ll)),0,r6.1) (fun _=>rfl) h (SE.fin [1,3,2,0] ⟨rfl,rfl,rfl,rfl,rfl,rfl,trivial⟩ rfl) (fun n z8 y7 h=>?_);unfold eI at h;refine ah (sr (mq ?_));refine jb (jM rfl) ?_;refine nt (ci h (fun h=>?_) (fun h=>?_))
  ·refine sk (aP (Z:=Value) (α:=(List Int)×Int×Int×(List ll)×Int) (fun X x9=>[(0,Pt c),(2,I a2),(6,Pt b1),(7,Pt b3),(8,I x9.2.2.2.2),(9,I y7.2.2.2.2.2)]) (fun X x9=>[.obj c 98 (.agg (.pair (Ri x9.1) (.pair (I x9.2.1) (.eq (.int .u64 x9.2.2.1))))),.obj b1 25 (.agg (.pair (I 0) (.pair (.eq (.slice none 0 0)) (.eq (.slice none 0 0))))),.obj b3 25 (.agg (.pair (I r2.1) (.pair (.eq X) (.eq (.slice none 0 0))))),.sl X 27 cF x9.2.2.2.1]) h (fun K h=>?_) (fun X x9 h=>?_))
   ·refine aj (sr (mq ?_));refine aB rfl (bz (t:=(.int .i64)) [(.const (.int .i64 (1)),_),(.const (.int .i64 (1)),_),(.const (.int .i64 (1)),_),(.const (.int .i64 (2)),_),(.const (.int .i64 (3)),_)] [1,1,1,2,3] rfl rfl eh (.cons rfl .int (.cons rfl .int (.cons rfl .int (.cons rfl .int (.cons rfl .int .nil))))) rfl rfl) ⟨rfl,rfl,rfl,rfl,rfl,trivial⟩ ?_;obtain⟨s,Q2,h⟩:=ab h;refine kb (ap [.tmp 23,.tmp 24] rfl rfl Jy rfl (nS k (y7.1,y7.2.1,y7.2.2.1) c [1,1,1,2,3] s Q2)) ?_;refine ja (dt [(0,.tmp 25,_)] rfl Es vU yY (je ⟨rfl,trivial⟩) rfl) ?_;refine aL rfl rfl rfl (bL rfl vU IO) trivial fun M=>?_;refine bg rfl rfl (bb rfl mP trivial rfl rfl) ⟨rfl,rfl,trivial⟩ ?_;refine nt (aP (Z:=Value) (α:=(List Int)×Int×Int×(List Int)) (fun ac j=>[(0,Pt c),(2,I a2),(6,Pt b1),(7,Pt b3),(8,I y7.2.2.2.2.1),(9,I y7.2.2.2.2.2),(10,Pt M)]) (fun ac j=>[.obj c 98 (.agg (.pair (Ri j.1) (.pair (I j.2.1) (.eq (.int .u64 j.2.2.1))))),.obj b1 25 (.agg (.pair (I 0) (.pair (.eq (.slice none 0 0)) (.eq (.slice none 0 0))))),.obj b3 25 (.agg (.pair (I r2.1) (.pair (.eq z8) (.eq (.slice none 0 0))))),.sl z8 27 cF y7.2.2.2.1,.obj M 27 (.agg (.pair (I s.1) (.eq ac))),.sl ac 3 (.int .i64) j.2.2.2]) h (fun K h=>?_) (fun ac j h=>?_))
    ·refine sr (cq (nt (aj ?_)));refine fG (SE.nil 3 (.int .i64)) ?_;refine aE (fun Q e=>[(0,Pt c),(2,I a2),(6,Pt b1),(7,Pt b3),(8,I y7.2.2.2.2.1),(9,I y7.2.2.2.2.2),(10,Pt M),(11,I e.2.2.2.2)]) (fun Q e=>[.obj c 98 (.agg (.pair (Ri e.1) (.pair (I e.2.1) (.eq (.int .u64 e.2.2.1))))),.obj b1 25 (.agg (.pair (I 0) (.pair (.eq (.slice none 0 0)) (.eq (.slice none 0 0))))),.obj b3 25 (.agg (.pair (I r2.1) (.pair (.eq z8) (.eq (.slice none 0 0))))),.sl z8 27 cF y7.2.2.2.1,.obj M 27 (.agg (.pair (I s.1) (.eq Q))),.sl Q 3 (.int .i64) e.2.2.2.1]) (eH k r2) k (.slice none 0 0) (s.2.1,s.2.2.1,s.2.2.2,([]:(List Int)),0) (fun _=>rfl) h (SE.fin [2,3,4,5,1,0] ⟨rfl,rfl,rfl,rfl,rfl,rfl,rfl,rfl,trivial⟩ rfl) (fun n Q e h=>?_);unfold eH at h;refine ah (sr (mq ?_));refine fl lW ?_;refine fr 2 ?_;refine lo cI ?_;refine jb (bj rfl) ?_;refine nt (ci h (fun h=>?_) (fun h=>?_))
     ·refine sk (aP (Z:=Value) (α:=(List Int)×Int×Int×(List Int)) (fun U x=>[(0,Pt c),(2,I a2),(6,Pt b1),(7,Pt b3),(8,I y7.2.2.2.2.1),(9,I y7.2.2.2.2.2),(10,Pt M),(11,I e.2.2.2.2)]) (fun U x=>[.obj c 98 (.agg (.pair (Ri x.1) (.pair (I x.2.1) (.eq (.int .u64 x.2.2.1))))),.obj b1 25 (.agg (.pair (I 0) (.pair (.eq (.slice none 0 0)) (.eq (.slice none 0 0))))),.obj b3 25 (.agg (.pair (I r2.1) (.pair (.eq z8) (.eq (.slice none 0 0))))),.sl z8 27 cF y7.2.2.2.1,.obj M 27 (.agg (.pair (I s.1) (.eq U))),.sl U 3 (.int .i64) x.2.2.2]) h (fun K h=>?_) (fun U x h=>?_))
      ·refine aj (sr (mq ?_));obtain⟨J,Q1,h⟩:=ab h;refine fr 1 ?_;refine kb (ap [.tmp 33,.const (.int .i64 (2))] rfl rfl Jx rfl (mC k (e.1,e.2.1,e.2.2.1) c 2 J Q1)) ?_;refine nt (cv h (fun h=>?_) (fun h=>?_))
       ·refine aa (fl pU ?_);refine fr 4 ?_;refine lo cm ?_;refine mq ?_;refine ja (bz (t:=(.int .i64)) [(.tmp 37,_)] [e.2.2.2.2] rfl rfl eh (.cons rfl .int .nil) rfl rfl) ?_;obtain⟨RH,QX,h⟩:=ab h;refine fr 5 ?_;refine dV rfl rfl rfl (bY rfl rfl eh (aC QX)) ⟨rfl,rfl,trivial⟩ fun Q8=>?_;refine fl pU ?_;refine wZ fun o22=>?_;refine fr 1 ?_;refine bg rfl rfl (bb rfl cm o22 rfl rfl) ⟨rfl,rfl,trivial⟩ ?_;refine ar (bn ?_);exact jz (Q8,(J.2.1,J.2.2.1,J.2.2.2,e.2.2.2.1++[e.2.2.2.2])) h [2,4,3,5,0,1]
       ·refine aS (bn ?_);exact jz (Q,(J.2.1,J.2.2.1,J.2.2.2,e.2.2.2.1)) h [0,2,1,3,4,5]
      ·refine aa (mq ?_);obtain⟨Q6,QU,h⟩:=ab h;refine jb (a9 rfl QU) ?_;refine aq (nl ?_);exact jz (U,(x.1,x.2.1,x.2.2.1,x.2.2.2,Q6)) h [0,1,2,3,4,5]
     ·refine xa ?_;exact jz (Q,(e.1,e.2.1,e.2.2.1,e.2.2.2.1)) h [1,2,0,3,4,5]
    ·refine iH 4 rfl ?_;refine iH 5 rfl ?_;refine fG (pY (off:=1) [] trivial rfl rfl) ?_;refine jY ?_;refine aK rfl rfl rfl (aw rfl eA) ⟨rfl,trivial⟩ ?_;refine eV 3 rfl rfl rfl rfl (an rfl kj mY rfl) ⟨rfl,trivial⟩ ?_;refine eV 0 rfl rfl rfl rfl (an rfl mP (uA) rfl) ⟨rfl,trivial⟩ ?_;refine aK rfl rfl rfl (bz (t:=cF) [(.tmp 43,_)] [(s.1,j.2.2.2)] rfl rfl JW (.cons trivial (.agg (.pair .int .rep)) .nil) rfl rfl) ⟨rfl,trivial⟩ ?_;obtain⟨RG,QW,h⟩:=ab h;refine uy 4 rfl (fun v=>[.sl v 27 cF (y7.2.2.2.1++[(s.1,j.2.2.2)])]) (fun _=>rfl) rfl rfl rfl (bY rfl rfl JW (aC QW)) ⟨rfl,rfl,trivial⟩ ?_;refine aK rfl rfl rfl (aQ rfl) ⟨rfl,trivial⟩ ?_;refine aK rfl rfl rfl (aw rfl nZ) ⟨rfl,trivial⟩ ?_;refine eV 0 rfl rfl rfl rfl (an rfl cI mY rfl) ⟨rfl,trivial⟩ ?_;obtain⟨Q5,QT,h⟩:=ab h;refine aK rfl rfl rfl (a9 rfl QT) ⟨rfl,rfl,trivial⟩ ?_;refine aK rfl rfl rfl (aw rfl eA) ⟨rfl,trivial⟩ ?_;refine ov 10 [true,true,true,true,true,false,false,false,false,true] [] [0] [.obj M 27 (.agg (.pair (I s.1) (Ri j.2.2.2)))] rfl (by kernel_rfl) (by kernel_rfl) (by kernel_rfl) d3 (fun vs hv hB=>?_);obtain⟨w0,RE,rfl,Rm⟩:=ao hv;obtain⟨w1,RD,rfl,Rl⟩:=ao Rm;obtain⟨w2,RB,rfl,Rk⟩:=ao Rl;obtain⟨w3,RA,rfl,Rj⟩:=ao Rk;obtain⟨se,Rz,rfl,Rh⟩:=ao Rj;obtain⟨w5,Ry,rfl,Rf⟩:=ao Rh;obtain⟨w6,Rx,rfl,Re⟩:=ao Rf;obtain⟨w7,Rw,rfl,Rb⟩:=ao Re;obtain⟨w8,Ru,rfl,Q9⟩:=ao Rb;obtain⟨w9,Rr,rfl,QO⟩:=ao Q9;obtain rfl:=lK QO;refine⟨[0,1,2,3,4],[.obj c 98 (.agg (.pair (Ri j.1) (.pair (I j.2.1) (.eq (.int .u64 j.2.2.1))))),.obj b1 25 (.agg (.pair (I 0) (.pair (.eq (.slice none 0 0)) (.eq (.slice none 0 0))))),.obj b3 25 (.agg (.pair (I r2.1) (.pair (.eq z8) (.eq (.slice none 0 0))))),.sl se 27 cF (y7.2.2.2.1++[(s.1,j.2.2.2)])],by kernel_rfl,by decide,?_⟩;refine lp 3 rfl ?_;refine GV fun o27=>?_;refine lp 3 rfl ?_;refine qd rfl rfl (bb rfl kj o27 rfl rfl) ⟨rfl,rfl,trivial⟩ (by kernel_rfl) ?_;refine GW (by kernel_rfl) ?_;refine aq (ar (bn ?_));exact jz (se,(j.1,j.2.1,j.2.2.1,y7.2.2.2.1++[(s.1,j.2.2.2)],Q5)) h [3,4,1,2]
   ·refine aa (mq ?_);obtain⟨Q4,QR,h⟩:=ab h;refine jb (fF rfl QR) ?_;refine aq (nl ?_);exact jz (X,(x9.1,x9.2.1,x9.2.2.1,x9.2.2.2.1,x9.2.2.2.2,Q4)) h [0,1,2,3]
  ·refine xa ?_;exact jz (z8,(y7.1,y7.2.1,y7.2.2.1,y7.2.2.2.1,y7.2.2.2.2.1)) h [0,1,2,3]
 ·
  refine aP (Z:=Value) (α:=(List Int)×Int×Int×(List Int)) (fun O u=>[(0,Pt c),(6,Pt b1),(7,Pt b3),(8,I x4.2.2.2.2)]) (fun O u=>[.obj c 98 (.agg (.pair (Ri u.1) (.pair (I u.2.1) (.eq (.int .u64 u.2.2.1))))),.obj b1 25 (.agg (.pair (I 0) (.pair (.eq (.slice none 0 0)) (.eq (.slice none 0 0))))),.obj b3 25 (.agg (.pair (I r2.1) (.pair (.eq z5) (.eq O)))),.sl z5 27 cF x4.2.2.2.1,.sl O 3 (.int .i64) u.2.2.2]) h (fun K h=>?_) (fun O u h=>?_)
  ·refine sr ?_;iterate 2 refine mq ?_
   obtain⟨Y,Q0,h⟩:=ab h;refine kc (ap [.tmp 51,.const (.int .i64 (1)),.tmp 52] rfl rfl K4 rfl (li k (x4.1,x4.2.1,x4.2.2.1) c 1 a2 Y Q0)) ?_;refine aq (nt (aj ?_));refine fG (SE.nil 3 (.int .i64)) ?_;refine aE (fun E l=>[(0,Pt c),(6,Pt b1),(7,Pt b3),(8,I x4.2.2.2.2),(12,I l.2.2.2.2)]) (fun E l=>[.obj c 98 (.agg (.pair (Ri l.1) (.pair (I l.2.1) (.eq (.int .u64 l.2.2.1))))),.obj b1 25 (.agg (.pair (I 0) (.pair (.eq (.slice none 0 0)) (.eq (.slice none 0 0))))),.obj b3 25 (.agg (.pair (I r2.1) (.pair (.eq z5) (.eq E)))),.sl z5 27 cF x4.2.2.2.1,.sl E 3 (.int .i64) l.2.2.2.1]) (eG k x4) k (.slice none 0 0) (Y.2.1,Y.2.2.1,Y.2.2.2,([]:(List Int)),Y.1) (fun _=>rfl) h (SE.fin [1,2,3,4,0] ⟨rfl,rfl,rfl,rfl,rfl,trivial⟩ rfl) (fun n E l h=>?_);unfold eG at h;refine ah (sr (mq ?_));refine jb (jM rfl) ?_;refine nt (ci h (fun h=>?_) (fun h=>?_))
   ·refine sk (ah (aj (bX ?_)));refine da (aw rfl fD) ?_;refine ea 2 (an rfl cm mY rfl) ?_;refine dm ?_;refine dm ?_;refine db (EI rfl rfl) ?_;refine dm ?_;obtain⟨qt,QQ,h⟩:=ab h;refine db (a9 rfl QQ) ?_;refine db (EI rfl rfl) ?_;refine c9 rfl rfl rfl (bz (t:=(.int .i64)) [(.const (.int .i64 (1)),_),(.const (.int .i64 (2)),_),(.const (.int .i64 (3)),_),(.tmp 62,_),(.tmp 65,_)] [1,2,3,pg 9 x4.2.2.2.2,pg 9 qt] rfl rfl eh (.cons rfl .int (.cons rfl .int (.cons rfl .int (.cons rfl .int (.cons rfl .int .nil))))) rfl rfl) ⟨rfl,rfl,rfl,rfl,rfl,trivial⟩ ?_;obtain⟨D,QZ,h⟩:=ab h;refine I5 0 rfl rfl rfl rfl (ap [.tmp 60,.tmp 66] rfl rfl Jy rfl (nS k (l.1,l.2.1,l.2.2.1) c [1,2,3,pg 9 x4.2.2.2.2,pg 9 qt] D QZ)) ⟨rfl,rfl,trivial⟩ ?_;refine da (bz (t:=(.int .i64)) [(.tmp 67,_)] [D.1] rfl rfl eh (.cons rfl .int .nil) rfl rfl) ?_;refine I7 (Δ':=[.obj b1 25 (.agg (.pair (I 0) (.pair (.eq (.slice none 0 0)) (.eq (.slice none 0 0))))),.obj b3 25 (.agg (.pair (I r2.1) (.pair (.eq z5) (.eq E)))),.sl z5 27 cF x4.2.2.2.1,.sl E 3 (.int .i64) l.2.2.2.1,.obj c 98 (.agg (.pair (Ri D.2.1) (.pair (I D.2.2.1) (.eq (.int .u64 D.2.2.2)))))]) (by kernel_rfl) d3 (by kernel_rfl) ?_;obtain⟨RF,QV,h⟩:=ab h;refine fr 3 ?_;refine dV rfl rfl rfl (bY rfl rfl eh (aC QV)) ⟨rfl,rfl,trivial⟩ fun Q7=>?_;refine fl fD ?_;refine wZ fun o38=>?_;refine fr 2 ?_;refine bg rfl rfl (bb rfl cm o38 rfl rfl) ⟨rfl,rfl,trivial⟩ ?_;refine ar (aN (tn (aa (mq ?_))));obtain⟨Q3,QP,h⟩:=ab h;refine jb (fF rfl QP) ?_;refine aq (nl ?_);exact jz (Q7,(D.2.1,D.2.2.1,D.2.2.2,l.2.2.2.1++[D.1],Q3)) h [4,2,0,3,1]
   ·refine xa ?_;exact jz (E,(l.1,l.2.1,l.2.2.1,l.2.2.2.1)) h [0,1,2,3,4]
  ·refine aP (Z:=Unit) (α:=(List Int)×(List Int)×Int×Int) (fun pp y=>[(6,Pt b1),(7,Pt b3)]) (fun pp y=>[.obj b1 25 (.agg (.pair (I 0) (.pair (.eq (.slice none 0 0)) (.eq (.slice none 0 0))))),.obj b3 25 (.agg (.pair (I r2.1) (.pair (.eq z5) (.eq O)))),.sl z5 27 cF x4.2.2.2.1,.sl O 3 (.int .i64) y.1,.obj c 98 (.agg (.pair (Ri y.2.1) (.pair (I y.2.2.1) (.eq (.int .u64 y.2.2.2)))))]) h (fun K h=>?_) (fun pp y h=>?_)
   ·refine sr (mq ?_);obtain⟨F,QY,h⟩:=ab h;refine kb (ap [.tmp 71,.const (.int .i64 (2))] rfl rfl Jx rfl (mC k (u.1,u.2.1,u.2.2.1) c 2 F QY)) ?_;refine nt (cv h (fun h=>?_) (fun h=>?_))
    ·refine aa (fl fD ?_);refine fr 2 ?_;refine lo cm ?_;refine mq ?_;refine jb (EI rfl rfl) ?_;obtain⟨Rt,mc,h⟩:=ab h;refine fr 4 ?_;refine kb (bJ (t:=(.int .i64)) rfl dW cI mc) ?_;refine bg rfl rfl (dF (i:=Int.toNat 0) rfl cI rfl (jl mc) rfl .int rfl) ⟨rfl,rfl,trivial⟩ ?_;refine nl ?_;exact jz ((),(List.set u.2.2.2 (Int.toNat 0) (pg 9 x4.2.2.2.2),F.2.1,F.2.2.1,F.2.2.2)) h [3,1,4,0,2]
    ·refine aS (ae ?_);exact jz ((),(u.2.2.2,F.2.1,F.2.2.1,F.2.2.2)) h [1,2,3,4,0]
   ·refine sr (fr 1 ?_);refine fr 2 ?_;refine cS (pY (off:=1) [] trivial rfl rfl) ?_;refine fr 2 ?_;refine cS (pY (off:=2) [] trivial rfl rfl) ?_;refine lo hH ?_;refine fr 1 ?_;refine bg rfl rfl (bb rfl hH trivial rfl rfl) ⟨rfl,rfl,trivial⟩ ?_;refine nt (aA (bM (oV (a:=.agg (.pair (I r2.1) (.pair (Rs cF x4.2.2.2.1) (Ri y.1)))) (a':=.rep aD (r2.1,x4.2.2.2.1,y.1)) (xg (.agg (.pair .int (.pair .rep .rep))))) ?_));refine bM (SE.fin (Γ':=[(6,_)]) [2,0,1] ⟨rfl,trivial⟩ rfl) ?_;cases h;exact aM () [.rep aD (r2.1,x4.2.2.2.1,y.1)] 1 ⟨⟨_,_,_,_,_,rfl,(.tail _ (.head _)),hH,(uA),rfl⟩,trivial⟩ rfl
def dO(k:Nat)(a1:Int):Nat→((List Int)×Int×Int×(List Int)×Int)→Option ((List Int)×(List Int)×Int×Int)
 |0,_=>none
 |n+1,y3=>
  if y3.2.2.2.2 < a1 then((dB k (y3.1,y3.2.1,y3.2.2.1) y3.2.2.2.2).bind fun r5=>
  (d4 (bS (List.length y3.2.2.2.1+List.length [y3.2.2.2.2]))).bind fun _=>
  (a8 (y3.2.2.2.1++[y3.2.2.2.2]) r5.1).bind fun x8=>
  (a8 (y3.2.2.2.1++[y3.2.2.2.2]) y3.2.2.2.2).bind fun x9=>
  (a8 (List.set (y3.2.2.2.1++[y3.2.2.2.2]) (Int.toNat y3.2.2.2.2) x8) r5.1).bind fun e=>
  (ck (y3.2.2.2.2+1)).bind fun c=>
  dO k a1 n (r5.2.1,r5.2.2.1,r5.2.2.2,List.set (List.set (y3.2.2.2.1++[y3.2.2.2.2]) (Int.toNat y3.2.2.2.2) x8) (Int.toNat r5.1) y3.2.2.2.2,c)) else(some (y3.2.2.2.1,y3.1,y3.2.1,y3.2.2.1))
def fS(k:Nat)(a0:bv)(a1:Int):Option ((List Int)×bv):=
 ((dO k a1 k (a0.1,a0.2.1,a0.2.2,([]:(List Int)),0)):Option ((List Int)×(List Int)×Int×Int)).bind fun x1=>
 some (x1.1,(x1.2.1,x1.2.2.1,x1.2.2.2))
theorem qN(k:Nat)(a0:bv)(c:Nat)(a1:Int)(r:(List Int)×bv)(h:fS k a0 a1=some r):
 bW Tryz.prog 63 [Pt c,I a1] [.obj c 98 (.agg (.pair (Ri a0.1) (.pair (I a0.2.1) (.eq (.int .u64 a0.2.2)))))] (fun _:Unit=>(bp [Ri r.1],[.obj c 98 (.agg (.pair (Ri r.2.1) (.pair (I r.2.2.1) (.eq (.int .u64 r.2.2.2)))))])):=by
 unfold fS at h
 replace h:=ba h
 refine bW.of 32 Tryz.func63 rfl Tryz.ntmps63 rfl fun S w0=>?_
 refine sr ?_
 refine cq ?_
 refine nt ?_
 refine sr ?_
 refine cq ?_
 refine nt ?_
 refine aP (Z:=Value) (α:=(List Int)×(List Int)×Int×Int) (fun z2 x1=>[(5,.eq z2)]) (fun z2 x1=>[.sl z2 3 (.int .i64) x1.1,.obj c 98 (.agg (.pair (Ri x1.2.1) (.pair (I x1.2.2.1) (.eq (.int .u64 x1.2.2.2)))))]) h (fun K h=>?_) (fun z2 x1 h=>?_)
 ·
  refine sr (cq (nt (aj ?_)));refine fG (SE.nil 3 (.int .i64)) ?_;refine aE (fun z4 y3=>[(0,Pt c),(1,I a1),(5,.eq z4),(6,I y3.2.2.2.2)]) (fun z4 y3=>[.obj c 98 (.agg (.pair (Ri y3.1) (.pair (I y3.2.1) (.eq (.int .u64 y3.2.2.1))))),.sl z4 3 (.int .i64) y3.2.2.2.1]) (dO k a1) k (.slice none 0 0) (a0.1,a0.2.1,a0.2.2,([]:(List Int)),0) (fun _=>rfl) h (SE.fin [1,0] ⟨rfl,rfl,rfl,rfl,trivial⟩ rfl) (fun n z4 y3 h=>?_);unfold dO at h;refine ah (sr ?_);iterate 2 refine mq ?_
  refine jb (bj rfl) ?_;refine nt (ci h (fun h=>?_) (fun h=>?_))
  ·refine sk (ah (aj (sr ?_)));iterate 2 refine mq ?_
   obtain⟨r5,y,h⟩:=ab h;refine kb (ap [.tmp 13,.tmp 14] rfl rfl Gg rfl (fR k (y3.1,y3.2.1,y3.2.2.1) c y3.2.2.2.2 r5 y)) ?_;refine aq (nt (sr ?_));iterate 2 refine mq ?_
   refine ja (bz (t:=(.int .i64)) [(.tmp 17,_)] [y3.2.2.2.2] rfl rfl eh (.cons rfl .int .nil) rfl rfl) ?_;obtain⟨u6,x,h⟩:=ab h;refine fr 1 ?_;refine dV rfl rfl rfl (bY rfl rfl eh (aC x)) ⟨rfl,rfl,trivial⟩ fun v7=>?_;refine aq (nt (aa ?_));iterate 6 refine mq ?_
   obtain⟨x8,l,h⟩:=ab h;refine kb (bJ (t:=(.int .i64)) rfl dW cI l) ?_;refine ka (gB (i:=Int.toNat r5.1) (off:=0) rfl cI (fun _=>rfl) rfl (dk l).2.2 rfl) ?_;refine mq ?_;obtain⟨x9,j,h⟩:=ab h;refine kb (bJ (t:=(.int .i64)) rfl dW cI j) ?_;refine bg rfl rfl (dF (i:=Int.toNat y3.2.2.2.2) rfl cI rfl (jl j) rfl .int rfl) ⟨rfl,rfl,trivial⟩ ?_;obtain⟨D,e,h⟩:=ab h;refine kb (bJ (t:=(.int .i64)) rfl dW cI e) ?_;refine bg rfl rfl (dF (i:=Int.toNat r5.1) rfl cI rfl (jl e) rfl .int rfl) ⟨rfl,rfl,trivial⟩ ?_;refine ar (aN (tn (aa (mq ?_))));obtain⟨u,s,h⟩:=ab h;refine jb (a9 rfl s) ?_;refine aq (nl ?_);exact jz (v7,(r5.2.1,r5.2.2.1,r5.2.2.2,List.set (List.set (y3.2.2.2.1++[y3.2.2.2.2]) (Int.toNat y3.2.2.2.2) x8) (Int.toNat r5.1) y3.2.2.2.2,u)) h [1,0]
  ·refine xa ?_;exact jz (z4,(y3.2.2.2.1,y3.1,y3.2.1,y3.2.2.1)) h [1,0]
 ·
  refine sr (mq ?_);refine aq (nt (aA ?_));refine bM (gK [4,5,31] ⟨rfl,rfl,rfl,trivial⟩) ?_;cases h;exact aM () [_] 1 ⟨rfl,trivial⟩ rfl
def nR(k:Nat)(a0:Int)(a1:Int):Option Int:=
 (d4 (a1≠0)).bind fun _=>
 (ck ((Int.tmod a0 a1)+a1)).bind fun x2=>
 (d4 (a1≠0)).bind fun _=>
 some (Int.tmod x2 a1)
theorem yE(k:Nat)(a0:Int)(a1:Int)(r:Int)(h:nR k a0 a1=some r):
 bW Tryz.prog 122 [I a0,I a1] [] (fun _:Unit=>(bp [I r],[])):=by
 unfold nR at h
 replace h:=ba h
 refine bW.of 12 Tryz.func122 rfl Tryz.ntmps122 rfl fun S w0=>?_
 refine sr ?_
 refine cq ?_
 refine nt ?_
 refine sr ?_
 iterate 2 refine mq ?_
 obtain⟨u1,j,h⟩:=ab h
 refine jb (EF rfl (aC j)) ?_
 refine mq ?_
 obtain⟨x2,c,h⟩:=ab h
 refine jb (a9 rfl c) ?_
 refine mq ?_
 obtain⟨u3,e,h⟩:=ab h
 refine jb (EF rfl (aC e)) ?_
 refine aq ?_
 refine nt ?_
 refine aA ?_
 cases h
 exact ra
def cV(k:Nat)(a1:aZ)(r7:(List Int)×bv)(c:(List Int)×Int×Int×(List Int)×Int×(List (List Int)))(e:Int×bv):Nat→(Int×(List (List Int)))→Option ((List Int)×Int×Int×(List Int)×(List (List Int)))
 |0,_=>none
 |n+1,h=>
  if h.1 < (c.2.2.2.1.length:Int) then((ck (e.1+h.1)).bind fun O=>
  (nR k O (c.2.2.2.1.length:Int)).bind fun j=>
  (((a8 c.2.2.2.1 j).bind fun M=>
  (a8 r7.1 c.2.2.2.2.1).bind fun J=>
  (a8 a1.2.1 J).bind fun I=>
  if I.1≤M then(some (true,h.2)) else((ck ((c.2.2.2.1.length:Int) - 1)).bind fun F=>
  some (decide (h.1=F),h.2))):Option (Bool×(List (List Int)))).bind fun l=>
  if l.1=true then((a8 l.2 j).bind fun s=>
  (a8 r7.1 c.2.2.2.2.1).bind fun r=>
  (d4 (bS (List.length s+List.length [r]))).bind fun _=>
  (a8 c.2.2.2.1 j).bind fun E=>
  (a8 r7.1 c.2.2.2.2.1).bind fun D=>
  (a8 a1.2.1 D).bind fun y=>
  (ck (E - y.1)).bind fun x=>
  (a8 c.2.2.2.1 j).bind fun Q=>
  some (e.2.1,e.2.2.1,e.2.2.2,List.set c.2.2.2.1 (Int.toNat j) x,List.set l.2 (Int.toNat j) (s++[r]))) else((ck (h.1+1)).bind fun u=>
  cV k a1 r7 c e n (u,l.2))) else(some (e.2.1,e.2.2.1,e.2.2.2,c.2.2.2.1,h.2))
def eN(k:Nat)(a1:aZ)(r7:(List Int)×bv):Nat→((List Int)×Int×Int×(List Int)×Int×(List (List Int)))→Option ((List Int)×Int×Int×(List (List Int)))
 |0,_=>none
 |n+1,c=>
  if c.2.2.2.2.1 < (r7.1.length:Int) then((((ck ((c.2.2.2.1.length:Int) - 1)).bind fun j=>
  (dB k (c.1,c.2.1,c.2.2.1) j).bind fun l=>
  cV k a1 r7 c l k (0,c.2.2.2.2.2)):Option ((List Int)×Int×Int×(List Int)×(List (List Int)))).bind fun e=>
  (ck (c.2.2.2.2.1+1)).bind fun h=>
  eN k a1 r7 n (e.1,e.2.1,e.2.2.1,e.2.2.2.1,h,e.2.2.2.2)) else(some (c.1,c.2.1,c.2.2.1,c.2.2.2.2.2))
def gI(k:Nat)(a0:bv)(a1:aZ):Option ((List (List Int))×bv):=
 (d4 (0≤(a1.2.2.length:Int)∧bS (Int.toNat (a1.2.2.length:Int)))).bind fun _=>
 (d4 (bS (List.length ([]:(List Int))+List.length a1.2.2))).bind fun _=>
 (fS k (a0.1,a0.2.1,a0.2.2) (a1.2.1.length:Int)).bind fun r7=>
 ((eN k a1 r7 k (r7.2.1,r7.2.2.1,r7.2.2.2,([]:(List Int))++a1.2.2,0,List.replicate (Int.toNat (a1.2.2.length:Int)) ([]:(List Int)))):Option ((List Int)×Int×Int×(List (List Int)))).bind fun x8=>
 some (x8.2.2.2,(x8.1,x8.2.1,x8.2.2.1))
theorem rW(k:Nat)(a0:bv)(e:Nat)(a1:aZ)(r:(List (List Int))×bv)(h:gI k a0 a1=some r):
 bW Tryz.prog 81 [Pt e,.rep aD a1] [.obj e 98 (.agg (.pair (Ri a0.1) (.pair (I a0.2.1) (.eq (.int .u64 a0.2.2)))))] (fun _:Unit=>(bp [.rep (.slice (.slice (.int .i64))) r.1],[.obj e 98 (.agg (.pair (Ri r.2.1) (.pair (I r.2.2.1) (.eq (.int .u64 r.2.2.2)))))])):=by
 unfold gI at h
 replace h:=ba h
 refine bW.of 100 Tryz.func81 rfl Tryz.ntmps81 rfl fun S w0=>?_
 refine sr ?_
 refine bx fun b1=>?_
 refine cq ?_
 refine nt ?_
 refine sr ?_
 refine fl fD ?_
 refine lo cm ?_
 refine ol dW ?_
 obtain⟨u2,Rn,h⟩:=ab h
 refine aL rfl rfl rfl (EJ (t:=.val) (d:=.slice none 0 0) rfl tw LR (aC Rn).1 (aC Rn).2) ⟨rfl,rfl,trivial⟩ fun v3=>?_
 refine cS (GN (F:=[.obj b1 25 (.rep aD a1),.obj e 98 (.agg (.pair (Ri a0.1) (.pair (I a0.2.1) (.eq (.int .u64 a0.2.2)))))])) ?_
 refine aq ?_
 refine nt ?_
 refine sr ?_
 refine aL rfl rfl rfl (pK (t:=(.int .i64)) [] ([]:(List Int)) rfl rfl eh .nil rfl rfl) trivial fun v4=>?_
 refine fl fD ?_
 refine fr 1 ?_
 refine lo cm ?_
 obtain⟨u5,RI,h⟩:=ab h
 refine fr 1 ?_
 refine dV rfl rfl rfl (bY rfl rfl eh (aC RI)) ⟨rfl,rfl,trivial⟩ fun v6=>?_
 refine aq ?_
 refine nt ?_
 refine sr ?_
 refine mq ?_
 refine fl eA ?_
 refine fr 1 ?_
 refine lo kj ?_
 refine ol sH ?_
 obtain⟨r7,RJ,h⟩:=ab h
 have RL:=qN k (a0.1,a0.2.1,a0.2.2) e (a1.2.1.length:Int) r7 RJ
 refine fr 2 ?_
 refine kb (ap [.tmp 20,.tmp 23] rfl rfl P8 rfl RL) ?_
 refine aq ?_
 refine nt ?_
 refine aP (Z:=(Value×(Nat→Value))) (α:=(List Int)×Int×Int×(List (List Int))) (fun z9 x8=>[(5,.eq z9.1)]) (fun z9 x8=>[.obj e 98 (.agg (.pair (Ri x8.1) (.pair (I x8.2.1) (.eq (.int .u64 x8.2.2.1)))))]++fX 23 z9 x8.2.2.2) h (fun K h=>?_) (fun z9 x8 h=>?_)
 ·
  refine sr (cq (nt (aj ?_)));refine aE (Z:=(Value×(Nat→Value))) (α:=(List Int)×Int×Int×(List Int)×Int×(List (List Int))) (fun Q j=>[(0,Pt e),(3,Pt b1),(5,.eq Q.1),(6,.eq v6),(7,Ri r7.1),(8,I j.2.2.2.2.1)]) (fun Q j=>[.obj e 98 (.agg (.pair (Ri j.1) (.pair (I j.2.1) (.eq (.int .u64 j.2.2.1))))),.obj b1 25 (.rep aD a1),.sl v6 3 (.int .i64) j.2.2.2.1]++fX 23 Q j.2.2.2.2.2) (eN k a1 r7) k (v3,fun _=>.slice none 0 0) (r7.2.1,r7.2.2.1,r7.2.2.2,([]:(List Int))++a1.2.2,0,List.replicate (Int.toNat (a1.2.2.length:Int)) ([]:(List Int))) (fun _=>rfl) h (be [.obj e 98 (.agg (.pair (Ri r7.2.1) (.pair (I r7.2.2.1) (.eq (.int .u64 r7.2.2.2))))),.obj b1 25 (.rep aD a1),.sl v6 3 (.int .i64) (([]:(List Int))++a1.2.2)] (fX 23 (v3,fun _=>.slice none 0 0) (List.replicate (Int.toNat (a1.2.2.length:Int)) ([]:(List Int)))) [0,1,2] ⟨rfl,rfl,rfl,rfl,rfl,rfl,trivial⟩ rfl) (fun n Q j h=>?_);unfold eN at h;refine ah (sr ?_);iterate 2 refine mq ?_
  refine ol dW ?_;refine jb (bj rfl) ?_;refine nt (ci h (fun h=>?_) (fun h=>?_))
  ·refine sk (aP (Z:=(Value×(Nat→Value))) (α:=(List Int)×Int×Int×(List Int)×(List (List Int))) (fun X u=>[(0,Pt e),(3,Pt b1),(5,.eq X.1),(6,.eq v6),(7,Ri r7.1),(8,I j.2.2.2.2.1)]) (fun X u=>[.obj e 98 (.agg (.pair (Ri u.1) (.pair (I u.2.1) (.eq (.int .u64 u.2.2.1))))),.obj b1 25 (.rep aD a1),.sl v6 3 (.int .i64) u.2.2.2.1]++fX 23 X u.2.2.2.2) h (fun K h=>?_) (fun X u h=>?_))
   ·refine aj (sr ?_);iterate 2 refine mq ?_
    refine fr 2 ?_;refine ka (dj rfl rfl dW) ?_;obtain⟨Rx,Rl,h⟩:=ab h;refine jb (fF rfl Rl) ?_;obtain⟨c,Rq,h⟩:=ab h;refine fr 1 ?_;refine kb (ap [.tmp 31,.tmp 34] rfl rfl Gg rfl (fR k (j.1,j.2.1,j.2.2.1) e Rx c Rq)) ?_;refine aq (nt (sr ?_));refine cq (nt (aj ?_));refine aE (Z:=(Value×(Nat→Value))) (α:=Int×(List (List Int))) (fun E y=>[(0,Pt e),(3,Pt b1),(5,.eq E.1),(6,.eq v6),(7,Ri r7.1),(8,I j.2.2.2.2.1),(9,I c.1),(10,I y.1)]) (fun E y=>[.obj e 98 (.agg (.pair (Ri c.2.1) (.pair (I c.2.2.1) (.eq (.int .u64 c.2.2.2))))),.obj b1 25 (.rep aD a1),.sl v6 3 (.int .i64) j.2.2.2.1]++fX 23 E y.2) (cV k a1 r7 j c) k Q (0,j.2.2.2.2.2) (fun _=>rfl) h (be [.obj e 98 (.agg (.pair (Ri c.2.1) (.pair (I c.2.2.1) (.eq (.int .u64 c.2.2.2))))),.sl v6 3 (.int .i64) j.2.2.2.1,.obj b1 25 (.rep aD a1)] (fX 23 Q j.2.2.2.2.2) [0,2,1] ⟨rfl,rfl,rfl,rfl,rfl,rfl,rfl,rfl,trivial⟩ rfl) (fun n E y h=>?_);unfold cV at h;refine ah (sr ?_);iterate 2 refine mq ?_
    refine fr 2 ?_;refine ka (dj rfl rfl dW) ?_;refine jb (bj rfl) ?_;refine nt (ci h (fun h=>?_) (fun h=>?_))
    ·refine sk (ah (aj (sr ?_)));iterate 2 refine mq ?_
     obtain⟨Rw,Rk,h⟩:=ab h;refine jb (a9 rfl Rk) ?_;refine mq ?_;refine ka (dj rfl rfl dW) ?_;obtain⟨s,Ro,h⟩:=ab h;refine jb (ap [.tmp 44,.tmp 46] rfl rfl On rfl (yE k Rw (j.2.2.2.1.length:Int) s Ro)) ?_;refine aq (nt ?_);refine aP (Z:=(Value×(Nat→Value))) (α:=Bool×(List (List Int))) (fun l x=>[(0,Pt e),(3,Pt b1),(5,.eq l.1),(6,.eq v6),(7,Ri r7.1),(8,I j.2.2.2.2.1),(9,I c.1),(10,I y.1),(11,I s),(68,.eq (.bool x.1))]) (fun l x=>[.obj e 98 (.agg (.pair (Ri c.2.1) (.pair (I c.2.2.1) (.eq (.int .u64 c.2.2.2))))),.obj b1 25 (.rep aD a1),.sl v6 3 (.int .i64) j.2.2.2.1]++fX 23 l x.2) h (fun K h=>?_) (fun l x h=>?_)
     ·refine bX ?_;refine dm ?_;refine dm ?_;obtain⟨SD,mc,h⟩:=ab h;refine eb 0 (bJ (t:=(.int .i64)) rfl dW cI mc) ?_;refine ea 0 (gB (i:=Int.toNat s) (off:=0) rfl cI (fun _=>rfl) rfl (dk mc).2.2 rfl) ?_;refine da (aw rfl eA) ?_;refine ea 2 (an rfl kj mY rfl) ?_;refine dm ?_;refine dm ?_;obtain⟨SC,Rj,h⟩:=ab h;refine db (aF (t:=(.int .i64)) rfl dW cI Rj) ?_;refine da (ak (t:=(.int .i64)) rfl cI rfl) ?_;obtain⟨SB,Rh,h⟩:=ab h;refine db (aF (t:=cF) rfl sH mP Rh) ?_;refine da (aI 1 false rfl nZ rfl) ?_;refine da (ak (t:=(.int .i64)) rfl cI rfl) ?_;refine db (ni rfl) ?_;refine rf rfl rfl rfl (aQ rfl) ⟨rfl,trivial⟩ (fun hb=>?_) (fun hb=>?_)
      ·replace h:=cK (od hb) h;iterate 4 refine dg ?_
       refine df d3 ?_;refine gn ?_;refine pt (nl ?_);exact iE (E,(true,y.2)) h (be [.sl v6 3 (.int .i64) j.2.2.2.1,.obj e 98 (.agg (.pair (Ri c.2.1) (.pair (I c.2.2.1) (.eq (.int .u64 c.2.2.2))))),.obj b1 25 (.rep aD a1)] (fX 23 E y.2) [1,2,0] ⟨rfl,rfl,rfl,rfl,rfl,rfl,rfl,rfl,rfl,rfl,trivial⟩ rfl)
      ·replace h:=bR (nr hb) h;refine bI rfl rfl rfl rfl rfl (aQ rfl) ⟨rfl,rfl,trivial⟩ ?_;refine bI rfl rfl rfl rfl rfl (aQ rfl) ⟨rfl,rfl,trivial⟩ ?_;refine kx 0 rfl rfl rfl rfl rfl rfl (dj rfl rfl dW) ⟨rfl,rfl,trivial⟩ ?_;obtain⟨Ru,Rf,h⟩:=ab h;refine bI rfl rfl rfl rfl rfl (fF rfl Rf) ⟨rfl,rfl,rfl,trivial⟩ ?_;refine df d3 ?_;refine gb (eY rfl) ?_;refine pf (nl ?_);exact iE (E,(decide (y.1=Ru),y.2)) h (be [.sl v6 3 (.int .i64) j.2.2.2.1,.obj e 98 (.agg (.pair (Ri c.2.1) (.pair (I c.2.2.1) (.eq (.int .u64 c.2.2.2))))),.obj b1 25 (.rep aD a1)] (fX 23 E y.2) [1,2,0] ⟨rfl,rfl,rfl,rfl,rfl,rfl,rfl,rfl,rfl,rfl,trivial⟩ rfl)
     ·refine cv h (fun h=>?_) (fun h=>?_)
      ·refine ah ?_;obtain⟨O,J,h⟩:=ab h;refine fG (vP (pre:=[.obj e 98 (.agg (.pair (Ri c.2.1) (.pair (I c.2.2.1) (.eq (.int .u64 c.2.2.2))))),.obj b1 25 (.rep aD a1),.sl v6 3 (.int .i64) j.2.2.2.1]) (s4 J).2) ?_;obtain⟨M,Re,h⟩:=ab h;obtain⟨To,Rm,h⟩:=ab h;obtain⟨SA,ac,h⟩:=ab h;obtain⟨Sz,Rb,h⟩:=ab h;obtain⟨Sv,Q9,h⟩:=ab h;obtain⟨U,Q8,h⟩:=ab h;obtain⟨Su,Y,h⟩:=ab h;refine ux (Δ:=[.sl (l.2 (Int.toNat s)) 3 (.int .i64) O,.sl l.1 23 .val (eZ l.2 0 x.2),.obj e 98 (.agg (.pair (Ri c.2.1) (.pair (I c.2.2.1) (.eq (.int .u64 c.2.2.2))))),.obj b1 25 (.rep aD a1),.sl v6 3 (.int .i64) j.2.2.2.1]) (F:=(kD l.2 0 x.2).eraseIdx (Int.toNat s)) (Z:=Value) (fun i=>[(0,Pt e),(3,Pt b1),(5,.eq l.1),(6,.eq v6),(7,Ri r7.1),(8,I j.2.2.2.2.1)]) (fun i=>[.sl v6 3 (.int .i64) (List.set j.2.2.2.1 (Int.toNat s) U),.sl l.1 23 .val (List.set (eZ l.2 0 x.2) (Int.toNat s) i),.sl i 3 (.int .i64) (O++[M]),.obj e 98 (.agg (.pair (Ri c.2.1) (.pair (I c.2.2.1) (.eq (.int .u64 c.2.2.2))))),.obj b1 25 (.rep aD a1)]) (fun S w=>?_) (fun D=>?_)
       ·refine jY ?_;refine aK rfl rfl rfl (aQ rfl) ⟨rfl,trivial⟩ ?_;refine aK rfl rfl rfl (aQ rfl) ⟨rfl,trivial⟩ ?_;refine aK rfl rfl rfl (aQ rfl) ⟨rfl,trivial⟩ ?_;refine aK rfl rfl rfl (aQ rfl) ⟨rfl,trivial⟩ ?_;refine aK rfl rfl rfl (aQ rfl) ⟨rfl,trivial⟩ ?_;refine aK rfl rfl rfl (aQ rfl) ⟨rfl,trivial⟩ ?_;refine eV 1 rfl rfl rfl rfl (bJ (t:=.val) rfl lP cm (oC J)) ⟨rfl,rfl,trivial⟩ ?_;refine eV 1 rfl rfl rfl rfl (gB (i:=Int.toNat s) (off:=0) rfl cm (fun _=>rfl) rfl (dk (oC J)).2.2 rfl) ⟨rfl,trivial⟩ ?_;refine aK rfl rfl rfl (aQ rfl) ⟨rfl,trivial⟩ ?_;refine aK rfl rfl rfl (aQ rfl) ⟨rfl,trivial⟩ ?_;refine aK rfl rfl rfl (aF (t:=(.int .i64)) rfl dW cI Re) ⟨rfl,rfl,trivial⟩ ?_;refine aK rfl rfl rfl (ak (t:=(.int .i64)) rfl cI rfl) ⟨rfl,trivial⟩ ?_;refine aK rfl rfl rfl (bz (t:=(.int .i64)) [(.tmp 80,_)] [M] rfl rfl eh (.cons rfl .int .nil) rfl rfl) ⟨rfl,trivial⟩ ?_;refine uy 0 rfl (fun v=>[.sl v 3 (.int .i64) (O++[M])]) (fun _=>rfl) rfl rfl rfl (bY rfl rfl eh (aC Rm)) ⟨rfl,rfl,trivial⟩ ?_;refine aK rfl rfl rfl (aQ rfl) ⟨rfl,trivial⟩ ?_;refine aK rfl rfl rfl (aQ rfl) ⟨rfl,trivial⟩ ?_;refine eV 4 rfl rfl rfl rfl (bJ (t:=(.int .i64)) rfl dW cI ac) ⟨rfl,rfl,trivial⟩ ?_;refine eV 4 rfl rfl rfl rfl (gB (i:=Int.toNat s) (off:=0) rfl cI (fun _=>rfl) rfl (dk ac).2.2 rfl) ⟨rfl,trivial⟩ ?_;refine aK rfl rfl rfl (aw rfl eA) ⟨rfl,trivial⟩ ?_;refine eV 3 rfl rfl rfl rfl (an rfl kj mY rfl) ⟨rfl,trivial⟩ ?_;refine aK rfl rfl rfl (aQ rfl) ⟨rfl,trivial⟩ ?_;refine aK rfl rfl rfl (aQ rfl) ⟨rfl,trivial⟩ ?_;refine aK rfl rfl rfl (aF (t:=(.int .i64)) rfl dW cI Rb) ⟨rfl,rfl,trivial⟩ ?_;refine aK rfl rfl rfl (ak (t:=(.int .i64)) rfl cI rfl) ⟨rfl,trivial⟩ ?_;refine aK rfl rfl rfl (aF (t:=cF) rfl sH mP Q9) ⟨rfl,rfl,trivial⟩ ?_;refine aK rfl rfl rfl (aI 1 false rfl nZ rfl) ⟨rfl,trivial⟩ ?_;refine aK rfl rfl rfl (ak (t:=(.int .i64)) rfl cI rfl) ⟨rfl,trivial⟩ ?_;refine aK rfl rfl rfl (fF rfl Q8) ⟨rfl,rfl,trivial⟩ ?_;refine eV 1 rfl rfl rfl rfl (bJ (t:=.val) rfl lP cm (oC J)) ⟨rfl,rfl,trivial⟩ ?_;refine ov 29 [true,true,false,false,true,true,true,true,true,true,true,true,true,true,true,true,true,true,true,true,true,true,true,true,true,true,true,false,true] [98] [] [] rfl (by kernel_rfl) (by kernel_rfl) (by kernel_rfl) d3 (fun vs hv hB=>?_);obtain⟨w0,Tn,rfl,RH⟩:=ao hv;obtain⟨w1,Tm,rfl,RG⟩:=ao RH;obtain⟨w2,Tj,rfl,RF⟩:=ao RG;obtain⟨w3,Ti,rfl,RE⟩:=ao RF;obtain⟨w4,Tf,rfl,RD⟩:=ao RE;obtain⟨w5,Td,rfl,RB⟩:=ao RD;obtain⟨w6,Ta,rfl,RA⟩:=ao RB;obtain⟨w7,S9,rfl,Rz⟩:=ao RA;obtain⟨w8,S8,rfl,Ry⟩:=ao Rz;obtain⟨w9,Ss,rfl,Q5⟩:=ao Ry;obtain⟨S7,Sr,rfl,Q4⟩:=ao Q5;obtain⟨S5,Sm,rfl,Q3⟩:=ao Q4;obtain⟨SZ,Sl,rfl,Q2⟩:=ao Q3;obtain⟨D,Sj,rfl,Q1⟩:=ao Q2;obtain⟨SY,Si,rfl,Q0⟩:=ao Q1;obtain⟨SX,R9,rfl,QZ⟩:=ao Q0;obtain⟨SV,R7,rfl,QY⟩:=ao QZ;obtain⟨SU,R2,rfl,QX⟩:=ao QY;obtain⟨SS,RZ,rfl,QW⟩:=ao QX;obtain⟨SR,RY,rfl,QV⟩:=ao QW;obtain⟨SQ,RX,rfl,QU⟩:=ao QV;obtain⟨SO,RV,rfl,QT⟩:=ao QU;obtain⟨SN,RU,rfl,QR⟩:=ao QT;obtain⟨SL,RS,rfl,QQ⟩:=ao QR;obtain⟨SK,RR,rfl,QP⟩:=ao QQ;obtain⟨SJ,RQ,rfl,QO⟩:=ao QP;obtain⟨SI,RP,rfl,se⟩:=ao QO
        obtain⟨SH,RO,rfl,qt⟩:=ao se;obtain⟨SG,RN,rfl,pp⟩:=ao qt;obtain rfl:=lK pp;refine⟨[0,1,2,3,4],[.sl l.1 23 .val (eZ l.2 0 x.2),.obj e 98 (.agg (.pair (Ri c.2.1) (.pair (I c.2.2.1) (.eq (.int .u64 c.2.2.2))))),.obj b1 25 (.rep aD a1),.sl v6 3 (.int .i64) j.2.2.2.1,.sl D 3 (.int .i64) (O++[M])],by kernel_rfl,by decide,?_⟩;refine lp 4 rfl ?_;refine GV fun o34=>?_;refine lp 1 rfl ?_;refine qd rfl rfl (dF (i:=Int.toNat s) rfl cm rfl (jl (oC J)) rfl (.val o34) o34) ⟨rfl,rfl,trivial⟩ (by kernel_rfl) ?_;refine lp 4 rfl ?_;refine GU rfl rfl rfl rfl (bJ (t:=(.int .i64)) rfl dW cI Y) ⟨rfl,rfl,trivial⟩ (by kernel_rfl) ?_;refine qd rfl rfl (dF (i:=Int.toNat s) rfl cI rfl (jl Y) rfl .int rfl) ⟨rfl,rfl,trivial⟩ (by kernel_rfl) ?_;refine sq ?_;refine bM (SE.fin (Γ':=[(0,Pt e),(3,Pt b1),(5,.eq l.1),(6,.eq v6),(7,Ri r7.1),(8,I j.2.2.2.2.1)]) (Δ':=[.sl v6 3 (.int .i64) (List.set j.2.2.2.1 (Int.toNat s) U),.sl l.1 23 .val (List.set (eZ l.2 0 x.2) (Int.toNat s) D),.sl D 3 (.int .i64) (O++[M]),.obj e 98 (.agg (.pair (Ri c.2.1) (.pair (I c.2.2.1) (.eq (.int .u64 c.2.2.2))))),.obj b1 25 (.rep aD a1)]) [0,1,2,3,4] ⟨rfl,rfl,rfl,rfl,rfl,rfl,trivial⟩ rfl) ?_;exact fun a w st=>⟨rfl,(D),(SE.fin (Γ':=[(0,Pt e),(3,Pt b1),(5,.eq l.1),(6,.eq v6),(7,Ri r7.1),(8,I j.2.2.2.2.1)]) (Δ':=[.sl v6 3 (.int .i64) (List.set j.2.2.2.1 (Int.toNat s) U),.sl l.1 23 .val (List.set (eZ l.2 0 x.2) (Int.toNat s) D),.sl D 3 (.int .i64) (O++[M]),.obj e 98 (.agg (.pair (Ri c.2.1) (.pair (I c.2.2.1) (.eq (.int .u64 c.2.2.2))))),.obj b1 25 (.rep aD a1)]) [0,1,2,3,4] ⟨rfl,rfl,rfl,rfl,rfl,rfl,trivial⟩ rfl) a w st⟩
       ·show JN _ _ [(0,Pt e),(3,Pt b1),(5,.eq l.1),(6,.eq v6),(7,Ri r7.1),(8,I j.2.2.2.2.1)] ([.sl v6 3 (.int .i64) (List.set j.2.2.2.1 (Int.toNat s) U),.sl l.1 23 .val (List.set (eZ l.2 0 x.2) (Int.toNat s) D),.sl D 3 (.int .i64) (O++[M]),.obj e 98 (.agg (.pair (Ri c.2.1) (.pair (I c.2.2.1) (.eq (.int .u64 c.2.2.2))))),.obj b1 25 (.rep aD a1)]++(kD l.2 0 x.2).eraseIdx (Int.toNat s));refine dK 1 rfl ?_;refine dK 2 rfl ?_;refine bM (AD (pre:=[.sl v6 3 (.int .i64) (List.set j.2.2.2.1 (Int.toNat s) U),.obj e 98 (.agg (.pair (Ri c.2.1) (.pair (I c.2.2.1) (.eq (.int .u64 c.2.2.2))))),.obj b1 25 (.rep aD a1)]) (z:=l) (i:=Int.toNat s) (s4 J).2) ?_;refine tn (cZ (zh (eq_false (by decide)) ?_));refine aJ (aJ (bH (bn ?_)));exact iE ((l.1,nq l.2 (Int.toNat s) D),(c.2.1,c.2.2.1,c.2.2.2,List.set j.2.2.2.1 (Int.toNat s) U,List.set x.2 (Int.toNat s) (O++[M]))) h (be [.sl v6 3 (.int .i64) (List.set j.2.2.2.1 (Int.toNat s) U),.obj e 98 (.agg (.pair (Ri c.2.1) (.pair (I c.2.2.1) (.eq (.int .u64 c.2.2.2))))),.obj b1 25 (.rep aD a1)] (fX 23 (l.1,nq l.2 (Int.toNat s) D) (List.set x.2 (Int.toNat s) (O++[M]))) [1,2,0] ⟨rfl,rfl,rfl,rfl,rfl,rfl,trivial⟩ rfl)
      ·refine aS (aN (tn (aa (mq ?_))));obtain⟨Rt,Q7,h⟩:=ab h;refine jb (a9 rfl Q7) ?_;refine aq (nl ?_);exact iE (l,(Rt,x.2)) h (be [.obj e 98 (.agg (.pair (Ri c.2.1) (.pair (I c.2.2.1) (.eq (.int .u64 c.2.2.2))))),.obj b1 25 (.rep aD a1),.sl v6 3 (.int .i64) j.2.2.2.1] (fX 23 l x.2) [0,1,2] ⟨rfl,rfl,rfl,rfl,rfl,rfl,rfl,rfl,trivial⟩ rfl)
    ·refine cZ (aJ (aJ (bH (bn ?_))));exact iE (E,(c.2.1,c.2.2.1,c.2.2.2,j.2.2.2.1,y.2)) h (be [.sl v6 3 (.int .i64) j.2.2.2.1,.obj e 98 (.agg (.pair (Ri c.2.1) (.pair (I c.2.2.1) (.eq (.int .u64 c.2.2.2))))),.obj b1 25 (.rep aD a1)] (fX 23 E y.2) [1,2,0] ⟨rfl,rfl,rfl,rfl,rfl,rfl,trivial⟩ rfl)
   ·refine aa (mq ?_);obtain⟨Rr,Q6,h⟩:=ab h;refine jb (a9 rfl Q6) ?_;refine aq (nl ?_);exact iE (X,(u.1,u.2.1,u.2.2.1,u.2.2.2.1,Rr,u.2.2.2.2)) h (be [.obj e 98 (.agg (.pair (Ri u.1) (.pair (I u.2.1) (.eq (.int .u64 u.2.2.1))))),.obj b1 25 (.rep aD a1),.sl v6 3 (.int .i64) u.2.2.2.1] (fX 23 X u.2.2.2.2) [0,1,2] ⟨rfl,rfl,rfl,rfl,rfl,rfl,trivial⟩ rfl)
  ·refine xa ?_;exact iE (Q,(j.1,j.2.1,j.2.2.1,j.2.2.2.2.2)) h (be [.obj e 98 (.agg (.pair (Ri j.1) (.pair (I j.2.1) (.eq (.int .u64 j.2.2.1))))),.obj b1 25 (.rep aD a1),.sl v6 3 (.int .i64) j.2.2.2.1] (fX 23 Q j.2.2.2.2.2) [0] ⟨rfl,trivial⟩ rfl)
 ·
  refine sr (mq ?_);refine aq (nt (aA ?_));refine bM (GO (pre:=[.obj e 98 (.agg (.pair (Ri x8.1) (.pair (I x8.2.1) (.eq (.int .u64 x8.2.2.1)))))])) ?_;refine bM (gK [4,5,99] ⟨rfl,rfl,rfl,trivial⟩) ?_;cases h;exact aM () [_] 1 ⟨rfl,trivial⟩ rfl
def gh(k:Nat)(a0:Int)(a1:Int)(a2:Int):Option Bool:=
 ((if a1≤a0 then(some (decide (a0≤a2))) else(some false)):Option (Bool)).bind fun x1=>
 some x1
theorem iz(k:Nat)(a0:Int)(a1:Int)(a2:Int)(r:Bool)(h:gh k a0 a1 a2=some r):
 bW Tryz.prog 90 [I a0,I a1,I a2] [] (fun _:Unit=>(bp [.eq (.bool r)],[])):=by
 unfold gh at h
 replace h:=ba h
 refine bW.of 15 Tryz.func90 rfl Tryz.ntmps90 rfl fun S w0=>?_
 refine sr ?_
 refine cq ?_
 refine nt ?_
 refine aP (Z:=Unit) (α:=Bool) (fun z2 x1=>[(6,.eq (.bool x1))]) (fun z2 x1=>[]) h (fun K h=>?_) (fun z2 x1 h=>?_)
 ·
  refine aa ?_;iterate 2 refine mq ?_
  refine jb (ni rfl) ?_;refine mq ?_;refine cd (s:=10) rfl (fun hb=>?_) (fun hb=>?_)
  ·replace h:=cK (od hb) h;refine gm ?_;refine gm ?_;refine gb (tV rfl) ?_;refine pt ?_;refine aq (nl ?_);exact jz ((),decide (a0≤a2)) h []
  ·replace h:=bR (nr hb) h;iterate 3 refine gn ?_
   refine pf ?_;refine aq (nl ?_);exact jz ((),false) h []
 ·
  refine aA ?_;cases h;exact ra
def fo(k:Nat)(a0:aZ)(e:ll):Nat→Int→Option (Except Int Unit)
 |0,_=>none
 |n+1,c=>
  if c < (e.2.length:Int) then((a8 e.2 c).bind fun x=>
  (ck (a0.1 - 1)).bind fun u=>
  (gh k x 0 u).bind fun y=>
  if¬(y=true) then(some (.error 1)) else(((if 0 < c then((a8 e.2 c).bind fun r=>
  (ck (c - 1)).bind fun l=>
  (a8 e.2 l).bind fun j=>
  some (decide (r≤j))) else(some false)):Option (Bool)).bind fun s=>
  if s=true then(some (.error 5)) else((ck (c+1)).bind fun h=>
  fo k a0 e n h))) else(some (.ok ()))
def fp(k:Nat)(a0:aZ):Nat→Int→Option (Except Int Unit)
 |0,_=>none
 |n+1,y5=>
  if y5 < (a0.2.1.length:Int) then(bE (α:=Unit) ((a8 a0.2.1 y5).bind fun x9=>
  (gh k x9.1 1 3).bind fun j=>
  if¬(j=true) then(some (.error 1)) else((a8 a0.2.1 y5).bind fun h=>
  fo k a0 h k 0)) (fun e=>some (.error e)) fun _=>
  (ck (y5+1)).bind fun c=>
  fp k a0 n c) else(some (.ok ()))
def fm(k:Nat)(a0:aZ):Nat→Int→Option (Except Int Unit)
 |0,_=>none
 |n+1,c=>
  if c < (a0.2.2.length:Int) then((a8 a0.2.2 c).bind fun h=>
  (gh k h 0 9).bind fun j=>
  if¬(j=true) then(some (.error 1)) else((ck (c+1)).bind fun e=>
  fm k a0 n e)) else(some (.ok ()))
def mm(k:Nat)(a0:aZ):Option Int:=
 (gh k a0.1 1 6).bind fun r2=>
 if¬(r2=true) then(some 1) else(if 5 < (a0.2.1.length:Int) then(some 6) else(bE (α:=Unit) (fp k a0 k 0) (some) fun _=>
 if(a0.2.2.length:Int)=0 then(some 7) else(if 3 < (a0.2.2.length:Int) then(some 6) else(bE (α:=Unit) (fm k a0 k 0) (some) fun _=>
 some 0))))
theorem wd(k:Nat)(a0:aZ)(r:Int)(h:mm k a0=some r):
 bW Tryz.prog 34 [.rep aD a0] [] (fun _:Unit=>(bp [I r],[])):=by
 unfold mm at h
 replace h:=ba h
 refine bW.of 87 Tryz.func34 rfl Tryz.ntmps34 rfl fun S w0=>?_
 refine sr ?_
 refine bx fun b1=>?_
 refine cq ?_
 refine nt ?_
 refine ah ?_
 refine sr ?_
 refine fl lW ?_
 refine lo cI ?_
 obtain⟨r2,Q1,h⟩:=ab h
 have Q2:=iz k a0.1 1 6 r2 Q1
 refine jc (ap [.tmp 8,.const (.int .i64 (1)),.const (.int .i64 (6))] rfl rfl F9 rfl Q2) ?_
 refine ja (dY rfl) ?_
 refine nt ?_
 refine cw h (fun h=>?_) (fun h=>?_)
 ·
  refine sr (cq (nt (rx ?_)));cases h;exact ra
 ·
  refine sk (ah (sr (fl eA ?_)));refine lo kj ?_;refine ol sH ?_;refine jb (jM rfl) ?_;refine nt (ci h (fun h=>?_) (fun h=>?_))
  ·refine sr (cq (nt (rx ?_)));cases h;exact ra
  ·refine sk (dC (Z:=Unit) (α:=Unit) (fun z4 x3=>[(1,Pt b1)]) (fun z4 x3=>[.obj b1 25 (.rep aD a0)]) (fun e=>e=r) h (fun e h=>Option.some.inj h) (fun K hR h=>?_) (fun z4 x3 h=>?_))
   ·refine sr (cq (nt (aj ?_)));refine aE (fun z6 y5=>[(1,Pt b1),(3,I y5)]) (fun z6 y5=>[.obj b1 25 (.rep aD a0)]) (fp k a0) k () 0 (fun _=>rfl) h (SE.fin [0] ⟨rfl,rfl,trivial⟩ rfl) (fun n z6 y5 h=>?_);unfold fp at h;refine ah (sr (mq ?_));refine fl eA ?_;refine lo kj ?_;refine ol sH ?_;refine jb (bj rfl) ?_;refine nt (ci h (fun h=>?_) (fun h=>?_))
    ·refine sk (dC (Z:=Unit) (α:=Unit) (fun z8 x7=>[(1,Pt b1),(3,I y5)]) (fun z8 x7=>[.obj b1 25 (.rep aD a0)]) (fun e=>e=r) h (fun e h=>hR e h) (fun K hR h=>?_) (fun z8 x7 h=>?_))
     ·refine aj (ah (sr (fl eA ?_)));refine lo kj ?_;refine mq ?_;obtain⟨x9,Q0,h⟩:=ab h;refine jb (aF (t:=cF) rfl sH mP Q0) ?_;refine ja (aI 1 false rfl nZ rfl) ?_;refine ja (ak (t:=(.int .i64)) rfl cI rfl) ?_;obtain⟨QZ,se,h⟩:=ab h;refine jc (ap [.tmp 27,.const (.int .i64 (1)),.const (.int .i64 (3))] rfl rfl F9 rfl (iz k x9.1 1 3 QZ se)) ?_;refine ja (dY rfl) ?_;refine nt (cw h (fun h=>?_) (fun h=>?_))
      ·refine sr (cq (nt (rx (br (aY (aO ?_))))));obtain rfl:=hR _ h;exact ra
      ·refine sk (sr (fl eA ?_));refine lo kj ?_;refine mq ?_;obtain⟨s,mc,h⟩:=ab h;refine jb (aF (t:=cF) rfl sH mP mc) ?_;refine ja (aI 1 false rfl pU rfl) ?_;refine ja (ak (t:=(.slice (.int .i64))) rfl cm rfl) ?_;refine aq (nt (sr ?_));refine cq (nt (aj ?_));refine aE (fun D c=>[(1,Pt b1),(3,I y5),(4,Ri s.2),(5,I c)]) (fun D c=>[.obj b1 25 (.rep aD a0)]) (fo k a0 s) k () 0 (fun _=>rfl) h (SE.fin [0] ⟨rfl,rfl,rfl,rfl,trivial⟩ rfl) (fun n D c h=>?_);unfold fo at h;refine ah (sr ?_);iterate 2 refine mq ?_
       refine ol dW ?_;refine jb (bj rfl) ?_;refine nt (ci h (fun h=>?_) (fun h=>?_))
       ·refine sk (ah (aj (ah (ah (bX ?_)))));refine dm ?_;refine dm ?_;obtain⟨QW,ac,h⟩:=ab h;refine db (aF (t:=(.int .i64)) rfl dW cI ac) ?_;refine da (ak (t:=(.int .i64)) rfl cI rfl) ?_;refine da (aw rfl lW) ?_;refine ea 0 (an rfl cI mY rfl) ?_;obtain⟨QV,Y,h⟩:=ab h;refine db (fF rfl Y) ?_;refine df d3 ?_;obtain⟨QY,qt,h⟩:=ab h;refine jc (ap [.tmp 45,.const (.int .i64 (0)),.tmp 48] rfl rfl F9 rfl (iz k QW 0 QV QY qt)) ?_;refine ja (dY rfl) ?_;refine nt (cw h (fun h=>?_) (fun h=>?_))
        ·refine sr (cq (nt (rx (br (aY (br (aY (aO ?_))))))));obtain rfl:=hR _ h;exact ra
        ·refine sk (aP (Z:=Unit) (α:=Bool) (fun y l=>[(1,Pt b1),(3,I y5),(4,Ri s.2),(5,I c),(64,.eq (.bool l))]) (fun y l=>[.obj b1 25 (.rep aD a0)]) h (fun K h=>?_) (fun y l h=>?_))
         ·refine bX ?_;refine dm ?_;refine db (jM rfl) ?_;refine rf rfl rfl rfl (aQ rfl) ⟨rfl,trivial⟩ (fun hb=>?_) (fun hb=>?_)
          ·replace h:=cK (od hb) h;refine bI rfl rfl rfl rfl rfl (aQ rfl) ⟨rfl,rfl,trivial⟩ ?_;refine bI rfl rfl rfl rfl rfl (aQ rfl) ⟨rfl,rfl,trivial⟩ ?_;obtain⟨QU,X,h⟩:=ab h;refine bI rfl rfl rfl rfl rfl (aF (t:=(.int .i64)) rfl dW cI X) ⟨rfl,rfl,rfl,trivial⟩ ?_;refine bI rfl rfl rfl rfl rfl (ak (t:=(.int .i64)) rfl cI rfl) ⟨rfl,rfl,trivial⟩ ?_;refine bI rfl rfl rfl rfl rfl (aQ rfl) ⟨rfl,rfl,trivial⟩ ?_;refine bI rfl rfl rfl rfl rfl (aQ rfl) ⟨rfl,rfl,trivial⟩ ?_;obtain⟨Q3,U,h⟩:=ab h;refine bI rfl rfl rfl rfl rfl (fF rfl U) ⟨rfl,rfl,rfl,trivial⟩ ?_;obtain⟨QT,Q,h⟩:=ab h;refine bI rfl rfl rfl rfl rfl (aF (t:=(.int .i64)) rfl dW cI Q) ⟨rfl,rfl,rfl,trivial⟩ ?_;refine bI rfl rfl rfl rfl rfl (ak (t:=(.int .i64)) rfl cI rfl) ⟨rfl,rfl,trivial⟩ ?_;refine df d3 ?_;refine gb (tV rfl) ?_;refine pt (nl ?_);exact jz ((),decide (QU≤QT)) h [0]
          ·replace h:=bR (nr hb) h;iterate 9 refine dg ?_
           refine df d3 ?_;refine gn ?_;refine pf (nl ?_);exact jz ((),false) h [0]
         ·refine cv h (fun h=>?_) (fun h=>?_)
          ·refine sr (cq (nt (aA (br (aY (br (aY (aO ?_))))))));obtain rfl:=hR _ h;exact ra
          ·refine aS (aN (tn (aa (mq ?_))));obtain⟨QR,O,h⟩:=ab h;refine jb (a9 rfl O) ?_;refine aq (nl ?_);exact jz ((),QR) h [0]
       ·refine cZ (aJ (aJ (bH (bn ?_))));exact jz ((),()) h [0]
     ·refine aa (mq ?_);obtain⟨QQ,M,h⟩:=ab h;refine jb (a9 rfl M) ?_;refine aq (nl ?_);exact jz ((),QQ) h [0]
    ·refine xa ?_;exact jz ((),()) h [0]
   ·refine ah (sr (fl fD ?_));refine lo cm ?_;refine ol dW ?_;refine jb (eY rfl) ?_;refine nt (ci h (fun h=>?_) (fun h=>?_))
    ·refine sr (cq (nt (rx ?_)));cases h;exact ra
    ·refine sk (ah (sr (fl fD ?_)));refine lo cm ?_;refine ol dW ?_;refine jb (jM rfl) ?_;refine nt (ci h (fun h=>?_) (fun h=>?_))
     ·refine sr (cq (nt (rx ?_)));cases h;exact ra
     ·refine sk (dC (Z:=Unit) (α:=Unit) (fun x E=>[]) (fun x E=>[]) (fun e=>e=r) h (fun e h=>Option.some.inj h) (fun K hR h=>?_) (fun x E h=>?_))
      ·refine sr (cq (nt (aj ?_)));refine aE (fun u j=>[(1,Pt b1),(6,I j)]) (fun u j=>[.obj b1 25 (.rep aD a0)]) (fm k a0) k () 0 (fun _=>rfl) h (SE.fin [0] ⟨rfl,rfl,trivial⟩ rfl) (fun n u j h=>?_);unfold fm at h;refine ah (sr (mq ?_));refine fl fD ?_;refine lo cm ?_;refine ol dW ?_;refine jb (bj rfl) ?_;refine nt (ci h (fun h=>?_) (fun h=>?_))
       ·refine sk (ah (aj (sr (fl fD ?_))));refine lo cm ?_;refine mq ?_;obtain⟨QP,J,h⟩:=ab h;refine jb (aF (t:=(.int .i64)) rfl dW cI J) ?_;refine ja (ak (t:=(.int .i64)) rfl cI rfl) ?_;obtain⟨QX,pp,h⟩:=ab h;refine jc (ap [.tmp 84,.const (.int .i64 (0)),.const (.int .i64 (9))] rfl rfl F9 rfl (iz k QP 0 9 QX pp)) ?_;refine ja (dY rfl) ?_;refine nt (cw h (fun h=>?_) (fun h=>?_))
        ·refine sr (cq (nt (aA (br (aY (aO ?_))))));obtain rfl:=hR _ h;exact ra
        ·refine aS (aN (tn (aa (mq ?_))));obtain⟨QO,F,h⟩:=ab h;refine jb (a9 rfl F) ?_;refine aq (nl ?_);exact jz ((),QO) h [0]
       ·refine xa ?_;exact jz ((),()) h []
      ·refine sr (cq (nt (aA ?_)));cases h;exact ra
def jL(k:Nat)(a0:aZ)(a1:Int):Option Bool:=
 (ck ((a0.2.1.length:Int) - 1)).bind fun x2=>
 (gh k a1 0 x2).bind fun r3=>
 some r3
theorem tG(k:Nat)(a0:aZ)(a1:Int)(r:Bool)(h:jL k a0 a1=some r):
 bW Tryz.prog 95 [.rep aD a0,I a1] [] (fun _:Unit=>(bp [.eq (.bool r)],[])):=by
 unfold jL at h
 replace h:=ba h
 refine bW.of 11 Tryz.func95 rfl Tryz.ntmps95 rfl fun S w0=>?_
 refine sr ?_
 refine bx fun b1=>?_
 refine cq ?_
 refine nt ?_
 refine sr ?_
 refine mq ?_
 refine fl eA ?_
 refine lo kj ?_
 refine ol sH ?_
 obtain⟨x2,c,h⟩:=ab h
 refine jb (fF rfl c) ?_
 obtain⟨r3,e,h⟩:=ab h
 have j:=iz k a1 0 x2 r3 e
 refine jc (ap [.tmp 5,.const (.int .i64 (0)),.tmp 9] rfl rfl F9 rfl j) ?_
 refine aq ?_
 refine nt ?_
 refine aA ?_
 cases h
 exact ra
def ib(k:Nat)(a0:(List Int))(a1:Int):Nat→Int→Option (Except Bool Unit)
 |0,_=>none
 |n+1,y3=>
  if y3 < (a0.length:Int) then((a8 a0 y3).bind fun x5=>
  if x5=a1 then(some (.error true)) else((ck (y3+1)).bind fun x6=>
  ib k a0 a1 n x6)) else(some (.ok ()))
def qA(k:Nat)(a0:(List Int))(a1:Int):Option Bool:=
 bE (α:=Unit) (ib k a0 a1 k 0) (some) fun _=>
 some false
theorem zH(k:Nat)(a0:(List Int))(a1:Int)(r:Bool)(h:qA k a0 a1=some r):
 bW Tryz.prog 96 [Ri a0,I a1] [] (fun _:Unit=>(bp [.eq (.bool r)],[])):=by
 unfold qA at h
 replace h:=ba h
 refine bW.of 18 Tryz.func96 rfl Tryz.ntmps96 rfl fun S w0=>?_
 refine sr ?_
 refine cq ?_
 refine nt ?_
 refine dC (Z:=Unit) (α:=Unit) (fun z2 x1=>[]) (fun z2 x1=>[]) (fun e=>e=r) h (fun e h=>Option.some.inj h) (fun K hR h=>?_) (fun z2 x1 h=>?_)
 ·
  refine sr (cq (nt (aj ?_)));refine aE (fun z4 y3=>[(0,Ri a0),(1,I a1),(5,I y3)]) (fun z4 y3=>[]) (ib k a0 a1) k () 0 (fun _=>rfl) h (SE.fin [] ⟨rfl,rfl,rfl,trivial⟩ rfl) (fun n z4 y3 h=>?_);unfold ib at h;refine ah (sr ?_);iterate 2 refine mq ?_
  refine ol dW ?_;refine jb (bj rfl) ?_;refine nt (ci h (fun h=>?_) (fun h=>?_))
  ·refine sk (ah (aj (sr ?_)));iterate 2 refine mq ?_
   obtain⟨x5,j,h⟩:=ab h;refine jb (aF (t:=(.int .i64)) rfl dW cI j) ?_;refine ja (ak (t:=(.int .i64)) rfl cI rfl) ?_;refine mq ?_;refine jb (eY rfl) ?_;refine nt (ci h (fun h=>?_) (fun h=>?_))
   ·refine sr (cq (nt (aA (br (aY (aO ?_))))));obtain rfl:=hR _ h;exact ra
   ·refine aS (aN (tn (aa (mq ?_))));obtain⟨x6,c,h⟩:=ab h;refine jb (a9 rfl c) ?_;refine aq (nl ?_);exact jz ((),x6) h []
  ·refine xa ?_;exact jz ((),()) h []
 ·
  refine sr (cq (nt (aA ?_)));cases h;exact ra
def bU(k:Nat)(a0:aZ)(a1:(List (List Int)))(y5:(List Int)×Int):Nat→((List Int)×Int×Int)→Option (Except Int ((List Int)×Int))
 |0,_=>none
 |n+1,c=>
  (a8 a1 y5.2).bind fun F=>
  if c.2.2 < (F.length:Int) then((a8 a1 y5.2).bind fun E=>
  (a8 E c.2.2).bind fun D=>
  (jL k a0 D).bind fun J=>
  if¬(J=true) then(some (.error 3)) else((a8 a1 y5.2).bind fun y=>
  (a8 y c.2.2).bind fun x=>
  (qA k c.1 x).bind fun I=>
  if I=true then(some (.error 4)) else((a8 a1 y5.2).bind fun u=>
  (a8 u c.2.2).bind fun e=>
  (d4 (bS (List.length c.1+List.length [e]))).bind fun _=>
  (a8 a1 y5.2).bind fun s=>
  (a8 s c.2.2).bind fun r=>
  (a8 a0.2.1 r).bind fun l=>
  (ck (c.2.1+l.1)).bind fun j=>
  (ck (c.2.2+1)).bind fun h=>
  bU k a0 a1 y5 n (c.1++[e],j,h)))) else(some (.ok (c.1,c.2.1)))
def co(k:Nat)(a0:aZ)(a1:(List (List Int))):Nat→((List Int)×Int)→Option (Except Int (List Int))
 |0,_=>none
 |n+1,y5=>
  if y5.2 < (a1.length:Int) then(bE (α:=(List Int)) (bE (α:=(List Int)×Int) (bU k a0 a1 y5 k (y5.1,0,0)) (fun e=>some (.error e)) fun x9=>
  (a8 a0.2.2 y5.2).bind fun h=>
  if h < x9.2 then(some (.error 12)) else(some (.ok x9.1))) (fun e=>some (.error e)) fun x7=>
  (ck (y5.2+1)).bind fun c=>
  co k a0 a1 n (x7,c)) else(some (.ok y5.1))
def fN(k:Nat)(a0:aZ)(a1:(List (List Int))):Option Int:=
 (mm k a0).bind fun r2=>
 if¬(r2=0) then(some r2) else(if(a1.length:Int) < (a0.2.2.length:Int) then(some 7) else(if(a0.2.2.length:Int) < (a1.length:Int) then(some 6) else(bE (α:=(List Int)) (co k a0 a1 k (([]:(List Int)),0)) (some) fun x3=>
 if(x3.length:Int) < (a0.2.1.length:Int) then(some 7) else(some 0))))
theorem o6(k:Nat)(a0:aZ)(a1:(List (List Int)))(r:Int)(h:fN k a0 a1=some r):
 bW Tryz.prog 36 [.rep aD a0,.rep (.slice (.slice (.int .i64))) a1] [] (fun _:Unit=>(bp [I r],[])):=by
 unfold fN at h
 replace h:=ba h
 refine bW.of 98 Tryz.func36 rfl Tryz.ntmps36 rfl fun S w0=>?_
 refine sr ?_
 refine bx fun b1=>?_
 refine cq ?_
 refine nt ?_
 refine ah ?_
 refine sr ?_
 refine lo hH ?_
 obtain⟨r2,Rq,h⟩:=ab h
 have Rr:=wd k a0 r2 Rq
 refine ja (ap [.tmp 10] rfl rfl Qh rfl Rr) ?_
 refine aq ?_
 refine nt ?_
 refine sr ?_
 refine mq ?_
 refine jb (iS rfl) ?_
 refine nt ?_
 refine cn h (fun h=>?_) (fun h=>?_)
 ·
  refine sr (mq ?_);refine aq (nt (rx ?_));cases h;exact ra
 ·
  refine sk (ah (sr (mq ?_)));refine ol lP ?_;refine fl fD ?_;refine lo cm ?_;refine ol dW ?_;refine jb (bj rfl) ?_;refine nt (ci h (fun h=>?_) (fun h=>?_))
  ·refine sr (cq (nt (rx ?_)));cases h;exact ra
  ·refine sk (ah (sr (mq ?_)));refine ol lP ?_;refine fl fD ?_;refine lo cm ?_;refine ol dW ?_;refine jb (jM rfl) ?_;refine nt (ci h (fun h=>?_) (fun h=>?_))
   ·refine sr (cq (nt (rx ?_)));cases h;exact ra
   ·refine sk (sr (cq (nt ?_)));refine dC (Z:=Value) (α:=(List Int)) (fun z4 x3=>[(2,Pt b1),(6,.eq z4)]) (fun z4 x3=>[.obj b1 25 (.rep aD a0),.sl z4 3 (.int .i64) x3]) (fun e=>e=r) h (fun e h=>Option.some.inj h) (fun K hR h=>?_) (fun z4 x3 h=>?_)
    ·refine sr (cq (nt (aj ?_)));refine fG (SE.nil 3 (.int .i64)) ?_;refine aE (fun z6 y5=>[(1,.rep (.slice (.slice (.int .i64))) a1),(2,Pt b1),(6,.eq z6),(7,I y5.2)]) (fun z6 y5=>[.obj b1 25 (.rep aD a0),.sl z6 3 (.int .i64) y5.1]) (co k a0 a1) k (.slice none 0 0) (([]:(List Int)),0) (fun _=>rfl) h (SE.fin [1,0] ⟨rfl,rfl,rfl,rfl,trivial⟩ rfl) (fun n z6 y5 h=>?_);unfold co at h;refine ah (sr ?_);iterate 2 refine mq ?_
     refine ol lP ?_;refine jb (bj rfl) ?_;refine nt (ci h (fun h=>?_) (fun h=>?_))
     ·refine sk (dC (Z:=Value) (α:=(List Int)) (fun z8 x7=>[(1,.rep (.slice (.slice (.int .i64))) a1),(2,Pt b1),(6,.eq z8),(7,I y5.2)]) (fun z8 x7=>[.obj b1 25 (.rep aD a0),.sl z8 3 (.int .i64) x7]) (fun e=>e=r) h (fun e h=>hR e h) (fun K hR h=>?_) (fun z8 x7 h=>?_))
      ·refine aj (sr (cq (nt ?_)));refine dC (Z:=Value) (α:=(List Int)×Int) (fun l x9=>[(1,.rep (.slice (.slice (.int .i64))) a1),(2,Pt b1),(6,.eq l),(7,I y5.2),(8,I x9.2)]) (fun l x9=>[.obj b1 25 (.rep aD a0),.sl l 3 (.int .i64) x9.1]) (fun e=>e=r) h (fun e h=>hR e h) (fun K hR h=>?_) (fun l x9 h=>?_)
       ·refine sr (cq (nt (aj ?_)));refine aE (fun j c=>[(1,.rep (.slice (.slice (.int .i64))) a1),(2,Pt b1),(6,.eq j),(7,I y5.2),(8,I c.2.1),(9,I c.2.2)]) (fun j c=>[.obj b1 25 (.rep aD a0),.sl j 3 (.int .i64) c.1]) (bU k a0 a1 y5) k z6 (y5.1,0,0) (fun _=>rfl) h (SE.fin [0,1] ⟨rfl,rfl,rfl,rfl,rfl,rfl,trivial⟩ rfl) (fun n j c h=>?_);unfold bU at h;refine ah (sr ?_);iterate 3 refine mq ?_
        obtain⟨RU,Q1,h⟩:=ab h;refine jb (aF (t:=(.slice (.int .i64))) rfl lP cm Q1) ?_;refine ja (ak (t:=(.slice (.int .i64))) rfl cm rfl) ?_;refine ol dW ?_;refine jb (bj rfl) ?_;refine nt (ci h (fun h=>?_) (fun h=>?_))
        ·refine sk (ah (aj (ah (ah (bX ?_)))));refine ea 0 (an rfl hH (uA) rfl) ?_;refine dm ?_;refine dm ?_;obtain⟨RS,Q0,h⟩:=ab h;refine db (aF (t:=(.slice (.int .i64))) rfl lP cm Q0) ?_;refine da (ak (t:=(.slice (.int .i64))) rfl cm rfl) ?_;refine dm ?_;obtain⟨Q8,QZ,h⟩:=ab h;refine db (aF (t:=(.int .i64)) rfl dW cI QZ) ?_;refine da (ak (t:=(.int .i64)) rfl cI rfl) ?_;refine df d3 ?_;obtain⟨Rb,Q4,h⟩:=ab h;refine jb (ap [.tmp 42,.tmp 49] rfl rfl P0 rfl (tG k a0 Q8 Rb Q4)) ?_;refine ja (dY rfl) ?_;refine nt (cw h (fun h=>?_) (fun h=>?_))
         ·refine sr (cq (nt (rx (br (aY (aO (br (aY (aO ?_)))))))));obtain rfl:=hR _ h;exact ra
         ·refine sk (ah (sr ?_));iterate 3 refine mq ?_
          obtain⟨RR,QY,h⟩:=ab h;refine jb (aF (t:=(.slice (.int .i64))) rfl lP cm QY) ?_;refine ja (ak (t:=(.slice (.int .i64))) rfl cm rfl) ?_;refine mq ?_;obtain⟨u,QX,h⟩:=ab h;refine jb (aF (t:=(.int .i64)) rfl dW cI QX) ?_;refine ja (ak (t:=(.int .i64)) rfl cI rfl) ?_;obtain⟨Q9,Q3,h⟩:=ab h;refine fr 1 ?_;refine kb (qc (N:=[(.tmp 52,.eq j),(.tmp 59,I u)]) (ap [.tmp 52,.tmp 59] rfl rfl PZ rfl (zH k c.1 u Q9 Q3)) (fun _ _ _ hv hn=>⟨(lend hn.1 hv),hn.2.1,trivial⟩) (fun _=>⟨rfl,ue⟩)) ?_;refine nt (cv h (fun h=>?_) (fun h=>?_))
          ·refine sr (cq (nt (rx (br (aY (aO (br (aY (aO ?_)))))))));obtain rfl:=hR _ h;exact ra
          ·refine sk (jY ?_);refine aK rfl rfl rfl (aQ rfl) ⟨rfl,trivial⟩ ?_;refine aK rfl rfl rfl (aQ rfl) ⟨rfl,trivial⟩ ?_;refine aK rfl rfl rfl (aQ rfl) ⟨rfl,trivial⟩ ?_;obtain⟨RQ,QW,h⟩:=ab h;refine aK rfl rfl rfl (aF (t:=(.slice (.int .i64))) rfl lP cm QW) ⟨rfl,rfl,trivial⟩ ?_;refine aK rfl rfl rfl (ak (t:=(.slice (.int .i64))) rfl cm rfl) ⟨rfl,trivial⟩ ?_;refine aK rfl rfl rfl (aQ rfl) ⟨rfl,trivial⟩ ?_;obtain⟨s,QV,h⟩:=ab h;refine aK rfl rfl rfl (aF (t:=(.int .i64)) rfl dW cI QV) ⟨rfl,rfl,trivial⟩ ?_;refine aK rfl rfl rfl (ak (t:=(.int .i64)) rfl cI rfl) ⟨rfl,trivial⟩ ?_;refine aK rfl rfl rfl (bz (t:=(.int .i64)) [(.tmp 68,_)] [s] rfl rfl eh (.cons rfl .int .nil) rfl rfl) ⟨rfl,trivial⟩ ?_;obtain⟨SJ,Q2,h⟩:=ab h;refine uy 0 rfl (fun v=>[.sl v 3 (.int .i64) (c.1++[s])]) (fun _=>rfl) rfl rfl rfl (bY rfl rfl eh (aC Q2)) ⟨rfl,rfl,trivial⟩ ?_;refine aK rfl rfl rfl (aQ rfl) ⟨rfl,trivial⟩ ?_;refine aK rfl rfl rfl (aw rfl eA) ⟨rfl,trivial⟩ ?_;refine eV 1 rfl rfl rfl rfl (an rfl kj mY rfl) ⟨rfl,trivial⟩ ?_;refine aK rfl rfl rfl (aQ rfl) ⟨rfl,trivial⟩ ?_;refine aK rfl rfl rfl (aQ rfl) ⟨rfl,trivial⟩ ?_;obtain⟨RP,QU,h⟩:=ab h;refine aK rfl rfl rfl (aF (t:=(.slice (.int .i64))) rfl lP cm QU) ⟨rfl,rfl,trivial⟩ ?_;refine aK rfl rfl rfl (ak (t:=(.slice (.int .i64))) rfl cm rfl) ⟨rfl,trivial⟩ ?_;refine aK rfl rfl rfl (aQ rfl) ⟨rfl,trivial⟩ ?_;obtain⟨RO,QT,h⟩:=ab h;refine aK rfl rfl rfl (aF (t:=(.int .i64)) rfl dW cI QT) ⟨rfl,rfl,trivial⟩ ?_;refine aK rfl rfl rfl (ak (t:=(.int .i64)) rfl cI rfl) ⟨rfl,trivial⟩ ?_;obtain⟨RN,QR,h⟩:=ab h;refine aK rfl rfl rfl (aF (t:=cF) rfl sH mP QR) ⟨rfl,rfl,trivial⟩ ?_;refine aK rfl rfl rfl (aI 1 false rfl nZ rfl) ⟨rfl,trivial⟩ ?_;refine aK rfl rfl rfl (ak (t:=(.int .i64)) rfl cI rfl) ⟨rfl,trivial⟩ ?_;obtain⟨Q7,QQ,h⟩:=ab h;refine aK rfl rfl rfl (a9 rfl QQ) ⟨rfl,rfl,trivial⟩ ?_;refine ov 24 [true,true,true,true,true,true,true,true,true,true,false,false,false,false,false,false,false,false,false,false,false,false,false,false] [6] [1] [.obj b1 25 (.rep aD a0)] rfl (by kernel_rfl) (by kernel_rfl) (by kernel_rfl) d3 (fun vs hv hB=>?_);obtain⟨w0,SI,rfl,Ro⟩:=ao hv;obtain⟨w1,SH,rfl,Rn⟩:=ao Ro;obtain⟨w2,SG,rfl,Rm⟩:=ao Rn;obtain⟨w3,SD,rfl,Rl⟩:=ao Rm;obtain⟨w4,SC,rfl,Rk⟩:=ao Rl;obtain⟨w5,SB,rfl,Rj⟩:=ao Rk;obtain⟨w6,SA,rfl,Rh⟩:=ao Rj;obtain⟨w7,Sz,rfl,Rf⟩:=ao Rh;obtain⟨w8,Sv,rfl,Re⟩:=ao Rf;obtain⟨x,RJ,rfl,qt⟩:=ao Re;obtain⟨Su,RI,rfl,pp⟩:=ao qt;obtain⟨Ss,RH,rfl,mc⟩:=ao pp;obtain⟨Sr,RG,rfl,ac⟩:=ao mc;obtain⟨Sm,RF,rfl,Y⟩:=ao ac;obtain⟨Sl,RE,rfl,X⟩:=ao Y;obtain⟨Sj,RD,rfl,U⟩:=ao X;obtain⟨Si,RB,rfl,Q⟩:=ao U;obtain⟨R9,RA,rfl,O⟩:=ao Q;obtain⟨R7,Rz,rfl,M⟩:=ao O;obtain⟨R2,Ry,rfl,J⟩:=ao M;obtain⟨RZ,Rx,rfl,F⟩:=ao J;obtain⟨RY,Rw,rfl,E⟩:=ao F;obtain⟨RX,Ru,rfl,D⟩:=ao E;obtain⟨RV,Rt,rfl,y⟩:=ao D;obtain rfl:=lK y;refine⟨[0,1],[.sl x 3 (.int .i64) (c.1++[s])],by kernel_rfl,by decide,?_⟩;refine m7 rfl rfl rfl rfl (ig rfl) ⟨rfl,trivial⟩ (by kernel_rfl) ?_;refine GW (by kernel_rfl) ?_;refine aq (ar (aN (tn (aa ?_))));refine mq ?_;obtain⟨Q6,QP,h⟩:=ab h
           refine jb (a9 rfl QP) ?_;refine aq (nl ?_);exact jz (x,(c.1++[s],Q7,Q6)) h [0,1]
        ·refine xa ?_;exact jz (j,(c.1,c.2.1)) h [0,1]
       ·refine sr (mq ?_);refine fl fD ?_;refine lo cm ?_;refine mq ?_;obtain⟨RL,QO,h⟩:=ab h;refine jb (aF (t:=(.int .i64)) rfl dW cI QO) ?_;refine ja (ak (t:=(.int .i64)) rfl cI rfl) ?_;refine jb (jM rfl) ?_;refine nt (ci h (fun h=>?_) (fun h=>?_))
        ·refine sr (cq (nt (aA (br (aY (aO ?_))))));obtain rfl:=hR _ h;exact ra
        ·refine aS (bn ?_);exact jz (l,x9.1) h [0,1]
      ·refine aa (mq ?_);obtain⟨Q5,se,h⟩:=ab h;refine jb (a9 rfl se) ?_;refine aq (nl ?_);exact jz (z8,(x7,Q5)) h [0,1]
     ·refine xa ?_;exact jz (z6,y5.1) h [0,1]
    ·refine ah (sr (mq ?_));refine fr 1 ?_;refine ka (dj rfl rfl dW) ?_;refine fl eA ?_;refine fr 1 ?_;refine lo kj ?_;refine ol sH ?_;refine jb (bj rfl) ?_;refine nt (ci h (fun h=>?_) (fun h=>?_))
     ·refine sr (cq (nt (rx ?_)));cases h;exact ra
     ·refine sk (sr (cq (nt (aA ?_))));cases h;exact ra
def mz(k:Nat)(a0:bv)(a1:Int):Option (aZ×(List (List Int))×Bool×bv):=
 (jy k (a0.1,a0.2.1,a0.2.2) a1 3).bind fun r2=>
 (gI k (r2.2.1,r2.2.2.1,r2.2.2.2) r2.1).bind fun r4=>
 (fN k r2.1 r4.1).bind fun r5=>
 some (r2.1,r4.1,decide (r5=0),(r4.2.1,r4.2.2.1,r4.2.2.2))
theorem yA(k:Nat)(a0:bv)(c:Nat)(a1:Int)(r:aZ×(List (List Int))×Bool×bv)(h:mz k a0 a1=some r):
 bW Tryz.prog 44 [Pt c,I a1] [.obj c 98 (.agg (.pair (Ri a0.1) (.pair (I a0.2.1) (.eq (.int .u64 a0.2.2)))))] (fun _:Unit=>(bp [.rep aD r.1,.rep (.slice (.slice (.int .i64))) r.2.1,.eq (.bool r.2.2.1)],[.obj c 98 (.agg (.pair (Ri r.2.2.2.1) (.pair (I r.2.2.2.2.1) (.eq (.int .u64 r.2.2.2.2.2)))))])):=by
 unfold mz at h
 replace h:=ba h
 refine bW.of 21 Tryz.func44 rfl Tryz.ntmps44 rfl fun S w0=>?_
 refine sr ?_
 refine aL rfl rfl rfl (bL rfl xl Dj) trivial fun b1=>?_
 refine cq ?_
 refine cq ?_
 refine nt ?_
 refine sr ?_
 iterate 2 refine mq ?_
 obtain⟨r2,D,h⟩:=ab h
 have J:=uR k (a0.1,a0.2.1,a0.2.2) c a1 3 r2 D
 refine fr 1 ?_
 refine kc (ap [.tmp 9,.tmp 10,.const (.int .i64 (3))] rfl rfl Qa rfl J) ?_
 refine aL rfl rfl rfl (bL rfl xl Dj) trivial fun b3=>?_
 refine bg rfl rfl (bb rfl hH rfl rfl rfl) ⟨rfl,rfl,trivial⟩ ?_
 refine nt ?_
 refine sr ?_
 refine mq ?_
 refine lo hH ?_
 obtain⟨r4,y,h⟩:=ab h
 have F:=rW k (r2.2.1,r2.2.2.1,r2.2.2.2) c r2.1 r4 y
 refine fr 1 ?_
 refine kb (ap [.tmp 12,.tmp 13] rfl rfl P5 rfl F) ?_
 refine aq ?_
 refine nt ?_
 refine ah ?_
 refine jY ?_
 refine eV 1 rfl rfl rfl rfl (an rfl hH (uA) rfl) ⟨rfl,trivial⟩ ?_
 refine aK rfl rfl rfl (aQ rfl) ⟨rfl,trivial⟩ ?_
 refine eV 1 rfl rfl rfl rfl (an rfl hH (uA) rfl) ⟨rfl,trivial⟩ ?_
 refine aK rfl rfl rfl (aQ rfl) ⟨rfl,trivial⟩ ?_
 obtain⟨r5,x,h⟩:=ab h
 have E:=o6 k r2.1 r4.1 r5 x
 refine aK rfl rfl rfl (ap [.tmp 17,.tmp 18] rfl rfl Qg rfl E) ⟨rfl,rfl,trivial⟩ ?_
 refine aK rfl rfl rfl (eY rfl) ⟨rfl,rfl,trivial⟩ ?_
 refine ov 6 [true,false,true,true,true,false] [5,6] [] [] rfl (by kernel_rfl) (by kernel_rfl) (by kernel_rfl) d3 (fun vs hv hB=>?_)
 obtain⟨w0,Y,rfl,u⟩:=ao hv
 obtain⟨w1,X,rfl,s⟩:=ao u
 obtain⟨w2,U,rfl,n⟩:=ao s
 obtain⟨w3,Q,rfl,l⟩:=ao n
 obtain⟨w4,O,rfl,j⟩:=ao l
 obtain⟨w5,M,rfl,e⟩:=ao j
 obtain rfl:=lK e
 refine⟨[0,1,2],[.obj c 98 (.agg (.pair (Ri r4.2.1) (.pair (I r4.2.2.1) (.eq (.int .u64 r4.2.2.2))))),.obj b3 25 (.rep aD r2.1),.obj b1 25 (.agg (.pair (I 0) (.pair (.eq (.slice none 0 0)) (.eq (.slice none 0 0)))))],by kernel_rfl,by decide,?_⟩
 refine lp 2 rfl ?_
 refine qd rfl rfl (bb rfl hH rfl rfl rfl) ⟨rfl,rfl,trivial⟩ (by kernel_rfl) ?_
 refine m7 rfl rfl rfl rfl (ig rfl) ⟨rfl,trivial⟩ (by kernel_rfl) ?_
 refine m7 rfl rfl rfl rfl (ig rfl) ⟨rfl,trivial⟩ (by kernel_rfl) ?_
 refine sq ?_
 refine bM (SE.fin (Γ':=[(4,Pt b1),(5,.rep (.slice (.slice (.int .i64))) r4.1),(6,.eq (.bool (decide (r5=0))))]) (Δ':=[.obj b1 25 (.rep aD r2.1),.obj c 98 (.agg (.pair (Ri r4.2.1) (.pair (I r4.2.2.1) (.eq (.int .u64 r4.2.2.2))))),.obj b3 25 (.rep aD r2.1)]) [0,1,2] ⟨rfl,rfl,rfl,trivial⟩ rfl) ?_
 refine tn ?_
 refine aA ?_
 refine bM (SE.fin (Γ':=[(4,_),(5,_),(6,_)]) [1,0,2] ⟨rfl,rfl,rfl,trivial⟩ rfl) ?_
 cases h
 exact aM () [.rep aD r2.1,_,_] 1 ⟨⟨_,_,_,_,_,rfl,(.tail _ (.head _)),hH,(uA),rfl⟩,rfl,rfl,trivial⟩ rfl
def iW(k:Nat)(a0:(List Int))(a1:Int):Nat→Int→Option (Except Int Unit)
 |0,_=>none
 |n+1,y3=>
  if y3 < (a0.length:Int) then((a8 a0 y3).bind fun x5=>
  if x5=a1 then(some (.error y3)) else((ck (y3+1)).bind fun x6=>
  iW k a0 a1 n x6)) else(some (.ok ()))
def rY(k:Nat)(a0:(List Int))(a1:Int):Option Int:=
 bE (α:=Unit) (iW k a0 a1 k 0) (some) fun _=>
 some (-1:Int)
theorem vx(k:Nat)(a0:(List Int))(a1:Int)(r:Int)(h:rY k a0 a1=some r):
 bW Tryz.prog 45 [Ri a0,I a1] [] (fun _:Unit=>(bp [I r],[])):=by
 unfold rY at h
 replace h:=ba h
 refine bW.of 19 Tryz.func45 rfl Tryz.ntmps45 rfl fun S w0=>?_
 refine sr ?_
 refine cq ?_
 refine nt ?_
 refine dC (Z:=Unit) (α:=Unit) (fun z2 x1=>[]) (fun z2 x1=>[]) (fun e=>e=r) h (fun e h=>Option.some.inj h) (fun K hR h=>?_) (fun z2 x1 h=>?_)
 ·
  refine sr (cq (nt (aj ?_)));refine aE (fun z4 y3=>[(0,Ri a0),(1,I a1),(5,I y3)]) (fun z4 y3=>[]) (iW k a0 a1) k () 0 (fun _=>rfl) h (SE.fin [] ⟨rfl,rfl,rfl,trivial⟩ rfl) (fun n z4 y3 h=>?_);unfold iW at h;refine ah (sr ?_);iterate 2 refine mq ?_
  refine ol dW ?_;refine jb (bj rfl) ?_;refine nt (ci h (fun h=>?_) (fun h=>?_))
  ·refine sk (ah (aj (sr ?_)));iterate 2 refine mq ?_
   obtain⟨x5,j,h⟩:=ab h;refine jb (aF (t:=(.int .i64)) rfl dW cI j) ?_;refine ja (ak (t:=(.int .i64)) rfl cI rfl) ?_;refine mq ?_;refine jb (eY rfl) ?_;refine nt (ci h (fun h=>?_) (fun h=>?_))
   ·refine sr (mq ?_);refine aq (nt (aA (br (aY (aO ?_)))));obtain rfl:=hR _ h;exact ra
   ·refine aS (aN (tn (aa (mq ?_))));obtain⟨x6,c,h⟩:=ab h;refine jb (a9 rfl c) ?_;refine aq (nl ?_);exact jz ((),x6) h []
  ·refine xa ?_;exact jz ((),()) h []
 ·
  refine sr (cq (nt (aA ?_)));cases h;exact ra
def lh(k:Nat)(a0:aZ)(a1:Int)(a2:Int):Option Bool:=
 (a8 a0.2.1 a1).bind fun x2=>
 (rY k x2.2 a2).bind fun r3=>
 some (decide (0≤r3))
theorem nP(k:Nat)(a0:aZ)(a1:Int)(a2:Int)(r:Bool)(h:lh k a0 a1 a2=some r):
 bW Tryz.prog 46 [.rep aD a0,I a1,I a2] [] (fun _:Unit=>(bp [.eq (.bool r)],[])):=by
 unfold lh at h
 replace h:=ba h
 refine bW.of 16 Tryz.func46 rfl Tryz.ntmps46 rfl fun S w0=>?_
 refine sr ?_
 refine bx fun b1=>?_
 refine cq ?_
 refine nt ?_
 refine sr ?_
 refine fl eA ?_
 refine lo kj ?_
 refine mq ?_
 obtain⟨x2,c,h⟩:=ab h
 refine jb (aF (t:=cF) rfl sH mP c) ?_
 refine ja (aI 1 false rfl pU rfl) ?_
 refine ja (ak (t:=(.slice (.int .i64))) rfl cm rfl) ?_
 refine mq ?_
 obtain⟨r3,e,h⟩:=ab h
 have j:=vx k x2.2 a2 r3 e
 refine jb (ap [.tmp 12,.tmp 13] rfl rfl NT rfl j) ?_
 refine jb (ni rfl) ?_
 refine aq ?_
 refine nt ?_
 refine aA ?_
 cases h
 exact ra
def fq(k:Nat)(a0:aZ)(a1:(List Int))(a2:Int)(y4:(List Int)×Int):Nat→((List Int)×Int)→Option (List Int)
 |0,_=>none
 |n+1,y8=>
  if y8.2 < (a1.length:Int) then((((a8 a1 y8.2).bind fun h=>
  (lh k a0 h a2).bind fun l=>
  if l=(decide (y4.2=1)) then((a8 a1 y8.2).bind fun c=>
  (d4 (bS (List.length y8.1+List.length [c]))).bind fun _=>
  some (y8.1++[c])) else(some y8.1)):Option ((List Int))).bind fun j=>
  (ck (y8.2+1)).bind fun e=>
  fq k a0 a1 a2 y4 n (j,e)) else(some y8.1)
def ft(k:Nat)(a0:aZ)(a1:(List Int))(a2:Int):Nat→((List Int)×Int)→Option (List Int)
 |0,_=>none
 |n+1,y4=>
  if y4.2 < 2 then(((fq k a0 a1 a2 y4 k (y4.1,0)):Option ((List Int))).bind fun x6=>
  (ck (y4.2+1)).bind fun c=>
  ft k a0 a1 a2 n (x6,c)) else(some y4.1)
def nQ(k:Nat)(a0:aZ)(a1:(List Int))(a2:Int):Option (List Int):=
 ((ft k a0 a1 a2 k (([]:(List Int)),0)):Option ((List Int))).bind fun x2=>
 some x2
theorem yB(k:Nat)(a0:aZ)(a1:(List Int))(a2:Int)(r:(List Int))(h:nQ k a0 a1 a2=some r):
 bW Tryz.prog 47 [.rep aD a0,Ri a1,I a2] [] (fun _:Unit=>(bp [Ri r],[])):=by
 unfold nQ at h
 replace h:=ba h
 refine bW.of 38 Tryz.func47 rfl Tryz.ntmps47 rfl fun S w0=>?_
 refine sr ?_
 refine bx fun b1=>?_
 refine cq ?_
 refine nt ?_
 refine sr ?_
 refine cq ?_
 refine nt ?_
 refine aP (Z:=Value) (α:=(List Int)) (fun z3 x2=>[(7,.eq z3)]) (fun z3 x2=>[.sl z3 3 (.int .i64) x2]) h (fun K h=>?_) (fun z3 x2 h=>?_)
 ·
  refine sr (cq (nt (aj ?_)));refine fG (SE.nil 3 (.int .i64)) ?_;refine aE (fun z5 y4=>[(1,Ri a1),(2,I a2),(3,Pt b1),(7,.eq z5),(8,I y4.2)]) (fun z5 y4=>[.obj b1 25 (.rep aD a0),.sl z5 3 (.int .i64) y4.1]) (ft k a0 a1 a2) k (.slice none 0 0) (([]:(List Int)),0) (fun _=>rfl) h (SE.fin [1,0] ⟨rfl,rfl,rfl,rfl,rfl,trivial⟩ rfl) (fun n z5 y4 h=>?_);unfold ft at h;refine ah (sr (mq ?_));refine jb (bj rfl) ?_;refine nt (ci h (fun h=>?_) (fun h=>?_))
  ·refine sk (aP (Z:=Value) (α:=(List Int)) (fun z7 x6=>[(1,Ri a1),(2,I a2),(3,Pt b1),(7,.eq z7),(8,I y4.2)]) (fun z7 x6=>[.obj b1 25 (.rep aD a0),.sl z7 3 (.int .i64) x6]) h (fun K h=>?_) (fun z7 x6 h=>?_))
   ·refine aj (sr (cq (nt (aj ?_))));refine aE (fun z9 y8=>[(1,Ri a1),(2,I a2),(3,Pt b1),(7,.eq z9),(8,I y4.2),(9,I y8.2)]) (fun z9 y8=>[.obj b1 25 (.rep aD a0),.sl z9 3 (.int .i64) y8.1]) (fq k a0 a1 a2 y4) k z5 (y4.1,0) (fun _=>rfl) h (SE.fin [0,1] ⟨rfl,rfl,rfl,rfl,rfl,rfl,trivial⟩ rfl) (fun n z9 y8 h=>?_);unfold fq at h;refine ah (sr ?_);iterate 2 refine mq ?_
    refine ol dW ?_;refine jb (bj rfl) ?_;refine nt (ci h (fun h=>?_) (fun h=>?_))
    ·refine sk (aP (Z:=Value) (α:=(List Int)) (fun c e=>[(1,Ri a1),(2,I a2),(3,Pt b1),(7,.eq c),(8,I y4.2),(9,I y8.2)]) (fun c e=>[.obj b1 25 (.rep aD a0),.sl c 3 (.int .i64) e]) h (fun K h=>?_) (fun c e h=>?_))
     ·refine aj (ah (bX ?_));refine ea 0 (an rfl hH (uA) rfl) ?_;refine dm ?_;refine dm ?_;obtain⟨J,x,h⟩:=ab h;refine db (aF (t:=(.int .i64)) rfl dW cI x) ?_;refine da (ak (t:=(.int .i64)) rfl cI rfl) ?_;refine dm ?_;obtain⟨O,D,h⟩:=ab h;refine dc (ap [.tmp 20,.tmp 24,.tmp 25] rfl rfl K5 rfl (nP k a0 J a2 O D)) ?_;refine dm ?_;refine db (eY rfl) ?_;refine df d3 ?_;refine jb (J6 rfl U4) ?_;refine nt (ci h (fun h=>?_) (fun h=>?_))
      ·refine aa ?_;iterate 3 refine mq ?_
       obtain⟨j,u,h⟩:=ab h;refine jb (aF (t:=(.int .i64)) rfl dW cI u) ?_;refine ja (ak (t:=(.int .i64)) rfl cI rfl) ?_;refine ja (bz (t:=(.int .i64)) [(.tmp 34,_)] [j] rfl rfl eh (.cons rfl .int .nil) rfl rfl) ?_;obtain⟨Q,y,h⟩:=ab h;refine fr 1 ?_;refine dV rfl rfl rfl (bY rfl rfl eh (aC y)) ⟨rfl,rfl,trivial⟩ fun M=>?_;refine aq (ar (bn ?_));exact jz (M,y8.1++[j]) h [1,0]
      ·refine aS (bn ?_);exact jz (z9,y8.1) h [0,1]
     ·refine aa (mq ?_);obtain⟨F,s,h⟩:=ab h;refine jb (a9 rfl s) ?_;refine aq (nl ?_);exact jz (c,(e,F)) h [0,1]
    ·refine cZ (aJ (aJ (bH (bn ?_))));exact jz (z9,y8.1) h [0,1]
   ·refine aa (mq ?_);obtain⟨E,l,h⟩:=ab h;refine jb (a9 rfl l) ?_;refine aq (nl ?_);exact jz (z7,(x6,E)) h [0,1]
  ·refine xa ?_;exact jz (z5,y4.1) h [1]
 ·
  refine sr (mq ?_);refine aq (nt (aA ?_));refine bM (gK [6,7,37] ⟨rfl,rfl,rfl,trivial⟩) ?_;cases h;exact ra
end Go.Proofs.YtcnpijmfgfnpiaaGreatDoor
