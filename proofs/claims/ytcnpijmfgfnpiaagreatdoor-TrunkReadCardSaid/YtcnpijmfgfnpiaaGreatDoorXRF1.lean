import Derived.Test.YtcnpijmfgfnpiaaGreatDoorXRFacts
set_option linter.unusedSimpArgs false
set_option linter.unusedVariables false
set_option maxRecDepth 4000
set_option maxHeartbeats 1000000
namespace Go.Proofs.YtcnpijmfgfnpiaaGreatDoor
open K Go Go.Proofs
def dF(k:Nat)(a0:Int)(a1:Int)(a2:Int):Option Bool:=
 ((if a1≤a0 then(some (decide (a0≤a2))) else(some false)):Option (Bool)).bind fun x1=>
 some x1
theorem dP(k:Nat)(a0:Int)(a1:Int)(a2:Int)(r:Bool)(h:dF k a0 a1 a2=some r):
 bW Tryz.prog 83 [I a0,I a1,I a2] [] (fun _:Unit=>(bp [.eq (.bool r)],[])):=by
 unfold dF at h
 replace h:=a9 h
 refine bW.of 15 Tryz.func83 rfl Tryz.ntmps83 rfl fun S w0=>?_
 refine sr ?_
 refine cq ?_
 refine nt ?_
 refine aX (Z:=Unit) (α:=Bool) (fun z2 x1=>[(6,.eq (.bool x1))]) (fun z2 x1=>[]) h (fun K h=>?_) (fun z2 x1 h=>?_)
 ·
  refine ab ?_;iterate 2 refine mq ?_
  refine jb (sA rfl) ?_;refine mq ?_;refine bT (s:=10) rfl (fun hb=>?_) (fun hb=>?_)
  ·replace h:=cC (nr hb) h;refine gm ?_;refine gm ?_;refine gb (sA rfl) ?_;refine pt ?_;refine aq (nl ?_);exact jz ((),decide (a0≤a2)) h []
  ·replace h:=bL (m6 hb) h;iterate 3 refine gn ?_
   refine pf ?_;refine aq (nl ?_);exact jz ((),false) h []
 ·
  refine aA ?_;cases h;exact ra
def cE(k:Nat)(a0:bj)(a1:lg):Nat→Int→Option (Except Int Unit)
 |0,_=>none
 |n+1,y6=>
  if y6 < (a1.2.length:Int) then((bb a1.2 y6).bind fun x8=>
  (ck (a0.1 - 1)).bind fun x9=>
  (dF k x8 0 x9).bind fun l=>
  if¬(l=true) then(some (.error 1)) else(((if 0 < y6 then((ck (y6 - 1)).bind fun h=>
  (bb a1.2 h).bind fun e=>
  some (decide (x8≤e))) else(some false)):Option (Bool)).bind fun j=>
  if j=true then(some (.error 5)) else((ck (y6+1)).bind fun c=>
  cE k a0 a1 n c))) else(some (.ok ()))
def gU(k:Nat)(a0:bj)(a1:lg):Option Int:=
 (dF k a1.1 1 3).bind fun r3=>
 if¬(r3=true) then(some 1) else(bE (α:=Unit) (cE k a0 a1 k 0) (some) fun _=>
 some 0)
theorem qg(k:Nat)(a0:bj)(a1:lg)(r:Int)(h:gU k a0 a1=some r):
 bW Tryz.prog 92 [.rep aD a0,.rep cD a1] [] (fun _:Unit=>(bp [I r],[])):=by
 unfold gU at h
 replace h:=a9 h
 refine bW.of 38 Tryz.func92 rfl Tryz.ntmps92 rfl fun S w0=>?_
 refine sr ?_
 refine bx fun b1=>?_
 refine bx fun b2=>?_
 refine cq ?_
 refine nt ?_
 refine ah ?_
 refine sr ?_
 refine fl nW ?_
 refine lo cH ?_
 obtain⟨r3,O,h⟩:=aa h
 have Q:=dP k a1.1 1 3 r3 O
 refine jc (ap [.tmp 8,.const (.int .i64 (1)),.const (.int .i64 (3))] rfl rfl yJ rfl Q) ?_
 refine ja (eK rfl) ?_
 refine nt ?_
 refine cw h (fun h=>?_) (fun h=>?_)
 ·
  refine sr (cq (nt (rx ?_)));cases h;exact ra
 ·
  refine sk (dE (Z:=Unit) (α:=Unit) (fun z5 x4=>[]) (fun z5 x4=>[]) (fun e=>e=r) h (fun e h=>Option.some.inj h) (fun K hR h=>?_) (fun z5 x4 h=>?_))
  ·refine sr (fl rU ?_);refine lo cp ?_;refine ol ep ?_;refine dX rfl ?_;refine nt (aj (aL (fun z7 y6=>[(2,Pt b1),(3,Pt b2),(12,Ri a1.2),(13,I (a1.2.length:Int)),(14,I y6)]) (fun z7 y6=>[.obj b1 25 (.rep aD a0),.obj b2 27 (.rep cD a1)]) (cE k a0 a1) k () 0 (fun _=>rfl) h (SE.fin [1,0] ⟨rfl,rfl,rfl,rfl,rfl,trivial⟩ rfl) (fun n z7 y6 h=>?_)));unfold cE at h;refine sr (jb (bG rfl) ?_);refine nt (ah (ci h (fun h=>?_) (fun h=>?_)))
   ·refine sk (ah (aj (sr (mq ?_))));obtain⟨x8,M,h⟩:=aa h;refine jb (aN (t:=(.int .i64)) rfl ep cH M) ?_;refine ja (ao (t:=(.int .i64)) rfl cH rfl) ?_;refine aq ?_;refine aq (nt (ah (sr ?_)));refine mq ?_;refine fl m5 ?_;refine lo cH ?_;obtain⟨x9,J,h⟩:=aa h;refine jb (eJ rfl J) ?_;obtain⟨F,y,h⟩:=aa h;refine jc (ap [.tmp 19,.const (.int .i64 (0)),.tmp 22] rfl rfl yJ rfl (dP k x8 0 x9 F y)) ?_;refine ja (eK rfl) ?_;refine nt (cw h (fun h=>?_) (fun h=>?_))
    ·refine sr (cq (nt (rx (br (aZ (aM ?_))))));obtain rfl:=hR _ h;exact ra
    ·refine sk (aX (Z:=Unit) (α:=Bool) (fun j c=>[(2,Pt b1),(3,Pt b2),(12,Ri a1.2),(13,I (a1.2.length:Int)),(14,I y6),(36,.eq (.bool c))]) (fun j c=>[.obj b1 25 (.rep aD a0),.obj b2 27 (.rep cD a1)]) h (fun K h=>?_) (fun j c h=>?_))
     ·refine ab (mq ?_);refine jb (ji rfl) ?_;refine mq ?_;refine bT (s:=27) rfl (fun hb=>?_) (fun hb=>?_)
      ·replace h:=cC (nr hb) h;refine gm ?_;refine ga (aw rfl rU) ?_;refine fr 1 ?_;refine lX rfl rfl rfl rfl rfl rfl (an rfl cp mX rfl) ⟨rfl,trivial⟩ ?_;refine gm ?_;obtain⟨U,x,h⟩:=aa h;refine gb (eJ rfl x) ?_;obtain⟨E,u,h⟩:=aa h;refine gb (aN (t:=(.int .i64)) rfl ep cH u) ?_;refine ga (ao (t:=(.int .i64)) rfl cH rfl) ?_;refine gb (sA rfl) ?_;refine pt (nl ?_);exact jz ((),decide (x8≤E)) h [1,0]
      ·replace h:=bL (m6 hb) h;iterate 8 refine gn ?_
       refine pf (nl ?_);exact jz ((),false) h [0,1]
     ·refine cv h (fun h=>?_) (fun h=>?_)
      ·refine sr (cq (nt (aA (br (aZ (aM ?_))))));obtain rfl:=hR _ h;exact ra
      ·refine aS (aK (tn (ab ?_)));obtain⟨D,l,h⟩:=aa h;refine jb (bi rfl l) ?_;refine mq (nl ?_);exact jz ((),D) h [0,1]
   ·refine xa ?_;exact jz ((),()) h []
  ·refine sr (cq (nt (aA ?_)));cases h;exact ra
def eV(k:Nat)(a0:bj):Nat→Int→Option (Except Int Unit)
 |0,_=>none
 |n+1,y5=>
  if y5 < (a0.2.1.length:Int) then((bb a0.2.1 y5).bind fun x7=>
  (gU k a0 x7).bind fun r9=>
  if¬(r9=0) then(some (.error r9)) else((ck (y5+1)).bind fun c=>
  eV k a0 n c)) else(some (.ok ()))
def eU(k:Nat)(a0:bj):Nat→Int→Option (Except Int Unit)
 |0,_=>none
 |n+1,c=>
  if c < (a0.2.2.length:Int) then((bb a0.2.2 c).bind fun h=>
  (dF k h 0 9).bind fun j=>
  if¬(j=true) then(some (.error 1)) else((ck (c+1)).bind fun e=>
  eU k a0 n e)) else(some (.ok ()))
def jq(k:Nat)(a0:bj):Option Int:=
 (dF k a0.1 1 6).bind fun r2=>
 if¬(r2=true) then(some 1) else(if 5 < (a0.2.1.length:Int) then(some 6) else(bE (α:=Unit) (eV k a0 k 0) (some) fun _=>
 if(a0.2.2.length:Int) < 1 then(some 7) else(if 3 < (a0.2.2.length:Int) then(some 6) else(bE (α:=Unit) (eU k a0 k 0) (some) fun _=>
 some 0))))
theorem mO(k:Nat)(a0:bj)(r:Int)(h:jq k a0=some r):
 bW Tryz.prog 33 [.rep aD a0] [] (fun _:Unit=>(bp [I r],[])):=by
 unfold jq at h
 replace h:=a9 h
 refine bW.of 51 Tryz.func33 rfl Tryz.ntmps33 rfl fun S w0=>?_
 refine sr ?_
 refine bx fun b1=>?_
 refine cq ?_
 refine nt ?_
 refine ah ?_
 refine sr ?_
 refine fl m5 ?_
 refine lo cH ?_
 obtain⟨r2,U,h⟩:=aa h
 have X:=dP k a0.1 1 6 r2 U
 refine jc (ap [.tmp 10,.const (.int .i64 (1)),.const (.int .i64 (6))] rfl rfl yJ rfl X) ?_
 refine ja (eK rfl) ?_
 refine nt ?_
 refine cw h (fun h=>?_) (fun h=>?_)
 ·
  refine sr (cq (nt (rx ?_)));cases h;exact ra
 ·
  refine sk (ah (sr (fl eO ?_)));refine lo lp ?_;refine ol s4 ?_;refine jb (ji rfl) ?_;refine nt (ci h (fun h=>?_) (fun h=>?_))
  ·refine sr (cq (nt (rx ?_)));cases h;exact ra
  ·refine sk (dE (Z:=Unit) (α:=Unit) (fun z4 x3=>[(1,Pt b1)]) (fun z4 x3=>[.obj b1 25 (.rep aD a0)]) (fun e=>e=r) h (fun e h=>Option.some.inj h) (fun K hR h=>?_) (fun z4 x3 h=>?_))
   ·refine sr (fl eO ?_);refine lo lp ?_;refine ol s4 ?_;refine dX rfl ?_;refine nt (aj (aL (fun z6 y5=>[(1,Pt b1),(18,Rs cD a0.2.1),(19,I (a0.2.1.length:Int)),(20,I y5)]) (fun z6 y5=>[.obj b1 25 (.rep aD a0)]) (eV k a0) k () 0 (fun _=>rfl) h (SE.fin [0] ⟨rfl,rfl,rfl,rfl,trivial⟩ rfl) (fun n z6 y5 h=>?_)));unfold eV at h;refine sr (jb (bG rfl) ?_);refine nt (ah (ci h (fun h=>?_) (fun h=>?_)))
    ·refine sk (ah (aj (sr ?_)));obtain⟨x7,O,h⟩:=aa h;refine jb (aN (t:=cD) rfl s4 nn O) ?_;refine ja (ao (t:=cD) rfl nn rfl) ?_;refine aH rfl rfl rfl (bJ rfl vR IP) trivial fun b8=>?_;refine be rfl rfl (a8 rfl nn rfl rfl rfl) ⟨rfl,rfl,trivial⟩ ?_;refine nt (sr (fr 1 ?_));refine lo gW ?_;refine fr 1 ?_;refine lo nn ?_;obtain⟨r9,Q,h⟩:=aa h;refine jb (ap [.tmp 24,.tmp 25] rfl rfl P7 rfl (qg k a0 x7 r9 Q)) ?_;refine aq (nt (sr ?_));refine mq ?_;refine jb (ip rfl) ?_;refine nt (cn h (fun h=>?_) (fun h=>?_))
     ·refine sr (mq ?_);refine aq (nt (aA (br (aZ (aM ?_)))));obtain rfl:=hR _ h;exact ra
     ·refine aS (aK (tn (ab ?_)));obtain⟨J,y,h⟩:=aa h;refine jb (bi rfl y) ?_;refine mq (nl ?_);exact jz ((),J) h [1]
    ·refine xa ?_;exact jz ((),()) h [0]
   ·refine ah (sr (fl fq ?_));refine lo cp ?_;refine ol ep ?_;refine aq (nt (aj (sr ?_)));refine mq ?_;refine jb (bG rfl) ?_;refine aq (nt ?_);refine ci h (fun h=>?_) (fun h=>?_)
    ·refine sr (cq (nt (aA (aZ (aM ?_)))));cases h;exact ra
    ·refine sr (mq ?_);refine jb (ji rfl) ?_;refine aq (nt ?_);refine ci h (fun h=>?_) (fun h=>?_)
     ·refine sr (cq (nt (aA (aZ (aM ?_)))));cases h;exact ra
     ·refine aS (aK (tn (dE (Z:=Unit) (α:=Unit) (fun l s=>[]) (fun l s=>[]) (fun e=>e=r) h (fun e h=>Option.some.inj h) (fun K hR h=>?_) (fun l s h=>?_))))
      ·refine sr (fl fq ?_);refine lo cp ?_;refine ol ep ?_;refine dX rfl ?_;refine nt (aj (aL (fun j c=>[(41,Ri a0.2.2),(42,I (a0.2.2.length:Int)),(43,I c)]) (fun j c=>[]) (eU k a0) k () 0 (fun _=>rfl) h (SE.fin [] ⟨rfl,rfl,rfl,trivial⟩ rfl) (fun n j c h=>?_)));unfold eU at h;refine sr (jb (bG rfl) ?_);refine nt (ah (ci h (fun h=>?_) (fun h=>?_)))
       ·refine sk (ah (aj (sr ?_)));obtain⟨F,x,h⟩:=aa h;refine jb (aN (t:=(.int .i64)) rfl ep cH x) ?_;refine ja (ao (t:=(.int .i64)) rfl cH rfl) ?_;refine aq (nt (sr ?_));refine mq ?_;obtain⟨M,D,h⟩:=aa h;refine jc (ap [.tmp 47,.const (.int .i64 (0)),.const (.int .i64 (9))] rfl rfl yJ rfl (dP k F 0 9 M D)) ?_;refine ja (eK rfl) ?_;refine nt (cw h (fun h=>?_) (fun h=>?_))
        ·refine sr (cq (nt (aA (br (aZ (aM ?_))))));obtain rfl:=hR _ h;exact ra
        ·refine aS (aK (tn (ab ?_)));obtain⟨E,u,h⟩:=aa h;refine jb (bi rfl u) ?_;refine mq (nl ?_);exact jz ((),E) h []
       ·refine xa ?_;exact jz ((),()) h []
      ·refine sr (cq (nt (aA ?_)));cases h;exact ra
def dQ(k:Nat)(a0:Int)(a1:Int):Option Bool:=
 (dh (0≤a1)).bind fun _=>
 some (decide ((uQ .u8 (gJ .u8 a0 a1) 1)=1))
theorem gQ(k:Nat)(a0:Int)(a1:Int)(r:Bool)(h:dQ k a0 a1=some r):
 bW Tryz.prog 87 [.eq (.int .u8 a0),I a1] [] (fun _:Unit=>(bp [.eq (.bool r)],[])):=by
 unfold dQ at h
 replace h:=a9 h
 refine bW.of 10 Tryz.func87 rfl Tryz.ntmps87 rfl fun S w0=>?_
 refine sr ?_
 refine cq ?_
 refine nt ?_
 refine sr ?_
 iterate 2 refine mq ?_
 obtain⟨u1,c,h⟩:=aa h
 refine jb (tQ rfl (aC c)) ?_
 refine jb (MY rfl) ?_
 refine jb (dS rfl) ?_
 refine aq ?_
 refine nt ?_
 refine aA ?_
 cases h
 exact ra
def fV(k:Nat)(a0:Int)(a1:Int):Option Int:=
 (dh (0≤a1)).bind fun _=>
 some (CU .u8 a0 (mA .u8 1 a1))
theorem iC(k:Nat)(a0:Int)(a1:Int)(r:Int)(h:fV k a0 a1=some r):
 bW Tryz.prog 134 [.eq (.int .u8 a0),I a1] [] (fun _:Unit=>(bp [.eq (.int .u8 r)],[])):=by
 unfold fV at h
 replace h:=a9 h
 refine bW.of 9 Tryz.func134 rfl Tryz.ntmps134 rfl fun S w0=>?_
 refine sr ?_
 refine cq ?_
 refine nt ?_
 refine sr ?_
 iterate 2 refine mq ?_
 obtain⟨u1,c,h⟩:=aa h
 refine jb (ED rfl (aC c)) ?_
 refine jb (MW rfl) ?_
 refine aq ?_
 refine nt ?_
 refine aA ?_
 cases h
 exact ra
def fR(k:Nat)(a0:bj)(a1:(List Int)):Nat→(Int×Int)→Option Int
 |0,_=>none
 |n+1,y4=>
  if y4.2 < (a1.length:Int) then((bb a1 y4.2).bind fun x6=>
  (bb a0.2.1 x6).bind fun x7=>
  (ck (y4.1+x7.1)).bind fun x8=>
  (ck (y4.2+1)).bind fun x9=>
  fR k a0 a1 n (x8,x9)) else(some y4.1)
def me(k:Nat)(a0:bj)(a1:(List Int)):Option Int:=
 ((fR k a0 a1 k (0,0)):Option (Int)).bind fun x2=>
 some x2
theorem sn(k:Nat)(a0:bj)(a1:(List Int))(r:Int)(h:me k a0 a1=some r):
 bW Tryz.prog 135 [.rep aD a0,Ri a1] [] (fun _:Unit=>(bp [I r],[])):=by
 unfold me at h
 replace h:=a9 h
 refine bW.of 24 Tryz.func135 rfl Tryz.ntmps135 rfl fun S w0=>?_
 refine sr ?_
 refine bx fun b1=>?_
 refine cq ?_
 refine nt ?_
 refine sr ?_
 refine cq ?_
 refine nt ?_
 refine aX (Z:=Unit) (α:=Int) (fun z3 x2=>[(5,I x2)]) (fun z3 x2=>[]) h (fun K h=>?_) (fun z3 x2 h=>?_)
 ·
  refine sr (mq ?_);refine ol ep ?_;refine dX rfl ?_;refine nt (aj (aL (fun z5 y4=>[(2,Pt b1),(5,I y4.1),(8,Ri a1),(9,I (a1.length:Int)),(10,I y4.2)]) (fun z5 y4=>[.obj b1 25 (.rep aD a0)]) (fR k a0 a1) k () (0,0) (fun _=>rfl) h (SE.fin [0] ⟨rfl,rfl,rfl,rfl,rfl,trivial⟩ rfl) (fun n z5 y4 h=>?_)));unfold fR at h;refine sr (jb (bG rfl) ?_);refine nt (ah (ci h (fun h=>?_) (fun h=>?_)))
  ·refine sk (ah (aj (sr ?_)));obtain⟨x6,l,h⟩:=aa h;refine jb (aN (t:=(.int .i64)) rfl ep cH l) ?_;refine ja (ao (t:=(.int .i64)) rfl cH rfl) ?_;refine aq (nt (ab ?_));refine mq ?_;refine fl eO ?_;refine lo lp ?_;refine mq ?_;obtain⟨x7,j,h⟩:=aa h;refine jb (aN (t:=cD) rfl s4 nn j) ?_;refine ja (aI 1 false rfl nW rfl) ?_;refine ja (ao (t:=(.int .i64)) rfl cH rfl) ?_;obtain⟨x8,e,h⟩:=aa h;refine jb (bi rfl e) ?_;refine aq (ar (aK (tn (ab ?_))));obtain⟨x9,c,h⟩:=aa h;refine jb (bi rfl c) ?_;refine mq (nl ?_);exact jz ((),(x8,x9)) h [0]
  ·refine xa ?_;exact jz ((),y4.1) h []
 ·
  refine sr (mq ?_);refine aq (nt (aA ?_));cases h;exact ra
def dL(k:Nat)(a0:bj)(x8:(List Int)):Nat→(Int×Int)→Option (Except Value Int)
 |0,_=>none
 |n+1,c=>
  if c.2 < (x8.length:Int) then((bb x8 c.2).bind fun e=>
  (ck ((a0.2.1.length:Int) - 1)).bind fun j=>
  (dF k e 0 j).bind fun s=>
  if¬(s=true) then(some (.error (.iface 118 (.agg #[.int .i64 3])))) else((dQ k c.1 e).bind fun r=>
  if r=true then(some (.error (.iface 118 (.agg #[.int .i64 4])))) else((fV k c.1 e).bind fun l=>
  (ck (c.2+1)).bind fun h=>
  dL k a0 x8 n (l,h)))) else(some (.ok c.1))
def eR(k:Nat)(a0:bj)(a1:(List (List Int))):Nat→(Int×Int)→Option (Except Value Int)
 |0,_=>none
 |n+1,y4=>
  if y4.2 < (a1.length:Int) then(bE (α:=Int) ((bb a1 y4.2).bind fun x8=>
  bE (α:=Int) (dL k a0 x8 k (y4.1,0)) (fun e=>some (.error e)) fun x9=>
  (me k a0 x8).bind fun j=>
  (bb a0.2.2 y4.2).bind fun h=>
  if h < j then(some (.error (.iface 118 (.agg #[.int .i64 12])))) else(some (.ok x9))) (fun e=>some (.error e)) fun x6=>
  (ck (y4.2+1)).bind fun c=>
  eR k a0 a1 n (x6,c)) else(some (.ok y4.1))
def kB(k:Nat)(a0:bj)(a1:(List (List Int))):Option Value:=
 if(a1.length:Int) < (a0.2.2.length:Int) then(some (.iface 118 (.agg #[.int .i64 7]))) else(if(a0.2.2.length:Int) < (a1.length:Int) then(some (.iface 118 (.agg #[.int .i64 6]))) else(bE (α:=Int) (eR k a0 a1 k (0,0)) (some) fun x2=>
 (dh (0≤(a0.2.1.length:Int))).bind fun _=>
 if¬(x2=(IntKind.u8.wrap ((mA .u8 1 (a0.2.1.length:Int)) - 1))) then(some (.iface 118 (.agg #[.int .i64 7]))) else(some (.nilIface))))
theorem pZ(k:Nat)(a0:bj)(a1:(List (List Int)))(r:Value)(h:kB k a0 a1=some r):
 bW Tryz.prog 94 [.rep aD a0,.rep (.slice (.slice (.int .i64))) a1] [] (fun _:Unit=>(bp [.eq r],[])):=by
 unfold kB at h
 replace h:=a9 h
 refine bW.of 80 Tryz.func94 rfl Tryz.ntmps94 rfl fun S w0=>?_
 refine sr ?_
 refine bx fun b1=>?_
 refine cq ?_
 refine nt ?_
 refine ah ?_
 refine sr ?_
 refine fl fq ?_
 refine lo cp ?_
 refine ol ep ?_
 refine aq ?_
 refine nt ?_
 refine aj ?_
 refine sr ?_
 refine mq ?_
 refine ol mH ?_
 refine mq ?_
 refine jb (bG rfl) ?_
 refine aq ?_
 refine nt ?_
 refine ci h (fun h=>?_) (fun h=>?_)
 ·
  refine sr (ja (de [(0,.const (.int .i64 (7)),_)] rfl vd s9 sc (jd ⟨rfl,trivial⟩) rfl) ?_);refine ja (mn rfl Dl) ?_;refine aq (nt (aA (aZ (aM ?_))));cases h;exact ra
 ·
  refine sr (mq ?_);refine ol mH ?_;refine mq ?_;refine jb (ji rfl) ?_;refine aq (nt ?_);refine ci h (fun h=>?_) (fun h=>?_)
  ·refine sr (ja (de [(0,.const (.int .i64 (6)),_)] rfl vd s9 sc (jd ⟨rfl,trivial⟩) rfl) ?_);refine ja (mn rfl Dl) ?_;refine aq (nt (aA (aZ (aM ?_))));cases h;exact ra
  ·refine aS (aK (tn (sr (cq (nt ?_)))));refine dE (Z:=Unit) (α:=Int) (fun z3 x2=>[(2,Pt b1),(6,.eq (.int .u8 x2))]) (fun z3 x2=>[.obj b1 25 (.rep aD a0)]) (fun e=>e=r) h (fun e h=>Option.some.inj h) (fun K hR h=>?_) (fun z3 x2 h=>?_)
   ·refine sr (mq ?_);refine ol mH ?_;refine dX rfl ?_;refine nt (aj (aL (fun z5 y4=>[(2,Pt b1),(6,.eq (.int .u8 y4.1)),(28,.rep (.slice (.slice (.int .i64))) a1),(29,I (a1.length:Int)),(30,I y4.2)]) (fun z5 y4=>[.obj b1 25 (.rep aD a0)]) (eR k a0 a1) k () (0,0) (fun _=>rfl) h (SE.fin [0] ⟨rfl,rfl,rfl,rfl,rfl,trivial⟩ rfl) (fun n z5 y4 h=>?_)));unfold eR at h;refine sr (jb (bG rfl) ?_);refine nt (ah (ci h (fun h=>?_) (fun h=>?_)))
    ·refine sk (dE (Z:=Unit) (α:=Int) (fun z7 x6=>[(2,Pt b1),(6,.eq (.int .u8 x6)),(28,.rep (.slice (.slice (.int .i64))) a1),(29,I (a1.length:Int)),(30,I y4.2)]) (fun z7 x6=>[.obj b1 25 (.rep aD a0)]) (fun e=>e=r) h (fun e h=>hR e h) (fun K hR h=>?_) (fun z7 x6 h=>?_))
     ·refine aj (sr (mq ?_));obtain⟨x8,se,h⟩:=aa h;refine jb (aN (t:=(.slice (.int .i64))) rfl mH cp se) ?_;refine ja (ao (t:=(.slice (.int .i64))) rfl cp rfl) ?_;refine aq ?_;refine aq (nt ?_);refine dE (Z:=Unit) (α:=Int) (fun s x9=>[(2,Pt b1),(6,.eq (.int .u8 x9)),(7,I y4.2),(8,Ri x8),(28,.rep (.slice (.slice (.int .i64))) a1),(29,I (a1.length:Int)),(30,I y4.2)]) (fun s x9=>[.obj b1 25 (.rep aD a0)]) (fun e=>e=r) h (fun e h=>hR e h) (fun K hR h=>?_) (fun s x9 h=>?_)
      ·refine sr (mq ?_);refine ol ep ?_;refine dX rfl ?_;refine nt (aj (aL (fun l c=>[(2,Pt b1),(6,.eq (.int .u8 c.1)),(7,I y4.2),(8,Ri x8),(28,.rep (.slice (.slice (.int .i64))) a1),(29,I (a1.length:Int)),(30,I y4.2),(35,Ri x8),(36,I (x8.length:Int)),(37,I c.2)]) (fun l c=>[.obj b1 25 (.rep aD a0)]) (dL k a0 x8) k () (y4.1,0) (fun _=>rfl) h (SE.fin [0] ⟨rfl,rfl,rfl,rfl,rfl,rfl,rfl,rfl,rfl,rfl,trivial⟩ rfl) (fun n l c h=>?_)));unfold dL at h;refine sr (jb (bG rfl) ?_);refine nt (ah (ci h (fun h=>?_) (fun h=>?_)))
       ·refine sk (ah (aj (sr ?_)));obtain⟨j,F,h⟩:=aa h;refine jb (aN (t:=(.int .i64)) rfl ep cH F) ?_;refine ja (ao (t:=(.int .i64)) rfl cH rfl) ?_;refine aq (nt (ah (sr ?_)));refine mq ?_;refine fl eO ?_;refine lo lp ?_;refine ol s4 ?_;obtain⟨ac,E,h⟩:=aa h;refine jb (eJ rfl E) ?_;obtain⟨qt,U,h⟩:=aa h;refine jc (ap [.tmp 41,.const (.int .i64 (0)),.tmp 45] rfl rfl yJ rfl (dP k j 0 ac qt U)) ?_;refine ja (eK rfl) ?_;refine nt (cw h (fun h=>?_) (fun h=>?_))
        ·refine sr (ja (de [(0,.const (.int .i64 (3)),_)] rfl vd s9 sc (jd ⟨rfl,trivial⟩) rfl) ?_);refine ja (mn rfl Dl) ?_;refine aq (nt (rx (br (aZ (aM (br (aZ (aM ?_))))))));obtain rfl:=hR _ h;exact ra
        ·refine sk (ah (sr ?_));iterate 2 refine mq ?_
         obtain⟨pp,Q,h⟩:=aa h;refine jb (ap [.tmp 50,.tmp 51] rfl rfl Ix rfl (gQ k c.1 j pp Q)) ?_;refine nt (cv h (fun h=>?_) (fun h=>?_))
         ·refine sr (ja (de [(0,.const (.int .i64 (4)),_)] rfl vd s9 sc (jd ⟨rfl,trivial⟩) rfl) ?_);refine ja (mn rfl Dl) ?_;refine aq (nt (rx (br (aZ (aM (br (aZ (aM ?_))))))));obtain rfl:=hR _ h;exact ra
         ·refine sk (ab ?_);iterate 2 refine mq ?_
          obtain⟨u,O,h⟩:=aa h;refine jb (ap [.tmp 55,.tmp 56] rfl rfl Bd rfl (iC k c.1 j u O)) ?_;refine aq (ar (aK (tn (ab ?_))));obtain⟨Y,D,h⟩:=aa h;refine jb (bi rfl D) ?_;refine mq (nl ?_);exact jz ((),(u,Y)) h [0]
       ·refine xa ?_;exact jz ((),c.1) h [0]
      ·refine ah (cu ?_);refine ea 0 (an rfl gW (xe) rfl) ?_;refine dm ?_;obtain⟨mc,M,h⟩:=aa h;refine db (ap [.tmp 59,.tmp 60] rfl rfl Jw rfl (sn k a0 x8 mc M)) ?_;refine da (aw rfl fq) ?_;refine ea 0 (an rfl cp mX rfl) ?_;refine dm ?_;obtain⟨QV,y,h⟩:=aa h;refine db (aN (t:=(.int .i64)) rfl ep cH y) ?_;refine da (ao (t:=(.int .i64)) rfl cH rfl) ?_;refine df fe ?_;refine jb (ji rfl) ?_;refine nt (ci h (fun h=>?_) (fun h=>?_))
       ·refine sr (ja (de [(0,.const (.int .i64 (12)),_)] rfl vd s9 sc (jd ⟨rfl,trivial⟩) rfl) ?_);refine ja (mn rfl Dl) ?_;refine aq (nt (aA (br (aZ (aM ?_)))));obtain rfl:=hR _ h;exact ra
       ·refine aS (bn ?_);exact jz ((),x9) h [0]
     ·refine ab ?_;obtain⟨X,x,h⟩:=aa h;refine jb (bi rfl x) ?_;refine mq (nl ?_);exact jz ((),(x6,X)) h [0]
    ·refine xa ?_;exact jz ((),y4.1) h [0]
   ·refine ah (sr (mq ?_));refine fl eO ?_;refine lo lp ?_;refine ol s4 ?_;obtain⟨QW,J,h⟩:=aa h;refine jb (ED rfl (aC J)) ?_;refine jb (zQ rfl) ?_;refine jb (ip rfl) ?_;refine nt (cn h (fun h=>?_) (fun h=>?_))
    ·refine sr (ja (de [(0,.const (.int .i64 (7)),_)] rfl vd s9 sc (jd ⟨rfl,trivial⟩) rfl) ?_);refine ja (mn rfl Dl) ?_;refine aq (nt (rx ?_));cases h;exact ra
    ·refine sk (sr (cq (nt (aA ?_))));cases h;exact ra
def i7(k:Nat)(a0:(List (List Int)))(y5:(List (List Int))×Int):Nat→((List (List Int))×Int)→Option (List (List Int))
 |0,_=>none
 |n+1,y9=>
  if y9.2 < 5 then((((dh (0≤y5.2∧y5.2 < 3)).bind fun _=>
  (bb y9.1 y5.2).bind fun c=>
  (dh (0≤y9.2∧y9.2 < 5)).bind fun _=>
  ((if y5.2 < (a0.length:Int) then((bb a0 y5.2).bind fun r=>
  some (decide (y9.2 < (r.length:Int)))) else(some false)):Option (Bool)).bind fun s=>
  if s=true then((bb a0 y5.2).bind fun l=>
  (bb l y9.2).bind fun j=>
  (dh (0≤y5.2∧y5.2 < 3)).bind fun _=>
  (bb (List.set y9.1 (Int.toNat y5.2) (List.set c (Int.toNat y9.2) (-1:Int))) y5.2).bind fun h=>
  (dh (0≤y9.2∧y9.2 < 5)).bind fun _=>
  some (List.set (List.set y9.1 (Int.toNat y5.2) (List.set c (Int.toNat y9.2) (-1:Int))) (Int.toNat y5.2) (List.set h (Int.toNat y9.2) j))) else(some (List.set y9.1 (Int.toNat y5.2) (List.set c (Int.toNat y9.2) (-1:Int))))):Option ((List (List Int)))).bind fun u=>
  (ck (y9.2+1)).bind fun e=>
  i7 k a0 y5 n (u,e)) else(some y9.1)
def i8(k:Nat)(a0:(List (List Int))):Nat→((List (List Int))×Int)→Option (List (List Int))
 |0,_=>none
 |n+1,y5=>
  if y5.2 < 3 then(((i7 k a0 y5 k (y5.1,0)):Option ((List (List Int)))).bind fun x7=>
  (ck (y5.2+1)).bind fun c=>
  i8 k a0 n (x7,c)) else(some y5.1)
def eS(k:Nat)(a0:(List (List Int))):Option (List (List Int)):=
 ((i8 k a0 k ([[0,0,0,0,0],[0,0,0,0,0],[0,0,0,0,0]],0)):Option ((List (List Int)))).bind fun x3=>
 some x3
theorem eu(k:Nat)(a0:(List (List Int)))(r:(List (List Int)))(h:eS k a0=some r):
 bW Tryz.prog 86 [.rep (.slice (.slice (.int .i64))) a0] [] (fun _:Unit=>(bp [.rep (.arr 3 (.arr 5 (.int .i64))) r],[])):=by
 unfold eS at h
 replace h:=a9 h
 refine bW.of 43 Tryz.func86 rfl Tryz.ntmps86 rfl fun S w0=>?_
 refine sr ?_
 refine aH rfl rfl rfl (bJ rfl l6 mF) trivial fun b1=>?_
 refine nt ?_
 refine sr ?_
 refine aH rfl rfl rfl (bJ rfl l6 mF) trivial fun b2=>?_
 refine nt ?_
 refine aX (Z:=Unit) (α:=(List (List Int))) (fun z4 x3=>[(2,Pt b1),(3,Pt b2)]) (fun z4 x3=>[.obj b1 107 (.rep (.arr 3 (.arr 5 (.int .i64))) [[0,0,0,0,0],[0,0,0,0,0],[0,0,0,0,0]]),.obj b2 107 (.rep (.arr 3 (.arr 5 (.int .i64))) x3)]) h (fun K h=>?_) (fun z4 x3 h=>?_)
 ·
  refine sr (dX rfl ?_);refine nt (aj (aL (fun z6 y5=>[(0,.rep (.slice (.slice (.int .i64))) a0),(2,Pt b1),(3,Pt b2),(6,I y5.2)]) (fun z6 y5=>[.obj b1 107 (.rep (.arr 3 (.arr 5 (.int .i64))) [[0,0,0,0,0],[0,0,0,0,0],[0,0,0,0,0]]),.obj b2 107 (.rep (.arr 3 (.arr 5 (.int .i64))) y5.1)]) (i8 k a0) k () ([[0,0,0,0,0],[0,0,0,0,0],[0,0,0,0,0]],0) (fun _=>rfl) h (SE.fin [1,0] ⟨rfl,rfl,rfl,rfl,trivial⟩ rfl) (fun n z6 y5 h=>?_)));unfold i8 at h;refine sr (jb (bG rfl) ?_);refine nt (ah (ci h (fun h=>?_) (fun h=>?_)))
  ·refine sk (aX (Z:=Unit) (α:=(List (List Int))) (fun z8 x7=>[(0,.rep (.slice (.slice (.int .i64))) a0),(2,Pt b1),(3,Pt b2),(6,I y5.2)]) (fun z8 x7=>[.obj b1 107 (.rep (.arr 3 (.arr 5 (.int .i64))) [[0,0,0,0,0],[0,0,0,0,0],[0,0,0,0,0]]),.obj b2 107 (.rep (.arr 3 (.arr 5 (.int .i64))) x7)]) h (fun K h=>?_) (fun z8 x7 h=>?_))
   ·refine aj (sr (mq ?_));refine aq (nt (sr ?_));refine dX rfl ?_;refine nt (aj (aL (fun J y9=>[(0,.rep (.slice (.slice (.int .i64))) a0),(2,Pt b1),(3,Pt b2),(4,I y5.2),(6,I y5.2),(9,I y9.2)]) (fun J y9=>[.obj b1 107 (.rep (.arr 3 (.arr 5 (.int .i64))) [[0,0,0,0,0],[0,0,0,0,0],[0,0,0,0,0]]),.obj b2 107 (.rep (.arr 3 (.arr 5 (.int .i64))) y9.1)]) (i7 k a0 y5) k () (y5.1,0) (fun _=>rfl) h (SE.fin [0,1] ⟨rfl,rfl,rfl,rfl,rfl,rfl,trivial⟩ rfl) (fun n J y9 h=>?_)));unfold i7 at h;refine sr (jb (bG rfl) ?_);refine nt (ah (ci h (fun h=>?_) (fun h=>?_)))
    ·refine sk (aX (Z:=Unit) (α:=(List (List Int))) (fun F l=>[(0,.rep (.slice (.slice (.int .i64))) a0),(2,Pt b1),(3,Pt b2),(4,I y5.2),(6,I y5.2),(9,I y9.2)]) (fun F l=>[.obj b1 107 (.rep (.arr 3 (.arr 5 (.int .i64))) [[0,0,0,0,0],[0,0,0,0,0],[0,0,0,0,0]]),.obj b2 107 (.rep (.arr 3 (.arr 5 (.int .i64))) l)]) h (fun K h=>?_) (fun F l h=>?_))
     ·refine aj (sr (mq ?_));refine aq (nt (sr ?_));iterate 2 refine mq ?_
      obtain⟨Q0,x,h⟩:=aa h;refine jb (g9 rfl IV xH (aC x).1 (aC x).2) ?_;obtain⟨D,ac,h⟩:=aa h;obtain⟨QZ,e,h⟩:=aa h;refine jb (g9 rfl IW cH (aC e).1 (aC e).2) ?_;refine fr 1 ?_;refine be rfl rfl (mT (t:=(.int .i64)) (off:=0) (i:=y5.2) (j:=y9.2) (N:=3) (L:=5) rfl cH .int rfl rfl rfl rfl ac (aC e).1 (aC e).2 rfl) ⟨rfl,rfl,trivial⟩ ?_;refine nt (aX (Z:=Unit) (α:=Bool) (fun E y=>[(0,.rep (.slice (.slice (.int .i64))) a0),(2,Pt b1),(3,Pt b2),(4,I y5.2),(5,I y9.2),(6,I y5.2),(9,I y9.2),(28,.eq (.bool y))]) (fun E y=>[.obj b1 107 (.rep (.arr 3 (.arr 5 (.int .i64))) [[0,0,0,0,0],[0,0,0,0,0],[0,0,0,0,0]]),.obj b2 107 (.rep (.arr 3 (.arr 5 (.int .i64))) (List.set y9.1 (Int.toNat y5.2) (List.set D (Int.toNat y9.2) (-1:Int))))]) h (fun K h=>?_) (fun E y h=>?_))
      ·refine ab ?_;iterate 2 refine mq ?_
       refine ol mH ?_;refine jb (bG rfl) ?_;refine mq ?_;refine bT (s:=20) rfl (fun hb=>?_) (fun hb=>?_)
       ·replace h:=cC (nr hb) h;refine gm ?_;refine gm ?_;refine gm ?_;obtain⟨QV,Y,h⟩:=aa h;refine gb (aN (t:=(.slice (.int .i64))) rfl mH cp Y) ?_;refine ga (ao (t:=(.slice (.int .i64))) rfl cp rfl) ?_;refine ga (mm rfl rfl ep) ?_;refine gb (bG rfl) ?_;refine pt (nl ?_);exact jz ((),decide (y9.2 < (QV.length:Int))) h [1,0]
       ·replace h:=bL (m6 hb) h;iterate 7 refine gn ?_
        refine pf (nl ?_);exact jz ((),false) h [1,0]
      ·refine cv h (fun h=>?_) (fun h=>?_)
       ·refine cu ?_;refine dm ?_;refine dm ?_;refine dm ?_;refine dm ?_;obtain⟨QW,X,h⟩:=aa h;refine db (aN (t:=(.slice (.int .i64))) rfl mH cp X) ?_;refine da (ao (t:=(.slice (.int .i64))) rfl cp rfl) ?_;refine dm ?_;obtain⟨se,U,h⟩:=aa h;refine db (aN (t:=(.int .i64)) rfl ep cH U) ?_;refine da (ao (t:=(.int .i64)) rfl cH rfl) ?_;obtain⟨QY,u,h⟩:=aa h;refine db (g9 rfl IV xH (aC u).1 (aC u).2) ?_;refine df fe ?_;obtain⟨qt,Q,h⟩:=aa h;obtain⟨QX,c,h⟩:=aa h;refine jb (g9 rfl IW cH (aC c).1 (aC c).2) ?_;refine fr 1 ?_;refine be rfl rfl (mT (t:=(.int .i64)) (off:=0) (i:=y5.2) (j:=y9.2) (N:=3) (L:=5) rfl cH .int rfl rfl rfl rfl Q (aC c).1 (aC c).2 rfl) ⟨rfl,rfl,trivial⟩ ?_;refine ar (bn ?_);exact jz ((),List.set (List.set y9.1 (Int.toNat y5.2) (List.set D (Int.toNat y9.2) (-1:Int))) (Int.toNat y5.2) (List.set qt (Int.toNat y9.2) se)) h [1,0]
       ·refine aS (bn ?_);exact jz ((),List.set y9.1 (Int.toNat y5.2) (List.set D (Int.toNat y9.2) (-1:Int))) h [0,1]
     ·refine ab ?_;obtain⟨pp,O,h⟩:=aa h;refine jb (bi rfl O) ?_;refine mq (nl ?_);exact jz ((),(l,pp)) h [0,1]
    ·refine dt (aP (aP (bQ (bn ?_))));exact jz ((),y9.1) h [0,1]
   ·refine ab ?_;obtain⟨mc,M,h⟩:=aa h;refine jb (bi rfl M) ?_;refine mq (nl ?_);exact jz ((),(x7,mc)) h [0,1]
  ·refine xa ?_;exact jz ((),y5.1) h [0,1]
 ·
  refine sr (fr 1 ?_);refine lo cI ?_;refine fr 1 ?_;refine be rfl rfl (a8 rfl cI rfl rfl rfl) ⟨rfl,rfl,trivial⟩ ?_;refine nt (aA ?_);obtain rfl:=Option.some.inj h;exact aF () [.rep (.arr 3 (.arr 5 (.int .i64))) x3] 0 ⟨⟨_,_,_,_,_,rfl,(.head _),cI,(xe),rfl⟩,trivial⟩ rfl
def ib(k:Nat)(x5:(List Int)):Nat→((List Int)×Int)→Option (List Int)
 |0,_=>none
 |n+1,y6=>
  if y6.2 < 5 then((((bb x5 y6.2).bind fun c=>
  if 0≤c then((dh (bO (List.length y6.1+List.length [c]))).bind fun _=>
  some (y6.1++[c])) else(some y6.1)):Option ((List Int))).bind fun x8=>
  (ck (y6.2+1)).bind fun e=>
  ib k x5 n (x8,e)) else(some y6.1)
def fk(k:Nat)(a0:(List (List Int)))(a1:Int):Option (List Int):=
 (((dh (0≤a1∧a1 < 3)).bind fun _=>
 (bb a0 a1).bind fun x5=>
 ib k x5 k (([]:(List Int)),0)):Option ((List Int))).bind fun x2=>
 some x2
theorem fB(k:Nat)(a0:(List (List Int)))(a1:Int)(r:(List Int))(h:fk k a0 a1=some r):
 bW Tryz.prog 110 [.rep (.arr 3 (.arr 5 (.int .i64))) a0,I a1] [] (fun _:Unit=>(bp [Ri r],[])):=by
 unfold fk at h
 replace h:=a9 h
 refine bW.of 22 Tryz.func110 rfl Tryz.ntmps110 rfl fun S w0=>?_
 refine sr ?_
 refine bx fun b1=>?_
 refine cq ?_
 refine nt ?_
 refine sr ?_
 refine cq ?_
 refine nt ?_
 refine aX (Z:=Value) (α:=(List Int)) (fun z3 x2=>[(5,.eq z3)]) (fun z3 x2=>[.sl z3 3 (.int .i64) x2]) h (fun K h=>?_) (fun z3 x2 h=>?_)
 ·
  refine sr (mq ?_);obtain⟨u4,l,h⟩:=aa h;refine jb (g9 rfl IV xH (aC l).1 (aC l).2) ?_;obtain⟨x5,y,h⟩:=aa h;refine ka (zU (t:=(.arr 5 (.int .i64))) (off:=0) (i:=a1) (N:=3) rfl xH (xe) rfl rfl rfl rfl y) ?_;refine dX rfl ?_;refine nt (aj (fN (SE.nil 3 (.int .i64)) ?_));refine aL (fun z7 y6=>[(5,.eq z7),(10,.rep (.arr 5 (.int .i64)) x5),(11,I y6.2)]) (fun z7 y6=>[.sl z7 3 (.int .i64) y6.1]) (ib k x5) k (.slice none 0 0) (([]:(List Int)),0) (fun _=>rfl) h (SE.fin [0] ⟨rfl,rfl,rfl,trivial⟩ rfl) (fun n z7 y6 h=>?_);unfold ib at h;refine sr (jb (bG rfl) ?_);refine nt (ah (ci h (fun h=>?_) (fun h=>?_)))
  ·refine sk (aX (Z:=Value) (α:=(List Int)) (fun z9 x8=>[(5,.eq z9),(10,.rep (.arr 5 (.int .i64)) x5),(11,I y6.2)]) (fun z9 x8=>[.sl z9 3 (.int .i64) x8]) h (fun K h=>?_) (fun z9 x8 h=>?_))
   ·refine aj (sr ?_);obtain⟨c,j,h⟩:=aa h;refine jb (xY (t:=(.int .i64)) rfl IW cH rfl rfl (fun _=>rfl) j) ?_;refine aq (nt (sr ?_));refine mq ?_;refine jb (nH rfl) ?_;refine nt (ci h (fun h=>?_) (fun h=>?_))
    ·refine ab ?_;iterate 2 refine mq ?_
     refine ja (bB (t:=(.int .i64)) [(.tmp 17,_)] [c] rfl rfl eB (.cons rfl .int .nil) rfl rfl) ?_;obtain⟨D,s,h⟩:=aa h;refine dI rfl rfl rfl (bY rfl rfl eB (aC s)) ⟨rfl,rfl,trivial⟩ fun x=>?_;refine aq (ar (bn ?_));exact jz (x,y6.1++[c]) h [0]
    ·refine aS (bn ?_);exact jz (z7,y6.1) h [0]
   ·refine ab ?_;obtain⟨u,e,h⟩:=aa h;refine jb (bi rfl e) ?_;refine mq (nl ?_);exact jz (z9,(x8,u)) h [0]
  ·refine xa ?_;exact jz (z7,y6.1) h [0]
 ·
  refine sr (mq ?_);refine aq (nt (aA ?_));refine bz (gr [4,5,21] ⟨rfl,rfl,rfl,trivial⟩) ?_;cases h;exact ra
def eG{σ:Type}(k:Nat)(a1:(List Int))(Y:σ→(Int×Int)→Option (σ×Bool)):Nat→(Int×σ)→Option (σ)
 |0,_=>none
 |n+1,y2=>
  if 0≤y2.1 then((bb a1 y2.1).bind fun x4=>
  (Y y2.2 (y2.1,x4)).bind fun r5=>
  if¬(r5.2=true) then(some r5.1) else((ck (y2.1 - 1)).bind fun x7=>
  eG k a1 Y n (x7,r5.1))) else(some y2.2)
def iI{σ:Type}(k:Nat)(Y:σ→(Int×Int)→Option (σ×Bool))(a1:(List Int))(s0:σ):Option (σ):=
 (ck ((a1.length:Int) - 1)).bind fun x1=>
 eG k a1 Y k (x1,s0)
theorem np{M:Md Tryz.prog}{σ Z:Type}(E:Z→σ→List D)(l:Nat)(Y:σ→(Int×Int)→Option (σ×Bool))(k:Nat)(a1:(List Int))(c:Nat)(hY:∀z s p r,Y s p=some r→YT M l [I p.1,I p.2] (E z s) (fun z':Z=>(.eq (.bool r.2),E z' r.1))):
 ∀(z0:Z) (s0:σ) (r:σ),iI k Y a1 s0=some r→cS M 208 [.eq (.func (.yield l) #[] #[]),Pt c] ([.obj c 23 (Ri a1)]++E z0 s0) (fun z:Z=>(bp [],[.obj c 23 (Ri a1)]++E z r)):=by
 intro z0 s0 r h
 unfold iI at h
 replace h:=a9 h
 refine cS.of 19 Tryz.func208 rfl Tryz.ntmps208 rfl fun S w0=>?_
 refine sr ?_
 refine lo cp ?_
 refine ol ep ?_
 obtain⟨x1,u,h⟩:=aa h
 refine jb (eJ rfl u) ?_
 refine aq ?_
 refine nt ?_
 refine aj ?_
 refine aL (Z:=Z) (α:=Int×σ) (fun z3 y2=>[(0,.eq (.func (.yield l) #[] #[])),(1,Pt c),(3,I y2.1)]) (fun z3 y2=>[.obj c 23 (Ri a1)]++E z3 y2.2) (eG k a1 Y) k z0 (x1,s0) (fun _=>rfl) h (aV [.obj c 23 (Ri a1)] (E z0 s0) [0] ⟨rfl,rfl,rfl,trivial⟩ rfl) (fun n z3 y2 h=>?_)
 unfold eG at h
 refine ah ?_
 refine sr ?_
 refine mq ?_
 refine jb (nH rfl) ?_
 refine nt ?_
 refine ci h (fun h=>?_) (fun h=>?_)
 ·
  refine sk (ah (aj (sr ?_)));iterate 2 refine mq ?_
  refine lo cp ?_;refine mq ?_;obtain⟨x4,j,h⟩:=aa h;refine jb (aN (t:=(.int .i64)) rfl ep cH j) ?_;refine ja (ao (t:=(.int .i64)) rfl cH rfl) ?_;obtain⟨r5,x,h⟩:=aa h;refine oh [.obj c 23 (Ri a1)] rfl rfl rfl (wh [.tmp 12,.tmp 16] rfl rfl rfl (hY z3 y2.2 (y2.1,x4) r5 x)) ⟨rfl,rfl,rfl,trivial⟩ fun z6=>?_;refine ja (eK rfl) ?_;refine nt (cw h (fun h=>?_) (fun h=>?_))
  ·refine aA (br (aZ ?_));cases h;exact ii z6 [] trivial rfl
  ·refine aS (aK (tn (ab (mq ?_))));obtain⟨x7,e,h⟩:=aa h;refine jb (eJ rfl e) ?_;refine aq (nl ?_);exact gw (z6,(x7,r5.1)) h (aV [.obj c 23 (Ri a1)] (E z6 r5.1) [0] ⟨rfl,rfl,rfl,trivial⟩ rfl)
 ·
  refine dt (aP (aP (bQ (ix ?_))));cases h;exact ii z3 [] trivial rfl
theorem oZ(a0:(List Int)):bW Tryz.prog 190 [Ri a0] [] (fun z:Nat=>(bp [.eq (.func (.func 208) #[] #[(Pv z)])],[.obj z 23 (Ri a0)])):=by
 refine bW.of 4 Tryz.func190 rfl Tryz.ntmps190 rfl fun S w0=>?_;refine sr (bx fun z=>?_);refine cq (nt (sr ?_));refine ja (rG [] [.tmp 1] [] [(Pv z)] rfl rfl rfl) ?_;refine aq (nt (aA ?_));exact aF z [_] 1 ⟨rfl,trivial⟩ rfl
def tf(k:Nat)(a0:(List Int)):Option (List Int):=
 (iI k (su (fun(y3:(List Int)) (p5:(Int×Int))=>
  some ((p5.2::y3),true))) a0 ([],false)).bind fun r6=>
 if r6.2=true then(none) else(some r6.1)
theorem xy(k:Nat)(a0:(List Int))(r:(List Int))(h:tf k a0=some r):
 bW Tryz.prog 157 [Ri a0] [] (fun _:Unit=>(bp [.rep (.lst (.int .i64)) r],[])):=by
 unfold tf at h
 replace h:=a9 h
 refine xb 15 Tryz.func157 rfl Tryz.ntmps157 rfl fun {M} S w0=>?_
 refine sr ?_
 refine cq ?_
 refine nt ?_
 refine sr ?_
 refine aH rfl rfl rfl (bJ rfl LY OI) trivial fun b1=>?_
 refine nt ?_
 refine ah ?_
 refine sr ?_
 refine mq ?_
 refine aH rfl rfl rfl (ap [.tmp 6] rfl rfl N9 rfl (oZ a0)) ⟨rfl,trivial⟩ fun b2=>?_
 refine nt ?_
 refine aj ?_
 refine iy 1 rfl ?_
 refine fN (oR (a:=.eq (.pointer none)) (a':=.rep (.lst (.int .i64)) []) (xd .lnil)) ?_
 refine iy 1 rfl ?_
 obtain⟨r6,c,h⟩:=aa h
 refine m9 (Δ:=[.obj b2 23 (Ri a0),.obj b1 216 (.rep (.lst (.int .i64)) [])]) (F:=[]) (X:=Unit) (J:=fun _=>H7 r6.2) (E:=fun z4=>[.obj b2 23 (Ri a0),.obj b1 216 (.rep (.lst (.int .i64)) r6.1)]) (r0:=fun _=>.tup .any) rfl rfl N5 (fun rec hp ha hb hs hpe hN hv l=>?_) (fun dl z4=>pw (fun hj=>?_) (fun hj=>?_))
 ·
  rcases rec with⟨st0,pe0,fn0,tm0,ps0,as0,bd0,df0⟩;dsimp only at hp ha hb hs hpe hN hv;subst hp hs hpe;have vN:uh tm0 [(3,Pt b1)]:=⟨congrArg A.eq (hv 3 _ rfl).symm,trivial⟩;refine cS.pick (M:=M) [1,0,2] [1,0,2] (np (fun(z4:Unit) (q:(List Int)×Bool)=>[.raw l (.loop (jf ⟨.ready,none,fn0,tm0, #[8,9],as0,bd0,df0⟩ (H7 q.2))),.obj b1 216 (.rep (.lst (.int .i64)) q.1)]) l (su (fun(y3:(List Int)) (p5:(Int×Int))=>
  some ((p5.2::y3),true))) k a0 b2 (fun z4 q p r' h=>?_) () ([],false) r6 c) rfl (fun _=>rfl) (fun _=>rfl)
  obtain⟨rq,hq,h2,rfl⟩:=px h;obtain⟨y3,b5⟩:=q;obtain rfl:b5=false:=hq;replace h:=a9 h2;obtain⟨p5,hpv⟩:∃x,x=p:=⟨_,rfl⟩;subst hpv;refine YT.pick (R':=(fun z4:Unit=>(.eq (.bool rq.2),[.raw l (.loop (jf ⟨.ready,none,fn0,tm0, #[8,9],as0,bd0,df0⟩ (H7 (!rq.2)))),.obj b1 216 (.rep (.lst (.int .i64)) rq.1)]))) [0,1] [0,1] (IU ha hb (N:=15) (Γ:=[(3,Pt b1)]) rfl hN (by decide) vN (fun S w=>?_)) rfl (fun _=>rfl) (fun _=>rfl);refine ab (aq (nl ?_));refine ut rfl rfl ?_;refine aj (ab (mq ?_));refine fr 1 ?_;refine lo xF ?_;refine jb (de [(0,.tmp 10,_),(1,.tmp 11,_)] rfl MQ LX Lt (jd ⟨rfl,rfl,trivial⟩) rfl) ?_;refine aH rfl rfl rfl (nj rfl trivial) ⟨rfl,trivial⟩ fun b7=>?_;refine cd (kH (t:=D8) (x:=(p5.2,y3)) [13] (.agg (.pair .int .rep)) ⟨rfl,trivial⟩) ?_;refine be rfl rfl (a8 rfl xF trivial rfl rfl) ⟨rfl,rfl,trivial⟩ ?_;refine ar (aK (bz (oR (a:=.at D8 (p5.2,y3)) (a':=.rep (.lst (.int .i64)) (p5.2::y3)) (xd .lcons)) ?_));refine di 1 rfl ?_;cases h;exact si () 1 rfl
 ·
  replace h:=bL (BK hj) h;refine aK (tn (sr (fr 2 ?_)));refine lo xF ?_;refine aq (nt (aA ?_));refine di 1 rfl ?_;refine wY ?_;cases h;exact ra
 ·
  replace h:=cC (BJ hj) h;cases h
def jO(k:Nat)(a1:Int):Nat→(Int×(List Int)×(List Int)×(List Int))→Option (Int×(List Int))
 |0,_=>none
 |n+1,y2=>
  if List.isEmpty y2.2.2.2=true then((dh (bO (List.length y2.2.2.1+List.length y2.2.1))).bind fun _=>
  some (y2.1,y2.2.2.1++y2.2.1)) else((pq y2.2.2.2).bind fun x6=>
  (dQ k a1 x6.1).bind fun r7=>
  if r7=true then((pq y2.2.2.2).bind fun x8=>
  (dh (bO (List.length y2.2.1+List.length [x8.1]))).bind fun _=>
  (pq y2.2.2.2).bind fun l=>
  jO k a1 n (y2.1,y2.2.1++[x8.1],y2.2.2.1,l.2)) else(((if 0 < (y2.2.1.length:Int) then((pq y2.2.2.2).bind fun h=>
  (fV k y2.1 h.1).bind fun r=>
  some r) else(some y2.1)):Option (Int)).bind fun j=>
  (pq y2.2.2.2).bind fun c=>
  (dh (bO (List.length y2.2.2.1+List.length [c.1]))).bind fun _=>
  (pq y2.2.2.2).bind fun e=>
  jO k a1 n (j,y2.2.1,y2.2.2.1++[c.1],e.2)))
def qd(k:Nat)(a0:(List Int))(a1:Int):Option (Int×(List Int)):=
 (tf k a0).bind fun r1=>
 jO k a1 k (0,([]:(List Int)),([]:(List Int)),r1)
theorem so(k:Nat)(a0:(List Int))(a1:Int)(r:Int×(List Int))(h:qd k a0 a1=some r):
 bW Tryz.prog 127 [Ri a0,.eq (.int .u8 a1)] [] (fun _:Unit=>(bp [.eq (.int .u8 r.1),Ri r.2],[])):=by
 unfold qd at h
 replace h:=a9 h
 refine bW.of 54 Tryz.func127 rfl Tryz.ntmps127 rfl fun S w0=>?_
 refine sr ?_
 refine cq ?_
 refine cq ?_
 refine nt ?_
 refine Dw rfl (A9 (by kernel_rfl) (A9 (by kernel_rfl) (KR KQ))) ?_
 refine sr ?_
 refine cq ?_
 refine cq ?_
 refine nt ?_
 refine sr ?_
 refine mq ?_
 obtain⟨r1,mc,h⟩:=aa h
 have pp:=xy k a0 r1 mc
 refine ja (ap [.tmp 9] rfl rfl Of rfl pp) ?_
 refine aq ?_
 refine nt ?_
 refine ah ?_
 refine GW ?_
 refine tn ?_
 refine fN (SE.nil 3 (.int .i64)) ?_
 refine fN (SE.nil 3 (.int .i64)) ?_
 refine AD (Z:=Value×Value) (α:=Int×(List Int)×(List Int)×(List Int)) rfl (fun z3 y2=>[(1,.eq (.int .u8 a1)),(4,.eq (.int .u8 y2.1)),(6,.eq z3.1),(7,.eq z3.2),(8,.rep (.lst (.int .i64)) y2.2.2.2)]) (fun z3 y2=>[.sl z3.1 3 (.int .i64) y2.2.1,.sl z3.2 3 (.int .i64) y2.2.2.1]) (jO k a1) k ((.slice none 0 0),(.slice none 0 0)) (0,([]:(List Int)),([]:(List Int)),r1) (fun _=>rfl) h (SE.fin [1,0] ⟨rfl,rfl,rfl,rfl,rfl,trivial⟩ rfl) (fun n z3 y2 h=>?_)
 unfold jO at h
 refine ah ?_
 refine sr ?_
 refine mq ?_
 refine jb (EK rfl Qo) ?_
 refine nt ?_
 refine cv h (fun h=>?_) (fun h=>?_)
 ·
  refine sr ?_;iterate 3 refine mq ?_
  refine cd (gr [6,15] ⟨rfl,rfl,trivial⟩) ?_;obtain⟨u4,Y,h⟩:=aa h;refine dI rfl rfl rfl (bY rfl rfl eB (aC Y)) ⟨rfl,rfl,trivial⟩ fun v5=>?_;refine aq ?_;refine aq (nt (rx ?_));refine GV ?_;refine bz (gr [5,16] ⟨rfl,rfl,trivial⟩) ?_;cases h;exact rb
 ·
  refine sk (ah (sr ?_));iterate 2 refine mq ?_
  obtain⟨x6,U,h⟩:=aa h;refine ja (kE rfl U) ?_;refine ja (aI 1 false rfl sY rfl) ?_;refine ja (ao (t:=(.int .i64)) rfl cH rfl) ?_;obtain⟨r7,ac,h⟩:=aa h;refine jb (ap [.tmp 17,.tmp 21] rfl rfl Ix rfl (gQ k a1 x6.1 r7 ac)) ?_;refine nt (cv h (fun h=>?_) (fun h=>?_))
  ·refine sr ?_;iterate 2 refine mq ?_
   obtain⟨x8,Q,h⟩:=aa h;refine ja (kE rfl Q) ?_;refine ja (aI 1 false rfl sY rfl) ?_;refine ja (ao (t:=(.int .i64)) rfl cH rfl) ?_;refine ja (bB (t:=(.int .i64)) [(.tmp 27,_)] [x8.1] rfl rfl eB (.cons rfl .int .nil) rfl rfl) ?_;obtain⟨u9,X,h⟩:=aa h;refine dI rfl rfl rfl (bY rfl rfl eB (aC X)) ⟨rfl,rfl,trivial⟩ fun O=>?_;refine aq (nt (sr ?_));refine mq ?_;obtain⟨J,y,h⟩:=aa h;refine ja (kE rfl y) ?_;refine ja (aI 1 false rfl A7 rfl) ?_;refine ja (ao (t:=(.lst (.int .i64))) rfl xF rfl) ?_;refine aq (nt ?_);refine Bv ?_;refine Dv ?_;exact Br ((O,z3.2),(y2.1,y2.2.1++[x8.1],y2.2.2.1,J.2)) h (SE.fin [0,1] ⟨rfl,rfl,rfl,rfl,rfl,trivial⟩ rfl)
  ·refine sk (aX (Z:=Unit) (α:=Int) (fun e c=>[(1,.eq (.int .u8 a1)),(4,.eq (.int .u8 c)),(6,.eq z3.1),(7,.eq z3.2),(8,.rep (.lst (.int .i64)) y2.2.2.2)]) (fun e c=>[.sl z3.1 3 (.int .i64) y2.2.1,.sl z3.2 3 (.int .i64) y2.2.2.1]) h (fun K h=>?_) (fun e c h=>?_))
   ·refine sr (mq ?_);refine ka (cN rfl rfl ep) ?_;refine jb (ji rfl) ?_;refine nt (ci h (fun h=>?_) (fun h=>?_))
    ·refine ab ?_;iterate 2 refine mq ?_
     obtain⟨I,x,h⟩:=aa h;refine ja (kE rfl x) ?_;refine ja (aI 1 false rfl sY rfl) ?_;refine ja (ao (t:=(.int .i64)) rfl cH rfl) ?_;obtain⟨l,E,h⟩:=aa h;refine jb (ap [.tmp 37,.tmp 41] rfl rfl Bd rfl (iC k y2.1 I.1 l E)) ?_;refine aq (nl ?_);exact jz ((),l) h [0,1]
    ·refine aS (ae ?_);exact jz ((),y2.1) h [0,1]
   ·refine sr ?_;iterate 2 refine mq ?_
    obtain⟨j,u,h⟩:=aa h;refine ja (kE rfl u) ?_;refine ja (aI 1 false rfl sY rfl) ?_;refine ja (ao (t:=(.int .i64)) rfl cH rfl) ?_;refine ja (bB (t:=(.int .i64)) [(.tmp 47,_)] [j.1] rfl rfl eB (.cons rfl .int .nil) rfl rfl) ?_;obtain⟨qt,D,h⟩:=aa h;refine fr 1 ?_;refine dI rfl rfl rfl (bY rfl rfl eB (aC D)) ⟨rfl,rfl,trivial⟩ fun M=>?_;refine aq (nt (sr ?_));refine mq ?_;obtain⟨F,s,h⟩:=aa h;refine ja (kE rfl s) ?_;refine ja (aI 1 false rfl A7 rfl) ?_;refine ja (ao (t:=(.lst (.int .i64))) rfl xF rfl) ?_;refine aq (nt ?_);refine Bv ?_;exact Br ((z3.1,M),(c,y2.2.1,y2.2.2.1++[j.1],F.2)) h (SE.fin [1,0] ⟨rfl,rfl,rfl,rfl,rfl,trivial⟩ rfl)
def ic(k:Nat)(a0:(List Int))(a1:Int):Nat→Int→Option (Except Int Unit)
 |0,_=>none
 |n+1,y3=>
  if y3 < (a0.length:Int) then((bb a0 y3).bind fun x5=>
  if a1=x5 then(some (.error y3)) else((ck (y3+1)).bind fun x6=>
  ic k a0 a1 n x6)) else(some (.ok ()))
def lT(k:Nat)(a0:(List Int))(a1:Int):Option Int:=
 bE (α:=Unit) (ic k a0 a1 k 0) (some) fun _=>
 some (-1:Int)
theorem ru(k:Nat)(a0:(List Int))(a1:Int)(r:Int)(h:lT k a0 a1=some r):
 bW Tryz.prog 123 [Ri a0,I a1] [] (fun _:Unit=>(bp [I r],[])):=by
 unfold lT at h
 replace h:=a9 h
 refine bW.of 19 Tryz.func123 rfl Tryz.ntmps123 rfl fun S w0=>?_
 refine sr ?_
 refine cq ?_
 refine nt ?_
 refine dE (Z:=Unit) (α:=Unit) (fun z2 x1=>[]) (fun z2 x1=>[]) (fun e=>e=r) h (fun e h=>Option.some.inj h) (fun K hR h=>?_) (fun z2 x1 h=>?_)
 ·
  refine sr (mq ?_);refine ol ep ?_;refine dX rfl ?_;refine nt (aj (aL (fun z4 y3=>[(0,Ri a0),(1,I a1),(7,I (a0.length:Int)),(8,I y3)]) (fun z4 y3=>[]) (ic k a0 a1) k () 0 (fun _=>rfl) h (SE.fin [] ⟨rfl,rfl,rfl,rfl,trivial⟩ rfl) (fun n z4 y3 h=>?_)));unfold ic at h;refine sr (jb (bG rfl) ?_);refine nt (ah (ci h (fun h=>?_) (fun h=>?_)))
  ·refine sk (ah (aj (sr (mq ?_))));refine aq (nt (sr ?_));iterate 3 refine mq ?_
   obtain⟨x5,j,h⟩:=aa h;refine jb (aN (t:=(.int .i64)) rfl ep cH j) ?_;refine ja (ao (t:=(.int .i64)) rfl cH rfl) ?_;refine jb (dS rfl) ?_;refine nt (ci h (fun h=>?_) (fun h=>?_))
   ·refine sr (mq ?_);refine aq (nt (aA (br (aZ (aM ?_)))));obtain rfl:=hR _ h;exact ra
   ·refine aS (aK (tn (ab ?_)));obtain⟨x6,c,h⟩:=aa h;refine jb (bi rfl c) ?_;refine mq (nl ?_);exact jz ((),x6) h []
  ·refine xa ?_;exact jz ((),()) h []
 ·
  refine sr (cq (nt (aA ?_)));cases h;exact ra
def jt(k:Nat)(a0:(List Int))(a1:Int):Option Bool:=
 (lT k a0 a1).bind fun r1=>
 some (decide (0≤r1))
theorem oW(k:Nat)(a0:(List Int))(a1:Int)(r:Bool)(h:jt k a0 a1=some r):
 bW Tryz.prog 158 [Ri a0,I a1] [] (fun _:Unit=>(bp [.eq (.bool r)],[])):=by
 unfold jt at h
 replace h:=a9 h
 refine bW.of 9 Tryz.func158 rfl Tryz.ntmps158 rfl fun S w0=>?_
 refine sr ?_
 refine cq ?_
 refine nt ?_
 refine sr ?_
 iterate 2 refine mq ?_
 obtain⟨r1,c,h⟩:=aa h
 have e:=ru k a0 a1 r1 c
 refine jb (ap [.tmp 5,.tmp 6] rfl rfl Ot rfl e) ?_
 refine jb (nH rfl) ?_
 refine aq ?_
 refine nt ?_
 refine aA ?_
 cases h
 exact ra
def ia(k:Nat)(a0:cK)(a1:Int):Nat→(Int×Int)→Option Int
 |0,_=>none
 |n+1,y3=>
  if y3.2 < (a0.1.2.1.length:Int) then((((bb a0.1.2.1 y3.2).bind fun x7=>
  (jt k x7.2 a1).bind fun r9=>
  if r9=true then((fV k y3.1 y3.2).bind fun e=>
  some e) else(some y3.1)):Option (Int)).bind fun x5=>
  (ck (y3.2+1)).bind fun c=>
  ia k a0 a1 n (x5,c)) else(some y3.1)
def jI(k:Nat)(a0:cK)(a1:Int):Option Int:=
 ((ia k a0 a1 k (0,0)):Option (Int)).bind fun x1=>
 some x1
theorem mb(k:Nat)(a0:cK)(a1:Int)(r:Int)(h:jI k a0 a1=some r):
 bW Tryz.prog 128 [.at bC a0,I a1] [] (fun _:Unit=>(bp [.eq (.int .u8 r)],[])):=by
 unfold jI at h
 replace h:=a9 h
 refine bW.of 28 Tryz.func128 rfl Tryz.ntmps128 rfl fun S w0=>?_
 refine sr ?_
 refine cq ?_
 refine nt ?_
 refine sr ?_
 refine cq ?_
 refine nt ?_
 refine aX (Z:=Unit) (α:=Int) (fun z2 x1=>[(5,.eq (.int .u8 x1))]) (fun z2 x1=>[]) h (fun K h=>?_) (fun z2 x1 h=>?_)
 ·
  refine sr (mq ?_);refine ja (dc rfl) ?_;refine ja (aI 3 true rfl jl rfl) ?_;refine ja (aI 1 false rfl eO rfl) ?_;refine ja (ao (t:=(.slice cD)) rfl lp rfl) ?_;refine ol s4 ?_;refine dX rfl ?_;refine nt (aj (aL (fun z4 y3=>[(1,I a1),(5,.eq (.int .u8 y3.1)),(12,Rs cD a0.1.2.1),(13,I (a0.1.2.1.length:Int)),(14,I y3.2)]) (fun z4 y3=>[]) (ia k a0 a1) k () (0,0) (fun _=>rfl) h (SE.fin [] ⟨rfl,rfl,rfl,rfl,rfl,trivial⟩ rfl) (fun n z4 y3 h=>?_)));unfold ia at h;refine sr (jb (bG rfl) ?_);refine nt (ah (ci h (fun h=>?_) (fun h=>?_)))
  ·refine sk (aX (Z:=Unit) (α:=Int) (fun z6 x5=>[(1,I a1),(5,.eq (.int .u8 x5)),(12,Rs cD a0.1.2.1),(13,I (a0.1.2.1.length:Int)),(14,I y3.2)]) (fun z6 x5=>[]) h (fun K h=>?_) (fun z6 x5 h=>?_))
   ·refine aj (sr (mq ?_));obtain⟨x7,s,h⟩:=aa h;refine jb (aN (t:=cD) rfl s4 nn s) ?_;refine ja (ao (t:=cD) rfl nn rfl) ?_;refine aH rfl rfl rfl (bJ rfl vR IP) trivial fun b8=>?_;refine aq ?_;refine be rfl rfl (a8 rfl nn rfl rfl rfl) ⟨rfl,rfl,trivial⟩ ?_;refine nt (sr (fl rU ?_));refine lo cp ?_;refine mq ?_;obtain⟨r9,u,h⟩:=aa h;refine jb (ap [.tmp 20,.tmp 21] rfl rfl Oe rfl (oW k x7.2 a1 r9 u)) ?_;refine nt (cv h (fun h=>?_) (fun h=>?_))
    ·refine ab ?_;iterate 2 refine mq ?_
     obtain⟨c,j,h⟩:=aa h;refine jb (ap [.tmp 23,.tmp 24] rfl rfl Bd rfl (iC k y3.1 y3.2 c j)) ?_;refine aq (ar (bn ?_));exact jz ((),c) h []
    ·refine aS (bn ?_);exact jz ((),y3.1) h []
   ·refine ab ?_;obtain⟨l,e,h⟩:=aa h;refine jb (bi rfl e) ?_;refine mq (nl ?_);exact jz ((),(x5,l)) h []
  ·refine xa ?_;exact jz ((),y3.1) h []
 ·
  refine sr (mq ?_);refine aq (nt (aA ?_));cases h;exact ra
def iz(k:Nat)(a0:cK)(a1:(List (List Int)))(a2:Int):Nat→(Int×(List (List Int))×Int)→Option (Int×(List (List Int)))
 |0,_=>none
 |n+1,y5=>
  if y5.2.2 < 3 then((fk k a1 y5.2.2).bind fun r7=>
  (jI k a0 a2).bind fun r8=>
  (qd k r7 r8).bind fun r9=>
  (dh (bO (List.length y5.2.1+List.length [r9.2]))).bind fun _=>
  (ck (y5.2.2+1)).bind fun c=>
  iz k a0 a1 a2 n (CU .u8 y5.1 r9.1,y5.2.1++[r9.2],c)) else(some (y5.1,y5.2.1))
def kw(k:Nat)(a0:cK)(a1:(List (List Int)))(a2:Int):Option (Int×(List (List Int))):=
 ((iz k a0 a1 a2 k (0,([]:(List (List Int))),0)):Option (Int×(List (List Int)))).bind fun x3=>
 (eS k x3.2).bind fun c=>
 some (x3.1,c)
theorem ng(k:Nat)(a0:cK)(a1:(List (List Int)))(a2:Int)(r:Int×(List (List Int)))(h:kw k a0 a1 a2=some r):
 bW Tryz.prog 85 [.at bC a0,.rep (.arr 3 (.arr 5 (.int .i64))) a1,I a2] [] (fun _:Unit=>(bp [.eq (.int .u8 r.1),.rep (.arr 3 (.arr 5 (.int .i64))) r.2],[])):=by
 unfold kw at h
 replace h:=a9 h
 refine bW.of 37 Tryz.func85 rfl Tryz.ntmps85 rfl fun S w0=>?_
 refine sr ?_
 refine bx fun b1=>?_
 refine cq ?_
 refine aH rfl rfl rfl (bJ rfl l6 mF) trivial fun b2=>?_
 refine nt ?_
 refine sr ?_
 refine cq ?_
 refine nt ?_
 refine sr ?_
 refine cq ?_
 refine nt ?_
 refine aX (Z:=Value) (α:=Int×(List (List Int))) (fun z4 x3=>[(7,Pt b2),(8,.eq (.int .u8 x3.1)),(9,.eq z4)]) (fun z4 x3=>[.obj b2 107 (.rep (.arr 3 (.arr 5 (.int .i64))) [[0,0,0,0,0],[0,0,0,0,0],[0,0,0,0,0]]),.sl z4 23 (.slice (.int .i64)) x3.2]) h (fun K h=>?_) (fun z4 x3 h=>?_)
 ·
  refine sr (dX rfl ?_);refine nt (aj (fN (SE.nil 23 (.slice (.int .i64))) ?_));refine aL (fun z6 y5=>[(0,.at bC a0),(2,I a2),(4,Pt b1),(7,Pt b2),(8,.eq (.int .u8 y5.1)),(9,.eq z6),(13,I y5.2.2)]) (fun z6 y5=>[.obj b1 107 (.rep (.arr 3 (.arr 5 (.int .i64))) a1),.obj b2 107 (.rep (.arr 3 (.arr 5 (.int .i64))) [[0,0,0,0,0],[0,0,0,0,0],[0,0,0,0,0]]),.sl z6 23 (.slice (.int .i64)) y5.2.1]) (iz k a0 a1 a2) k (.slice none 0 0) (0,([]:(List (List Int))),0) (fun _=>rfl) h (SE.fin [2,1,0] ⟨rfl,rfl,rfl,rfl,rfl,rfl,rfl,trivial⟩ rfl) (fun n z6 y5 h=>?_);unfold iz at h;refine sr (jb (bG rfl) ?_);refine nt (ah (ci h (fun h=>?_) (fun h=>?_)))
  ·refine sk (ah (aj (sr (mq ?_))));refine aq (nt (sr ?_));refine lo cI ?_;refine mq ?_;obtain⟨r7,D,h⟩:=aa h;refine jb (ap [.tmp 17,.tmp 18] rfl rfl Be rfl (fB k a1 y5.2.2 r7 D)) ?_;iterate 2 refine mq ?_
   obtain⟨r8,y,h⟩:=aa h;refine jb (ap [.tmp 20,.tmp 21] rfl rfl Oo rfl (mb k a0 a2 r8 y)) ?_;obtain⟨r9,x,h⟩:=aa h;refine jb (ap [.tmp 19,.tmp 22] rfl rfl Oq rfl (so k r7 r8 r9 x)) ?_;refine mq ?_;refine xr ?_;refine xr ?_;refine aq ?_;refine aq (nt (sr ?_));iterate 2 refine mq ?_
   refine jb (MW rfl) ?_;refine aq (nt (ab ?_));iterate 2 refine mq ?_
   refine ja (bB (t:=(.slice (.int .i64))) [(.tmp 30,_)] [r9.2] rfl rfl qo (.cons rfl .rep .nil) rfl rfl) ?_;obtain⟨E,j,h⟩:=aa h;refine fr 2 ?_;refine dI rfl rfl rfl (bY rfl rfl qo (aC j)) ⟨rfl,rfl,trivial⟩ fun u=>?_;refine aq (ar (aK (tn (ab ?_))));obtain⟨s,e,h⟩:=aa h;refine jb (bi rfl e) ?_;refine mq (nl ?_);exact jz (u,(CU .u8 y5.1 r9.1,y5.2.1++[r9.2],s)) h [1,2,0]
  ·refine xa ?_;exact jz (z6,(y5.1,y5.2.1)) h [1,2]
 ·
  refine sr ?_;iterate 2 refine mq ?_
  obtain⟨c,l,h⟩:=aa h;refine fr 1 ?_;refine ka (ul (N:=[(.tmp 35,.eq z4)]) (ap [.tmp 35] rfl rfl C7 rfl (eu k x3.2 c l)) (fun _ _ _ hv hn=>⟨(lend hn.1 hv),trivial⟩) (fun _=>⟨rfl,yI⟩)) ?_;refine aq ?_;refine fr 1 ?_;refine be rfl rfl (a8 rfl cI rfl rfl rfl) ⟨rfl,rfl,trivial⟩ ?_;refine nt (aA ?_);cases h;exact aF () [_,.rep (.arr 3 (.arr 5 (.int .i64))) c] 0 ⟨rfl,⟨_,_,_,_,_,rfl,(.head _),cI,(xe),rfl⟩,trivial⟩ rfl
def gy(k:Nat)(a0:cK)(a1:(List (List Int))):Nat→((List (List Int))×Int)→Option (List (List Int))
 |0,_=>none
 |n+1,y6=>
  if y6.2 < ((List.replicate (Int.toNat (a0.1.2.2.length:Int)) ([]:(List Int))).length:Int) then((fk k a1 y6.2).bind fun r8=>
  (bb y6.1 y6.2).bind fun x9=>
  (ck (y6.2+1)).bind fun c=>
  gy k a0 a1 n (List.set y6.1 (Int.toNat y6.2) r8,c)) else(some y6.1)
def gP(k:Nat)(a0:cK)(a1:(List (List Int))):Option (List (List Int)):=
 (dh (0≤(a0.1.2.2.length:Int)∧bO (Int.toNat (a0.1.2.2.length:Int)))).bind fun _=>
 ((gy k a0 a1 k (List.replicate (Int.toNat (a0.1.2.2.length:Int)) ([]:(List Int)),0)):Option ((List (List Int)))).bind fun x4=>
 some x4
theorem iW(k:Nat)(a0:cK)(a1:(List (List Int)))(r:(List (List Int)))(h:gP k a0 a1=some r):
 bW Tryz.prog 88 [.at bC a0,.rep (.arr 3 (.arr 5 (.int .i64))) a1] [] (fun z:Value=>(bp [.eq z],[.sl z 23 (.slice (.int .i64)) r])):=by
 unfold gP at h
 replace h:=a9 h
 refine bW.of 27 Tryz.func88 rfl Tryz.ntmps88 rfl fun S w0=>?_
 refine sr ?_
 refine bx fun b1=>?_
 refine cq ?_
 refine nt ?_
 refine sr ?_
 refine mq ?_
 refine ja (dc rfl) ?_
 refine ja (aI 3 true rfl jl rfl) ?_
 refine ja (aI 1 false rfl fq rfl) ?_
 refine ja (ao (t:=(.slice (.int .i64))) rfl cp rfl) ?_
 refine ol ep ?_
 obtain⟨u2,j,h⟩:=aa h
 refine aH rfl rfl rfl (EJ (t:=(.slice (.int .i64))) (d:=([]:(List Int))) rfl qo Pn (aC j).1 (aC j).2) ⟨rfl,rfl,trivial⟩ fun v3=>?_
 refine aq ?_
 refine nt ?_
 refine aX (Z:=Unit) (α:=(List (List Int))) (fun z5 x4=>[(5,.eq v3)]) (fun z5 x4=>[.sl v3 23 (.slice (.int .i64)) x4]) h (fun K h=>?_) (fun z5 x4 h=>?_)
 ·
  refine sr (mq ?_);refine ka (cN rfl rfl mH) ?_;refine dX rfl ?_;refine nt (aj (aL (fun z7 y6=>[(3,Pt b1),(5,.eq v3),(15,I ((List.replicate (Int.toNat (a0.1.2.2.length:Int)) ([]:(List Int))).length:Int)),(16,I y6.2)]) (fun z7 y6=>[.obj b1 107 (.rep (.arr 3 (.arr 5 (.int .i64))) a1),.sl v3 23 (.slice (.int .i64)) y6.1]) (gy k a0 a1) k () (List.replicate (Int.toNat (a0.1.2.2.length:Int)) ([]:(List Int)),0) (fun _=>rfl) h (SE.fin [1,0] ⟨rfl,rfl,rfl,rfl,trivial⟩ rfl) (fun n z7 y6 h=>?_)));unfold gy at h;refine sr (jb (bG rfl) ?_);refine nt (ah (ci h (fun h=>?_) (fun h=>?_)))
  ·refine sk (ah (aj (sr (mq ?_))));refine aq (nt (ab ?_));iterate 2 refine mq ?_
   refine lo cI ?_;refine mq ?_;obtain⟨r8,s,h⟩:=aa h;refine jb (ap [.tmp 21,.tmp 22] rfl rfl Be rfl (fB k a1 y6.2 r8 s)) ?_;obtain⟨x9,c,h⟩:=aa h;refine fr 1 ?_;refine kb (bu (t:=(.slice (.int .i64))) rfl mH cp c) ?_;refine be rfl rfl (cZ (i:=Int.toNat y6.2) rfl cp rfl (iG c) rfl .rep rfl) ⟨rfl,rfl,trivial⟩ ?_;refine ar (aK (tn (ab ?_)));obtain⟨l,e,h⟩:=aa h;refine jb (bi rfl e) ?_;refine mq (nl ?_);exact jz ((),(List.set y6.1 (Int.toNat y6.2) r8,l)) h [1,0]
  ·refine xa ?_;exact jz ((),y6.1) h [1]
 ·
  refine sr (mq ?_);refine aq (nt (aA ?_));cases h;exact aF v3 [.eq v3] 1 ⟨rfl,trivial⟩ rfl
def c6(k:Nat)(a0:(List Int))(a1:(List Int)):Nat→Int→Option (Except Bool Unit)
 |0,_=>none
 |n+1,y3=>
  if y3 < (a0.length:Int) then((bb a0 y3).bind fun x5=>
  (bb a1 y3).bind fun x6=>
  if¬(x5=x6) then(some (.error false)) else((ck (y3+1)).bind fun x7=>
  c6 k a0 a1 n x7)) else(some (.ok ()))
def ff(k:Nat)(a0:(List Int))(a1:(List Int)):Option Bool:=
 if¬((a0.length:Int)=(a1.length:Int)) then(some false) else(bE (α:=Unit) (c6 k a0 a1 k 0) (some) fun _=>
 some true)
theorem kg(k:Nat)(a0:(List Int))(a1:(List Int))(r:Bool)(h:ff k a0 a1=some r):
 bW Tryz.prog 37 [Ri a0,Ri a1] [] (fun _:Unit=>(bp [.eq (.bool r)],[])):=by
 unfold ff at h
 replace h:=a9 h
 refine bW.of 26 Tryz.func37 rfl Tryz.ntmps37 rfl fun S w0=>?_
 refine sr ?_
 refine cq ?_
 refine nt ?_
 refine ah ?_
 refine sr ?_
 refine mq ?_
 refine ol ep ?_
 refine mq ?_
 refine ol ep ?_
 refine jb (ip rfl) ?_
 refine nt ?_
 refine cn h (fun h=>?_) (fun h=>?_)
 ·
  refine sr (cq (nt (rx ?_)));cases h;exact ra
 ·
  refine sk (dE (Z:=Unit) (α:=Unit) (fun z2 x1=>[]) (fun z2 x1=>[]) (fun e=>e=r) h (fun e h=>Option.some.inj h) (fun K hR h=>?_) (fun z2 x1 h=>?_))
  ·refine sr (cq (nt (aj ?_)));refine aL (fun z4 y3=>[(0,Ri a0),(1,Ri a1),(5,I y3)]) (fun z4 y3=>[]) (c6 k a0 a1) k () 0 (fun _=>rfl) h (SE.fin [] ⟨rfl,rfl,rfl,trivial⟩ rfl) (fun n z4 y3 h=>?_);unfold c6 at h;refine ah (sr ?_);iterate 2 refine mq ?_
   refine ol ep ?_;refine jb (bG rfl) ?_;refine nt (ci h (fun h=>?_) (fun h=>?_))
   ·refine sk (ah (aj (ah (cu ?_))));refine dm ?_;refine dm ?_;obtain⟨x5,l,h⟩:=aa h;refine db (aN (t:=(.int .i64)) rfl ep cH l) ?_;refine da (ao (t:=(.int .i64)) rfl cH rfl) ?_;refine dm ?_;refine dm ?_;obtain⟨x6,j,h⟩:=aa h;refine db (aN (t:=(.int .i64)) rfl ep cH j) ?_;refine da (ao (t:=(.int .i64)) rfl cH rfl) ?_;refine df fe ?_;refine jb (ip rfl) ?_;refine nt (cn h (fun h=>?_) (fun h=>?_))
    ·refine sr (cq (nt (aA (br (aZ (aM ?_))))));obtain rfl:=hR _ h;exact ra
    ·refine aS (aK (tn (ab (mq ?_))));obtain⟨x7,c,h⟩:=aa h;refine jb (bi rfl c) ?_;refine aq (nl ?_);exact jz ((),x7) h []
   ·refine xa ?_;exact jz ((),()) h []
  ·refine sr (cq (nt (aA ?_)));cases h;exact ra
def dZ(k:Nat)(a0:(List (List Int)))(a1:(List (List Int))):Nat→Int→Option (Except Bool Unit)
 |0,_=>none
 |n+1,y3=>
  if y3 < (a0.length:Int) then((bb a0 y3).bind fun x5=>
  (bb a1 y3).bind fun x6=>
  (ff k x5 x6).bind fun r7=>
  if¬(r7=true) then(some (.error false)) else((ck (y3+1)).bind fun x8=>
  dZ k a0 a1 n x8)) else(some (.ok ()))
def fo(k:Nat)(a0:(List (List Int)))(a1:(List (List Int))):Option Bool:=
 if¬((a0.length:Int)=(a1.length:Int)) then(some false) else(bE (α:=Unit) (dZ k a0 a1 k 0) (some) fun _=>
 some true)
theorem jy(k:Nat)(a0:(List (List Int)))(a1:(List (List Int)))(r:Bool)(h:fo k a0 a1=some r):
 bW Tryz.prog 38 [.rep (.slice (.slice (.int .i64))) a0,.rep (.slice (.slice (.int .i64))) a1] [] (fun _:Unit=>(bp [.eq (.bool r)],[])):=by
 unfold fo at h
 replace h:=a9 h
 refine bW.of 27 Tryz.func38 rfl Tryz.ntmps38 rfl fun S w0=>?_
 refine sr ?_
 refine cq ?_
 refine nt ?_
 refine ah ?_
 refine sr ?_
 refine mq ?_
 refine ol mH ?_
 refine mq ?_
 refine ol mH ?_
 refine jb (ip rfl) ?_
 refine nt ?_
 refine cn h (fun h=>?_) (fun h=>?_)
 ·
  refine sr (cq (nt (rx ?_)));cases h;exact ra
 ·
  refine sk (dE (Z:=Unit) (α:=Unit) (fun z2 x1=>[]) (fun z2 x1=>[]) (fun e=>e=r) h (fun e h=>Option.some.inj h) (fun K hR h=>?_) (fun z2 x1 h=>?_))
  ·refine sr (cq (nt (aj ?_)));refine aL (fun z4 y3=>[(0,.rep (.slice (.slice (.int .i64))) a0),(1,.rep (.slice (.slice (.int .i64))) a1),(5,I y3)]) (fun z4 y3=>[]) (dZ k a0 a1) k () 0 (fun _=>rfl) h (SE.fin [] ⟨rfl,rfl,rfl,trivial⟩ rfl) (fun n z4 y3 h=>?_);unfold dZ at h;refine ah (sr ?_);iterate 2 refine mq ?_
   refine ol mH ?_;refine jb (bG rfl) ?_;refine nt (ci h (fun h=>?_) (fun h=>?_))
   ·refine sk (ah (aj (ah (cu ?_))));refine dm ?_;refine dm ?_;obtain⟨x5,l,h⟩:=aa h;refine db (aN (t:=(.slice (.int .i64))) rfl mH cp l) ?_;refine da (ao (t:=(.slice (.int .i64))) rfl cp rfl) ?_;refine dm ?_;refine dm ?_;obtain⟨x6,j,h⟩:=aa h;refine db (aN (t:=(.slice (.int .i64))) rfl mH cp j) ?_;refine da (ao (t:=(.slice (.int .i64))) rfl cp rfl) ?_;refine df fe ?_;obtain⟨r7,s,h⟩:=aa h;refine jb (ap [.tmp 20,.tmp 24] rfl rfl K8 rfl (kg k x5 x6 r7 s)) ?_;refine ja (eK rfl) ?_;refine nt (cw h (fun h=>?_) (fun h=>?_))
    ·refine sr (cq (nt (aA (br (aZ (aM ?_))))));obtain rfl:=hR _ h;exact ra
    ·refine aS (aK (tn (ab (mq ?_))));obtain⟨x8,c,h⟩:=aa h;refine jb (bi rfl c) ?_;refine aq (nl ?_);exact jz ((),x8) h []
   ·refine xa ?_;exact jz ((),()) h []
  ·refine sr (cq (nt (aA ?_)));cases h;exact ra
def jL(k:Nat)(a0:List Int):Option (List Int):=
 (dh (bO (List.length a0))).bind fun _=>some a0
theorem mi(k:Nat)(a0:List Int)(r:List Int)(h:jL k a0=some r):
 bW Tryz.prog 97 [Ri a0] [] (fun z:Value=>(bp [.eq z],[.sl z 3 (.int .i64) r])):=by
 unfold jL at h
 replace h:=a9 h
 refine bW.of 8 Tryz.func97 rfl Tryz.ntmps97 rfl fun S w0=>?_
 obtain⟨u1,c,h⟩:=aa h
 cases h
 refine sr ?_
 refine cq ?_
 refine nt ?_
 refine ah ?_
 refine sr ?_
 refine mq ?_
 refine bH (Δ:=[]) (F:=_) (fun _ _ _=>av rfl _) rfl rfl (HH rfl ep) ⟨rfl,rfl,trivial⟩ fun b=>?_
 refine nt ?_
 refine bm rfl (fun hb=>?_) (fun hb=>?_)
 ·
  refine sr (cq (nt (rx ?_)));obtain rfl:=b.2 hb;refine bz (SE.nil 3 (.int .i64)) ?_;exact aF (.slice none 0 0) [.eq (.slice none 0 0)] 1 ⟨rfl,trivial⟩ rfl
 ·
  refine sk (sr (aH rfl rfl rfl (mU (t:=(.int .i64)) [] [] rfl rfl eB .nil rfl rfl) trivial fun v1=>?_));refine mq ?_;refine dI rfl rfl rfl (bY rfl rfl eB (by simpa using aC c)) ⟨rfl,rfl,trivial⟩ fun v2=>?_;refine aq (nt (aA ?_));exact aF v2 [.eq v2] 1 ⟨rfl,trivial⟩ rfl
def gz(k:Nat)(a0:cK)(a2:Int):Nat→((List (List Int))×Int)→Option (List (List Int))
 |0,_=>none
 |n+1,y5=>
  if y5.2 < a2 then((kw k a0 y5.1 y5.2).bind fun r7=>
  (ck (y5.2+1)).bind fun x8=>
  gz k a0 a2 n (r7.2,x8)) else(some y5.1)
def kK(k:Nat)(a0:cK)(a1:(List (List Int)))(a2:Int):Option (List (List Int)):=
 ((gz k a0 a2 k (a1,0)):Option ((List (List Int)))).bind fun x3=>
 some x3
theorem qc(k:Nat)(a0:cK)(a1:(List (List Int)))(a2:Int)(r:(List (List Int)))(h:kK k a0 a1 a2=some r):
 bW Tryz.prog 103 [.at bC a0,.rep (.arr 3 (.arr 5 (.int .i64))) a1,I a2] [] (fun _:Unit=>(bp [.rep (.arr 3 (.arr 5 (.int .i64))) r],[])):=by
 unfold kK at h
 replace h:=a9 h
 refine bW.of 21 Tryz.func103 rfl Tryz.ntmps103 rfl fun S w0=>?_
 refine sr ?_
 refine bx fun b1=>?_
 refine aH rfl rfl rfl (bJ rfl l6 mF) trivial fun b2=>?_
 refine nt ?_
 refine aX (Z:=Unit) (α:=(List (List Int))) (fun z4 x3=>[(4,Pt b1),(6,Pt b2)]) (fun z4 x3=>[.obj b1 107 (.rep (.arr 3 (.arr 5 (.int .i64))) x3),.obj b2 107 (.rep (.arr 3 (.arr 5 (.int .i64))) [[0,0,0,0,0],[0,0,0,0,0],[0,0,0,0,0]])]) h (fun K h=>?_) (fun z4 x3 h=>?_)
 ·
  refine sr (mq ?_);refine dX rfl ?_;refine nt (aj (aL (fun z6 y5=>[(0,.at bC a0),(4,Pt b1),(6,Pt b2),(8,I a2),(9,I y5.2)]) (fun z6 y5=>[.obj b1 107 (.rep (.arr 3 (.arr 5 (.int .i64))) y5.1),.obj b2 107 (.rep (.arr 3 (.arr 5 (.int .i64))) [[0,0,0,0,0],[0,0,0,0,0],[0,0,0,0,0]])]) (gz k a0 a2) k () (a1,0) (fun _=>rfl) h (SE.fin [1,0] ⟨rfl,rfl,rfl,rfl,rfl,trivial⟩ rfl) (fun n z6 y5 h=>?_)));unfold gz at h;refine sr (jb (bG rfl) ?_);refine nt (ah (ci h (fun h=>?_) (fun h=>?_)))
  ·refine sk (ah (aj (sr (mq ?_))));refine aq (nt (ab ?_));refine mq ?_;refine lo cI ?_;refine mq ?_;obtain⟨r7,e,h⟩:=aa h;refine jc (ap [.tmp 13,.tmp 14,.tmp 15] rfl rfl N3 rfl (ng k a0 y5.1 y5.2 r7 e)) ?_;refine mq ?_;refine xr ?_;refine xr ?_;refine be rfl rfl (a8 rfl cI rfl rfl rfl) ⟨rfl,rfl,trivial⟩ ?_;refine ar (aK (tn (ab ?_)));obtain⟨x8,c,h⟩:=aa h;refine jb (bi rfl c) ?_;refine mq (nl ?_);exact jz ((),(r7.2,x8)) h [0,1]
  ·refine xa ?_;exact jz ((),y5.1) h [0,1]
 ·
  refine sr (lo cI ?_);refine fr 1 ?_;refine be rfl rfl (a8 rfl cI rfl rfl rfl) ⟨rfl,rfl,trivial⟩ ?_;refine nt (aA ?_);obtain rfl:=Option.some.inj h;exact aF () [.rep (.arr 3 (.arr 5 (.int .i64))) x3] 0 ⟨⟨_,_,_,_,_,rfl,(.head _),cI,(xe),rfl⟩,trivial⟩ rfl
def kS(k:Nat)(a0:List Int)(a1 a2:Int):Option (List Int):=
 (dh (0≤a1∧a1 < a2∧a2≤(a0.length:Int))).bind fun _=>some (a0.take a1.toNat++a0.drop a2.toNat)
theorem qn(k:Nat)(a0:List Int)(v:Value)(a1 a2:Int)(r:List Int)(h:kS k a0 a1 a2=some r):bW Tryz.prog 143 [.eq v,.eq (.int .i64 a1),.eq (.int .i64 a2)] [.sl v 3 (.int .i64) a0] (fun z:Value=>(bp [.eq z],[.sl z 3 (.int .i64) r])):=by
 unfold kS at h
 replace h:=a9 h
 obtain⟨u1,eg,h⟩:=aa h
 obtain⟨h1,h2,h3⟩:=aC eg
 obtain rfl:=Option.some.inj h
 refine bW.of 33 Tryz.func143 rfl Tryz.ntmps143 rfl fun S w0=>?_
 refine Dx (fun e=>by rw [e] at h3;simp at h3;omega) fun b cap hv hcap=>?_
 subst hv
 have hl:(a0.take a1.toNat++a0.drop a2.toNat).length=a1.toNat+(a0.length - a2.toNat):=by simp;omega
 refine ah ?_
 refine ab ?_
 refine dn rfl ?_
 refine ar (ae ?_)
 show JC _ _ _ _ _
 refine ah ?_
 refine ab ?_
 refine ax rfl rfl ?_
 refine ax rfl rfl ?_
 refine ax rfl rfl ?_
 refine ax rfl rfl ?_
 refine bN rfl rfl rfl (cN rfl rfl ep) ⟨rfl,trivial⟩ ?_
 refine aB rfl (wi rfl ep cH h1 (by omega) h3 (by omega)) ⟨rfl,rfl,rfl,rfl,trivial⟩ ?_
 refine ar (ae ?_)
 show JC _ _ _ _ _
 refine ah ?_
 refine ah ?_
 refine ab ?_
 refine ax rfl rfl ?_
 refine ax rfl rfl ?_
 refine aB rfl (dS rfl) ⟨rfl,rfl,trivial⟩ ?_
 refine ar (ae ?_)
 show JC _ _ _ _ _
 refine bm rfl (fun hb=>absurd (of_decide_eq_true hb) (by omega)) (fun hb=>?_)
 refine aS (ae ?_)
 show JC _ _ _ _ _
 refine ah ?_
 refine ab ?_
 refine ax rfl rfl ?_
 refine bN rfl rfl rfl (cN rfl rfl ep) ⟨rfl,trivial⟩ ?_
 refine cU rfl rfl ?_
 refine ar (ae ?_)
 show JC _ _ _ _ _
 refine ah ?_
 refine cu ?_
 refine cY rfl rfl rfl (aU rfl) ⟨rfl,trivial⟩ ?_
 refine cY rfl rfl rfl (aU rfl) ⟨rfl,trivial⟩ ?_
 refine cY rfl rfl rfl (tP rfl ep cH h1 (by omega)) ⟨rfl,rfl,trivial⟩ ?_
 refine cY rfl rfl rfl (aU rfl) ⟨rfl,trivial⟩ ?_
 refine cY rfl rfl rfl (aU rfl) ⟨rfl,trivial⟩ ?_
 refine cY rfl rfl rfl (zS rfl ep cH (by omega) h3) ⟨rfl,rfl,trivial⟩ ?_
 refine sj (by kernel_rfl) fe ?_
 refine cd (qX 22 rfl fun _ _ _ h=>(AN▸h:(A.eq (.slice (some ⟨b,0,none⟩) a1.toNat cap)).holds _ _ _)) ?_
 refine bN rfl rfl rfl (wl (t:=.int .i64) (b:=b) (cap:=cap) (l:=a0) (i:=a1.toNat) (j:=a2.toNat) rfl rfl eB (by omega) (by omega) hcap) ⟨rfl,rfl,trivial⟩ ?_
 refine cU rfl rfl ?_
 refine ar (ae ?_)
 show JC _ _ _ _ _
 refine ah ?_
 refine ab ?_
 refine ax rfl rfl ?_
 refine ax rfl rfl ?_
 refine bN rfl rfl rfl (cN rfl rfl ep) ⟨rfl,trivial⟩ ?_
 refine ax rfl rfl ?_
 refine aB rfl (xR rfl ep cH (by omega) (by rw [hl];omega) (by omega)) ⟨rfl,rfl,rfl,trivial⟩ ?_
 refine be rfl rfl (ya (t:=.int .i64) (b:=b) (cap:=cap) (l:=a0.take a1.toNat++a0.drop a2.toNat) (n:=a0.length) rfl rfl ep rfl QK rfl rfl (by rw [hl];omega) hcap) ⟨rfl,trivial⟩ ?_
 refine ar (ae ?_)
 show JC _ _ _ _ _
 refine ah ?_
 refine ab ?_
 refine ax rfl rfl ?_
 refine cU rfl rfl ?_
 refine ar (ae ?_)
 show JC _ _ _ _ _
 refine aA ?_
 exact aF _ [.eq _] 1 ⟨rfl,trivial⟩ rfl
def jJ(k:Nat)(x7:Int)(h:(List (List Int))):Nat→((List (List Int))×Int)→Option (List (List Int))
 |0,_=>none
 |n+1,c=>
  if c.2 < (h.length:Int) then((bb h c.2).bind fun e=>
  (dh (bO (List.length [x7]+List.length e))).bind fun _=>
  (dh (bO (List.length c.1+List.length [[x7]++e]))).bind fun _=>
  (ck (c.2+1)).bind fun j=>
  jJ k x7 h n (c.1++[[x7]++e],j)) else(some c.1)
def jK(k:Nat)(a0:(List Int))(self:(List Int)→Option ((List (List Int)))):Nat→((List (List Int))×Int)→Option (List (List Int))
 |0,_=>none
 |n+1,y3=>
  if y3.2 < (a0.length:Int) then((((bb a0 y3.2).bind fun x7=>
  (jL k a0).bind fun r8=>
  (ck (y3.2+1)).bind fun e=>
  (kS k r8 y3.2 e).bind fun j=>
  (self j).bind fun h=>
  jJ k x7 h k (y3.1,0)):Option ((List (List Int)))).bind fun x5=>
  (ck (y3.2+1)).bind fun c=>
  jK k a0 self n (x5,c)) else(some y3.1)
def kL(k:Nat):Nat→(List Int)→Option ((List (List Int)))
 |0,_=>none
 |m0+1,a0=>
  if(a0.length:Int)=0 then(some [[]]) else(((jK k a0 (kL k m0) k (([]:(List (List Int))),0)):Option ((List (List Int)))).bind fun x1=>
  some x1)
theorem uB(k:Nat):
 ∀(n:Nat) (a0:(List Int)) (r:(List (List Int))),kL k n a0=some r→bW Tryz.prog 107 [Ri a0] ([]) (fun _:Unit=>(bp [.rep (.slice (.slice (.int .i64))) r],[])):=by
 intro n
 induction n with
 |zero=>intro a0 r h;cases h
 |succ m0 ih=>
  intro a0 r h;rw [kL] at h;replace h:=a9 h;refine bW.of 41 Tryz.func107 rfl Tryz.ntmps107 rfl fun S w0=>?_;refine sr (cq (nt (ah (sr ?_))));refine mq ?_;refine ol ep ?_;refine jb (dS rfl) ?_;refine nt (ci h (fun h=>?_) (fun h=>?_))
  ·refine sr (ja (bB (t:=(.slice (.int .i64))) [(.const (.slice none 0 0),_)] [[]] rfl rfl qo (.cons rfl .nil .nil) rfl rfl) ?_);refine aq (nt (rx ?_));cases h;exact ra
  ·refine sk (sr (cq (nt ?_)));refine aX (Z:=Value) (α:=(List (List Int))) (fun z2 x1=>[(3,.eq z2)]) (fun z2 x1=>[.sl z2 23 (.slice (.int .i64)) x1]) h (fun K h=>?_) (fun z2 x1 h=>?_)
   ·refine sr (mq ?_);refine ol ep ?_;refine dX rfl ?_;refine nt (aj (fN (SE.nil 23 (.slice (.int .i64))) ?_));refine aL (fun z4 y3=>[(0,Ri a0),(3,.eq z4),(12,Ri a0),(13,I (a0.length:Int)),(14,I y3.2)]) (fun z4 y3=>[.sl z4 23 (.slice (.int .i64)) y3.1]) (jK k a0 (kL k m0)) k (.slice none 0 0) (([]:(List (List Int))),0) (fun _=>rfl) h (SE.fin [0] ⟨rfl,rfl,rfl,rfl,rfl,trivial⟩ rfl) (fun n z4 y3 h=>?_);unfold jK at h;refine sr (jb (bG rfl) ?_);refine nt (ah (ci h (fun h=>?_) (fun h=>?_)))
    ·refine sk (aX (Z:=Value) (α:=(List (List Int))) (fun z6 x5=>[(0,Ri a0),(3,.eq z6),(12,Ri a0),(13,I (a0.length:Int)),(14,I y3.2)]) (fun z6 x5=>[.sl z6 23 (.slice (.int .i64)) x5]) h (fun K h=>?_) (fun z6 x5 h=>?_))
     ·refine aj (sr (mq ?_));obtain⟨x7,Y,h⟩:=aa h;refine jb (aN (t:=(.int .i64)) rfl ep cH Y) ?_;refine ja (ao (t:=(.int .i64)) rfl cH rfl) ?_;refine aq ?_;refine aq (nt (sr ?_));refine mq ?_;obtain⟨r8,ac,h⟩:=aa h;refine aH rfl rfl rfl (ap [.tmp 19] rfl rfl P3 rfl (mi k a0 r8 ac)) ⟨rfl,trivial⟩ fun v9=>?_;iterate 2 refine mq ?_
      obtain⟨U,D,h⟩:=aa h;refine jb (bi rfl D) ?_;obtain⟨s,M,h⟩:=aa h;refine dI rfl rfl rfl (ap [.tmp 20,.tmp 21,.tmp 23] rfl rfl Om rfl (qn k r8 v9 y3.2 U s M)) ⟨rfl,rfl,rfl,trivial⟩ fun qt=>?_;refine cd (gr [24] ⟨rfl,trivial⟩) ?_;obtain⟨j,J,h⟩:=aa h;refine ja (ap [.tmp 24] rfl rfl JA rfl (ih s j J)) ?_;refine ol mH ?_;refine dX rfl ?_;refine nt (aj (aL (fun e c=>[(0,Ri a0),(3,.eq e),(5,I x7),(12,Ri a0),(13,I (a0.length:Int)),(14,I y3.2),(25,.rep (.slice (.slice (.int .i64))) j),(26,I (j.length:Int)),(27,I c.2)]) (fun e c=>[.sl e 23 (.slice (.int .i64)) c.1]) (jJ k x7 j) k z4 (y3.1,0) (fun _=>rfl) h (SE.fin [0] ⟨rfl,rfl,rfl,rfl,rfl,rfl,rfl,rfl,rfl,trivial⟩ rfl) (fun n e c h=>?_)));unfold jJ at h;refine sr (jb (bG rfl) ?_);refine nt (ah (ci h (fun h=>?_) (fun h=>?_)))
      ·refine sk (ah (aj (sr ?_)));obtain⟨l,y,h⟩:=aa h;refine jb (aN (t:=(.slice (.int .i64))) rfl mH cp y) ?_;refine ja (ao (t:=(.slice (.int .i64))) rfl cp rfl) ?_;refine aq (nt (ab ?_));iterate 2 refine mq ?_
       refine aH rfl rfl rfl (mU (t:=(.int .i64)) [(.tmp 32,_)] [x7] rfl rfl eB (.cons rfl .int .nil) rfl rfl) ⟨rfl,trivial⟩ fun pp=>?_;refine mq ?_;obtain⟨QV,F,h⟩:=aa h;refine dI rfl rfl rfl (bY rfl rfl eB (aC F)) ⟨rfl,rfl,trivial⟩ fun mc=>?_;refine cd (gr [35] ⟨rfl,trivial⟩) ?_;refine ja (bB (t:=(.slice (.int .i64))) [(.tmp 35,_)] [[x7]++l] rfl rfl qo (.cons rfl .rep .nil) rfl rfl) ?_;obtain⟨se,E,h⟩:=aa h;refine dI rfl rfl rfl (bY rfl rfl qo (aC E)) ⟨rfl,rfl,trivial⟩ fun X=>?_;refine aq (ar (aK (tn (ab ?_))));obtain⟨Q,x,h⟩:=aa h;refine jb (bi rfl x) ?_;refine mq (nl ?_);exact jz (X,(c.1++[[x7]++l],Q)) h [0]
      ·refine dt (aP (aP (bQ (bn ?_))));exact jz (e,c.1) h [0]
     ·refine ab ?_;obtain⟨O,u,h⟩:=aa h;refine jb (bi rfl u) ?_;refine mq (nl ?_);exact jz (z6,(x5,O)) h [0]
    ·refine xa ?_;exact jz (z4,y3.1) h [0]
   ·refine sr (mq ?_);refine aq (nt (aA ?_));refine bz (gr [2,3,40] ⟨rfl,rfl,rfl,trivial⟩) ?_;cases h;exact ra
def fw{σ:Type}(k:Nat)(a1:(List Int))(Y:σ→Int→Option (σ×Bool)):Nat→(Int×σ)→Option (σ)
 |0,_=>none
 |n+1,y1=>
  if y1.1 < (a1.length:Int) then((bb a1 y1.1).bind fun x3=>
  (Y y1.2 x3).bind fun r4=>
  if¬(r4.2=true) then(some r4.1) else((ck (y1.1+1)).bind fun x6=>
  fw k a1 Y n (x6,r4.1))) else(some y1.2)
def jr{σ:Type}(k:Nat)(Y:σ→Int→Option (σ×Bool))(a1:(List Int))(s0:σ):Option (σ):=
 fw k a1 Y k (0,s0)
theorem oV{M:Md Tryz.prog}{σ Z:Type}(E:Z→σ→List D)(l:Nat)(Y:σ→Int→Option (σ×Bool))(k:Nat)(a1:(List Int))(c:Nat)(hY:∀z s p r,Y s p=some r→YT M l [I p] (E z s) (fun z':Z=>(.eq (.bool r.2),E z' r.1))):
 ∀(z0:Z) (s0:σ) (r:σ),jr k Y a1 s0=some r→cS M 146 [.eq (.func (.yield l) #[] #[]),Pt c] ([.obj c 23 (Ri a1)]++E z0 s0) (fun z:Z=>(bp [],[.obj c 23 (Ri a1)]++E z r)):=by
 intro z0 s0 r h
 unfold jr at h
 replace h:=a9 h
 refine cS.of 16 Tryz.func146 rfl Tryz.ntmps146 rfl fun S w0=>?_
 refine sr ?_
 refine lo cp ?_
 refine ol ep ?_
 refine dX rfl ?_
 refine nt ?_
 refine aj ?_
 refine aL (Z:=Z) (α:=Int×σ) (fun z2 y1=>[(0,.eq (.func (.yield l) #[] #[])),(5,Ri a1),(6,I (a1.length:Int)),(7,I y1.1)]) (fun z2 y1=>[.obj c 23 (Ri a1)]++E z2 y1.2) (fw k a1 Y) k z0 (0,s0) (fun _=>rfl) h (aV [.obj c 23 (Ri a1)] (E z0 s0) [0] ⟨rfl,rfl,rfl,rfl,trivial⟩ rfl) (fun n z2 y1 h=>?_)
 unfold fw at h
 refine sr ?_
 refine jb (bG rfl) ?_
 refine nt ?_
 refine ah ?_
 refine ci h (fun h=>?_) (fun h=>?_)
 ·
  refine sk (ah (aj (sr ?_)));obtain⟨x3,j,h⟩:=aa h;refine jb (aN (t:=(.int .i64)) rfl ep cH j) ?_;refine ja (ao (t:=(.int .i64)) rfl cH rfl) ?_;refine aq (nt (sr ?_));iterate 2 refine mq ?_
  obtain⟨r4,u,h⟩:=aa h;refine oh [.obj c 23 (Ri a1)] rfl rfl rfl (wh [.tmp 12] rfl rfl rfl (hY z2 y1.2 x3 r4 u)) ⟨rfl,rfl,trivial⟩ fun z5=>?_;refine ja (eK rfl) ?_;refine nt (cw h (fun h=>?_) (fun h=>?_))
  ·refine aA (br (aZ ?_));cases h;exact ii z5 [] trivial rfl
  ·refine aS (aK (tn (ab ?_)));obtain⟨x6,e,h⟩:=aa h;refine jb (bi rfl e) ?_;refine mq (nl ?_);exact gw (z5,(x6,r4.1)) h (aV [.obj c 23 (Ri a1)] (E z5 r4.1) [0] ⟨rfl,rfl,rfl,rfl,trivial⟩ rfl)
 ·
  refine dt (aP (aP (bQ (ix ?_))));cases h;exact ii z2 [] trivial rfl
def je(k:Nat)(a1:(List Int)):Option (List Int):=
 (jr k (su (fun(y2:(List Int)) (p4:Int)=>
  (dh (bO (List.length y2+List.length [p4]))).bind fun _=>
  some (y2++[p4],true))) a1 (([]:(List Int)),false)).bind fun r5=>
 if r5.2=true then(none) else(some r5.1)
theorem nC(k:Nat)(a1:(List Int))(c:Nat)(r:(List Int))(h:je k a1=some r):
 bW Tryz.prog 183 [.eq (.slice none 0 0),.eq (.func (.func 146) #[] #[(Pv c)])] [.obj c 23 (Ri a1)] (fun z:Value=>(bp [.eq z],[.sl z 3 (.int .i64) r,.obj c 23 (Ri a1)])):=by
 unfold je at h
 replace h:=a9 h
 refine xb 13 Tryz.func183 rfl Tryz.ntmps183 rfl fun {M} S w0=>?_
 refine sr ?_
 refine bx fun b1=>?_
 refine cq ?_
 refine nt ?_
 refine ah ?_
 refine sr ?_
 refine mq ?_
 refine nt ?_
 refine aj ?_
 refine fN (SE.nil 3 (.int .i64)) ?_
 refine iy 1 rfl ?_
 refine iy 2 rfl ?_
 obtain⟨r5,j,h⟩:=aa h
 refine m9 (Δ:=[.obj c 23 (Ri a1),.obj b1 23 (.eq (.slice none 0 0)),.sl (.slice none 0 0) 3 (.int .i64) ([]:(List Int))]) (F:=[]) (X:=Value) (J:=fun _=>H7 r5.2) (E:=fun z3=>[.obj c 23 (Ri a1),.obj b1 23 (.eq z3),.sl z3 3 (.int .i64) r5.1]) (r0:=fun _=>.tup .any) rfl rfl Oi (fun rec hp ha hb hs hpe hN hv l=>?_) (fun dl z3=>pw (fun hj=>?_) (fun hj=>?_))
 ·
  rcases rec with⟨st0,pe0,fn0,tm0,ps0,as0,bd0,df0⟩;dsimp only at hp ha hb hs hpe hN hv;subst hp hs hpe;have vN:uh tm0 [(2,Pt b1)]:=⟨congrArg A.eq (hv 2 _ rfl).symm,trivial⟩;refine cS.pick (M:=M) [1,0,2,3] [1,0,2,3] (oV (fun(z3:Value) (q:(List Int)×Bool)=>[.raw l (.loop (jf ⟨.ready,none,fn0,tm0, #[7],as0,bd0,df0⟩ (H7 q.2))),.obj b1 23 (.eq z3),.sl z3 3 (.int .i64) q.1]) l (su (fun(y2:(List Int)) (p4:Int)=>
  (dh (bO (List.length y2+List.length [p4]))).bind fun _=>
  some (y2++[p4],true))) k a1 c (fun z3 q p r' h=>?_) (.slice none 0 0) (([]:(List Int)),false) r5 j) rfl (fun _=>rfl) (fun _=>rfl)
  obtain⟨rq,hq,h2,rfl⟩:=px h;obtain⟨y2,b5⟩:=q;obtain rfl:b5=false:=hq;replace h:=a9 h2;obtain⟨p4,hpv⟩:∃x,x=p:=⟨_,rfl⟩;subst hpv;refine YT.pick (R':=(fun z3:Value=>(.eq (.bool rq.2),[.raw l (.loop (jf ⟨.ready,none,fn0,tm0, #[7],as0,bd0,df0⟩ (H7 (!rq.2)))),.obj b1 23 (.eq z3),.sl z3 3 (.int .i64) rq.1]))) [0,1,2] [0,1,2] (GF ha hb (N:=13) (Γ:=[(2,Pt b1)]) rfl hN (by decide) vN (fun S w=>?_)) rfl (fun _=>rfl) (fun _=>rfl);refine ab (aq (nl ?_));refine ut rfl rfl ?_;refine aj (ab (fr 1 ?_));refine lo cp ?_;refine mq ?_;refine ja (bB (t:=(.int .i64)) [(.tmp 9,_)] [p4] rfl rfl eB (.cons rfl .int .nil) rfl rfl) ?_;obtain⟨u6,e,h⟩:=aa h;refine fr 2 ?_;refine dI rfl rfl rfl (bY rfl rfl eB (aC e)) ⟨rfl,rfl,trivial⟩ fun v7=>?_;refine uq fun o8=>?_;refine fr 1 ?_;refine be rfl rfl (a8 rfl cp o8 rfl rfl) ⟨rfl,rfl,trivial⟩ ?_;refine ar (aK (di 1 rfl ?_));refine di 1 rfl ?_;refine di 2 rfl ?_;cases h;exact si v7 2 rfl
 ·
  replace h:=bL (BK hj) h;refine aK (tn (sr (fr 2 ?_)));refine lo cp ?_;refine aq (nt (aA ?_));refine di 1 rfl ?_;refine wY ?_;refine bz (SE.fin (Γ':=[(4,_)]) [2,1,0] ⟨rfl,trivial⟩ rfl) ?_;cases h;exact aF z3 [.eq z3] 2 ⟨rfl,trivial⟩ rfl
 ·
  replace h:=cC (BJ hj) h;cases h
def kd(k:Nat)(a0:(List Int)):Option (List Int):=
 (je k a0).bind fun r1=>
 some r1
theorem pA(k:Nat)(a0:(List Int))(c:Nat)(r:(List Int))(h:kd k a0=some r):
 bW Tryz.prog 144 [.eq (.func (.func 146) #[] #[(Pv c)])] [.obj c 23 (Ri a0)] (fun z:Value=>(bp [.eq z],[.sl z 3 (.int .i64) r,.obj c 23 (Ri a0)])):=by
 unfold kd at h
 replace h:=a9 h
 refine bW.of 5 Tryz.func144 rfl Tryz.ntmps144 rfl fun S w0=>?_
 refine sr ?_
 refine cq ?_
 refine nt ?_
 refine sr ?_
 refine mq ?_
 obtain⟨r1,e,h⟩:=aa h
 have j:=nC k a0 c r1 e
 refine bH (Δ:=[_]) (F:=_) (fun _ _ _=>av rfl _) rfl rfl (ap [.const (.slice none 0 0),.tmp 3] rfl rfl Oc rfl j) ⟨rfl,rfl,trivial⟩ fun z2=>?_
 refine aq ?_
 refine nt ?_
 refine aA ?_
 cases h
 exact aF z2 [.eq z2] 2 ⟨rfl,trivial⟩ rfl
def oP(k:Nat)(a0:Int):Option Bool:=
 some (!decide (a0=a0))
theorem qP(k:Nat)(a0:Int)(r:Bool)(h:oP k a0=some r):
 bW Tryz.prog 189 [I a0] [] (fun _:Unit=>(bp [.eq (.bool r)],[])):=by
 unfold oP at h
 replace h:=a9 h
 refine bW.of 6 Tryz.func189 rfl Tryz.ntmps189 rfl fun S w0=>?_
 refine sr ?_
 refine cq ?_
 refine nt ?_
 refine sr ?_
 iterate 2 refine mq ?_
 refine jb (ip rfl) ?_
 refine aq ?_
 refine nt ?_
 refine aA ?_
 cases h
 exact ra
def ue(k:Nat)(a0:Int)(a1:Int):Option Bool:=
 (((oP k a0).bind fun r3=>
 if r3=true then((oP k a1).bind fun r4=>
 if¬(r4=true) then(some true) else(some (decide (a0 < a1)))) else(some (decide (a0 < a1)))):Option (Bool)).bind fun x1=>
 some x1
theorem yP(k:Nat)(a0:Int)(a1:Int)(r:Bool)(h:ue k a0 a1=some r):
 bW Tryz.prog 202 [I a0,I a1] [] (fun _:Unit=>(bp [.eq (.bool r)],[])):=by
 unfold ue at h
 replace h:=a9 h
 refine bW.of 17 Tryz.func202 rfl Tryz.ntmps202 rfl fun S w0=>?_
 refine sr ?_
 refine cq ?_
 refine nt ?_
 refine aX (Z:=Unit) (α:=Bool) (fun z2 x1=>[(4,.eq (.bool x1))]) (fun z2 x1=>[]) h (fun K h=>?_) (fun z2 x1 h=>?_)
 ·
  refine ab (mq ?_);obtain⟨r3,e,h⟩:=aa h;refine ja (ap [.tmp 5] rfl rfl Jv rfl (qP k a0 r3 e)) ?_;refine mq ?_;refine bT (s:=7) rfl (fun hb=>?_) (fun hb=>?_)
  ·replace h:=cC (BJ hb) h;refine gm ?_;obtain⟨r4,c,h⟩:=aa h;refine ga (ap [.tmp 8] rfl rfl Jv rfl (qP k a1 r4 c)) ?_;refine ga (eK rfl) ?_;refine pt ?_;refine mq ?_;refine bT (s:=12) rfl (fun hb=>?_) (fun hb=>?_)
   ·replace h:=cC (ET hb) h;iterate 3 refine gn ?_
    refine pt ?_;refine aq (nl ?_);exact jz ((),true) h []
   ·replace h:=bL (yc hb) h;refine gm ?_;refine gm ?_;refine gb (bG rfl) ?_;refine pf ?_;refine aq (nl ?_);exact jz ((),decide (a0 < a1)) h []
  ·replace h:=bL (BK hb) h;iterate 3 refine gn ?_
   refine pf ?_;refine mq ?_;refine gm ?_;refine gm ?_;refine gb (bG rfl) ?_;refine pf ?_;refine aq (nl ?_);exact jz ((),decide (a0 < a1)) h []
 ·
  refine aA ?_;cases h;exact ra
def cg(k:Nat)(a1:Int):Nat→((List Int)×Int)→Option (List Int)
 |0,_=>none
 |n+1,y6=>
  ((if a1 < y6.2 then((bb y6.1 y6.2).bind fun u=>
  (ck (y6.2 - 1)).bind fun s=>
  (bb y6.1 s).bind fun r=>
  (ue k u r).bind fun x=>
  some x) else(some false)):Option (Bool)).bind fun x8=>
  if x8=true then((ck (y6.2 - 1)).bind fun e=>
  (ck (y6.2 - 1)).bind fun l=>
  (bb y6.1 l).bind fun c=>
  (bb y6.1 y6.2).bind fun j=>
  (bb y6.1 y6.2).bind fun D=>
  (bb (List.set y6.1 (Int.toNat y6.2) c) e).bind fun y=>
  (ck (y6.2 - 1)).bind fun h=>
  cg k a1 n (List.set (List.set y6.1 (Int.toNat y6.2) c) (Int.toNat e) j,h)) else(some y6.1)
def cm(k:Nat)(a1:Int)(a2:Int):Nat→((List Int)×Int)→Option (List Int)
 |0,_=>none
 |n+1,y2=>
  if y2.2 < a2 then(((cg k a1 k (y2.1,y2.2)):Option ((List Int))).bind fun x4=>
  (ck (y2.2+1)).bind fun c=>
  cm k a1 a2 n (x4,c)) else(some y2.1)
def dG(k:Nat)(a0:(List Int))(a1:Int)(a2:Int):Option (List Int):=
 (ck (a1+1)).bind fun x1=>
 cm k a1 a2 k (a0,x1)
theorem jo(k:Nat)(a0:(List Int))(c:Value)(a1:Int)(a2:Int)(r:(List Int))(h:dG k a0 a1 a2=some r):
 bW Tryz.prog 196 [.eq c,I a1,I a2] [.sl c 3 (.int .i64) a0] (fun _:Unit=>(bp [],[.sl c 3 (.int .i64) r])):=by
 unfold dG at h
 replace h:=a9 h
 refine bW.of 49 Tryz.func196 rfl Tryz.ntmps196 rfl fun S w0=>?_
 refine sr ?_
 refine mq ?_
 obtain⟨x1,Rb,h⟩:=aa h
 refine jb (bi rfl Rb) ?_
 refine aq ?_
 refine nt ?_
 refine aj ?_
 refine aL (fun z3 y2=>[(0,.eq c),(1,I a1),(2,I a2),(6,I y2.2)]) (fun z3 y2=>[.sl c 3 (.int .i64) y2.1]) (cm k a1 a2) k () (a0,x1) (fun _=>rfl) h (SE.fin [0] ⟨rfl,rfl,rfl,rfl,trivial⟩ rfl) (fun n z3 y2 h=>?_)
 unfold cm at h
 refine ah ?_
 refine sr ?_
 iterate 2 refine mq ?_
 refine jb (bG rfl) ?_
 refine nt ?_
 refine ci h (fun h=>?_) (fun h=>?_)
 ·
  refine sk (aX (Z:=Unit) (α:=(List Int)) (fun z5 x4=>[(0,.eq c),(1,I a1),(2,I a2),(6,I y2.2)]) (fun z5 x4=>[.sl c 3 (.int .i64) x4]) h (fun K h=>?_) (fun z5 x4 h=>?_))
  ·refine aj (sr (mq ?_));refine aq (nt (aj ?_));refine aL (fun z7 y6=>[(0,.eq c),(1,I a1),(2,I a2),(6,I y2.2),(7,I y6.2)]) (fun z7 y6=>[.sl c 3 (.int .i64) y6.1]) (cg k a1) k () (y2.1,y2.2) (fun _=>rfl) h (SE.fin [0] ⟨rfl,rfl,rfl,rfl,rfl,trivial⟩ rfl) (fun n z7 y6 h=>?_);unfold cg at h;refine ah (aX (Z:=Unit) (α:=Bool) (fun z9 x8=>[(0,.eq c),(1,I a1),(2,I a2),(6,I y2.2),(7,I y6.2),(30,.eq (.bool x8))]) (fun z9 x8=>[.sl c 3 (.int .i64) y6.1]) h (fun K h=>?_) (fun z9 x8 h=>?_))
   ·refine cu ?_;refine dm ?_;refine dm ?_;refine db (ji rfl) ?_;refine s8 rfl rfl rfl (aU rfl) ⟨rfl,trivial⟩ (fun hb=>?_) (fun hb=>?_)
    ·replace h:=cC (nr hb) h;refine bX rfl rfl rfl rfl rfl (aU rfl) ⟨rfl,rfl,trivial⟩ ?_;refine bX rfl rfl rfl rfl rfl (aU rfl) ⟨rfl,rfl,trivial⟩ ?_;obtain⟨Q0,x,h⟩:=aa h;refine lM 0 rfl rfl rfl rfl rfl rfl (bu (t:=(.int .i64)) rfl ep cH x) ⟨rfl,rfl,rfl,trivial⟩ ?_;refine lM 0 rfl rfl rfl rfl rfl rfl (fD (i:=Int.toNat y6.2) (off:=0) rfl cH (fun _=>rfl) rfl (cP x).2.2 rfl) ⟨rfl,rfl,trivial⟩ ?_;refine bX rfl rfl rfl rfl rfl (aU rfl) ⟨rfl,rfl,trivial⟩ ?_;refine bX rfl rfl rfl rfl rfl (aU rfl) ⟨rfl,rfl,trivial⟩ ?_;obtain⟨QZ,qt,h⟩:=aa h;refine bX rfl rfl rfl rfl rfl (eJ rfl qt) ⟨rfl,rfl,rfl,trivial⟩ ?_;obtain⟨QY,u,h⟩:=aa h;refine lM 0 rfl rfl rfl rfl rfl rfl (bu (t:=(.int .i64)) rfl ep cH u) ⟨rfl,rfl,rfl,trivial⟩ ?_;refine lM 0 rfl rfl rfl rfl rfl rfl (fD (i:=Int.toNat QZ) (off:=0) rfl cH (fun _=>rfl) rfl (cP u).2.2 rfl) ⟨rfl,rfl,trivial⟩ ?_;refine df fe ?_;obtain⟨F,se,h⟩:=aa h;refine gb (ap [.tmp 23,.tmp 28] rfl rfl N7 rfl (yP k Q0 QY F se)) ?_;refine pt (nl ?_);exact jz ((),F) h [0]
    ·replace h:=bL (m6 hb) h;iterate 9 refine dg ?_
     refine df fe ?_;refine gn ?_;refine pf (nl ?_);exact jz ((),false) h [0]
   ·refine cv h (fun h=>?_) (fun h=>?_)
    ·refine sk (ah (aj (j8 ?_)));refine aJ rfl rfl rfl (aU rfl) ⟨rfl,trivial⟩ ?_;refine aJ rfl rfl rfl (aU rfl) ⟨rfl,trivial⟩ ?_;refine aJ rfl rfl rfl (aU rfl) ⟨rfl,trivial⟩ ?_;refine aJ rfl rfl rfl (aU rfl) ⟨rfl,trivial⟩ ?_;obtain⟨y,pp,h⟩:=aa h;refine aJ rfl rfl rfl (eJ rfl pp) ⟨rfl,rfl,trivial⟩ ?_;refine aJ rfl rfl rfl (aU rfl) ⟨rfl,trivial⟩ ?_;refine aJ rfl rfl rfl (aU rfl) ⟨rfl,trivial⟩ ?_;obtain⟨QX,mc,h⟩:=aa h;refine aJ rfl rfl rfl (eJ rfl mc) ⟨rfl,rfl,trivial⟩ ?_;obtain⟨E,s,h⟩:=aa h;refine eF 0 rfl rfl rfl rfl (bu (t:=(.int .i64)) rfl ep cH s) ⟨rfl,rfl,trivial⟩ ?_;refine eF 0 rfl rfl rfl rfl (fD (i:=Int.toNat QX) (off:=0) rfl cH (fun _=>rfl) rfl (cP s).2.2 rfl) ⟨rfl,trivial⟩ ?_;refine aJ rfl rfl rfl (aU rfl) ⟨rfl,trivial⟩ ?_;refine aJ rfl rfl rfl (aU rfl) ⟨rfl,trivial⟩ ?_;obtain⟨D,l,h⟩:=aa h;refine eF 0 rfl rfl rfl rfl (bu (t:=(.int .i64)) rfl ep cH l) ⟨rfl,rfl,trivial⟩ ?_;refine eF 0 rfl rfl rfl rfl (fD (i:=Int.toNat y6.2) (off:=0) rfl cH (fun _=>rfl) rfl (cP l).2.2 rfl) ⟨rfl,trivial⟩ ?_;obtain⟨Rn,j,h⟩:=aa h;refine eF 0 rfl rfl rfl rfl (bu (t:=(.int .i64)) rfl ep cH j) ⟨rfl,rfl,trivial⟩ ?_;refine om 15 [true,true,false,false,false,true,true,true,true,true,true,true,true,true,true] [48] [] [] rfl (by kernel_rfl) (by kernel_rfl) (by kernel_rfl) fe (fun vs hv hB=>?_);obtain⟨w0,RF,rfl,Q9⟩:=ak hv;obtain⟨w1,RE,rfl,Q8⟩:=ak Q9;obtain⟨w2,RD,rfl,Q7⟩:=ak Q8;obtain⟨w3,RB,rfl,Q6⟩:=ak Q7;obtain⟨w4,RA,rfl,Q5⟩:=ak Q6;obtain⟨w5,Rz,rfl,Q4⟩:=ak Q5;obtain⟨w6,Ry,rfl,Q3⟩:=ak Q4;obtain⟨w7,Rx,rfl,Q2⟩:=ak Q3;obtain⟨w8,Rw,rfl,Q1⟩:=ak Q2;obtain⟨w9,Rl,rfl,X⟩:=ak Q1;obtain⟨Ru,Rk,rfl,U⟩:=ak X;obtain⟨Rt,Rj,rfl,Q⟩:=ak U;obtain⟨Rr,Rh,rfl,O⟩:=ak Q;obtain⟨Rq,Rf,rfl,M⟩:=ak O;obtain⟨Ro,Re,rfl,J⟩:=ak M;obtain rfl:=lH J;refine⟨[0],[.sl c 3 (.int .i64) y6.1],by kernel_rfl,by decide,?_⟩;refine pU rfl rfl (cZ (i:=Int.toNat y6.2) rfl cH rfl (iG j) rfl .int rfl) ⟨rfl,rfl,trivial⟩ (by kernel_rfl) ?_;obtain⟨Rm,e,h⟩:=aa h;refine GR rfl rfl rfl rfl (bu (t:=(.int .i64)) rfl ep cH e) ⟨rfl,rfl,trivial⟩ (by kernel_rfl) ?_;refine pU rfl rfl (cZ (i:=Int.toNat y) rfl cH rfl (iG e) rfl .int rfl) ⟨rfl,rfl,trivial⟩ (by kernel_rfl) ?_;refine sf ?_;refine bz (SE.fin (Γ':=[(0,.eq c),(1,I a1),(2,I a2),(6,I y2.2),(7,I y6.2)]) (Δ':=[.sl c 3 (.int .i64) (List.set (List.set y6.1 (Int.toNat y6.2) E) (Int.toNat y) D)]) [0] ⟨rfl,rfl,rfl,rfl,rfl,trivial⟩ rfl) ?_;refine aK (tn (ab (mq ?_)));obtain⟨QW,ac,h⟩:=aa h;refine jb (eJ rfl ac) ?_;refine aq (nl ?_);exact jz ((),(List.set (List.set y6.1 (Int.toNat y6.2) E) (Int.toNat y) D,QW)) h [0]
    ·refine dt (aP (aP (bQ (bn ?_))));exact jz ((),y6.1) h [0]
  ·refine ab (mq ?_);obtain⟨QV,Y,h⟩:=aa h;refine jb (bi rfl Y) ?_;refine aq (nl ?_);exact jz ((),(x4,QV)) h [0]
 ·
  refine dt (aP (aP (bQ (ix ?_))));cases h;exact aF () [] 1 trivial rfl
def kf(k:Nat)(a0:Int):Option Int:=
 ((if 4294967296≤a0 then(some (gJ .u64 a0 32,32)) else(some (a0,0))):Option (Int×Int)).bind fun x1=>
 ((if 65536≤x1.1 then((ck (x1.2+16)).bind fun x5=>
 some (gJ .u64 x1.1 16,x5)) else(some (x1.1,x1.2))):Option (Int×Int)).bind fun x3=>
 ((if 256≤x3.1 then((ck (x3.2+8)).bind fun x8=>
 some (gJ .u64 x3.1 8,x8)) else(some (x3.1,x3.2))):Option (Int×Int)).bind fun x6=>
 (Ak H2 (IntKind.u8.wrap x6.1)).bind fun x9=>
 (ck (x9.toNat:Int)).bind fun e=>
 (ck (x6.2+e)).bind fun c=>
 some c
theorem pL(k:Nat)(a0:Int)(r:Int)(h:kf k a0=some r):
 bW Tryz.prog 206 [.eq (.int .u64 a0)] [] (fun _:Unit=>(bp [I r],[])):=by
 unfold kf at h
 replace h:=a9 h
 refine bW.of 25 Tryz.func206 rfl Tryz.ntmps206 rfl fun S w0=>?_
 refine sr ?_
 refine cq ?_
 refine nt ?_
 refine aX (Z:=Unit) (α:=Int×Int) (fun z2 x1=>[(0,.eq (.int .u64 x1.1)),(2,I x1.2)]) (fun z2 x1=>[]) h (fun K h=>?_) (fun z2 x1 h=>?_)
 ·
  refine sr (mq ?_);refine jb (nH rfl) ?_;refine nt (ci h (fun h=>?_) (fun h=>?_))
  ·refine sr (mq ?_);refine aB rfl (tQ rfl (by decide)) ⟨rfl,rfl,trivial⟩ ?_;refine aq (nt (ab ?_));refine cq (nl ?_);exact jz ((),(gJ .u64 a0 32,32)) h []
  ·refine aS (ae ?_);exact jz ((),(a0,0)) h []
 ·
  refine aX (Z:=Unit) (α:=Int×Int) (fun z4 x3=>[(0,.eq (.int .u64 x3.1)),(2,I x3.2)]) (fun z4 x3=>[]) h (fun K h=>?_) (fun z4 x3 h=>?_)
  ·refine sr (mq ?_);refine jb (nH rfl) ?_;refine nt (ci h (fun h=>?_) (fun h=>?_))
   ·refine sr (mq ?_);refine aB rfl (tQ rfl (by decide)) ⟨rfl,rfl,trivial⟩ ?_;refine aq (nt (ab ?_));refine mq ?_;obtain⟨x5,n,h⟩:=aa h;refine jb (bi rfl n) ?_;refine aq (nl ?_);exact jz ((),(gJ .u64 x1.1 16,x5)) h []
   ·refine aS (ae ?_);exact jz ((),(x1.1,x1.2)) h []
  ·refine aX (Z:=Unit) (α:=Int×Int) (fun z7 x6=>[(0,.eq (.int .u64 x6.1)),(2,I x6.2)]) (fun z7 x6=>[]) h (fun K h=>?_) (fun z7 x6 h=>?_)
   ·refine sr (mq ?_);refine jb (nH rfl) ?_;refine nt (ci h (fun h=>?_) (fun h=>?_))
    ·refine sr (mq ?_);refine aB rfl (tQ rfl (by decide)) ⟨rfl,rfl,trivial⟩ ?_;refine aq (nt (ab ?_));refine mq ?_;obtain⟨x8,l,h⟩:=aa h;refine jb (bi rfl l) ?_;refine aq (nl ?_);exact jz ((),(gJ .u64 x3.1 8,x8)) h []
    ·refine aS (ae ?_);exact jz ((),(x3.1,x3.2)) h []
   ·refine sr ?_;iterate 2 refine mq ?_
    refine ja (nI rfl Pe U5) ?_;obtain⟨x9,j,h⟩:=aa h;refine ja (xZ rfl U9 j) ?_;obtain⟨u,e,h⟩:=aa h;refine ja (tV rfl U5 U3 e) ?_;obtain⟨s,c,h⟩:=aa h;refine jb (bi rfl c) ?_;refine aq (nt (aA ?_));cases h;exact ra
def wQ(k:Nat)(a0:Int):Option Int:=
 (kf k a0).bind fun r1=>
 some r1
theorem AA(k:Nat)(a0:Int)(r:Int)(h:wQ k a0=some r):
 bW Tryz.prog 185 [.eq (.int .u64 a0)] [] (fun _:Unit=>(bp [I r],[])):=by
 unfold wQ at h
 replace h:=a9 h
 refine bW.of 8 Tryz.func185 rfl Tryz.ntmps185 rfl fun S w0=>?_
 refine sr ?_
 refine cq ?_
 refine nt ?_
 refine ah ?_
 refine G0 (fun hb=>(by cases hb)) (fun hb=>?_)
 refine sk ?_
 refine sr ?_
 refine mq ?_
 obtain⟨r1,c,h⟩:=aa h
 have e:=pL k a0 r1 c
 refine ja (ap [.tmp 6] rfl rfl N6 rfl e) ?_
 refine aq ?_
 refine nt ?_
 refine aA ?_
 cases h
 exact ra
def eN(k:Nat)(a0:(List Int))(a1:Int)(a2:Int)(a3:Int):Nat→Unit→Option (List Int)
 |0,_=>none
 |n+1,y1=>
  (ck (a2 - a1)).bind fun x3=>
  if x3≤12 then((dG k a0 a1 a2).bind fun r4=>
  some r4) else(if a3=0 then(none) else(none))
def f4(k:Nat)(a0:(List Int))(a1:Int)(a2:Int)(a3:Int):Option (List Int):=
 eN k a0 a1 a2 a3 k ()
theorem lq(k:Nat)(a0:(List Int))(c:Value)(a1:Int)(a2:Int)(a3:Int)(r:(List Int))(h:f4 k a0 a1 a2 a3=some r):
 bW Tryz.prog 184 [.eq c,I a1,I a2,I a3] [.sl c 3 (.int .i64) a0] (fun _:Unit=>(bp [],[.sl c 3 (.int .i64) r])):=by
 unfold f4 at h
 replace h:=a9 h
 refine bW.of 134 Tryz.func184 rfl Tryz.ntmps184 rfl fun S w0=>?_
 refine sr ?_
 refine cq ?_
 refine nt ?_
 refine sr ?_
 refine cq ?_
 refine nt ?_
 refine aj ?_
 refine aL (fun z2 y1=>[(0,.eq c),(1,I a1),(2,I a2),(3,I a3),(8,.eq (.bool true)),(9,.eq (.bool true))]) (fun z2 y1=>[.sl c 3 (.int .i64) a0]) (eN k a0 a1 a2 a3) k () () (fun _=>rfl) h (SE.fin [0] ⟨rfl,rfl,rfl,rfl,rfl,rfl,trivial⟩ rfl) (fun n z2 y1 h=>?_)
 unfold eN at h
 refine aj ?_
 refine sr ?_
 iterate 2 refine mq ?_
 obtain⟨x3,e,h⟩:=aa h
 refine jb (eJ rfl e) ?_
 refine aq ?_
 refine nt ?_
 refine ah ?_
 refine sr ?_
 refine mq ?_
 refine jb (sA rfl) ?_
 refine nt ?_
 refine ci h (fun h=>?_) (fun h=>?_)
 ·
  refine sr ?_;iterate 3 refine mq ?_
  obtain⟨r4,j,h⟩:=aa h;refine kc (ap [.tmp 24,.tmp 25,.tmp 26] rfl rfl N8 rfl (jo k a0 c a1 a2 r4 j)) ?_;refine nt (rx (aZ (aM (aZ ?_))));cases h;exact aF () [] 1 trivial rfl
 ·
  refine sk (ah (sr (mq ?_)));refine jb (dS rfl) ?_;refine nt (ci h (fun h=>?_) (fun h=>?_))
  ·refine sr ?_;iterate 3 refine mq ?_
   cases h
  ·refine sk (ah (sr (mq ?_)));refine ja (eK rfl) ?_;refine nt (bm rfl (fun hb=>(by cases hb)) (fun hb=>?_));refine sk (sr ?_);iterate 3 refine mq ?_
   cases h
def mQ(k:Nat)(a0:(List Int)):Option (List Int):=
 (wQ k (IntKind.u64.wrap (a0.length:Int))).bind fun r1=>
 (f4 k a0 0 (a0.length:Int) r1).bind fun r2=>
 some r2
theorem sM(k:Nat)(a0:(List Int))(c:Value)(r:(List Int))(h:mQ k a0=some r):
 bW Tryz.prog 145 [.eq c] [.sl c 3 (.int .i64) a0] (fun _:Unit=>(bp [],[.sl c 3 (.int .i64) r])):=by
 unfold mQ at h
 replace h:=a9 h
 refine bW.of 11 Tryz.func145 rfl Tryz.ntmps145 rfl fun S w0=>?_
 refine sr ?_
 refine mq ?_
 refine ka (cN rfl rfl ep) ?_
 refine aq ?_
 refine nt ?_
 refine ab ?_
 iterate 3 refine mq ?_
 refine ja (nI rfl U3 Qp) ?_
 obtain⟨r1,j,h⟩:=aa h
 have n:=AA k (IntKind.u64.wrap (a0.length:Int)) r1 j
 refine ja (ap [.tmp 8] rfl rfl Oa rfl n) ?_
 obtain⟨r2,e,h⟩:=aa h
 have l:=lq k a0 c 0 (a0.length:Int) r1 r2 e
 refine bN rfl rfl rfl (ap [.tmp 5,.const (.int .i64 (0)),.tmp 6,.tmp 9] rfl rfl Ob rfl l) ⟨rfl,rfl,rfl,rfl,trivial⟩ ?_
 refine ar ?_
 refine ix ?_
 cases h
 exact aF () [] 1 trivial rfl
def kR(k:Nat)(a0:(List Int)):Option (List Int):=
 (kd k a0).bind fun r1=>
 (mQ k r1).bind fun r3=>
 some r3
theorem qm(k:Nat)(a0:(List Int))(c:Nat)(r:(List Int))(h:kR k a0=some r):
 bW Tryz.prog 108 [.eq (.func (.func 146) #[] #[(Pv c)])] [.obj c 23 (Ri a0)] (fun _:Unit=>(bp [Ri r],[.obj c 23 (Ri a0)])):=by
 unfold kR at h
 replace h:=a9 h
 refine bW.of 9 Tryz.func108 rfl Tryz.ntmps108 rfl fun S w0=>?_
 refine sr ?_
 refine cq ?_
 refine nt ?_
 refine sr ?_
 refine mq ?_
 obtain⟨r1,j,h⟩:=aa h
 have n:=pA k a0 c r1 j
 refine bH (Δ:=[_]) (F:=_) (fun _ _ _=>av rfl _) rfl rfl (ap [.tmp 4] rfl rfl Ol rfl n) ⟨rfl,trivial⟩ fun z2=>?_
 refine aq ?_
 refine nt ?_
 refine sr ?_
 refine mq ?_
 obtain⟨r3,e,h⟩:=aa h
 have l:=sM k r1 z2 r3 e
 refine ka (ap [.tmp 6] rfl rfl Oj rfl l) ?_
 refine nt ?_
 refine sr ?_
 refine mq ?_
 refine aq ?_
 refine nt ?_
 refine aA ?_
 refine bz (gr [2,3,5,6,8] ⟨rfl,rfl,rfl,rfl,rfl,trivial⟩) ?_
 cases h
 exact aF () [_] 1 ⟨rfl,trivial⟩ rfl
theorem qk(a0:(List Int)):bW Tryz.prog 109 [Ri a0] [] (fun z:Nat=>(bp [.eq (.func (.func 146) #[] #[(Pv z)])],[.obj z 23 (Ri a0)])):=by
 refine bW.of 4 Tryz.func109 rfl Tryz.ntmps109 rfl fun S w0=>?_;refine sr (bx fun z=>?_);refine cq (nt (sr ?_));refine ja (rG [] [.tmp 1] [] [(Pv z)] rfl rfl rfl) ?_;refine aq (nt (aA ?_));exact aF z [_] 1 ⟨rfl,trivial⟩ rfl
def dp{σ:Type}(k:Nat)(a0:(List (List Int)))(a1:Int)(a2:Int)(a3:cK)(self:(List (List Int))→Int→Int→σ→Option (Bool×σ))(h:(List Int)):Nat→(Int×σ)→Option (Except (Bool×σ) (σ))
 |0,_=>none
 |n+1,c=>
  if c.1 < (a3.1.2.1.length:Int) then(bE (α:=σ) ((bb a3.1.2.1 c.1).bind fun y=>
  (((dQ k a2 c.1).bind fun I=>
  if I=true then(some (true,c.2)) else((me k a3.1 h).bind fun F=>
  (ck (F+y.1)).bind fun x=>
  (bb a3.1.2.2 a1).bind fun u=>
  some (decide (u < x),c.2))):Option (Bool×σ)).bind fun j=>
  if j.1=true then(some (.ok j.2)) else((dh (0≤a1∧a1 < 3)).bind fun _=>
  (bb a0 a1).bind fun s=>
  (dh (0≤(h.length:Int)∧(h.length:Int) < 5)).bind fun _=>
  (fV k a2 c.1).bind fun E=>
  (self (List.set a0 (Int.toNat a1) (List.set s (Int.toNat (h.length:Int)) c.1)) a1 E j.2).bind fun l=>
  if¬(l.1=true) then(some (.error (false,l.2))) else(some (.ok l.2)))) (fun e=>some (.error e)) fun D=>
  (ck (c.1+1)).bind fun r=>
  dp k a0 a1 a2 a3 self h n (r,D)) else(some (.ok c.2))
def cF{σ:Type}(k:Nat)(Y:σ→(List (List Int))→Option (σ×Bool))(a3:cK):Nat→(List (List Int))→Int→Int→σ→Option (Bool×σ)
 |0,_,_,_,_=>none
 |m0+1,a0,a1,a2,s0=>
  if a1=(a3.1.2.2.length:Int) then((((dh (0≤(a3.1.2.1.length:Int))).bind fun _=>
  if¬(a2=(IntKind.u8.wrap ((mA .u8 1 (a3.1.2.1.length:Int)) - 1))) then(some (true,s0)) else((Y s0 a0).bind fun r5=>
  some (r5.2,r5.1))):Option (Bool×σ)).bind fun x2=>
  some (x2.1,x2.2)) else((ck (a1+1)).bind fun x7=>
  ((cF k Y a3 m0) a0 x7 a2 s0).bind fun r8=>
  if¬(r8.1=true) then(some (false,r8.2)) else((fk k a0 a1).bind fun e=>
  bE (α:=σ) (dp k a0 a1 a2 a3 (cF k Y a3 m0) e k (0,r8.2)) (some) fun c=>
  some (true,c)))
theorem lS{M:Md Tryz.prog}{σ Z:Type}(E:Z→σ→List D)(l:Nat)(Y:σ→(List (List Int))→Option (σ×Bool))(k:Nat)(a3:cK)(u:Nat)(x:Nat)(c:Nat)(hY:∀z s p r,Y s p=some r→YT M l [.rep (.arr 3 (.arr 5 (.int .i64))) p] (E z s) (fun z':Z=>(.eq (.bool r.2),E z' r.1))):
 ∀(n:Nat) (a0:(List (List Int))) (a1:Int) (a2:Int) (z0:Z) (s0:σ) (r:Bool×σ),cF k Y a3 n a0 a1 a2 s0=some r→cS M 149 [.rep (.arr 3 (.arr 5 (.int .i64))) a0,I a1,.eq (.int .u8 a2),Pt u,Pt x,Pt c] ([.obj u 102 (.at bC a3),.obj x 210 (.eq (.func (.yield l) #[] #[])),.obj c 211 (.eq (.func (.func 149) #[] #[(Pv u),(Pv x),(Pv c)]))]++E z0 s0) (fun z:Z=>(bp [.eq (.bool r.1)],[.obj u 102 (.at bC a3),.obj x 210 (.eq (.func (.yield l) #[] #[])),.obj c 211 (.eq (.func (.func 149) #[] #[(Pv u),(Pv x),(Pv c)]))]++E z r.2)):=by
 intro n
 induction n with
 |zero=>intro a0 a1 a2 z0 s0 r h;cases h
 |succ m0 ih=>
  intro a0 a1 a2 z0 s0 r h;rw [cF] at h;replace h:=a9 h;refine cS.of 97 Tryz.func149 rfl Tryz.ntmps149 rfl fun S w0=>?_;refine sr (bx fun b1=>?_);refine cq (nt (ah (sr ?_)));refine mq ?_;refine fr 1 ?_;refine lo qi ?_;refine ja (dc rfl) ?_;refine ja (aI 3 true rfl jl rfl) ?_;refine ja (aI 1 false rfl fq rfl) ?_;refine ja (ao (t:=(.slice (.int .i64))) rfl cp rfl) ?_;refine ol ep ?_;refine jb (dS rfl) ?_;refine nt (ci h (fun h=>?_) (fun h=>?_))
  ·refine aX (Z:=Z) (α:=Bool×σ) (fun z3 x2=>[(9,.eq (.bool x2.1))]) (fun z3 x2=>[.obj u 102 (.at bC a3),.obj x 210 (.eq (.func (.yield l) #[] #[])),.obj c 211 (.eq (.func (.func 149) #[] #[(Pv u),(Pv x),(Pv c)]))]++E z3 x2.2) h (fun K h=>?_) (fun z3 x2 h=>?_)
   ·refine ab (mq ?_);refine lo qi ?_;refine ja (dc rfl) ?_;refine ja (aI 3 true rfl jl rfl) ?_;refine ja (aI 1 false rfl eO rfl) ?_;refine ja (ao (t:=(.slice cD)) rfl lp rfl) ?_;refine ol s4 ?_;obtain⟨u4,Rm,h⟩:=aa h;refine jb (ED rfl (aC Rm)) ?_;refine jb (zQ rfl) ?_;refine jb (ip rfl) ?_;refine mq ?_;refine bT (s:=32) rfl (fun hb=>?_) (fun hb=>?_)
    ·replace h:=cC (LR hb) h;iterate 3 refine gn ?_
     refine pt ?_;refine aq (nl ?_);exact gw (z0,(true,s0)) h (aV [.obj u 102 (.at bC a3),.obj b1 107 (.rep (.arr 3 (.arr 5 (.int .i64))) a0),.obj x 210 (.eq (.func (.yield l) #[] #[])),.obj c 211 (.eq (.func (.func 149) #[] #[(Pv u),(Pv x),(Pv c)]))] (E z0 s0) [0,2,3] ⟨rfl,trivial⟩ rfl)
    ·replace h:=bL (CN hb) h;refine fr 2 ?_;refine lX rfl rfl rfl rfl rfl rfl (an rfl ML mX rfl) ⟨rfl,trivial⟩ ?_;refine fr 2 ?_;refine lX rfl rfl rfl rfl rfl rfl (an rfl cI (xe) rfl) ⟨rfl,trivial⟩ ?_;obtain⟨r5,Ro,h⟩:=aa h;refine fr 3 ?_;refine fr 3 ?_;refine fr 3 ?_;refine fr 3 ?_;refine Ds [.obj b1 107 (.rep (.arr 3 (.arr 5 (.int .i64))) a0),.obj x 210 (.eq (.func (.yield l) #[] #[])),.obj u 102 (.at bC a3),.obj c 211 (.eq (.func (.func 149) #[] #[(Pv u),(Pv x),(Pv c)]))] rfl rfl rfl rfl rfl rfl (wh [.tmp 34] rfl rfl rfl (hY z0 s0 a0 r5 Ro)) ⟨rfl,rfl,trivial⟩ fun z6=>?_;refine pf ?_;refine aq (nl ?_);exact gw (z6,(r5.2,r5.1)) h (aV [.obj b1 107 (.rep (.arr 3 (.arr 5 (.int .i64))) a0),.obj x 210 (.eq (.func (.yield l) #[] #[])),.obj u 102 (.at bC a3),.obj c 211 (.eq (.func (.func 149) #[] #[(Pv u),(Pv x),(Pv c)]))] (E z6 r5.1) [2,1,3] ⟨rfl,trivial⟩ rfl)
   ·refine rx ?_;cases h;exact ii z3 [_] ⟨rfl,trivial⟩ rfl
  ·refine sk (ah (sr (fr 3 ?_)));refine lo AM ?_;refine fr 2 ?_;refine lo cI ?_;refine mq ?_;obtain⟨x7,Rl,h⟩:=aa h;refine jb (bi rfl Rl) ?_;refine mq ?_;obtain⟨r8,Rn,h⟩:=aa h;refine fr 1 ?_;refine fr 3 ?_;refine fr 3 ?_;refine fr 3 ?_;refine oh [.obj b1 107 (.rep (.arr 3 (.arr 5 (.int .i64))) a0)] rfl rfl rfl (nJ (fs:=[]) (cs:=[(Pv u),(Pv x),(Pv c)]) (ags:=[.rep (.arr 3 (.arr 5 (.int .i64))) a0,I x7,.eq (.int .u8 a2)]) [.tmp 38,.tmp 40,.tmp 41] rfl rfl Gh rfl (ih a0 x7 a2 z0 s0 r8 Rn)) ⟨rfl,rfl,rfl,rfl,trivial⟩ fun z9=>?_;refine ja (eK rfl) ?_;refine nt (cw h (fun h=>?_) (fun h=>?_))
   ·refine sr (cq (nt (rx ?_)));refine bz (aV (Γ':=[(9,_)]) [.obj b1 107 (.rep (.arr 3 (.arr 5 (.int .i64))) a0),.obj u 102 (.at bC a3),.obj x 210 (.eq (.func (.yield l) #[] #[])),.obj c 211 (.eq (.func (.func 149) #[] #[(Pv u),(Pv x),(Pv c)]))] (E z9 r8.2) [1,2,3] ⟨rfl,trivial⟩ rfl) ?_;cases h;exact ii z9 [_] ⟨rfl,trivial⟩ rfl
   ·refine sk (sr (lo cI ?_));refine mq ?_;obtain⟨F,Q9,h⟩:=aa h;refine jb (ap [.tmp 44,.tmp 45] rfl rfl Be rfl (fB k a0 a1 F Q9)) ?_;refine aq (nt ?_);refine dE (Z:=Z) (α:=σ) (fun qt QW=>[]) (fun qt QW=>[.obj u 102 (.at bC a3),.obj x 210 (.eq (.func (.yield l) #[] #[])),.obj c 211 (.eq (.func (.func 149) #[] #[(Pv u),(Pv x),(Pv c)]))]++E qt QW) (fun e=>e=r) h (fun e h=>Option.some.inj h) (fun K hR h=>?_) (fun qt QW h=>?_)
    ·refine sr (fr 1 ?_);refine lo qi ?_;refine ja (dc rfl) ?_;refine ja (aI 3 true rfl jl rfl) ?_;refine ja (aI 1 false rfl eO rfl) ?_;refine ja (ao (t:=(.slice cD)) rfl lp rfl) ?_;refine ol s4 ?_;refine dX rfl ?_;refine nt (aj (aL (Z:=Z) (α:=Int×σ) (fun J y=>[(1,I a1),(2,.eq (.int .u8 a2)),(3,Pt u),(5,Pt c),(6,Pt b1),(10,Ri F),(51,Rs cD a3.1.2.1),(52,I (a3.1.2.1.length:Int)),(53,I y.1)]) (fun J y=>[.obj u 102 (.at bC a3),.obj c 211 (.eq (.func (.func 149) #[] #[(Pv u),(Pv x),(Pv c)])),.obj x 210 (.eq (.func (.yield l) #[] #[])),.obj b1 107 (.rep (.arr 3 (.arr 5 (.int .i64))) a0)]++E J y.2) (dp k a0 a1 a2 a3 (cF k Y a3 m0) F) k z9 (0,r8.2) (fun _=>rfl) h (aV [.obj u 102 (.at bC a3),.obj b1 107 (.rep (.arr 3 (.arr 5 (.int .i64))) a0),.obj x 210 (.eq (.func (.yield l) #[] #[])),.obj c 211 (.eq (.func (.func 149) #[] #[(Pv u),(Pv x),(Pv c)]))] (E z9 r8.2) [0,3,2,1] ⟨rfl,rfl,rfl,rfl,rfl,rfl,rfl,rfl,rfl,trivial⟩ rfl) (fun n J y h=>?_)));unfold dp at h;refine sr (jb (bG rfl) ?_);refine nt (ah (ci h (fun h=>?_) (fun h=>?_)))
     ·refine sk (dE (Z:=Z) (α:=σ) (fun X mc=>[(1,I a1),(2,.eq (.int .u8 a2)),(3,Pt u),(5,Pt c),(6,Pt b1),(10,Ri F),(51,Rs cD a3.1.2.1),(52,I (a3.1.2.1.length:Int)),(53,I y.1)]) (fun X mc=>[.obj u 102 (.at bC a3),.obj c 211 (.eq (.func (.func 149) #[] #[(Pv u),(Pv x),(Pv c)])),.obj x 210 (.eq (.func (.yield l) #[] #[])),.obj b1 107 (.rep (.arr 3 (.arr 5 (.int .i64))) a0)]++E X mc) (fun e=>e=r) h (fun e h=>hR e h) (fun K hR h=>?_) (fun X mc h=>?_))
      ·refine aj (sr (mq ?_));obtain⟨QZ,Q4,h⟩:=aa h;refine jb (aN (t:=cD) rfl s4 nn Q4) ?_;refine ja (ao (t:=cD) rfl nn rfl) ?_;refine aH rfl rfl rfl (bJ rfl vR IP) trivial fun Rb=>?_;refine aq ?_;refine be rfl rfl (a8 rfl nn rfl rfl rfl) ⟨rfl,rfl,trivial⟩ ?_;refine nt (ah (aX (Z:=Z) (α:=Bool×σ) (fun U O=>[(1,I a1),(2,.eq (.int .u8 a2)),(3,Pt u),(5,Pt c),(6,Pt b1),(10,Ri F),(11,I y.1),(51,Rs cD a3.1.2.1),(52,I (a3.1.2.1.length:Int)),(53,I y.1),(80,.eq (.bool O.1))]) (fun U O=>[.obj u 102 (.at bC a3),.obj c 211 (.eq (.func (.func 149) #[] #[(Pv u),(Pv x),(Pv c)])),.obj x 210 (.eq (.func (.yield l) #[] #[])),.obj b1 107 (.rep (.arr 3 (.arr 5 (.int .i64))) a0)]++E U O.2) h (fun K h=>?_) (fun U O h=>?_)))
       ·refine cu ?_;refine dm ?_;refine dm ?_;obtain⟨Rk,Q8,h⟩:=aa h;refine db (ap [.tmp 58,.tmp 59] rfl rfl Ix rfl (gQ k a2 y.1 Rk Q8)) ?_;refine s8 rfl rfl rfl (aU rfl) ⟨rfl,trivial⟩ (fun hb=>?_) (fun hb=>?_)
        ·replace h:=cC (BJ hb) h;iterate 17 refine dg ?_
         refine df fe ?_;refine gn ?_;refine pt (nl ?_);exact gw (J,(true,y.2)) h (aV [.obj Rb 27 (.rep cD QZ),.obj u 102 (.at bC a3),.obj c 211 (.eq (.func (.func 149) #[] #[(Pv u),(Pv x),(Pv c)])),.obj x 210 (.eq (.func (.yield l) #[] #[])),.obj b1 107 (.rep (.arr 3 (.arr 5 (.int .i64))) a0)] (E J y.2) [1,2,3,4] ⟨rfl,rfl,rfl,rfl,rfl,rfl,rfl,rfl,rfl,rfl,rfl,trivial⟩ rfl)
        ·replace h:=bL (BK hb) h;refine lM 1 rfl rfl rfl rfl rfl rfl (an rfl qi mX rfl) ⟨rfl,rfl,trivial⟩ ?_;refine bX rfl rfl rfl rfl rfl (dc rfl) ⟨rfl,rfl,trivial⟩ ?_;refine bX rfl rfl rfl rfl rfl (aI 3 true rfl jl rfl) ⟨rfl,rfl,trivial⟩ ?_;refine bX rfl rfl rfl rfl rfl (ao (t:=aD) rfl gW rfl) ⟨rfl,rfl,trivial⟩ ?_;refine bX rfl rfl rfl rfl rfl (aU rfl) ⟨rfl,rfl,trivial⟩ ?_;obtain⟨Rj,Q7,h⟩:=aa h;refine bX rfl rfl rfl rfl rfl (ap [.tmp 65,.tmp 66] rfl rfl Jw rfl (sn k a3.1 F Rj Q7)) ⟨rfl,rfl,rfl,trivial⟩ ?_;refine bX rfl rfl rfl rfl rfl (aw rfl nW) ⟨rfl,rfl,trivial⟩ ?_;refine lM 0 rfl rfl rfl rfl rfl rfl (an rfl cH mX rfl) ⟨rfl,rfl,trivial⟩ ?_;obtain⟨Rh,Q3,h⟩:=aa h;refine bX rfl rfl rfl rfl rfl (bi rfl Q3) ⟨rfl,rfl,rfl,trivial⟩ ?_;refine lM 1 rfl rfl rfl rfl rfl rfl (an rfl qi mX rfl) ⟨rfl,rfl,trivial⟩ ?_;refine bX rfl rfl rfl rfl rfl (dc rfl) ⟨rfl,rfl,trivial⟩ ?_;refine bX rfl rfl rfl rfl rfl (aI 3 true rfl jl rfl) ⟨rfl,rfl,trivial⟩ ?_;refine bX rfl rfl rfl rfl rfl (aI 1 false rfl fq rfl) ⟨rfl,rfl,trivial⟩ ?_;refine bX rfl rfl rfl rfl rfl (ao (t:=(.slice (.int .i64))) rfl cp rfl) ⟨rfl,rfl,trivial⟩ ?_;refine bX rfl rfl rfl rfl rfl (aU rfl) ⟨rfl,rfl,trivial⟩ ?_;obtain⟨Rf,Q2,h⟩:=aa h;refine bX rfl rfl rfl rfl rfl (aN (t:=(.int .i64)) rfl ep cH Q2) ⟨rfl,rfl,rfl,trivial⟩ ?_;refine bX rfl rfl rfl rfl rfl (ao (t:=(.int .i64)) rfl cH rfl) ⟨rfl,rfl,trivial⟩ ?_;refine df fe ?_;refine gb (ji rfl) ?_;refine pf (nl ?_);exact gw (J,(decide (Rf < Rh),y.2)) h (aV [.obj Rb 27 (.rep cD QZ),.obj u 102 (.at bC a3),.obj c 211 (.eq (.func (.func 149) #[] #[(Pv u),(Pv x),(Pv c)])),.obj x 210 (.eq (.func (.yield l) #[] #[])),.obj b1 107 (.rep (.arr 3 (.arr 5 (.int .i64))) a0)] (E J y.2) [1,2,3,4] ⟨rfl,rfl,rfl,rfl,rfl,rfl,rfl,rfl,rfl,rfl,rfl,trivial⟩ rfl)
       ·refine cv h (fun h=>?_) (fun h=>?_)
        ·refine dt (aP (bQ (ae ?_)));exact gw (U,O.2) h (aV [.obj u 102 (.at bC a3),.obj c 211 (.eq (.func (.func 149) #[] #[(Pv u),(Pv x),(Pv c)])),.obj x 210 (.eq (.func (.yield l) #[] #[])),.obj b1 107 (.rep (.arr 3 (.arr 5 (.int .i64))) a0)] (E U O.2) [0,1,2,3] ⟨rfl,rfl,rfl,rfl,rfl,rfl,rfl,rfl,rfl,trivial⟩ rfl)
        ·refine sk (sr (fr 3 ?_));refine lo cI ?_;refine aH rfl rfl rfl (bJ rfl l6 mF) trivial fun QY=>?_;refine be rfl rfl (a8 rfl cI rfl rfl rfl) ⟨rfl,rfl,trivial⟩ ?_;refine nt (sr ?_);iterate 2 refine mq ?_
         refine ol ep ?_;refine mq ?_;obtain⟨Rr,QV,h⟩:=aa h;refine jb (g9 rfl IV xH (aC QV).1 (aC QV).2) ?_;obtain⟨ac,Q1,h⟩:=aa h;obtain⟨Rq,Q,h⟩:=aa h;refine jb (g9 rfl IW cH (aC Q).1 (aC Q).2) ?_;refine be rfl rfl (mT (t:=(.int .i64)) (off:=0) (i:=a1) (j:=(F.length:Int)) (N:=3) (L:=5) rfl cH .int rfl rfl rfl rfl Q1 (aC Q).1 (aC Q).2 rfl) ⟨rfl,rfl,trivial⟩ ?_;refine nt (ah (cu ?_));refine ea 3 (an rfl AM mX rfl) ?_;refine ea 0 (an rfl cI (xe) rfl) ?_;refine dm ?_;refine dm ?_;refine dm ?_;obtain⟨QX,Q6,h⟩:=aa h;refine db (ap [.tmp 91,.tmp 92] rfl rfl Bd rfl (iC k a2 y.1 QX Q6)) ?_;refine df fe ?_;obtain⟨se,Q5,h⟩:=aa h;refine fr 3 ?_;refine fr 4 ?_;refine fr 4 ?_;refine fr 4 ?_;refine fr 4 ?_;refine oh [.obj QY 107 (.rep (.arr 3 (.arr 5 (.int .i64))) (List.set a0 (Int.toNat a1) (List.set ac (Int.toNat (F.length:Int)) y.1))),.obj b1 107 (.rep (.arr 3 (.arr 5 (.int .i64))) a0)] rfl rfl rfl (nJ (fs:=[]) (cs:=[(Pv u),(Pv x),(Pv c)]) (ags:=[.rep (.arr 3 (.arr 5 (.int .i64))) (List.set a0 (Int.toNat a1) (List.set ac (Int.toNat (F.length:Int)) y.1)),I a1,.eq (.int .u8 QX)]) [.tmp 89,.tmp 90,.tmp 93] rfl rfl Gh rfl (ih (List.set a0 (Int.toNat a1) (List.set ac (Int.toNat (F.length:Int)) y.1)) a1 QX U O.2 se Q5)) ⟨rfl,rfl,rfl,rfl,trivial⟩ fun pp=>?_;refine ja (eK rfl) ?_;refine nt (cw h (fun h=>?_) (fun h=>?_))
         ·refine sr (cq (nt (aA (br (aZ (aM ?_))))));refine bz (aV (Γ':=[(9,_)]) [.obj QY 107 (.rep (.arr 3 (.arr 5 (.int .i64))) (List.set a0 (Int.toNat a1) (List.set ac (Int.toNat (F.length:Int)) y.1))),.obj b1 107 (.rep (.arr 3 (.arr 5 (.int .i64))) a0),.obj u 102 (.at bC a3),.obj x 210 (.eq (.func (.yield l) #[] #[])),.obj c 211 (.eq (.func (.func 149) #[] #[(Pv u),(Pv x),(Pv c)]))] (E pp se.2) [2,3,4] ⟨rfl,trivial⟩ rfl) ?_;obtain rfl:=hR _ h;exact ii pp [_] ⟨rfl,trivial⟩ rfl
         ·refine aS (bn ?_);exact gw (pp,se.2) h (aV [.obj QY 107 (.rep (.arr 3 (.arr 5 (.int .i64))) (List.set a0 (Int.toNat a1) (List.set ac (Int.toNat (F.length:Int)) y.1))),.obj b1 107 (.rep (.arr 3 (.arr 5 (.int .i64))) a0),.obj u 102 (.at bC a3),.obj x 210 (.eq (.func (.yield l) #[] #[])),.obj c 211 (.eq (.func (.func 149) #[] #[(Pv u),(Pv x),(Pv c)]))] (E pp se.2) [2,4,3,1] ⟨rfl,rfl,rfl,rfl,rfl,rfl,rfl,rfl,rfl,trivial⟩ rfl)
      ·refine ab ?_;obtain⟨Re,Q0,h⟩:=aa h;refine jb (bi rfl Q0) ?_;refine mq (nl ?_);exact gw (X,(Re,mc)) h (aV [.obj u 102 (.at bC a3),.obj c 211 (.eq (.func (.func 149) #[] #[(Pv u),(Pv x),(Pv c)])),.obj x 210 (.eq (.func (.yield l) #[] #[])),.obj b1 107 (.rep (.arr 3 (.arr 5 (.int .i64))) a0)] (E X mc) [0,1,2,3] ⟨rfl,rfl,rfl,rfl,rfl,rfl,rfl,rfl,rfl,trivial⟩ rfl)
     ·refine xa ?_;exact gw (J,y.2) h (aV [.obj u 102 (.at bC a3),.obj c 211 (.eq (.func (.func 149) #[] #[(Pv u),(Pv x),(Pv c)])),.obj x 210 (.eq (.func (.yield l) #[] #[])),.obj b1 107 (.rep (.arr 3 (.arr 5 (.int .i64))) a0)] (E J y.2) [0,2,1] trivial rfl)
    ·refine sr (cq (nt (aA ?_)));cases h;exact ii qt [_] ⟨rfl,trivial⟩ rfl
def ik{σ:Type}(k:Nat)(Y:σ→(List (List Int))→Option (σ×Bool))(a1:cK)(s0:σ):Option (σ):=
 (eS k ([]:(List (List Int)))).bind fun r2=>
 (cF k Y a1 k r2 0 0 s0).bind fun r5=>
 some r5.2
theorem mK{M:Md Tryz.prog}{σ Z:Type}(E:Z→σ→List D)(l:Nat)(Y:σ→(List (List Int))→Option (σ×Bool))(k:Nat)(a1:cK)(c:Nat)(hY:∀z s p r,Y s p=some r→YT M l [.rep (.arr 3 (.arr 5 (.int .i64))) p] (E z s) (fun z':Z=>(.eq (.bool r.2),E z' r.1))):
 ∀(z0:Z) (s0:σ) (r:σ),ik k Y a1 s0=some r→cS M 148 [.eq (.func (.yield l) #[] #[]),Pt c] ([.obj c 102 (.at bC a1)]++E z0 s0) (fun z:Z=>(bp [],[.obj c 102 (.at bC a1)]++E z r)):=by
 intro z0 s0 r h
 unfold ik at h
 replace h:=a9 h
 refine cS.of 10 Tryz.func148 rfl Tryz.ntmps148 rfl fun S w0=>?_
 refine sr ?_
 refine bx fun b1=>?_
 refine nt ?_
 refine sr ?_
 obtain⟨r2,j,h⟩:=aa h
 have u:=eu k ([]:(List (List Int))) r2 j
 refine ja (dz (N:=[(.const (.slice none 0 0),.eq (.slice none 0 0))]) (ap [.const (.slice none 0 0)] rfl rfl C7 rfl u) fun _ _ _ hn=>⟨(jD (t:=(.slice (.slice (.int .i64)))) (x:=([]:(List (List Int)))) .nil rfl rfl hn.1),trivial⟩) ?_
 refine aH rfl rfl rfl (bJ rfl l6 mF) trivial fun b3=>?_
 refine be rfl rfl (a8 rfl cI rfl rfl rfl) ⟨rfl,rfl,trivial⟩ ?_
 refine nt ?_
 refine sr ?_
 refine aH rfl rfl rfl (bJ rfl LZ OJ) trivial fun b4=>?_
 refine nt ?_
 refine sr ?_
 refine jc (rG [] [.tmp 1,.tmp 2,.tmp 4] [] [(Pv c),(Pv b1),(Pv b4)] rfl rfl rfl) ?_
 refine be rfl rfl (a8 rfl AM rfl rfl rfl) ⟨rfl,rfl,trivial⟩ ?_
 refine nt ?_
 refine ab ?_
 refine lo AM ?_
 refine fr 1 ?_
 refine lo cI ?_
 obtain⟨r5,e,h⟩:=aa h
 have n:=lS E l Y k a1 c b1 b4 hY k r2 0 0 z0 s0 r5 e
 refine fr 1 ?_
 refine fr 2 ?_
 refine fr 3 ?_
 refine fr 3 ?_
 refine oh [.obj b3 107 (.rep (.arr 3 (.arr 5 (.int .i64))) r2)] rfl rfl rfl (nJ (fs:=[]) (cs:=[(Pv c),(Pv b1),(Pv b4)]) (ags:=[.rep (.arr 3 (.arr 5 (.int .i64))) r2,I 0,.eq (.int .u8 0)]) [.tmp 8,.const (.int .i64 (0)),.const (.int .u8 (0))] rfl rfl Gh rfl n) ⟨rfl,rfl,rfl,rfl,trivial⟩ fun z6=>?_
 refine ar ?_
 refine ix ?_
 refine bz (aV (Γ':=[]) [.obj b3 107 (.rep (.arr 3 (.arr 5 (.int .i64))) r2),.obj c 102 (.at bC a1),.obj b1 210 (.eq (.func (.yield l) #[] #[])),.obj b4 211 (.eq (.func (.func 149) #[] #[(Pv c),(Pv b1),(Pv b4)]))] (E z6 r5.2) [1] trivial rfl) ?_
 cases h
 exact ii z6 [] trivial rfl
def iJ(k:Nat)(a1:cK):Option (List (List (List Int))):=
 (ik k (su (fun(y2:(List (List (List Int)))) (p4:(List (List Int)))=>
  (dh (bO (List.length y2+List.length [p4]))).bind fun _=>
  some (y2++[p4],true))) a1 (([]:(List (List (List Int)))),false)).bind fun r5=>
 if r5.2=true then(none) else(some r5.1)
theorem nq(k:Nat)(a1:cK)(c:Nat)(r:(List (List (List Int))))(h:iJ k a1=some r):
 bW Tryz.prog 147 [.eq (.slice none 0 0),.eq (.func (.func 148) #[] #[(Pv c)])] [.obj c 102 (.at bC a1)] (fun z:Value=>(bp [.eq z],[.sl z 107 (.arr 3 (.arr 5 (.int .i64))) r,.obj c 102 (.at bC a1)])):=by
 unfold iJ at h
 replace h:=a9 h
 refine xb 13 Tryz.func147 rfl Tryz.ntmps147 rfl fun {M} S w0=>?_
 refine sr ?_
 refine bx fun b1=>?_
 refine cq ?_
 refine nt ?_
 refine ah ?_
 refine sr ?_
 refine mq ?_
 refine nt ?_
 refine aj ?_
 refine fN (SE.nil 107 (.arr 3 (.arr 5 (.int .i64)))) ?_
 refine iy 1 rfl ?_
 refine iy 2 rfl ?_
 obtain⟨r5,j,h⟩:=aa h
 refine m9 (Δ:=[.obj c 102 (.at bC a1),.obj b1 152 (.eq (.slice none 0 0)),.sl (.slice none 0 0) 107 (.arr 3 (.arr 5 (.int .i64))) ([]:(List (List (List Int))))]) (F:=[]) (X:=Value) (J:=fun _=>H7 r5.2) (E:=fun z3=>[.obj c 102 (.at bC a1),.obj b1 152 (.eq z3),.sl z3 107 (.arr 3 (.arr 5 (.int .i64))) r5.1]) (r0:=fun _=>.tup .any) rfl rfl Og (fun rec hp ha hb hs hpe hN hv l=>?_) (fun dl z3=>pw (fun hj=>?_) (fun hj=>?_))
 ·
  rcases rec with⟨st0,pe0,fn0,tm0,ps0,as0,bd0,df0⟩;dsimp only at hp ha hb hs hpe hN hv;subst hp hs hpe;have vN:uh tm0 [(2,Pt b1)]:=⟨congrArg A.eq (hv 2 _ rfl).symm,trivial⟩;refine cS.pick (M:=M) [1,0,2,3] [1,0,2,3] (mK (fun(z3:Value) (q:(List (List (List Int)))×Bool)=>[.raw l (.loop (jf ⟨.ready,none,fn0,tm0, #[7],as0,bd0,df0⟩ (H7 q.2))),.obj b1 152 (.eq z3),.sl z3 107 (.arr 3 (.arr 5 (.int .i64))) q.1]) l (su (fun(y2:(List (List (List Int)))) (p4:(List (List Int)))=>
  (dh (bO (List.length y2+List.length [p4]))).bind fun _=>
  some (y2++[p4],true))) k a1 c (fun z3 q p r' h=>?_) (.slice none 0 0) (([]:(List (List (List Int)))),false) r5 j) rfl (fun _=>rfl) (fun _=>rfl)
  obtain⟨rq,hq,h2,rfl⟩:=px h;obtain⟨y2,b5⟩:=q;obtain rfl:b5=false:=hq;replace h:=a9 h2;obtain⟨p4,hpv⟩:∃x,x=p:=⟨_,rfl⟩;subst hpv;refine YT.pick (R':=(fun z3:Value=>(.eq (.bool rq.2),[.raw l (.loop (jf ⟨.ready,none,fn0,tm0, #[7],as0,bd0,df0⟩ (H7 (!rq.2)))),.obj b1 152 (.eq z3),.sl z3 107 (.arr 3 (.arr 5 (.int .i64))) rq.1]))) [0,1,2] [0,1,2] (GF ha hb (N:=13) (Γ:=[(2,Pt b1)]) rfl hN (by decide) vN (fun S w=>?_)) rfl (fun _=>rfl) (fun _=>rfl);refine ab (aH rfl rfl rfl (bJ rfl l6 mF) trivial fun b6=>?_);refine be rfl rfl (a8 rfl cI rfl rfl rfl) ⟨rfl,rfl,trivial⟩ ?_;refine nl (di 1 rfl ?_);refine ut rfl rfl ?_;refine aj (ab (fr 2 ?_));refine lo Ec ?_;refine fr 2 ?_;refine lo cI ?_;refine ja (bB (t:=(.arr 3 (.arr 5 (.int .i64)))) [(.tmp 9,_)] [p4] rfl rfl Ji (.cons rfl .rep .nil) rfl rfl) ?_;obtain⟨u7,e,h⟩:=aa h;refine fr 3 ?_;refine dI rfl rfl rfl (bY rfl rfl Ji (aC e)) ⟨rfl,rfl,trivial⟩ fun v8=>?_;refine uq fun o9=>?_;refine fr 2 ?_;refine be rfl rfl (a8 rfl Ec o9 rfl rfl) ⟨rfl,rfl,trivial⟩ ?_;refine ar (aK (di 1 rfl ?_));refine di 1 rfl ?_;refine di 3 rfl ?_;cases h;exact si v8 2 rfl
 ·
  replace h:=bL (BK hj) h;refine aK (tn (sr (fr 2 ?_)));refine lo Ec ?_;refine aq (nt (aA ?_));refine di 1 rfl ?_;refine wY ?_;refine bz (SE.fin (Γ':=[(4,_)]) [2,1,0] ⟨rfl,trivial⟩ rfl) ?_;cases h;exact aF z3 [.eq z3] 2 ⟨rfl,trivial⟩ rfl
 ·
  replace h:=cC (BJ hj) h;cases h
def ju(k:Nat)(a0:cK):Option (List (List (List Int))):=
 (iJ k a0).bind fun r1=>
 some r1
theorem oY(k:Nat)(a0:cK)(c:Nat)(r:(List (List (List Int))))(h:ju k a0=some r):
 bW Tryz.prog 115 [.eq (.func (.func 148) #[] #[(Pv c)])] [.obj c 102 (.at bC a0)] (fun _:Unit=>(bp [.rep (.slice (.arr 3 (.arr 5 (.int .i64)))) r],[.obj c 102 (.at bC a0)])):=by
 unfold ju at h
 replace h:=a9 h
 refine bW.of 5 Tryz.func115 rfl Tryz.ntmps115 rfl fun S w0=>?_
 refine sr ?_
 refine cq ?_
 refine nt ?_
 refine sr ?_
 refine mq ?_
 obtain⟨r1,e,h⟩:=aa h
 have j:=nq k a0 c r1 e
 refine bH (Δ:=[_]) (F:=_) (fun _ _ _=>av rfl _) rfl rfl (ap [.const (.slice none 0 0),.tmp 3] rfl rfl Oh rfl j) ⟨rfl,rfl,trivial⟩ fun z2=>?_
 refine aq ?_
 refine nt ?_
 refine aA ?_
 refine bz (gr [2,4] ⟨rfl,rfl,trivial⟩) ?_
 cases h
 exact aF () [_] 1 ⟨rfl,trivial⟩ rfl
theorem nB(a0:cK):bW Tryz.prog 116 [.at bC a0] [] (fun z:Nat=>(bp [.eq (.func (.func 148) #[] #[(Pv z)])],[.obj z 102 (.at bC a0)])):=by
 refine bW.of 4 Tryz.func116 rfl Tryz.ntmps116 rfl fun S w0=>?_;refine sr (aH rfl rfl rfl (nj rfl trivial) ⟨rfl,trivial⟩ fun z=>?_);refine cq (nt (sr ?_));refine ja (rG [] [.tmp 1] [] [(Pv z)] rfl rfl rfl) ?_;refine aq (nt (aA ?_));exact aF z [_] 1 ⟨rfl,trivial⟩ rfl
def jT(k:Nat)(a0:(List Int)):Option bj:=
 ((if(a0.length:Int)=0 then(some [3,2]) else(some a0)):Option ((List Int))).bind fun x2=>
 some (3,[(1,[0,2]),(1,[1]),(2,[2]),(1,[0,1])],x2)
theorem iQ(k:Nat)(a0:(List Int))(r:bj)(h:jT k a0=some r):
 bW Tryz.prog 78 [Ri a0] [] (fun _:Unit=>(bp [.rep aD r],[])):=by
 unfold jT at h
 replace h:=a9 h
 refine bW.of 18 Tryz.func78 rfl Tryz.ntmps78 rfl fun S w0=>?_
 refine sr ?_
 refine aH rfl rfl rfl (bJ rfl xi Dj) trivial fun b1=>?_
 refine nt ?_
 refine aX (Z:=Unit) (α:=(List Int)) (fun z3 x2=>[(0,Ri x2),(2,Pt b1)]) (fun z3 x2=>[.obj b1 25 (.agg (.pair (I 0) (.pair (.eq (.slice none 0 0)) (.eq (.slice none 0 0)))))]) h (fun K h=>?_) (fun z3 x2 h=>?_)
 ·
  refine sr (mq ?_);refine ol ep ?_;refine jb (dS rfl) ?_;refine nt (ci h (fun h=>?_) (fun h=>?_))
  ·refine ab (jb (bB (t:=(.int .i64)) [(.const (.int .i64 (3)),_),(.const (.int .i64 (2)),_)] [3,2] rfl rfl eB (.cons rfl .int (.cons rfl .int .nil)) rfl rfl) ?_);refine aq (nl ?_);exact jz ((),[3,2]) h [0]
  ·refine aS (ae ?_);exact jz ((),a0) h [0]
 ·
  refine sr (jb (bB (t:=(.int .i64)) [(.const (.int .i64 (0)),_),(.const (.int .i64 (2)),_)] [0,2] rfl rfl eB (.cons rfl .int (.cons rfl .int .nil)) rfl rfl) ?_);refine jb (de [(0,.const (.int .i64 (1)),_),(1,.tmp 7,_)] rfl Et vR yU (jd ⟨rfl,rfl,trivial⟩) rfl) ?_;refine ja (bB (t:=(.int .i64)) [(.const (.int .i64 (1)),_)] [1] rfl rfl eB (.cons rfl .int .nil) rfl rfl) ?_;refine jb (de [(0,.const (.int .i64 (1)),_),(1,.tmp 9,_)] rfl Et vR yU (jd ⟨rfl,rfl,trivial⟩) rfl) ?_;refine ja (bB (t:=(.int .i64)) [(.const (.int .i64 (2)),_)] [2] rfl rfl eB (.cons rfl .int .nil) rfl rfl) ?_;refine jb (de [(0,.const (.int .i64 (2)),_),(1,.tmp 11,_)] rfl Et vR yU (jd ⟨rfl,rfl,trivial⟩) rfl) ?_;refine jb (bB (t:=(.int .i64)) [(.const (.int .i64 (0)),_),(.const (.int .i64 (1)),_)] [0,1] rfl rfl eB (.cons rfl .int (.cons rfl .int .nil)) rfl rfl) ?_;refine jb (de [(0,.const (.int .i64 (1)),_),(1,.tmp 13,_)] rfl Et vR yU (jd ⟨rfl,rfl,trivial⟩) rfl) ?_;refine aB rfl (bB (t:=cD) [(.tmp 8,_),(.tmp 10,_),(.tmp 12,_),(.tmp 14,_)] [(1,[0,2]),(1,[1]),(2,[2]),(1,[0,1])] rfl rfl JV (.cons trivial (.agg (.pair .int .rep)) (.cons trivial (.agg (.pair .int .rep)) (.cons trivial (.agg (.pair .int .rep)) (.cons trivial (.agg (.pair .int .rep)) .nil)))) rfl rfl) ⟨rfl,rfl,rfl,rfl,trivial⟩ ?_;refine mq ?_;refine jc (de [(0,.const (.int .i64 (3)),_),(1,.tmp 15,_),(2,.tmp 16,_)] rfl MP xi JF (jd ⟨rfl,rfl,rfl,trivial⟩) rfl) ?_;refine be rfl rfl (a8 rfl gW trivial rfl rfl) ⟨rfl,rfl,trivial⟩ ?_;refine nt (aA (bz (oR (a:=.agg (.pair (I 3) (.pair (Rs cD [(1,[0,2]),(1,[1]),(2,[2]),(1,[0,1])]) (Ri x2)))) (a':=.rep aD (3,[(1,[0,2]),(1,[1]),(2,[2]),(1,[0,1])],x2)) (xd (.agg (.pair .int (.pair .rep .rep))))) ?_));cases h;exact aF () [.rep aD (3,[(1,[0,2]),(1,[1]),(2,[2]),(1,[0,1])],x2)] 0 ⟨⟨_,_,_,_,_,rfl,(.head _),gW,(xe),rfl⟩,trivial⟩ rfl
def vr(k:Nat):Option (List (List Int)):=
 some [[1,0,3],[2]]
theorem qG(k:Nat)(r:(List (List Int)))(h:vr k=some r):
 bW Tryz.prog 79 [] [] (fun _:Unit=>(bp [.rep (.slice (.slice (.int .i64))) r],[])):=by
 unfold vr at h
 replace h:=a9 h
 refine bW.of 4 Tryz.func79 rfl Tryz.ntmps79 rfl fun S w0=>?_
 refine sr ?_
 refine cq ?_
 refine nt ?_
 refine sr ?_
 refine jc (bB (t:=(.int .i64)) [(.const (.int .i64 (1)),_),(.const (.int .i64 (0)),_),(.const (.int .i64 (3)),_)] [1,0,3] rfl rfl eB (.cons rfl .int (.cons rfl .int (.cons rfl .int .nil))) rfl rfl) ?_
 refine ja (bB (t:=(.int .i64)) [(.const (.int .i64 (2)),_)] [2] rfl rfl eB (.cons rfl .int .nil) rfl rfl) ?_
 refine jb (bB (t:=(.slice (.int .i64))) [(.tmp 1,_),(.tmp 2,_)] [[1,0,3],[2]] rfl rfl qo (.cons rfl .rep (.cons rfl .rep .nil)) rfl rfl) ?_
 refine aq ?_
 refine nt ?_
 refine aA ?_
 cases h
 exact ra
def Fz(k:Nat):Option (List (List Int)):=
 some [[0,2],[3,1]]
theorem Fv(k:Nat)(r:(List (List Int)))(h:Fz k=some r):
 bW Tryz.prog 80 [] [] (fun _:Unit=>(bp [.rep (.slice (.slice (.int .i64))) r],[])):=by
 unfold Fz at h
 replace h:=a9 h
 refine bW.of 4 Tryz.func80 rfl Tryz.ntmps80 rfl fun S w0=>?_
 refine sr ?_
 refine cq ?_
 refine nt ?_
 refine sr ?_
 refine jb (bB (t:=(.int .i64)) [(.const (.int .i64 (0)),_),(.const (.int .i64 (2)),_)] [0,2] rfl rfl eB (.cons rfl .int (.cons rfl .int .nil)) rfl rfl) ?_
 refine jb (bB (t:=(.int .i64)) [(.const (.int .i64 (3)),_),(.const (.int .i64 (1)),_)] [3,1] rfl rfl eB (.cons rfl .int (.cons rfl .int .nil)) rfl rfl) ?_
 refine jb (bB (t:=(.slice (.int .i64))) [(.tmp 1,_),(.tmp 2,_)] [[0,2],[3,1]] rfl rfl qo (.cons rfl .rep (.cons rfl .rep .nil)) rfl rfl) ?_
 refine aq ?_
 refine nt ?_
 refine aA ?_
 cases h
 exact ra
def lI(k:Nat)(a0:(List Int)):Option bK:=
 some (a0,0,1)
theorem t5(k:Nat)(a0:(List Int))(r:bK)(h:lI k a0=some r):
 bW Tryz.prog 26 [Ri a0] [] (fun z:Nat=>(bp [Pt z],[.obj z 98 (.agg (.pair (Ri r.1) (.pair (I r.2.1) (.eq (.int .u64 r.2.2)))))])):=by
 unfold lI at h
 replace h:=a9 h
 refine bW.of 6 Tryz.func26 rfl Tryz.ntmps26 rfl fun S w0=>?_
 refine sr ?_
 refine cq ?_
 refine nt ?_
 refine sr ?_
 refine mq ?_
 refine jb (de [(0,.tmp 3,_),(2,.const (.int .u64 (1)),_)] rfl PG Po OH (jd ⟨rfl,rfl,trivial⟩) rfl) ?_
 refine aH rfl rfl rfl (nj rfl trivial) ⟨rfl,trivial⟩ fun b1=>?_
 refine aq ?_
 refine nt ?_
 refine aA ?_
 cases h
 exact aF b1 [Pt b1] 1 ⟨rfl,trivial⟩ rfl
def iq(k:Nat)(a0:bK):Option (Int×bK):=
 ((if a0.2.1 < (a0.1.length:Int) then((bb a0.1 a0.2.1).bind fun x3=>
 some (IntKind.u64.wrap ((IntKind.u64.wrap ((IntKind.u64.wrap (a0.2.2 * 6364136223846793005))+1442695040888963407))+(IntKind.u64.wrap ((IntKind.u64.wrap x3) * 2862933555777941757))))) else(some (IntKind.u64.wrap ((IntKind.u64.wrap (a0.2.2 * 6364136223846793005))+1442695040888963407)))):Option (Int)).bind fun x1=>
 (ck (a0.2.1+1)).bind fun x4=>
 some (gJ .u64 (pM .u64 (IntKind.u64.wrap ((pM .u64 x1 (gJ .u64 x1 29)) * 2685821657736338717)) (gJ .u64 (IntKind.u64.wrap ((pM .u64 x1 (gJ .u64 x1 29)) * 2685821657736338717)) 32)) 8,(a0.1,x4,x1))
theorem rR(k:Nat)(a0:bK)(c:Nat)(r:Int×bK)(h:iq k a0=some r):
 bW Tryz.prog 82 [Pt c] [.obj c 98 (.agg (.pair (Ri a0.1) (.pair (I a0.2.1) (.eq (.int .u64 a0.2.2)))))] (fun _:Unit=>(bp [.eq (.int .u64 r.1)],[.obj c 98 (.agg (.pair (Ri r.2.1) (.pair (I r.2.2.1) (.eq (.int .u64 r.2.2.2)))))])):=by
 unfold iq at h
 replace h:=a9 h
 refine bW.of 67 Tryz.func82 rfl Tryz.ntmps82 rfl fun S w0=>?_
 refine sr ?_
 refine cq ?_
 refine nt ?_
 refine sr ?_
 iterate 2 refine mq ?_
 refine ja (aR rfl) ?_
 refine fl rT ?_
 refine lo BP ?_
 refine jb (zT rfl) ?_
 refine jb (zV rfl) ?_
 refine ja (aR rfl) ?_
 refine fl rT ?_
 refine be rfl rfl (a8 rfl BP rfl rfl rfl) ⟨rfl,rfl,trivial⟩ ?_
 refine nt ?_
 refine aX (Z:=Unit) (α:=Int) (fun z2 x1=>[(0,Pt c)]) (fun z2 x1=>[.obj c 98 (.agg (.pair (Ri a0.1) (.pair (I a0.2.1) (.eq (.int .u64 x1)))))]) h (fun K h=>?_) (fun z2 x1 h=>?_)
 ·
  refine ah (cu ?_);refine dm ?_;refine da (aR rfl) ?_;refine da (aw rfl wJ) ?_;refine ea 0 (an rfl cH mX rfl) ?_;refine dm ?_;refine da (aR rfl) ?_;refine da (aw rfl F3) ?_;refine ea 0 (an rfl cp mX rfl) ?_;refine da (mm rfl rfl ep) ?_;refine df fe ?_;refine jb (bG rfl) ?_;refine nt (ci h (fun h=>?_) (fun h=>?_))
  ·refine cu ?_;refine dm ?_;refine dm ?_;refine da (aR rfl) ?_;refine da (aw rfl rT) ?_;refine ea 0 (an rfl BP mX rfl) ?_;refine dm ?_;refine da (aR rfl) ?_;refine da (aw rfl F3) ?_;refine ea 0 (an rfl cp mX rfl) ?_;refine dm ?_;refine da (aR rfl) ?_;refine da (aw rfl wJ) ?_;refine ea 0 (an rfl cH mX rfl) ?_;obtain⟨x3,j,h⟩:=aa h;refine db (aN (t:=(.int .i64)) rfl ep cH j) ?_;refine da (ao (t:=(.int .i64)) rfl cH rfl) ?_;refine da (nI rfl U3 Pe) ?_;refine db (zT rfl) ?_;refine db (zV rfl) ?_;refine df fe ?_;refine ja (aR rfl) ?_;refine fl rT ?_;refine be rfl rfl (a8 rfl BP rfl rfl rfl) ⟨rfl,rfl,trivial⟩ ?_;refine nl ?_;exact jz ((),IntKind.u64.wrap ((IntKind.u64.wrap ((IntKind.u64.wrap (a0.2.2 * 6364136223846793005))+1442695040888963407))+(IntKind.u64.wrap ((IntKind.u64.wrap x3) * 2862933555777941757)))) h [0]
  ·refine aS (ae ?_);exact jz ((),IntKind.u64.wrap ((IntKind.u64.wrap (a0.2.2 * 6364136223846793005))+1442695040888963407)) h [0]
 ·
  refine sr (mq ?_);refine ja (aR rfl) ?_;refine fl wJ ?_;refine lo cH ?_;obtain⟨x4,e,h⟩:=aa h;refine jb (bi rfl e) ?_;refine ja (aR rfl) ?_;refine fl wJ ?_;refine be rfl rfl (a8 rfl cH rfl rfl rfl) ⟨rfl,rfl,trivial⟩ ?_;refine nt (ah (cu ?_));refine dm ?_;refine da (aR rfl) ?_;refine da (aw rfl rT) ?_;refine ea 0 (an rfl BP mX rfl) ?_;refine dm ?_;refine da (aR rfl) ?_;refine da (aw rfl rT) ?_;refine ea 0 (an rfl BP mX rfl) ?_;refine cY rfl rfl rfl (tQ rfl (by decide)) ⟨rfl,rfl,trivial⟩ ?_;refine df fe ?_;refine jb (Jl rfl) ?_;refine aq (nt (sr ?_));refine mq ?_;refine jb (zT rfl) ?_;refine aq (nt (sr ?_));iterate 2 refine mq ?_
  refine aB rfl (tQ rfl (by decide)) ⟨rfl,rfl,trivial⟩ ?_;refine jb (Jl rfl) ?_;refine aB rfl (tQ rfl (by decide)) ⟨rfl,rfl,trivial⟩ ?_;refine aq (nt (aA ?_));cases h;exact aF () [_] 1 ⟨rfl,trivial⟩ rfl
def dr(k:Nat)(a0:bK)(a1:Int):Option (Int×bK):=
 if a1 < 1 then(some (0,(a0.1,a0.2.1,a0.2.2))) else((iq k (a0.1,a0.2.1,a0.2.2)).bind fun r1=>
 (ck (a1+1)).bind fun x2=>
 (dh ((IntKind.u64.wrap x2)≠0)).bind fun _=>
 (ck (Int.tmod r1.1 (IntKind.u64.wrap x2))).bind fun x4=>
 some (x4,(r1.2.1,r1.2.2.1,r1.2.2.2)))
theorem fG(k:Nat)(a0:bK)(c:Nat)(a1:Int)(r:Int×bK)(h:dr k a0 a1=some r):
 bW Tryz.prog 28 [Pt c,I a1] [.obj c 98 (.agg (.pair (Ri a0.1) (.pair (I a0.2.1) (.eq (.int .u64 a0.2.2)))))] (fun _:Unit=>(bp [I r.1],[.obj c 98 (.agg (.pair (Ri r.2.1) (.pair (I r.2.2.1) (.eq (.int .u64 r.2.2.2)))))])):=by
 unfold dr at h
 replace h:=a9 h
 refine bW.of 14 Tryz.func28 rfl Tryz.ntmps28 rfl fun S w0=>?_
 refine sr ?_
 refine cq ?_
 refine nt ?_
 refine ah ?_
 refine sr ?_
 refine mq ?_
 refine jb (bG rfl) ?_
 refine nt ?_
 refine ci h (fun h=>?_) (fun h=>?_)
 ·
  refine sr (cq (nt (rx ?_)));cases h;exact aF () [_] 1 ⟨rfl,trivial⟩ rfl
 ·
  refine sk (sr (mq ?_));obtain⟨r1,n,h⟩:=aa h;refine ka (ap [.tmp 7] rfl rfl P8 rfl (rR k (a0.1,a0.2.1,a0.2.2) c r1 n)) ?_;refine mq ?_;obtain⟨x2,j,h⟩:=aa h;refine jb (bi rfl j) ?_;refine ja (nI rfl U3 Pe) ?_;obtain⟨u3,l,h⟩:=aa h;refine jb (EF rfl (aC l)) ?_;obtain⟨x4,e,h⟩:=aa h;refine ja (tV rfl Pe U3 e) ?_;refine aq (nt (aA ?_));cases h;exact aF () [_] 1 ⟨rfl,trivial⟩ rfl
def dW(k:Nat)(a0:bK)(a1:Int)(a2:Int):Option (Int×bK):=
 (ck (a2 - a1)).bind fun x1=>
 (dr k (a0.1,a0.2.1,a0.2.2) x1).bind fun r2=>
 (ck (a1+r2.1)).bind fun x3=>
 some (x3,(r2.2.1,r2.2.2.1,r2.2.2.2))
theorem k9(k:Nat)(a0:bK)(c:Nat)(a1:Int)(a2:Int)(r:Int×bK)(h:dW k a0 a1 a2=some r):
 bW Tryz.prog 51 [Pt c,I a1,I a2] [.obj c 98 (.agg (.pair (Ri a0.1) (.pair (I a0.2.1) (.eq (.int .u64 a0.2.2)))))] (fun _:Unit=>(bp [I r.1],[.obj c 98 (.agg (.pair (Ri r.2.1) (.pair (I r.2.2.1) (.eq (.int .u64 r.2.2.2)))))])):=by
 unfold dW at h
 replace h:=a9 h
 refine bW.of 14 Tryz.func51 rfl Tryz.ntmps51 rfl fun S w0=>?_
 refine sr ?_
 refine cq ?_
 refine nt ?_
 refine sr ?_
 iterate 4 refine mq ?_
 obtain⟨x1,j,h⟩:=aa h
 refine jb (eJ rfl j) ?_
 obtain⟨r2,l,h⟩:=aa h
 have n:=fG k (a0.1,a0.2.1,a0.2.2) c x1 r2 l
 refine kb (ap [.tmp 8,.tmp 11] rfl rfl Gg rfl n) ?_
 obtain⟨x3,e,h⟩:=aa h
 refine jb (bi rfl e) ?_
 refine aq ?_
 refine nt ?_
 refine aA ?_
 cases h
 exact aF () [_] 1 ⟨rfl,trivial⟩ rfl
def iR(k:Nat)(a0:bK)(a1:(List Int)):Option (Int×bK):=
 (ck ((a1.length:Int) - 1)).bind fun x1=>
 (dr k (a0.1,a0.2.1,a0.2.2) x1).bind fun r2=>
 (bb a1 r2.1).bind fun x3=>
 some (x3,(r2.2.1,r2.2.2.1,r2.2.2.2))
theorem nP(k:Nat)(a0:bK)(c:Nat)(a1:(List Int))(r:Int×bK)(h:iR k a0 a1=some r):
 bW Tryz.prog 112 [Pt c,Ri a1] [.obj c 98 (.agg (.pair (Ri a0.1) (.pair (I a0.2.1) (.eq (.int .u64 a0.2.2)))))] (fun _:Unit=>(bp [I r.1],[.obj c 98 (.agg (.pair (Ri r.2.1) (.pair (I r.2.2.1) (.eq (.int .u64 r.2.2.2)))))])):=by
 unfold iR at h
 replace h:=a9 h
 refine bW.of 13 Tryz.func112 rfl Tryz.ntmps112 rfl fun S w0=>?_
 refine sr ?_
 refine cq ?_
 refine nt ?_
 refine sr ?_
 iterate 3 refine mq ?_
 refine ol ep ?_
 obtain⟨x1,j,h⟩:=aa h
 refine jb (eJ rfl j) ?_
 obtain⟨r2,l,h⟩:=aa h
 have n:=fG k (a0.1,a0.2.1,a0.2.2) c x1 r2 l
 refine kb (ap [.tmp 6,.tmp 9] rfl rfl Gg rfl n) ?_
 obtain⟨x3,e,h⟩:=aa h
 refine jb (aN (t:=(.int .i64)) rfl ep cH e) ?_
 refine ja (ao (t:=(.int .i64)) rfl cH rfl) ?_
 refine aq ?_
 refine nt ?_
 refine aA ?_
 cases h
 exact aF () [_] 1 ⟨rfl,trivial⟩ rfl
def fp(k:Nat)(a0:bK)(a1:Int):Option (Bool×bK):=
 (ck (a1 - 1)).bind fun x1=>
 (dr k (a0.1,a0.2.1,a0.2.2) x1).bind fun r2=>
 some (decide (r2.1=0),(r2.2.1,r2.2.2.1,r2.2.2.2))
theorem mz(k:Nat)(a0:bK)(c:Nat)(a1:Int)(r:Bool×bK)(h:fp k a0 a1=some r):
 bW Tryz.prog 113 [Pt c,I a1] [.obj c 98 (.agg (.pair (Ri a0.1) (.pair (I a0.2.1) (.eq (.int .u64 a0.2.2)))))] (fun _:Unit=>(bp [.eq (.bool r.1)],[.obj c 98 (.agg (.pair (Ri r.2.1) (.pair (I r.2.2.1) (.eq (.int .u64 r.2.2.2)))))])):=by
 unfold fp at h
 replace h:=a9 h
 refine bW.of 10 Tryz.func113 rfl Tryz.ntmps113 rfl fun S w0=>?_
 refine sr ?_
 refine cq ?_
 refine nt ?_
 refine sr ?_
 iterate 2 refine mq ?_
 obtain⟨x1,e,h⟩:=aa h
 refine jb (eJ rfl e) ?_
 obtain⟨r2,j,h⟩:=aa h
 have l:=fG k (a0.1,a0.2.1,a0.2.2) c x1 r2 j
 refine kb (ap [.tmp 5,.tmp 7] rfl rfl Gg rfl l) ?_
 refine jb (dS rfl) ?_
 refine aq ?_
 refine nt ?_
 refine aA ?_
 cases h
 exact aF () [_] 1 ⟨rfl,trivial⟩ rfl
def dU(k:Nat)(r2:Int×bK):Nat→((List Int)×Int×Int×(List Int)×Int)→Option ((List Int)×Int×Int×(List Int))
 |0,_=>none
 |n+1,c=>
  if c.2.2.2.2 < r2.1 then((((fp k (c.1,c.2.1,c.2.2.1) 2).bind fun e=>
  if e.1=true then((dh (bO (List.length c.2.2.2.1+List.length [c.2.2.2.2]))).bind fun _=>
  some (e.2.1,e.2.2.1,e.2.2.2,c.2.2.2.1++[c.2.2.2.2])) else(some (e.2.1,e.2.2.1,e.2.2.2,c.2.2.2.1))):Option ((List Int)×Int×Int×(List Int))).bind fun h=>
  (ck (c.2.2.2.2+1)).bind fun j=>
  dU k r2 n (h.1,h.2.1,h.2.2.1,h.2.2.2,j)) else(some (c.1,c.2.1,c.2.2.1,c.2.2.2.1))
def dV(k:Nat)(r2:Int×bK):Nat→((List Int)×Int×Int×(List lg)×Int×Int)→Option ((List Int)×Int×Int×(List lg)×Int)
 |0,_=>none
 |n+1,y7=>
  if 0 < y7.2.2.2.2.2 then((((iR k (y7.1,y7.2.1,y7.2.2.1) [1,1,1,2,3]).bind fun c=>
  ((dU k r2 k (c.2.1,c.2.2.1,c.2.2.2,([]:(List Int)),0)):Option ((List Int)×Int×Int×(List Int))).bind fun e=>
  (dh (bO (List.length y7.2.2.2.1+List.length [(c.1,e.2.2.2)]))).bind fun _=>
  (ck (y7.2.2.2.2.1+c.1)).bind fun j=>
  some (e.1,e.2.1,e.2.2.1,y7.2.2.2.1++[(c.1,e.2.2.2)],j)):Option ((List Int)×Int×Int×(List lg)×Int)).bind fun x9=>
  (ck (y7.2.2.2.2.2 - 1)).bind fun h=>
  dV k r2 n (x9.1,x9.2.1,x9.2.2.1,x9.2.2.2.1,x9.2.2.2.2,h)) else(some (y7.1,y7.2.1,y7.2.2.1,y7.2.2.2.1,y7.2.2.2.2.1))
def dT(k:Nat)(x4:(List Int)×Int×Int×(List lg)×Int):Nat→((List Int)×Int×Int×(List Int)×Int)→Option ((List Int)×Int×Int×(List Int))
 |0,_=>none
 |n+1,c=>
  if 0 < c.2.2.2.2 then((ck (x4.2.2.2.2+1)).bind fun j=>
  (iR k (c.1,c.2.1,c.2.2.1) [1,2,3,o7 9 x4.2.2.2.2,o7 9 j]).bind fun e=>
  (dh (bO (List.length c.2.2.2.1+List.length [e.1]))).bind fun _=>
  (ck (c.2.2.2.2 - 1)).bind fun h=>
  dT k x4 n (e.2.1,e.2.2.1,e.2.2.2,c.2.2.2.1++[e.1],h)) else(some (c.1,c.2.1,c.2.2.1,c.2.2.2.1))
def jx(k:Nat)(a0:bK)(a1:Int)(a2:Int):Option (bj×bK):=
 (dW k (a0.1,a0.2.1,a0.2.2) 1 4).bind fun r2=>
 (((dW k (r2.2.1,r2.2.2.1,r2.2.2.2) 0 a1).bind fun r6=>
 dV k r2 k (r6.2.1,r6.2.2.1,r6.2.2.2,([]:(List lg)),0,r6.1)):Option ((List Int)×Int×Int×(List lg)×Int)).bind fun x4=>
 (((dW k (x4.1,x4.2.1,x4.2.2.1) 1 a2).bind fun j=>
 dT k x4 k (j.2.1,j.2.2.1,j.2.2.2,([]:(List Int)),j.1)):Option ((List Int)×Int×Int×(List Int))).bind fun e=>
 (((fp k (e.1,e.2.1,e.2.2.1) 2).bind fun c=>
 if c.1=true then((bb e.2.2.2 0).bind fun l=>
 some (List.set e.2.2.2 (Int.toNat 0) (o7 9 x4.2.2.2.2),c.2.1,c.2.2.1,c.2.2.2)) else(some (e.2.2.2,c.2.1,c.2.2.1,c.2.2.2))):Option ((List Int)×(List Int)×Int×Int)).bind fun h=>
 some ((r2.1,x4.2.2.2.1,h.1),(h.2.1,h.2.2.1,h.2.2.2))
theorem uP(k:Nat)(a0:bK)(c:Nat)(a1:Int)(a2:Int)(r:bj×bK)(h:jx k a0 a1 a2=some r):
 bW Tryz.prog 49 [Pt c,I a1,I a2] [.obj c 98 (.agg (.pair (Ri a0.1) (.pair (I a0.2.1) (.eq (.int .u64 a0.2.2)))))] (fun _:Unit=>(bp [.rep aD r.1],[.obj c 98 (.agg (.pair (Ri r.2.1) (.pair (I r.2.2.1) (.eq (.int .u64 r.2.2.2)))))])):=by
 unfold jx at h
 replace h:=a9 h
 refine bW.of 79 Tryz.func49 rfl Tryz.ntmps49 rfl fun S w0=>?_
 refine sr ?_
 refine aH rfl rfl rfl (bJ rfl xi Dj) trivial fun b1=>?_
 refine nt ?_
 refine sr ?_
 refine mq ?_
 obtain⟨r2,Rx,h⟩:=aa h
 have Ry:=k9 k (a0.1,a0.2.1,a0.2.2) c 1 4 r2 Rx
 refine fr 1 ?_
 refine kc (ap [.tmp 13,.const (.int .i64 (1)),.const (.int .i64 (4))] rfl rfl K6 rfl Ry) ?_
 refine ja (de [(0,.tmp 14,_)] rfl MP xi JF (jd ⟨rfl,trivial⟩) rfl) ?_
 refine aH rfl rfl rfl (bJ rfl xi Dj) trivial fun b3=>?_
 refine be rfl rfl (a8 rfl gW trivial rfl rfl) ⟨rfl,rfl,trivial⟩ ?_
 refine nt ?_
 refine sr ?_
 refine cq ?_
 refine nt ?_
 refine aX (Z:=Value) (α:=(List Int)×Int×Int×(List lg)×Int) (fun z5 x4=>[(0,Pt c),(2,I a2),(6,Pt b1),(7,Pt b3),(8,I x4.2.2.2.2)]) (fun z5 x4=>[.obj c 98 (.agg (.pair (Ri x4.1) (.pair (I x4.2.1) (.eq (.int .u64 x4.2.2.1))))),.obj b1 25 (.agg (.pair (I 0) (.pair (.eq (.slice none 0 0)) (.eq (.slice none 0 0))))),.obj b3 25 (.agg (.pair (I r2.1) (.pair (.eq z5) (.eq (.slice none 0 0))))),.sl z5 27 cD x4.2.2.2.1]) h (fun K h=>?_) (fun z5 x4 h=>?_)
 ·
  refine sr ?_;iterate 2 refine mq ?_
  obtain⟨r6,Rw,h⟩:=aa h;refine fr 1 ?_;refine kc (ap [.tmp 16,.const (.int .i64 (0)),.tmp 17] rfl rfl K6 rfl (k9 k (r2.2.1,r2.2.2.1,r2.2.2.2) c 0 a1 r6 Rw)) ?_;refine aq (nt (aj ?_));refine fN (SE.nil 27 cD) ?_;refine aL (fun z8 y7=>[(0,Pt c),(2,I a2),(6,Pt b1),(7,Pt b3),(8,I y7.2.2.2.2.1),(9,I y7.2.2.2.2.2)]) (fun z8 y7=>[.obj c 98 (.agg (.pair (Ri y7.1) (.pair (I y7.2.1) (.eq (.int .u64 y7.2.2.1))))),.obj b1 25 (.agg (.pair (I 0) (.pair (.eq (.slice none 0 0)) (.eq (.slice none 0 0))))),.obj b3 25 (.agg (.pair (I r2.1) (.pair (.eq z8) (.eq (.slice none 0 0))))),.sl z8 27 cD y7.2.2.2.1]) (dV k r2) k (.slice none 0 0) (r6.2.1,r6.2.2.1,r6.2.2.2,([]:(List lg)),0,r6.1) (fun _=>rfl) h (SE.fin [1,3,2,0] ⟨rfl,rfl,rfl,rfl,rfl,rfl,trivial⟩ rfl) (fun n z8 y7 h=>?_);unfold dV at h;refine ah (sr (mq ?_));refine jb (ji rfl) ?_;refine nt (ci h (fun h=>?_) (fun h=>?_))
  ·refine sk (aX (Z:=Value) (α:=(List Int)×Int×Int×(List lg)×Int) (fun X x9=>[(0,Pt c),(2,I a2),(6,Pt b1),(7,Pt b3),(8,I x9.2.2.2.2),(9,I y7.2.2.2.2.2)]) (fun X x9=>[.obj c 98 (.agg (.pair (Ri x9.1) (.pair (I x9.2.1) (.eq (.int .u64 x9.2.2.1))))),.obj b1 25 (.agg (.pair (I 0) (.pair (.eq (.slice none 0 0)) (.eq (.slice none 0 0))))),.obj b3 25 (.agg (.pair (I r2.1) (.pair (.eq X) (.eq (.slice none 0 0))))),.sl X 27 cD x9.2.2.2.1]) h (fun K h=>?_) (fun X x9 h=>?_))
   ·refine aj (sr (mq ?_));refine aB rfl (bB (t:=(.int .i64)) [(.const (.int .i64 (1)),_),(.const (.int .i64 (1)),_),(.const (.int .i64 (1)),_),(.const (.int .i64 (2)),_),(.const (.int .i64 (3)),_)] [1,1,1,2,3] rfl rfl eB (.cons rfl .int (.cons rfl .int (.cons rfl .int (.cons rfl .int (.cons rfl .int .nil))))) rfl rfl) ⟨rfl,rfl,rfl,rfl,rfl,trivial⟩ ?_;obtain⟨s,Q8,h⟩:=aa h;refine kb (ap [.tmp 23,.tmp 24] rfl rfl Jy rfl (nP k (y7.1,y7.2.1,y7.2.2.1) c [1,1,1,2,3] s Q8)) ?_;refine ja (de [(0,.tmp 25,_)] rfl Et vR yU (jd ⟨rfl,trivial⟩) rfl) ?_;refine aH rfl rfl rfl (bJ rfl vR IP) trivial fun M=>?_;refine be rfl rfl (a8 rfl nn trivial rfl rfl) ⟨rfl,rfl,trivial⟩ ?_;refine nt (aX (Z:=Value) (α:=(List Int)×Int×Int×(List Int)) (fun ac j=>[(0,Pt c),(2,I a2),(6,Pt b1),(7,Pt b3),(8,I y7.2.2.2.2.1),(9,I y7.2.2.2.2.2),(10,Pt M)]) (fun ac j=>[.obj c 98 (.agg (.pair (Ri j.1) (.pair (I j.2.1) (.eq (.int .u64 j.2.2.1))))),.obj b1 25 (.agg (.pair (I 0) (.pair (.eq (.slice none 0 0)) (.eq (.slice none 0 0))))),.obj b3 25 (.agg (.pair (I r2.1) (.pair (.eq z8) (.eq (.slice none 0 0))))),.sl z8 27 cD y7.2.2.2.1,.obj M 27 (.agg (.pair (I s.1) (.eq ac))),.sl ac 3 (.int .i64) j.2.2.2]) h (fun K h=>?_) (fun ac j h=>?_))
    ·refine sr (cq (nt (aj ?_)));refine fN (SE.nil 3 (.int .i64)) ?_;refine aL (fun Q e=>[(0,Pt c),(2,I a2),(6,Pt b1),(7,Pt b3),(8,I y7.2.2.2.2.1),(9,I y7.2.2.2.2.2),(10,Pt M),(11,I e.2.2.2.2)]) (fun Q e=>[.obj c 98 (.agg (.pair (Ri e.1) (.pair (I e.2.1) (.eq (.int .u64 e.2.2.1))))),.obj b1 25 (.agg (.pair (I 0) (.pair (.eq (.slice none 0 0)) (.eq (.slice none 0 0))))),.obj b3 25 (.agg (.pair (I r2.1) (.pair (.eq z8) (.eq (.slice none 0 0))))),.sl z8 27 cD y7.2.2.2.1,.obj M 27 (.agg (.pair (I s.1) (.eq Q))),.sl Q 3 (.int .i64) e.2.2.2.1]) (dU k r2) k (.slice none 0 0) (s.2.1,s.2.2.1,s.2.2.2,([]:(List Int)),0) (fun _=>rfl) h (SE.fin [2,3,4,5,1,0] ⟨rfl,rfl,rfl,rfl,rfl,rfl,rfl,rfl,trivial⟩ rfl) (fun n Q e h=>?_);unfold dU at h;refine ah (sr (mq ?_));refine fl m5 ?_;refine fr 2 ?_;refine lo cH ?_;refine jb (bG rfl) ?_;refine nt (ci h (fun h=>?_) (fun h=>?_))
     ·refine sk (aX (Z:=Value) (α:=(List Int)×Int×Int×(List Int)) (fun U x=>[(0,Pt c),(2,I a2),(6,Pt b1),(7,Pt b3),(8,I y7.2.2.2.2.1),(9,I y7.2.2.2.2.2),(10,Pt M),(11,I e.2.2.2.2)]) (fun U x=>[.obj c 98 (.agg (.pair (Ri x.1) (.pair (I x.2.1) (.eq (.int .u64 x.2.2.1))))),.obj b1 25 (.agg (.pair (I 0) (.pair (.eq (.slice none 0 0)) (.eq (.slice none 0 0))))),.obj b3 25 (.agg (.pair (I r2.1) (.pair (.eq z8) (.eq (.slice none 0 0))))),.sl z8 27 cD y7.2.2.2.1,.obj M 27 (.agg (.pair (I s.1) (.eq U))),.sl U 3 (.int .i64) x.2.2.2]) h (fun K h=>?_) (fun U x h=>?_))
      ·refine aj (sr (mq ?_));obtain⟨J,Q7,h⟩:=aa h;refine fr 1 ?_;refine kb (ap [.tmp 33,.const (.int .i64 (2))] rfl rfl Jx rfl (mz k (e.1,e.2.1,e.2.2.1) c 2 J Q7)) ?_;refine nt (cv h (fun h=>?_) (fun h=>?_))
       ·refine ab (fl rU ?_);refine fr 4 ?_;refine lo cp ?_;refine mq ?_;refine ja (bB (t:=(.int .i64)) [(.tmp 37,_)] [e.2.2.2.2] rfl rfl eB (.cons rfl .int .nil) rfl rfl) ?_;obtain⟨RP,Q3,h⟩:=aa h;refine fr 5 ?_;refine dI rfl rfl rfl (bY rfl rfl eB (aC Q3)) ⟨rfl,rfl,trivial⟩ fun Rj=>?_;refine fl rU ?_;refine uq fun o22=>?_;refine fr 1 ?_;refine be rfl rfl (a8 rfl cp o22 rfl rfl) ⟨rfl,rfl,trivial⟩ ?_;refine ar (bn ?_);exact jz (Rj,(J.2.1,J.2.2.1,J.2.2.2,e.2.2.2.1++[e.2.2.2.2])) h [2,4,3,5,0,1]
       ·refine aS (bn ?_);exact jz (Q,(J.2.1,J.2.2.1,J.2.2.2,e.2.2.2.1)) h [0,2,1,3,4,5]
      ·refine ab (mq ?_);obtain⟨Rf,Q0,h⟩:=aa h;refine jb (bi rfl Q0) ?_;refine aq (nl ?_);exact jz (U,(x.1,x.2.1,x.2.2.1,x.2.2.2,Rf)) h [0,1,2,3,4,5]
     ·refine xa ?_;exact jz (Q,(e.1,e.2.1,e.2.2.1,e.2.2.2.1)) h [1,2,0,3,4,5]
    ·refine iy 4 rfl ?_;refine iy 5 rfl ?_;refine fN (pS (off:=1) [] trivial rfl rfl) ?_;refine j8 ?_;refine aJ rfl rfl rfl (aw rfl eO) ⟨rfl,trivial⟩ ?_;refine eF 3 rfl rfl rfl rfl (an rfl lp mX rfl) ⟨rfl,trivial⟩ ?_;refine eF 0 rfl rfl rfl rfl (an rfl nn (xe) rfl) ⟨rfl,trivial⟩ ?_;refine aJ rfl rfl rfl (bB (t:=cD) [(.tmp 43,_)] [(s.1,j.2.2.2)] rfl rfl JV (.cons trivial (.agg (.pair .int .rep)) .nil) rfl rfl) ⟨rfl,trivial⟩ ?_;obtain⟨RO,Q2,h⟩:=aa h;refine uw 4 rfl (fun v=>[.sl v 27 cD (y7.2.2.2.1++[(s.1,j.2.2.2)])]) (fun _=>rfl) rfl rfl rfl (bY rfl rfl JV (aC Q2)) ⟨rfl,rfl,trivial⟩ ?_;refine aJ rfl rfl rfl (aU rfl) ⟨rfl,trivial⟩ ?_;refine aJ rfl rfl rfl (aw rfl nW) ⟨rfl,trivial⟩ ?_;refine eF 0 rfl rfl rfl rfl (an rfl cH mX rfl) ⟨rfl,trivial⟩ ?_;obtain⟨Re,QZ,h⟩:=aa h;refine aJ rfl rfl rfl (bi rfl QZ) ⟨rfl,rfl,trivial⟩ ?_;refine aJ rfl rfl rfl (aw rfl eO) ⟨rfl,trivial⟩ ?_;refine om 10 [true,true,true,true,true,false,false,false,false,true] [] [0] [.obj M 27 (.agg (.pair (I s.1) (Ri j.2.2.2)))] rfl (by kernel_rfl) (by kernel_rfl) (by kernel_rfl) fe (fun vs hv hB=>?_);obtain⟨w0,RL,rfl,Ru⟩:=ak hv;obtain⟨w1,RJ,rfl,Rt⟩:=ak Ru;obtain⟨w2,RI,rfl,Rr⟩:=ak Rt;obtain⟨w3,RH,rfl,Rq⟩:=ak Rr;obtain⟨se,RG,rfl,Ro⟩:=ak Rq;obtain⟨w5,RF,rfl,Rn⟩:=ak Ro;obtain⟨w6,RE,rfl,Rm⟩:=ak Rn;obtain⟨w7,RD,rfl,Rl⟩:=ak Rm;obtain⟨w8,RB,rfl,Rk⟩:=ak Rl;obtain⟨w9,Rz,rfl,QV⟩:=ak Rk;obtain rfl:=lH QV;refine⟨[0,1,2,3,4],[.obj c 98 (.agg (.pair (Ri j.1) (.pair (I j.2.1) (.eq (.int .u64 j.2.2.1))))),.obj b1 25 (.agg (.pair (I 0) (.pair (.eq (.slice none 0 0)) (.eq (.slice none 0 0))))),.obj b3 25 (.agg (.pair (I r2.1) (.pair (.eq z8) (.eq (.slice none 0 0))))),.sl se 27 cD (y7.2.2.2.1++[(s.1,j.2.2.2)])],by kernel_rfl,by decide,?_⟩;refine lj 3 rfl ?_;refine GT fun o27=>?_;refine lj 3 rfl ?_;refine pU rfl rfl (a8 rfl lp o27 rfl rfl) ⟨rfl,rfl,trivial⟩ (by kernel_rfl) ?_;refine GU (by kernel_rfl) ?_;refine aq (ar (bn ?_));exact jz (se,(j.1,j.2.1,j.2.2.1,y7.2.2.2.1++[(s.1,j.2.2.2)],Re)) h [3,4,1,2]
   ·refine ab (mq ?_);obtain⟨Rb,QY,h⟩:=aa h;refine jb (eJ rfl QY) ?_;refine aq (nl ?_);exact jz (X,(x9.1,x9.2.1,x9.2.2.1,x9.2.2.2.1,x9.2.2.2.2,Rb)) h [0,1,2,3]
  ·refine xa ?_;exact jz (z8,(y7.1,y7.2.1,y7.2.2.1,y7.2.2.2.1,y7.2.2.2.2.1)) h [0,1,2,3]
 ·
  refine aX (Z:=Value) (α:=(List Int)×Int×Int×(List Int)) (fun O u=>[(0,Pt c),(6,Pt b1),(7,Pt b3),(8,I x4.2.2.2.2)]) (fun O u=>[.obj c 98 (.agg (.pair (Ri u.1) (.pair (I u.2.1) (.eq (.int .u64 u.2.2.1))))),.obj b1 25 (.agg (.pair (I 0) (.pair (.eq (.slice none 0 0)) (.eq (.slice none 0 0))))),.obj b3 25 (.agg (.pair (I r2.1) (.pair (.eq z5) (.eq O)))),.sl z5 27 cD x4.2.2.2.1,.sl O 3 (.int .i64) u.2.2.2]) h (fun K h=>?_) (fun O u h=>?_)
  ·refine sr ?_;iterate 2 refine mq ?_
   obtain⟨Y,Q6,h⟩:=aa h;refine kc (ap [.tmp 51,.const (.int .i64 (1)),.tmp 52] rfl rfl K6 rfl (k9 k (x4.1,x4.2.1,x4.2.2.1) c 1 a2 Y Q6)) ?_;refine aq (nt (aj ?_));refine fN (SE.nil 3 (.int .i64)) ?_;refine aL (fun E l=>[(0,Pt c),(6,Pt b1),(7,Pt b3),(8,I x4.2.2.2.2),(12,I l.2.2.2.2)]) (fun E l=>[.obj c 98 (.agg (.pair (Ri l.1) (.pair (I l.2.1) (.eq (.int .u64 l.2.2.1))))),.obj b1 25 (.agg (.pair (I 0) (.pair (.eq (.slice none 0 0)) (.eq (.slice none 0 0))))),.obj b3 25 (.agg (.pair (I r2.1) (.pair (.eq z5) (.eq E)))),.sl z5 27 cD x4.2.2.2.1,.sl E 3 (.int .i64) l.2.2.2.1]) (dT k x4) k (.slice none 0 0) (Y.2.1,Y.2.2.1,Y.2.2.2,([]:(List Int)),Y.1) (fun _=>rfl) h (SE.fin [1,2,3,4,0] ⟨rfl,rfl,rfl,rfl,rfl,trivial⟩ rfl) (fun n E l h=>?_);unfold dT at h;refine ah (sr (mq ?_));refine jb (ji rfl) ?_;refine nt (ci h (fun h=>?_) (fun h=>?_))
   ·refine sk (ah (aj (cu ?_)));refine da (aw rfl fq) ?_;refine ea 2 (an rfl cp mX rfl) ?_;refine dm ?_;refine dm ?_;refine db (EI rfl rfl) ?_;refine dm ?_;obtain⟨qt,QX,h⟩:=aa h;refine db (bi rfl QX) ?_;refine db (EI rfl rfl) ?_;refine cY rfl rfl rfl (bB (t:=(.int .i64)) [(.const (.int .i64 (1)),_),(.const (.int .i64 (2)),_),(.const (.int .i64 (3)),_),(.tmp 62,_),(.tmp 65,_)] [1,2,3,o7 9 x4.2.2.2.2,o7 9 qt] rfl rfl eB (.cons rfl .int (.cons rfl .int (.cons rfl .int (.cons rfl .int (.cons rfl .int .nil))))) rfl rfl) ⟨rfl,rfl,rfl,rfl,rfl,trivial⟩ ?_;obtain⟨D,Q5,h⟩:=aa h;refine I5 0 rfl rfl rfl rfl (ap [.tmp 60,.tmp 66] rfl rfl Jy rfl (nP k (l.1,l.2.1,l.2.2.1) c [1,2,3,o7 9 x4.2.2.2.2,o7 9 qt] D Q5)) ⟨rfl,rfl,trivial⟩ ?_;refine da (bB (t:=(.int .i64)) [(.tmp 67,_)] [D.1] rfl rfl eB (.cons rfl .int .nil) rfl rfl) ?_;refine I7 (Δ':=[.obj b1 25 (.agg (.pair (I 0) (.pair (.eq (.slice none 0 0)) (.eq (.slice none 0 0))))),.obj b3 25 (.agg (.pair (I r2.1) (.pair (.eq z5) (.eq E)))),.sl z5 27 cD x4.2.2.2.1,.sl E 3 (.int .i64) l.2.2.2.1,.obj c 98 (.agg (.pair (Ri D.2.1) (.pair (I D.2.2.1) (.eq (.int .u64 D.2.2.2)))))]) (by kernel_rfl) fe (by kernel_rfl) ?_;obtain⟨RN,Q1,h⟩:=aa h;refine fr 3 ?_;refine dI rfl rfl rfl (bY rfl rfl eB (aC Q1)) ⟨rfl,rfl,trivial⟩ fun Rh=>?_;refine fl fq ?_;refine uq fun o38=>?_;refine fr 2 ?_;refine be rfl rfl (a8 rfl cp o38 rfl rfl) ⟨rfl,rfl,trivial⟩ ?_;refine ar (aK (tn (ab (mq ?_))));obtain⟨Q9,QW,h⟩:=aa h;refine jb (eJ rfl QW) ?_;refine aq (nl ?_);exact jz (Rh,(D.2.1,D.2.2.1,D.2.2.2,l.2.2.2.1++[D.1],Q9)) h [4,2,0,3,1]
   ·refine xa ?_;exact jz (E,(l.1,l.2.1,l.2.2.1,l.2.2.2.1)) h [0,1,2,3,4]
  ·refine aX (Z:=Unit) (α:=(List Int)×(List Int)×Int×Int) (fun pp y=>[(6,Pt b1),(7,Pt b3)]) (fun pp y=>[.obj b1 25 (.agg (.pair (I 0) (.pair (.eq (.slice none 0 0)) (.eq (.slice none 0 0))))),.obj b3 25 (.agg (.pair (I r2.1) (.pair (.eq z5) (.eq O)))),.sl z5 27 cD x4.2.2.2.1,.sl O 3 (.int .i64) y.1,.obj c 98 (.agg (.pair (Ri y.2.1) (.pair (I y.2.2.1) (.eq (.int .u64 y.2.2.2)))))]) h (fun K h=>?_) (fun pp y h=>?_)
   ·refine sr (mq ?_);obtain⟨F,Q4,h⟩:=aa h;refine kb (ap [.tmp 71,.const (.int .i64 (2))] rfl rfl Jx rfl (mz k (u.1,u.2.1,u.2.2.1) c 2 F Q4)) ?_;refine nt (cv h (fun h=>?_) (fun h=>?_))
    ·refine ab (fl fq ?_);refine fr 2 ?_;refine lo cp ?_;refine mq ?_;refine jb (EI rfl rfl) ?_;obtain⟨RA,mc,h⟩:=aa h;refine fr 4 ?_;refine kb (bu (t:=(.int .i64)) rfl ep cH mc) ?_;refine be rfl rfl (cZ (i:=Int.toNat 0) rfl cH rfl (iG mc) rfl .int rfl) ⟨rfl,rfl,trivial⟩ ?_;refine nl ?_;exact jz ((),(List.set u.2.2.2 (Int.toNat 0) (o7 9 x4.2.2.2.2),F.2.1,F.2.2.1,F.2.2.2)) h [3,1,4,0,2]
    ·refine aS (ae ?_);exact jz ((),(u.2.2.2,F.2.1,F.2.2.1,F.2.2.2)) h [1,2,3,4,0]
   ·refine sr (fr 1 ?_);refine fr 2 ?_;refine cd (pS (off:=1) [] trivial rfl rfl) ?_;refine fr 2 ?_;refine cd (pS (off:=2) [] trivial rfl rfl) ?_;refine lo gW ?_;refine fr 1 ?_;refine be rfl rfl (a8 rfl gW trivial rfl rfl) ⟨rfl,rfl,trivial⟩ ?_;refine nt (aA (bz (oR (a:=.agg (.pair (I r2.1) (.pair (Rs cD x4.2.2.2.1) (Ri y.1)))) (a':=.rep aD (r2.1,x4.2.2.2.1,y.1)) (xd (.agg (.pair .int (.pair .rep .rep))))) ?_));refine bz (SE.fin (Γ':=[(6,_)]) [2,0,1] ⟨rfl,trivial⟩ rfl) ?_;cases h;exact aF () [.rep aD (r2.1,x4.2.2.2.1,y.1)] 1 ⟨⟨_,_,_,_,_,rfl,(.tail _ (.head _)),gW,(xe),rfl⟩,trivial⟩ rfl
def dC(k:Nat)(a1:Int):Nat→((List Int)×Int×Int×(List Int)×Int)→Option ((List Int)×(List Int)×Int×Int)
 |0,_=>none
 |n+1,y3=>
  if y3.2.2.2.2 < a1 then((dr k (y3.1,y3.2.1,y3.2.2.1) y3.2.2.2.2).bind fun r5=>
  (dh (bO (List.length y3.2.2.2.1+List.length [y3.2.2.2.2]))).bind fun _=>
  (bb (y3.2.2.2.1++[y3.2.2.2.2]) r5.1).bind fun x8=>
  (bb (y3.2.2.2.1++[y3.2.2.2.2]) y3.2.2.2.2).bind fun x9=>
  (bb (List.set (y3.2.2.2.1++[y3.2.2.2.2]) (Int.toNat y3.2.2.2.2) x8) r5.1).bind fun e=>
  (ck (y3.2.2.2.2+1)).bind fun c=>
  dC k a1 n (r5.2.1,r5.2.2.1,r5.2.2.2,List.set (List.set (y3.2.2.2.1++[y3.2.2.2.2]) (Int.toNat y3.2.2.2.2) x8) (Int.toNat r5.1) y3.2.2.2.2,c)) else(some (y3.2.2.2.1,y3.1,y3.2.1,y3.2.2.1))
def fH(k:Nat)(a0:bK)(a1:Int):Option ((List Int)×bK):=
 ((dC k a1 k (a0.1,a0.2.1,a0.2.2,([]:(List Int)),0)):Option ((List Int)×(List Int)×Int×Int)).bind fun x1=>
 some (x1.1,(x1.2.1,x1.2.2.1,x1.2.2.2))
theorem qH(k:Nat)(a0:bK)(c:Nat)(a1:Int)(r:(List Int)×bK)(h:fH k a0 a1=some r):
 bW Tryz.prog 63 [Pt c,I a1] [.obj c 98 (.agg (.pair (Ri a0.1) (.pair (I a0.2.1) (.eq (.int .u64 a0.2.2)))))] (fun _:Unit=>(bp [Ri r.1],[.obj c 98 (.agg (.pair (Ri r.2.1) (.pair (I r.2.2.1) (.eq (.int .u64 r.2.2.2)))))])):=by
 unfold fH at h
 replace h:=a9 h
 refine bW.of 32 Tryz.func63 rfl Tryz.ntmps63 rfl fun S w0=>?_
 refine sr ?_
 refine cq ?_
 refine nt ?_
 refine sr ?_
 refine cq ?_
 refine nt ?_
 refine aX (Z:=Value) (α:=(List Int)×(List Int)×Int×Int) (fun z2 x1=>[(5,.eq z2)]) (fun z2 x1=>[.sl z2 3 (.int .i64) x1.1,.obj c 98 (.agg (.pair (Ri x1.2.1) (.pair (I x1.2.2.1) (.eq (.int .u64 x1.2.2.2)))))]) h (fun K h=>?_) (fun z2 x1 h=>?_)
 ·
  refine sr (cq (nt (aj ?_)));refine fN (SE.nil 3 (.int .i64)) ?_;refine aL (fun z4 y3=>[(0,Pt c),(1,I a1),(5,.eq z4),(6,I y3.2.2.2.2)]) (fun z4 y3=>[.obj c 98 (.agg (.pair (Ri y3.1) (.pair (I y3.2.1) (.eq (.int .u64 y3.2.2.1))))),.sl z4 3 (.int .i64) y3.2.2.2.1]) (dC k a1) k (.slice none 0 0) (a0.1,a0.2.1,a0.2.2,([]:(List Int)),0) (fun _=>rfl) h (SE.fin [1,0] ⟨rfl,rfl,rfl,rfl,trivial⟩ rfl) (fun n z4 y3 h=>?_);unfold dC at h;refine ah (sr ?_);iterate 2 refine mq ?_
  refine jb (bG rfl) ?_;refine nt (ci h (fun h=>?_) (fun h=>?_))
  ·refine sk (ah (aj (sr ?_)));iterate 2 refine mq ?_
   obtain⟨r5,y,h⟩:=aa h;refine kb (ap [.tmp 13,.tmp 14] rfl rfl Gg rfl (fG k (y3.1,y3.2.1,y3.2.2.1) c y3.2.2.2.2 r5 y)) ?_;refine aq (nt (sr ?_));iterate 2 refine mq ?_
   refine ja (bB (t:=(.int .i64)) [(.tmp 17,_)] [y3.2.2.2.2] rfl rfl eB (.cons rfl .int .nil) rfl rfl) ?_;obtain⟨u6,x,h⟩:=aa h;refine fr 1 ?_;refine dI rfl rfl rfl (bY rfl rfl eB (aC x)) ⟨rfl,rfl,trivial⟩ fun v7=>?_;refine aq (nt (ab ?_));iterate 6 refine mq ?_
   obtain⟨x8,l,h⟩:=aa h;refine kb (bu (t:=(.int .i64)) rfl ep cH l) ?_;refine ka (fD (i:=Int.toNat r5.1) (off:=0) rfl cH (fun _=>rfl) rfl (cP l).2.2 rfl) ?_;refine mq ?_;obtain⟨x9,j,h⟩:=aa h;refine kb (bu (t:=(.int .i64)) rfl ep cH j) ?_;refine be rfl rfl (cZ (i:=Int.toNat y3.2.2.2.2) rfl cH rfl (iG j) rfl .int rfl) ⟨rfl,rfl,trivial⟩ ?_;obtain⟨D,e,h⟩:=aa h;refine kb (bu (t:=(.int .i64)) rfl ep cH e) ?_;refine be rfl rfl (cZ (i:=Int.toNat r5.1) rfl cH rfl (iG e) rfl .int rfl) ⟨rfl,rfl,trivial⟩ ?_;refine ar (aK (tn (ab (mq ?_))));obtain⟨u,s,h⟩:=aa h;refine jb (bi rfl s) ?_;refine aq (nl ?_);exact jz (v7,(r5.2.1,r5.2.2.1,r5.2.2.2,List.set (List.set (y3.2.2.2.1++[y3.2.2.2.2]) (Int.toNat y3.2.2.2.2) x8) (Int.toNat r5.1) y3.2.2.2.2,u)) h [1,0]
  ·refine xa ?_;exact jz (z4,(y3.2.2.2.1,y3.1,y3.2.1,y3.2.2.1)) h [1,0]
 ·
  refine sr (mq ?_);refine aq (nt (aA ?_));refine bz (gr [4,5,31] ⟨rfl,rfl,rfl,trivial⟩) ?_;cases h;exact aF () [_] 1 ⟨rfl,trivial⟩ rfl
def nO(k:Nat)(a0:Int)(a1:Int):Option Int:=
 (dh (a1≠0)).bind fun _=>
 (ck ((Int.tmod a0 a1)+a1)).bind fun x2=>
 (dh (a1≠0)).bind fun _=>
 some (Int.tmod x2 a1)
theorem yy(k:Nat)(a0:Int)(a1:Int)(r:Int)(h:nO k a0 a1=some r):
 bW Tryz.prog 122 [I a0,I a1] [] (fun _:Unit=>(bp [I r],[])):=by
 unfold nO at h
 replace h:=a9 h
 refine bW.of 12 Tryz.func122 rfl Tryz.ntmps122 rfl fun S w0=>?_
 refine sr ?_
 refine cq ?_
 refine nt ?_
 refine sr ?_
 iterate 2 refine mq ?_
 obtain⟨u1,j,h⟩:=aa h
 refine jb (EF rfl (aC j)) ?_
 refine mq ?_
 obtain⟨x2,c,h⟩:=aa h
 refine jb (bi rfl c) ?_
 refine mq ?_
 obtain⟨u3,e,h⟩:=aa h
 refine jb (EF rfl (aC e)) ?_
 refine aq ?_
 refine nt ?_
 refine aA ?_
 cases h
 exact ra
def cO(k:Nat)(a1:bj)(r7:(List Int)×bK)(c:(List Int)×Int×Int×(List Int)×Int×(List (List Int)))(e:Int×bK):Nat→(Int×(List (List Int)))→Option ((List Int)×Int×Int×(List Int)×(List (List Int)))
 |0,_=>none
 |n+1,h=>
  if h.1 < (c.2.2.2.1.length:Int) then((ck (e.1+h.1)).bind fun O=>
  (nO k O (c.2.2.2.1.length:Int)).bind fun j=>
  (((bb c.2.2.2.1 j).bind fun M=>
  (bb r7.1 c.2.2.2.2.1).bind fun J=>
  (bb a1.2.1 J).bind fun I=>
  if I.1≤M then(some (true,h.2)) else((ck ((c.2.2.2.1.length:Int) - 1)).bind fun F=>
  some (decide (h.1=F),h.2))):Option (Bool×(List (List Int)))).bind fun l=>
  if l.1=true then((bb l.2 j).bind fun s=>
  (bb r7.1 c.2.2.2.2.1).bind fun r=>
  (dh (bO (List.length s+List.length [r]))).bind fun _=>
  (bb c.2.2.2.1 j).bind fun E=>
  (bb r7.1 c.2.2.2.2.1).bind fun D=>
  (bb a1.2.1 D).bind fun y=>
  (ck (E - y.1)).bind fun x=>
  (bb c.2.2.2.1 j).bind fun Q=>
  some (e.2.1,e.2.2.1,e.2.2.2,List.set c.2.2.2.1 (Int.toNat j) x,List.set l.2 (Int.toNat j) (s++[r]))) else((ck (h.1+1)).bind fun u=>
  cO k a1 r7 c e n (u,l.2))) else(some (e.2.1,e.2.2.1,e.2.2.2,c.2.2.2.1,h.2))
def d6(k:Nat)(a1:bj)(r7:(List Int)×bK):Nat→((List Int)×Int×Int×(List Int)×Int×(List (List Int)))→Option ((List Int)×Int×Int×(List (List Int)))
 |0,_=>none
 |n+1,c=>
  if c.2.2.2.2.1 < (r7.1.length:Int) then((((ck ((c.2.2.2.1.length:Int) - 1)).bind fun j=>
  (dr k (c.1,c.2.1,c.2.2.1) j).bind fun l=>
  cO k a1 r7 c l k (0,c.2.2.2.2.2)):Option ((List Int)×Int×Int×(List Int)×(List (List Int)))).bind fun e=>
  (ck (c.2.2.2.2.1+1)).bind fun h=>
  d6 k a1 r7 n (e.1,e.2.1,e.2.2.1,e.2.2.2.1,h,e.2.2.2.2)) else(some (c.1,c.2.1,c.2.2.1,c.2.2.2.2.2))
def gq(k:Nat)(a0:bK)(a1:bj):Option ((List (List Int))×bK):=
 (dh (0≤(a1.2.2.length:Int)∧bO (Int.toNat (a1.2.2.length:Int)))).bind fun _=>
 (dh (bO (List.length ([]:(List Int))+List.length a1.2.2))).bind fun _=>
 (fH k (a0.1,a0.2.1,a0.2.2) (a1.2.1.length:Int)).bind fun r7=>
 ((d6 k a1 r7 k (r7.2.1,r7.2.2.1,r7.2.2.2,([]:(List Int))++a1.2.2,0,List.replicate (Int.toNat (a1.2.2.length:Int)) ([]:(List Int)))):Option ((List Int)×Int×Int×(List (List Int)))).bind fun x8=>
 some (x8.2.2.2,(x8.1,x8.2.1,x8.2.2.1))
theorem rQ(k:Nat)(a0:bK)(e:Nat)(a1:bj)(r:(List (List Int))×bK)(h:gq k a0 a1=some r):
 bW Tryz.prog 81 [Pt e,.rep aD a1] [.obj e 98 (.agg (.pair (Ri a0.1) (.pair (I a0.2.1) (.eq (.int .u64 a0.2.2)))))] (fun _:Unit=>(bp [.rep (.slice (.slice (.int .i64))) r.1],[.obj e 98 (.agg (.pair (Ri r.2.1) (.pair (I r.2.2.1) (.eq (.int .u64 r.2.2.2)))))])):=by
 unfold gq at h
 replace h:=a9 h
 refine bW.of 100 Tryz.func81 rfl Tryz.ntmps81 rfl fun S w0=>?_
 refine sr ?_
 refine bx fun b1=>?_
 refine cq ?_
 refine nt ?_
 refine sr ?_
 refine fl fq ?_
 refine lo cp ?_
 refine ol ep ?_
 obtain⟨u2,Rw,h⟩:=aa h
 refine aH rfl rfl rfl (EJ (t:=.val) (d:=.slice none 0 0) rfl qo LW (aC Rw).1 (aC Rw).2) ⟨rfl,rfl,trivial⟩ fun v3=>?_
 refine cd (y8 (F:=[.obj b1 25 (.rep aD a1),.obj e 98 (.agg (.pair (Ri a0.1) (.pair (I a0.2.1) (.eq (.int .u64 a0.2.2)))))])) ?_
 refine aq ?_
 refine nt ?_
 refine sr ?_
 refine aH rfl rfl rfl (mU (t:=(.int .i64)) [] ([]:(List Int)) rfl rfl eB .nil rfl rfl) trivial fun v4=>?_
 refine fl fq ?_
 refine fr 1 ?_
 refine lo cp ?_
 obtain⟨u5,RQ,h⟩:=aa h
 refine fr 1 ?_
 refine dI rfl rfl rfl (bY rfl rfl eB (aC RQ)) ⟨rfl,rfl,trivial⟩ fun v6=>?_
 refine aq ?_
 refine nt ?_
 refine sr ?_
 refine mq ?_
 refine fl eO ?_
 refine fr 1 ?_
 refine lo lp ?_
 refine ol s4 ?_
 obtain⟨r7,RR,h⟩:=aa h
 have RS:=qH k (a0.1,a0.2.1,a0.2.2) e (a1.2.1.length:Int) r7 RR
 refine fr 2 ?_
 refine kb (ap [.tmp 20,.tmp 23] rfl rfl Qb rfl RS) ?_
 refine aq ?_
 refine nt ?_
 refine aX (Z:=(Value×(Nat→Value))) (α:=(List Int)×Int×Int×(List (List Int))) (fun z9 x8=>[(5,.eq z9.1)]) (fun z9 x8=>[.obj e 98 (.agg (.pair (Ri x8.1) (.pair (I x8.2.1) (.eq (.int .u64 x8.2.2.1)))))]++ek 23 z9 x8.2.2.2) h (fun K h=>?_) (fun z9 x8 h=>?_)
 ·
  refine sr (cq (nt (aj ?_)));refine aL (Z:=(Value×(Nat→Value))) (α:=(List Int)×Int×Int×(List Int)×Int×(List (List Int))) (fun Q j=>[(0,Pt e),(3,Pt b1),(5,.eq Q.1),(6,.eq v6),(7,Ri r7.1),(8,I j.2.2.2.2.1)]) (fun Q j=>[.obj e 98 (.agg (.pair (Ri j.1) (.pair (I j.2.1) (.eq (.int .u64 j.2.2.1))))),.obj b1 25 (.rep aD a1),.sl v6 3 (.int .i64) j.2.2.2.1]++ek 23 Q j.2.2.2.2.2) (d6 k a1 r7) k (v3,fun _=>.slice none 0 0) (r7.2.1,r7.2.2.1,r7.2.2.2,([]:(List Int))++a1.2.2,0,List.replicate (Int.toNat (a1.2.2.length:Int)) ([]:(List Int))) (fun _=>rfl) h (aV [.obj e 98 (.agg (.pair (Ri r7.2.1) (.pair (I r7.2.2.1) (.eq (.int .u64 r7.2.2.2))))),.obj b1 25 (.rep aD a1),.sl v6 3 (.int .i64) (([]:(List Int))++a1.2.2)] (ek 23 (v3,fun _=>.slice none 0 0) (List.replicate (Int.toNat (a1.2.2.length:Int)) ([]:(List Int)))) [0,1,2] ⟨rfl,rfl,rfl,rfl,rfl,rfl,trivial⟩ rfl) (fun n Q j h=>?_);unfold d6 at h;refine ah (sr ?_);iterate 2 refine mq ?_
  refine ol ep ?_;refine jb (bG rfl) ?_;refine nt (ci h (fun h=>?_) (fun h=>?_))
  ·refine sk (aX (Z:=(Value×(Nat→Value))) (α:=(List Int)×Int×Int×(List Int)×(List (List Int))) (fun X u=>[(0,Pt e),(3,Pt b1),(5,.eq X.1),(6,.eq v6),(7,Ri r7.1),(8,I j.2.2.2.2.1)]) (fun X u=>[.obj e 98 (.agg (.pair (Ri u.1) (.pair (I u.2.1) (.eq (.int .u64 u.2.2.1))))),.obj b1 25 (.rep aD a1),.sl v6 3 (.int .i64) u.2.2.2.1]++ek 23 X u.2.2.2.2) h (fun K h=>?_) (fun X u h=>?_))
   ·refine aj (sr ?_);iterate 2 refine mq ?_
    refine fr 2 ?_;refine ka (cN rfl rfl ep) ?_;obtain⟨RE,Rt,h⟩:=aa h;refine jb (eJ rfl Rt) ?_;obtain⟨c,Ry,h⟩:=aa h;refine fr 1 ?_;refine kb (ap [.tmp 31,.tmp 34] rfl rfl Gg rfl (fG k (j.1,j.2.1,j.2.2.1) e RE c Ry)) ?_;refine aq (nt (sr ?_));refine cq (nt (aj ?_));refine aL (Z:=(Value×(Nat→Value))) (α:=Int×(List (List Int))) (fun E y=>[(0,Pt e),(3,Pt b1),(5,.eq E.1),(6,.eq v6),(7,Ri r7.1),(8,I j.2.2.2.2.1),(9,I c.1),(10,I y.1)]) (fun E y=>[.obj e 98 (.agg (.pair (Ri c.2.1) (.pair (I c.2.2.1) (.eq (.int .u64 c.2.2.2))))),.obj b1 25 (.rep aD a1),.sl v6 3 (.int .i64) j.2.2.2.1]++ek 23 E y.2) (cO k a1 r7 j c) k Q (0,j.2.2.2.2.2) (fun _=>rfl) h (aV [.obj e 98 (.agg (.pair (Ri c.2.1) (.pair (I c.2.2.1) (.eq (.int .u64 c.2.2.2))))),.sl v6 3 (.int .i64) j.2.2.2.1,.obj b1 25 (.rep aD a1)] (ek 23 Q j.2.2.2.2.2) [0,2,1] ⟨rfl,rfl,rfl,rfl,rfl,rfl,rfl,rfl,trivial⟩ rfl) (fun n E y h=>?_);unfold cO at h;refine ah (sr ?_);iterate 2 refine mq ?_
    refine fr 2 ?_;refine ka (cN rfl rfl ep) ?_;refine jb (bG rfl) ?_;refine nt (ci h (fun h=>?_) (fun h=>?_))
    ·refine sk (ah (aj (sr ?_)));iterate 2 refine mq ?_
     obtain⟨RD,Rr,h⟩:=aa h;refine jb (bi rfl Rr) ?_;refine mq ?_;refine ka (cN rfl rfl ep) ?_;obtain⟨s,Rx,h⟩:=aa h;refine jb (ap [.tmp 44,.tmp 46] rfl rfl Ou rfl (yy k RD (j.2.2.2.1.length:Int) s Rx)) ?_;refine aq (nt ?_);refine aX (Z:=(Value×(Nat→Value))) (α:=Bool×(List (List Int))) (fun l x=>[(0,Pt e),(3,Pt b1),(5,.eq l.1),(6,.eq v6),(7,Ri r7.1),(8,I j.2.2.2.2.1),(9,I c.1),(10,I y.1),(11,I s),(68,.eq (.bool x.1))]) (fun l x=>[.obj e 98 (.agg (.pair (Ri c.2.1) (.pair (I c.2.2.1) (.eq (.int .u64 c.2.2.2))))),.obj b1 25 (.rep aD a1),.sl v6 3 (.int .i64) j.2.2.2.1]++ek 23 l x.2) h (fun K h=>?_) (fun l x h=>?_)
     ·refine cu ?_;refine dm ?_;refine dm ?_;obtain⟨SL,mc,h⟩:=aa h;refine eb 0 (bu (t:=(.int .i64)) rfl ep cH mc) ?_;refine ea 0 (fD (i:=Int.toNat s) (off:=0) rfl cH (fun _=>rfl) rfl (cP mc).2.2 rfl) ?_;refine da (aw rfl eO) ?_;refine ea 2 (an rfl lp mX rfl) ?_;refine dm ?_;refine dm ?_;obtain⟨SK,Rq,h⟩:=aa h;refine db (aN (t:=(.int .i64)) rfl ep cH Rq) ?_;refine da (ao (t:=(.int .i64)) rfl cH rfl) ?_;obtain⟨SJ,Ro,h⟩:=aa h;refine db (aN (t:=cD) rfl s4 nn Ro) ?_;refine da (aI 1 false rfl nW rfl) ?_;refine da (ao (t:=(.int .i64)) rfl cH rfl) ?_;refine db (nH rfl) ?_;refine s8 rfl rfl rfl (aU rfl) ⟨rfl,trivial⟩ (fun hb=>?_) (fun hb=>?_)
      ·replace h:=cC (nr hb) h;iterate 4 refine dg ?_
       refine df fe ?_;refine gn ?_;refine pt (nl ?_);exact gw (E,(true,y.2)) h (aV [.sl v6 3 (.int .i64) j.2.2.2.1,.obj e 98 (.agg (.pair (Ri c.2.1) (.pair (I c.2.2.1) (.eq (.int .u64 c.2.2.2))))),.obj b1 25 (.rep aD a1)] (ek 23 E y.2) [1,2,0] ⟨rfl,rfl,rfl,rfl,rfl,rfl,rfl,rfl,rfl,rfl,trivial⟩ rfl)
      ·replace h:=bL (m6 hb) h;refine bX rfl rfl rfl rfl rfl (aU rfl) ⟨rfl,rfl,trivial⟩ ?_;refine bX rfl rfl rfl rfl rfl (aU rfl) ⟨rfl,rfl,trivial⟩ ?_;refine lM 0 rfl rfl rfl rfl rfl rfl (cN rfl rfl ep) ⟨rfl,rfl,trivial⟩ ?_;obtain⟨RB,Rn,h⟩:=aa h;refine bX rfl rfl rfl rfl rfl (eJ rfl Rn) ⟨rfl,rfl,rfl,trivial⟩ ?_;refine df fe ?_;refine gb (dS rfl) ?_;refine pf (nl ?_);exact gw (E,(decide (y.1=RB),y.2)) h (aV [.sl v6 3 (.int .i64) j.2.2.2.1,.obj e 98 (.agg (.pair (Ri c.2.1) (.pair (I c.2.2.1) (.eq (.int .u64 c.2.2.2))))),.obj b1 25 (.rep aD a1)] (ek 23 E y.2) [1,2,0] ⟨rfl,rfl,rfl,rfl,rfl,rfl,rfl,rfl,rfl,rfl,trivial⟩ rfl)
     ·refine cv h (fun h=>?_) (fun h=>?_)
      ·refine ah ?_;obtain⟨O,J,h⟩:=aa h;refine fN (sd (pre:=[.obj e 98 (.agg (.pair (Ri c.2.1) (.pair (I c.2.2.1) (.eq (.int .u64 c.2.2.2))))),.obj b1 25 (.rep aD a1),.sl v6 3 (.int .i64) j.2.2.2.1]) (oL J).2) ?_;obtain⟨M,Rm,h⟩:=aa h;obtain⟨TB,Ru,h⟩:=aa h;obtain⟨SI,ac,h⟩:=aa h;obtain⟨SH,Rl,h⟩:=aa h;obtain⟨SG,Rk,h⟩:=aa h;obtain⟨U,Rj,h⟩:=aa h;obtain⟨SD,Y,h⟩:=aa h;refine uv (Δ:=[.sl (l.2 (Int.toNat s)) 3 (.int .i64) O,.sl l.1 23 .val (dY l.2 0 x.2),.obj e 98 (.agg (.pair (Ri c.2.1) (.pair (I c.2.2.1) (.eq (.int .u64 c.2.2.2))))),.obj b1 25 (.rep aD a1),.sl v6 3 (.int .i64) j.2.2.2.1]) (F:=(kD l.2 0 x.2).eraseIdx (Int.toNat s)) (Z:=Value) (fun i=>[(0,Pt e),(3,Pt b1),(5,.eq l.1),(6,.eq v6),(7,Ri r7.1),(8,I j.2.2.2.2.1)]) (fun i=>[.sl v6 3 (.int .i64) (List.set j.2.2.2.1 (Int.toNat s) U),.sl l.1 23 .val (List.set (dY l.2 0 x.2) (Int.toNat s) i),.sl i 3 (.int .i64) (O++[M]),.obj e 98 (.agg (.pair (Ri c.2.1) (.pair (I c.2.2.1) (.eq (.int .u64 c.2.2.2))))),.obj b1 25 (.rep aD a1)]) (fun S w=>?_) (fun D=>?_)
       ·refine j8 ?_;refine aJ rfl rfl rfl (aU rfl) ⟨rfl,trivial⟩ ?_;refine aJ rfl rfl rfl (aU rfl) ⟨rfl,trivial⟩ ?_;refine aJ rfl rfl rfl (aU rfl) ⟨rfl,trivial⟩ ?_;refine aJ rfl rfl rfl (aU rfl) ⟨rfl,trivial⟩ ?_;refine aJ rfl rfl rfl (aU rfl) ⟨rfl,trivial⟩ ?_;refine aJ rfl rfl rfl (aU rfl) ⟨rfl,trivial⟩ ?_;refine eF 1 rfl rfl rfl rfl (bu (t:=.val) rfl mH cp (jH J)) ⟨rfl,rfl,trivial⟩ ?_;refine eF 1 rfl rfl rfl rfl (fD (i:=Int.toNat s) (off:=0) rfl cp (fun _=>rfl) rfl (cP (jH J)).2.2 rfl) ⟨rfl,trivial⟩ ?_;refine aJ rfl rfl rfl (aU rfl) ⟨rfl,trivial⟩ ?_;refine aJ rfl rfl rfl (aU rfl) ⟨rfl,trivial⟩ ?_;refine aJ rfl rfl rfl (aN (t:=(.int .i64)) rfl ep cH Rm) ⟨rfl,rfl,trivial⟩ ?_;refine aJ rfl rfl rfl (ao (t:=(.int .i64)) rfl cH rfl) ⟨rfl,trivial⟩ ?_;refine aJ rfl rfl rfl (bB (t:=(.int .i64)) [(.tmp 80,_)] [M] rfl rfl eB (.cons rfl .int .nil) rfl rfl) ⟨rfl,trivial⟩ ?_;refine uw 0 rfl (fun v=>[.sl v 3 (.int .i64) (O++[M])]) (fun _=>rfl) rfl rfl rfl (bY rfl rfl eB (aC Ru)) ⟨rfl,rfl,trivial⟩ ?_;refine aJ rfl rfl rfl (aU rfl) ⟨rfl,trivial⟩ ?_;refine aJ rfl rfl rfl (aU rfl) ⟨rfl,trivial⟩ ?_;refine eF 4 rfl rfl rfl rfl (bu (t:=(.int .i64)) rfl ep cH ac) ⟨rfl,rfl,trivial⟩ ?_;refine eF 4 rfl rfl rfl rfl (fD (i:=Int.toNat s) (off:=0) rfl cH (fun _=>rfl) rfl (cP ac).2.2 rfl) ⟨rfl,trivial⟩ ?_;refine aJ rfl rfl rfl (aw rfl eO) ⟨rfl,trivial⟩ ?_;refine eF 3 rfl rfl rfl rfl (an rfl lp mX rfl) ⟨rfl,trivial⟩ ?_;refine aJ rfl rfl rfl (aU rfl) ⟨rfl,trivial⟩ ?_;refine aJ rfl rfl rfl (aU rfl) ⟨rfl,trivial⟩ ?_;refine aJ rfl rfl rfl (aN (t:=(.int .i64)) rfl ep cH Rl) ⟨rfl,rfl,trivial⟩ ?_;refine aJ rfl rfl rfl (ao (t:=(.int .i64)) rfl cH rfl) ⟨rfl,trivial⟩ ?_;refine aJ rfl rfl rfl (aN (t:=cD) rfl s4 nn Rk) ⟨rfl,rfl,trivial⟩ ?_;refine aJ rfl rfl rfl (aI 1 false rfl nW rfl) ⟨rfl,trivial⟩ ?_;refine aJ rfl rfl rfl (ao (t:=(.int .i64)) rfl cH rfl) ⟨rfl,trivial⟩ ?_;refine aJ rfl rfl rfl (eJ rfl Rj) ⟨rfl,rfl,trivial⟩ ?_;refine eF 1 rfl rfl rfl rfl (bu (t:=.val) rfl mH cp (jH J)) ⟨rfl,rfl,trivial⟩ ?_;refine om 29 [true,true,false,false,true,true,true,true,true,true,true,true,true,true,true,true,true,true,true,true,true,true,true,true,true,true,true,false,true] [98] [] [] rfl (by kernel_rfl) (by kernel_rfl) (by kernel_rfl) fe (fun vs hv hB=>?_);obtain⟨w0,TA,rfl,RP⟩:=ak hv;obtain⟨w1,Tz,rfl,RO⟩:=ak RP;obtain⟨w2,Tv,rfl,RN⟩:=ak RO;obtain⟨w3,Tu,rfl,RL⟩:=ak RN;obtain⟨w4,Tt,rfl,RJ⟩:=ak RL;obtain⟨w5,To,rfl,RI⟩:=ak RJ;obtain⟨w6,Tn,rfl,RH⟩:=ak RI;obtain⟨w7,Tm,rfl,RG⟩:=ak RH;obtain⟨w8,Tj,rfl,RF⟩:=ak RG;obtain⟨w9,SC,rfl,Re⟩:=ak RF;obtain⟨Ti,SB,rfl,Rb⟩:=ak Re;obtain⟨Tf,SA,rfl,Q9⟩:=ak Rb;obtain⟨Td,Sz,rfl,Q8⟩:=ak Q9;obtain⟨D,Sv,rfl,Q7⟩:=ak Q8;obtain⟨Ta,Su,rfl,Q6⟩:=ak Q7;obtain⟨S9,Ss,rfl,Q5⟩:=ak Q6;obtain⟨S8,Sr,rfl,Q4⟩:=ak Q5;obtain⟨S7,Sm,rfl,Q3⟩:=ak Q4;obtain⟨S5,Sl,rfl,Q2⟩:=ak Q3;obtain⟨SZ,Sj,rfl,Q1⟩:=ak Q2;obtain⟨SY,Si,rfl,Q0⟩:=ak Q1;obtain⟨SX,R9,rfl,QZ⟩:=ak Q0;obtain⟨SV,R7,rfl,QY⟩:=ak QZ;obtain⟨SU,R2,rfl,QX⟩:=ak QY;obtain⟨SS,RZ,rfl,QW⟩:=ak QX;obtain⟨SR,RY,rfl,QV⟩:=ak QW;obtain⟨SQ,RX,rfl,se⟩:=ak QV
        obtain⟨SO,RV,rfl,qt⟩:=ak se;obtain⟨SN,RU,rfl,pp⟩:=ak qt;obtain rfl:=lH pp;refine⟨[0,1,2,3,4],[.sl l.1 23 .val (dY l.2 0 x.2),.obj e 98 (.agg (.pair (Ri c.2.1) (.pair (I c.2.2.1) (.eq (.int .u64 c.2.2.2))))),.obj b1 25 (.rep aD a1),.sl v6 3 (.int .i64) j.2.2.2.1,.sl D 3 (.int .i64) (O++[M])],by kernel_rfl,by decide,?_⟩;refine lj 4 rfl ?_;refine GT fun o34=>?_;refine lj 1 rfl ?_;refine pU rfl rfl (cZ (i:=Int.toNat s) rfl cp rfl (iG (jH J)) rfl (.val o34) o34) ⟨rfl,rfl,trivial⟩ (by kernel_rfl) ?_;refine lj 4 rfl ?_;refine GR rfl rfl rfl rfl (bu (t:=(.int .i64)) rfl ep cH Y) ⟨rfl,rfl,trivial⟩ (by kernel_rfl) ?_;refine pU rfl rfl (cZ (i:=Int.toNat s) rfl cH rfl (iG Y) rfl .int rfl) ⟨rfl,rfl,trivial⟩ (by kernel_rfl) ?_;refine sf ?_;refine bz (SE.fin (Γ':=[(0,Pt e),(3,Pt b1),(5,.eq l.1),(6,.eq v6),(7,Ri r7.1),(8,I j.2.2.2.2.1)]) (Δ':=[.sl v6 3 (.int .i64) (List.set j.2.2.2.1 (Int.toNat s) U),.sl l.1 23 .val (List.set (dY l.2 0 x.2) (Int.toNat s) D),.sl D 3 (.int .i64) (O++[M]),.obj e 98 (.agg (.pair (Ri c.2.1) (.pair (I c.2.2.1) (.eq (.int .u64 c.2.2.2))))),.obj b1 25 (.rep aD a1)]) [0,1,2,3,4] ⟨rfl,rfl,rfl,rfl,rfl,rfl,trivial⟩ rfl) ?_;exact fun a w st=>⟨rfl,(D),(SE.fin (Γ':=[(0,Pt e),(3,Pt b1),(5,.eq l.1),(6,.eq v6),(7,Ri r7.1),(8,I j.2.2.2.2.1)]) (Δ':=[.sl v6 3 (.int .i64) (List.set j.2.2.2.1 (Int.toNat s) U),.sl l.1 23 .val (List.set (dY l.2 0 x.2) (Int.toNat s) D),.sl D 3 (.int .i64) (O++[M]),.obj e 98 (.agg (.pair (Ri c.2.1) (.pair (I c.2.2.1) (.eq (.int .u64 c.2.2.2))))),.obj b1 25 (.rep aD a1)]) [0,1,2,3,4] ⟨rfl,rfl,rfl,rfl,rfl,rfl,trivial⟩ rfl) a w st⟩
       ·show JN _ _ [(0,Pt e),(3,Pt b1),(5,.eq l.1),(6,.eq v6),(7,Ri r7.1),(8,I j.2.2.2.2.1)] ([.sl v6 3 (.int .i64) (List.set j.2.2.2.1 (Int.toNat s) U),.sl l.1 23 .val (List.set (dY l.2 0 x.2) (Int.toNat s) D),.sl D 3 (.int .i64) (O++[M]),.obj e 98 (.agg (.pair (Ri c.2.1) (.pair (I c.2.2.1) (.eq (.int .u64 c.2.2.2))))),.obj b1 25 (.rep aD a1)]++(kD l.2 0 x.2).eraseIdx (Int.toNat s));refine di 1 rfl ?_;refine di 2 rfl ?_;refine bz (uk (pre:=[.sl v6 3 (.int .i64) (List.set j.2.2.2.1 (Int.toNat s) U),.obj e 98 (.agg (.pair (Ri c.2.1) (.pair (I c.2.2.1) (.eq (.int .u64 c.2.2.2))))),.obj b1 25 (.rep aD a1)]) (z:=l) (i:=Int.toNat s) (oL J).2) ?_;refine tn (dt (zf (eq_false (by decide)) ?_));refine aP (aP (bQ (bn ?_)));exact gw ((l.1,lr l.2 (Int.toNat s) D),(c.2.1,c.2.2.1,c.2.2.2,List.set j.2.2.2.1 (Int.toNat s) U,List.set x.2 (Int.toNat s) (O++[M]))) h (aV [.sl v6 3 (.int .i64) (List.set j.2.2.2.1 (Int.toNat s) U),.obj e 98 (.agg (.pair (Ri c.2.1) (.pair (I c.2.2.1) (.eq (.int .u64 c.2.2.2))))),.obj b1 25 (.rep aD a1)] (ek 23 (l.1,lr l.2 (Int.toNat s) D) (List.set x.2 (Int.toNat s) (O++[M]))) [1,2,0] ⟨rfl,rfl,rfl,rfl,rfl,rfl,trivial⟩ rfl)
      ·refine aS (aK (tn (ab (mq ?_))));obtain⟨RA,Rh,h⟩:=aa h;refine jb (bi rfl Rh) ?_;refine aq (nl ?_);exact gw (l,(RA,x.2)) h (aV [.obj e 98 (.agg (.pair (Ri c.2.1) (.pair (I c.2.2.1) (.eq (.int .u64 c.2.2.2))))),.obj b1 25 (.rep aD a1),.sl v6 3 (.int .i64) j.2.2.2.1] (ek 23 l x.2) [0,1,2] ⟨rfl,rfl,rfl,rfl,rfl,rfl,rfl,rfl,trivial⟩ rfl)
    ·refine dt (aP (aP (bQ (bn ?_))));exact gw (E,(c.2.1,c.2.2.1,c.2.2.2,j.2.2.2.1,y.2)) h (aV [.sl v6 3 (.int .i64) j.2.2.2.1,.obj e 98 (.agg (.pair (Ri c.2.1) (.pair (I c.2.2.1) (.eq (.int .u64 c.2.2.2))))),.obj b1 25 (.rep aD a1)] (ek 23 E y.2) [1,2,0] ⟨rfl,rfl,rfl,rfl,rfl,rfl,trivial⟩ rfl)
   ·refine ab (mq ?_);obtain⟨Rz,Rf,h⟩:=aa h;refine jb (bi rfl Rf) ?_;refine aq (nl ?_);exact gw (X,(u.1,u.2.1,u.2.2.1,u.2.2.2.1,Rz,u.2.2.2.2)) h (aV [.obj e 98 (.agg (.pair (Ri u.1) (.pair (I u.2.1) (.eq (.int .u64 u.2.2.1))))),.obj b1 25 (.rep aD a1),.sl v6 3 (.int .i64) u.2.2.2.1] (ek 23 X u.2.2.2.2) [0,1,2] ⟨rfl,rfl,rfl,rfl,rfl,rfl,trivial⟩ rfl)
  ·refine xa ?_;exact gw (Q,(j.1,j.2.1,j.2.2.1,j.2.2.2.2.2)) h (aV [.obj e 98 (.agg (.pair (Ri j.1) (.pair (I j.2.1) (.eq (.int .u64 j.2.2.1))))),.obj b1 25 (.rep aD a1),.sl v6 3 (.int .i64) j.2.2.2.1] (ek 23 Q j.2.2.2.2.2) [0] ⟨rfl,trivial⟩ rfl)
 ·
  refine sr (mq ?_);refine aq (nt (aA ?_));refine bz (za (pre:=[.obj e 98 (.agg (.pair (Ri x8.1) (.pair (I x8.2.1) (.eq (.int .u64 x8.2.2.1)))))])) ?_;refine bz (gr [4,5,99] ⟨rfl,rfl,rfl,trivial⟩) ?_;cases h;exact aF () [_] 1 ⟨rfl,trivial⟩ rfl
def f5(k:Nat)(a0:Int)(a1:Int)(a2:Int):Option Bool:=
 ((if a1≤a0 then(some (decide (a0≤a2))) else(some false)):Option (Bool)).bind fun x1=>
 some x1
theorem io(k:Nat)(a0:Int)(a1:Int)(a2:Int)(r:Bool)(h:f5 k a0 a1 a2=some r):
 bW Tryz.prog 90 [I a0,I a1,I a2] [] (fun _:Unit=>(bp [.eq (.bool r)],[])):=by
 unfold f5 at h
 replace h:=a9 h
 refine bW.of 15 Tryz.func90 rfl Tryz.ntmps90 rfl fun S w0=>?_
 refine sr ?_
 refine cq ?_
 refine nt ?_
 refine aX (Z:=Unit) (α:=Bool) (fun z2 x1=>[(6,.eq (.bool x1))]) (fun z2 x1=>[]) h (fun K h=>?_) (fun z2 x1 h=>?_)
 ·
  refine ab ?_;iterate 2 refine mq ?_
  refine jb (nH rfl) ?_;refine mq ?_;refine bT (s:=10) rfl (fun hb=>?_) (fun hb=>?_)
  ·replace h:=cC (nr hb) h;refine gm ?_;refine gm ?_;refine gb (sA rfl) ?_;refine pt ?_;refine aq (nl ?_);exact jz ((),decide (a0≤a2)) h []
  ·replace h:=bL (m6 hb) h;iterate 3 refine gn ?_
   refine pf ?_;refine aq (nl ?_);exact jz ((),false) h []
 ·
  refine aA ?_;cases h;exact ra
def eZ(k:Nat)(a0:bj)(e:lg):Nat→Int→Option (Except Int Unit)
 |0,_=>none
 |n+1,c=>
  if c < (e.2.length:Int) then((bb e.2 c).bind fun x=>
  (ck (a0.1 - 1)).bind fun u=>
  (f5 k x 0 u).bind fun y=>
  if¬(y=true) then(some (.error 1)) else(((if 0 < c then((bb e.2 c).bind fun r=>
  (ck (c - 1)).bind fun l=>
  (bb e.2 l).bind fun j=>
  some (decide (r≤j))) else(some false)):Option (Bool)).bind fun s=>
  if s=true then(some (.error 5)) else((ck (c+1)).bind fun h=>
  eZ k a0 e n h))) else(some (.ok ()))
def fa(k:Nat)(a0:bj):Nat→Int→Option (Except Int Unit)
 |0,_=>none
 |n+1,y5=>
  if y5 < (a0.2.1.length:Int) then(bE (α:=Unit) ((bb a0.2.1 y5).bind fun x9=>
  (f5 k x9.1 1 3).bind fun j=>
  if¬(j=true) then(some (.error 1)) else((bb a0.2.1 y5).bind fun h=>
  eZ k a0 h k 0)) (fun e=>some (.error e)) fun _=>
  (ck (y5+1)).bind fun c=>
  fa k a0 n c) else(some (.ok ()))
def eY(k:Nat)(a0:bj):Nat→Int→Option (Except Int Unit)
 |0,_=>none
 |n+1,c=>
  if c < (a0.2.2.length:Int) then((bb a0.2.2 c).bind fun h=>
  (f5 k h 0 9).bind fun j=>
  if¬(j=true) then(some (.error 1)) else((ck (c+1)).bind fun e=>
  eY k a0 n e)) else(some (.ok ()))
def mj(k:Nat)(a0:bj):Option Int:=
 (f5 k a0.1 1 6).bind fun r2=>
 if¬(r2=true) then(some 1) else(if 5 < (a0.2.1.length:Int) then(some 6) else(bE (α:=Unit) (fa k a0 k 0) (some) fun _=>
 if(a0.2.2.length:Int)=0 then(some 7) else(if 3 < (a0.2.2.length:Int) then(some 6) else(bE (α:=Unit) (eY k a0 k 0) (some) fun _=>
 some 0))))
theorem wa(k:Nat)(a0:bj)(r:Int)(h:mj k a0=some r):
 bW Tryz.prog 34 [.rep aD a0] [] (fun _:Unit=>(bp [I r],[])):=by
 unfold mj at h
 replace h:=a9 h
 refine bW.of 87 Tryz.func34 rfl Tryz.ntmps34 rfl fun S w0=>?_
 refine sr ?_
 refine bx fun b1=>?_
 refine cq ?_
 refine nt ?_
 refine ah ?_
 refine sr ?_
 refine fl m5 ?_
 refine lo cH ?_
 obtain⟨r2,Q7,h⟩:=aa h
 have Q8:=io k a0.1 1 6 r2 Q7
 refine jc (ap [.tmp 8,.const (.int .i64 (1)),.const (.int .i64 (6))] rfl rfl Gf rfl Q8) ?_
 refine ja (eK rfl) ?_
 refine nt ?_
 refine cw h (fun h=>?_) (fun h=>?_)
 ·
  refine sr (cq (nt (rx ?_)));cases h;exact ra
 ·
  refine sk (ah (sr (fl eO ?_)));refine lo lp ?_;refine ol s4 ?_;refine jb (ji rfl) ?_;refine nt (ci h (fun h=>?_) (fun h=>?_))
  ·refine sr (cq (nt (rx ?_)));cases h;exact ra
  ·refine sk (dE (Z:=Unit) (α:=Unit) (fun z4 x3=>[(1,Pt b1)]) (fun z4 x3=>[.obj b1 25 (.rep aD a0)]) (fun e=>e=r) h (fun e h=>Option.some.inj h) (fun K hR h=>?_) (fun z4 x3 h=>?_))
   ·refine sr (cq (nt (aj ?_)));refine aL (fun z6 y5=>[(1,Pt b1),(3,I y5)]) (fun z6 y5=>[.obj b1 25 (.rep aD a0)]) (fa k a0) k () 0 (fun _=>rfl) h (SE.fin [0] ⟨rfl,rfl,trivial⟩ rfl) (fun n z6 y5 h=>?_);unfold fa at h;refine ah (sr (mq ?_));refine fl eO ?_;refine lo lp ?_;refine ol s4 ?_;refine jb (bG rfl) ?_;refine nt (ci h (fun h=>?_) (fun h=>?_))
    ·refine sk (dE (Z:=Unit) (α:=Unit) (fun z8 x7=>[(1,Pt b1),(3,I y5)]) (fun z8 x7=>[.obj b1 25 (.rep aD a0)]) (fun e=>e=r) h (fun e h=>hR e h) (fun K hR h=>?_) (fun z8 x7 h=>?_))
     ·refine aj (ah (sr (fl eO ?_)));refine lo lp ?_;refine mq ?_;obtain⟨x9,Q6,h⟩:=aa h;refine jb (aN (t:=cD) rfl s4 nn Q6) ?_;refine ja (aI 1 false rfl nW rfl) ?_;refine ja (ao (t:=(.int .i64)) rfl cH rfl) ?_;obtain⟨Q5,se,h⟩:=aa h;refine jc (ap [.tmp 27,.const (.int .i64 (1)),.const (.int .i64 (3))] rfl rfl Gf rfl (io k x9.1 1 3 Q5 se)) ?_;refine ja (eK rfl) ?_;refine nt (cw h (fun h=>?_) (fun h=>?_))
      ·refine sr (cq (nt (rx (br (aZ (aM ?_))))));obtain rfl:=hR _ h;exact ra
      ·refine sk (sr (fl eO ?_));refine lo lp ?_;refine mq ?_;obtain⟨s,mc,h⟩:=aa h;refine jb (aN (t:=cD) rfl s4 nn mc) ?_;refine ja (aI 1 false rfl rU rfl) ?_;refine ja (ao (t:=(.slice (.int .i64))) rfl cp rfl) ?_;refine aq (nt (sr ?_));refine cq (nt (aj ?_));refine aL (fun D c=>[(1,Pt b1),(3,I y5),(4,Ri s.2),(5,I c)]) (fun D c=>[.obj b1 25 (.rep aD a0)]) (eZ k a0 s) k () 0 (fun _=>rfl) h (SE.fin [0] ⟨rfl,rfl,rfl,rfl,trivial⟩ rfl) (fun n D c h=>?_);unfold eZ at h;refine ah (sr ?_);iterate 2 refine mq ?_
       refine ol ep ?_;refine jb (bG rfl) ?_;refine nt (ci h (fun h=>?_) (fun h=>?_))
       ·refine sk (ah (aj (ah (ah (cu ?_)))));refine dm ?_;refine dm ?_;obtain⟨Q2,ac,h⟩:=aa h;refine db (aN (t:=(.int .i64)) rfl ep cH ac) ?_;refine da (ao (t:=(.int .i64)) rfl cH rfl) ?_;refine da (aw rfl m5) ?_;refine ea 0 (an rfl cH mX rfl) ?_;obtain⟨Q1,Y,h⟩:=aa h;refine db (eJ rfl Y) ?_;refine df fe ?_;obtain⟨Q4,qt,h⟩:=aa h;refine jc (ap [.tmp 45,.const (.int .i64 (0)),.tmp 48] rfl rfl Gf rfl (io k Q2 0 Q1 Q4 qt)) ?_;refine ja (eK rfl) ?_;refine nt (cw h (fun h=>?_) (fun h=>?_))
        ·refine sr (cq (nt (rx (br (aZ (br (aZ (aM ?_))))))));obtain rfl:=hR _ h;exact ra
        ·refine sk (aX (Z:=Unit) (α:=Bool) (fun y l=>[(1,Pt b1),(3,I y5),(4,Ri s.2),(5,I c),(64,.eq (.bool l))]) (fun y l=>[.obj b1 25 (.rep aD a0)]) h (fun K h=>?_) (fun y l h=>?_))
         ·refine cu ?_;refine dm ?_;refine db (ji rfl) ?_;refine s8 rfl rfl rfl (aU rfl) ⟨rfl,trivial⟩ (fun hb=>?_) (fun hb=>?_)
          ·replace h:=cC (nr hb) h;refine bX rfl rfl rfl rfl rfl (aU rfl) ⟨rfl,rfl,trivial⟩ ?_;refine bX rfl rfl rfl rfl rfl (aU rfl) ⟨rfl,rfl,trivial⟩ ?_;obtain⟨Q0,X,h⟩:=aa h;refine bX rfl rfl rfl rfl rfl (aN (t:=(.int .i64)) rfl ep cH X) ⟨rfl,rfl,rfl,trivial⟩ ?_;refine bX rfl rfl rfl rfl rfl (ao (t:=(.int .i64)) rfl cH rfl) ⟨rfl,rfl,trivial⟩ ?_;refine bX rfl rfl rfl rfl rfl (aU rfl) ⟨rfl,rfl,trivial⟩ ?_;refine bX rfl rfl rfl rfl rfl (aU rfl) ⟨rfl,rfl,trivial⟩ ?_;obtain⟨Q9,U,h⟩:=aa h;refine bX rfl rfl rfl rfl rfl (eJ rfl U) ⟨rfl,rfl,rfl,trivial⟩ ?_;obtain⟨QZ,Q,h⟩:=aa h;refine bX rfl rfl rfl rfl rfl (aN (t:=(.int .i64)) rfl ep cH Q) ⟨rfl,rfl,rfl,trivial⟩ ?_;refine bX rfl rfl rfl rfl rfl (ao (t:=(.int .i64)) rfl cH rfl) ⟨rfl,rfl,trivial⟩ ?_;refine df fe ?_;refine gb (sA rfl) ?_;refine pt (nl ?_);exact jz ((),decide (Q0≤QZ)) h [0]
          ·replace h:=bL (m6 hb) h;iterate 9 refine dg ?_
           refine df fe ?_;refine gn ?_;refine pf (nl ?_);exact jz ((),false) h [0]
         ·refine cv h (fun h=>?_) (fun h=>?_)
          ·refine sr (cq (nt (aA (br (aZ (br (aZ (aM ?_))))))));obtain rfl:=hR _ h;exact ra
          ·refine aS (aK (tn (ab (mq ?_))));obtain⟨QY,O,h⟩:=aa h;refine jb (bi rfl O) ?_;refine aq (nl ?_);exact jz ((),QY) h [0]
       ·refine dt (aP (aP (bQ (bn ?_))));exact jz ((),()) h [0]
     ·refine ab (mq ?_);obtain⟨QX,M,h⟩:=aa h;refine jb (bi rfl M) ?_;refine aq (nl ?_);exact jz ((),QX) h [0]
    ·refine xa ?_;exact jz ((),()) h [0]
   ·refine ah (sr (fl fq ?_));refine lo cp ?_;refine ol ep ?_;refine jb (dS rfl) ?_;refine nt (ci h (fun h=>?_) (fun h=>?_))
    ·refine sr (cq (nt (rx ?_)));cases h;exact ra
    ·refine sk (ah (sr (fl fq ?_)));refine lo cp ?_;refine ol ep ?_;refine jb (ji rfl) ?_;refine nt (ci h (fun h=>?_) (fun h=>?_))
     ·refine sr (cq (nt (rx ?_)));cases h;exact ra
     ·refine sk (dE (Z:=Unit) (α:=Unit) (fun x E=>[]) (fun x E=>[]) (fun e=>e=r) h (fun e h=>Option.some.inj h) (fun K hR h=>?_) (fun x E h=>?_))
      ·refine sr (cq (nt (aj ?_)));refine aL (fun u j=>[(1,Pt b1),(6,I j)]) (fun u j=>[.obj b1 25 (.rep aD a0)]) (eY k a0) k () 0 (fun _=>rfl) h (SE.fin [0] ⟨rfl,rfl,trivial⟩ rfl) (fun n u j h=>?_);unfold eY at h;refine ah (sr (mq ?_));refine fl fq ?_;refine lo cp ?_;refine ol ep ?_;refine jb (bG rfl) ?_;refine nt (ci h (fun h=>?_) (fun h=>?_))
       ·refine sk (ah (aj (sr (fl fq ?_))));refine lo cp ?_;refine mq ?_;obtain⟨QW,J,h⟩:=aa h;refine jb (aN (t:=(.int .i64)) rfl ep cH J) ?_;refine ja (ao (t:=(.int .i64)) rfl cH rfl) ?_;obtain⟨Q3,pp,h⟩:=aa h;refine jc (ap [.tmp 84,.const (.int .i64 (0)),.const (.int .i64 (9))] rfl rfl Gf rfl (io k QW 0 9 Q3 pp)) ?_;refine ja (eK rfl) ?_;refine nt (cw h (fun h=>?_) (fun h=>?_))
        ·refine sr (cq (nt (aA (br (aZ (aM ?_))))));obtain rfl:=hR _ h;exact ra
        ·refine aS (aK (tn (ab (mq ?_))));obtain⟨QV,F,h⟩:=aa h;refine jb (bi rfl F) ?_;refine aq (nl ?_);exact jz ((),QV) h [0]
       ·refine xa ?_;exact jz ((),()) h []
      ·refine sr (cq (nt (aA ?_)));cases h;exact ra
def jQ(k:Nat)(a0:bj)(a1:Int):Option Bool:=
 (ck ((a0.2.1.length:Int) - 1)).bind fun x2=>
 (f5 k a1 0 x2).bind fun r3=>
 some r3
theorem tH(k:Nat)(a0:bj)(a1:Int)(r:Bool)(h:jQ k a0 a1=some r):
 bW Tryz.prog 95 [.rep aD a0,I a1] [] (fun _:Unit=>(bp [.eq (.bool r)],[])):=by
 unfold jQ at h
 replace h:=a9 h
 refine bW.of 11 Tryz.func95 rfl Tryz.ntmps95 rfl fun S w0=>?_
 refine sr ?_
 refine bx fun b1=>?_
 refine cq ?_
 refine nt ?_
 refine sr ?_
 refine mq ?_
 refine fl eO ?_
 refine lo lp ?_
 refine ol s4 ?_
 obtain⟨x2,c,h⟩:=aa h
 refine jb (eJ rfl c) ?_
 obtain⟨r3,e,h⟩:=aa h
 have j:=io k a1 0 x2 r3 e
 refine jc (ap [.tmp 5,.const (.int .i64 (0)),.tmp 9] rfl rfl Gf rfl j) ?_
 refine aq ?_
 refine nt ?_
 refine aA ?_
 cases h
 exact ra
def g7(k:Nat)(a0:(List Int))(a1:Int):Nat→Int→Option (Except Bool Unit)
 |0,_=>none
 |n+1,y3=>
  if y3 < (a0.length:Int) then((bb a0 y3).bind fun x5=>
  if x5=a1 then(some (.error true)) else((ck (y3+1)).bind fun x6=>
  g7 k a0 a1 n x6)) else(some (.ok ()))
def qq(k:Nat)(a0:(List Int))(a1:Int):Option Bool:=
 bE (α:=Unit) (g7 k a0 a1 k 0) (some) fun _=>
 some false
theorem zH(k:Nat)(a0:(List Int))(a1:Int)(r:Bool)(h:qq k a0 a1=some r):
 bW Tryz.prog 96 [Ri a0,I a1] [] (fun _:Unit=>(bp [.eq (.bool r)],[])):=by
 unfold qq at h
 replace h:=a9 h
 refine bW.of 18 Tryz.func96 rfl Tryz.ntmps96 rfl fun S w0=>?_
 refine sr ?_
 refine cq ?_
 refine nt ?_
 refine dE (Z:=Unit) (α:=Unit) (fun z2 x1=>[]) (fun z2 x1=>[]) (fun e=>e=r) h (fun e h=>Option.some.inj h) (fun K hR h=>?_) (fun z2 x1 h=>?_)
 ·
  refine sr (cq (nt (aj ?_)));refine aL (fun z4 y3=>[(0,Ri a0),(1,I a1),(5,I y3)]) (fun z4 y3=>[]) (g7 k a0 a1) k () 0 (fun _=>rfl) h (SE.fin [] ⟨rfl,rfl,rfl,trivial⟩ rfl) (fun n z4 y3 h=>?_);unfold g7 at h;refine ah (sr ?_);iterate 2 refine mq ?_
  refine ol ep ?_;refine jb (bG rfl) ?_;refine nt (ci h (fun h=>?_) (fun h=>?_))
  ·refine sk (ah (aj (sr ?_)));iterate 2 refine mq ?_
   obtain⟨x5,j,h⟩:=aa h;refine jb (aN (t:=(.int .i64)) rfl ep cH j) ?_;refine ja (ao (t:=(.int .i64)) rfl cH rfl) ?_;refine mq ?_;refine jb (dS rfl) ?_;refine nt (ci h (fun h=>?_) (fun h=>?_))
   ·refine sr (cq (nt (aA (br (aZ (aM ?_))))));obtain rfl:=hR _ h;exact ra
   ·refine aS (aK (tn (ab (mq ?_))));obtain⟨x6,c,h⟩:=aa h;refine jb (bi rfl c) ?_;refine aq (nl ?_);exact jz ((),x6) h []
  ·refine xa ?_;exact jz ((),()) h []
 ·
  refine sr (cq (nt (aA ?_)));cases h;exact ra
def bS(k:Nat)(a0:bj)(a1:(List (List Int)))(y5:(List Int)×Int):Nat→((List Int)×Int×Int)→Option (Except Int ((List Int)×Int))
 |0,_=>none
 |n+1,c=>
  (bb a1 y5.2).bind fun F=>
  if c.2.2 < (F.length:Int) then((bb a1 y5.2).bind fun E=>
  (bb E c.2.2).bind fun D=>
  (jQ k a0 D).bind fun J=>
  if¬(J=true) then(some (.error 3)) else((bb a1 y5.2).bind fun y=>
  (bb y c.2.2).bind fun x=>
  (qq k c.1 x).bind fun I=>
  if I=true then(some (.error 4)) else((bb a1 y5.2).bind fun u=>
  (bb u c.2.2).bind fun e=>
  (dh (bO (List.length c.1+List.length [e]))).bind fun _=>
  (bb a1 y5.2).bind fun s=>
  (bb s c.2.2).bind fun r=>
  (bb a0.2.1 r).bind fun l=>
  (ck (c.2.1+l.1)).bind fun j=>
  (ck (c.2.2+1)).bind fun h=>
  bS k a0 a1 y5 n (c.1++[e],j,h)))) else(some (.ok (c.1,c.2.1)))
def bZ(k:Nat)(a0:bj)(a1:(List (List Int))):Nat→((List Int)×Int)→Option (Except Int (List Int))
 |0,_=>none
 |n+1,y5=>
  if y5.2 < (a1.length:Int) then(bE (α:=(List Int)) (bE (α:=(List Int)×Int) (bS k a0 a1 y5 k (y5.1,0,0)) (fun e=>some (.error e)) fun x9=>
  (bb a0.2.2 y5.2).bind fun h=>
  if h < x9.2 then(some (.error 12)) else(some (.ok x9.1))) (fun e=>some (.error e)) fun x7=>
  (ck (y5.2+1)).bind fun c=>
  bZ k a0 a1 n (x7,c)) else(some (.ok y5.1))
def fC(k:Nat)(a0:bj)(a1:(List (List Int))):Option Int:=
 (mj k a0).bind fun r2=>
 if¬(r2=0) then(some r2) else(if(a1.length:Int) < (a0.2.2.length:Int) then(some 7) else(if(a0.2.2.length:Int) < (a1.length:Int) then(some 6) else(bE (α:=(List Int)) (bZ k a0 a1 k (([]:(List Int)),0)) (some) fun x3=>
 if(x3.length:Int) < (a0.2.1.length:Int) then(some 7) else(some 0))))
theorem o0(k:Nat)(a0:bj)(a1:(List (List Int)))(r:Int)(h:fC k a0 a1=some r):
 bW Tryz.prog 36 [.rep aD a0,.rep (.slice (.slice (.int .i64))) a1] [] (fun _:Unit=>(bp [I r],[])):=by
 unfold fC at h
 replace h:=a9 h
 refine bW.of 98 Tryz.func36 rfl Tryz.ntmps36 rfl fun S w0=>?_
 refine sr ?_
 refine bx fun b1=>?_
 refine cq ?_
 refine nt ?_
 refine ah ?_
 refine sr ?_
 refine lo gW ?_
 obtain⟨r2,Ry,h⟩:=aa h
 have Rz:=wa k a0 r2 Ry
 refine ja (ap [.tmp 10] rfl rfl Qj rfl Rz) ?_
 refine aq ?_
 refine nt ?_
 refine sr ?_
 refine mq ?_
 refine jb (ip rfl) ?_
 refine nt ?_
 refine cn h (fun h=>?_) (fun h=>?_)
 ·
  refine sr (mq ?_);refine aq (nt (rx ?_));cases h;exact ra
 ·
  refine sk (ah (sr (mq ?_)));refine ol mH ?_;refine fl fq ?_;refine lo cp ?_;refine ol ep ?_;refine jb (bG rfl) ?_;refine nt (ci h (fun h=>?_) (fun h=>?_))
  ·refine sr (cq (nt (rx ?_)));cases h;exact ra
  ·refine sk (ah (sr (mq ?_)));refine ol mH ?_;refine fl fq ?_;refine lo cp ?_;refine ol ep ?_;refine jb (ji rfl) ?_;refine nt (ci h (fun h=>?_) (fun h=>?_))
   ·refine sr (cq (nt (rx ?_)));cases h;exact ra
   ·refine sk (sr (cq (nt ?_)));refine dE (Z:=Value) (α:=(List Int)) (fun z4 x3=>[(2,Pt b1),(6,.eq z4)]) (fun z4 x3=>[.obj b1 25 (.rep aD a0),.sl z4 3 (.int .i64) x3]) (fun e=>e=r) h (fun e h=>Option.some.inj h) (fun K hR h=>?_) (fun z4 x3 h=>?_)
    ·refine sr (cq (nt (aj ?_)));refine fN (SE.nil 3 (.int .i64)) ?_;refine aL (fun z6 y5=>[(1,.rep (.slice (.slice (.int .i64))) a1),(2,Pt b1),(6,.eq z6),(7,I y5.2)]) (fun z6 y5=>[.obj b1 25 (.rep aD a0),.sl z6 3 (.int .i64) y5.1]) (bZ k a0 a1) k (.slice none 0 0) (([]:(List Int)),0) (fun _=>rfl) h (SE.fin [1,0] ⟨rfl,rfl,rfl,rfl,trivial⟩ rfl) (fun n z6 y5 h=>?_);unfold bZ at h;refine ah (sr ?_);iterate 2 refine mq ?_
     refine ol mH ?_;refine jb (bG rfl) ?_;refine nt (ci h (fun h=>?_) (fun h=>?_))
     ·refine sk (dE (Z:=Value) (α:=(List Int)) (fun z8 x7=>[(1,.rep (.slice (.slice (.int .i64))) a1),(2,Pt b1),(6,.eq z8),(7,I y5.2)]) (fun z8 x7=>[.obj b1 25 (.rep aD a0),.sl z8 3 (.int .i64) x7]) (fun e=>e=r) h (fun e h=>hR e h) (fun K hR h=>?_) (fun z8 x7 h=>?_))
      ·refine aj (sr (cq (nt ?_)));refine dE (Z:=Value) (α:=(List Int)×Int) (fun l x9=>[(1,.rep (.slice (.slice (.int .i64))) a1),(2,Pt b1),(6,.eq l),(7,I y5.2),(8,I x9.2)]) (fun l x9=>[.obj b1 25 (.rep aD a0),.sl l 3 (.int .i64) x9.1]) (fun e=>e=r) h (fun e h=>hR e h) (fun K hR h=>?_) (fun l x9 h=>?_)
       ·refine sr (cq (nt (aj ?_)));refine aL (fun j c=>[(1,.rep (.slice (.slice (.int .i64))) a1),(2,Pt b1),(6,.eq j),(7,I y5.2),(8,I c.2.1),(9,I c.2.2)]) (fun j c=>[.obj b1 25 (.rep aD a0),.sl j 3 (.int .i64) c.1]) (bS k a0 a1 y5) k z6 (y5.1,0,0) (fun _=>rfl) h (SE.fin [0,1] ⟨rfl,rfl,rfl,rfl,rfl,rfl,trivial⟩ rfl) (fun n j c h=>?_);unfold bS at h;refine ah (sr ?_);iterate 3 refine mq ?_
        obtain⟨R7,Q7,h⟩:=aa h;refine jb (aN (t:=(.slice (.int .i64))) rfl mH cp Q7) ?_;refine ja (ao (t:=(.slice (.int .i64))) rfl cp rfl) ?_;refine ol ep ?_;refine jb (bG rfl) ?_;refine nt (ci h (fun h=>?_) (fun h=>?_))
        ·refine sk (ah (aj (ah (ah (cu ?_)))));refine ea 0 (an rfl gW (xe) rfl) ?_;refine dm ?_;refine dm ?_;obtain⟨R2,Q6,h⟩:=aa h;refine db (aN (t:=(.slice (.int .i64))) rfl mH cp Q6) ?_;refine da (ao (t:=(.slice (.int .i64))) rfl cp rfl) ?_;refine dm ?_;obtain⟨Rj,Q5,h⟩:=aa h;refine db (aN (t:=(.int .i64)) rfl ep cH Q5) ?_;refine da (ao (t:=(.int .i64)) rfl cH rfl) ?_;refine df fe ?_;obtain⟨Rl,Rb,h⟩:=aa h;refine jb (ap [.tmp 42,.tmp 49] rfl rfl P5 rfl (tH k a0 Rj Rl Rb)) ?_;refine ja (eK rfl) ?_;refine nt (cw h (fun h=>?_) (fun h=>?_))
         ·refine sr (cq (nt (rx (br (aZ (aM (br (aZ (aM ?_)))))))));obtain rfl:=hR _ h;exact ra
         ·refine sk (ah (sr ?_));iterate 3 refine mq ?_
          obtain⟨RZ,Q4,h⟩:=aa h;refine jb (aN (t:=(.slice (.int .i64))) rfl mH cp Q4) ?_;refine ja (ao (t:=(.slice (.int .i64))) rfl cp rfl) ?_;refine mq ?_;obtain⟨u,Q3,h⟩:=aa h;refine jb (aN (t:=(.int .i64)) rfl ep cH Q3) ?_;refine ja (ao (t:=(.int .i64)) rfl cH rfl) ?_;obtain⟨Rk,Q9,h⟩:=aa h;refine fr 1 ?_;refine kb (ul (N:=[(.tmp 52,.eq j),(.tmp 59,I u)]) (ap [.tmp 52,.tmp 59] rfl rfl P4 rfl (zH k c.1 u Rk Q9)) (fun _ _ _ hv hn=>⟨(lend hn.1 hv),hn.2.1,trivial⟩) (fun _=>⟨rfl,yI⟩)) ?_;refine nt (cv h (fun h=>?_) (fun h=>?_))
          ·refine sr (cq (nt (rx (br (aZ (aM (br (aZ (aM ?_)))))))));obtain rfl:=hR _ h;exact ra
          ·refine sk (j8 ?_);refine aJ rfl rfl rfl (aU rfl) ⟨rfl,trivial⟩ ?_;refine aJ rfl rfl rfl (aU rfl) ⟨rfl,trivial⟩ ?_;refine aJ rfl rfl rfl (aU rfl) ⟨rfl,trivial⟩ ?_;obtain⟨RY,Q2,h⟩:=aa h;refine aJ rfl rfl rfl (aN (t:=(.slice (.int .i64))) rfl mH cp Q2) ⟨rfl,rfl,trivial⟩ ?_;refine aJ rfl rfl rfl (ao (t:=(.slice (.int .i64))) rfl cp rfl) ⟨rfl,trivial⟩ ?_;refine aJ rfl rfl rfl (aU rfl) ⟨rfl,trivial⟩ ?_;obtain⟨s,Q1,h⟩:=aa h;refine aJ rfl rfl rfl (aN (t:=(.int .i64)) rfl ep cH Q1) ⟨rfl,rfl,trivial⟩ ?_;refine aJ rfl rfl rfl (ao (t:=(.int .i64)) rfl cH rfl) ⟨rfl,trivial⟩ ?_;refine aJ rfl rfl rfl (bB (t:=(.int .i64)) [(.tmp 68,_)] [s] rfl rfl eB (.cons rfl .int .nil) rfl rfl) ⟨rfl,trivial⟩ ?_;obtain⟨SR,Q8,h⟩:=aa h;refine uw 0 rfl (fun v=>[.sl v 3 (.int .i64) (c.1++[s])]) (fun _=>rfl) rfl rfl rfl (bY rfl rfl eB (aC Q8)) ⟨rfl,rfl,trivial⟩ ?_;refine aJ rfl rfl rfl (aU rfl) ⟨rfl,trivial⟩ ?_;refine aJ rfl rfl rfl (aw rfl eO) ⟨rfl,trivial⟩ ?_;refine eF 1 rfl rfl rfl rfl (an rfl lp mX rfl) ⟨rfl,trivial⟩ ?_;refine aJ rfl rfl rfl (aU rfl) ⟨rfl,trivial⟩ ?_;refine aJ rfl rfl rfl (aU rfl) ⟨rfl,trivial⟩ ?_;obtain⟨RX,Q0,h⟩:=aa h;refine aJ rfl rfl rfl (aN (t:=(.slice (.int .i64))) rfl mH cp Q0) ⟨rfl,rfl,trivial⟩ ?_;refine aJ rfl rfl rfl (ao (t:=(.slice (.int .i64))) rfl cp rfl) ⟨rfl,trivial⟩ ?_;refine aJ rfl rfl rfl (aU rfl) ⟨rfl,trivial⟩ ?_;obtain⟨RV,QZ,h⟩:=aa h;refine aJ rfl rfl rfl (aN (t:=(.int .i64)) rfl ep cH QZ) ⟨rfl,rfl,trivial⟩ ?_;refine aJ rfl rfl rfl (ao (t:=(.int .i64)) rfl cH rfl) ⟨rfl,trivial⟩ ?_;obtain⟨RU,QY,h⟩:=aa h;refine aJ rfl rfl rfl (aN (t:=cD) rfl s4 nn QY) ⟨rfl,rfl,trivial⟩ ?_;refine aJ rfl rfl rfl (aI 1 false rfl nW rfl) ⟨rfl,trivial⟩ ?_;refine aJ rfl rfl rfl (ao (t:=(.int .i64)) rfl cH rfl) ⟨rfl,trivial⟩ ?_;obtain⟨Rh,QX,h⟩:=aa h;refine aJ rfl rfl rfl (bi rfl QX) ⟨rfl,rfl,trivial⟩ ?_;refine om 24 [true,true,true,true,true,true,true,true,true,true,false,false,false,false,false,false,false,false,false,false,false,false,false,false] [6] [1] [.obj b1 25 (.rep aD a0)] rfl (by kernel_rfl) (by kernel_rfl) (by kernel_rfl) fe (fun vs hv hB=>?_);obtain⟨w0,SQ,rfl,Rx⟩:=ak hv;obtain⟨w1,SO,rfl,Rw⟩:=ak Rx;obtain⟨w2,SN,rfl,Ru⟩:=ak Rw;obtain⟨w3,SL,rfl,Rt⟩:=ak Ru;obtain⟨w4,SK,rfl,Rr⟩:=ak Rt;obtain⟨w5,SJ,rfl,Rq⟩:=ak Rr;obtain⟨w6,SI,rfl,Ro⟩:=ak Rq;obtain⟨w7,SH,rfl,Rn⟩:=ak Ro;obtain⟨w8,SG,rfl,Rm⟩:=ak Rn;obtain⟨x,RR,rfl,qt⟩:=ak Rm;obtain⟨SD,RQ,rfl,pp⟩:=ak qt;obtain⟨SC,RP,rfl,mc⟩:=ak pp;obtain⟨SB,RO,rfl,ac⟩:=ak mc;obtain⟨SA,RN,rfl,Y⟩:=ak ac;obtain⟨Sz,RL,rfl,X⟩:=ak Y;obtain⟨Sv,RJ,rfl,U⟩:=ak X;obtain⟨Su,RI,rfl,Q⟩:=ak U;obtain⟨Ss,RH,rfl,O⟩:=ak Q;obtain⟨Sr,RG,rfl,M⟩:=ak O;obtain⟨Sm,RF,rfl,J⟩:=ak M;obtain⟨Sl,RE,rfl,F⟩:=ak J;obtain⟨Sj,RD,rfl,E⟩:=ak F;obtain⟨Si,RB,rfl,D⟩:=ak E;obtain⟨R9,RA,rfl,y⟩:=ak D;obtain rfl:=lH y;refine⟨[0,1],[.sl x 3 (.int .i64) (c.1++[s])],by kernel_rfl,by decide,?_⟩;refine m8 rfl rfl rfl rfl (hC rfl) ⟨rfl,trivial⟩ (by kernel_rfl) ?_;refine GU (by kernel_rfl) ?_;refine aq (ar (aK (tn (ab ?_))));refine mq ?_;obtain⟨Rf,QW,h⟩:=aa h
           refine jb (bi rfl QW) ?_;refine aq (nl ?_);exact jz (x,(c.1++[s],Rh,Rf)) h [0,1]
        ·refine xa ?_;exact jz (j,(c.1,c.2.1)) h [0,1]
       ·refine sr (mq ?_);refine fl fq ?_;refine lo cp ?_;refine mq ?_;obtain⟨RS,QV,h⟩:=aa h;refine jb (aN (t:=(.int .i64)) rfl ep cH QV) ?_;refine ja (ao (t:=(.int .i64)) rfl cH rfl) ?_;refine jb (ji rfl) ?_;refine nt (ci h (fun h=>?_) (fun h=>?_))
        ·refine sr (cq (nt (aA (br (aZ (aM ?_))))));obtain rfl:=hR _ h;exact ra
        ·refine aS (bn ?_);exact jz (l,x9.1) h [0,1]
      ·refine ab (mq ?_);obtain⟨Re,se,h⟩:=aa h;refine jb (bi rfl se) ?_;refine aq (nl ?_);exact jz (z8,(x7,Re)) h [0,1]
     ·refine xa ?_;exact jz (z6,y5.1) h [0,1]
    ·refine ah (sr (mq ?_));refine fr 1 ?_;refine ka (cN rfl rfl ep) ?_;refine fl eO ?_;refine fr 1 ?_;refine lo lp ?_;refine ol s4 ?_;refine jb (bG rfl) ?_;refine nt (ci h (fun h=>?_) (fun h=>?_))
     ·refine sr (cq (nt (rx ?_)));cases h;exact ra
     ·refine sk (sr (cq (nt (aA ?_))));cases h;exact ra
def mt(k:Nat)(a0:bK)(a1:Int):Option (bj×(List (List Int))×Bool×bK):=
 (jx k (a0.1,a0.2.1,a0.2.2) a1 3).bind fun r2=>
 (gq k (r2.2.1,r2.2.2.1,r2.2.2.2) r2.1).bind fun r4=>
 (fC k r2.1 r4.1).bind fun r5=>
 some (r2.1,r4.1,decide (r5=0),(r4.2.1,r4.2.2.1,r4.2.2.2))
theorem yv(k:Nat)(a0:bK)(c:Nat)(a1:Int)(r:bj×(List (List Int))×Bool×bK)(h:mt k a0 a1=some r):
 bW Tryz.prog 44 [Pt c,I a1] [.obj c 98 (.agg (.pair (Ri a0.1) (.pair (I a0.2.1) (.eq (.int .u64 a0.2.2)))))] (fun _:Unit=>(bp [.rep aD r.1,.rep (.slice (.slice (.int .i64))) r.2.1,.eq (.bool r.2.2.1)],[.obj c 98 (.agg (.pair (Ri r.2.2.2.1) (.pair (I r.2.2.2.2.1) (.eq (.int .u64 r.2.2.2.2.2)))))])):=by
 unfold mt at h
 replace h:=a9 h
 refine bW.of 21 Tryz.func44 rfl Tryz.ntmps44 rfl fun S w0=>?_
 refine sr ?_
 refine aH rfl rfl rfl (bJ rfl xi Dj) trivial fun b1=>?_
 refine cq ?_
 refine cq ?_
 refine nt ?_
 refine sr ?_
 iterate 2 refine mq ?_
 obtain⟨r2,D,h⟩:=aa h
 have J:=uP k (a0.1,a0.2.1,a0.2.2) c a1 3 r2 D
 refine fr 1 ?_
 refine kc (ap [.tmp 9,.tmp 10,.const (.int .i64 (3))] rfl rfl Qd rfl J) ?_
 refine aH rfl rfl rfl (bJ rfl xi Dj) trivial fun b3=>?_
 refine be rfl rfl (a8 rfl gW rfl rfl rfl) ⟨rfl,rfl,trivial⟩ ?_
 refine nt ?_
 refine sr ?_
 refine mq ?_
 refine lo gW ?_
 obtain⟨r4,y,h⟩:=aa h
 have F:=rQ k (r2.2.1,r2.2.2.1,r2.2.2.2) c r2.1 r4 y
 refine fr 1 ?_
 refine kb (ap [.tmp 12,.tmp 13] rfl rfl P9 rfl F) ?_
 refine aq ?_
 refine nt ?_
 refine ah ?_
 refine j8 ?_
 refine eF 1 rfl rfl rfl rfl (an rfl gW (xe) rfl) ⟨rfl,trivial⟩ ?_
 refine aJ rfl rfl rfl (aU rfl) ⟨rfl,trivial⟩ ?_
 refine eF 1 rfl rfl rfl rfl (an rfl gW (xe) rfl) ⟨rfl,trivial⟩ ?_
 refine aJ rfl rfl rfl (aU rfl) ⟨rfl,trivial⟩ ?_
 obtain⟨r5,x,h⟩:=aa h
 have E:=o0 k r2.1 r4.1 r5 x
 refine aJ rfl rfl rfl (ap [.tmp 17,.tmp 18] rfl rfl Qi rfl E) ⟨rfl,rfl,trivial⟩ ?_
 refine aJ rfl rfl rfl (dS rfl) ⟨rfl,rfl,trivial⟩ ?_
 refine om 6 [true,false,true,true,true,false] [5,6] [] [] rfl (by kernel_rfl) (by kernel_rfl) (by kernel_rfl) fe (fun vs hv hB=>?_)
 obtain⟨w0,Y,rfl,u⟩:=ak hv
 obtain⟨w1,X,rfl,s⟩:=ak u
 obtain⟨w2,U,rfl,n⟩:=ak s
 obtain⟨w3,Q,rfl,l⟩:=ak n
 obtain⟨w4,O,rfl,j⟩:=ak l
 obtain⟨w5,M,rfl,e⟩:=ak j
 obtain rfl:=lH e
 refine⟨[0,1,2],[.obj c 98 (.agg (.pair (Ri r4.2.1) (.pair (I r4.2.2.1) (.eq (.int .u64 r4.2.2.2))))),.obj b3 25 (.rep aD r2.1),.obj b1 25 (.agg (.pair (I 0) (.pair (.eq (.slice none 0 0)) (.eq (.slice none 0 0)))))],by kernel_rfl,by decide,?_⟩
 refine lj 2 rfl ?_
 refine pU rfl rfl (a8 rfl gW rfl rfl rfl) ⟨rfl,rfl,trivial⟩ (by kernel_rfl) ?_
 refine m8 rfl rfl rfl rfl (hC rfl) ⟨rfl,trivial⟩ (by kernel_rfl) ?_
 refine m8 rfl rfl rfl rfl (hC rfl) ⟨rfl,trivial⟩ (by kernel_rfl) ?_
 refine sf ?_
 refine bz (SE.fin (Γ':=[(4,Pt b1),(5,.rep (.slice (.slice (.int .i64))) r4.1),(6,.eq (.bool (decide (r5=0))))]) (Δ':=[.obj b1 25 (.rep aD r2.1),.obj c 98 (.agg (.pair (Ri r4.2.1) (.pair (I r4.2.2.1) (.eq (.int .u64 r4.2.2.2))))),.obj b3 25 (.rep aD r2.1)]) [0,1,2] ⟨rfl,rfl,rfl,trivial⟩ rfl) ?_
 refine tn ?_
 refine aA ?_
 refine bz (SE.fin (Γ':=[(4,_),(5,_),(6,_)]) [1,0,2] ⟨rfl,rfl,rfl,trivial⟩ rfl) ?_
 cases h
 exact aF () [.rep aD r2.1,_,_] 1 ⟨⟨_,_,_,_,_,rfl,(.tail _ (.head _)),gW,(xe),rfl⟩,rfl,rfl,trivial⟩ rfl
end Go.Proofs.YtcnpijmfgfnpiaaGreatDoor
