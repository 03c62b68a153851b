import Derived.Test.YtcnpijmfgfnpiaaGreatDoorXXFacts
set_option linter.unusedSimpArgs false
set_option linter.unusedVariables false
set_option maxRecDepth 4000
set_option maxHeartbeats 1000000
namespace Go.Proofs.YtcnpijmfgfnpiaaGreatDoor
open K Go Go.Proofs
def dY(k:Nat)(a0:Int)(a1:Int)(a2:Int):Option Bool:=
 ((if a1≤a0 then(some (decide (a0≤a2))) else(some false)):Option (Bool)).bind fun x1=>
 some x1
theorem eG(k:Nat)(a0:Int)(a1:Int)(a2:Int)(r:Bool)(h:dY k a0 a1 a2=some r):
 cd Tryz.prog 83 [I a0,I a1,I a2] [] (fun _:Unit=>(bu [.eq (.bool r)],[])):=by
 unfold dY at h
 replace h:=a8 h
 refine cd.of 15 Tryz.func83 rfl Tryz.ntmps83 rfl fun S w0=>?_
 refine sr ?_
 refine cq ?_
 refine nt ?_
 refine aN (Z:=Unit) (α:=Bool) (fun z2 x1=>[(6,.eq (.bool x1))]) (fun z2 x1=>[]) h (fun K h=>?_) (fun z2 x1 h=>?_)
 ·
  refine aa ?_;iterate 2 refine mq ?_
  refine jb (wl rfl) ?_;refine mq ?_;refine bQ (s:=10) rfl (fun hb=>?_) (fun hb=>?_)
  ·replace h:=ct (m8 hb) h;refine gm ?_;refine gm ?_;refine gb (wl rfl) ?_;refine pt ?_;refine aq (nl ?_);exact jz ((),decide (a0≤a2)) h []
  ·replace h:=bL (mz hb) h;iterate 3 refine gn ?_
   refine pf ?_;refine aq (nl ?_);exact jz ((),false) h []
 ·
  refine aC ?_;cases h;exact ra
def cO(k:Nat)(a0:bK)(a1:jp):Nat→Int→Option (Except Int Unit)
 |0,_=>none
 |n+1,y6=>
  if y6 < (a1.2.length:Int) then((bf a1.2 y6).bind fun x8=>
  (ck (a0.1 - 1)).bind fun x9=>
  (dY k x8 0 x9).bind fun l=>
  if¬(l=true) then(some (.error 1)) else(((if 0 < y6 then((ck (y6 - 1)).bind fun h=>
  (bf a1.2 h).bind fun e=>
  some (decide (x8≤e))) else(some false)):Option (Bool)).bind fun j=>
  if j=true then(some (.error 5)) else((ck (y6+1)).bind fun c=>
  cO k a0 a1 n c))) else(some (.ok ()))
def il(k:Nat)(a0:bK)(a1:jp):Option Int:=
 (dY k a1.1 1 3).bind fun r3=>
 if¬(r3=true) then(some 1) else(bE (α:=Unit) (cO k a0 a1 k 0) (some) fun _=>
 some 0)
theorem qU(k:Nat)(a0:bK)(a1:jp)(r:Int)(h:il k a0 a1=some r):
 cd Tryz.prog 92 [.rep aG a0,.rep cg a1] [] (fun _:Unit=>(bu [I r],[])):=by
 unfold il at h
 replace h:=a8 h
 refine cd.of 38 Tryz.func92 rfl Tryz.ntmps92 rfl fun S w0=>?_
 refine sr ?_
 refine bx fun b1=>?_
 refine bx fun b2=>?_
 refine cq ?_
 refine nt ?_
 refine ah ?_
 refine sr ?_
 refine fl vg ?_
 refine lo dE ?_
 obtain⟨r3,O,h⟩:=ab h
 have Q:=eG k a1.1 1 3 r3 O
 refine jc (an [.tmp 8,.const (.int .i64 (1)),.const (.int .i64 (3))] rfl rfl zT rfl Q) ?_
 refine ja (gQ rfl) ?_
 refine nt ?_
 refine cw h (fun h=>?_) (fun h=>?_)
 ·
  refine sr (cq (nt (rx ?_)));cases h;exact ra
 ·
  refine sk (fA (Z:=Unit) (α:=Unit) (fun z5 x4=>[]) (fun z5 x4=>[]) (fun e=>e=r) h (fun e h=>Option.some.inj h) (fun K hR h=>?_) (fun z5 x4 h=>?_))
  ·refine sr (fl sW ?_);refine lo bZ ?_;refine ol fC ?_;refine dX rfl ?_;refine nt (aj (aK (fun z7 y6=>[(2,Pt b1),(3,Pt b2),(12,Ri a1.2),(13,I (a1.2.length:Int)),(14,I y6)]) (fun z7 y6=>[.obj b1 25 (.rep aG a0),.obj b2 27 (.rep cg a1)]) (cO k a0 a1) k () 0 (fun _=>rfl) h (SE.fin [1,0] ⟨rfl,rfl,rfl,rfl,rfl,trivial⟩ rfl) (fun n z7 y6 h=>?_)));unfold cO at h;refine sr (jb (bv rfl) ?_);refine nt (ah (ci h (fun h=>?_) (fun h=>?_)))
   ·refine sk (ah (aj (sr (mq ?_))));obtain⟨x8,M,h⟩:=ab h;refine jb (ba (t:=(.int .i64)) rfl fC dE M) ?_;refine ja (au (t:=(.int .i64)) rfl dE rfl) ?_;refine aq ?_;refine aq (nt (ah (sr ?_)));refine mq ?_;refine fl je ?_;refine lo dE ?_;obtain⟨x9,J,h⟩:=ab h;refine jb (fN rfl J) ?_;obtain⟨F,y,h⟩:=ab h;refine jc (an [.tmp 19,.const (.int .i64 (0)),.tmp 22] rfl rfl zT rfl (eG k x8 0 x9 F y)) ?_;refine ja (gQ rfl) ?_;refine nt (cw h (fun h=>?_) (fun h=>?_))
    ·refine sr (cq (nt (rx (br (bC (aX ?_))))));obtain rfl:=hR _ h;exact ra
    ·refine sk (aN (Z:=Unit) (α:=Bool) (fun j c=>[(2,Pt b1),(3,Pt b2),(12,Ri a1.2),(13,I (a1.2.length:Int)),(14,I y6),(36,.eq (.bool c))]) (fun j c=>[.obj b1 25 (.rep aG a0),.obj b2 27 (.rep cg a1)]) h (fun K h=>?_) (fun j c h=>?_))
     ·refine aa (mq ?_);refine jb (lD rfl) ?_;refine mq ?_;refine bQ (s:=27) rfl (fun hb=>?_) (fun hb=>?_)
      ·replace h:=ct (m8 hb) h;refine gm ?_;refine ga (aw rfl sW) ?_;refine fr 1 ?_;refine ix rfl rfl rfl rfl rfl rfl (ak rfl bZ mr rfl) ⟨rfl,trivial⟩ ?_;refine gm ?_;obtain⟨U,x,h⟩:=ab h;refine gb (fN rfl x) ?_;obtain⟨E,u,h⟩:=ab h;refine gb (ba (t:=(.int .i64)) rfl fC dE u) ?_;refine ga (au (t:=(.int .i64)) rfl dE rfl) ?_;refine gb (wl rfl) ?_;refine pt (nl ?_);exact jz ((),decide (x8≤E)) h [1,0]
      ·replace h:=bL (mz hb) h;iterate 8 refine gn ?_
       refine pf (nl ?_);exact jz ((),false) h [0,1]
     ·refine cv h (fun h=>?_) (fun h=>?_)
      ·refine sr (cq (nt (aC (br (bC (aX ?_))))));obtain rfl:=hR _ h;exact ra
      ·refine aU (aJ (tn (aa ?_)));obtain⟨D,l,h⟩:=ab h;refine jb (bg rfl l) ?_;refine mq (nl ?_);exact jz ((),D) h [0,1]
   ·refine xa ?_;exact jz ((),()) h []
  ·refine sr (cq (nt (aC ?_)));cases h;exact ra
def ft(k:Nat)(a0:bK):Nat→Int→Option (Except Int Unit)
 |0,_=>none
 |n+1,y5=>
  if y5 < (a0.2.1.length:Int) then((bf a0.2.1 y5).bind fun x7=>
  (il k a0 x7).bind fun r9=>
  if¬(r9=0) then(some (.error r9)) else((ck (y5+1)).bind fun c=>
  ft k a0 n c)) else(some (.ok ()))
def fp(k:Nat)(a0:bK):Nat→Int→Option (Except Int Unit)
 |0,_=>none
 |n+1,c=>
  if c < (a0.2.2.length:Int) then((bf a0.2.2 c).bind fun h=>
  (dY k h 0 9).bind fun j=>
  if¬(j=true) then(some (.error 1)) else((ck (c+1)).bind fun e=>
  fp k a0 n e)) else(some (.ok ()))
def jL(k:Nat)(a0:bK):Option Int:=
 (dY k a0.1 1 6).bind fun r2=>
 if¬(r2=true) then(some 1) else(if 5 < (a0.2.1.length:Int) then(some 6) else(bE (α:=Unit) (ft k a0 k 0) (some) fun _=>
 if(a0.2.2.length:Int) < 1 then(some 7) else(if 3 < (a0.2.2.length:Int) then(some 6) else(bE (α:=Unit) (fp k a0 k 0) (some) fun _=>
 some 0))))
theorem ng(k:Nat)(a0:bK)(r:Int)(h:jL k a0=some r):
 cd Tryz.prog 33 [.rep aG a0] [] (fun _:Unit=>(bu [I r],[])):=by
 unfold jL at h
 replace h:=a8 h
 refine cd.of 51 Tryz.func33 rfl Tryz.ntmps33 rfl fun S w0=>?_
 refine sr ?_
 refine bx fun b1=>?_
 refine cq ?_
 refine nt ?_
 refine ah ?_
 refine sr ?_
 refine fl je ?_
 refine lo dE ?_
 obtain⟨r2,U,h⟩:=ab h
 have X:=eG k a0.1 1 6 r2 U
 refine jc (an [.tmp 10,.const (.int .i64 (1)),.const (.int .i64 (6))] rfl rfl zT rfl X) ?_
 refine ja (gQ rfl) ?_
 refine nt ?_
 refine cw h (fun h=>?_) (fun h=>?_)
 ·
  refine sr (cq (nt (rx ?_)));cases h;exact ra
 ·
  refine sk (ah (sr (fl ir ?_)));refine lo ot ?_;refine ol Aj ?_;refine jb (lD rfl) ?_;refine nt (ci h (fun h=>?_) (fun h=>?_))
  ·refine sr (cq (nt (rx ?_)));cases h;exact ra
  ·refine sk (fA (Z:=Unit) (α:=Unit) (fun z4 x3=>[(1,Pt b1)]) (fun z4 x3=>[.obj b1 25 (.rep aG a0)]) (fun e=>e=r) h (fun e h=>Option.some.inj h) (fun K hR h=>?_) (fun z4 x3 h=>?_))
   ·refine sr (fl ir ?_);refine lo ot ?_;refine ol Aj ?_;refine dX rfl ?_;refine nt (aj (aK (fun z6 y5=>[(1,Pt b1),(18,Rs cg a0.2.1),(19,I (a0.2.1.length:Int)),(20,I y5)]) (fun z6 y5=>[.obj b1 25 (.rep aG a0)]) (ft k a0) k () 0 (fun _=>rfl) h (SE.fin [0] ⟨rfl,rfl,rfl,rfl,trivial⟩ rfl) (fun n z6 y5 h=>?_)));unfold ft at h;refine sr (jb (bv rfl) ?_);refine nt (ah (ci h (fun h=>?_) (fun h=>?_)))
    ·refine sk (ah (aj (sr ?_)));obtain⟨x7,O,h⟩:=ab h;refine jb (ba (t:=cg) rfl Aj qf O) ?_;refine ja (au (t:=cg) rfl qf rfl) ?_;refine ay rfl rfl rfl (aP rfl vB J3) trivial fun b8=>?_;refine aZ rfl rfl (aR rfl qf rfl rfl rfl) ⟨rfl,rfl,trivial⟩ ?_;refine nt (sr (fr 1 ?_));refine lo i8 ?_;refine fr 1 ?_;refine lo qf ?_;obtain⟨r9,Q,h⟩:=ab h;refine jb (an [.tmp 24,.tmp 25] rfl rfl Rf rfl (qU k a0 x7 r9 Q)) ?_;refine aq (nt (sr ?_));refine mq ?_;refine jb (iN rfl) ?_;refine nt (cn h (fun h=>?_) (fun h=>?_))
     ·refine sr (mq ?_);refine aq (nt (aC (br (bC (aX ?_)))));obtain rfl:=hR _ h;exact ra
     ·refine aU (aJ (tn (aa ?_)));obtain⟨J,y,h⟩:=ab h;refine jb (bg rfl y) ?_;refine mq (nl ?_);exact jz ((),J) h [1]
    ·refine xa ?_;exact jz ((),()) h [0]
   ·refine ah (sr (fl eV ?_));refine lo bZ ?_;refine ol fC ?_;refine aq (nt (aj (sr ?_)));refine mq ?_;refine jb (bv rfl) ?_;refine aq (nt ?_);refine ci h (fun h=>?_) (fun h=>?_)
    ·refine sr (cq (nt (aC (bC (aX ?_)))));cases h;exact ra
    ·refine sr (mq ?_);refine jb (lD rfl) ?_;refine aq (nt ?_);refine ci h (fun h=>?_) (fun h=>?_)
     ·refine sr (cq (nt (aC (bC (aX ?_)))));cases h;exact ra
     ·refine aU (aJ (tn (fA (Z:=Unit) (α:=Unit) (fun l s=>[]) (fun l s=>[]) (fun e=>e=r) h (fun e h=>Option.some.inj h) (fun K hR h=>?_) (fun l s h=>?_))))
      ·refine sr (fl eV ?_);refine lo bZ ?_;refine ol fC ?_;refine dX rfl ?_;refine nt (aj (aK (fun j c=>[(41,Ri a0.2.2),(42,I (a0.2.2.length:Int)),(43,I c)]) (fun j c=>[]) (fp k a0) k () 0 (fun _=>rfl) h (SE.fin [] ⟨rfl,rfl,rfl,trivial⟩ rfl) (fun n j c h=>?_)));unfold fp at h;refine sr (jb (bv rfl) ?_);refine nt (ah (ci h (fun h=>?_) (fun h=>?_)))
       ·refine sk (ah (aj (sr ?_)));obtain⟨F,x,h⟩:=ab h;refine jb (ba (t:=(.int .i64)) rfl fC dE x) ?_;refine ja (au (t:=(.int .i64)) rfl dE rfl) ?_;refine aq (nt (sr ?_));refine mq ?_;obtain⟨M,D,h⟩:=ab h;refine jc (an [.tmp 47,.const (.int .i64 (0)),.const (.int .i64 (9))] rfl rfl zT rfl (eG k F 0 9 M D)) ?_;refine ja (gQ rfl) ?_;refine nt (cw h (fun h=>?_) (fun h=>?_))
        ·refine sr (cq (nt (aC (br (bC (aX ?_))))));obtain rfl:=hR _ h;exact ra
        ·refine aU (aJ (tn (aa ?_)));obtain⟨E,u,h⟩:=ab h;refine jb (bg rfl u) ?_;refine mq (nl ?_);exact jz ((),E) h []
       ·refine xa ?_;exact jz ((),()) h []
      ·refine sr (cq (nt (aC ?_)));cases h;exact ra
def dM(k:Nat)(a0:Int)(a1:Int):Option Bool:=
 (eE (0≤a1)).bind fun _=>
 some (decide ((vU .u8 (ic .u8 a0 a1) 1)=1))
theorem ij(k:Nat)(a0:Int)(a1:Int)(r:Bool)(h:dM k a0 a1=some r):
 cd Tryz.prog 87 [.eq (.int .u8 a0),I a1] [] (fun _:Unit=>(bu [.eq (.bool r)],[])):=by
 unfold dM at h
 replace h:=a8 h
 refine cd.of 10 Tryz.func87 rfl Tryz.ntmps87 rfl fun S w0=>?_
 refine sr ?_
 refine cq ?_
 refine nt ?_
 refine sr ?_
 iterate 2 refine mq ?_
 obtain⟨u1,c,h⟩:=ab h
 refine jb (uL rfl (aE c)) ?_
 refine jb (Ol rfl) ?_
 refine jb (ek rfl) ?_
 refine aq ?_
 refine nt ?_
 refine aC ?_
 cases h
 exact ra
def dI(k:Nat)(a0:Int)(a1:Int):Option Int:=
 (eE (0≤a1)).bind fun _=>
 some (CS .u8 a0 (my .u8 1 a1))
theorem iS(k:Nat)(a0:Int)(a1:Int)(r:Int)(h:dI k a0 a1=some r):
 cd Tryz.prog 134 [.eq (.int .u8 a0),I a1] [] (fun _:Unit=>(bu [.eq (.int .u8 r)],[])):=by
 unfold dI at h
 replace h:=a8 h
 refine cd.of 9 Tryz.func134 rfl Tryz.ntmps134 rfl fun S w0=>?_
 refine sr ?_
 refine cq ?_
 refine nt ?_
 refine sr ?_
 iterate 2 refine mq ?_
 obtain⟨u1,c,h⟩:=ab h
 refine jb (FY rfl (aE c)) ?_
 refine jb (Oi rfl) ?_
 refine aq ?_
 refine nt ?_
 refine aC ?_
 cases h
 exact ra
def gf(k:Nat)(a0:bK)(a1:(List Int)):Nat→(Int×Int)→Option Int
 |0,_=>none
 |n+1,y4=>
  if y4.2 < (a1.length:Int) then((bf a1 y4.2).bind fun x6=>
  (bf a0.2.1 x6).bind fun x7=>
  (ck (y4.1+x7.1)).bind fun x8=>
  (ck (y4.2+1)).bind fun x9=>
  gf k a0 a1 n (x8,x9)) else(some y4.1)
def mM(k:Nat)(a0:bK)(a1:(List Int)):Option Int:=
 ((gf k a0 a1 k (0,0)):Option (Int)).bind fun x2=>
 some x2
theorem te(k:Nat)(a0:bK)(a1:(List Int))(r:Int)(h:mM k a0 a1=some r):
 cd Tryz.prog 135 [.rep aG a0,Ri a1] [] (fun _:Unit=>(bu [I r],[])):=by
 unfold mM at h
 replace h:=a8 h
 refine cd.of 24 Tryz.func135 rfl Tryz.ntmps135 rfl fun S w0=>?_
 refine sr ?_
 refine bx fun b1=>?_
 refine cq ?_
 refine nt ?_
 refine sr ?_
 refine cq ?_
 refine nt ?_
 refine aN (Z:=Unit) (α:=Int) (fun z3 x2=>[(5,I x2)]) (fun z3 x2=>[]) h (fun K h=>?_) (fun z3 x2 h=>?_)
 ·
  refine sr (mq ?_);refine ol fC ?_;refine dX rfl ?_;refine nt (aj (aK (fun z5 y4=>[(2,Pt b1),(5,I y4.1),(8,Ri a1),(9,I (a1.length:Int)),(10,I y4.2)]) (fun z5 y4=>[.obj b1 25 (.rep aG a0)]) (gf k a0 a1) k () (0,0) (fun _=>rfl) h (SE.fin [0] ⟨rfl,rfl,rfl,rfl,rfl,trivial⟩ rfl) (fun n z5 y4 h=>?_)));unfold gf at h;refine sr (jb (bv rfl) ?_);refine nt (ah (ci h (fun h=>?_) (fun h=>?_)))
  ·refine sk (ah (aj (sr ?_)));obtain⟨x6,l,h⟩:=ab h;refine jb (ba (t:=(.int .i64)) rfl fC dE l) ?_;refine ja (au (t:=(.int .i64)) rfl dE rfl) ?_;refine aq (nt (aa ?_));refine mq ?_;refine fl ir ?_;refine lo ot ?_;refine mq ?_;obtain⟨x7,j,h⟩:=ab h;refine jb (ba (t:=cg) rfl Aj qf j) ?_;refine ja (aL 1 false rfl vg rfl) ?_;refine ja (au (t:=(.int .i64)) rfl dE rfl) ?_;obtain⟨x8,e,h⟩:=ab h;refine jb (bg rfl e) ?_;refine aq (ao (aJ (tn (aa ?_))));obtain⟨x9,c,h⟩:=ab h;refine jb (bg rfl c) ?_;refine mq (nl ?_);exact jz ((),(x8,x9)) h [0]
  ·refine xa ?_;exact jz ((),y4.1) h []
 ·
  refine sr (mq ?_);refine aq (nt (aC ?_));cases h;exact ra
def eB(k:Nat)(a0:bK)(x8:(List Int)):Nat→(Int×Int)→Option (Except Value Int)
 |0,_=>none
 |n+1,c=>
  if c.2 < (x8.length:Int) then((bf x8 c.2).bind fun e=>
  (ck ((a0.2.1.length:Int) - 1)).bind fun j=>
  (dY k e 0 j).bind fun s=>
  if¬(s=true) then(some (.error (.iface 118 (.agg #[.int .i64 3])))) else((dM k c.1 e).bind fun r=>
  if r=true then(some (.error (.iface 118 (.agg #[.int .i64 4])))) else((dI k c.1 e).bind fun l=>
  (ck (c.2+1)).bind fun h=>
  eB k a0 x8 n (l,h)))) else(some (.ok c.1))
def fo(k:Nat)(a0:bK)(a1:(List (List Int))):Nat→(Int×Int)→Option (Except Value Int)
 |0,_=>none
 |n+1,y4=>
  if y4.2 < (a1.length:Int) then(bE (α:=Int) ((bf a1 y4.2).bind fun x8=>
  bE (α:=Int) (eB k a0 x8 k (y4.1,0)) (fun e=>some (.error e)) fun x9=>
  (mM k a0 x8).bind fun j=>
  (bf a0.2.2 y4.2).bind fun h=>
  if h < j then(some (.error (.iface 118 (.agg #[.int .i64 12])))) else(some (.ok x9))) (fun e=>some (.error e)) fun x6=>
  (ck (y4.2+1)).bind fun c=>
  fo k a0 a1 n (x6,c)) else(some (.ok y4.1))
def kV(k:Nat)(a0:bK)(a1:(List (List Int))):Option Value:=
 if(a1.length:Int) < (a0.2.2.length:Int) then(some (.iface 118 (.agg #[.int .i64 7]))) else(if(a0.2.2.length:Int) < (a1.length:Int) then(some (.iface 118 (.agg #[.int .i64 6]))) else(bE (α:=Int) (fo k a0 a1 k (0,0)) (some) fun x2=>
 (eE (0≤(a0.2.1.length:Int))).bind fun _=>
 if¬(x2=(IntKind.u8.wrap ((my .u8 1 (a0.2.1.length:Int)) - 1))) then(some (.iface 118 (.agg #[.int .i64 7]))) else(some (.nilIface))))
theorem qQ(k:Nat)(a0:bK)(a1:(List (List Int)))(r:Value)(h:kV k a0 a1=some r):
 cd Tryz.prog 94 [.rep aG a0,.rep (.slice (.slice (.int .i64))) a1] [] (fun _:Unit=>(bu [.eq r],[])):=by
 unfold kV at h
 replace h:=a8 h
 refine cd.of 80 Tryz.func94 rfl Tryz.ntmps94 rfl fun S w0=>?_
 refine sr ?_
 refine bx fun b1=>?_
 refine cq ?_
 refine nt ?_
 refine ah ?_
 refine sr ?_
 refine fl eV ?_
 refine lo bZ ?_
 refine ol fC ?_
 refine aq ?_
 refine nt ?_
 refine aj ?_
 refine sr ?_
 refine mq ?_
 refine ol nI ?_
 refine mq ?_
 refine jb (bv rfl) ?_
 refine aq ?_
 refine nt ?_
 refine ci h (fun h=>?_) (fun h=>?_)
 ·
  refine sr (ja (cT [(0,.const (.int .i64 (7)),_)] rfl wi ua ta (iE ⟨rfl,trivial⟩) rfl) ?_);refine ja (mW rfl EM) ?_;refine aq (nt (aC (bC (aX ?_))));cases h;exact ra
 ·
  refine sr (mq ?_);refine ol nI ?_;refine mq ?_;refine jb (lD rfl) ?_;refine aq (nt ?_);refine ci h (fun h=>?_) (fun h=>?_)
  ·refine sr (ja (cT [(0,.const (.int .i64 (6)),_)] rfl wi ua ta (iE ⟨rfl,trivial⟩) rfl) ?_);refine ja (mW rfl EM) ?_;refine aq (nt (aC (bC (aX ?_))));cases h;exact ra
  ·refine aU (aJ (tn (sr (cq (nt ?_)))));refine fA (Z:=Unit) (α:=Int) (fun z3 x2=>[(2,Pt b1),(6,.eq (.int .u8 x2))]) (fun z3 x2=>[.obj b1 25 (.rep aG a0)]) (fun e=>e=r) h (fun e h=>Option.some.inj h) (fun K hR h=>?_) (fun z3 x2 h=>?_)
   ·refine sr (mq ?_);refine ol nI ?_;refine dX rfl ?_;refine nt (aj (aK (fun z5 y4=>[(2,Pt b1),(6,.eq (.int .u8 y4.1)),(28,.rep (.slice (.slice (.int .i64))) a1),(29,I (a1.length:Int)),(30,I y4.2)]) (fun z5 y4=>[.obj b1 25 (.rep aG a0)]) (fo k a0 a1) k () (0,0) (fun _=>rfl) h (SE.fin [0] ⟨rfl,rfl,rfl,rfl,rfl,trivial⟩ rfl) (fun n z5 y4 h=>?_)));unfold fo at h;refine sr (jb (bv rfl) ?_);refine nt (ah (ci h (fun h=>?_) (fun h=>?_)))
    ·refine sk (fA (Z:=Unit) (α:=Int) (fun z7 x6=>[(2,Pt b1),(6,.eq (.int .u8 x6)),(28,.rep (.slice (.slice (.int .i64))) a1),(29,I (a1.length:Int)),(30,I y4.2)]) (fun z7 x6=>[.obj b1 25 (.rep aG a0)]) (fun e=>e=r) h (fun e h=>hR e h) (fun K hR h=>?_) (fun z7 x6 h=>?_))
     ·refine aj (sr (mq ?_));obtain⟨x8,se,h⟩:=ab h;refine jb (ba (t:=(.slice (.int .i64))) rfl nI bZ se) ?_;refine ja (au (t:=(.slice (.int .i64))) rfl bZ rfl) ?_;refine aq ?_;refine aq (nt ?_);refine fA (Z:=Unit) (α:=Int) (fun s x9=>[(2,Pt b1),(6,.eq (.int .u8 x9)),(7,I y4.2),(8,Ri x8),(28,.rep (.slice (.slice (.int .i64))) a1),(29,I (a1.length:Int)),(30,I y4.2)]) (fun s x9=>[.obj b1 25 (.rep aG a0)]) (fun e=>e=r) h (fun e h=>hR e h) (fun K hR h=>?_) (fun s x9 h=>?_)
      ·refine sr (mq ?_);refine ol fC ?_;refine dX rfl ?_;refine nt (aj (aK (fun l c=>[(2,Pt b1),(6,.eq (.int .u8 c.1)),(7,I y4.2),(8,Ri x8),(28,.rep (.slice (.slice (.int .i64))) a1),(29,I (a1.length:Int)),(30,I y4.2),(35,Ri x8),(36,I (x8.length:Int)),(37,I c.2)]) (fun l c=>[.obj b1 25 (.rep aG a0)]) (eB k a0 x8) k () (y4.1,0) (fun _=>rfl) h (SE.fin [0] ⟨rfl,rfl,rfl,rfl,rfl,rfl,rfl,rfl,rfl,rfl,trivial⟩ rfl) (fun n l c h=>?_)));unfold eB at h;refine sr (jb (bv rfl) ?_);refine nt (ah (ci h (fun h=>?_) (fun h=>?_)))
       ·refine sk (ah (aj (sr ?_)));obtain⟨j,F,h⟩:=ab h;refine jb (ba (t:=(.int .i64)) rfl fC dE F) ?_;refine ja (au (t:=(.int .i64)) rfl dE rfl) ?_;refine aq (nt (ah (sr ?_)));refine mq ?_;refine fl ir ?_;refine lo ot ?_;refine ol Aj ?_;obtain⟨ac,E,h⟩:=ab h;refine jb (fN rfl E) ?_;obtain⟨qt,U,h⟩:=ab h;refine jc (an [.tmp 41,.const (.int .i64 (0)),.tmp 45] rfl rfl zT rfl (eG k j 0 ac qt U)) ?_;refine ja (gQ rfl) ?_;refine nt (cw h (fun h=>?_) (fun h=>?_))
        ·refine sr (ja (cT [(0,.const (.int .i64 (3)),_)] rfl wi ua ta (iE ⟨rfl,trivial⟩) rfl) ?_);refine ja (mW rfl EM) ?_;refine aq (nt (rx (br (bC (aX (br (bC (aX ?_))))))));obtain rfl:=hR _ h;exact ra
        ·refine sk (ah (sr ?_));iterate 2 refine mq ?_
         obtain⟨pp,Q,h⟩:=ab h;refine jb (an [.tmp 50,.tmp 51] rfl rfl JH rfl (ij k c.1 j pp Q)) ?_;refine nt (cv h (fun h=>?_) (fun h=>?_))
         ·refine sr (ja (cT [(0,.const (.int .i64 (4)),_)] rfl wi ua ta (iE ⟨rfl,trivial⟩) rfl) ?_);refine ja (mW rfl EM) ?_;refine aq (nt (rx (br (bC (aX (br (bC (aX ?_))))))));obtain rfl:=hR _ h;exact ra
         ·refine sk (aa ?_);iterate 2 refine mq ?_
          obtain⟨u,O,h⟩:=ab h;refine jb (an [.tmp 55,.tmp 56] rfl rfl C7 rfl (iS k c.1 j u O)) ?_;refine aq (ao (aJ (tn (aa ?_))));obtain⟨Y,D,h⟩:=ab h;refine jb (bg rfl D) ?_;refine mq (nl ?_);exact jz ((),(u,Y)) h [0]
       ·refine xa ?_;exact jz ((),c.1) h [0]
      ·refine ah (cm ?_);refine ea 0 (ak rfl i8 (xE) rfl) ?_;refine dm ?_;obtain⟨mc,M,h⟩:=ab h;refine db (an [.tmp 59,.tmp 60] rfl rfl K4 rfl (te k a0 x8 mc M)) ?_;refine da (aw rfl eV) ?_;refine ea 0 (ak rfl bZ mr rfl) ?_;refine dm ?_;obtain⟨Su,y,h⟩:=ab h;refine db (ba (t:=(.int .i64)) rfl fC dE y) ?_;refine da (au (t:=(.int .i64)) rfl dE rfl) ?_;refine df fg ?_;refine jb (lD rfl) ?_;refine nt (ci h (fun h=>?_) (fun h=>?_))
       ·refine sr (ja (cT [(0,.const (.int .i64 (12)),_)] rfl wi ua ta (iE ⟨rfl,trivial⟩) rfl) ?_);refine ja (mW rfl EM) ?_;refine aq (nt (aC (br (bC (aX ?_)))));obtain rfl:=hR _ h;exact ra
       ·refine aU (bn ?_);exact jz ((),x9) h [0]
     ·refine aa ?_;obtain⟨X,x,h⟩:=ab h;refine jb (bg rfl x) ?_;refine mq (nl ?_);exact jz ((),(x6,X)) h [0]
    ·refine xa ?_;exact jz ((),y4.1) h [0]
   ·refine ah (sr (mq ?_));refine fl ir ?_;refine lo ot ?_;refine ol Aj ?_;obtain⟨Sv,J,h⟩:=ab h;refine jb (FY rfl (aE J)) ?_;refine jb (FX rfl) ?_;refine jb (iN rfl) ?_;refine nt (cn h (fun h=>?_) (fun h=>?_))
    ·refine sr (ja (cT [(0,.const (.int .i64 (7)),_)] rfl wi ua ta (iE ⟨rfl,trivial⟩) rfl) ?_);refine ja (mW rfl EM) ?_;refine aq (nt (rx ?_));cases h;exact ra
    ·refine sk (sr (cq (nt (aC ?_))));cases h;exact ra
def cF(k:Nat)(a0:(List (List Int)))(y5:(List (List Int))×Int):Nat→((List (List Int))×Int)→Option (List (List Int))
 |0,_=>none
 |n+1,y9=>
  if y9.2 < 5 then((((eE (0≤y5.2∧y5.2 < 3)).bind fun _=>
  (bf y9.1 y5.2).bind fun c=>
  (eE (0≤y9.2∧y9.2 < 5)).bind fun _=>
  ((if y5.2 < (a0.length:Int) then((bf a0 y5.2).bind fun r=>
  some (decide (y9.2 < (r.length:Int)))) else(some false)):Option (Bool)).bind fun s=>
  if s=true then((bf a0 y5.2).bind fun l=>
  (bf l y9.2).bind fun j=>
  (eE (0≤y5.2∧y5.2 < 3)).bind fun _=>
  (bf (List.set y9.1 (Int.toNat y5.2) (List.set c (Int.toNat y9.2) (-1:Int))) y5.2).bind fun h=>
  (eE (0≤y9.2∧y9.2 < 5)).bind fun _=>
  some (List.set (List.set y9.1 (Int.toNat y5.2) (List.set c (Int.toNat y9.2) (-1:Int))) (Int.toNat y5.2) (List.set h (Int.toNat y9.2) j))) else(some (List.set y9.1 (Int.toNat y5.2) (List.set c (Int.toNat y9.2) (-1:Int))))):Option ((List (List Int)))).bind fun u=>
  (ck (y9.2+1)).bind fun e=>
  cF k a0 y5 n (u,e)) else(some y9.1)
def cR(k:Nat)(a0:(List (List Int))):Nat→((List (List Int))×Int)→Option (List (List Int))
 |0,_=>none
 |n+1,y5=>
  if y5.2 < 3 then(((cF k a0 y5 k (y5.1,0)):Option ((List (List Int)))).bind fun x7=>
  (ck (y5.2+1)).bind fun c=>
  cR k a0 n (x7,c)) else(some y5.1)
def dr(k:Nat)(a0:(List (List Int))):Option (List (List Int)):=
 ((cR k a0 k ([[0,0,0,0,0],[0,0,0,0,0],[0,0,0,0,0]],0)):Option ((List (List Int)))).bind fun x3=>
 some x3
theorem dN(k:Nat)(a0:(List (List Int)))(r:(List (List Int)))(h:dr k a0=some r):
 cd Tryz.prog 86 [.rep (.slice (.slice (.int .i64))) a0] [] (fun _:Unit=>(bu [.rep (.arr 3 (.arr 5 (.int .i64))) r],[])):=by
 unfold dr at h
 replace h:=a8 h
 refine cd.of 43 Tryz.func86 rfl Tryz.ntmps86 rfl fun S w0=>?_
 refine sr ?_
 refine ay rfl rfl rfl (aP rfl li lM) trivial fun b1=>?_
 refine nt ?_
 refine sr ?_
 refine ay rfl rfl rfl (aP rfl li lM) trivial fun b2=>?_
 refine nt ?_
 refine aN (Z:=Unit) (α:=(List (List Int))) (fun z4 x3=>[(2,Pt b1),(3,Pt b2)]) (fun z4 x3=>[.obj b1 107 (.rep (.arr 3 (.arr 5 (.int .i64))) [[0,0,0,0,0],[0,0,0,0,0],[0,0,0,0,0]]),.obj b2 107 (.rep (.arr 3 (.arr 5 (.int .i64))) x3)]) h (fun K h=>?_) (fun z4 x3 h=>?_)
 ·
  refine sr (dX rfl ?_);refine nt (aj (aK (fun z6 y5=>[(0,.rep (.slice (.slice (.int .i64))) a0),(2,Pt b1),(3,Pt b2),(6,I y5.2)]) (fun z6 y5=>[.obj b1 107 (.rep (.arr 3 (.arr 5 (.int .i64))) [[0,0,0,0,0],[0,0,0,0,0],[0,0,0,0,0]]),.obj b2 107 (.rep (.arr 3 (.arr 5 (.int .i64))) y5.1)]) (cR k a0) k () ([[0,0,0,0,0],[0,0,0,0,0],[0,0,0,0,0]],0) (fun _=>rfl) h (SE.fin [1,0] ⟨rfl,rfl,rfl,rfl,trivial⟩ rfl) (fun n z6 y5 h=>?_)));unfold cR at h;refine sr (jb (bv rfl) ?_);refine nt (ah (ci h (fun h=>?_) (fun h=>?_)))
  ·refine sk (aN (Z:=Unit) (α:=(List (List Int))) (fun z8 x7=>[(0,.rep (.slice (.slice (.int .i64))) a0),(2,Pt b1),(3,Pt b2),(6,I y5.2)]) (fun z8 x7=>[.obj b1 107 (.rep (.arr 3 (.arr 5 (.int .i64))) [[0,0,0,0,0],[0,0,0,0,0],[0,0,0,0,0]]),.obj b2 107 (.rep (.arr 3 (.arr 5 (.int .i64))) x7)]) h (fun K h=>?_) (fun z8 x7 h=>?_))
   ·refine aj (sr (mq ?_));refine aq (nt (sr ?_));refine dX rfl ?_;refine nt (aj (aK (fun J y9=>[(0,.rep (.slice (.slice (.int .i64))) a0),(2,Pt b1),(3,Pt b2),(4,I y5.2),(6,I y5.2),(9,I y9.2)]) (fun J y9=>[.obj b1 107 (.rep (.arr 3 (.arr 5 (.int .i64))) [[0,0,0,0,0],[0,0,0,0,0],[0,0,0,0,0]]),.obj b2 107 (.rep (.arr 3 (.arr 5 (.int .i64))) y9.1)]) (cF k a0 y5) k () (y5.1,0) (fun _=>rfl) h (SE.fin [0,1] ⟨rfl,rfl,rfl,rfl,rfl,rfl,trivial⟩ rfl) (fun n J y9 h=>?_)));unfold cF at h;refine sr (jb (bv rfl) ?_);refine nt (ah (ci h (fun h=>?_) (fun h=>?_)))
    ·refine sk (aN (Z:=Unit) (α:=(List (List Int))) (fun F l=>[(0,.rep (.slice (.slice (.int .i64))) a0),(2,Pt b1),(3,Pt b2),(4,I y5.2),(6,I y5.2),(9,I y9.2)]) (fun F l=>[.obj b1 107 (.rep (.arr 3 (.arr 5 (.int .i64))) [[0,0,0,0,0],[0,0,0,0,0],[0,0,0,0,0]]),.obj b2 107 (.rep (.arr 3 (.arr 5 (.int .i64))) l)]) h (fun K h=>?_) (fun F l h=>?_))
     ·refine aj (sr (mq ?_));refine aq (nt (sr ?_));iterate 2 refine mq ?_
      obtain⟨SC,x,h⟩:=ab h;refine jb (gh rfl EN ti (aE x).1 (aE x).2) ?_;obtain⟨D,ac,h⟩:=ab h;obtain⟨SB,e,h⟩:=ab h;refine jb (gh rfl J9 dE (aE e).1 (aE e).2) ?_;refine fr 1 ?_;refine aZ rfl rfl (nr (t:=(.int .i64)) (off:=0) (i:=y5.2) (j:=y9.2) (N:=3) (L:=5) rfl dE .int rfl rfl rfl rfl ac (aE e).1 (aE e).2 rfl) ⟨rfl,rfl,trivial⟩ ?_;refine nt (aN (Z:=Unit) (α:=Bool) (fun E y=>[(0,.rep (.slice (.slice (.int .i64))) a0),(2,Pt b1),(3,Pt b2),(4,I y5.2),(5,I y9.2),(6,I y5.2),(9,I y9.2),(28,.eq (.bool y))]) (fun E y=>[.obj b1 107 (.rep (.arr 3 (.arr 5 (.int .i64))) [[0,0,0,0,0],[0,0,0,0,0],[0,0,0,0,0]]),.obj b2 107 (.rep (.arr 3 (.arr 5 (.int .i64))) (List.set y9.1 (Int.toNat y5.2) (List.set D (Int.toNat y9.2) (-1:Int))))]) h (fun K h=>?_) (fun E y h=>?_))
      ·refine aa ?_;iterate 2 refine mq ?_
       refine ol nI ?_;refine jb (bv rfl) ?_;refine mq ?_;refine bQ (s:=20) rfl (fun hb=>?_) (fun hb=>?_)
       ·replace h:=ct (m8 hb) h;refine gm ?_;refine gm ?_;refine gm ?_;obtain⟨Su,Y,h⟩:=ab h;refine gb (ba (t:=(.slice (.int .i64))) rfl nI bZ Y) ?_;refine ga (au (t:=(.slice (.int .i64))) rfl bZ rfl) ?_;refine ga (jJ rfl rfl fC) ?_;refine gb (bv rfl) ?_;refine pt (nl ?_);exact jz ((),decide (y9.2 < (Su.length:Int))) h [1,0]
       ·replace h:=bL (mz hb) h;iterate 7 refine gn ?_
        refine pf (nl ?_);exact jz ((),false) h [1,0]
      ·refine cv h (fun h=>?_) (fun h=>?_)
       ·refine cm ?_;refine dm ?_;refine dm ?_;refine dm ?_;refine dm ?_;obtain⟨Sv,X,h⟩:=ab h;refine db (ba (t:=(.slice (.int .i64))) rfl nI bZ X) ?_;refine da (au (t:=(.slice (.int .i64))) rfl bZ rfl) ?_;refine dm ?_;obtain⟨se,U,h⟩:=ab h;refine db (ba (t:=(.int .i64)) rfl fC dE U) ?_;refine da (au (t:=(.int .i64)) rfl dE rfl) ?_;obtain⟨SA,u,h⟩:=ab h;refine db (gh rfl EN ti (aE u).1 (aE u).2) ?_;refine df fg ?_;obtain⟨qt,Q,h⟩:=ab h;obtain⟨Sz,c,h⟩:=ab h;refine jb (gh rfl J9 dE (aE c).1 (aE c).2) ?_;refine fr 1 ?_;refine aZ rfl rfl (nr (t:=(.int .i64)) (off:=0) (i:=y5.2) (j:=y9.2) (N:=3) (L:=5) rfl dE .int rfl rfl rfl rfl Q (aE c).1 (aE c).2 rfl) ⟨rfl,rfl,trivial⟩ ?_;refine ao (bn ?_);exact jz ((),List.set (List.set y9.1 (Int.toNat y5.2) (List.set D (Int.toNat y9.2) (-1:Int))) (Int.toNat y5.2) (List.set qt (Int.toNat y9.2) se)) h [1,0]
       ·refine aU (bn ?_);exact jz ((),List.set y9.1 (Int.toNat y5.2) (List.set D (Int.toNat y9.2) (-1:Int))) h [0,1]
     ·refine aa ?_;obtain⟨pp,O,h⟩:=ab h;refine jb (bg rfl O) ?_;refine mq (nl ?_);exact jz ((),(l,pp)) h [0,1]
    ·refine dA (aM (aM (bR (bn ?_))));exact jz ((),y9.1) h [0,1]
   ·refine aa ?_;obtain⟨mc,M,h⟩:=ab h;refine jb (bg rfl M) ?_;refine mq (nl ?_);exact jz ((),(x7,mc)) h [0,1]
  ·refine xa ?_;exact jz ((),y5.1) h [0,1]
 ·
  refine sr (fr 1 ?_);refine lo cG ?_;refine fr 1 ?_;refine aZ rfl rfl (aR rfl cG rfl rfl rfl) ⟨rfl,rfl,trivial⟩ ?_;refine nt (aC ?_);obtain rfl:=Option.some.inj h;exact aI () [.rep (.arr 3 (.arr 5 (.int .i64))) x3] 0 ⟨⟨_,_,_,_,_,rfl,(.head _),cG,(xE),rfl⟩,trivial⟩ rfl
def cJ(k:Nat)(x5:(List Int)):Nat→((List Int)×Int)→Option (List Int)
 |0,_=>none
 |n+1,y6=>
  if y6.2 < 5 then((((bf x5 y6.2).bind fun c=>
  if 0≤c then((eE (bX (List.length y6.1+List.length [c]))).bind fun _=>
  some (y6.1++[c])) else(some y6.1)):Option ((List Int))).bind fun x8=>
  (ck (y6.2+1)).bind fun e=>
  cJ k x5 n (x8,e)) else(some y6.1)
def dJ(k:Nat)(a0:(List (List Int)))(a1:Int):Option (List Int):=
 (((eE (0≤a1∧a1 < 3)).bind fun _=>
 (bf a0 a1).bind fun x5=>
 cJ k x5 k (([]:(List Int)),0)):Option ((List Int))).bind fun x2=>
 some x2
theorem fU(k:Nat)(a0:(List (List Int)))(a1:Int)(r:(List Int))(h:dJ k a0 a1=some r):
 cd Tryz.prog 110 [.rep (.arr 3 (.arr 5 (.int .i64))) a0,I a1] [] (fun _:Unit=>(bu [Ri r],[])):=by
 unfold dJ at h
 replace h:=a8 h
 refine cd.of 22 Tryz.func110 rfl Tryz.ntmps110 rfl fun S w0=>?_
 refine sr ?_
 refine bx fun b1=>?_
 refine cq ?_
 refine nt ?_
 refine sr ?_
 refine cq ?_
 refine nt ?_
 refine aN (Z:=Value) (α:=(List Int)) (fun z3 x2=>[(5,.eq z3)]) (fun z3 x2=>[.sl z3 3 (.int .i64) x2]) h (fun K h=>?_) (fun z3 x2 h=>?_)
 ·
  refine sr (mq ?_);obtain⟨u4,l,h⟩:=ab h;refine jb (gh rfl EN ti (aE l).1 (aE l).2) ?_;obtain⟨x5,y,h⟩:=ab h;refine ka (uM (t:=(.arr 5 (.int .i64))) (off:=0) (i:=a1) (N:=3) rfl ti (xE) rfl rfl rfl rfl y) ?_;refine dX rfl ?_;refine nt (aj (fh (SE.nil 3 (.int .i64)) ?_));refine aK (fun z7 y6=>[(5,.eq z7),(10,.rep (.arr 5 (.int .i64)) x5),(11,I y6.2)]) (fun z7 y6=>[.sl z7 3 (.int .i64) y6.1]) (cJ k x5) k (.slice none 0 0) (([]:(List Int)),0) (fun _=>rfl) h (SE.fin [0] ⟨rfl,rfl,rfl,trivial⟩ rfl) (fun n z7 y6 h=>?_);unfold cJ at h;refine sr (jb (bv rfl) ?_);refine nt (ah (ci h (fun h=>?_) (fun h=>?_)))
  ·refine sk (aN (Z:=Value) (α:=(List Int)) (fun z9 x8=>[(5,.eq z9),(10,.rep (.arr 5 (.int .i64)) x5),(11,I y6.2)]) (fun z9 x8=>[.sl z9 3 (.int .i64) x8]) h (fun K h=>?_) (fun z9 x8 h=>?_))
   ·refine aj (sr ?_);obtain⟨c,j,h⟩:=ab h;refine jb (tq (t:=(.int .i64)) rfl J9 dE rfl rfl (fun _=>rfl) j) ?_;refine aq (nt (sr ?_));refine mq ?_;refine jb (pT rfl) ?_;refine nt (ci h (fun h=>?_) (fun h=>?_))
    ·refine aa ?_;iterate 2 refine mq ?_
     refine ja (bF (t:=(.int .i64)) [(.tmp 17,_)] [c] rfl rfl fF (.cons rfl .int .nil) rfl rfl) ?_;obtain⟨D,s,h⟩:=ab h;refine dQ rfl rfl rfl (cp rfl rfl fF (aE s)) ⟨rfl,rfl,trivial⟩ fun x=>?_;refine aq (ao (bn ?_));exact jz (x,y6.1++[c]) h [0]
    ·refine aU (bn ?_);exact jz (z7,y6.1) h [0]
   ·refine aa ?_;obtain⟨u,e,h⟩:=ab h;refine jb (bg rfl e) ?_;refine mq (nl ?_);exact jz (z9,(x8,u)) h [0]
  ·refine xa ?_;exact jz (z7,y6.1) h [0]
 ·
  refine sr (mq ?_);refine aq (nt (aC ?_));refine bM (gG [4,5,21] ⟨rfl,rfl,rfl,trivial⟩) ?_;cases h;exact ra
def co{σ:Type}(k:Nat)(a1:(List Int))(Y:σ→(Int×Int)→Option (σ×Bool)):Nat→(Int×σ)→Option (σ)
 |0,_=>none
 |n+1,y2=>
  if 0≤y2.1 then((bf a1 y2.1).bind fun x4=>
  (Y y2.2 (y2.1,x4)).bind fun r5=>
  if¬(r5.2=true) then(some r5.1) else((ck (y2.1 - 1)).bind fun x7=>
  co k a1 Y n (x7,r5.1))) else(some y2.2)
def gy{σ:Type}(k:Nat)(Y:σ→(Int×Int)→Option (σ×Bool))(a1:(List Int))(s0:σ):Option (σ):=
 (ck ((a1.length:Int) - 1)).bind fun x1=>
 co k a1 Y k (x1,s0)
theorem nV{M:Md Tryz.prog}{σ Z:Type}(E:Z→σ→List D)(l:Nat)(Y:σ→(Int×Int)→Option (σ×Bool))(k:Nat)(a1:(List Int))(c:Nat)(hY:∀z s p r,Y s p=some r→YT M l [I p.1,I p.2] (E z s) (fun z':Z=>(.eq (.bool r.2),E z' r.1))):
 ∀(z0:Z) (s0:σ) (r:σ),gy k Y a1 s0=some r→dh M 208 [.eq (.func (.yield l) #[] #[]),Pt c] ([.obj c 23 (Ri a1)]++E z0 s0) (fun z:Z=>(bu [],[.obj c 23 (Ri a1)]++E z r)):=by
 intro z0 s0 r h
 unfold gy at h
 replace h:=a8 h
 refine dh.of 19 Tryz.func208 rfl Tryz.ntmps208 rfl fun S w0=>?_
 refine sr ?_
 refine lo bZ ?_
 refine ol fC ?_
 obtain⟨x1,u,h⟩:=ab h
 refine jb (fN rfl u) ?_
 refine aq ?_
 refine nt ?_
 refine aj ?_
 refine aK (Z:=Z) (α:=Int×σ) (fun z3 y2=>[(0,.eq (.func (.yield l) #[] #[])),(1,Pt c),(3,I y2.1)]) (fun z3 y2=>[.obj c 23 (Ri a1)]++E z3 y2.2) (co k a1 Y) k z0 (x1,s0) (fun _=>rfl) h (bI [.obj c 23 (Ri a1)] (E z0 s0) [0] ⟨rfl,rfl,rfl,trivial⟩ rfl) (fun n z3 y2 h=>?_)
 unfold co at h
 refine ah ?_
 refine sr ?_
 refine mq ?_
 refine jb (pT rfl) ?_
 refine nt ?_
 refine ci h (fun h=>?_) (fun h=>?_)
 ·
  refine sk (ah (aj (sr ?_)));iterate 2 refine mq ?_
  refine lo bZ ?_;refine mq ?_;obtain⟨x4,j,h⟩:=ab h;refine jb (ba (t:=(.int .i64)) rfl fC dE j) ?_;refine ja (au (t:=(.int .i64)) rfl dE rfl) ?_;obtain⟨r5,x,h⟩:=ab h;refine o6 [.obj c 23 (Ri a1)] rfl rfl rfl (xt [.tmp 12,.tmp 16] rfl rfl rfl (hY z3 y2.2 (y2.1,x4) r5 x)) ⟨rfl,rfl,rfl,trivial⟩ fun z6=>?_;refine ja (gQ rfl) ?_;refine nt (cw h (fun h=>?_) (fun h=>?_))
  ·refine aC (br (bC ?_));cases h;exact gK z6 [] trivial rfl
  ·refine aU (aJ (tn (aa (mq ?_))));obtain⟨x7,e,h⟩:=ab h;refine jb (fN rfl e) ?_;refine aq (nl ?_);exact iy (z6,(x7,r5.1)) h (bI [.obj c 23 (Ri a1)] (E z6 r5.1) [0] ⟨rfl,rfl,rfl,trivial⟩ rfl)
 ·
  refine dA (aM (aM (bR (iQ ?_))));cases h;exact gK z3 [] trivial rfl
theorem pM(a0:(List Int)):cd Tryz.prog 190 [Ri a0] [] (fun z:Nat=>(bu [.eq (.func (.func 208) #[] #[(Pv z)])],[.obj z 23 (Ri a0)])):=by
 refine cd.of 4 Tryz.func190 rfl Tryz.ntmps190 rfl fun S w0=>?_;refine sr (bx fun z=>?_);refine cq (nt (sr ?_));refine ja (sH [] [.tmp 1] [] [(Pv z)] rfl rfl rfl) ?_;refine aq (nt (aC ?_));exact aI z [_] 1 ⟨rfl,trivial⟩ rfl
def om(k:Nat)(a0:(List Int)):Option (List Int):=
 (gy k (lu (fun(y3:(List Int)) (p5:(Int×Int))=>
  some ((p5.2::y3),true))) a0 ([],false)).bind fun r6=>
 if r6.2=true then(none) else(some r6.1)
theorem yJ(k:Nat)(a0:(List Int))(r:(List Int))(h:om k a0=some r):
 cd Tryz.prog 157 [Ri a0] [] (fun _:Unit=>(bu [.rep (.lst (.int .i64)) r],[])):=by
 unfold om at h
 replace h:=a8 h
 refine yr 15 Tryz.func157 rfl Tryz.ntmps157 rfl fun {M} S w0=>?_
 refine sr ?_
 refine cq ?_
 refine nt ?_
 refine sr ?_
 refine ay rfl rfl rfl (aP rfl NK P7) trivial fun b1=>?_
 refine nt ?_
 refine ah ?_
 refine sr ?_
 refine mq ?_
 refine ay rfl rfl rfl (an [.tmp 6] rfl rfl Pz rfl (pM a0)) ⟨rfl,trivial⟩ fun b2=>?_
 refine nt ?_
 refine aj ?_
 refine c9 1 rfl ?_
 refine fh (nJ (a:=.eq (.pointer none)) (a':=.rep (.lst (.int .i64)) []) (vA .lnil)) ?_
 refine c9 1 rfl ?_
 obtain⟨r6,c,h⟩:=ab h
 refine kT (Δ:=[.obj b2 23 (Ri a0),.obj b1 216 (.rep (.lst (.int .i64)) [])]) (F:=[]) (X:=Unit) (J:=fun _=>E0 r6.2) (E:=fun z4=>[.obj b2 23 (Ri a0),.obj b1 216 (.rep (.lst (.int .i64)) r6.1)]) (r0:=fun _=>.tup .any) rfl rfl Pn (fun rec hp ha hb hs hpe hN hv l=>?_) (fun dl z4=>nh (fun hj=>?_) (fun hj=>?_))
 ·
  rcases rec with⟨st0,pe0,fn0,tm0,ps0,as0,bd0,df0⟩;dsimp only at hp ha hb hs hpe hN hv;subst hp hs hpe;have vN:tU tm0 [(3,Pt b1)]:=⟨congrArg A.eq (hv 3 _ rfl).symm,trivial⟩;refine dh.pick (M:=M) [1,0,2] [1,0,2] (nV (fun(z4:Unit) (q:(List Int)×Bool)=>[.raw l (.loop (iI ⟨.ready,none,fn0,tm0, #[8,9],as0,bd0,df0⟩ (E0 q.2))),.obj b1 216 (.rep (.lst (.int .i64)) q.1)]) l (lu (fun(y3:(List Int)) (p5:(Int×Int))=>
  some ((p5.2::y3),true))) k a0 b2 (fun z4 q p r' h=>?_) () ([],false) r6 c) rfl (fun _=>rfl) (fun _=>rfl)
  obtain⟨rq,hq,h2,rfl⟩:=ni h;obtain⟨y3,b5⟩:=q;obtain rfl:b5=false:=hq;replace h:=a8 h2;obtain⟨p5,hpv⟩:∃x,x=p:=⟨_,rfl⟩;subst hpv;refine YT.pick (R':=(fun z4:Unit=>(.eq (.bool rq.2),[.raw l (.loop (iI ⟨.ready,none,fn0,tm0, #[8,9],as0,bd0,df0⟩ (E0 (!rq.2)))),.obj b1 216 (.rep (.lst (.int .i64)) rq.1)]))) [0,1] [0,1] (J8 ha hb (N:=15) (Γ:=[(3,Pt b1)]) rfl hN (by decide) vN (fun S w=>?_)) rfl (fun _=>rfl) (fun _=>rfl);refine aa (aq (nl ?_));refine rW rfl rfl ?_;refine aj (aa (mq ?_));refine fr 1 ?_;refine lo yN ?_;refine jb (cT [(0,.tmp 10,_),(1,.tmp 11,_)] rfl Ob NJ Nb (iE ⟨rfl,rfl,trivial⟩) rfl) ?_;refine ay rfl rfl rfl (nR rfl trivial) ⟨rfl,trivial⟩ fun b7=>?_;refine cI (k9 (t:=Fp) (x:=(p5.2,y3)) [13] (.agg (.pair .int .rep)) ⟨rfl,trivial⟩) ?_;refine aZ rfl rfl (aR rfl yN trivial rfl rfl) ⟨rfl,rfl,trivial⟩ ?_;refine ao (aJ (bM (nJ (a:=.at Fp (p5.2,y3)) (a':=.rep (.lst (.int .i64)) (p5.2::y3)) (vA .lcons)) ?_));refine aY 1 rfl ?_;cases h;exact lg () 1 rfl
 ·
  replace h:=bL (AN hj) h;refine aJ (tn (sr (fr 2 ?_)));refine lo yN ?_;refine aq (nt (aC ?_));refine aY 1 rfl ?_;refine rU ?_;cases h;exact ra
 ·
  replace h:=ct (AM hj) h;cases h
def gg(k:Nat)(a1:Int):Nat→(Int×(List Int)×(List Int)×(List Int))→Option (Int×(List Int))
 |0,_=>none
 |n+1,y2=>
  if List.isEmpty y2.2.2.2=true then((eE (bX (List.length y2.2.2.1+List.length y2.2.1))).bind fun _=>
  some (y2.1,y2.2.2.1++y2.2.1)) else((og y2.2.2.2).bind fun x6=>
  (dM k a1 x6.1).bind fun r7=>
  if r7=true then((og y2.2.2.2).bind fun x8=>
  (eE (bX (List.length y2.2.1+List.length [x8.1]))).bind fun _=>
  (og y2.2.2.2).bind fun l=>
  gg k a1 n (y2.1,y2.2.1++[x8.1],y2.2.2.1,l.2)) else(((if 0 < (y2.2.1.length:Int) then((og y2.2.2.2).bind fun h=>
  (dI k y2.1 h.1).bind fun r=>
  some r) else(some y2.1)):Option (Int)).bind fun j=>
  (og y2.2.2.2).bind fun c=>
  (eE (bX (List.length y2.2.2.1+List.length [c.1]))).bind fun _=>
  (og y2.2.2.2).bind fun e=>
  gg k a1 n (j,y2.2.1,y2.2.2.1++[c.1],e.2)))
def mN(k:Nat)(a0:(List Int))(a1:Int):Option (Int×(List Int)):=
 (om k a0).bind fun r1=>
 gg k a1 k (0,([]:(List Int)),([]:(List Int)),r1)
theorem tf(k:Nat)(a0:(List Int))(a1:Int)(r:Int×(List Int))(h:mN k a0 a1=some r):
 cd Tryz.prog 127 [Ri a0,.eq (.int .u8 a1)] [] (fun _:Unit=>(bu [.eq (.int .u8 r.1),Ri r.2],[])):=by
 unfold mN at h
 replace h:=a8 h
 refine cd.of 54 Tryz.func127 rfl Tryz.ntmps127 rfl fun S w0=>?_
 refine sr ?_
 refine cq ?_
 refine cq ?_
 refine nt ?_
 refine xc rfl (nE (by kernel_rfl) (nE (by kernel_rfl) (Hr Hq))) ?_
 refine sr ?_
 refine cq ?_
 refine cq ?_
 refine nt ?_
 refine sr ?_
 refine mq ?_
 obtain⟨r1,mc,h⟩:=ab h
 have pp:=yJ k a0 r1 mc
 refine ja (an [.tmp 9] rfl rfl PH rfl pp) ?_
 refine aq ?_
 refine nt ?_
 refine ah ?_
 refine As ?_
 refine tn ?_
 refine fh (SE.nil 3 (.int .i64)) ?_
 refine fh (SE.nil 3 (.int .i64)) ?_
 refine BW (Z:=Value×Value) (α:=Int×(List Int)×(List Int)×(List Int)) rfl (fun z3 y2=>[(1,.eq (.int .u8 a1)),(4,.eq (.int .u8 y2.1)),(6,.eq z3.1),(7,.eq z3.2),(8,.rep (.lst (.int .i64)) y2.2.2.2)]) (fun z3 y2=>[.sl z3.1 3 (.int .i64) y2.2.1,.sl z3.2 3 (.int .i64) y2.2.2.1]) (gg k a1) k ((.slice none 0 0),(.slice none 0 0)) (0,([]:(List Int)),([]:(List Int)),r1) (fun _=>rfl) h (SE.fin [1,0] ⟨rfl,rfl,rfl,rfl,rfl,trivial⟩ rfl) (fun n z3 y2 h=>?_)
 unfold gg at h
 refine ah ?_
 refine sr ?_
 refine mq ?_
 refine jb (F7 rfl RA) ?_
 refine nt ?_
 refine cv h (fun h=>?_) (fun h=>?_)
 ·
  refine sr ?_;iterate 3 refine mq ?_
  refine cI (gG [6,15] ⟨rfl,rfl,trivial⟩) ?_;obtain⟨u4,Y,h⟩:=ab h;refine dQ rfl rfl rfl (cp rfl rfl fF (aE Y)) ⟨rfl,rfl,trivial⟩ fun v5=>?_;refine aq ?_;refine aq (nt (rx ?_));refine rV ?_;refine bM (gG [5,16] ⟨rfl,rfl,trivial⟩) ?_;cases h;exact rb
 ·
  refine sk (ah (sr ?_));iterate 2 refine mq ?_
  obtain⟨x6,U,h⟩:=ab h;refine ja (kX rfl U) ?_;refine ja (aL 1 false rfl t7 rfl) ?_;refine ja (au (t:=(.int .i64)) rfl dE rfl) ?_;obtain⟨r7,ac,h⟩:=ab h;refine jb (an [.tmp 17,.tmp 21] rfl rfl JH rfl (ij k a1 x6.1 r7 ac)) ?_;refine nt (cv h (fun h=>?_) (fun h=>?_))
  ·refine sr ?_;iterate 2 refine mq ?_
   obtain⟨x8,Q,h⟩:=ab h;refine ja (kX rfl Q) ?_;refine ja (aL 1 false rfl t7 rfl) ?_;refine ja (au (t:=(.int .i64)) rfl dE rfl) ?_;refine ja (bF (t:=(.int .i64)) [(.tmp 27,_)] [x8.1] rfl rfl fF (.cons rfl .int .nil) rfl rfl) ?_;obtain⟨u9,X,h⟩:=ab h;refine dQ rfl rfl rfl (cp rfl rfl fF (aE X)) ⟨rfl,rfl,trivial⟩ fun O=>?_;refine aq (nt (sr ?_));refine mq ?_;obtain⟨J,y,h⟩:=ab h;refine ja (kX rfl y) ?_;refine ja (aL 1 false rfl CZ rfl) ?_;refine ja (au (t:=(.lst (.int .i64))) rfl yN rfl) ?_;refine aq (nt ?_);refine Du ?_;refine EU ?_;exact Ds ((O,z3.2),(y2.1,y2.2.1++[x8.1],y2.2.2.1,J.2)) h (SE.fin [0,1] ⟨rfl,rfl,rfl,rfl,rfl,trivial⟩ rfl)
  ·refine sk (aN (Z:=Unit) (α:=Int) (fun e c=>[(1,.eq (.int .u8 a1)),(4,.eq (.int .u8 c)),(6,.eq z3.1),(7,.eq z3.2),(8,.rep (.lst (.int .i64)) y2.2.2.2)]) (fun e c=>[.sl z3.1 3 (.int .i64) y2.2.1,.sl z3.2 3 (.int .i64) y2.2.2.1]) h (fun K h=>?_) (fun e c h=>?_))
   ·refine sr (mq ?_);refine ka (cZ rfl rfl fC) ?_;refine jb (lD rfl) ?_;refine nt (ci h (fun h=>?_) (fun h=>?_))
    ·refine aa ?_;iterate 2 refine mq ?_
     obtain⟨I,x,h⟩:=ab h;refine ja (kX rfl x) ?_;refine ja (aL 1 false rfl t7 rfl) ?_;refine ja (au (t:=(.int .i64)) rfl dE rfl) ?_;obtain⟨l,E,h⟩:=ab h;refine jb (an [.tmp 37,.tmp 41] rfl rfl C7 rfl (iS k y2.1 I.1 l E)) ?_;refine aq (nl ?_);exact jz ((),l) h [0,1]
    ·refine aU (ae ?_);exact jz ((),y2.1) h [0,1]
   ·refine sr ?_;iterate 2 refine mq ?_
    obtain⟨j,u,h⟩:=ab h;refine ja (kX rfl u) ?_;refine ja (aL 1 false rfl t7 rfl) ?_;refine ja (au (t:=(.int .i64)) rfl dE rfl) ?_;refine ja (bF (t:=(.int .i64)) [(.tmp 47,_)] [j.1] rfl rfl fF (.cons rfl .int .nil) rfl rfl) ?_;obtain⟨qt,D,h⟩:=ab h;refine fr 1 ?_;refine dQ rfl rfl rfl (cp rfl rfl fF (aE D)) ⟨rfl,rfl,trivial⟩ fun M=>?_;refine aq (nt (sr ?_));refine mq ?_;obtain⟨F,s,h⟩:=ab h;refine ja (kX rfl s) ?_;refine ja (aL 1 false rfl CZ rfl) ?_;refine ja (au (t:=(.lst (.int .i64))) rfl yN rfl) ?_;refine aq (nt ?_);refine Du ?_;exact Ds ((z3.1,M),(c,y2.2.1,y2.2.2.1++[j.1],F.2)) h (SE.fin [1,0] ⟨rfl,rfl,rfl,rfl,rfl,trivial⟩ rfl)
def cX(k:Nat)(a0:(List Int))(a1:Int):Nat→Int→Option (Except Int Unit)
 |0,_=>none
 |n+1,y3=>
  if y3 < (a0.length:Int) then((bf a0 y3).bind fun x5=>
  if a1=x5 then(some (.error y3)) else((ck (y3+1)).bind fun x6=>
  cX k a0 a1 n x6)) else(some (.ok ()))
def iM(k:Nat)(a0:(List Int))(a1:Int):Option Int:=
 bE (α:=Unit) (cX k a0 a1 k 0) (some) fun _=>
 some (-1:Int)
theorem sq(k:Nat)(a0:(List Int))(a1:Int)(r:Int)(h:iM k a0 a1=some r):
 cd Tryz.prog 123 [Ri a0,I a1] [] (fun _:Unit=>(bu [I r],[])):=by
 unfold iM at h
 replace h:=a8 h
 refine cd.of 19 Tryz.func123 rfl Tryz.ntmps123 rfl fun S w0=>?_
 refine sr ?_
 refine cq ?_
 refine nt ?_
 refine fA (Z:=Unit) (α:=Unit) (fun z2 x1=>[]) (fun z2 x1=>[]) (fun e=>e=r) h (fun e h=>Option.some.inj h) (fun K hR h=>?_) (fun z2 x1 h=>?_)
 ·
  refine sr (mq ?_);refine ol fC ?_;refine dX rfl ?_;refine nt (aj (aK (fun z4 y3=>[(0,Ri a0),(1,I a1),(7,I (a0.length:Int)),(8,I y3)]) (fun z4 y3=>[]) (cX k a0 a1) k () 0 (fun _=>rfl) h (SE.fin [] ⟨rfl,rfl,rfl,rfl,trivial⟩ rfl) (fun n z4 y3 h=>?_)));unfold cX at h;refine sr (jb (bv rfl) ?_);refine nt (ah (ci h (fun h=>?_) (fun h=>?_)))
  ·refine sk (ah (aj (sr (mq ?_))));refine aq (nt (sr ?_));iterate 3 refine mq ?_
   obtain⟨x5,j,h⟩:=ab h;refine jb (ba (t:=(.int .i64)) rfl fC dE j) ?_;refine ja (au (t:=(.int .i64)) rfl dE rfl) ?_;refine jb (ek rfl) ?_;refine nt (ci h (fun h=>?_) (fun h=>?_))
   ·refine sr (mq ?_);refine aq (nt (aC (br (bC (aX ?_)))));obtain rfl:=hR _ h;exact ra
   ·refine aU (aJ (tn (aa ?_)));obtain⟨x6,c,h⟩:=ab h;refine jb (bg rfl c) ?_;refine mq (nl ?_);exact jz ((),x6) h []
  ·refine xa ?_;exact jz ((),()) h []
 ·
  refine sr (cq (nt (aC ?_)));cases h;exact ra
def fV(k:Nat)(a0:(List Int))(a1:Int):Option Bool:=
 (iM k a0 a1).bind fun r1=>
 some (decide (0≤r1))
theorem pK(k:Nat)(a0:(List Int))(a1:Int)(r:Bool)(h:fV k a0 a1=some r):
 cd Tryz.prog 158 [Ri a0,I a1] [] (fun _:Unit=>(bu [.eq (.bool r)],[])):=by
 unfold fV at h
 replace h:=a8 h
 refine cd.of 9 Tryz.func158 rfl Tryz.ntmps158 rfl fun S w0=>?_
 refine sr ?_
 refine cq ?_
 refine nt ?_
 refine sr ?_
 iterate 2 refine mq ?_
 obtain⟨r1,c,h⟩:=ab h
 have e:=sq k a0 a1 r1 c
 refine jb (an [.tmp 5,.tmp 6] rfl rfl PT rfl e) ?_
 refine jb (pT rfl) ?_
 refine aq ?_
 refine nt ?_
 refine aC ?_
 cases h
 exact ra
def eP(k:Nat)(a0:cV)(a1:Int):Nat→(Int×Int)→Option Int
 |0,_=>none
 |n+1,y3=>
  if y3.2 < (a0.1.2.1.length:Int) then((((bf a0.1.2.1 y3.2).bind fun x7=>
  (fV k x7.2 a1).bind fun r9=>
  if r9=true then((dI k y3.1 y3.2).bind fun e=>
  some e) else(some y3.1)):Option (Int)).bind fun x5=>
  (ck (y3.2+1)).bind fun c=>
  eP k a0 a1 n (x5,c)) else(some y3.1)
def gU(k:Nat)(a0:cV)(a1:Int):Option Int:=
 ((eP k a0 a1 k (0,0)):Option (Int)).bind fun x1=>
 some x1
theorem mL(k:Nat)(a0:cV)(a1:Int)(r:Int)(h:gU k a0 a1=some r):
 cd Tryz.prog 128 [.at bj a0,I a1] [] (fun _:Unit=>(bu [.eq (.int .u8 r)],[])):=by
 unfold gU at h
 replace h:=a8 h
 refine cd.of 28 Tryz.func128 rfl Tryz.ntmps128 rfl fun S w0=>?_
 refine sr ?_
 refine cq ?_
 refine nt ?_
 refine sr ?_
 refine cq ?_
 refine nt ?_
 refine aN (Z:=Unit) (α:=Int) (fun z2 x1=>[(5,.eq (.int .u8 x1))]) (fun z2 x1=>[]) h (fun K h=>?_) (fun z2 x1 h=>?_)
 ·
  refine sr (mq ?_);refine ja (dB rfl) ?_;refine ja (aL 3 true rfl jD rfl) ?_;refine ja (aL 1 false rfl ir rfl) ?_;refine ja (au (t:=(.slice cg)) rfl ot rfl) ?_;refine ol Aj ?_;refine dX rfl ?_;refine nt (aj (aK (fun z4 y3=>[(1,I a1),(5,.eq (.int .u8 y3.1)),(12,Rs cg a0.1.2.1),(13,I (a0.1.2.1.length:Int)),(14,I y3.2)]) (fun z4 y3=>[]) (eP k a0 a1) k () (0,0) (fun _=>rfl) h (SE.fin [] ⟨rfl,rfl,rfl,rfl,rfl,trivial⟩ rfl) (fun n z4 y3 h=>?_)));unfold eP at h;refine sr (jb (bv rfl) ?_);refine nt (ah (ci h (fun h=>?_) (fun h=>?_)))
  ·refine sk (aN (Z:=Unit) (α:=Int) (fun z6 x5=>[(1,I a1),(5,.eq (.int .u8 x5)),(12,Rs cg a0.1.2.1),(13,I (a0.1.2.1.length:Int)),(14,I y3.2)]) (fun z6 x5=>[]) h (fun K h=>?_) (fun z6 x5 h=>?_))
   ·refine aj (sr (mq ?_));obtain⟨x7,s,h⟩:=ab h;refine jb (ba (t:=cg) rfl Aj qf s) ?_;refine ja (au (t:=cg) rfl qf rfl) ?_;refine ay rfl rfl rfl (aP rfl vB J3) trivial fun b8=>?_;refine aq ?_;refine aZ rfl rfl (aR rfl qf rfl rfl rfl) ⟨rfl,rfl,trivial⟩ ?_;refine nt (sr (fl sW ?_));refine lo bZ ?_;refine mq ?_;obtain⟨r9,u,h⟩:=ab h;refine jb (an [.tmp 20,.tmp 21] rfl rfl PG rfl (pK k x7.2 a1 r9 u)) ?_;refine nt (cv h (fun h=>?_) (fun h=>?_))
    ·refine aa ?_;iterate 2 refine mq ?_
     obtain⟨c,j,h⟩:=ab h;refine jb (an [.tmp 23,.tmp 24] rfl rfl C7 rfl (iS k y3.1 y3.2 c j)) ?_;refine aq (ao (bn ?_));exact jz ((),c) h []
    ·refine aU (bn ?_);exact jz ((),y3.1) h []
   ·refine aa ?_;obtain⟨l,e,h⟩:=ab h;refine jb (bg rfl e) ?_;refine mq (nl ?_);exact jz ((),(x5,l)) h []
  ·refine xa ?_;exact jz ((),y3.1) h []
 ·
  refine sr (mq ?_);refine aq (nt (aC ?_));cases h;exact ra
def iR(k:Nat)(a0:cV)(a1:(List (List Int)))(a2:Int):Nat→(Int×(List (List Int))×Int)→Option (Int×(List (List Int)))
 |0,_=>none
 |n+1,y5=>
  if y5.2.2 < 3 then((dJ k a1 y5.2.2).bind fun r7=>
  (gU k a0 a2).bind fun r8=>
  (mN k r7 r8).bind fun r9=>
  (eE (bX (List.length y5.2.1+List.length [r9.2]))).bind fun _=>
  (ck (y5.2.2+1)).bind fun c=>
  iR k a0 a1 a2 n (CS .u8 y5.1 r9.1,y5.2.1++[r9.2],c)) else(some (y5.1,y5.2.1))
def kJ(k:Nat)(a0:cV)(a1:(List (List Int)))(a2:Int):Option (Int×(List (List Int))):=
 ((iR k a0 a1 a2 k (0,([]:(List (List Int))),0)):Option (Int×(List (List Int)))).bind fun x3=>
 (dr k x3.2).bind fun c=>
 some (x3.1,c)
theorem nN(k:Nat)(a0:cV)(a1:(List (List Int)))(a2:Int)(r:Int×(List (List Int)))(h:kJ k a0 a1 a2=some r):
 cd Tryz.prog 85 [.at bj a0,.rep (.arr 3 (.arr 5 (.int .i64))) a1,I a2] [] (fun _:Unit=>(bu [.eq (.int .u8 r.1),.rep (.arr 3 (.arr 5 (.int .i64))) r.2],[])):=by
 unfold kJ at h
 replace h:=a8 h
 refine cd.of 37 Tryz.func85 rfl Tryz.ntmps85 rfl fun S w0=>?_
 refine sr ?_
 refine bx fun b1=>?_
 refine cq ?_
 refine ay rfl rfl rfl (aP rfl li lM) trivial fun b2=>?_
 refine nt ?_
 refine sr ?_
 refine cq ?_
 refine nt ?_
 refine sr ?_
 refine cq ?_
 refine nt ?_
 refine aN (Z:=Value) (α:=Int×(List (List Int))) (fun z4 x3=>[(7,Pt b2),(8,.eq (.int .u8 x3.1)),(9,.eq z4)]) (fun z4 x3=>[.obj b2 107 (.rep (.arr 3 (.arr 5 (.int .i64))) [[0,0,0,0,0],[0,0,0,0,0],[0,0,0,0,0]]),.sl z4 23 (.slice (.int .i64)) x3.2]) h (fun K h=>?_) (fun z4 x3 h=>?_)
 ·
  refine sr (dX rfl ?_);refine nt (aj (fh (SE.nil 23 (.slice (.int .i64))) ?_));refine aK (fun z6 y5=>[(0,.at bj a0),(2,I a2),(4,Pt b1),(7,Pt b2),(8,.eq (.int .u8 y5.1)),(9,.eq z6),(13,I y5.2.2)]) (fun z6 y5=>[.obj b1 107 (.rep (.arr 3 (.arr 5 (.int .i64))) a1),.obj b2 107 (.rep (.arr 3 (.arr 5 (.int .i64))) [[0,0,0,0,0],[0,0,0,0,0],[0,0,0,0,0]]),.sl z6 23 (.slice (.int .i64)) y5.2.1]) (iR k a0 a1 a2) k (.slice none 0 0) (0,([]:(List (List Int))),0) (fun _=>rfl) h (SE.fin [2,1,0] ⟨rfl,rfl,rfl,rfl,rfl,rfl,rfl,trivial⟩ rfl) (fun n z6 y5 h=>?_);unfold iR at h;refine sr (jb (bv rfl) ?_);refine nt (ah (ci h (fun h=>?_) (fun h=>?_)))
  ·refine sk (ah (aj (sr (mq ?_))));refine aq (nt (sr ?_));refine lo cG ?_;refine mq ?_;obtain⟨r7,D,h⟩:=ab h;refine jb (an [.tmp 17,.tmp 18] rfl rfl C9 rfl (fU k a1 y5.2.2 r7 D)) ?_;iterate 2 refine mq ?_
   obtain⟨r8,y,h⟩:=ab h;refine jb (an [.tmp 20,.tmp 21] rfl rfl PQ rfl (mL k a0 a2 r8 y)) ?_;obtain⟨r9,x,h⟩:=ab h;refine jb (an [.tmp 19,.tmp 22] rfl rfl PR rfl (tf k r7 r8 r9 x)) ?_;refine mq ?_;refine xr ?_;refine xr ?_;refine aq ?_;refine aq (nt (sr ?_));iterate 2 refine mq ?_
   refine jb (Oi rfl) ?_;refine aq (nt (aa ?_));iterate 2 refine mq ?_
   refine ja (bF (t:=(.slice (.int .i64))) [(.tmp 30,_)] [r9.2] rfl rfl su (.cons rfl .rep .nil) rfl rfl) ?_;obtain⟨E,j,h⟩:=ab h;refine fr 2 ?_;refine dQ rfl rfl rfl (cp rfl rfl su (aE j)) ⟨rfl,rfl,trivial⟩ fun u=>?_;refine aq (ao (aJ (tn (aa ?_))));obtain⟨s,e,h⟩:=ab h;refine jb (bg rfl e) ?_;refine mq (nl ?_);exact jz (u,(CS .u8 y5.1 r9.1,y5.2.1++[r9.2],s)) h [1,2,0]
  ·refine xa ?_;exact jz (z6,(y5.1,y5.2.1)) h [1,2]
 ·
  refine sr ?_;iterate 2 refine mq ?_
  obtain⟨c,l,h⟩:=ab h;refine fr 1 ?_;refine ka (qI (N:=[(.tmp 35,.eq z4)]) (an [.tmp 35] rfl rfl BK rfl (dN k x3.2 c l)) (fun _ _ _ hv hn=>⟨(lend hn.1 hv),trivial⟩) (fun _=>⟨rfl,zR⟩)) ?_;refine aq ?_;refine fr 1 ?_;refine aZ rfl rfl (aR rfl cG rfl rfl rfl) ⟨rfl,rfl,trivial⟩ ?_;refine nt (aC ?_);cases h;exact aI () [_,.rep (.arr 3 (.arr 5 (.int .i64))) c] 0 ⟨rfl,⟨_,_,_,_,_,rfl,(.head _),cG,(xE),rfl⟩,trivial⟩ rfl
def dU(k:Nat)(a0:cV)(a1:(List (List Int))):Nat→((List (List Int))×Int)→Option (List (List Int))
 |0,_=>none
 |n+1,y6=>
  if y6.2 < ((List.replicate (Int.toNat (a0.1.2.2.length:Int)) ([]:(List Int))).length:Int) then((dJ k a1 y6.2).bind fun r8=>
  (bf y6.1 y6.2).bind fun x9=>
  (ck (y6.2+1)).bind fun c=>
  dU k a0 a1 n (List.set y6.1 (Int.toNat y6.2) r8,c)) else(some y6.1)
def dk(k:Nat)(a0:cV)(a1:(List (List Int))):Option (List (List Int)):=
 (eE (0≤(a0.1.2.2.length:Int)∧bX (Int.toNat (a0.1.2.2.length:Int)))).bind fun _=>
 ((dU k a0 a1 k (List.replicate (Int.toNat (a0.1.2.2.length:Int)) ([]:(List Int)),0)):Option ((List (List Int)))).bind fun x4=>
 some x4
theorem g8(k:Nat)(a0:cV)(a1:(List (List Int)))(r:(List (List Int)))(h:dk k a0 a1=some r):
 cd Tryz.prog 88 [.at bj a0,.rep (.arr 3 (.arr 5 (.int .i64))) a1] [] (fun z:Value=>(bu [.eq z],[.sl z 23 (.slice (.int .i64)) r])):=by
 unfold dk at h
 replace h:=a8 h
 refine cd.of 27 Tryz.func88 rfl Tryz.ntmps88 rfl fun S w0=>?_
 refine sr ?_
 refine bx fun b1=>?_
 refine cq ?_
 refine nt ?_
 refine sr ?_
 refine mq ?_
 refine ja (dB rfl) ?_
 refine ja (aL 3 true rfl jD rfl) ?_
 refine ja (aL 1 false rfl eV rfl) ?_
 refine ja (au (t:=(.slice (.int .i64))) rfl bZ rfl) ?_
 refine ol fC ?_
 obtain⟨u2,j,h⟩:=ab h
 refine ay rfl rfl rfl (LK (t:=(.slice (.int .i64))) (d:=([]:(List Int))) rfl su QH (aE j).1 (aE j).2) ⟨rfl,rfl,trivial⟩ fun v3=>?_
 refine aq ?_
 refine nt ?_
 refine aN (Z:=Unit) (α:=(List (List Int))) (fun z5 x4=>[(5,.eq v3)]) (fun z5 x4=>[.sl v3 23 (.slice (.int .i64)) x4]) h (fun K h=>?_) (fun z5 x4 h=>?_)
 ·
  refine sr (mq ?_);refine ka (cZ rfl rfl nI) ?_;refine dX rfl ?_;refine nt (aj (aK (fun z7 y6=>[(3,Pt b1),(5,.eq v3),(15,I ((List.replicate (Int.toNat (a0.1.2.2.length:Int)) ([]:(List Int))).length:Int)),(16,I y6.2)]) (fun z7 y6=>[.obj b1 107 (.rep (.arr 3 (.arr 5 (.int .i64))) a1),.sl v3 23 (.slice (.int .i64)) y6.1]) (dU k a0 a1) k () (List.replicate (Int.toNat (a0.1.2.2.length:Int)) ([]:(List Int)),0) (fun _=>rfl) h (SE.fin [1,0] ⟨rfl,rfl,rfl,rfl,trivial⟩ rfl) (fun n z7 y6 h=>?_)));unfold dU at h;refine sr (jb (bv rfl) ?_);refine nt (ah (ci h (fun h=>?_) (fun h=>?_)))
  ·refine sk (ah (aj (sr (mq ?_))));refine aq (nt (aa ?_));iterate 2 refine mq ?_
   refine lo cG ?_;refine mq ?_;obtain⟨r8,s,h⟩:=ab h;refine jb (an [.tmp 21,.tmp 22] rfl rfl C9 rfl (fU k a1 y6.2 r8 s)) ?_;obtain⟨x9,c,h⟩:=ab h;refine fr 1 ?_;refine kb (bp (t:=(.slice (.int .i64))) rfl nI bZ c) ?_;refine aZ rfl rfl (eJ (i:=Int.toNat y6.2) rfl bZ rfl (mf c) rfl .rep rfl) ⟨rfl,rfl,trivial⟩ ?_;refine ao (aJ (tn (aa ?_)));obtain⟨l,e,h⟩:=ab h;refine jb (bg rfl e) ?_;refine mq (nl ?_);exact jz ((),(List.set y6.1 (Int.toNat y6.2) r8,l)) h [1,0]
  ·refine xa ?_;exact jz ((),y6.1) h [1]
 ·
  refine sr (mq ?_);refine aq (nt (aC ?_));cases h;exact aI v3 [.eq v3] 1 ⟨rfl,trivial⟩ rfl
def dw(k:Nat)(a0:(List Int))(a1:(List Int)):Nat→Int→Option (Except Bool Unit)
 |0,_=>none
 |n+1,y3=>
  if y3 < (a0.length:Int) then((bf a0 y3).bind fun x5=>
  (bf a1 y3).bind fun x6=>
  if¬(x5=x6) then(some (.error false)) else((ck (y3+1)).bind fun x7=>
  dw k a0 a1 n x7)) else(some (.ok ()))
def dK(k:Nat)(a0:(List Int))(a1:(List Int)):Option Bool:=
 if¬((a0.length:Int)=(a1.length:Int)) then(some false) else(bE (α:=Unit) (dw k a0 a1 k 0) (some) fun _=>
 some true)
theorem iZ(k:Nat)(a0:(List Int))(a1:(List Int))(r:Bool)(h:dK k a0 a1=some r):
 cd Tryz.prog 37 [Ri a0,Ri a1] [] (fun _:Unit=>(bu [.eq (.bool r)],[])):=by
 unfold dK at h
 replace h:=a8 h
 refine cd.of 26 Tryz.func37 rfl Tryz.ntmps37 rfl fun S w0=>?_
 refine sr ?_
 refine cq ?_
 refine nt ?_
 refine ah ?_
 refine sr ?_
 refine mq ?_
 refine ol fC ?_
 refine mq ?_
 refine ol fC ?_
 refine jb (iN rfl) ?_
 refine nt ?_
 refine cn h (fun h=>?_) (fun h=>?_)
 ·
  refine sr (cq (nt (rx ?_)));cases h;exact ra
 ·
  refine sk (fA (Z:=Unit) (α:=Unit) (fun z2 x1=>[]) (fun z2 x1=>[]) (fun e=>e=r) h (fun e h=>Option.some.inj h) (fun K hR h=>?_) (fun z2 x1 h=>?_))
  ·refine sr (cq (nt (aj ?_)));refine aK (fun z4 y3=>[(0,Ri a0),(1,Ri a1),(5,I y3)]) (fun z4 y3=>[]) (dw k a0 a1) k () 0 (fun _=>rfl) h (SE.fin [] ⟨rfl,rfl,rfl,trivial⟩ rfl) (fun n z4 y3 h=>?_);unfold dw at h;refine ah (sr ?_);iterate 2 refine mq ?_
   refine ol fC ?_;refine jb (bv rfl) ?_;refine nt (ci h (fun h=>?_) (fun h=>?_))
   ·refine sk (ah (aj (ah (cm ?_))));refine dm ?_;refine dm ?_;obtain⟨x5,l,h⟩:=ab h;refine db (ba (t:=(.int .i64)) rfl fC dE l) ?_;refine da (au (t:=(.int .i64)) rfl dE rfl) ?_;refine dm ?_;refine dm ?_;obtain⟨x6,j,h⟩:=ab h;refine db (ba (t:=(.int .i64)) rfl fC dE j) ?_;refine da (au (t:=(.int .i64)) rfl dE rfl) ?_;refine df fg ?_;refine jb (iN rfl) ?_;refine nt (cn h (fun h=>?_) (fun h=>?_))
    ·refine sr (cq (nt (aC (br (bC (aX ?_))))));obtain rfl:=hR _ h;exact ra
    ·refine aU (aJ (tn (aa (mq ?_))));obtain⟨x7,c,h⟩:=ab h;refine jb (bg rfl c) ?_;refine aq (nl ?_);exact jz ((),x7) h []
   ·refine xa ?_;exact jz ((),()) h []
  ·refine sr (cq (nt (aC ?_)));cases h;exact ra
def eR(k:Nat)(a0:(List (List Int)))(a1:(List (List Int))):Nat→Int→Option (Except Bool Unit)
 |0,_=>none
 |n+1,y3=>
  if y3 < (a0.length:Int) then((bf a0 y3).bind fun x5=>
  (bf a1 y3).bind fun x6=>
  (dK k x5 x6).bind fun r7=>
  if¬(r7=true) then(some (.error false)) else((ck (y3+1)).bind fun x8=>
  eR k a0 a1 n x8)) else(some (.ok ()))
def fH(k:Nat)(a0:(List (List Int)))(a1:(List (List Int))):Option Bool:=
 if¬((a0.length:Int)=(a1.length:Int)) then(some false) else(bE (α:=Unit) (eR k a0 a1 k 0) (some) fun _=>
 some true)
theorem jR(k:Nat)(a0:(List (List Int)))(a1:(List (List Int)))(r:Bool)(h:fH k a0 a1=some r):
 cd Tryz.prog 38 [.rep (.slice (.slice (.int .i64))) a0,.rep (.slice (.slice (.int .i64))) a1] [] (fun _:Unit=>(bu [.eq (.bool r)],[])):=by
 unfold fH at h
 replace h:=a8 h
 refine cd.of 27 Tryz.func38 rfl Tryz.ntmps38 rfl fun S w0=>?_
 refine sr ?_
 refine cq ?_
 refine nt ?_
 refine ah ?_
 refine sr ?_
 refine mq ?_
 refine ol nI ?_
 refine mq ?_
 refine ol nI ?_
 refine jb (iN rfl) ?_
 refine nt ?_
 refine cn h (fun h=>?_) (fun h=>?_)
 ·
  refine sr (cq (nt (rx ?_)));cases h;exact ra
 ·
  refine sk (fA (Z:=Unit) (α:=Unit) (fun z2 x1=>[]) (fun z2 x1=>[]) (fun e=>e=r) h (fun e h=>Option.some.inj h) (fun K hR h=>?_) (fun z2 x1 h=>?_))
  ·refine sr (cq (nt (aj ?_)));refine aK (fun z4 y3=>[(0,.rep (.slice (.slice (.int .i64))) a0),(1,.rep (.slice (.slice (.int .i64))) a1),(5,I y3)]) (fun z4 y3=>[]) (eR k a0 a1) k () 0 (fun _=>rfl) h (SE.fin [] ⟨rfl,rfl,rfl,trivial⟩ rfl) (fun n z4 y3 h=>?_);unfold eR at h;refine ah (sr ?_);iterate 2 refine mq ?_
   refine ol nI ?_;refine jb (bv rfl) ?_;refine nt (ci h (fun h=>?_) (fun h=>?_))
   ·refine sk (ah (aj (ah (cm ?_))));refine dm ?_;refine dm ?_;obtain⟨x5,l,h⟩:=ab h;refine db (ba (t:=(.slice (.int .i64))) rfl nI bZ l) ?_;refine da (au (t:=(.slice (.int .i64))) rfl bZ rfl) ?_;refine dm ?_;refine dm ?_;obtain⟨x6,j,h⟩:=ab h;refine db (ba (t:=(.slice (.int .i64))) rfl nI bZ j) ?_;refine da (au (t:=(.slice (.int .i64))) rfl bZ rfl) ?_;refine df fg ?_;obtain⟨r7,s,h⟩:=ab h;refine jb (an [.tmp 20,.tmp 24] rfl rfl JJ rfl (iZ k x5 x6 r7 s)) ?_;refine ja (gQ rfl) ?_;refine nt (cw h (fun h=>?_) (fun h=>?_))
    ·refine sr (cq (nt (aC (br (bC (aX ?_))))));obtain rfl:=hR _ h;exact ra
    ·refine aU (aJ (tn (aa (mq ?_))));obtain⟨x8,c,h⟩:=ab h;refine jb (bg rfl c) ?_;refine aq (nl ?_);exact jz ((),x8) h []
   ·refine xa ?_;exact jz ((),()) h []
  ·refine sr (cq (nt (aC ?_)));cases h;exact ra
def j8(k:Nat)(a0:List Int):Option (List Int):=
 (eE (bX (List.length a0))).bind fun _=>some a0
theorem mR(k:Nat)(a0:List Int)(r:List Int)(h:j8 k a0=some r):
 cd Tryz.prog 97 [Ri a0] [] (fun z:Value=>(bu [.eq z],[.sl z 3 (.int .i64) r])):=by
 unfold j8 at h
 replace h:=a8 h
 refine cd.of 8 Tryz.func97 rfl Tryz.ntmps97 rfl fun S w0=>?_
 obtain⟨u1,c,h⟩:=ab h
 cases h
 refine sr ?_
 refine cq ?_
 refine nt ?_
 refine ah ?_
 refine sr ?_
 refine mq ?_
 refine bB (Δ:=[]) (F:=_) (fun _ _ _=>ar rfl _) rfl rfl (IR rfl fC) ⟨rfl,rfl,trivial⟩ fun b=>?_
 refine nt ?_
 refine bi rfl (fun hb=>?_) (fun hb=>?_)
 ·
  refine sr (cq (nt (rx ?_)));obtain rfl:=b.2 hb;refine bM (SE.nil 3 (.int .i64)) ?_;exact aI (.slice none 0 0) [.eq (.slice none 0 0)] 1 ⟨rfl,trivial⟩ rfl
 ·
  refine sk (sr (ay rfl rfl rfl (nu (t:=(.int .i64)) [] [] rfl rfl fF .nil rfl rfl) trivial fun v1=>?_));refine mq ?_;refine dQ rfl rfl rfl (cp rfl rfl fF (by simpa using aE c)) ⟨rfl,rfl,trivial⟩ fun v2=>?_;refine aq (nt (aC ?_));exact aI v2 [.eq v2] 1 ⟨rfl,trivial⟩ rfl
def hC(k:Nat)(a0:cV)(a2:Int):Nat→((List (List Int))×Int)→Option (List (List Int))
 |0,_=>none
 |n+1,y5=>
  if y5.2 < a2 then((kJ k a0 y5.1 y5.2).bind fun r7=>
  (ck (y5.2+1)).bind fun x8=>
  hC k a0 a2 n (r7.2,x8)) else(some y5.1)
def ll(k:Nat)(a0:cV)(a1:(List (List Int)))(a2:Int):Option (List (List Int)):=
 ((hC k a0 a2 k (a1,0)):Option ((List (List Int)))).bind fun x3=>
 some x3
theorem qR(k:Nat)(a0:cV)(a1:(List (List Int)))(a2:Int)(r:(List (List Int)))(h:ll k a0 a1 a2=some r):
 cd Tryz.prog 103 [.at bj a0,.rep (.arr 3 (.arr 5 (.int .i64))) a1,I a2] [] (fun _:Unit=>(bu [.rep (.arr 3 (.arr 5 (.int .i64))) r],[])):=by
 unfold ll at h
 replace h:=a8 h
 refine cd.of 21 Tryz.func103 rfl Tryz.ntmps103 rfl fun S w0=>?_
 refine sr ?_
 refine bx fun b1=>?_
 refine ay rfl rfl rfl (aP rfl li lM) trivial fun b2=>?_
 refine nt ?_
 refine aN (Z:=Unit) (α:=(List (List Int))) (fun z4 x3=>[(4,Pt b1),(6,Pt b2)]) (fun z4 x3=>[.obj b1 107 (.rep (.arr 3 (.arr 5 (.int .i64))) x3),.obj b2 107 (.rep (.arr 3 (.arr 5 (.int .i64))) [[0,0,0,0,0],[0,0,0,0,0],[0,0,0,0,0]])]) h (fun K h=>?_) (fun z4 x3 h=>?_)
 ·
  refine sr (mq ?_);refine dX rfl ?_;refine nt (aj (aK (fun z6 y5=>[(0,.at bj a0),(4,Pt b1),(6,Pt b2),(8,I a2),(9,I y5.2)]) (fun z6 y5=>[.obj b1 107 (.rep (.arr 3 (.arr 5 (.int .i64))) y5.1),.obj b2 107 (.rep (.arr 3 (.arr 5 (.int .i64))) [[0,0,0,0,0],[0,0,0,0,0],[0,0,0,0,0]])]) (hC k a0 a2) k () (a1,0) (fun _=>rfl) h (SE.fin [1,0] ⟨rfl,rfl,rfl,rfl,rfl,trivial⟩ rfl) (fun n z6 y5 h=>?_)));unfold hC at h;refine sr (jb (bv rfl) ?_);refine nt (ah (ci h (fun h=>?_) (fun h=>?_)))
  ·refine sk (ah (aj (sr (mq ?_))));refine aq (nt (aa ?_));refine mq ?_;refine lo cG ?_;refine mq ?_;obtain⟨r7,e,h⟩:=ab h;refine jc (an [.tmp 13,.tmp 14,.tmp 15] rfl rfl Pi rfl (nN k a0 y5.1 y5.2 r7 e)) ?_;refine mq ?_;refine xr ?_;refine xr ?_;refine aZ rfl rfl (aR rfl cG rfl rfl rfl) ⟨rfl,rfl,trivial⟩ ?_;refine ao (aJ (tn (aa ?_)));obtain⟨x8,c,h⟩:=ab h;refine jb (bg rfl c) ?_;refine mq (nl ?_);exact jz ((),(r7.2,x8)) h [0,1]
  ·refine xa ?_;exact jz ((),y5.1) h [0,1]
 ·
  refine sr (lo cG ?_);refine fr 1 ?_;refine aZ rfl rfl (aR rfl cG rfl rfl rfl) ⟨rfl,rfl,trivial⟩ ?_;refine nt (aC ?_);obtain rfl:=Option.some.inj h;exact aI () [.rep (.arr 3 (.arr 5 (.int .i64))) x3] 0 ⟨⟨_,_,_,_,_,rfl,(.head _),cG,(xE),rfl⟩,trivial⟩ rfl
def ly(k:Nat)(a0:List Int)(a1 a2:Int):Option (List Int):=
 (eE (0≤a1∧a1 < a2∧a2≤(a0.length:Int))).bind fun _=>some (a0.take a1.toNat++a0.drop a2.toNat)
theorem q8(k:Nat)(a0:List Int)(v:Value)(a1 a2:Int)(r:List Int)(h:ly k a0 a1 a2=some r):cd Tryz.prog 143 [.eq v,.eq (.int .i64 a1),.eq (.int .i64 a2)] [.sl v 3 (.int .i64) a0] (fun z:Value=>(bu [.eq z],[.sl z 3 (.int .i64) r])):=by
 unfold ly at h
 replace h:=a8 h
 obtain⟨u1,eg,h⟩:=ab h
 obtain⟨h1,h2,h3⟩:=aE eg
 obtain rfl:=Option.some.inj h
 refine cd.of 33 Tryz.func143 rfl Tryz.ntmps143 rfl fun S w0=>?_
 refine EV (fun e=>by rw [e] at h3;simp at h3;omega) fun b cap hv hcap=>?_
 subst hv
 have hl:(a0.take a1.toNat++a0.drop a2.toNat).length=a1.toNat+(a0.length - a2.toNat):=by simp;omega
 refine ah ?_
 refine aa ?_
 refine dG rfl ?_
 refine ao (ae ?_)
 show JC _ _ _ _ _
 refine ah ?_
 refine aa ?_
 refine av rfl rfl ?_
 refine av rfl rfl ?_
 refine av rfl rfl ?_
 refine av rfl rfl ?_
 refine bU rfl rfl rfl (cZ rfl rfl fC) ⟨rfl,trivial⟩ ?_
 refine aA rfl (xu rfl fC dE h1 (by omega) h3 (by omega)) ⟨rfl,rfl,rfl,rfl,trivial⟩ ?_
 refine ao (ae ?_)
 show JC _ _ _ _ _
 refine ah ?_
 refine ah ?_
 refine aa ?_
 refine av rfl rfl ?_
 refine av rfl rfl ?_
 refine aA rfl (ek rfl) ⟨rfl,rfl,trivial⟩ ?_
 refine ao (ae ?_)
 show JC _ _ _ _ _
 refine bi rfl (fun hb=>absurd (of_decide_eq_true hb) (by omega)) (fun hb=>?_)
 refine aU (ae ?_)
 show JC _ _ _ _ _
 refine ah ?_
 refine aa ?_
 refine av rfl rfl ?_
 refine bU rfl rfl rfl (cZ rfl rfl fC) ⟨rfl,trivial⟩ ?_
 refine dj rfl rfl ?_
 refine ao (ae ?_)
 show JC _ _ _ _ _
 refine ah ?_
 refine cm ?_
 refine dp rfl rfl rfl (bz rfl) ⟨rfl,trivial⟩ ?_
 refine dp rfl rfl rfl (bz rfl) ⟨rfl,trivial⟩ ?_
 refine dp rfl rfl rfl (uK rfl fC dE h1 (by omega)) ⟨rfl,rfl,trivial⟩ ?_
 refine dp rfl rfl rfl (bz rfl) ⟨rfl,trivial⟩ ?_
 refine dp rfl rfl rfl (bz rfl) ⟨rfl,trivial⟩ ?_
 refine dp rfl rfl rfl (Bc rfl fC dE (by omega) h3) ⟨rfl,rfl,trivial⟩ ?_
 refine td (by kernel_rfl) fg ?_
 refine cI (rS 22 rfl fun _ _ _ h=>(Cf▸h:(A.eq (.slice (some ⟨b,0,none⟩) a1.toNat cap)).holds _ _ _)) ?_
 refine bU rfl rfl rfl (xx (t:=.int .i64) (b:=b) (cap:=cap) (l:=a0) (i:=a1.toNat) (j:=a2.toNat) rfl rfl fF (by omega) (by omega) hcap) ⟨rfl,rfl,trivial⟩ ?_
 refine dj rfl rfl ?_
 refine ao (ae ?_)
 show JC _ _ _ _ _
 refine ah ?_
 refine aa ?_
 refine av rfl rfl ?_
 refine av rfl rfl ?_
 refine bU rfl rfl rfl (cZ rfl rfl fC) ⟨rfl,trivial⟩ ?_
 refine av rfl rfl ?_
 refine aA rfl (yY rfl fC dE (by omega) (by rw [hl];omega) (by omega)) ⟨rfl,rfl,rfl,trivial⟩ ?_
 refine aZ rfl rfl (ze (t:=.int .i64) (b:=b) (cap:=cap) (l:=a0.take a1.toNat++a0.drop a2.toNat) (n:=a0.length) rfl rfl fC rfl RX rfl rfl (by rw [hl];omega) hcap) ⟨rfl,trivial⟩ ?_
 refine ao (ae ?_)
 show JC _ _ _ _ _
 refine ah ?_
 refine aa ?_
 refine av rfl rfl ?_
 refine dj rfl rfl ?_
 refine ao (ae ?_)
 show JC _ _ _ _ _
 refine aC ?_
 exact aI _ [.eq _] 1 ⟨rfl,trivial⟩ rfl
def j0(k:Nat)(x7:Int)(h:(List (List Int))):Nat→((List (List Int))×Int)→Option (List (List Int))
 |0,_=>none
 |n+1,c=>
  if c.2 < (h.length:Int) then((bf h c.2).bind fun e=>
  (eE (bX (List.length [x7]+List.length e))).bind fun _=>
  (eE (bX (List.length c.1+List.length [[x7]++e]))).bind fun _=>
  (ck (c.2+1)).bind fun j=>
  j0 k x7 h n (c.1++[[x7]++e],j)) else(some c.1)
def j7(k:Nat)(a0:(List Int))(self:(List Int)→Option ((List (List Int)))):Nat→((List (List Int))×Int)→Option (List (List Int))
 |0,_=>none
 |n+1,y3=>
  if y3.2 < (a0.length:Int) then((((bf a0 y3.2).bind fun x7=>
  (j8 k a0).bind fun r8=>
  (ck (y3.2+1)).bind fun e=>
  (ly k r8 y3.2 e).bind fun j=>
  (self j).bind fun h=>
  j0 k x7 h k (y3.1,0)):Option ((List (List Int)))).bind fun x5=>
  (ck (y3.2+1)).bind fun c=>
  j7 k a0 self n (x5,c)) else(some y3.1)
def ln(k:Nat):Nat→(List Int)→Option ((List (List Int)))
 |0,_=>none
 |m0+1,a0=>
  if(a0.length:Int)=0 then(some [[]]) else(((j7 k a0 (ln k m0) k (([]:(List (List Int))),0)):Option ((List (List Int)))).bind fun x1=>
  some x1)
theorem vF(k:Nat):
 ∀(n:Nat) (a0:(List Int)) (r:(List (List Int))),ln k n a0=some r→cd Tryz.prog 107 [Ri a0] ([]) (fun _:Unit=>(bu [.rep (.slice (.slice (.int .i64))) r],[])):=by
 intro n
 induction n with
 |zero=>intro a0 r h;cases h
 |succ m0 ih=>
  intro a0 r h;rw [ln] at h;replace h:=a8 h;refine cd.of 41 Tryz.func107 rfl Tryz.ntmps107 rfl fun S w0=>?_;refine sr (cq (nt (ah (sr ?_))));refine mq ?_;refine ol fC ?_;refine jb (ek rfl) ?_;refine nt (ci h (fun h=>?_) (fun h=>?_))
  ·refine sr (ja (bF (t:=(.slice (.int .i64))) [(.const (.slice none 0 0),_)] [[]] rfl rfl su (.cons rfl .nil .nil) rfl rfl) ?_);refine aq (nt (rx ?_));cases h;exact ra
  ·refine sk (sr (cq (nt ?_)));refine aN (Z:=Value) (α:=(List (List Int))) (fun z2 x1=>[(3,.eq z2)]) (fun z2 x1=>[.sl z2 23 (.slice (.int .i64)) x1]) h (fun K h=>?_) (fun z2 x1 h=>?_)
   ·refine sr (mq ?_);refine ol fC ?_;refine dX rfl ?_;refine nt (aj (fh (SE.nil 23 (.slice (.int .i64))) ?_));refine aK (fun z4 y3=>[(0,Ri a0),(3,.eq z4),(12,Ri a0),(13,I (a0.length:Int)),(14,I y3.2)]) (fun z4 y3=>[.sl z4 23 (.slice (.int .i64)) y3.1]) (j7 k a0 (ln k m0)) k (.slice none 0 0) (([]:(List (List Int))),0) (fun _=>rfl) h (SE.fin [0] ⟨rfl,rfl,rfl,rfl,rfl,trivial⟩ rfl) (fun n z4 y3 h=>?_);unfold j7 at h;refine sr (jb (bv rfl) ?_);refine nt (ah (ci h (fun h=>?_) (fun h=>?_)))
    ·refine sk (aN (Z:=Value) (α:=(List (List Int))) (fun z6 x5=>[(0,Ri a0),(3,.eq z6),(12,Ri a0),(13,I (a0.length:Int)),(14,I y3.2)]) (fun z6 x5=>[.sl z6 23 (.slice (.int .i64)) x5]) h (fun K h=>?_) (fun z6 x5 h=>?_))
     ·refine aj (sr (mq ?_));obtain⟨x7,Y,h⟩:=ab h;refine jb (ba (t:=(.int .i64)) rfl fC dE Y) ?_;refine ja (au (t:=(.int .i64)) rfl dE rfl) ?_;refine aq ?_;refine aq (nt (sr ?_));refine mq ?_;obtain⟨r8,ac,h⟩:=ab h;refine ay rfl rfl rfl (an [.tmp 19] rfl rfl Rb rfl (mR k a0 r8 ac)) ⟨rfl,trivial⟩ fun v9=>?_;iterate 2 refine mq ?_
      obtain⟨U,D,h⟩:=ab h;refine jb (bg rfl D) ?_;obtain⟨s,M,h⟩:=ab h;refine dQ rfl rfl rfl (an [.tmp 20,.tmp 21,.tmp 23] rfl rfl PO rfl (q8 k r8 v9 y3.2 U s M)) ⟨rfl,rfl,rfl,trivial⟩ fun qt=>?_;refine cI (gG [24] ⟨rfl,trivial⟩) ?_;obtain⟨j,J,h⟩:=ab h;refine ja (an [.tmp 24] rfl rfl K8 rfl (ih s j J)) ?_;refine ol nI ?_;refine dX rfl ?_;refine nt (aj (aK (fun e c=>[(0,Ri a0),(3,.eq e),(5,I x7),(12,Ri a0),(13,I (a0.length:Int)),(14,I y3.2),(25,.rep (.slice (.slice (.int .i64))) j),(26,I (j.length:Int)),(27,I c.2)]) (fun e c=>[.sl e 23 (.slice (.int .i64)) c.1]) (j0 k x7 j) k z4 (y3.1,0) (fun _=>rfl) h (SE.fin [0] ⟨rfl,rfl,rfl,rfl,rfl,rfl,rfl,rfl,rfl,trivial⟩ rfl) (fun n e c h=>?_)));unfold j0 at h;refine sr (jb (bv rfl) ?_);refine nt (ah (ci h (fun h=>?_) (fun h=>?_)))
      ·refine sk (ah (aj (sr ?_)));obtain⟨l,y,h⟩:=ab h;refine jb (ba (t:=(.slice (.int .i64))) rfl nI bZ y) ?_;refine ja (au (t:=(.slice (.int .i64))) rfl bZ rfl) ?_;refine aq (nt (aa ?_));iterate 2 refine mq ?_
       refine ay rfl rfl rfl (nu (t:=(.int .i64)) [(.tmp 32,_)] [x7] rfl rfl fF (.cons rfl .int .nil) rfl rfl) ⟨rfl,trivial⟩ fun pp=>?_;refine mq ?_;obtain⟨Su,F,h⟩:=ab h;refine dQ rfl rfl rfl (cp rfl rfl fF (aE F)) ⟨rfl,rfl,trivial⟩ fun mc=>?_;refine cI (gG [35] ⟨rfl,trivial⟩) ?_;refine ja (bF (t:=(.slice (.int .i64))) [(.tmp 35,_)] [[x7]++l] rfl rfl su (.cons rfl .rep .nil) rfl rfl) ?_;obtain⟨se,E,h⟩:=ab h;refine dQ rfl rfl rfl (cp rfl rfl su (aE E)) ⟨rfl,rfl,trivial⟩ fun X=>?_;refine aq (ao (aJ (tn (aa ?_))));obtain⟨Q,x,h⟩:=ab h;refine jb (bg rfl x) ?_;refine mq (nl ?_);exact jz (X,(c.1++[[x7]++l],Q)) h [0]
      ·refine dA (aM (aM (bR (bn ?_))));exact jz (e,c.1) h [0]
     ·refine aa ?_;obtain⟨O,u,h⟩:=ab h;refine jb (bg rfl u) ?_;refine mq (nl ?_);exact jz (z6,(x5,O)) h [0]
    ·refine xa ?_;exact jz (z4,y3.1) h [0]
   ·refine sr (mq ?_);refine aq (nt (aC ?_));refine bM (gG [2,3,40] ⟨rfl,rfl,rfl,trivial⟩) ?_;cases h;exact ra
def fQ{σ:Type}(k:Nat)(a1:(List Int))(Y:σ→Int→Option (σ×Bool)):Nat→(Int×σ)→Option (σ)
 |0,_=>none
 |n+1,y1=>
  if y1.1 < (a1.length:Int) then((bf a1 y1.1).bind fun x3=>
  (Y y1.2 x3).bind fun r4=>
  if¬(r4.2=true) then(some r4.1) else((ck (y1.1+1)).bind fun x6=>
  fQ k a1 Y n (x6,r4.1))) else(some y1.2)
def jM{σ:Type}(k:Nat)(Y:σ→Int→Option (σ×Bool))(a1:(List Int))(s0:σ):Option (σ):=
 fQ k a1 Y k (0,s0)
theorem pJ{M:Md Tryz.prog}{σ Z:Type}(E:Z→σ→List D)(l:Nat)(Y:σ→Int→Option (σ×Bool))(k:Nat)(a1:(List Int))(c:Nat)(hY:∀z s p r,Y s p=some r→YT M l [I p] (E z s) (fun z':Z=>(.eq (.bool r.2),E z' r.1))):
 ∀(z0:Z) (s0:σ) (r:σ),jM k Y a1 s0=some r→dh M 146 [.eq (.func (.yield l) #[] #[]),Pt c] ([.obj c 23 (Ri a1)]++E z0 s0) (fun z:Z=>(bu [],[.obj c 23 (Ri a1)]++E z r)):=by
 intro z0 s0 r h
 unfold jM at h
 replace h:=a8 h
 refine dh.of 16 Tryz.func146 rfl Tryz.ntmps146 rfl fun S w0=>?_
 refine sr ?_
 refine lo bZ ?_
 refine ol fC ?_
 refine dX rfl ?_
 refine nt ?_
 refine aj ?_
 refine aK (Z:=Z) (α:=Int×σ) (fun z2 y1=>[(0,.eq (.func (.yield l) #[] #[])),(5,Ri a1),(6,I (a1.length:Int)),(7,I y1.1)]) (fun z2 y1=>[.obj c 23 (Ri a1)]++E z2 y1.2) (fQ k a1 Y) k z0 (0,s0) (fun _=>rfl) h (bI [.obj c 23 (Ri a1)] (E z0 s0) [0] ⟨rfl,rfl,rfl,rfl,trivial⟩ rfl) (fun n z2 y1 h=>?_)
 unfold fQ at h
 refine sr ?_
 refine jb (bv rfl) ?_
 refine nt ?_
 refine ah ?_
 refine ci h (fun h=>?_) (fun h=>?_)
 ·
  refine sk (ah (aj (sr ?_)));obtain⟨x3,j,h⟩:=ab h;refine jb (ba (t:=(.int .i64)) rfl fC dE j) ?_;refine ja (au (t:=(.int .i64)) rfl dE rfl) ?_;refine aq (nt (sr ?_));iterate 2 refine mq ?_
  obtain⟨r4,u,h⟩:=ab h;refine o6 [.obj c 23 (Ri a1)] rfl rfl rfl (xt [.tmp 12] rfl rfl rfl (hY z2 y1.2 x3 r4 u)) ⟨rfl,rfl,trivial⟩ fun z5=>?_;refine ja (gQ rfl) ?_;refine nt (cw h (fun h=>?_) (fun h=>?_))
  ·refine aC (br (bC ?_));cases h;exact gK z5 [] trivial rfl
  ·refine aU (aJ (tn (aa ?_)));obtain⟨x6,e,h⟩:=ab h;refine jb (bg rfl e) ?_;refine mq (nl ?_);exact iy (z5,(x6,r4.1)) h (bI [.obj c 23 (Ri a1)] (E z5 r4.1) [0] ⟨rfl,rfl,rfl,rfl,trivial⟩ rfl)
 ·
  refine dA (aM (aM (bR (iQ ?_))));cases h;exact gK z2 [] trivial rfl
def jx(k:Nat)(a1:(List Int)):Option (List Int):=
 (jM k (lu (fun(y2:(List Int)) (p4:Int)=>
  (eE (bX (List.length y2+List.length [p4]))).bind fun _=>
  some (y2++[p4],true))) a1 (([]:(List Int)),false)).bind fun r5=>
 if r5.2=true then(none) else(some r5.1)
theorem ou(k:Nat)(a1:(List Int))(c:Nat)(r:(List Int))(h:jx k a1=some r):
 cd Tryz.prog 183 [.eq (.slice none 0 0),.eq (.func (.func 146) #[] #[(Pv c)])] [.obj c 23 (Ri a1)] (fun z:Value=>(bu [.eq z],[.sl z 3 (.int .i64) r,.obj c 23 (Ri a1)])):=by
 unfold jx at h
 replace h:=a8 h
 refine yr 13 Tryz.func183 rfl Tryz.ntmps183 rfl fun {M} S w0=>?_
 refine sr ?_
 refine bx fun b1=>?_
 refine cq ?_
 refine nt ?_
 refine ah ?_
 refine sr ?_
 refine mq ?_
 refine nt ?_
 refine aj ?_
 refine fh (SE.nil 3 (.int .i64)) ?_
 refine c9 1 rfl ?_
 refine c9 2 rfl ?_
 obtain⟨r5,j,h⟩:=ab h
 refine kT (Δ:=[.obj c 23 (Ri a1),.obj b1 23 (.eq (.slice none 0 0)),.sl (.slice none 0 0) 3 (.int .i64) ([]:(List Int))]) (F:=[]) (X:=Value) (J:=fun _=>E0 r5.2) (E:=fun z3=>[.obj c 23 (Ri a1),.obj b1 23 (.eq z3),.sl z3 3 (.int .i64) r5.1]) (r0:=fun _=>.tup .any) rfl rfl PL (fun rec hp ha hb hs hpe hN hv l=>?_) (fun dl z3=>nh (fun hj=>?_) (fun hj=>?_))
 ·
  rcases rec with⟨st0,pe0,fn0,tm0,ps0,as0,bd0,df0⟩;dsimp only at hp ha hb hs hpe hN hv;subst hp hs hpe;have vN:tU tm0 [(2,Pt b1)]:=⟨congrArg A.eq (hv 2 _ rfl).symm,trivial⟩;refine dh.pick (M:=M) [1,0,2,3] [1,0,2,3] (pJ (fun(z3:Value) (q:(List Int)×Bool)=>[.raw l (.loop (iI ⟨.ready,none,fn0,tm0, #[7],as0,bd0,df0⟩ (E0 q.2))),.obj b1 23 (.eq z3),.sl z3 3 (.int .i64) q.1]) l (lu (fun(y2:(List Int)) (p4:Int)=>
  (eE (bX (List.length y2+List.length [p4]))).bind fun _=>
  some (y2++[p4],true))) k a1 c (fun z3 q p r' h=>?_) (.slice none 0 0) (([]:(List Int)),false) r5 j) rfl (fun _=>rfl) (fun _=>rfl)
  obtain⟨rq,hq,h2,rfl⟩:=ni h;obtain⟨y2,b5⟩:=q;obtain rfl:b5=false:=hq;replace h:=a8 h2;obtain⟨p4,hpv⟩:∃x,x=p:=⟨_,rfl⟩;subst hpv;refine YT.pick (R':=(fun z3:Value=>(.eq (.bool rq.2),[.raw l (.loop (iI ⟨.ready,none,fn0,tm0, #[7],as0,bd0,df0⟩ (E0 (!rq.2)))),.obj b1 23 (.eq z3),.sl z3 3 (.int .i64) rq.1]))) [0,1,2] [0,1,2] (BR ha hb (N:=13) (Γ:=[(2,Pt b1)]) rfl hN (by decide) vN (fun S w=>?_)) rfl (fun _=>rfl) (fun _=>rfl);refine aa (aq (nl ?_));refine rW rfl rfl ?_;refine aj (aa (fr 1 ?_));refine lo bZ ?_;refine mq ?_;refine ja (bF (t:=(.int .i64)) [(.tmp 9,_)] [p4] rfl rfl fF (.cons rfl .int .nil) rfl rfl) ?_;obtain⟨u6,e,h⟩:=ab h;refine fr 2 ?_;refine dQ rfl rfl rfl (cp rfl rfl fF (aE e)) ⟨rfl,rfl,trivial⟩ fun v7=>?_;refine o7 fun o8=>?_;refine fr 1 ?_;refine aZ rfl rfl (aR rfl bZ o8 rfl rfl) ⟨rfl,rfl,trivial⟩ ?_;refine ao (aJ (aY 1 rfl ?_));refine aY 1 rfl ?_;refine aY 2 rfl ?_;cases h;exact lg v7 2 rfl
 ·
  replace h:=bL (AN hj) h;refine aJ (tn (sr (fr 2 ?_)));refine lo bZ ?_;refine aq (nt (aC ?_));refine aY 1 rfl ?_;refine rU ?_;refine bM (SE.fin (Γ':=[(4,_)]) [2,1,0] ⟨rfl,trivial⟩ rfl) ?_;cases h;exact aI z3 [.eq z3] 2 ⟨rfl,trivial⟩ rfl
 ·
  replace h:=ct (AM hj) h;cases h
def kC(k:Nat)(a0:(List Int)):Option (List Int):=
 (jx k a0).bind fun r1=>
 some r1
theorem qk(k:Nat)(a0:(List Int))(c:Nat)(r:(List Int))(h:kC k a0=some r):
 cd Tryz.prog 144 [.eq (.func (.func 146) #[] #[(Pv c)])] [.obj c 23 (Ri a0)] (fun z:Value=>(bu [.eq z],[.sl z 3 (.int .i64) r,.obj c 23 (Ri a0)])):=by
 unfold kC at h
 replace h:=a8 h
 refine cd.of 5 Tryz.func144 rfl Tryz.ntmps144 rfl fun S w0=>?_
 refine sr ?_
 refine cq ?_
 refine nt ?_
 refine sr ?_
 refine mq ?_
 obtain⟨r1,e,h⟩:=ab h
 have j:=ou k a0 c r1 e
 refine bB (Δ:=[_]) (F:=_) (fun _ _ _=>ar rfl _) rfl rfl (an [.const (.slice none 0 0),.tmp 3] rfl rfl PE rfl j) ⟨rfl,rfl,trivial⟩ fun z2=>?_
 refine aq ?_
 refine nt ?_
 refine aC ?_
 cases h
 exact aI z2 [.eq z2] 2 ⟨rfl,trivial⟩ rfl
def k7(k:Nat)(a0:Int):Option Bool:=
 some (!decide (a0=a0))
theorem kR(k:Nat)(a0:Int)(r:Bool)(h:k7 k a0=some r):
 cd Tryz.prog 189 [I a0] [] (fun _:Unit=>(bu [.eq (.bool r)],[])):=by
 unfold k7 at h
 replace h:=a8 h
 refine cd.of 6 Tryz.func189 rfl Tryz.ntmps189 rfl fun S w0=>?_
 refine sr ?_
 refine cq ?_
 refine nt ?_
 refine sr ?_
 iterate 2 refine mq ?_
 refine jb (iN rfl) ?_
 refine aq ?_
 refine nt ?_
 refine aC ?_
 cases h
 exact ra
def vo(k:Nat)(a0:Int)(a1:Int):Option Bool:=
 (((k7 k a0).bind fun r3=>
 if r3=true then((k7 k a1).bind fun r4=>
 if¬(r4=true) then(some true) else(some (decide (a0 < a1)))) else(some (decide (a0 < a1)))):Option (Bool)).bind fun x1=>
 some x1
theorem Ab(k:Nat)(a0:Int)(a1:Int)(r:Bool)(h:vo k a0 a1=some r):
 cd Tryz.prog 202 [I a0,I a1] [] (fun _:Unit=>(bu [.eq (.bool r)],[])):=by
 unfold vo at h
 replace h:=a8 h
 refine cd.of 17 Tryz.func202 rfl Tryz.ntmps202 rfl fun S w0=>?_
 refine sr ?_
 refine cq ?_
 refine nt ?_
 refine aN (Z:=Unit) (α:=Bool) (fun z2 x1=>[(4,.eq (.bool x1))]) (fun z2 x1=>[]) h (fun K h=>?_) (fun z2 x1 h=>?_)
 ·
  refine aa (mq ?_);obtain⟨r3,e,h⟩:=ab h;refine ja (an [.tmp 5] rfl rfl C6 rfl (kR k a0 r3 e)) ?_;refine mq ?_;refine bQ (s:=7) rfl (fun hb=>?_) (fun hb=>?_)
  ·replace h:=ct (AM hb) h;refine gm ?_;obtain⟨r4,c,h⟩:=ab h;refine ga (an [.tmp 8] rfl rfl C6 rfl (kR k a1 r4 c)) ?_;refine ga (gQ rfl) ?_;refine pt ?_;refine mq ?_;refine bQ (s:=12) rfl (fun hb=>?_) (fun hb=>?_)
   ·replace h:=ct (Gm hb) h;iterate 3 refine gn ?_
    refine pt ?_;refine aq (nl ?_);exact jz ((),true) h []
   ·replace h:=bL (zg hb) h;refine gm ?_;refine gm ?_;refine gb (bv rfl) ?_;refine pf ?_;refine aq (nl ?_);exact jz ((),decide (a0 < a1)) h []
  ·replace h:=bL (AN hb) h;iterate 3 refine gn ?_
   refine pf ?_;refine mq ?_;refine gm ?_;refine gm ?_;refine gb (bv rfl) ?_;refine pf ?_;refine aq (nl ?_);exact jz ((),decide (a0 < a1)) h []
 ·
  refine aC ?_;cases h;exact ra
def cC(k:Nat)(a1:Int):Nat→((List Int)×Int)→Option (List Int)
 |0,_=>none
 |n+1,y6=>
  ((if a1 < y6.2 then((bf y6.1 y6.2).bind fun u=>
  (ck (y6.2 - 1)).bind fun s=>
  (bf y6.1 s).bind fun r=>
  (vo k u r).bind fun x=>
  some x) else(some false)):Option (Bool)).bind fun x8=>
  if x8=true then((ck (y6.2 - 1)).bind fun e=>
  (ck (y6.2 - 1)).bind fun l=>
  (bf y6.1 l).bind fun c=>
  (bf y6.1 y6.2).bind fun j=>
  (bf y6.1 y6.2).bind fun D=>
  (bf (List.set y6.1 (Int.toNat y6.2) c) e).bind fun y=>
  (ck (y6.2 - 1)).bind fun h=>
  cC k a1 n (List.set (List.set y6.1 (Int.toNat y6.2) c) (Int.toNat e) j,h)) else(some y6.1)
def cD(k:Nat)(a1:Int)(a2:Int):Nat→((List Int)×Int)→Option (List Int)
 |0,_=>none
 |n+1,y2=>
  if y2.2 < a2 then(((cC k a1 k (y2.1,y2.2)):Option ((List Int))).bind fun x4=>
  (ck (y2.2+1)).bind fun c=>
  cD k a1 a2 n (x4,c)) else(some y2.1)
def d3(k:Nat)(a0:(List Int))(a1:Int)(a2:Int):Option (List Int):=
 (ck (a1+1)).bind fun x1=>
 cD k a1 a2 k (a0,x1)
theorem jI(k:Nat)(a0:(List Int))(c:Value)(a1:Int)(a2:Int)(r:(List Int))(h:d3 k a0 a1 a2=some r):
 cd Tryz.prog 196 [.eq c,I a1,I a2] [.sl c 3 (.int .i64) a0] (fun _:Unit=>(bu [],[.sl c 3 (.int .i64) r])):=by
 unfold d3 at h
 replace h:=a8 h
 refine cd.of 49 Tryz.func196 rfl Tryz.ntmps196 rfl fun S w0=>?_
 refine sr ?_
 refine mq ?_
 obtain⟨x1,SQ,h⟩:=ab h
 refine jb (bg rfl SQ) ?_
 refine aq ?_
 refine nt ?_
 refine aj ?_
 refine aK (fun z3 y2=>[(0,.eq c),(1,I a1),(2,I a2),(6,I y2.2)]) (fun z3 y2=>[.sl c 3 (.int .i64) y2.1]) (cD k a1 a2) k () (a0,x1) (fun _=>rfl) h (SE.fin [0] ⟨rfl,rfl,rfl,rfl,trivial⟩ rfl) (fun n z3 y2 h=>?_)
 unfold cD at h
 refine ah ?_
 refine sr ?_
 iterate 2 refine mq ?_
 refine jb (bv rfl) ?_
 refine nt ?_
 refine ci h (fun h=>?_) (fun h=>?_)
 ·
  refine sk (aN (Z:=Unit) (α:=(List Int)) (fun z5 x4=>[(0,.eq c),(1,I a1),(2,I a2),(6,I y2.2)]) (fun z5 x4=>[.sl c 3 (.int .i64) x4]) h (fun K h=>?_) (fun z5 x4 h=>?_))
  ·refine aj (sr (mq ?_));refine aq (nt (aj ?_));refine aK (fun z7 y6=>[(0,.eq c),(1,I a1),(2,I a2),(6,I y2.2),(7,I y6.2)]) (fun z7 y6=>[.sl c 3 (.int .i64) y6.1]) (cC k a1) k () (y2.1,y2.2) (fun _=>rfl) h (SE.fin [0] ⟨rfl,rfl,rfl,rfl,rfl,trivial⟩ rfl) (fun n z7 y6 h=>?_);unfold cC at h;refine ah (aN (Z:=Unit) (α:=Bool) (fun z9 x8=>[(0,.eq c),(1,I a1),(2,I a2),(6,I y2.2),(7,I y6.2),(30,.eq (.bool x8))]) (fun z9 x8=>[.sl c 3 (.int .i64) y6.1]) h (fun K h=>?_) (fun z9 x8 h=>?_))
   ·refine cm ?_;refine dm ?_;refine dm ?_;refine db (lD rfl) ?_;refine yq rfl rfl rfl (bz rfl) ⟨rfl,trivial⟩ (fun hb=>?_) (fun hb=>?_)
    ·replace h:=ct (m8 hb) h;refine dc rfl rfl rfl rfl rfl (bz rfl) ⟨rfl,rfl,trivial⟩ ?_;refine dc rfl rfl rfl rfl rfl (bz rfl) ⟨rfl,rfl,trivial⟩ ?_;obtain⟨SC,x,h⟩:=ab h;refine jH 0 rfl rfl rfl rfl rfl rfl (bp (t:=(.int .i64)) rfl fC dE x) ⟨rfl,rfl,rfl,trivial⟩ ?_;refine jH 0 rfl rfl rfl rfl rfl rfl (eQ (i:=Int.toNat y6.2) (off:=0) rfl dE (fun _=>rfl) rfl (dV x).2.2 rfl) ⟨rfl,rfl,trivial⟩ ?_;refine dc rfl rfl rfl rfl rfl (bz rfl) ⟨rfl,rfl,trivial⟩ ?_;refine dc rfl rfl rfl rfl rfl (bz rfl) ⟨rfl,rfl,trivial⟩ ?_;obtain⟨SB,qt,h⟩:=ab h;refine dc rfl rfl rfl rfl rfl (fN rfl qt) ⟨rfl,rfl,rfl,trivial⟩ ?_;obtain⟨SA,u,h⟩:=ab h;refine jH 0 rfl rfl rfl rfl rfl rfl (bp (t:=(.int .i64)) rfl fC dE u) ⟨rfl,rfl,rfl,trivial⟩ ?_;refine jH 0 rfl rfl rfl rfl rfl rfl (eQ (i:=Int.toNat SB) (off:=0) rfl dE (fun _=>rfl) rfl (dV u).2.2 rfl) ⟨rfl,rfl,trivial⟩ ?_;refine df fg ?_;obtain⟨F,se,h⟩:=ab h;refine gb (an [.tmp 23,.tmp 28] rfl rfl Px rfl (Ab k SC SA F se)) ?_;refine pt (nl ?_);exact jz ((),F) h [0]
    ·replace h:=bL (mz hb) h;iterate 9 refine dg ?_
     refine df fg ?_;refine gn ?_;refine pf (nl ?_);exact jz ((),false) h [0]
   ·refine cv h (fun h=>?_) (fun h=>?_)
    ·refine sk (ah (aj (lP ?_)));refine bV rfl rfl rfl (bz rfl) ⟨rfl,trivial⟩ ?_;refine bV rfl rfl rfl (bz rfl) ⟨rfl,trivial⟩ ?_;refine bV rfl rfl rfl (bz rfl) ⟨rfl,trivial⟩ ?_;refine bV rfl rfl rfl (bz rfl) ⟨rfl,trivial⟩ ?_;obtain⟨y,pp,h⟩:=ab h;refine bV rfl rfl rfl (fN rfl pp) ⟨rfl,rfl,trivial⟩ ?_;refine bV rfl rfl rfl (bz rfl) ⟨rfl,trivial⟩ ?_;refine bV rfl rfl rfl (bz rfl) ⟨rfl,trivial⟩ ?_;obtain⟨Sz,mc,h⟩:=ab h;refine bV rfl rfl rfl (fN rfl mc) ⟨rfl,rfl,trivial⟩ ?_;obtain⟨E,s,h⟩:=ab h;refine gd 0 rfl rfl rfl rfl (bp (t:=(.int .i64)) rfl fC dE s) ⟨rfl,rfl,trivial⟩ ?_;refine gd 0 rfl rfl rfl rfl (eQ (i:=Int.toNat Sz) (off:=0) rfl dE (fun _=>rfl) rfl (dV s).2.2 rfl) ⟨rfl,trivial⟩ ?_;refine bV rfl rfl rfl (bz rfl) ⟨rfl,trivial⟩ ?_;refine bV rfl rfl rfl (bz rfl) ⟨rfl,trivial⟩ ?_;obtain⟨D,l,h⟩:=ab h;refine gd 0 rfl rfl rfl rfl (bp (t:=(.int .i64)) rfl fC dE l) ⟨rfl,rfl,trivial⟩ ?_;refine gd 0 rfl rfl rfl rfl (eQ (i:=Int.toNat y6.2) (off:=0) rfl dE (fun _=>rfl) rfl (dV l).2.2 rfl) ⟨rfl,trivial⟩ ?_;obtain⟨S5,j,h⟩:=ab h;refine gd 0 rfl rfl rfl rfl (bp (t:=(.int .i64)) rfl fC dE j) ⟨rfl,rfl,trivial⟩ ?_;refine qL 15 [true,true,false,false,false,true,true,true,true,true,true,true,true,true,true] [48] [] [] rfl (by kernel_rfl) (by kernel_rfl) (by kernel_rfl) fg (fun vs hv hB=>?_);obtain⟨w0,Tv,rfl,SO⟩:=aD hv;obtain⟨w1,Tu,rfl,SN⟩:=aD SO;obtain⟨w2,Tt,rfl,SL⟩:=aD SN;obtain⟨w3,To,rfl,SK⟩:=aD SL;obtain⟨w4,Tn,rfl,SJ⟩:=aD SK;obtain⟨w5,Tm,rfl,SI⟩:=aD SJ;obtain⟨w6,Tj,rfl,SH⟩:=aD SI;obtain⟨w7,Ti,rfl,SG⟩:=aD SH;obtain⟨w8,Tf,rfl,SD⟩:=aD SG;obtain⟨w9,SY,rfl,X⟩:=aD SD;obtain⟨Td,SX,rfl,U⟩:=aD X;obtain⟨Ta,SV,rfl,Q⟩:=aD U;obtain⟨S9,SU,rfl,O⟩:=aD Q;obtain⟨S8,SS,rfl,M⟩:=aD O;obtain⟨S7,SR,rfl,J⟩:=aD M;obtain rfl:=nz J;refine⟨[0],[.sl c 3 (.int .i64) y6.1],by kernel_rfl,by decide,?_⟩;refine qJ rfl rfl (eJ (i:=Int.toNat y6.2) rfl dE rfl (mf j) rfl .int rfl) ⟨rfl,rfl,trivial⟩ (by kernel_rfl) ?_;obtain⟨SZ,e,h⟩:=ab h;refine H6 rfl rfl rfl rfl (bp (t:=(.int .i64)) rfl fC dE e) ⟨rfl,rfl,trivial⟩ (by kernel_rfl) ?_;refine qJ rfl rfl (eJ (i:=Int.toNat y) rfl dE rfl (mf e) rfl .int rfl) ⟨rfl,rfl,trivial⟩ (by kernel_rfl) ?_;refine vy ?_;refine bM (SE.fin (Γ':=[(0,.eq c),(1,I a1),(2,I a2),(6,I y2.2),(7,I y6.2)]) (Δ':=[.sl c 3 (.int .i64) (List.set (List.set y6.1 (Int.toNat y6.2) E) (Int.toNat y) D)]) [0] ⟨rfl,rfl,rfl,rfl,rfl,trivial⟩ rfl) ?_;refine aJ (tn (aa (mq ?_)));obtain⟨Sv,ac,h⟩:=ab h;refine jb (fN rfl ac) ?_;refine aq (nl ?_);exact jz ((),(List.set (List.set y6.1 (Int.toNat y6.2) E) (Int.toNat y) D,Sv)) h [0]
    ·refine dA (aM (aM (bR (bn ?_))));exact jz ((),y6.1) h [0]
  ·refine aa (mq ?_);obtain⟨Su,Y,h⟩:=ab h;refine jb (bg rfl Y) ?_;refine aq (nl ?_);exact jz ((),(x4,Su)) h [0]
 ·
  refine dA (aM (aM (bR (iQ ?_))));cases h;exact aI () [] 1 trivial rfl
def kD(k:Nat)(a0:Int):Option Int:=
 ((if 4294967296≤a0 then(some (ic .u64 a0 32,32)) else(some (a0,0))):Option (Int×Int)).bind fun x1=>
 ((if 65536≤x1.1 then((ck (x1.2+16)).bind fun x5=>
 some (ic .u64 x1.1 16,x5)) else(some (x1.1,x1.2))):Option (Int×Int)).bind fun x3=>
 ((if 256≤x3.1 then((ck (x3.2+8)).bind fun x8=>
 some (ic .u64 x3.1 8,x8)) else(some (x3.1,x3.2))):Option (Int×Int)).bind fun x6=>
 (Bw I7 (IntKind.u8.wrap x6.1)).bind fun x9=>
 (ck (x9.toNat:Int)).bind fun e=>
 (ck (x6.2+e)).bind fun c=>
 some c
theorem qA(k:Nat)(a0:Int)(r:Int)(h:kD k a0=some r):
 cd Tryz.prog 206 [.eq (.int .u64 a0)] [] (fun _:Unit=>(bu [I r],[])):=by
 unfold kD at h
 replace h:=a8 h
 refine cd.of 25 Tryz.func206 rfl Tryz.ntmps206 rfl fun S w0=>?_
 refine sr ?_
 refine cq ?_
 refine nt ?_
 refine aN (Z:=Unit) (α:=Int×Int) (fun z2 x1=>[(0,.eq (.int .u64 x1.1)),(2,I x1.2)]) (fun z2 x1=>[]) h (fun K h=>?_) (fun z2 x1 h=>?_)
 ·
  refine sr (mq ?_);refine jb (pT rfl) ?_;refine nt (ci h (fun h=>?_) (fun h=>?_))
  ·refine sr (mq ?_);refine aA rfl (uL rfl (by decide)) ⟨rfl,rfl,trivial⟩ ?_;refine aq (nt (aa ?_));refine cq (nl ?_);exact jz ((),(ic .u64 a0 32,32)) h []
  ·refine aU (ae ?_);exact jz ((),(a0,0)) h []
 ·
  refine aN (Z:=Unit) (α:=Int×Int) (fun z4 x3=>[(0,.eq (.int .u64 x3.1)),(2,I x3.2)]) (fun z4 x3=>[]) h (fun K h=>?_) (fun z4 x3 h=>?_)
  ·refine sr (mq ?_);refine jb (pT rfl) ?_;refine nt (ci h (fun h=>?_) (fun h=>?_))
   ·refine sr (mq ?_);refine aA rfl (uL rfl (by decide)) ⟨rfl,rfl,trivial⟩ ?_;refine aq (nt (aa ?_));refine mq ?_;obtain⟨x5,n,h⟩:=ab h;refine jb (bg rfl n) ?_;refine aq (nl ?_);exact jz ((),(ic .u64 x1.1 16,x5)) h []
   ·refine aU (ae ?_);exact jz ((),(x1.1,x1.2)) h []
  ·refine aN (Z:=Unit) (α:=Int×Int) (fun z7 x6=>[(0,.eq (.int .u64 x6.1)),(2,I x6.2)]) (fun z7 x6=>[]) h (fun K h=>?_) (fun z7 x6 h=>?_)
   ·refine sr (mq ?_);refine jb (pT rfl) ?_;refine nt (ci h (fun h=>?_) (fun h=>?_))
    ·refine sr (mq ?_);refine aA rfl (uL rfl (by decide)) ⟨rfl,rfl,trivial⟩ ?_;refine aq (nt (aa ?_));refine mq ?_;obtain⟨x8,l,h⟩:=ab h;refine jb (bg rfl l) ?_;refine aq (nl ?_);exact jz ((),(ic .u64 x3.1 8,x8)) h []
    ·refine aU (ae ?_);exact jz ((),(x3.1,x3.2)) h []
   ·refine sr ?_;iterate 2 refine mq ?_
    refine ja (oC rfl QD U5) ?_;obtain⟨x9,j,h⟩:=ab h;refine ja (zc rfl U9 j) ?_;obtain⟨u,e,h⟩:=ab h;refine ja (zd rfl U5 U3 e) ?_;obtain⟨s,c,h⟩:=ab h;refine jb (bg rfl c) ?_;refine aq (nt (aC ?_));cases h;exact ra
def yg(k:Nat)(a0:Int):Option Int:=
 (kD k a0).bind fun r1=>
 some r1
theorem BQ(k:Nat)(a0:Int)(r:Int)(h:yg k a0=some r):
 cd Tryz.prog 185 [.eq (.int .u64 a0)] [] (fun _:Unit=>(bu [I r],[])):=by
 unfold yg at h
 replace h:=a8 h
 refine cd.of 8 Tryz.func185 rfl Tryz.ntmps185 rfl fun S w0=>?_
 refine sr ?_
 refine cq ?_
 refine nt ?_
 refine ah ?_
 refine Ic (fun hb=>(by cases hb)) (fun hb=>?_)
 refine sk ?_
 refine sr ?_
 refine mq ?_
 obtain⟨r1,c,h⟩:=ab h
 have e:=qA k a0 r1 c
 refine ja (an [.tmp 6] rfl rfl Po rfl e) ?_
 refine aq ?_
 refine nt ?_
 refine aC ?_
 cases h
 exact ra
def fi(k:Nat)(a0:(List Int))(a1:Int)(a2:Int)(a3:Int):Nat→Unit→Option (List Int)
 |0,_=>none
 |n+1,y1=>
  (ck (a2 - a1)).bind fun x3=>
  if x3≤12 then((d3 k a0 a1 a2).bind fun r4=>
  some r4) else(if a3=0 then(none) else(none))
def gw(k:Nat)(a0:(List Int))(a1:Int)(a2:Int)(a3:Int):Option (List Int):=
 fi k a0 a1 a2 a3 k ()
theorem lS(k:Nat)(a0:(List Int))(c:Value)(a1:Int)(a2:Int)(a3:Int)(r:(List Int))(h:gw k a0 a1 a2 a3=some r):
 cd Tryz.prog 184 [.eq c,I a1,I a2,I a3] [.sl c 3 (.int .i64) a0] (fun _:Unit=>(bu [],[.sl c 3 (.int .i64) r])):=by
 unfold gw at h
 replace h:=a8 h
 refine cd.of 134 Tryz.func184 rfl Tryz.ntmps184 rfl fun S w0=>?_
 refine sr ?_
 refine cq ?_
 refine nt ?_
 refine sr ?_
 refine cq ?_
 refine nt ?_
 refine aj ?_
 refine aK (fun z2 y1=>[(0,.eq c),(1,I a1),(2,I a2),(3,I a3),(8,.eq (.bool true)),(9,.eq (.bool true))]) (fun z2 y1=>[.sl c 3 (.int .i64) a0]) (fi k a0 a1 a2 a3) k () () (fun _=>rfl) h (SE.fin [0] ⟨rfl,rfl,rfl,rfl,rfl,rfl,trivial⟩ rfl) (fun n z2 y1 h=>?_)
 unfold fi at h
 refine aj ?_
 refine sr ?_
 iterate 2 refine mq ?_
 obtain⟨x3,e,h⟩:=ab h
 refine jb (fN rfl e) ?_
 refine aq ?_
 refine nt ?_
 refine ah ?_
 refine sr ?_
 refine mq ?_
 refine jb (wl rfl) ?_
 refine nt ?_
 refine ci h (fun h=>?_) (fun h=>?_)
 ·
  refine sr ?_;iterate 3 refine mq ?_
  obtain⟨r4,j,h⟩:=ab h;refine kc (an [.tmp 24,.tmp 25,.tmp 26] rfl rfl Py rfl (jI k a0 c a1 a2 r4 j)) ?_;refine nt (rx (bC (aX (bC ?_))));cases h;exact aI () [] 1 trivial rfl
 ·
  refine sk (ah (sr (mq ?_)));refine jb (ek rfl) ?_;refine nt (ci h (fun h=>?_) (fun h=>?_))
  ·refine sr ?_;iterate 3 refine mq ?_
   cases h
  ·refine sk (ah (sr (mq ?_)));refine ja (gQ rfl) ?_;refine nt (bi rfl (fun hb=>(by cases hb)) (fun hb=>?_));refine sk (sr ?_);iterate 3 refine mq ?_
   cases h
def nk(k:Nat)(a0:(List Int)):Option (List Int):=
 (yg k (IntKind.u64.wrap (a0.length:Int))).bind fun r1=>
 (gw k a0 0 (a0.length:Int) r1).bind fun r2=>
 some r2
theorem tK(k:Nat)(a0:(List Int))(c:Value)(r:(List Int))(h:nk k a0=some r):
 cd Tryz.prog 145 [.eq c] [.sl c 3 (.int .i64) a0] (fun _:Unit=>(bu [],[.sl c 3 (.int .i64) r])):=by
 unfold nk at h
 replace h:=a8 h
 refine cd.of 11 Tryz.func145 rfl Tryz.ntmps145 rfl fun S w0=>?_
 refine sr ?_
 refine mq ?_
 refine ka (cZ rfl rfl fC) ?_
 refine aq ?_
 refine nt ?_
 refine aa ?_
 iterate 3 refine mq ?_
 refine ja (oC rfl U3 RB) ?_
 obtain⟨r1,j,h⟩:=ab h
 have n:=BQ k (IntKind.u64.wrap (a0.length:Int)) r1 j
 refine ja (an [.tmp 8] rfl rfl PC rfl n) ?_
 obtain⟨r2,e,h⟩:=ab h
 have l:=lS k a0 c 0 (a0.length:Int) r1 r2 e
 refine bU rfl rfl rfl (an [.tmp 5,.const (.int .i64 (0)),.tmp 6,.tmp 9] rfl rfl PD rfl l) ⟨rfl,rfl,rfl,rfl,trivial⟩ ?_
 refine ao ?_
 refine iQ ?_
 cases h
 exact aI () [] 1 trivial rfl
def lx(k:Nat)(a0:(List Int)):Option (List Int):=
 (kC k a0).bind fun r1=>
 (nk k r1).bind fun r3=>
 some r3
theorem q7(k:Nat)(a0:(List Int))(c:Nat)(r:(List Int))(h:lx k a0=some r):
 cd Tryz.prog 108 [.eq (.func (.func 146) #[] #[(Pv c)])] [.obj c 23 (Ri a0)] (fun _:Unit=>(bu [Ri r],[.obj c 23 (Ri a0)])):=by
 unfold lx at h
 replace h:=a8 h
 refine cd.of 9 Tryz.func108 rfl Tryz.ntmps108 rfl fun S w0=>?_
 refine sr ?_
 refine cq ?_
 refine nt ?_
 refine sr ?_
 refine mq ?_
 obtain⟨r1,j,h⟩:=ab h
 have n:=qk k a0 c r1 j
 refine bB (Δ:=[_]) (F:=_) (fun _ _ _=>ar rfl _) rfl rfl (an [.tmp 4] rfl rfl PN rfl n) ⟨rfl,trivial⟩ fun z2=>?_
 refine aq ?_
 refine nt ?_
 refine sr ?_
 refine mq ?_
 obtain⟨r3,e,h⟩:=ab h
 have l:=tK k r1 z2 r3 e
 refine ka (an [.tmp 6] rfl rfl PM rfl l) ?_
 refine nt ?_
 refine sr ?_
 refine mq ?_
 refine aq ?_
 refine nt ?_
 refine aC ?_
 refine bM (gG [2,3,5,6,8] ⟨rfl,rfl,rfl,rfl,rfl,trivial⟩) ?_
 cases h
 exact aI () [_] 1 ⟨rfl,trivial⟩ rfl
theorem qZ(a0:(List Int)):cd Tryz.prog 109 [Ri a0] [] (fun z:Nat=>(bu [.eq (.func (.func 146) #[] #[(Pv z)])],[.obj z 23 (Ri a0)])):=by
 refine cd.of 4 Tryz.func109 rfl Tryz.ntmps109 rfl fun S w0=>?_;refine sr (bx fun z=>?_);refine cq (nt (sr ?_));refine ja (sH [] [.tmp 1] [] [(Pv z)] rfl rfl rfl) ?_;refine aq (nt (aC ?_));exact aI z [_] 1 ⟨rfl,trivial⟩ rfl
def bJ{σ:Type}(k:Nat)(a0:(List (List Int)))(a1:Int)(a2:Int)(a3:cV)(self:(List (List Int))→Int→Int→σ→Option (Bool×σ))(h:(List Int)):Nat→(Int×σ)→Option (Except (Bool×σ) (σ))
 |0,_=>none
 |n+1,c=>
  if c.1 < (a3.1.2.1.length:Int) then(bE (α:=σ) ((bf a3.1.2.1 c.1).bind fun y=>
  (((dM k a2 c.1).bind fun I=>
  if I=true then(some (true,c.2)) else((mM k a3.1 h).bind fun F=>
  (ck (F+y.1)).bind fun x=>
  (bf a3.1.2.2 a1).bind fun u=>
  some (decide (u < x),c.2))):Option (Bool×σ)).bind fun j=>
  if j.1=true then(some (.ok j.2)) else((eE (0≤a1∧a1 < 3)).bind fun _=>
  (bf a0 a1).bind fun s=>
  (eE (0≤(h.length:Int)∧(h.length:Int) < 5)).bind fun _=>
  (dI k a2 c.1).bind fun E=>
  (self (List.set a0 (Int.toNat a1) (List.set s (Int.toNat (h.length:Int)) c.1)) a1 E j.2).bind fun l=>
  if¬(l.1=true) then(some (.error (false,l.2))) else(some (.ok l.2)))) (fun e=>some (.error e)) fun D=>
  (ck (c.1+1)).bind fun r=>
  bJ k a0 a1 a2 a3 self h n (r,D)) else(some (.ok c.2))
def bD{σ:Type}(k:Nat)(Y:σ→(List (List Int))→Option (σ×Bool))(a3:cV):Nat→(List (List Int))→Int→Int→σ→Option (Bool×σ)
 |0,_,_,_,_=>none
 |m0+1,a0,a1,a2,s0=>
  if a1=(a3.1.2.2.length:Int) then((((eE (0≤(a3.1.2.1.length:Int))).bind fun _=>
  if¬(a2=(IntKind.u8.wrap ((my .u8 1 (a3.1.2.1.length:Int)) - 1))) then(some (true,s0)) else((Y s0 a0).bind fun r5=>
  some (r5.2,r5.1))):Option (Bool×σ)).bind fun x2=>
  some (x2.1,x2.2)) else((ck (a1+1)).bind fun x7=>
  ((bD k Y a3 m0) a0 x7 a2 s0).bind fun r8=>
  if¬(r8.1=true) then(some (false,r8.2)) else((dJ k a0 a1).bind fun e=>
  bE (α:=σ) (bJ k a0 a1 a2 a3 (bD k Y a3 m0) e k (0,r8.2)) (some) fun c=>
  some (true,c)))
theorem mo{M:Md Tryz.prog}{σ Z:Type}(E:Z→σ→List D)(l:Nat)(Y:σ→(List (List Int))→Option (σ×Bool))(k:Nat)(a3:cV)(u:Nat)(x:Nat)(c:Nat)(hY:∀z s p r,Y s p=some r→YT M l [.rep (.arr 3 (.arr 5 (.int .i64))) p] (E z s) (fun z':Z=>(.eq (.bool r.2),E z' r.1))):
 ∀(n:Nat) (a0:(List (List Int))) (a1:Int) (a2:Int) (z0:Z) (s0:σ) (r:Bool×σ),bD k Y a3 n a0 a1 a2 s0=some r→dh M 149 [.rep (.arr 3 (.arr 5 (.int .i64))) a0,I a1,.eq (.int .u8 a2),Pt u,Pt x,Pt c] ([.obj u 102 (.at bj a3),.obj x 210 (.eq (.func (.yield l) #[] #[])),.obj c 211 (.eq (.func (.func 149) #[] #[(Pv u),(Pv x),(Pv c)]))]++E z0 s0) (fun z:Z=>(bu [.eq (.bool r.1)],[.obj u 102 (.at bj a3),.obj x 210 (.eq (.func (.yield l) #[] #[])),.obj c 211 (.eq (.func (.func 149) #[] #[(Pv u),(Pv x),(Pv c)]))]++E z r.2)):=by
 intro n
 induction n with
 |zero=>intro a0 a1 a2 z0 s0 r h;cases h
 |succ m0 ih=>
  intro a0 a1 a2 z0 s0 r h;rw [bD] at h;replace h:=a8 h;refine dh.of 97 Tryz.func149 rfl Tryz.ntmps149 rfl fun S w0=>?_;refine sr (bx fun b1=>?_);refine cq (nt (ah (sr ?_)));refine mq ?_;refine fr 1 ?_;refine lo mO ?_;refine ja (dB rfl) ?_;refine ja (aL 3 true rfl jD rfl) ?_;refine ja (aL 1 false rfl eV rfl) ?_;refine ja (au (t:=(.slice (.int .i64))) rfl bZ rfl) ?_;refine ol fC ?_;refine jb (ek rfl) ?_;refine nt (ci h (fun h=>?_) (fun h=>?_))
  ·refine aN (Z:=Z) (α:=Bool×σ) (fun z3 x2=>[(9,.eq (.bool x2.1))]) (fun z3 x2=>[.obj u 102 (.at bj a3),.obj x 210 (.eq (.func (.yield l) #[] #[])),.obj c 211 (.eq (.func (.func 149) #[] #[(Pv u),(Pv x),(Pv c)]))]++E z3 x2.2) h (fun K h=>?_) (fun z3 x2 h=>?_)
   ·refine aa (mq ?_);refine lo mO ?_;refine ja (dB rfl) ?_;refine ja (aL 3 true rfl jD rfl) ?_;refine ja (aL 1 false rfl ir rfl) ?_;refine ja (au (t:=(.slice cg)) rfl ot rfl) ?_;refine ol Aj ?_;obtain⟨u4,SZ,h⟩:=ab h;refine jb (FY rfl (aE SZ)) ?_;refine jb (FX rfl) ?_;refine jb (iN rfl) ?_;refine mq ?_;refine bQ (s:=32) rfl (fun hb=>?_) (fun hb=>?_)
    ·replace h:=ct (On hb) h;iterate 3 refine gn ?_
     refine pt ?_;refine aq (nl ?_);exact iy (z0,(true,s0)) h (bI [.obj u 102 (.at bj a3),.obj b1 107 (.rep (.arr 3 (.arr 5 (.int .i64))) a0),.obj x 210 (.eq (.func (.yield l) #[] #[])),.obj c 211 (.eq (.func (.func 149) #[] #[(Pv u),(Pv x),(Pv c)]))] (E z0 s0) [0,2,3] ⟨rfl,trivial⟩ rfl)
    ·replace h:=bL (GM hb) h;refine fr 2 ?_;refine ix rfl rfl rfl rfl rfl rfl (ak rfl N9 mr rfl) ⟨rfl,trivial⟩ ?_;refine fr 2 ?_;refine ix rfl rfl rfl rfl rfl rfl (ak rfl cG (xE) rfl) ⟨rfl,trivial⟩ ?_;obtain⟨r5,S7,h⟩:=ab h;refine fr 3 ?_;refine fr 3 ?_;refine fr 3 ?_;refine fr 3 ?_;refine ES [.obj b1 107 (.rep (.arr 3 (.arr 5 (.int .i64))) a0),.obj x 210 (.eq (.func (.yield l) #[] #[])),.obj u 102 (.at bj a3),.obj c 211 (.eq (.func (.func 149) #[] #[(Pv u),(Pv x),(Pv c)]))] rfl rfl rfl rfl rfl rfl (xt [.tmp 34] rfl rfl rfl (hY z0 s0 a0 r5 S7)) ⟨rfl,rfl,trivial⟩ fun z6=>?_;refine pf ?_;refine aq (nl ?_);exact iy (z6,(r5.2,r5.1)) h (bI [.obj b1 107 (.rep (.arr 3 (.arr 5 (.int .i64))) a0),.obj x 210 (.eq (.func (.yield l) #[] #[])),.obj u 102 (.at bj a3),.obj c 211 (.eq (.func (.func 149) #[] #[(Pv u),(Pv x),(Pv c)]))] (E z6 r5.1) [2,1,3] ⟨rfl,trivial⟩ rfl)
   ·refine rx ?_;cases h;exact gK z3 [_] ⟨rfl,trivial⟩ rfl
  ·refine sk (ah (sr (fr 3 ?_)));refine lo Ce ?_;refine fr 2 ?_;refine lo cG ?_;refine mq ?_;obtain⟨x7,SY,h⟩:=ab h;refine jb (bg rfl SY) ?_;refine mq ?_;obtain⟨r8,S5,h⟩:=ab h;refine fr 1 ?_;refine fr 3 ?_;refine fr 3 ?_;refine fr 3 ?_;refine o6 [.obj b1 107 (.rep (.arr 3 (.arr 5 (.int .i64))) a0)] rfl rfl rfl (oD (fs:=[]) (cs:=[(Pv u),(Pv x),(Pv c)]) (ags:=[.rep (.arr 3 (.arr 5 (.int .i64))) a0,I x7,.eq (.int .u8 a2)]) [.tmp 38,.tmp 40,.tmp 41] rfl rfl HB rfl (ih a0 x7 a2 z0 s0 r8 S5)) ⟨rfl,rfl,rfl,rfl,trivial⟩ fun z9=>?_;refine ja (gQ rfl) ?_;refine nt (cw h (fun h=>?_) (fun h=>?_))
   ·refine sr (cq (nt (rx ?_)));refine bM (bI (Γ':=[(9,_)]) [.obj b1 107 (.rep (.arr 3 (.arr 5 (.int .i64))) a0),.obj u 102 (.at bj a3),.obj x 210 (.eq (.func (.yield l) #[] #[])),.obj c 211 (.eq (.func (.func 149) #[] #[(Pv u),(Pv x),(Pv c)]))] (E z9 r8.2) [1,2,3] ⟨rfl,trivial⟩ rfl) ?_;cases h;exact gK z9 [_] ⟨rfl,trivial⟩ rfl
   ·refine sk (sr (lo cG ?_));refine mq ?_;obtain⟨F,SO,h⟩:=ab h;refine jb (an [.tmp 44,.tmp 45] rfl rfl C9 rfl (fU k a0 a1 F SO)) ?_;refine aq (nt ?_);refine fA (Z:=Z) (α:=σ) (fun qt Sv=>[]) (fun qt Sv=>[.obj u 102 (.at bj a3),.obj x 210 (.eq (.func (.yield l) #[] #[])),.obj c 211 (.eq (.func (.func 149) #[] #[(Pv u),(Pv x),(Pv c)]))]++E qt Sv) (fun e=>e=r) h (fun e h=>Option.some.inj h) (fun K hR h=>?_) (fun qt Sv h=>?_)
    ·refine sr (fr 1 ?_);refine lo mO ?_;refine ja (dB rfl) ?_;refine ja (aL 3 true rfl jD rfl) ?_;refine ja (aL 1 false rfl ir rfl) ?_;refine ja (au (t:=(.slice cg)) rfl ot rfl) ?_;refine ol Aj ?_;refine dX rfl ?_;refine nt (aj (aK (Z:=Z) (α:=Int×σ) (fun J y=>[(1,I a1),(2,.eq (.int .u8 a2)),(3,Pt u),(5,Pt c),(6,Pt b1),(10,Ri F),(51,Rs cg a3.1.2.1),(52,I (a3.1.2.1.length:Int)),(53,I y.1)]) (fun J y=>[.obj u 102 (.at bj a3),.obj c 211 (.eq (.func (.func 149) #[] #[(Pv u),(Pv x),(Pv c)])),.obj x 210 (.eq (.func (.yield l) #[] #[])),.obj b1 107 (.rep (.arr 3 (.arr 5 (.int .i64))) a0)]++E J y.2) (bJ k a0 a1 a2 a3 (bD k Y a3 m0) F) k z9 (0,r8.2) (fun _=>rfl) h (bI [.obj u 102 (.at bj a3),.obj b1 107 (.rep (.arr 3 (.arr 5 (.int .i64))) a0),.obj x 210 (.eq (.func (.yield l) #[] #[])),.obj c 211 (.eq (.func (.func 149) #[] #[(Pv u),(Pv x),(Pv c)]))] (E z9 r8.2) [0,3,2,1] ⟨rfl,rfl,rfl,rfl,rfl,rfl,rfl,rfl,rfl,trivial⟩ rfl) (fun n J y h=>?_)));unfold bJ at h;refine sr (jb (bv rfl) ?_);refine nt (ah (ci h (fun h=>?_) (fun h=>?_)))
     ·refine sk (fA (Z:=Z) (α:=σ) (fun X mc=>[(1,I a1),(2,.eq (.int .u8 a2)),(3,Pt u),(5,Pt c),(6,Pt b1),(10,Ri F),(51,Rs cg a3.1.2.1),(52,I (a3.1.2.1.length:Int)),(53,I y.1)]) (fun X mc=>[.obj u 102 (.at bj a3),.obj c 211 (.eq (.func (.func 149) #[] #[(Pv u),(Pv x),(Pv c)])),.obj x 210 (.eq (.func (.yield l) #[] #[])),.obj b1 107 (.rep (.arr 3 (.arr 5 (.int .i64))) a0)]++E X mc) (fun e=>e=r) h (fun e h=>hR e h) (fun K hR h=>?_) (fun X mc h=>?_))
      ·refine aj (sr (mq ?_));obtain⟨SB,SI,h⟩:=ab h;refine jb (ba (t:=cg) rfl Aj qf SI) ?_;refine ja (au (t:=cg) rfl qf rfl) ?_;refine ay rfl rfl rfl (aP rfl vB J3) trivial fun SQ=>?_;refine aq ?_;refine aZ rfl rfl (aR rfl qf rfl rfl rfl) ⟨rfl,rfl,trivial⟩ ?_;refine nt (ah (aN (Z:=Z) (α:=Bool×σ) (fun U O=>[(1,I a1),(2,.eq (.int .u8 a2)),(3,Pt u),(5,Pt c),(6,Pt b1),(10,Ri F),(11,I y.1),(51,Rs cg a3.1.2.1),(52,I (a3.1.2.1.length:Int)),(53,I y.1),(80,.eq (.bool O.1))]) (fun U O=>[.obj u 102 (.at bj a3),.obj c 211 (.eq (.func (.func 149) #[] #[(Pv u),(Pv x),(Pv c)])),.obj x 210 (.eq (.func (.yield l) #[] #[])),.obj b1 107 (.rep (.arr 3 (.arr 5 (.int .i64))) a0)]++E U O.2) h (fun K h=>?_) (fun U O h=>?_)))
       ·refine cm ?_;refine dm ?_;refine dm ?_;obtain⟨SX,SN,h⟩:=ab h;refine db (an [.tmp 58,.tmp 59] rfl rfl JH rfl (ij k a2 y.1 SX SN)) ?_;refine yq rfl rfl rfl (bz rfl) ⟨rfl,trivial⟩ (fun hb=>?_) (fun hb=>?_)
        ·replace h:=ct (AM hb) h;iterate 17 refine dg ?_
         refine df fg ?_;refine gn ?_;refine pt (nl ?_);exact iy (J,(true,y.2)) h (bI [.obj SQ 27 (.rep cg SB),.obj u 102 (.at bj a3),.obj c 211 (.eq (.func (.func 149) #[] #[(Pv u),(Pv x),(Pv c)])),.obj x 210 (.eq (.func (.yield l) #[] #[])),.obj b1 107 (.rep (.arr 3 (.arr 5 (.int .i64))) a0)] (E J y.2) [1,2,3,4] ⟨rfl,rfl,rfl,rfl,rfl,rfl,rfl,rfl,rfl,rfl,rfl,trivial⟩ rfl)
        ·replace h:=bL (AN hb) h;refine jH 1 rfl rfl rfl rfl rfl rfl (ak rfl mO mr rfl) ⟨rfl,rfl,trivial⟩ ?_;refine dc rfl rfl rfl rfl rfl (dB rfl) ⟨rfl,rfl,trivial⟩ ?_;refine dc rfl rfl rfl rfl rfl (aL 3 true rfl jD rfl) ⟨rfl,rfl,trivial⟩ ?_;refine dc rfl rfl rfl rfl rfl (au (t:=aG) rfl i8 rfl) ⟨rfl,rfl,trivial⟩ ?_;refine dc rfl rfl rfl rfl rfl (bz rfl) ⟨rfl,rfl,trivial⟩ ?_;obtain⟨SV,SL,h⟩:=ab h;refine dc rfl rfl rfl rfl rfl (an [.tmp 65,.tmp 66] rfl rfl K4 rfl (te k a3.1 F SV SL)) ⟨rfl,rfl,rfl,trivial⟩ ?_;refine dc rfl rfl rfl rfl rfl (aw rfl vg) ⟨rfl,rfl,trivial⟩ ?_;refine jH 0 rfl rfl rfl rfl rfl rfl (ak rfl dE mr rfl) ⟨rfl,rfl,trivial⟩ ?_;obtain⟨SU,SH,h⟩:=ab h;refine dc rfl rfl rfl rfl rfl (bg rfl SH) ⟨rfl,rfl,rfl,trivial⟩ ?_;refine jH 1 rfl rfl rfl rfl rfl rfl (ak rfl mO mr rfl) ⟨rfl,rfl,trivial⟩ ?_;refine dc rfl rfl rfl rfl rfl (dB rfl) ⟨rfl,rfl,trivial⟩ ?_;refine dc rfl rfl rfl rfl rfl (aL 3 true rfl jD rfl) ⟨rfl,rfl,trivial⟩ ?_;refine dc rfl rfl rfl rfl rfl (aL 1 false rfl eV rfl) ⟨rfl,rfl,trivial⟩ ?_;refine dc rfl rfl rfl rfl rfl (au (t:=(.slice (.int .i64))) rfl bZ rfl) ⟨rfl,rfl,trivial⟩ ?_;refine dc rfl rfl rfl rfl rfl (bz rfl) ⟨rfl,rfl,trivial⟩ ?_;obtain⟨SS,SG,h⟩:=ab h;refine dc rfl rfl rfl rfl rfl (ba (t:=(.int .i64)) rfl fC dE SG) ⟨rfl,rfl,rfl,trivial⟩ ?_;refine dc rfl rfl rfl rfl rfl (au (t:=(.int .i64)) rfl dE rfl) ⟨rfl,rfl,trivial⟩ ?_;refine df fg ?_;refine gb (lD rfl) ?_;refine pf (nl ?_);exact iy (J,(decide (SS < SU),y.2)) h (bI [.obj SQ 27 (.rep cg SB),.obj u 102 (.at bj a3),.obj c 211 (.eq (.func (.func 149) #[] #[(Pv u),(Pv x),(Pv c)])),.obj x 210 (.eq (.func (.yield l) #[] #[])),.obj b1 107 (.rep (.arr 3 (.arr 5 (.int .i64))) a0)] (E J y.2) [1,2,3,4] ⟨rfl,rfl,rfl,rfl,rfl,rfl,rfl,rfl,rfl,rfl,rfl,trivial⟩ rfl)
       ·refine cv h (fun h=>?_) (fun h=>?_)
        ·refine dA (aM (bR (ae ?_)));exact iy (U,O.2) h (bI [.obj u 102 (.at bj a3),.obj c 211 (.eq (.func (.func 149) #[] #[(Pv u),(Pv x),(Pv c)])),.obj x 210 (.eq (.func (.yield l) #[] #[])),.obj b1 107 (.rep (.arr 3 (.arr 5 (.int .i64))) a0)] (E U O.2) [0,1,2,3] ⟨rfl,rfl,rfl,rfl,rfl,rfl,rfl,rfl,rfl,trivial⟩ rfl)
        ·refine sk (sr (fr 3 ?_));refine lo cG ?_;refine ay rfl rfl rfl (aP rfl li lM) trivial fun SA=>?_;refine aZ rfl rfl (aR rfl cG rfl rfl rfl) ⟨rfl,rfl,trivial⟩ ?_;refine nt (sr ?_);iterate 2 refine mq ?_
         refine ol fC ?_;refine mq ?_;obtain⟨S9,Su,h⟩:=ab h;refine jb (gh rfl EN ti (aE Su).1 (aE Su).2) ?_;obtain⟨ac,SD,h⟩:=ab h;obtain⟨S8,Q,h⟩:=ab h;refine jb (gh rfl J9 dE (aE Q).1 (aE Q).2) ?_;refine aZ rfl rfl (nr (t:=(.int .i64)) (off:=0) (i:=a1) (j:=(F.length:Int)) (N:=3) (L:=5) rfl dE .int rfl rfl rfl rfl SD (aE Q).1 (aE Q).2 rfl) ⟨rfl,rfl,trivial⟩ ?_;refine nt (ah (cm ?_));refine ea 3 (ak rfl Ce mr rfl) ?_;refine ea 0 (ak rfl cG (xE) rfl) ?_;refine dm ?_;refine dm ?_;refine dm ?_;obtain⟨Sz,SK,h⟩:=ab h;refine db (an [.tmp 91,.tmp 92] rfl rfl C7 rfl (iS k a2 y.1 Sz SK)) ?_;refine df fg ?_;obtain⟨se,SJ,h⟩:=ab h;refine fr 3 ?_;refine fr 4 ?_;refine fr 4 ?_;refine fr 4 ?_;refine fr 4 ?_;refine o6 [.obj SA 107 (.rep (.arr 3 (.arr 5 (.int .i64))) (List.set a0 (Int.toNat a1) (List.set ac (Int.toNat (F.length:Int)) y.1))),.obj b1 107 (.rep (.arr 3 (.arr 5 (.int .i64))) a0)] rfl rfl rfl (oD (fs:=[]) (cs:=[(Pv u),(Pv x),(Pv c)]) (ags:=[.rep (.arr 3 (.arr 5 (.int .i64))) (List.set a0 (Int.toNat a1) (List.set ac (Int.toNat (F.length:Int)) y.1)),I a1,.eq (.int .u8 Sz)]) [.tmp 89,.tmp 90,.tmp 93] rfl rfl HB rfl (ih (List.set a0 (Int.toNat a1) (List.set ac (Int.toNat (F.length:Int)) y.1)) a1 Sz U O.2 se SJ)) ⟨rfl,rfl,rfl,rfl,trivial⟩ fun pp=>?_;refine ja (gQ rfl) ?_;refine nt (cw h (fun h=>?_) (fun h=>?_))
         ·refine sr (cq (nt (aC (br (bC (aX ?_))))));refine bM (bI (Γ':=[(9,_)]) [.obj SA 107 (.rep (.arr 3 (.arr 5 (.int .i64))) (List.set a0 (Int.toNat a1) (List.set ac (Int.toNat (F.length:Int)) y.1))),.obj b1 107 (.rep (.arr 3 (.arr 5 (.int .i64))) a0),.obj u 102 (.at bj a3),.obj x 210 (.eq (.func (.yield l) #[] #[])),.obj c 211 (.eq (.func (.func 149) #[] #[(Pv u),(Pv x),(Pv c)]))] (E pp se.2) [2,3,4] ⟨rfl,trivial⟩ rfl) ?_;obtain rfl:=hR _ h;exact gK pp [_] ⟨rfl,trivial⟩ rfl
         ·refine aU (bn ?_);exact iy (pp,se.2) h (bI [.obj SA 107 (.rep (.arr 3 (.arr 5 (.int .i64))) (List.set a0 (Int.toNat a1) (List.set ac (Int.toNat (F.length:Int)) y.1))),.obj b1 107 (.rep (.arr 3 (.arr 5 (.int .i64))) a0),.obj u 102 (.at bj a3),.obj x 210 (.eq (.func (.yield l) #[] #[])),.obj c 211 (.eq (.func (.func 149) #[] #[(Pv u),(Pv x),(Pv c)]))] (E pp se.2) [2,4,3,1] ⟨rfl,rfl,rfl,rfl,rfl,rfl,rfl,rfl,rfl,trivial⟩ rfl)
      ·refine aa ?_;obtain⟨SR,SC,h⟩:=ab h;refine jb (bg rfl SC) ?_;refine mq (nl ?_);exact iy (X,(SR,mc)) h (bI [.obj u 102 (.at bj a3),.obj c 211 (.eq (.func (.func 149) #[] #[(Pv u),(Pv x),(Pv c)])),.obj x 210 (.eq (.func (.yield l) #[] #[])),.obj b1 107 (.rep (.arr 3 (.arr 5 (.int .i64))) a0)] (E X mc) [0,1,2,3] ⟨rfl,rfl,rfl,rfl,rfl,rfl,rfl,rfl,rfl,trivial⟩ rfl)
     ·refine xa ?_;exact iy (J,y.2) h (bI [.obj u 102 (.at bj a3),.obj c 211 (.eq (.func (.func 149) #[] #[(Pv u),(Pv x),(Pv c)])),.obj x 210 (.eq (.func (.yield l) #[] #[])),.obj b1 107 (.rep (.arr 3 (.arr 5 (.int .i64))) a0)] (E J y.2) [0,2,1] trivial rfl)
    ·refine sr (cq (nt (aC ?_)));cases h;exact gK qt [_] ⟨rfl,trivial⟩ rfl
def dq{σ:Type}(k:Nat)(Y:σ→(List (List Int))→Option (σ×Bool))(a1:cV)(s0:σ):Option (σ):=
 (dr k ([]:(List (List Int)))).bind fun r2=>
 (bD k Y a1 k r2 0 0 s0).bind fun r5=>
 some r5.2
theorem jt{M:Md Tryz.prog}{σ Z:Type}(E:Z→σ→List D)(l:Nat)(Y:σ→(List (List Int))→Option (σ×Bool))(k:Nat)(a1:cV)(c:Nat)(hY:∀z s p r,Y s p=some r→YT M l [.rep (.arr 3 (.arr 5 (.int .i64))) p] (E z s) (fun z':Z=>(.eq (.bool r.2),E z' r.1))):
 ∀(z0:Z) (s0:σ) (r:σ),dq k Y a1 s0=some r→dh M 148 [.eq (.func (.yield l) #[] #[]),Pt c] ([.obj c 102 (.at bj a1)]++E z0 s0) (fun z:Z=>(bu [],[.obj c 102 (.at bj a1)]++E z r)):=by
 intro z0 s0 r h
 unfold dq at h
 replace h:=a8 h
 refine dh.of 10 Tryz.func148 rfl Tryz.ntmps148 rfl fun S w0=>?_
 refine sr ?_
 refine bx fun b1=>?_
 refine nt ?_
 refine sr ?_
 obtain⟨r2,j,h⟩:=ab h
 have u:=dN k ([]:(List (List Int))) r2 j
 refine ja (cU (N:=[(.const (.slice none 0 0),.eq (.slice none 0 0))]) (an [.const (.slice none 0 0)] rfl rfl BK rfl u) fun _ _ _ hn=>⟨(iC (t:=(.slice (.slice (.int .i64)))) (x:=([]:(List (List Int)))) .nil rfl rfl hn.1),trivial⟩) ?_
 refine ay rfl rfl rfl (aP rfl li lM) trivial fun b3=>?_
 refine aZ rfl rfl (aR rfl cG rfl rfl rfl) ⟨rfl,rfl,trivial⟩ ?_
 refine nt ?_
 refine sr ?_
 refine ay rfl rfl rfl (aP rfl NL P9) trivial fun b4=>?_
 refine nt ?_
 refine sr ?_
 refine jc (sH [] [.tmp 1,.tmp 2,.tmp 4] [] [(Pv c),(Pv b1),(Pv b4)] rfl rfl rfl) ?_
 refine aZ rfl rfl (aR rfl Ce rfl rfl rfl) ⟨rfl,rfl,trivial⟩ ?_
 refine nt ?_
 refine aa ?_
 refine lo Ce ?_
 refine fr 1 ?_
 refine lo cG ?_
 obtain⟨r5,e,h⟩:=ab h
 have n:=mo E l Y k a1 c b1 b4 hY k r2 0 0 z0 s0 r5 e
 refine fr 1 ?_
 refine fr 2 ?_
 refine fr 3 ?_
 refine fr 3 ?_
 refine o6 [.obj b3 107 (.rep (.arr 3 (.arr 5 (.int .i64))) r2)] rfl rfl rfl (oD (fs:=[]) (cs:=[(Pv c),(Pv b1),(Pv b4)]) (ags:=[.rep (.arr 3 (.arr 5 (.int .i64))) r2,I 0,.eq (.int .u8 0)]) [.tmp 8,.const (.int .i64 (0)),.const (.int .u8 (0))] rfl rfl HB rfl n) ⟨rfl,rfl,rfl,rfl,trivial⟩ fun z6=>?_
 refine ao ?_
 refine iQ ?_
 refine bM (bI (Γ':=[]) [.obj b3 107 (.rep (.arr 3 (.arr 5 (.int .i64))) r2),.obj c 102 (.at bj a1),.obj b1 210 (.eq (.func (.yield l) #[] #[])),.obj b4 211 (.eq (.func (.func 149) #[] #[(Pv c),(Pv b1),(Pv b4)]))] (E z6 r5.2) [1] trivial rfl) ?_
 cases h
 exact gK z6 [] trivial rfl
def gz(k:Nat)(a1:cV):Option (List (List (List Int))):=
 (dq k (lu (fun(y2:(List (List (List Int)))) (p4:(List (List Int)))=>
  (eE (bX (List.length y2+List.length [p4]))).bind fun _=>
  some (y2++[p4],true))) a1 (([]:(List (List (List Int)))),false)).bind fun r5=>
 if r5.2=true then(none) else(some r5.1)
theorem nW(k:Nat)(a1:cV)(c:Nat)(r:(List (List (List Int))))(h:gz k a1=some r):
 cd Tryz.prog 147 [.eq (.slice none 0 0),.eq (.func (.func 148) #[] #[(Pv c)])] [.obj c 102 (.at bj a1)] (fun z:Value=>(bu [.eq z],[.sl z 107 (.arr 3 (.arr 5 (.int .i64))) r,.obj c 102 (.at bj a1)])):=by
 unfold gz at h
 replace h:=a8 h
 refine yr 13 Tryz.func147 rfl Tryz.ntmps147 rfl fun {M} S w0=>?_
 refine sr ?_
 refine bx fun b1=>?_
 refine cq ?_
 refine nt ?_
 refine ah ?_
 refine sr ?_
 refine mq ?_
 refine nt ?_
 refine aj ?_
 refine fh (SE.nil 107 (.arr 3 (.arr 5 (.int .i64)))) ?_
 refine c9 1 rfl ?_
 refine c9 2 rfl ?_
 obtain⟨r5,j,h⟩:=ab h
 refine kT (Δ:=[.obj c 102 (.at bj a1),.obj b1 152 (.eq (.slice none 0 0)),.sl (.slice none 0 0) 107 (.arr 3 (.arr 5 (.int .i64))) ([]:(List (List (List Int))))]) (F:=[]) (X:=Value) (J:=fun _=>E0 r5.2) (E:=fun z3=>[.obj c 102 (.at bj a1),.obj b1 152 (.eq z3),.sl z3 107 (.arr 3 (.arr 5 (.int .i64))) r5.1]) (r0:=fun _=>.tup .any) rfl rfl K3 (fun rec hp ha hb hs hpe hN hv l=>?_) (fun dl z3=>nh (fun hj=>?_) (fun hj=>?_))
 ·
  rcases rec with⟨st0,pe0,fn0,tm0,ps0,as0,bd0,df0⟩;dsimp only at hp ha hb hs hpe hN hv;subst hp hs hpe;have vN:tU tm0 [(2,Pt b1)]:=⟨congrArg A.eq (hv 2 _ rfl).symm,trivial⟩;refine dh.pick (M:=M) [1,0,2,3] [1,0,2,3] (jt (fun(z3:Value) (q:(List (List (List Int)))×Bool)=>[.raw l (.loop (iI ⟨.ready,none,fn0,tm0, #[7],as0,bd0,df0⟩ (E0 q.2))),.obj b1 152 (.eq z3),.sl z3 107 (.arr 3 (.arr 5 (.int .i64))) q.1]) l (lu (fun(y2:(List (List (List Int)))) (p4:(List (List Int)))=>
  (eE (bX (List.length y2+List.length [p4]))).bind fun _=>
  some (y2++[p4],true))) k a1 c (fun z3 q p r' h=>?_) (.slice none 0 0) (([]:(List (List (List Int)))),false) r5 j) rfl (fun _=>rfl) (fun _=>rfl)
  obtain⟨rq,hq,h2,rfl⟩:=ni h;obtain⟨y2,b5⟩:=q;obtain rfl:b5=false:=hq;replace h:=a8 h2;obtain⟨p4,hpv⟩:∃x,x=p:=⟨_,rfl⟩;subst hpv;refine YT.pick (R':=(fun z3:Value=>(.eq (.bool rq.2),[.raw l (.loop (iI ⟨.ready,none,fn0,tm0, #[7],as0,bd0,df0⟩ (E0 (!rq.2)))),.obj b1 152 (.eq z3),.sl z3 107 (.arr 3 (.arr 5 (.int .i64))) rq.1]))) [0,1,2] [0,1,2] (BR ha hb (N:=13) (Γ:=[(2,Pt b1)]) rfl hN (by decide) vN (fun S w=>?_)) rfl (fun _=>rfl) (fun _=>rfl);refine aa (ay rfl rfl rfl (aP rfl li lM) trivial fun b6=>?_);refine aZ rfl rfl (aR rfl cG rfl rfl rfl) ⟨rfl,rfl,trivial⟩ ?_;refine nl (aY 1 rfl ?_);refine rW rfl rfl ?_;refine aj (aa (fr 2 ?_));refine lo Fz ?_;refine fr 2 ?_;refine lo cG ?_;refine ja (bF (t:=(.arr 3 (.arr 5 (.int .i64)))) [(.tmp 9,_)] [p4] rfl rfl KO (.cons rfl .rep .nil) rfl rfl) ?_;obtain⟨u7,e,h⟩:=ab h;refine fr 3 ?_;refine dQ rfl rfl rfl (cp rfl rfl KO (aE e)) ⟨rfl,rfl,trivial⟩ fun v8=>?_;refine o7 fun o9=>?_;refine fr 2 ?_;refine aZ rfl rfl (aR rfl Fz o9 rfl rfl) ⟨rfl,rfl,trivial⟩ ?_;refine ao (aJ (aY 1 rfl ?_));refine aY 1 rfl ?_;refine aY 3 rfl ?_;cases h;exact lg v8 2 rfl
 ·
  replace h:=bL (AN hj) h;refine aJ (tn (sr (fr 2 ?_)));refine lo Fz ?_;refine aq (nt (aC ?_));refine aY 1 rfl ?_;refine rU ?_;refine bM (SE.fin (Γ':=[(4,_)]) [2,1,0] ⟨rfl,trivial⟩ rfl) ?_;cases h;exact aI z3 [.eq z3] 2 ⟨rfl,trivial⟩ rfl
 ·
  replace h:=ct (AM hj) h;cases h
def fW(k:Nat)(a0:cV):Option (List (List (List Int))):=
 (gz k a0).bind fun r1=>
 some r1
theorem pL(k:Nat)(a0:cV)(c:Nat)(r:(List (List (List Int))))(h:fW k a0=some r):
 cd Tryz.prog 115 [.eq (.func (.func 148) #[] #[(Pv c)])] [.obj c 102 (.at bj a0)] (fun _:Unit=>(bu [.rep (.slice (.arr 3 (.arr 5 (.int .i64)))) r],[.obj c 102 (.at bj a0)])):=by
 unfold fW at h
 replace h:=a8 h
 refine cd.of 5 Tryz.func115 rfl Tryz.ntmps115 rfl fun S w0=>?_
 refine sr ?_
 refine cq ?_
 refine nt ?_
 refine sr ?_
 refine mq ?_
 obtain⟨r1,e,h⟩:=ab h
 have j:=nW k a0 c r1 e
 refine bB (Δ:=[_]) (F:=_) (fun _ _ _=>ar rfl _) rfl rfl (an [.const (.slice none 0 0),.tmp 3] rfl rfl PK rfl j) ⟨rfl,rfl,trivial⟩ fun z2=>?_
 refine aq ?_
 refine nt ?_
 refine aC ?_
 refine bM (gG [2,4] ⟨rfl,rfl,trivial⟩) ?_
 cases h
 exact aI () [_] 1 ⟨rfl,trivial⟩ rfl
theorem kd(a0:cV):cd Tryz.prog 116 [.at bj a0] [] (fun z:Nat=>(bu [.eq (.func (.func 148) #[] #[(Pv z)])],[.obj z 102 (.at bj a0)])):=by
 refine cd.of 4 Tryz.func116 rfl Tryz.ntmps116 rfl fun S w0=>?_;refine sr (ay rfl rfl rfl (nR rfl trivial) ⟨rfl,trivial⟩ fun z=>?_);refine cq (nt (sr ?_));refine ja (sH [] [.tmp 1] [] [(Pv z)] rfl rfl rfl) ?_;refine aq (nt (aC ?_));exact aI z [_] 1 ⟨rfl,trivial⟩ rfl
def kl(k:Nat)(a0:(List Int)):Option bK:=
 ((if(a0.length:Int)=0 then(some [3,2]) else(some a0)):Option ((List Int))).bind fun x2=>
 some (3,[(1,[0,2]),(1,[1]),(2,[2]),(1,[0,1])],x2)
theorem jj(k:Nat)(a0:(List Int))(r:bK)(h:kl k a0=some r):
 cd Tryz.prog 78 [Ri a0] [] (fun _:Unit=>(bu [.rep aG r],[])):=by
 unfold kl at h
 replace h:=a8 h
 refine cd.of 18 Tryz.func78 rfl Tryz.ntmps78 rfl fun S w0=>?_
 refine sr ?_
 refine ay rfl rfl rfl (aP rfl lh nH) trivial fun b1=>?_
 refine nt ?_
 refine aN (Z:=Unit) (α:=(List Int)) (fun z3 x2=>[(0,Ri x2),(2,Pt b1)]) (fun z3 x2=>[.obj b1 25 (.agg (.pair (I 0) (.pair (.eq (.slice none 0 0)) (.eq (.slice none 0 0)))))]) h (fun K h=>?_) (fun z3 x2 h=>?_)
 ·
  refine sr (mq ?_);refine ol fC ?_;refine jb (ek rfl) ?_;refine nt (ci h (fun h=>?_) (fun h=>?_))
  ·refine aa (jb (bF (t:=(.int .i64)) [(.const (.int .i64 (3)),_),(.const (.int .i64 (2)),_)] [3,2] rfl rfl fF (.cons rfl .int (.cons rfl .int .nil)) rfl rfl) ?_);refine aq (nl ?_);exact jz ((),[3,2]) h [0]
  ·refine aU (ae ?_);exact jz ((),a0) h [0]
 ·
  refine sr (jb (bF (t:=(.int .i64)) [(.const (.int .i64 (0)),_),(.const (.int .i64 (2)),_)] [0,2] rfl rfl fF (.cons rfl .int (.cons rfl .int .nil)) rfl rfl) ?_);refine jb (cT [(0,.const (.int .i64 (1)),_),(1,.tmp 7,_)] rfl D8 vB wX (iE ⟨rfl,rfl,trivial⟩) rfl) ?_;refine ja (bF (t:=(.int .i64)) [(.const (.int .i64 (1)),_)] [1] rfl rfl fF (.cons rfl .int .nil) rfl rfl) ?_;refine jb (cT [(0,.const (.int .i64 (1)),_),(1,.tmp 9,_)] rfl D8 vB wX (iE ⟨rfl,rfl,trivial⟩) rfl) ?_;refine ja (bF (t:=(.int .i64)) [(.const (.int .i64 (2)),_)] [2] rfl rfl fF (.cons rfl .int .nil) rfl rfl) ?_;refine jb (cT [(0,.const (.int .i64 (2)),_),(1,.tmp 11,_)] rfl D8 vB wX (iE ⟨rfl,rfl,trivial⟩) rfl) ?_;refine jb (bF (t:=(.int .i64)) [(.const (.int .i64 (0)),_),(.const (.int .i64 (1)),_)] [0,1] rfl rfl fF (.cons rfl .int (.cons rfl .int .nil)) rfl rfl) ?_;refine jb (cT [(0,.const (.int .i64 (1)),_),(1,.tmp 13,_)] rfl D8 vB wX (iE ⟨rfl,rfl,trivial⟩) rfl) ?_;refine aA rfl (bF (t:=cg) [(.tmp 8,_),(.tmp 10,_),(.tmp 12,_),(.tmp 14,_)] [(1,[0,2]),(1,[1]),(2,[2]),(1,[0,1])] rfl rfl FG (.cons trivial (.agg (.pair .int .rep)) (.cons trivial (.agg (.pair .int .rep)) (.cons trivial (.agg (.pair .int .rep)) (.cons trivial (.agg (.pair .int .rep)) .nil)))) rfl rfl) ⟨rfl,rfl,rfl,rfl,trivial⟩ ?_;refine mq ?_;refine jc (cT [(0,.const (.int .i64 (3)),_),(1,.tmp 15,_),(2,.tmp 16,_)] rfl IJ lh Df (iE ⟨rfl,rfl,rfl,trivial⟩) rfl) ?_;refine aZ rfl rfl (aR rfl i8 trivial rfl rfl) ⟨rfl,rfl,trivial⟩ ?_;refine nt (aC (bM (nJ (a:=.agg (.pair (I 3) (.pair (Rs cg [(1,[0,2]),(1,[1]),(2,[2]),(1,[0,1])]) (Ri x2)))) (a':=.rep aG (3,[(1,[0,2]),(1,[1]),(2,[2]),(1,[0,1])],x2)) (vA (.agg (.pair .int (.pair .rep .rep))))) ?_));cases h;exact aI () [.rep aG (3,[(1,[0,2]),(1,[1]),(2,[2]),(1,[0,1])],x2)] 0 ⟨⟨_,_,_,_,_,rfl,(.head _),i8,(xE),rfl⟩,trivial⟩ rfl
def wC(k:Nat):Option (List (List Int)):=
 some [[1,0,3],[2]]
theorem rz(k:Nat)(r:(List (List Int)))(h:wC k=some r):
 cd Tryz.prog 79 [] [] (fun _:Unit=>(bu [.rep (.slice (.slice (.int .i64))) r],[])):=by
 unfold wC at h
 replace h:=a8 h
 refine cd.of 4 Tryz.func79 rfl Tryz.ntmps79 rfl fun S w0=>?_
 refine sr ?_
 refine cq ?_
 refine nt ?_
 refine sr ?_
 refine jc (bF (t:=(.int .i64)) [(.const (.int .i64 (1)),_),(.const (.int .i64 (0)),_),(.const (.int .i64 (3)),_)] [1,0,3] rfl rfl fF (.cons rfl .int (.cons rfl .int (.cons rfl .int .nil))) rfl rfl) ?_
 refine ja (bF (t:=(.int .i64)) [(.const (.int .i64 (2)),_)] [2] rfl rfl fF (.cons rfl .int .nil) rfl rfl) ?_
 refine jb (bF (t:=(.slice (.int .i64))) [(.tmp 1,_),(.tmp 2,_)] [[1,0,3],[2]] rfl rfl su (.cons rfl .rep (.cons rfl .rep .nil)) rfl rfl) ?_
 refine aq ?_
 refine nt ?_
 refine aC ?_
 cases h
 exact ra
def G0(k:Nat):Option (List (List Int)):=
 some [[0,2],[3,1]]
theorem GZ(k:Nat)(r:(List (List Int)))(h:G0 k=some r):
 cd Tryz.prog 80 [] [] (fun _:Unit=>(bu [.rep (.slice (.slice (.int .i64))) r],[])):=by
 unfold G0 at h
 replace h:=a8 h
 refine cd.of 4 Tryz.func80 rfl Tryz.ntmps80 rfl fun S w0=>?_
 refine sr ?_
 refine cq ?_
 refine nt ?_
 refine sr ?_
 refine jb (bF (t:=(.int .i64)) [(.const (.int .i64 (0)),_),(.const (.int .i64 (2)),_)] [0,2] rfl rfl fF (.cons rfl .int (.cons rfl .int .nil)) rfl rfl) ?_
 refine jb (bF (t:=(.int .i64)) [(.const (.int .i64 (3)),_),(.const (.int .i64 (1)),_)] [3,1] rfl rfl fF (.cons rfl .int (.cons rfl .int .nil)) rfl rfl) ?_
 refine jb (bF (t:=(.slice (.int .i64))) [(.tmp 1,_),(.tmp 2,_)] [[0,2],[3,1]] rfl rfl su (.cons rfl .rep (.cons rfl .rep .nil)) rfl rfl) ?_
 refine aq ?_
 refine nt ?_
 refine aC ?_
 cases h
 exact ra
def mb(k:Nat)(a0:(List Int)):Option cQ:=
 some (a0,0,1)
theorem uU(k:Nat)(a0:(List Int))(r:cQ)(h:mb k a0=some r):
 cd Tryz.prog 26 [Ri a0] [] (fun z:Nat=>(bu [Pt z],[.obj z 98 (.agg (.pair (Ri r.1) (.pair (I r.2.1) (.eq (.int .u64 r.2.2)))))])):=by
 unfold mb at h
 replace h:=a8 h
 refine cd.of 6 Tryz.func26 rfl Tryz.ntmps26 rfl fun S w0=>?_
 refine sr ?_
 refine cq ?_
 refine nt ?_
 refine sr ?_
 refine mq ?_
 refine jb (cT [(0,.tmp 3,_),(2,.const (.int .u64 (1)),_)] rfl QP QI P6 (iE ⟨rfl,rfl,trivial⟩) rfl) ?_
 refine ay rfl rfl rfl (nR rfl trivial) ⟨rfl,trivial⟩ fun b1=>?_
 refine aq ?_
 refine nt ?_
 refine aC ?_
 cases h
 exact aI b1 [Pt b1] 1 ⟨rfl,trivial⟩ rfl
def iz(k:Nat)(a0:(List Int)):Option (List Int):=
 (eE (bX (List.length ([]:(List Int))+List.length a0))).bind fun _=>
 some (([]:(List Int))++a0)
theorem eh(k:Nat)(a0:(List Int))(r:(List Int))(h:iz k a0=some r):
 cd Tryz.prog 55 [Ri a0] [] (fun z:Value=>(bu [.eq z],[.sl z 3 (.int .i64) r])):=by
 unfold iz at h
 replace h:=a8 h
 refine cd.of 6 Tryz.func55 rfl Tryz.ntmps55 rfl fun S w0=>?_
 refine sr ?_
 refine cq ?_
 refine nt ?_
 refine sr ?_
 refine ay rfl rfl rfl (nu (t:=(.int .i64)) [] ([]:(List Int)) rfl rfl fF .nil rfl rfl) trivial fun v1=>?_
 refine mq ?_
 obtain⟨u2,c,h⟩:=ab h
 refine dQ rfl rfl rfl (cp rfl rfl fF (aE c)) ⟨rfl,rfl,trivial⟩ fun v3=>?_
 refine aq ?_
 refine nt ?_
 refine aC ?_
 cases h
 exact aI v3 [.eq v3] 1 ⟨rfl,trivial⟩ rfl
def fm(k:Nat)(a0:bK):Nat→((List jp)×Int)→Option (List jp)
 |0,_=>none
 |n+1,y9=>
  if y9.2 < (a0.2.1.length:Int) then((bf a0.2.1 y9.2).bind fun c=>
  (bf a0.2.1 y9.2).bind fun j=>
  (iz k j.2).bind fun e=>
  (eE (bX (List.length y9.1+List.length [(c.1,e)]))).bind fun _=>
  (ck (y9.2+1)).bind fun h=>
  fm k a0 n (y9.1++[(c.1,e)],h)) else(some y9.1)
def jC(k:Nat)(a0:bK):Option bK:=
 (iz k a0.2.2).bind fun r3=>
 ((fm k a0 k (([]:(List jp)),0)):Option ((List jp))).bind fun x7=>
 some (a0.1,x7,r3)
theorem tO(k:Nat)(a0:bK)(r:bK)(h:jC k a0=some r):
 cd Tryz.prog 29 [.rep aG a0] [] (fun z:Value×Value=>(bu [.agg (.pair (I r.1) (.pair (.eq z.1) (.eq z.2)))],[.sl z.1 27 cg r.2.1,.sl z.2 3 (.int .i64) r.2.2])):=by
 unfold jC at h
 replace h:=a8 h
 refine cd.of 38 Tryz.func29 rfl Tryz.ntmps29 rfl fun S w0=>?_
 refine sr ?_
 refine bx fun b1=>?_
 refine ay rfl rfl rfl (aP rfl lh nH) trivial fun b2=>?_
 refine nt ?_
 refine ah ?_
 obtain⟨r3,c,h⟩:=ab h
 refine fh (SE.fin (Γ':=[(1,Pt b1),(2,Pt b2)]) (Δ':=[.obj b2 25 (.agg (.pair (I 0) (.pair (.eq (.slice none 0 0)) (.eq (.slice none 0 0))))),.obj b1 25 (.rep aG a0)]) [0,1] ⟨rfl,rfl,trivial⟩ rfl) ?_
 refine Av (I:=Value×Nat) (Ge:=fun i=>[(1,Pt b1),(2,Pt b2),(3,.eq (.pointer (some ⟨i.2,0,none⟩)))]) (De:=fun i=>[.obj b1 25 (.rep aG a0),.obj b2 25 (.agg (.pair (I 0) (.pair (.eq (.slice none 0 0)) (.eq (.slice none 0 0))))),.sl i.1 3 (.int .i64) r3,.obj i.2 25 (.agg (.pair (I a0.1) (.pair (.eq (.slice none 0 0)) (.eq i.1))))]) (L:=[true,true,true,true,true,true,true,true]) fg rfl (fun J hJ hE=>?_) (by kernel_rfl) ?_
 ·
  have s127:∀(v4:Value) (b6:Nat),J 1 [true,true,true,true,true,true,true,false] [(1,Pt b1),(2,Pt b2),(3,Pt b6),(10,.agg (.pair (I a0.1) (.pair (.eq (.slice none 0 0)) (.eq v4))))] [.obj b1 25 (.rep aG a0),.obj b2 25 (.agg (.pair (I 0) (.pair (.eq (.slice none 0 0)) (.eq (.slice none 0 0))))),.sl v4 3 (.int .i64) r3,.obj b6 25 (.agg (.pair (I 0) (.pair (.eq (.slice none 0 0)) (.eq (.slice none 0 0)))))]:=fun v4 b6=>by
   subst hJ;refine JD.step [7] (by kernel_rfl) rfl ?_;refine cz.cons rfl ?_ ?_
   ·refine fr 3 ?_;refine aZ rfl rfl (aR rfl i8 trivial rfl rfl) ⟨rfl,rfl,trivial⟩ ?_;exact aB (hE ⟨v4,b6⟩) [1,2,3,0] ⟨rfl,rfl,rfl,trivial⟩
   exact trivial
  have s63:∀(v4:Value),J 2 [true,true,true,true,true,true,false,false] [(1,Pt b1),(2,Pt b2),(10,.agg (.pair (I a0.1) (.pair (.eq (.slice none 0 0)) (.eq v4))))] [.obj b1 25 (.rep aG a0),.obj b2 25 (.agg (.pair (I 0) (.pair (.eq (.slice none 0 0)) (.eq (.slice none 0 0))))),.sl v4 3 (.int .i64) r3]:=fun v4=>by
   subst hJ;refine JD.step [6] (by kernel_rfl) rfl ?_;refine cz.cons rfl ?_ ?_
   ·refine ay rfl rfl rfl (aP rfl lh nH) trivial fun b6=>?_;exact aB (s127 v4 b6) [1,2,3,0] ⟨rfl,rfl,rfl,rfl,trivial⟩
   exact trivial
  have s95:∀(v4:Value) (b6:Nat),J 2 [true,true,true,true,true,false,true,false] [(1,Pt b1),(2,Pt b2),(3,Pt b6),(6,I a0.1),(9,.eq v4)] [.obj b1 25 (.rep aG a0),.obj b2 25 (.agg (.pair (I 0) (.pair (.eq (.slice none 0 0)) (.eq (.slice none 0 0))))),.sl v4 3 (.int .i64) r3,.obj b6 25 (.agg (.pair (I 0) (.pair (.eq (.slice none 0 0)) (.eq (.slice none 0 0)))))]:=fun v4 b6=>by
   subst hJ;refine JD.step [5] (by kernel_rfl) rfl ?_;refine cz.cons rfl ?_ ?_
   ·refine fr 2 ?_;refine o7 fun o5=>?_;refine jb (cT [(0,.tmp 6,_),(2,.tmp 9,_)] rfl IJ lh Df (iE ⟨rfl,o5,trivial⟩) rfl) ?_;exact aB (s127 v4 b6) [1,2,0,3] ⟨rfl,rfl,rfl,rfl,trivial⟩
   exact trivial
  have s31:∀(v4:Value),J 3 [true,true,true,true,true,false,false,false] [(1,Pt b1),(2,Pt b2),(6,I a0.1),(9,.eq v4)] [.obj b1 25 (.rep aG a0),.obj b2 25 (.agg (.pair (I 0) (.pair (.eq (.slice none 0 0)) (.eq (.slice none 0 0))))),.sl v4 3 (.int .i64) r3]:=fun v4=>by
   subst hJ;refine JD.step [5,6] (by kernel_rfl) rfl ?_;refine cz.cons rfl ?_ ?_
   ·refine fr 2 ?_;refine o7 fun o5=>?_;refine jb (cT [(0,.tmp 6,_),(2,.tmp 9,_)] rfl IJ lh Df (iE ⟨rfl,o5,trivial⟩) rfl) ?_;exact aB (s63 v4) [1,2,0] ⟨rfl,rfl,rfl,trivial⟩
   refine cz.cons rfl ?_ ?_
   ·refine ay rfl rfl rfl (aP rfl lh nH) trivial fun b6=>?_;exact aB (s95 v4 b6) [1,2,3,0] ⟨rfl,rfl,rfl,rfl,rfl,trivial⟩
   exact trivial
  have s79:∀(b6:Nat),J 3 [true,true,true,true,false,false,true,false] [(1,Pt b1),(2,Pt b2),(3,Pt b6),(6,I a0.1),(8,Ri a0.2.2)] [.obj b1 25 (.rep aG a0),.obj b2 25 (.agg (.pair (I 0) (.pair (.eq (.slice none 0 0)) (.eq (.slice none 0 0))))),.obj b6 25 (.agg (.pair (I 0) (.pair (.eq (.slice none 0 0)) (.eq (.slice none 0 0)))))]:=fun b6=>by
   subst hJ;refine JD.step [4] (by kernel_rfl) rfl ?_;refine cz.cons rfl ?_ ?_
   ·refine ay rfl rfl rfl (an [.tmp 8] rfl rfl BL rfl (eh k a0.2.2 r3 c)) ⟨rfl,trivial⟩ fun v4=>?_;exact aB (s95 v4 b6) [1,2,0,3] ⟨rfl,rfl,rfl,rfl,rfl,trivial⟩
   exact trivial
  have s93:∀(v4:Value) (b6:Nat),J 3 [true,false,true,true,true,false,true,false] [(1,Pt b1),(2,Pt b2),(3,Pt b6),(5,Pt b1),(9,.eq v4)] [.obj b1 25 (.rep aG a0),.obj b2 25 (.agg (.pair (I 0) (.pair (.eq (.slice none 0 0)) (.eq (.slice none 0 0))))),.sl v4 3 (.int .i64) r3,.obj b6 25 (.agg (.pair (I 0) (.pair (.eq (.slice none 0 0)) (.eq (.slice none 0 0)))))]:=fun v4 b6=>by
   subst hJ;refine JD.step [1] (by kernel_rfl) rfl ?_;refine cz.cons rfl ?_ ?_
   ·refine lo dE ?_;exact aB (s95 v4 b6) [0,1,2,3] ⟨rfl,rfl,rfl,rfl,rfl,trivial⟩
   exact trivial
  have s15:J 4 [true,true,true,true,false,false,false,false] [(1,Pt b1),(2,Pt b2),(6,I a0.1),(8,Ri a0.2.2)] [.obj b1 25 (.rep aG a0),.obj b2 25 (.agg (.pair (I 0) (.pair (.eq (.slice none 0 0)) (.eq (.slice none 0 0)))))]:=by
   subst hJ;refine JD.step [4,6] (by kernel_rfl) rfl ?_;refine cz.cons rfl ?_ ?_
   ·refine ay rfl rfl rfl (an [.tmp 8] rfl rfl BL rfl (eh k a0.2.2 r3 c)) ⟨rfl,trivial⟩ fun v4=>?_;exact aB (s31 v4) [1,2,0] ⟨rfl,rfl,rfl,rfl,trivial⟩
   refine cz.cons rfl ?_ ?_
   ·refine ay rfl rfl rfl (aP rfl lh nH) trivial fun b6=>?_;exact aB (s79 b6) [1,2,0] ⟨rfl,rfl,rfl,rfl,rfl,trivial⟩
   exact trivial
  have s71:∀(b6:Nat),J 4 [true,true,true,false,false,false,true,false] [(1,Pt b1),(2,Pt b2),(3,Pt b6),(6,I a0.1),(7,.eq (.pointer (some ⟨b1,2,none⟩)))] [.obj b1 25 (.rep aG a0),.obj b2 25 (.agg (.pair (I 0) (.pair (.eq (.slice none 0 0)) (.eq (.slice none 0 0))))),.obj b6 25 (.agg (.pair (I 0) (.pair (.eq (.slice none 0 0)) (.eq (.slice none 0 0)))))]:=fun b6=>by
   subst hJ;refine JD.step [3] (by kernel_rfl) rfl ?_;refine cz.cons rfl ?_ ?_
   ·refine lo bZ ?_;exact aB (s79 b6) [0,1,2] ⟨rfl,rfl,rfl,rfl,rfl,trivial⟩
   exact trivial
  have s29:∀(v4:Value),J 4 [true,false,true,true,true,false,false,false] [(1,Pt b1),(2,Pt b2),(5,Pt b1),(9,.eq v4)] [.obj b1 25 (.rep aG a0),.obj b2 25 (.agg (.pair (I 0) (.pair (.eq (.slice none 0 0)) (.eq (.slice none 0 0))))),.sl v4 3 (.int .i64) r3]:=fun v4=>by
   subst hJ;refine JD.step [1,6] (by kernel_rfl) rfl ?_;refine cz.cons rfl ?_ ?_
   ·refine lo dE ?_;exact aB (s31 v4) [0,1,2] ⟨rfl,rfl,rfl,rfl,trivial⟩
   refine cz.cons rfl ?_ ?_
   ·refine ay rfl rfl rfl (aP rfl lh nH) trivial fun b6=>?_;exact aB (s93 v4 b6) [1,2,3,0] ⟨rfl,rfl,rfl,rfl,rfl,trivial⟩
   exact trivial
  have s77:∀(b6:Nat),J 4 [true,false,true,true,false,false,true,false] [(1,Pt b1),(2,Pt b2),(3,Pt b6),(5,Pt b1),(8,Ri a0.2.2)] [.obj b1 25 (.rep aG a0),.obj b2 25 (.agg (.pair (I 0) (.pair (.eq (.slice none 0 0)) (.eq (.slice none 0 0))))),.obj b6 25 (.agg (.pair (I 0) (.pair (.eq (.slice none 0 0)) (.eq (.slice none 0 0)))))]:=fun b6=>by
   subst hJ;refine JD.step [1,4] (by kernel_rfl) rfl ?_;refine cz.cons rfl ?_ ?_
   ·refine lo dE ?_;exact aB (s79 b6) [0,1,2] ⟨rfl,rfl,rfl,rfl,rfl,trivial⟩
   refine cz.cons rfl ?_ ?_
   ·refine ay rfl rfl rfl (an [.tmp 8] rfl rfl BL rfl (eh k a0.2.2 r3 c)) ⟨rfl,trivial⟩ fun v4=>?_;exact aB (s93 v4 b6) [1,2,0,3] ⟨rfl,rfl,rfl,rfl,rfl,trivial⟩
   exact trivial
  have s92:∀(v4:Value) (b6:Nat),J 4 [false,false,true,true,true,false,true,false] [(1,Pt b1),(2,Pt b2),(3,Pt b6),(9,.eq v4)] [.obj b1 25 (.rep aG a0),.obj b2 25 (.agg (.pair (I 0) (.pair (.eq (.slice none 0 0)) (.eq (.slice none 0 0))))),.sl v4 3 (.int .i64) r3,.obj b6 25 (.agg (.pair (I 0) (.pair (.eq (.slice none 0 0)) (.eq (.slice none 0 0)))))]:=fun v4 b6=>by
   subst hJ;refine JD.step [0] (by kernel_rfl) rfl ?_;refine cz.cons rfl ?_ ?_
   ·refine fl je ?_;exact aB (s93 v4 b6) [0,1,2,3] ⟨rfl,rfl,rfl,rfl,rfl,trivial⟩
   exact trivial
  have s7:J 5 [true,true,true,false,false,false,false,false] [(1,Pt b1),(2,Pt b2),(6,I a0.1),(7,.eq (.pointer (some ⟨b1,2,none⟩)))] [.obj b1 25 (.rep aG a0),.obj b2 25 (.agg (.pair (I 0) (.pair (.eq (.slice none 0 0)) (.eq (.slice none 0 0)))))]:=by
   subst hJ;refine JD.step [3,6] (by kernel_rfl) rfl ?_;refine cz.cons rfl ?_ ?_
   ·refine lo bZ ?_;exact aB s15 [0,1] ⟨rfl,rfl,rfl,rfl,trivial⟩
   refine cz.cons rfl ?_ ?_
   ·refine ay rfl rfl rfl (aP rfl lh nH) trivial fun b6=>?_;exact aB (s71 b6) [1,2,0] ⟨rfl,rfl,rfl,rfl,rfl,trivial⟩
   exact trivial
  have s67:∀(b6:Nat),J 5 [true,true,false,false,false,false,true,false] [(1,Pt b1),(2,Pt b2),(3,Pt b6),(6,I a0.1)] [.obj b1 25 (.rep aG a0),.obj b2 25 (.agg (.pair (I 0) (.pair (.eq (.slice none 0 0)) (.eq (.slice none 0 0))))),.obj b6 25 (.agg (.pair (I 0) (.pair (.eq (.slice none 0 0)) (.eq (.slice none 0 0)))))]:=fun b6=>by
   subst hJ;refine JD.step [2] (by kernel_rfl) rfl ?_;refine cz.cons rfl ?_ ?_
   ·refine fl eV ?_;exact aB (s71 b6) [0,1,2] ⟨rfl,rfl,rfl,rfl,rfl,trivial⟩
   exact trivial
  have s13:J 5 [true,false,true,true,false,false,false,false] [(1,Pt b1),(2,Pt b2),(5,Pt b1),(8,Ri a0.2.2)] [.obj b1 25 (.rep aG a0),.obj b2 25 (.agg (.pair (I 0) (.pair (.eq (.slice none 0 0)) (.eq (.slice none 0 0)))))]:=by
   subst hJ;refine JD.step [1,4,6] (by kernel_rfl) rfl ?_;refine cz.cons rfl ?_ ?_
   ·refine lo dE ?_;exact aB s15 [0,1] ⟨rfl,rfl,rfl,rfl,trivial⟩
   refine cz.cons rfl ?_ ?_
   ·refine ay rfl rfl rfl (an [.tmp 8] rfl rfl BL rfl (eh k a0.2.2 r3 c)) ⟨rfl,trivial⟩ fun v4=>?_;exact aB (s29 v4) [1,2,0] ⟨rfl,rfl,rfl,rfl,trivial⟩
   refine cz.cons rfl ?_ ?_
   ·refine ay rfl rfl rfl (aP rfl lh nH) trivial fun b6=>?_;exact aB (s77 b6) [1,2,0] ⟨rfl,rfl,rfl,rfl,rfl,trivial⟩
   exact trivial
  have s69:∀(b6:Nat),J 5 [true,false,true,false,false,false,true,false] [(1,Pt b1),(2,Pt b2),(3,Pt b6),(5,Pt b1),(7,.eq (.pointer (some ⟨b1,2,none⟩)))] [.obj b1 25 (.rep aG a0),.obj b2 25 (.agg (.pair (I 0) (.pair (.eq (.slice none 0 0)) (.eq (.slice none 0 0))))),.obj b6 25 (.agg (.pair (I 0) (.pair (.eq (.slice none 0 0)) (.eq (.slice none 0 0)))))]:=fun b6=>by
   subst hJ;refine JD.step [1,3] (by kernel_rfl) rfl ?_;refine cz.cons rfl ?_ ?_
   ·refine lo dE ?_;exact aB (s71 b6) [0,1,2] ⟨rfl,rfl,rfl,rfl,rfl,trivial⟩
   refine cz.cons rfl ?_ ?_
   ·refine lo bZ ?_;exact aB (s77 b6) [0,1,2] ⟨rfl,rfl,rfl,rfl,rfl,trivial⟩
   exact trivial
  have s28:∀(v4:Value),J 5 [false,false,true,true,true,false,false,false] [(1,Pt b1),(2,Pt b2),(9,.eq v4)] [.obj b1 25 (.rep aG a0),.obj b2 25 (.agg (.pair (I 0) (.pair (.eq (.slice none 0 0)) (.eq (.slice none 0 0))))),.sl v4 3 (.int .i64) r3]:=fun v4=>by
   subst hJ;refine JD.step [0,6] (by kernel_rfl) rfl ?_;refine cz.cons rfl ?_ ?_
   ·refine fl je ?_;exact aB (s29 v4) [0,1,2] ⟨rfl,rfl,rfl,rfl,trivial⟩
   refine cz.cons rfl ?_ ?_
   ·refine ay rfl rfl rfl (aP rfl lh nH) trivial fun b6=>?_;exact aB (s92 v4 b6) [1,2,3,0] ⟨rfl,rfl,rfl,rfl,trivial⟩
   exact trivial
  have s76:∀(b6:Nat),J 5 [false,false,true,true,false,false,true,false] [(1,Pt b1),(2,Pt b2),(3,Pt b6),(8,Ri a0.2.2)] [.obj b1 25 (.rep aG a0),.obj b2 25 (.agg (.pair (I 0) (.pair (.eq (.slice none 0 0)) (.eq (.slice none 0 0))))),.obj b6 25 (.agg (.pair (I 0) (.pair (.eq (.slice none 0 0)) (.eq (.slice none 0 0)))))]:=fun b6=>by
   subst hJ;refine JD.step [0,4] (by kernel_rfl) rfl ?_;refine cz.cons rfl ?_ ?_
   ·refine fl je ?_;exact aB (s77 b6) [0,1,2] ⟨rfl,rfl,rfl,rfl,rfl,trivial⟩
   refine cz.cons rfl ?_ ?_
   ·refine ay rfl rfl rfl (an [.tmp 8] rfl rfl BL rfl (eh k a0.2.2 r3 c)) ⟨rfl,trivial⟩ fun v4=>?_;exact aB (s92 v4 b6) [1,2,0,3] ⟨rfl,rfl,rfl,rfl,trivial⟩
   exact trivial
  have s3:J 6 [true,true,false,false,false,false,false,false] [(1,Pt b1),(2,Pt b2),(6,I a0.1)] [.obj b1 25 (.rep aG a0),.obj b2 25 (.agg (.pair (I 0) (.pair (.eq (.slice none 0 0)) (.eq (.slice none 0 0)))))]:=by
   subst hJ;refine JD.step [2,6] (by kernel_rfl) rfl ?_;refine cz.cons rfl ?_ ?_
   ·refine fl eV ?_;exact aB s7 [0,1] ⟨rfl,rfl,rfl,rfl,trivial⟩
   refine cz.cons rfl ?_ ?_
   ·refine ay rfl rfl rfl (aP rfl lh nH) trivial fun b6=>?_;exact aB (s67 b6) [1,2,0] ⟨rfl,rfl,rfl,rfl,trivial⟩
   exact trivial
  have s5:J 6 [true,false,true,false,false,false,false,false] [(1,Pt b1),(2,Pt b2),(5,Pt b1),(7,.eq (.pointer (some ⟨b1,2,none⟩)))] [.obj b1 25 (.rep aG a0),.obj b2 25 (.agg (.pair (I 0) (.pair (.eq (.slice none 0 0)) (.eq (.slice none 0 0)))))]:=by
   subst hJ;refine JD.step [1,3,6] (by kernel_rfl) rfl ?_;refine cz.cons rfl ?_ ?_
   ·refine lo dE ?_;exact aB s7 [0,1] ⟨rfl,rfl,rfl,rfl,trivial⟩
   refine cz.cons rfl ?_ ?_
   ·refine lo bZ ?_;exact aB s13 [0,1] ⟨rfl,rfl,rfl,rfl,trivial⟩
   refine cz.cons rfl ?_ ?_
   ·refine ay rfl rfl rfl (aP rfl lh nH) trivial fun b6=>?_;exact aB (s69 b6) [1,2,0] ⟨rfl,rfl,rfl,rfl,rfl,trivial⟩
   exact trivial
  have s65:∀(b6:Nat),J 6 [true,false,false,false,false,false,true,false] [(1,Pt b1),(2,Pt b2),(3,Pt b6),(5,Pt b1)] [.obj b1 25 (.rep aG a0),.obj b2 25 (.agg (.pair (I 0) (.pair (.eq (.slice none 0 0)) (.eq (.slice none 0 0))))),.obj b6 25 (.agg (.pair (I 0) (.pair (.eq (.slice none 0 0)) (.eq (.slice none 0 0)))))]:=fun b6=>by
   subst hJ;refine JD.step [1,2] (by kernel_rfl) rfl ?_;refine cz.cons rfl ?_ ?_
   ·refine lo dE ?_;exact aB (s67 b6) [0,1,2] ⟨rfl,rfl,rfl,rfl,trivial⟩
   refine cz.cons rfl ?_ ?_
   ·refine fl eV ?_;exact aB (s69 b6) [0,1,2] ⟨rfl,rfl,rfl,rfl,rfl,trivial⟩
   exact trivial
  have s12:J 6 [false,false,true,true,false,false,false,false] [(1,Pt b1),(2,Pt b2),(8,Ri a0.2.2)] [.obj b1 25 (.rep aG a0),.obj b2 25 (.agg (.pair (I 0) (.pair (.eq (.slice none 0 0)) (.eq (.slice none 0 0)))))]:=by
   subst hJ;refine JD.step [0,4,6] (by kernel_rfl) rfl ?_;refine cz.cons rfl ?_ ?_
   ·refine fl je ?_;exact aB s13 [0,1] ⟨rfl,rfl,rfl,rfl,trivial⟩
   refine cz.cons rfl ?_ ?_
   ·refine ay rfl rfl rfl (an [.tmp 8] rfl rfl BL rfl (eh k a0.2.2 r3 c)) ⟨rfl,trivial⟩ fun v4=>?_;exact aB (s28 v4) [1,2,0] ⟨rfl,rfl,rfl,trivial⟩
   refine cz.cons rfl ?_ ?_
   ·refine ay rfl rfl rfl (aP rfl lh nH) trivial fun b6=>?_;exact aB (s76 b6) [1,2,0] ⟨rfl,rfl,rfl,rfl,trivial⟩
   exact trivial
  have s68:∀(b6:Nat),J 6 [false,false,true,false,false,false,true,false] [(1,Pt b1),(2,Pt b2),(3,Pt b6),(7,.eq (.pointer (some ⟨b1,2,none⟩)))] [.obj b1 25 (.rep aG a0),.obj b2 25 (.agg (.pair (I 0) (.pair (.eq (.slice none 0 0)) (.eq (.slice none 0 0))))),.obj b6 25 (.agg (.pair (I 0) (.pair (.eq (.slice none 0 0)) (.eq (.slice none 0 0)))))]:=fun b6=>by
   subst hJ;refine JD.step [0,3] (by kernel_rfl) rfl ?_;refine cz.cons rfl ?_ ?_
   ·refine fl je ?_;exact aB (s69 b6) [0,1,2] ⟨rfl,rfl,rfl,rfl,rfl,trivial⟩
   refine cz.cons rfl ?_ ?_
   ·refine lo bZ ?_;exact aB (s76 b6) [0,1,2] ⟨rfl,rfl,rfl,rfl,trivial⟩
   exact trivial
  have s1:J 7 [true,false,false,false,false,false,false,false] [(1,Pt b1),(2,Pt b2),(5,Pt b1)] [.obj b1 25 (.rep aG a0),.obj b2 25 (.agg (.pair (I 0) (.pair (.eq (.slice none 0 0)) (.eq (.slice none 0 0)))))]:=by
   subst hJ;refine JD.step [1,2,6] (by kernel_rfl) rfl ?_;refine cz.cons rfl ?_ ?_
   ·refine lo dE ?_;exact aB s3 [0,1] ⟨rfl,rfl,rfl,trivial⟩
   refine cz.cons rfl ?_ ?_
   ·refine fl eV ?_;exact aB s5 [0,1] ⟨rfl,rfl,rfl,rfl,trivial⟩
   refine cz.cons rfl ?_ ?_
   ·refine ay rfl rfl rfl (aP rfl lh nH) trivial fun b6=>?_;exact aB (s65 b6) [1,2,0] ⟨rfl,rfl,rfl,rfl,trivial⟩
   exact trivial
  have s4:J 7 [false,false,true,false,false,false,false,false] [(1,Pt b1),(2,Pt b2),(7,.eq (.pointer (some ⟨b1,2,none⟩)))] [.obj b1 25 (.rep aG a0),.obj b2 25 (.agg (.pair (I 0) (.pair (.eq (.slice none 0 0)) (.eq (.slice none 0 0)))))]:=by
   subst hJ;refine JD.step [0,3,6] (by kernel_rfl) rfl ?_;refine cz.cons rfl ?_ ?_
   ·refine fl je ?_;exact aB s5 [0,1] ⟨rfl,rfl,rfl,rfl,trivial⟩
   refine cz.cons rfl ?_ ?_
   ·refine lo bZ ?_;exact aB s12 [0,1] ⟨rfl,rfl,rfl,trivial⟩
   refine cz.cons rfl ?_ ?_
   ·refine ay rfl rfl rfl (aP rfl lh nH) trivial fun b6=>?_;exact aB (s68 b6) [1,2,0] ⟨rfl,rfl,rfl,rfl,trivial⟩
   exact trivial
  have s64:∀(b6:Nat),J 7 [false,false,false,false,false,false,true,false] [(1,Pt b1),(2,Pt b2),(3,Pt b6)] [.obj b1 25 (.rep aG a0),.obj b2 25 (.agg (.pair (I 0) (.pair (.eq (.slice none 0 0)) (.eq (.slice none 0 0))))),.obj b6 25 (.agg (.pair (I 0) (.pair (.eq (.slice none 0 0)) (.eq (.slice none 0 0)))))]:=fun b6=>by
   subst hJ;refine JD.step [0,2] (by kernel_rfl) rfl ?_;refine cz.cons rfl ?_ ?_
   ·refine fl je ?_;exact aB (s65 b6) [0,1,2] ⟨rfl,rfl,rfl,rfl,trivial⟩
   refine cz.cons rfl ?_ ?_
   ·refine fl eV ?_;exact aB (s68 b6) [0,1,2] ⟨rfl,rfl,rfl,rfl,trivial⟩
   exact trivial
  have s0:J 8 [false,false,false,false,false,false,false,false] [(1,Pt b1),(2,Pt b2)] [.obj b2 25 (.agg (.pair (I 0) (.pair (.eq (.slice none 0 0)) (.eq (.slice none 0 0))))),.obj b1 25 (.rep aG a0)]:=by
   subst hJ;refine JD.step [0,2,6] (by kernel_rfl) rfl ?_;refine cz.cons rfl ?_ ?_
   ·refine fl je ?_;exact aB s1 [1,0] ⟨rfl,rfl,rfl,trivial⟩
   refine cz.cons rfl ?_ ?_
   ·refine fl eV ?_;exact aB s4 [1,0] ⟨rfl,rfl,rfl,trivial⟩
   refine cz.cons rfl ?_ ?_
   ·refine ay rfl rfl rfl (aP rfl lh nH) trivial fun b6=>?_;exact aB (s64 b6) [2,1,0] ⟨rfl,rfl,rfl,trivial⟩
   exact trivial
  exact s0
 rintro⟨v4,b6⟩
 show JN _ _ [(1,Pt b1),(2,Pt b2),(3,Pt b6)] [.obj b1 25 (.rep aG a0),.obj b2 25 (.agg (.pair (I 0) (.pair (.eq (.slice none 0 0)) (.eq (.slice none 0 0))))),.sl v4 3 (.int .i64) r3,.obj b6 25 (.agg (.pair (I a0.1) (.pair (.eq (.slice none 0 0)) (.eq v4))))]
 refine tn ?_
 refine aN (Z:=Value) (α:=(List jp)) (fun z8 x7=>[(2,Pt b2),(3,Pt b6)]) (fun z8 x7=>[.obj b2 25 (.agg (.pair (I 0) (.pair (.eq (.slice none 0 0)) (.eq (.slice none 0 0))))),.obj b6 25 (.agg (.pair (I a0.1) (.pair (.eq z8) (.eq v4)))),.sl z8 27 cg x7,.sl v4 3 (.int .i64) r3]) h (fun K h=>?_) (fun z8 x7 h=>?_)
 ·
  refine sr (cq (nt (aj ?_)));refine fh (SE.nil 27 cg) ?_;refine aK (fun e y9=>[(1,Pt b1),(2,Pt b2),(3,Pt b6),(4,I y9.2)]) (fun e y9=>[.obj b1 25 (.rep aG a0),.obj b2 25 (.agg (.pair (I 0) (.pair (.eq (.slice none 0 0)) (.eq (.slice none 0 0))))),.obj b6 25 (.agg (.pair (I a0.1) (.pair (.eq e) (.eq v4)))),.sl e 27 cg y9.1,.sl v4 3 (.int .i64) r3]) (fm k a0) k (.slice none 0 0) (([]:(List jp)),0) (fun _=>rfl) h (SE.fin [1,2,4,0,3] ⟨rfl,rfl,rfl,rfl,trivial⟩ rfl) (fun n e y9 h=>?_);unfold fm at h;refine ah (sr (mq ?_));refine fl ir ?_;refine lo ot ?_;refine ol Aj ?_;refine jb (bv rfl) ?_;refine nt (ci h (fun h=>?_) (fun h=>?_))
  ·refine sk (ah (aj (cm ?_)));refine da (aw rfl ir) ?_;refine ea 2 (ak rfl ot mr rfl) ?_;refine da (aw rfl ir) ?_;refine ea 0 (ak rfl ot mr rfl) ?_;refine dm ?_;obtain⟨l,x,h⟩:=ab h;refine db (ba (t:=cg) rfl Aj qf x) ?_;refine da (aL 1 false rfl vg rfl) ?_;refine da (au (t:=(.int .i64)) rfl dE rfl) ?_;refine da (aw rfl ir) ?_;refine ea 0 (ak rfl ot mr rfl) ?_;refine dm ?_;obtain⟨F,u,h⟩:=ab h;refine db (ba (t:=cg) rfl Aj qf u) ?_;refine da (aL 1 false rfl sW rfl) ?_;refine da (au (t:=(.slice (.int .i64))) rfl bZ rfl) ?_;obtain⟨j,D,h⟩:=ab h;refine da (Dl (an [.tmp 31] rfl rfl BL rfl (eh k F.2 j D))) ?_;refine db (cT [(0,.tmp 25,_),(1,.tmp 32,_)] rfl D8 vB wX (iE ⟨rfl,rfl,trivial⟩) rfl) ?_;refine da (bF (t:=cg) [(.tmp 33,_)] [(l.1,j)] rfl rfl FG (.cons trivial (.agg (.pair .int .rep)) .nil) rfl rfl) ?_;refine df fg ?_;obtain⟨O,y,h⟩:=ab h;refine fr 3 ?_;refine dQ rfl rfl rfl (cp rfl rfl FG (aE y)) ⟨rfl,rfl,trivial⟩ fun M=>?_;refine fl ir ?_;refine o7 fun o16=>?_;refine fr 3 ?_;refine aZ rfl rfl (aR rfl ot o16 rfl rfl) ⟨rfl,rfl,trivial⟩ ?_;refine ao (aJ (tn (aa (mq ?_))));obtain⟨E,s,h⟩:=ab h;refine jb (bg rfl s) ?_;refine aq (nl ?_);exact jz (M,(y9.1++[(l.1,j)],E)) h [2,3,0,1,4]
  ·refine xa ?_;exact jz (e,y9.1) h [1,2,3,4]
 ·
  refine sr (fr 1 ?_);refine lo i8 ?_;refine fr 1 ?_;refine aZ rfl rfl (aR rfl i8 trivial rfl rfl) ⟨rfl,rfl,trivial⟩ ?_;refine nt (aC (bM (SE.fin (Γ':=[(2,_)]) [2,3,0,1] ⟨rfl,trivial⟩ rfl) ?_));cases h;exact aI (z8,v4) [.agg (.pair (I a0.1) (.pair (.eq z8) (.eq v4)))] 2 ⟨⟨_,_,_,_,_,rfl,(.tail _ (.tail _ (.head _))),i8,(xE),rfl⟩,trivial⟩ rfl
def iO(k:Nat)(a0:cQ):Option (Int×cQ):=
 ((if a0.2.1 < (a0.1.length:Int) then((bf a0.1 a0.2.1).bind fun x3=>
 some (IntKind.u64.wrap ((IntKind.u64.wrap ((IntKind.u64.wrap (a0.2.2 * 6364136223846793005))+1442695040888963407))+(IntKind.u64.wrap ((IntKind.u64.wrap x3) * 2862933555777941757))))) else(some (IntKind.u64.wrap ((IntKind.u64.wrap (a0.2.2 * 6364136223846793005))+1442695040888963407)))):Option (Int)).bind fun x1=>
 (ck (a0.2.1+1)).bind fun x4=>
 some (ic .u64 (qB .u64 (IntKind.u64.wrap ((qB .u64 x1 (ic .u64 x1 29)) * 2685821657736338717)) (ic .u64 (IntKind.u64.wrap ((qB .u64 x1 (ic .u64 x1 29)) * 2685821657736338717)) 32)) 8,(a0.1,x4,x1))
theorem sT(k:Nat)(a0:cQ)(c:Nat)(r:Int×cQ)(h:iO k a0=some r):
 cd Tryz.prog 82 [Pt c] [.obj c 98 (.agg (.pair (Ri a0.1) (.pair (I a0.2.1) (.eq (.int .u64 a0.2.2)))))] (fun _:Unit=>(bu [.eq (.int .u64 r.1)],[.obj c 98 (.agg (.pair (Ri r.2.1) (.pair (I r.2.2.1) (.eq (.int .u64 r.2.2.2)))))])):=by
 unfold iO at h
 replace h:=a8 h
 refine cd.of 67 Tryz.func82 rfl Tryz.ntmps82 rfl fun S w0=>?_
 refine sr ?_
 refine cq ?_
 refine nt ?_
 refine sr ?_
 iterate 2 refine mq ?_
 refine ja (aS rfl) ?_
 refine fl sV ?_
 refine lo DU ?_
 refine jb (Bd rfl) ?_
 refine jb (Be rfl) ?_
 refine ja (aS rfl) ?_
 refine fl sV ?_
 refine aZ rfl rfl (aR rfl DU rfl rfl rfl) ⟨rfl,rfl,trivial⟩ ?_
 refine nt ?_
 refine aN (Z:=Unit) (α:=Int) (fun z2 x1=>[(0,Pt c)]) (fun z2 x1=>[.obj c 98 (.agg (.pair (Ri a0.1) (.pair (I a0.2.1) (.eq (.int .u64 x1)))))]) h (fun K h=>?_) (fun z2 x1 h=>?_)
 ·
  refine ah (cm ?_);refine dm ?_;refine da (aS rfl) ?_;refine da (aw rfl xZ) ?_;refine ea 0 (ak rfl dE mr rfl) ?_;refine dm ?_;refine da (aS rfl) ?_;refine da (aw rfl Ho) ?_;refine ea 0 (ak rfl bZ mr rfl) ?_;refine da (jJ rfl rfl fC) ?_;refine df fg ?_;refine jb (bv rfl) ?_;refine nt (ci h (fun h=>?_) (fun h=>?_))
  ·refine cm ?_;refine dm ?_;refine dm ?_;refine da (aS rfl) ?_;refine da (aw rfl sV) ?_;refine ea 0 (ak rfl DU mr rfl) ?_;refine dm ?_;refine da (aS rfl) ?_;refine da (aw rfl Ho) ?_;refine ea 0 (ak rfl bZ mr rfl) ?_;refine dm ?_;refine da (aS rfl) ?_;refine da (aw rfl xZ) ?_;refine ea 0 (ak rfl dE mr rfl) ?_;obtain⟨x3,j,h⟩:=ab h;refine db (ba (t:=(.int .i64)) rfl fC dE j) ?_;refine da (au (t:=(.int .i64)) rfl dE rfl) ?_;refine da (oC rfl U3 QD) ?_;refine db (Bd rfl) ?_;refine db (Be rfl) ?_;refine df fg ?_;refine ja (aS rfl) ?_;refine fl sV ?_;refine aZ rfl rfl (aR rfl DU rfl rfl rfl) ⟨rfl,rfl,trivial⟩ ?_;refine nl ?_;exact jz ((),IntKind.u64.wrap ((IntKind.u64.wrap ((IntKind.u64.wrap (a0.2.2 * 6364136223846793005))+1442695040888963407))+(IntKind.u64.wrap ((IntKind.u64.wrap x3) * 2862933555777941757)))) h [0]
  ·refine aU (ae ?_);exact jz ((),IntKind.u64.wrap ((IntKind.u64.wrap (a0.2.2 * 6364136223846793005))+1442695040888963407)) h [0]
 ·
  refine sr (mq ?_);refine ja (aS rfl) ?_;refine fl xZ ?_;refine lo dE ?_;obtain⟨x4,e,h⟩:=ab h;refine jb (bg rfl e) ?_;refine ja (aS rfl) ?_;refine fl xZ ?_;refine aZ rfl rfl (aR rfl dE rfl rfl rfl) ⟨rfl,rfl,trivial⟩ ?_;refine nt (ah (cm ?_));refine dm ?_;refine da (aS rfl) ?_;refine da (aw rfl sV) ?_;refine ea 0 (ak rfl DU mr rfl) ?_;refine dm ?_;refine da (aS rfl) ?_;refine da (aw rfl sV) ?_;refine ea 0 (ak rfl DU mr rfl) ?_;refine dp rfl rfl rfl (uL rfl (by decide)) ⟨rfl,rfl,trivial⟩ ?_;refine df fg ?_;refine jb (KT rfl) ?_;refine aq (nt (sr ?_));refine mq ?_;refine jb (Bd rfl) ?_;refine aq (nt (sr ?_));iterate 2 refine mq ?_
  refine aA rfl (uL rfl (by decide)) ⟨rfl,rfl,trivial⟩ ?_;refine jb (KT rfl) ?_;refine aA rfl (uL rfl (by decide)) ⟨rfl,rfl,trivial⟩ ?_;refine aq (nt (aC ?_));cases h;exact aI () [_] 1 ⟨rfl,trivial⟩ rfl
def fJ(k:Nat)(a0:cQ)(a1:Int):Option (Int×cQ):=
 if a1 < 1 then(some (0,(a0.1,a0.2.1,a0.2.2))) else((iO k (a0.1,a0.2.1,a0.2.2)).bind fun r1=>
 (ck (a1+1)).bind fun x2=>
 (eE ((IntKind.u64.wrap x2)≠0)).bind fun _=>
 (ck (Int.tmod r1.1 (IntKind.u64.wrap x2))).bind fun x4=>
 some (x4,(r1.2.1,r1.2.2.1,r1.2.2.2)))
theorem jS(k:Nat)(a0:cQ)(c:Nat)(a1:Int)(r:Int×cQ)(h:fJ k a0 a1=some r):
 cd Tryz.prog 28 [Pt c,I a1] [.obj c 98 (.agg (.pair (Ri a0.1) (.pair (I a0.2.1) (.eq (.int .u64 a0.2.2)))))] (fun _:Unit=>(bu [I r.1],[.obj c 98 (.agg (.pair (Ri r.2.1) (.pair (I r.2.2.1) (.eq (.int .u64 r.2.2.2)))))])):=by
 unfold fJ at h
 replace h:=a8 h
 refine cd.of 14 Tryz.func28 rfl Tryz.ntmps28 rfl fun S w0=>?_
 refine sr ?_
 refine cq ?_
 refine nt ?_
 refine ah ?_
 refine sr ?_
 refine mq ?_
 refine jb (bv rfl) ?_
 refine nt ?_
 refine ci h (fun h=>?_) (fun h=>?_)
 ·
  refine sr (cq (nt (rx ?_)));cases h;exact aI () [_] 1 ⟨rfl,trivial⟩ rfl
 ·
  refine sk (sr (mq ?_));obtain⟨r1,n,h⟩:=ab h;refine ka (an [.tmp 7] rfl rfl Rh rfl (sT k (a0.1,a0.2.1,a0.2.2) c r1 n)) ?_;refine mq ?_;obtain⟨x2,j,h⟩:=ab h;refine jb (bg rfl j) ?_;refine ja (oC rfl U3 QD) ?_;obtain⟨u3,l,h⟩:=ab h;refine jb (Og rfl (aE l)) ?_;obtain⟨x4,e,h⟩:=ab h;refine ja (zd rfl QD U3 e) ?_;refine aq (nt (aC ?_));cases h;exact aI () [_] 1 ⟨rfl,trivial⟩ rfl
def eO(k:Nat)(a0:cQ)(a1:Int)(a2:Int):Option (Int×cQ):=
 (ck (a2 - a1)).bind fun x1=>
 (fJ k (a0.1,a0.2.1,a0.2.2) x1).bind fun r2=>
 (ck (a1+r2.1)).bind fun x3=>
 some (x3,(r2.2.1,r2.2.2.1,r2.2.2.2))
theorem lI(k:Nat)(a0:cQ)(c:Nat)(a1:Int)(a2:Int)(r:Int×cQ)(h:eO k a0 a1 a2=some r):
 cd Tryz.prog 51 [Pt c,I a1,I a2] [.obj c 98 (.agg (.pair (Ri a0.1) (.pair (I a0.2.1) (.eq (.int .u64 a0.2.2)))))] (fun _:Unit=>(bu [I r.1],[.obj c 98 (.agg (.pair (Ri r.2.1) (.pair (I r.2.2.1) (.eq (.int .u64 r.2.2.2)))))])):=by
 unfold eO at h
 replace h:=a8 h
 refine cd.of 14 Tryz.func51 rfl Tryz.ntmps51 rfl fun S w0=>?_
 refine sr ?_
 refine cq ?_
 refine nt ?_
 refine sr ?_
 iterate 4 refine mq ?_
 obtain⟨x1,j,h⟩:=ab h
 refine jb (fN rfl j) ?_
 obtain⟨r2,l,h⟩:=ab h
 have n:=jS k (a0.1,a0.2.1,a0.2.2) c x1 r2 l
 refine kb (an [.tmp 8,.tmp 11] rfl rfl MU rfl n) ?_
 obtain⟨x3,e,h⟩:=ab h
 refine jb (bg rfl e) ?_
 refine aq ?_
 refine nt ?_
 refine aC ?_
 cases h
 exact aI () [_] 1 ⟨rfl,trivial⟩ rfl
def jl(k:Nat)(a0:cQ)(a1:(List Int)):Option (Int×cQ):=
 (ck ((a1.length:Int) - 1)).bind fun x1=>
 (fJ k (a0.1,a0.2.1,a0.2.2) x1).bind fun r2=>
 (bf a1 r2.1).bind fun x3=>
 some (x3,(r2.2.1,r2.2.2.1,r2.2.2.2))
theorem oL(k:Nat)(a0:cQ)(c:Nat)(a1:(List Int))(r:Int×cQ)(h:jl k a0 a1=some r):
 cd Tryz.prog 112 [Pt c,Ri a1] [.obj c 98 (.agg (.pair (Ri a0.1) (.pair (I a0.2.1) (.eq (.int .u64 a0.2.2)))))] (fun _:Unit=>(bu [I r.1],[.obj c 98 (.agg (.pair (Ri r.2.1) (.pair (I r.2.2.1) (.eq (.int .u64 r.2.2.2)))))])):=by
 unfold jl at h
 replace h:=a8 h
 refine cd.of 13 Tryz.func112 rfl Tryz.ntmps112 rfl fun S w0=>?_
 refine sr ?_
 refine cq ?_
 refine nt ?_
 refine sr ?_
 iterate 3 refine mq ?_
 refine ol fC ?_
 obtain⟨x1,j,h⟩:=ab h
 refine jb (fN rfl j) ?_
 obtain⟨r2,l,h⟩:=ab h
 have n:=jS k (a0.1,a0.2.1,a0.2.2) c x1 r2 l
 refine kb (an [.tmp 6,.tmp 9] rfl rfl MU rfl n) ?_
 obtain⟨x3,e,h⟩:=ab h
 refine jb (ba (t:=(.int .i64)) rfl fC dE e) ?_
 refine ja (au (t:=(.int .i64)) rfl dE rfl) ?_
 refine aq ?_
 refine nt ?_
 refine aC ?_
 cases h
 exact aI () [_] 1 ⟨rfl,trivial⟩ rfl
def fK(k:Nat)(a0:cQ)(a1:Int):Option (Bool×cQ):=
 (ck (a1 - 1)).bind fun x1=>
 (fJ k (a0.1,a0.2.1,a0.2.2) x1).bind fun r2=>
 some (decide (r2.1=0),(r2.2.1,r2.2.2.1,r2.2.2.2))
theorem m3(k:Nat)(a0:cQ)(c:Nat)(a1:Int)(r:Bool×cQ)(h:fK k a0 a1=some r):
 cd Tryz.prog 113 [Pt c,I a1] [.obj c 98 (.agg (.pair (Ri a0.1) (.pair (I a0.2.1) (.eq (.int .u64 a0.2.2)))))] (fun _:Unit=>(bu [.eq (.bool r.1)],[.obj c 98 (.agg (.pair (Ri r.2.1) (.pair (I r.2.2.1) (.eq (.int .u64 r.2.2.2)))))])):=by
 unfold fK at h
 replace h:=a8 h
 refine cd.of 10 Tryz.func113 rfl Tryz.ntmps113 rfl fun S w0=>?_
 refine sr ?_
 refine cq ?_
 refine nt ?_
 refine sr ?_
 iterate 2 refine mq ?_
 obtain⟨x1,e,h⟩:=ab h
 refine jb (fN rfl e) ?_
 obtain⟨r2,j,h⟩:=ab h
 have l:=jS k (a0.1,a0.2.1,a0.2.2) c x1 r2 j
 refine kb (an [.tmp 5,.tmp 7] rfl rfl MU rfl l) ?_
 refine jb (ek rfl) ?_
 refine aq ?_
 refine nt ?_
 refine aC ?_
 cases h
 exact aI () [_] 1 ⟨rfl,trivial⟩ rfl
def eM(k:Nat)(r2:Int×cQ):Nat→((List Int)×Int×Int×(List Int)×Int)→Option ((List Int)×Int×Int×(List Int))
 |0,_=>none
 |n+1,c=>
  if c.2.2.2.2 < r2.1 then((((fK k (c.1,c.2.1,c.2.2.1) 2).bind fun e=>
  if e.1=true then((eE (bX (List.length c.2.2.2.1+List.length [c.2.2.2.2]))).bind fun _=>
  some (e.2.1,e.2.2.1,e.2.2.2,c.2.2.2.1++[c.2.2.2.2])) else(some (e.2.1,e.2.2.1,e.2.2.2,c.2.2.2.1))):Option ((List Int)×Int×Int×(List Int))).bind fun h=>
  (ck (c.2.2.2.2+1)).bind fun j=>
  eM k r2 n (h.1,h.2.1,h.2.2.1,h.2.2.2,j)) else(some (c.1,c.2.1,c.2.2.1,c.2.2.2.1))
def eN(k:Nat)(r2:Int×cQ):Nat→((List Int)×Int×Int×(List jp)×Int×Int)→Option ((List Int)×Int×Int×(List jp)×Int)
 |0,_=>none
 |n+1,y7=>
  if 0 < y7.2.2.2.2.2 then((((jl k (y7.1,y7.2.1,y7.2.2.1) [1,1,1,2,3]).bind fun c=>
  ((eM k r2 k (c.2.1,c.2.2.1,c.2.2.2,([]:(List Int)),0)):Option ((List Int)×Int×Int×(List Int))).bind fun e=>
  (eE (bX (List.length y7.2.2.2.1+List.length [(c.1,e.2.2.2)]))).bind fun _=>
  (ck (y7.2.2.2.2.1+c.1)).bind fun j=>
  some (e.1,e.2.1,e.2.2.1,y7.2.2.2.1++[(c.1,e.2.2.2)],j)):Option ((List Int)×Int×Int×(List jp)×Int)).bind fun x9=>
  (ck (y7.2.2.2.2.2 - 1)).bind fun h=>
  eN k r2 n (x9.1,x9.2.1,x9.2.2.1,x9.2.2.2.1,x9.2.2.2.2,h)) else(some (y7.1,y7.2.1,y7.2.2.1,y7.2.2.2.1,y7.2.2.2.2.1))
def eK(k:Nat)(x4:(List Int)×Int×Int×(List jp)×Int):Nat→((List Int)×Int×Int×(List Int)×Int)→Option ((List Int)×Int×Int×(List Int))
 |0,_=>none
 |n+1,c=>
  if 0 < c.2.2.2.2 then((ck (x4.2.2.2.2+1)).bind fun j=>
  (jl k (c.1,c.2.1,c.2.2.1) [1,2,3,pQ 9 x4.2.2.2.2,pQ 9 j]).bind fun e=>
  (eE (bX (List.length c.2.2.2.1+List.length [e.1]))).bind fun _=>
  (ck (c.2.2.2.2 - 1)).bind fun h=>
  eK k x4 n (e.2.1,e.2.2.1,e.2.2.2,c.2.2.2.1++[e.1],h)) else(some (c.1,c.2.1,c.2.2.1,c.2.2.2.1))
def jQ(k:Nat)(a0:cQ)(a1:Int)(a2:Int):Option (bK×cQ):=
 (eO k (a0.1,a0.2.1,a0.2.2) 1 4).bind fun r2=>
 (((eO k (r2.2.1,r2.2.2.1,r2.2.2.2) 0 a1).bind fun r6=>
 eN k r2 k (r6.2.1,r6.2.2.1,r6.2.2.2,([]:(List jp)),0,r6.1)):Option ((List Int)×Int×Int×(List jp)×Int)).bind fun x4=>
 (((eO k (x4.1,x4.2.1,x4.2.2.1) 1 a2).bind fun j=>
 eK k x4 k (j.2.1,j.2.2.1,j.2.2.2,([]:(List Int)),j.1)):Option ((List Int)×Int×Int×(List Int))).bind fun e=>
 (((fK k (e.1,e.2.1,e.2.2.1) 2).bind fun c=>
 if c.1=true then((bf e.2.2.2 0).bind fun l=>
 some (List.set e.2.2.2 (Int.toNat 0) (pQ 9 x4.2.2.2.2),c.2.1,c.2.2.1,c.2.2.2)) else(some (e.2.2.2,c.2.1,c.2.2.1,c.2.2.2))):Option ((List Int)×(List Int)×Int×Int)).bind fun h=>
 some ((r2.1,x4.2.2.2.1,h.1),(h.2.1,h.2.2.1,h.2.2.2))
theorem vS(k:Nat)(a0:cQ)(c:Nat)(a1:Int)(a2:Int)(r:bK×cQ)(h:jQ k a0 a1 a2=some r):
 cd Tryz.prog 49 [Pt c,I a1,I a2] [.obj c 98 (.agg (.pair (Ri a0.1) (.pair (I a0.2.1) (.eq (.int .u64 a0.2.2)))))] (fun _:Unit=>(bu [.rep aG r.1],[.obj c 98 (.agg (.pair (Ri r.2.1) (.pair (I r.2.2.1) (.eq (.int .u64 r.2.2.2)))))])):=by
 unfold jQ at h
 replace h:=a8 h
 refine cd.of 79 Tryz.func49 rfl Tryz.ntmps49 rfl fun S w0=>?_
 refine sr ?_
 refine ay rfl rfl rfl (aP rfl lh nH) trivial fun b1=>?_
 refine nt ?_
 refine sr ?_
 refine mq ?_
 obtain⟨r2,Ti,h⟩:=ab h
 have Tj:=lI k (a0.1,a0.2.1,a0.2.2) c 1 4 r2 Ti
 refine fr 1 ?_
 refine kc (an [.tmp 13,.const (.int .i64 (1)),.const (.int .i64 (4))] rfl rfl MP rfl Tj) ?_
 refine ja (cT [(0,.tmp 14,_)] rfl IJ lh Df (iE ⟨rfl,trivial⟩) rfl) ?_
 refine ay rfl rfl rfl (aP rfl lh nH) trivial fun b3=>?_
 refine aZ rfl rfl (aR rfl i8 trivial rfl rfl) ⟨rfl,rfl,trivial⟩ ?_
 refine nt ?_
 refine sr ?_
 refine cq ?_
 refine nt ?_
 refine aN (Z:=Value) (α:=(List Int)×Int×Int×(List jp)×Int) (fun z5 x4=>[(0,Pt c),(2,I a2),(6,Pt b1),(7,Pt b3),(8,I x4.2.2.2.2)]) (fun z5 x4=>[.obj c 98 (.agg (.pair (Ri x4.1) (.pair (I x4.2.1) (.eq (.int .u64 x4.2.2.1))))),.obj b1 25 (.agg (.pair (I 0) (.pair (.eq (.slice none 0 0)) (.eq (.slice none 0 0))))),.obj b3 25 (.agg (.pair (I r2.1) (.pair (.eq z5) (.eq (.slice none 0 0))))),.sl z5 27 cg x4.2.2.2.1]) h (fun K h=>?_) (fun z5 x4 h=>?_)
 ·
  refine sr ?_;iterate 2 refine mq ?_
  obtain⟨r6,Tf,h⟩:=ab h;refine fr 1 ?_;refine kc (an [.tmp 16,.const (.int .i64 (0)),.tmp 17] rfl rfl MP rfl (lI k (r2.2.1,r2.2.2.1,r2.2.2.2) c 0 a1 r6 Tf)) ?_;refine aq (nt (aj ?_));refine fh (SE.nil 27 cg) ?_;refine aK (fun z8 y7=>[(0,Pt c),(2,I a2),(6,Pt b1),(7,Pt b3),(8,I y7.2.2.2.2.1),(9,I y7.2.2.2.2.2)]) (fun z8 y7=>[.obj c 98 (.agg (.pair (Ri y7.1) (.pair (I y7.2.1) (.eq (.int .u64 y7.2.2.1))))),.obj b1 25 (.agg (.pair (I 0) (.pair (.eq (.slice none 0 0)) (.eq (.slice none 0 0))))),.obj b3 25 (.agg (.pair (I r2.1) (.pair (.eq z8) (.eq (.slice none 0 0))))),.sl z8 27 cg y7.2.2.2.1]) (eN k r2) k (.slice none 0 0) (r6.2.1,r6.2.2.1,r6.2.2.2,([]:(List jp)),0,r6.1) (fun _=>rfl) h (SE.fin [1,3,2,0] ⟨rfl,rfl,rfl,rfl,rfl,rfl,trivial⟩ rfl) (fun n z8 y7 h=>?_);unfold eN at h;refine ah (sr (mq ?_));refine jb (lD rfl) ?_;refine nt (ci h (fun h=>?_) (fun h=>?_))
  ·refine sk (aN (Z:=Value) (α:=(List Int)×Int×Int×(List jp)×Int) (fun X x9=>[(0,Pt c),(2,I a2),(6,Pt b1),(7,Pt b3),(8,I x9.2.2.2.2),(9,I y7.2.2.2.2.2)]) (fun X x9=>[.obj c 98 (.agg (.pair (Ri x9.1) (.pair (I x9.2.1) (.eq (.int .u64 x9.2.2.1))))),.obj b1 25 (.agg (.pair (I 0) (.pair (.eq (.slice none 0 0)) (.eq (.slice none 0 0))))),.obj b3 25 (.agg (.pair (I r2.1) (.pair (.eq X) (.eq (.slice none 0 0))))),.sl X 27 cg x9.2.2.2.1]) h (fun K h=>?_) (fun X x9 h=>?_))
   ·refine aj (sr (mq ?_));refine aA rfl (bF (t:=(.int .i64)) [(.const (.int .i64 (1)),_),(.const (.int .i64 (1)),_),(.const (.int .i64 (1)),_),(.const (.int .i64 (2)),_),(.const (.int .i64 (3)),_)] [1,1,1,2,3] rfl rfl fF (.cons rfl .int (.cons rfl .int (.cons rfl .int (.cons rfl .int (.cons rfl .int .nil))))) rfl rfl) ⟨rfl,rfl,rfl,rfl,rfl,trivial⟩ ?_;obtain⟨s,SN,h⟩:=ab h;refine kb (an [.tmp 23,.tmp 24] rfl rfl K7 rfl (oL k (y7.1,y7.2.1,y7.2.2.1) c [1,1,1,2,3] s SN)) ?_;refine ja (cT [(0,.tmp 25,_)] rfl D8 vB wX (iE ⟨rfl,trivial⟩) rfl) ?_;refine ay rfl rfl rfl (aP rfl vB J3) trivial fun M=>?_;refine aZ rfl rfl (aR rfl qf trivial rfl rfl) ⟨rfl,rfl,trivial⟩ ?_;refine nt (aN (Z:=Value) (α:=(List Int)×Int×Int×(List Int)) (fun ac j=>[(0,Pt c),(2,I a2),(6,Pt b1),(7,Pt b3),(8,I y7.2.2.2.2.1),(9,I y7.2.2.2.2.2),(10,Pt M)]) (fun ac j=>[.obj c 98 (.agg (.pair (Ri j.1) (.pair (I j.2.1) (.eq (.int .u64 j.2.2.1))))),.obj b1 25 (.agg (.pair (I 0) (.pair (.eq (.slice none 0 0)) (.eq (.slice none 0 0))))),.obj b3 25 (.agg (.pair (I r2.1) (.pair (.eq z8) (.eq (.slice none 0 0))))),.sl z8 27 cg y7.2.2.2.1,.obj M 27 (.agg (.pair (I s.1) (.eq ac))),.sl ac 3 (.int .i64) j.2.2.2]) h (fun K h=>?_) (fun ac j h=>?_))
    ·refine sr (cq (nt (aj ?_)));refine fh (SE.nil 3 (.int .i64)) ?_;refine aK (fun Q e=>[(0,Pt c),(2,I a2),(6,Pt b1),(7,Pt b3),(8,I y7.2.2.2.2.1),(9,I y7.2.2.2.2.2),(10,Pt M),(11,I e.2.2.2.2)]) (fun Q e=>[.obj c 98 (.agg (.pair (Ri e.1) (.pair (I e.2.1) (.eq (.int .u64 e.2.2.1))))),.obj b1 25 (.agg (.pair (I 0) (.pair (.eq (.slice none 0 0)) (.eq (.slice none 0 0))))),.obj b3 25 (.agg (.pair (I r2.1) (.pair (.eq z8) (.eq (.slice none 0 0))))),.sl z8 27 cg y7.2.2.2.1,.obj M 27 (.agg (.pair (I s.1) (.eq Q))),.sl Q 3 (.int .i64) e.2.2.2.1]) (eM k r2) k (.slice none 0 0) (s.2.1,s.2.2.1,s.2.2.2,([]:(List Int)),0) (fun _=>rfl) h (SE.fin [2,3,4,5,1,0] ⟨rfl,rfl,rfl,rfl,rfl,rfl,rfl,rfl,trivial⟩ rfl) (fun n Q e h=>?_);unfold eM at h;refine ah (sr (mq ?_));refine fl je ?_;refine fr 2 ?_;refine lo dE ?_;refine jb (bv rfl) ?_;refine nt (ci h (fun h=>?_) (fun h=>?_))
     ·refine sk (aN (Z:=Value) (α:=(List Int)×Int×Int×(List Int)) (fun U x=>[(0,Pt c),(2,I a2),(6,Pt b1),(7,Pt b3),(8,I y7.2.2.2.2.1),(9,I y7.2.2.2.2.2),(10,Pt M),(11,I e.2.2.2.2)]) (fun U x=>[.obj c 98 (.agg (.pair (Ri x.1) (.pair (I x.2.1) (.eq (.int .u64 x.2.2.1))))),.obj b1 25 (.agg (.pair (I 0) (.pair (.eq (.slice none 0 0)) (.eq (.slice none 0 0))))),.obj b3 25 (.agg (.pair (I r2.1) (.pair (.eq z8) (.eq (.slice none 0 0))))),.sl z8 27 cg y7.2.2.2.1,.obj M 27 (.agg (.pair (I s.1) (.eq U))),.sl U 3 (.int .i64) x.2.2.2]) h (fun K h=>?_) (fun U x h=>?_))
      ·refine aj (sr (mq ?_));obtain⟨J,SL,h⟩:=ab h;refine fr 1 ?_;refine kb (an [.tmp 33,.const (.int .i64 (2))] rfl rfl K6 rfl (m3 k (e.1,e.2.1,e.2.2.1) c 2 J SL)) ?_;refine nt (cv h (fun h=>?_) (fun h=>?_))
       ·refine aa (fl sW ?_);refine fr 4 ?_;refine lo bZ ?_;refine mq ?_;refine ja (bF (t:=(.int .i64)) [(.tmp 37,_)] [e.2.2.2.2] rfl rfl fF (.cons rfl .int .nil) rfl rfl) ?_;obtain⟨TJ,SH,h⟩:=ab h;refine fr 5 ?_;refine dQ rfl rfl rfl (cp rfl rfl fF (aE SH)) ⟨rfl,rfl,trivial⟩ fun SV=>?_;refine fl sW ?_;refine o7 fun o22=>?_;refine fr 1 ?_;refine aZ rfl rfl (aR rfl bZ o22 rfl rfl) ⟨rfl,rfl,trivial⟩ ?_;refine ao (bn ?_);exact jz (SV,(J.2.1,J.2.2.1,J.2.2.2,e.2.2.2.1++[e.2.2.2.2])) h [2,4,3,5,0,1]
       ·refine aU (bn ?_);exact jz (Q,(J.2.1,J.2.2.1,J.2.2.2,e.2.2.2.1)) h [0,2,1,3,4,5]
      ·refine aa (mq ?_);obtain⟨SS,SC,h⟩:=ab h;refine jb (bg rfl SC) ?_;refine aq (nl ?_);exact jz (U,(x.1,x.2.1,x.2.2.1,x.2.2.2,SS)) h [0,1,2,3,4,5]
     ·refine xa ?_;exact jz (Q,(e.1,e.2.1,e.2.2.1,e.2.2.2.1)) h [1,2,0,3,4,5]
    ·refine c9 4 rfl ?_;refine c9 5 rfl ?_;refine fh (lN (off:=1) [] trivial rfl rfl) ?_;refine lP ?_;refine bV rfl rfl rfl (aw rfl ir) ⟨rfl,trivial⟩ ?_;refine gd 3 rfl rfl rfl rfl (ak rfl ot mr rfl) ⟨rfl,trivial⟩ ?_;refine gd 0 rfl rfl rfl rfl (ak rfl qf (xE) rfl) ⟨rfl,trivial⟩ ?_;refine bV rfl rfl rfl (bF (t:=cg) [(.tmp 43,_)] [(s.1,j.2.2.2)] rfl rfl FG (.cons trivial (.agg (.pair .int .rep)) .nil) rfl rfl) ⟨rfl,trivial⟩ ?_;obtain⟨TG,SG,h⟩:=ab h;refine Ih 4 rfl (fun v=>[.sl v 27 cg (y7.2.2.2.1++[(s.1,j.2.2.2)])]) (fun _=>rfl) rfl rfl rfl (cp rfl rfl FG (aE SG)) ⟨rfl,rfl,trivial⟩ ?_;refine bV rfl rfl rfl (bz rfl) ⟨rfl,trivial⟩ ?_;refine bV rfl rfl rfl (aw rfl vg) ⟨rfl,trivial⟩ ?_;refine gd 0 rfl rfl rfl rfl (ak rfl dE mr rfl) ⟨rfl,trivial⟩ ?_;obtain⟨SR,SB,h⟩:=ab h;refine bV rfl rfl rfl (bg rfl SB) ⟨rfl,rfl,trivial⟩ ?_;refine bV rfl rfl rfl (aw rfl ir) ⟨rfl,trivial⟩ ?_;refine qL 10 [true,true,true,true,true,false,false,false,false,true] [] [0] [.obj M 27 (.agg (.pair (I s.1) (Ri j.2.2.2)))] rfl (by kernel_rfl) (by kernel_rfl) (by kernel_rfl) fg (fun vs hv hB=>?_);obtain⟨w0,TD,rfl,Td⟩:=aD hv;obtain⟨w1,TC,rfl,Ta⟩:=aD Td;obtain⟨w2,TB,rfl,S9⟩:=aD Ta;obtain⟨w3,TA,rfl,S8⟩:=aD S9;obtain⟨se,Tz,rfl,S7⟩:=aD S8;obtain⟨w5,Tv,rfl,S5⟩:=aD S7;obtain⟨w6,Tu,rfl,SZ⟩:=aD S5;obtain⟨w7,Tt,rfl,SY⟩:=aD SZ;obtain⟨w8,To,rfl,SX⟩:=aD SY;obtain⟨w9,Tm,rfl,Su⟩:=aD SX;obtain rfl:=nz Su;refine⟨[0,1,2,3,4],[.obj c 98 (.agg (.pair (Ri j.1) (.pair (I j.2.1) (.eq (.int .u64 j.2.2.1))))),.obj b1 25 (.agg (.pair (I 0) (.pair (.eq (.slice none 0 0)) (.eq (.slice none 0 0))))),.obj b3 25 (.agg (.pair (I r2.1) (.pair (.eq z8) (.eq (.slice none 0 0))))),.sl se 27 cg (y7.2.2.2.1++[(s.1,j.2.2.2)])],by kernel_rfl,by decide,?_⟩;refine rT 3 rfl ?_;refine Nv fun o27=>?_;refine rT 3 rfl ?_;refine qJ rfl rfl (aR rfl ot o27 rfl rfl) ⟨rfl,rfl,trivial⟩ (by kernel_rfl) ?_;refine H7 (by kernel_rfl) ?_;refine aq (ao (bn ?_));exact jz (se,(j.1,j.2.1,j.2.2.1,y7.2.2.2.1++[(s.1,j.2.2.2)],SR)) h [3,4,1,2]
   ·refine aa (mq ?_);obtain⟨SQ,SA,h⟩:=ab h;refine jb (fN rfl SA) ?_;refine aq (nl ?_);exact jz (X,(x9.1,x9.2.1,x9.2.2.1,x9.2.2.2.1,x9.2.2.2.2,SQ)) h [0,1,2,3]
  ·refine xa ?_;exact jz (z8,(y7.1,y7.2.1,y7.2.2.1,y7.2.2.2.1,y7.2.2.2.2.1)) h [0,1,2,3]
 ·
  refine aN (Z:=Value) (α:=(List Int)×Int×Int×(List Int)) (fun O u=>[(0,Pt c),(6,Pt b1),(7,Pt b3),(8,I x4.2.2.2.2)]) (fun O u=>[.obj c 98 (.agg (.pair (Ri u.1) (.pair (I u.2.1) (.eq (.int .u64 u.2.2.1))))),.obj b1 25 (.agg (.pair (I 0) (.pair (.eq (.slice none 0 0)) (.eq (.slice none 0 0))))),.obj b3 25 (.agg (.pair (I r2.1) (.pair (.eq z5) (.eq O)))),.sl z5 27 cg x4.2.2.2.1,.sl O 3 (.int .i64) u.2.2.2]) h (fun K h=>?_) (fun O u h=>?_)
  ·refine sr ?_;iterate 2 refine mq ?_
   obtain⟨Y,SK,h⟩:=ab h;refine kc (an [.tmp 51,.const (.int .i64 (1)),.tmp 52] rfl rfl MP rfl (lI k (x4.1,x4.2.1,x4.2.2.1) c 1 a2 Y SK)) ?_;refine aq (nt (aj ?_));refine fh (SE.nil 3 (.int .i64)) ?_;refine aK (fun E l=>[(0,Pt c),(6,Pt b1),(7,Pt b3),(8,I x4.2.2.2.2),(12,I l.2.2.2.2)]) (fun E l=>[.obj c 98 (.agg (.pair (Ri l.1) (.pair (I l.2.1) (.eq (.int .u64 l.2.2.1))))),.obj b1 25 (.agg (.pair (I 0) (.pair (.eq (.slice none 0 0)) (.eq (.slice none 0 0))))),.obj b3 25 (.agg (.pair (I r2.1) (.pair (.eq z5) (.eq E)))),.sl z5 27 cg x4.2.2.2.1,.sl E 3 (.int .i64) l.2.2.2.1]) (eK k x4) k (.slice none 0 0) (Y.2.1,Y.2.2.1,Y.2.2.2,([]:(List Int)),Y.1) (fun _=>rfl) h (SE.fin [1,2,3,4,0] ⟨rfl,rfl,rfl,rfl,rfl,trivial⟩ rfl) (fun n E l h=>?_);unfold eK at h;refine ah (sr (mq ?_));refine jb (lD rfl) ?_;refine nt (ci h (fun h=>?_) (fun h=>?_))
   ·refine sk (ah (aj (cm ?_)));refine da (aw rfl eV) ?_;refine ea 2 (ak rfl bZ mr rfl) ?_;refine dm ?_;refine dm ?_;refine db (F6 rfl rfl) ?_;refine dm ?_;obtain⟨qt,Sz,h⟩:=ab h;refine db (bg rfl Sz) ?_;refine db (F6 rfl rfl) ?_;refine dp rfl rfl rfl (bF (t:=(.int .i64)) [(.const (.int .i64 (1)),_),(.const (.int .i64 (2)),_),(.const (.int .i64 (3)),_),(.tmp 62,_),(.tmp 65,_)] [1,2,3,pQ 9 x4.2.2.2.2,pQ 9 qt] rfl rfl fF (.cons rfl .int (.cons rfl .int (.cons rfl .int (.cons rfl .int (.cons rfl .int .nil))))) rfl rfl) ⟨rfl,rfl,rfl,rfl,rfl,trivial⟩ ?_;obtain⟨D,SJ,h⟩:=ab h;refine Kx 0 rfl rfl rfl rfl (an [.tmp 60,.tmp 66] rfl rfl K7 rfl (oL k (l.1,l.2.1,l.2.2.1) c [1,2,3,pQ 9 x4.2.2.2.2,pQ 9 qt] D SJ)) ⟨rfl,rfl,trivial⟩ ?_;refine da (bF (t:=(.int .i64)) [(.tmp 67,_)] [D.1] rfl rfl fF (.cons rfl .int .nil) rfl rfl) ?_;refine Kz (Δ':=[.obj b1 25 (.agg (.pair (I 0) (.pair (.eq (.slice none 0 0)) (.eq (.slice none 0 0))))),.obj b3 25 (.agg (.pair (I r2.1) (.pair (.eq z5) (.eq E)))),.sl z5 27 cg x4.2.2.2.1,.sl E 3 (.int .i64) l.2.2.2.1,.obj c 98 (.agg (.pair (Ri D.2.1) (.pair (I D.2.2.1) (.eq (.int .u64 D.2.2.2)))))]) (by kernel_rfl) fg (by kernel_rfl) ?_;obtain⟨TF,SD,h⟩:=ab h;refine fr 3 ?_;refine dQ rfl rfl rfl (cp rfl rfl fF (aE SD)) ⟨rfl,rfl,trivial⟩ fun SU=>?_;refine fl eV ?_;refine o7 fun o38=>?_;refine fr 2 ?_;refine aZ rfl rfl (aR rfl bZ o38 rfl rfl) ⟨rfl,rfl,trivial⟩ ?_;refine ao (aJ (tn (aa (mq ?_))));obtain⟨SO,Sv,h⟩:=ab h;refine jb (fN rfl Sv) ?_;refine aq (nl ?_);exact jz (SU,(D.2.1,D.2.2.1,D.2.2.2,l.2.2.2.1++[D.1],SO)) h [4,2,0,3,1]
   ·refine xa ?_;exact jz (E,(l.1,l.2.1,l.2.2.1,l.2.2.2.1)) h [0,1,2,3,4]
  ·refine aN (Z:=Unit) (α:=(List Int)×(List Int)×Int×Int) (fun pp y=>[(6,Pt b1),(7,Pt b3)]) (fun pp y=>[.obj b1 25 (.agg (.pair (I 0) (.pair (.eq (.slice none 0 0)) (.eq (.slice none 0 0))))),.obj b3 25 (.agg (.pair (I r2.1) (.pair (.eq z5) (.eq O)))),.sl z5 27 cg x4.2.2.2.1,.sl O 3 (.int .i64) y.1,.obj c 98 (.agg (.pair (Ri y.2.1) (.pair (I y.2.2.1) (.eq (.int .u64 y.2.2.2)))))]) h (fun K h=>?_) (fun pp y h=>?_)
   ·refine sr (mq ?_);obtain⟨F,SI,h⟩:=ab h;refine kb (an [.tmp 71,.const (.int .i64 (2))] rfl rfl K6 rfl (m3 k (u.1,u.2.1,u.2.2.1) c 2 F SI)) ?_;refine nt (cv h (fun h=>?_) (fun h=>?_))
    ·refine aa (fl eV ?_);refine fr 2 ?_;refine lo bZ ?_;refine mq ?_;refine jb (F6 rfl rfl) ?_;obtain⟨Tn,mc,h⟩:=ab h;refine fr 4 ?_;refine kb (bp (t:=(.int .i64)) rfl fC dE mc) ?_;refine aZ rfl rfl (eJ (i:=Int.toNat 0) rfl dE rfl (mf mc) rfl .int rfl) ⟨rfl,rfl,trivial⟩ ?_;refine nl ?_;exact jz ((),(List.set u.2.2.2 (Int.toNat 0) (pQ 9 x4.2.2.2.2),F.2.1,F.2.2.1,F.2.2.2)) h [3,1,4,0,2]
    ·refine aU (ae ?_);exact jz ((),(u.2.2.2,F.2.1,F.2.2.1,F.2.2.2)) h [1,2,3,4,0]
   ·refine sr (fr 1 ?_);refine fr 2 ?_;refine cI (lN (off:=1) [] trivial rfl rfl) ?_;refine fr 2 ?_;refine cI (lN (off:=2) [] trivial rfl rfl) ?_;refine lo i8 ?_;refine fr 1 ?_;refine aZ rfl rfl (aR rfl i8 trivial rfl rfl) ⟨rfl,rfl,trivial⟩ ?_;refine nt (aC (bM (nJ (a:=.agg (.pair (I r2.1) (.pair (Rs cg x4.2.2.2.1) (Ri y.1)))) (a':=.rep aG (r2.1,x4.2.2.2.1,y.1)) (vA (.agg (.pair .int (.pair .rep .rep))))) ?_));refine bM (SE.fin (Γ':=[(6,_)]) [2,0,1] ⟨rfl,trivial⟩ rfl) ?_;cases h;exact aI () [.rep aG (r2.1,x4.2.2.2.1,y.1)] 1 ⟨⟨_,_,_,_,_,rfl,(.tail _ (.head _)),i8,(xE),rfl⟩,trivial⟩ rfl
def jm(k:Nat)(a0:(List Int))(a1:Int):Nat→Int→Option (Except Int Unit)
 |0,_=>none
 |n+1,y3=>
  if y3 < (a0.length:Int) then((bf a0 y3).bind fun x5=>
  if x5=a1 then(some (.error y3)) else((ck (y3+1)).bind fun x6=>
  jm k a0 a1 n x6)) else(some (.ok ()))
def uW(k:Nat)(a0:(List Int))(a1:Int):Option Int:=
 bE (α:=Unit) (jm k a0 a1 k 0) (some) fun _=>
 some (-1:Int)
theorem Es(k:Nat)(a0:(List Int))(a1:Int)(r:Int)(h:uW k a0 a1=some r):
 cd Tryz.prog 45 [Ri a0,I a1] [] (fun _:Unit=>(bu [I r],[])):=by
 unfold uW at h
 replace h:=a8 h
 refine cd.of 19 Tryz.func45 rfl Tryz.ntmps45 rfl fun S w0=>?_
 refine sr ?_
 refine cq ?_
 refine nt ?_
 refine fA (Z:=Unit) (α:=Unit) (fun z2 x1=>[]) (fun z2 x1=>[]) (fun e=>e=r) h (fun e h=>Option.some.inj h) (fun K hR h=>?_) (fun z2 x1 h=>?_)
 ·
  refine sr (cq (nt (aj ?_)));refine aK (fun z4 y3=>[(0,Ri a0),(1,I a1),(5,I y3)]) (fun z4 y3=>[]) (jm k a0 a1) k () 0 (fun _=>rfl) h (SE.fin [] ⟨rfl,rfl,rfl,trivial⟩ rfl) (fun n z4 y3 h=>?_);unfold jm at h;refine ah (sr ?_);iterate 2 refine mq ?_
  refine ol fC ?_;refine jb (bv rfl) ?_;refine nt (ci h (fun h=>?_) (fun h=>?_))
  ·refine sk (ah (aj (sr ?_)));iterate 2 refine mq ?_
   obtain⟨x5,j,h⟩:=ab h;refine jb (ba (t:=(.int .i64)) rfl fC dE j) ?_;refine ja (au (t:=(.int .i64)) rfl dE rfl) ?_;refine mq ?_;refine jb (ek rfl) ?_;refine nt (ci h (fun h=>?_) (fun h=>?_))
   ·refine sr (mq ?_);refine aq (nt (aC (br (bC (aX ?_)))));obtain rfl:=hR _ h;exact ra
   ·refine aU (aJ (tn (aa (mq ?_))));obtain⟨x6,c,h⟩:=ab h;refine jb (bg rfl c) ?_;refine aq (nl ?_);exact jz ((),x6) h []
  ·refine xa ?_;exact jz ((),()) h []
 ·
  refine sr (cq (nt (aC ?_)));cases h;exact ra
def me(k:Nat)(a0:(List Int))(a1:(List Int)):Nat→Int→Option (Except Bool Unit)
 |0,_=>none
 |n+1,y3=>
  ((if y3 < (a0.length:Int) then(some (decide (y3 < (a1.length:Int)))) else(some false)):Option (Bool)).bind fun x5=>
  if x5=true then((bf a0 y3).bind fun x7=>
  (bf a1 y3).bind fun x8=>
  if¬(x7=x8) then((bf a0 y3).bind fun x9=>
  (bf a1 y3).bind fun e=>
  some (.error (decide (x9 < e)))) else((ck (y3+1)).bind fun c=>
  me k a0 a1 n c)) else(some (.ok ()))
def uV(k:Nat)(a0:(List Int))(a1:(List Int)):Option Bool:=
 bE (α:=Unit) (me k a0 a1 k 0) (some) fun _=>
 some (decide ((a0.length:Int) < (a1.length:Int)))
theorem zF(k:Nat)(a0:(List Int))(a1:(List Int))(r:Bool)(h:uV k a0 a1=some r):
 cd Tryz.prog 118 [Ri a0,Ri a1] [] (fun _:Unit=>(bu [.eq (.bool r)],[])):=by
 unfold uV at h
 replace h:=a8 h
 refine cd.of 41 Tryz.func118 rfl Tryz.ntmps118 rfl fun S w0=>?_
 refine sr ?_
 refine cq ?_
 refine nt ?_
 refine fA (Z:=Unit) (α:=Unit) (fun z2 x1=>[(0,Ri a0),(1,Ri a1)]) (fun z2 x1=>[]) (fun e=>e=r) h (fun e h=>Option.some.inj h) (fun K hR h=>?_) (fun z2 x1 h=>?_)
 ·
  refine sr (cq (nt (aj ?_)));refine aK (fun z4 y3=>[(0,Ri a0),(1,Ri a1),(5,I y3)]) (fun z4 y3=>[]) (me k a0 a1) k () 0 (fun _=>rfl) h (SE.fin [] ⟨rfl,rfl,rfl,trivial⟩ rfl) (fun n z4 y3 h=>?_);unfold me at h;refine ah (aN (Z:=Unit) (α:=Bool) (fun z6 x5=>[(0,Ri a0),(1,Ri a1),(5,I y3),(15,.eq (.bool x5))]) (fun z6 x5=>[]) h (fun K h=>?_) (fun z6 x5 h=>?_))
  ·refine aa ?_;iterate 2 refine mq ?_
   refine ol fC ?_;refine jb (bv rfl) ?_;refine mq ?_;refine bQ (s:=10) rfl (fun hb=>?_) (fun hb=>?_)
   ·replace h:=ct (m8 hb) h;refine gm ?_;refine gm ?_;refine ga (jJ rfl rfl fC) ?_;refine gb (bv rfl) ?_;refine pt (nl ?_);exact jz ((),decide (y3 < (a1.length:Int))) h []
   ·replace h:=bL (mz hb) h;iterate 4 refine gn ?_
    refine pf (nl ?_);exact jz ((),false) h []
  ·refine cv h (fun h=>?_) (fun h=>?_)
   ·refine sk (ah (aj (ah (cm ?_))));refine dm ?_;refine dm ?_;obtain⟨x7,y,h⟩:=ab h;refine db (ba (t:=(.int .i64)) rfl fC dE y) ?_;refine da (au (t:=(.int .i64)) rfl dE rfl) ?_;refine dm ?_;refine dm ?_;obtain⟨x8,x,h⟩:=ab h;refine db (ba (t:=(.int .i64)) rfl fC dE x) ?_;refine da (au (t:=(.int .i64)) rfl dE rfl) ?_;refine df fg ?_;refine jb (iN rfl) ?_;refine nt (cn h (fun h=>?_) (fun h=>?_))
    ·refine ah (cm ?_);refine dm ?_;refine dm ?_;obtain⟨x9,u,h⟩:=ab h;refine db (ba (t:=(.int .i64)) rfl fC dE u) ?_;refine da (au (t:=(.int .i64)) rfl dE rfl) ?_;refine dm ?_;refine dm ?_;obtain⟨D,j,h⟩:=ab h;refine db (ba (t:=(.int .i64)) rfl fC dE j) ?_;refine da (au (t:=(.int .i64)) rfl dE rfl) ?_;refine df fg ?_;refine jb (bv rfl) ?_;refine aq (nt (aC (br (bC (aX ?_)))));obtain rfl:=hR _ h;exact ra
    ·refine aU (aJ (tn (aa (mq ?_))));obtain⟨l,c,h⟩:=ab h;refine jb (bg rfl c) ?_;refine aq (nl ?_);exact jz ((),l) h []
   ·refine xa ?_;exact jz ((),()) h []
 ·
  refine sr (mq ?_);refine ol fC ?_;refine mq ?_;refine ol fC ?_;refine jb (bv rfl) ?_;refine aq (nt (aC ?_));cases h;exact ra
def oU(k:Nat)(a0:Int)(a1:Int):Option Int:=
 (k7 k a0).bind fun r1=>
 (k7 k a1).bind fun r2=>
 if r1=true then(if r2=true then(some 0) else(some (-1:Int))) else(if r2=true then(some 1) else(if a0 < a1 then(some (-1:Int)) else(if a1 < a0 then(some 1) else(some 0))))
theorem vp(k:Nat)(a0:Int)(a1:Int)(r:Int)(h:oU k a0 a1=some r):
 cd Tryz.prog 155 [I a0,I a1] [] (fun _:Unit=>(bu [I r],[])):=by
 unfold oU at h
 replace h:=a8 h
 refine cd.of 20 Tryz.func155 rfl Tryz.ntmps155 rfl fun S w0=>?_
 refine sr ?_
 refine cq ?_
 refine nt ?_
 refine sr ?_
 refine mq ?_
 obtain⟨r1,e,h⟩:=ab h
 have l:=kR k a0 r1 e
 refine ja (an [.tmp 7] rfl rfl C6 rfl l) ?_
 refine aq ?_
 refine nt ?_
 refine sr ?_
 refine mq ?_
 obtain⟨r2,c,h⟩:=ab h
 have j:=kR k a1 r2 c
 refine ja (an [.tmp 9] rfl rfl C6 rfl j) ?_
 refine aq ?_
 refine nt ?_
 refine ah ?_
 refine sr ?_
 refine mq ?_
 refine nt ?_
 refine cv h (fun h=>?_) (fun h=>?_)
 ·
  refine ah (sr (mq (nt ?_)));refine cv h (fun h=>?_) (fun h=>?_)
  ·refine sr (cq (nt (rx (aX ?_))));cases h;exact ra
  ·refine sk (sr (cq (nt (rx ?_))));cases h;exact ra
 ·
  refine sk (ah (sr (mq (nt ?_))));refine cv h (fun h=>?_) (fun h=>?_)
  ·refine sr (cq (nt (rx ?_)));cases h;exact ra
  ·refine sk (ah (sr ?_));iterate 2 refine mq ?_
   refine jb (bv rfl) ?_;refine nt (ci h (fun h=>?_) (fun h=>?_))
   ·refine sr (cq (nt (rx ?_)));cases h;exact ra
   ·refine sk (ah (sr ?_));iterate 2 refine mq ?_
    refine jb (lD rfl) ?_;refine nt (ci h (fun h=>?_) (fun h=>?_))
    ·refine sr (cq (nt (rx ?_)));cases h;exact ra
    ·refine sk (sr (cq (nt (aC ?_))));cases h;exact ra
def gx(k:Nat)(a0:(List Int))(a1:(List Int)):Nat→Int→Option (Except Int Unit)
 |0,_=>none
 |n+1,y3=>
  if y3 < (a0.length:Int) then((bf a0 y3).bind fun x5=>
  if(a1.length:Int)≤y3 then(some (.error 1)) else((bf a1 y3).bind fun x6=>
  (oU k x5 x6).bind fun r7=>
  if¬(r7=0) then(some (.error r7)) else((ck (y3+1)).bind fun x8=>
  gx k a0 a1 n x8))) else(some (.ok ()))
def dt(k:Nat)(a0:(List Int))(a1:(List Int)):Option Int:=
 bE (α:=Unit) (gx k a0 a1 k 0) (some) fun _=>
 if(a0.length:Int) < (a1.length:Int) then(some (-1:Int)) else(some 0)
theorem qj(k:Nat)(a0:(List Int))(a1:(List Int))(r:Int)(h:dt k a0 a1=some r):
 cd Tryz.prog 124 [Ri a0,Ri a1] [] (fun _:Unit=>(bu [I r],[])):=by
 unfold dt at h
 replace h:=a8 h
 refine cd.of 36 Tryz.func124 rfl Tryz.ntmps124 rfl fun S w0=>?_
 refine sr ?_
 refine cq ?_
 refine nt ?_
 refine fA (Z:=Unit) (α:=Unit) (fun z2 x1=>[(0,Ri a0),(1,Ri a1)]) (fun z2 x1=>[]) (fun e=>e=r) h (fun e h=>Option.some.inj h) (fun K hR h=>?_) (fun z2 x1 h=>?_)
 ·
  refine sr (mq ?_);refine ol fC ?_;refine dX rfl ?_;refine nt (aj (aK (fun z4 y3=>[(0,Ri a0),(1,Ri a1),(9,Ri a0),(10,I (a0.length:Int)),(11,I y3)]) (fun z4 y3=>[]) (gx k a0 a1) k () 0 (fun _=>rfl) h (SE.fin [] ⟨rfl,rfl,rfl,rfl,rfl,trivial⟩ rfl) (fun n z4 y3 h=>?_)));unfold gx at h;refine sr (jb (bv rfl) ?_);refine nt (ah (ci h (fun h=>?_) (fun h=>?_)))
  ·refine sk (ah (aj (sr (mq ?_))));obtain⟨x5,l,h⟩:=ab h;refine jb (ba (t:=(.int .i64)) rfl fC dE l) ?_;refine ja (au (t:=(.int .i64)) rfl dE rfl) ?_;refine aq ?_;refine aq (nt (ah (sr ?_)));iterate 2 refine mq ?_
   refine ol fC ?_;refine jb (pT rfl) ?_;refine nt (ci h (fun h=>?_) (fun h=>?_))
   ·refine sr (cq (nt (rx (br (bC (aX ?_))))));obtain rfl:=hR _ h;exact ra
   ·refine sk (sr ?_);iterate 2 refine mq ?_
    obtain⟨x6,j,h⟩:=ab h;refine jb (ba (t:=(.int .i64)) rfl fC dE j) ?_;refine ja (au (t:=(.int .i64)) rfl dE rfl) ?_;refine aq (nt (sr ?_));iterate 2 refine mq ?_
    obtain⟨r7,s,h⟩:=ab h;refine jb (an [.tmp 24,.tmp 25] rfl rfl PI rfl (vp k x5 x6 r7 s)) ?_;refine aq (nt (sr ?_));refine mq ?_;refine jb (iN rfl) ?_;refine nt (cn h (fun h=>?_) (fun h=>?_))
    ·refine sr (mq ?_);refine aq (nt (aC (br (bC (aX ?_)))));obtain rfl:=hR _ h;exact ra
    ·refine aU (aJ (tn (aa ?_)));obtain⟨x8,c,h⟩:=ab h;refine jb (bg rfl c) ?_;refine mq (nl ?_);exact jz ((),x8) h []
  ·refine xa ?_;exact jz ((),()) h []
 ·
  refine ah (sr (mq ?_));refine ol fC ?_;refine mq ?_;refine ol fC ?_;refine jb (bv rfl) ?_;refine nt (ci h (fun h=>?_) (fun h=>?_))
  ·refine sr (cq (nt (rx ?_)));cases h;exact ra
  ·refine sk (sr (cq (nt (aC ?_))));cases h;exact ra
def kP(k:Nat)(y4:(List (List Int))×Int)(r9:(List (List Int))):Nat→((List (List Int))×Int)→Option (List (List Int))
 |0,_=>none
 |n+1,c=>
  if c.2 < (r9.length:Int) then((bf r9 c.2).bind fun e=>
  (eE (bX (List.length e+List.length [y4.2]))).bind fun _=>
  (eE (bX (List.length c.1+List.length [e++[y4.2]]))).bind fun _=>
  (ck (c.2+1)).bind fun h=>
  kP k y4 r9 n (c.1++[e++[y4.2]],h)) else(some c.1)
def kQ(k:Nat)(a0:Int)(a1:Int)(self:Int→Int→Option ((List (List Int)))):Nat→((List (List Int))×Int)→Option (List (List Int))
 |0,_=>none
 |n+1,y4=>
  if y4.2 < a0 then((((ck (a1 - 1)).bind fun x8=>
  (self y4.2 x8).bind fun r9=>
  kP k y4 r9 k (y4.1,0)):Option ((List (List Int)))).bind fun x6=>
  (ck (y4.2+1)).bind fun c=>
  kQ k a0 a1 self n (x6,c)) else(some y4.1)
def kN(k:Nat):Nat→((List (List Int))×Int)→Option (List (List Int))
 |0,_=>none
 |n+1,c=>
  ((if 0 < c.2 then((bf c.1 c.2).bind fun x=>
  (ck (c.2 - 1)).bind fun u=>
  (bf c.1 u).bind fun s=>
  (uV k x s).bind fun D=>
  some D) else(some false)):Option (Bool)).bind fun y=>
  if y=true then((ck (c.2 - 1)).bind fun h=>
  (ck (c.2 - 1)).bind fun r=>
  (bf c.1 r).bind fun e=>
  (bf c.1 c.2).bind fun l=>
  (bf c.1 c.2).bind fun F=>
  (bf (List.set c.1 (Int.toNat c.2) e) h).bind fun E=>
  (ck (c.2 - 1)).bind fun j=>
  kN k n (List.set (List.set c.1 (Int.toNat c.2) e) (Int.toNat h) l,j)) else(some c.1)
def kO(k:Nat):Nat→((List (List Int))×Int)→Option (List (List Int))
 |0,_=>none
 |n+1,c=>
  if c.2 < (c.1.length:Int) then(((kN k k (c.1,c.2)):Option ((List (List Int)))).bind fun h=>
  (ck (c.2+1)).bind fun e=>
  kO k n (h,e)) else(some c.1)
def jk(k:Nat):Nat→Int→Int→Option ((List (List Int)))
 |0,_,_=>none
 |m0+1,a0,a1=>
  if a1=0 then(some [[]]) else((((ck (a1 - 1)).bind fun x3=>
  kQ k a0 a1 (jk k m0) k (([]:(List (List Int))),x3)):Option ((List (List Int)))).bind fun x1=>
  ((kO k k (x1,1)):Option ((List (List Int)))).bind fun c=>
  some c)
theorem vT(k:Nat):
 ∀(n:Nat) (a0:Int) (a1:Int) (r:(List (List Int))),jk k n a0 a1=some r→cd Tryz.prog 77 [I a0,I a1] ([]) (fun z:Value×(Nat→Value)=>(bu [.eq z.1],.sl z.1 23 .val (dx z.2 0 r)::fM z.2 0 r)):=by
 intro n
 induction n with
 |zero=>intro a0 a1 r h;cases h
 |succ m0 ih=>
  intro a0 a1 r h;rw [jk] at h;replace h:=a8 h;refine cd.of 81 Tryz.func77 rfl Tryz.ntmps77 rfl fun S w0=>?_;refine sr (cq (nt (ah (sr ?_))));refine mq ?_;refine jb (ek rfl) ?_;refine nt (ci h (fun h=>?_) (fun h=>?_))
  ·refine sr (ay rfl rfl rfl (nu (t:=.val) [(.const (.slice none 0 0),.eq (.slice none 0 0))] [.slice none 0 0] rfl rfl su (.cons rfl (.val rfl) .nil) rfl rfl) ⟨rfl,trivial⟩ fun v1=>?_);refine aq (nt (rx ?_));refine bM (SE.nil 3 (.int .i64)) ?_;refine bM (f7 (List.Perm.swap _ _ _)) ?_;cases h;exact gK (v1,fun _=>.slice none 0 0) [_] ⟨rfl,trivial⟩ rfl
  ·refine sk (sr (cq (nt ?_)));refine aN (Z:=Value×(Nat→Value)) (α:=(List (List Int))) (fun z2 x1=>[(5,.eq z2.1)]) (fun z2 x1=>.sl z2.1 23 .val (dx z2.2 0 x1)::fM z2.2 0 x1) h (fun K h=>?_) (fun z2 x1 h=>?_)
   ·refine sr (mq ?_);obtain⟨x3,TF,h⟩:=ab h;refine jb (fN rfl TF) ?_;refine aq (nt (aj ?_));refine fh (SE.nil 23 .val) ?_;refine aK (fun z5 y4=>[(0,I a0),(1,I a1),(5,.eq z5.1),(6,I y4.2)]) (fun z5 y4=>.sl z5.1 23 .val (dx z5.2 0 y4.1)::fM z5.2 0 y4.1) (kQ k a0 a1 (jk k m0)) k (.slice none 0 0,fun _=>.slice none 0 0) (([]:(List (List Int))),x3) (fun _=>rfl) h (eA ⟨rfl,rfl,rfl,rfl,trivial⟩ gP) (fun n z5 y4 h=>?_);unfold kQ at h;refine ah (sr ?_);iterate 2 refine mq ?_
    refine jb (bv rfl) ?_;refine nt (ci h (fun h=>?_) (fun h=>?_))
    ·refine sk (aN (Z:=Value×(Nat→Value)) (α:=(List (List Int))) (fun z7 x6=>[(0,I a0),(1,I a1),(5,.eq z7.1),(6,I y4.2)]) (fun z7 x6=>.sl z7.1 23 .val (dx z7.2 0 x6)::fM z7.2 0 x6) h (fun K h=>?_) (fun z7 x6 h=>?_))
     ·refine aj (sr ?_);iterate 2 refine mq ?_
      obtain⟨x8,TD,h⟩:=ab h;refine jb (fN rfl TD) ?_;obtain⟨r9,TG,h⟩:=ab h;refine bB (Δ:=[]) (F:=_) (fun _ _ _=>ar rfl _) rfl rfl (an [.tmp 21,.tmp 23] rfl rfl Pj rfl (ih y4.2 x8 r9 TG)) ⟨rfl,rfl,trivial⟩ fun z=>?_;refine aq (nt (sr ?_));refine cq (nt (aj ?_));refine aK (fun l j=>[(0,I a0),(1,I a1),(5,.eq l.1),(6,I y4.2),(7,.eq z.1),(8,I j.2)]) (fun l j=>.sl l.1 23 .val (dx l.2 0 j.1):: .sl z.1 23 .val (dx z.2 0 r9)::(fM l.2 0 j.1++fM z.2 j.2.toNat (r9.drop j.2.toNat))) (kP k y4 r9) k z5 (y4.1,0) (fun _=>rfl) h (eA (junk:=[]) ⟨rfl,rfl,rfl,rfl,rfl,rfl,trivial⟩ ?perm1) (fun n l j h=>?_)
      case perm1=>
       show List.Perm ((D.sl z.1 23 .val (dx z.2 0 r9)::fM z.2 0 r9)++(D.sl z5.1 23 .val (dx z5.2 0 y4.1)::fM z5.2 0 y4.1)) ((D.sl z5.1 23 .val (dx z5.2 0 y4.1)::D.sl z.1 23 .val (dx z.2 0 r9)::(fM z5.2 0 y4.1++fM z.2 0 r9))++[]);rw [List.append_nil];exact(List.perm_append_comm (l₁:=D.sl z.1 23 .val (dx z.2 0 r9)::fM z.2 0 r9)).trans (List.Perm.cons _ (List.perm_middle (l₁:=fM z5.2 0 y4.1)))
      unfold kP at h;refine ah (sr ?_);iterate 2 refine mq ?_
      refine fr 1 ?_;refine ka (cZ rfl rfl nI) ?_;refine fr 1 ?_;refine jb (bv rfl) ?_;refine nt (bi rfl (fun hb=>?_) (fun hb=>?_))
      ·rw [dH] at hb;replace h:=ct (m8 hb) h;refine sk (ah (aj (aa ?_)));iterate 3 refine mq ?_
       obtain⟨Sv,pp,h⟩:=ab h;obtain⟨Uk,Tm⟩:=hQ pp;refine fr 1 ?_;refine kb (bp (t:=.val) rfl nI bZ (g7 pp)) ?_;refine ka (eQ (t:=.val) (i:=Int.toNat j.2) (off:=0) rfl bZ (fun _=>rfl) rfl (hQ (g7 pp)).2 rfl) ?_;refine mq ?_;refine ja (bF (t:=(.int .i64)) [(.tmp 36,_)] [y4.2] rfl rfl fF (.cons rfl .int .nil) rfl rfl) ?_;rw [FU Tm];refine cI (f7 (Δ':=.sl (z.2 j.2.toNat) 3 (.int .i64) Sv:: .sl l.1 23 .val (dx l.2 0 j.1):: .sl z.1 23 .val (dx z.2 0 r9)::(fM l.2 0 j.1++fM z.2 (j.2.toNat+1) (r9.drop (j.2.toNat+1)))) ?perm2) ?_
       case perm2=>
        show List.Perm (D.sl z.1 23 .val (dx z.2 0 r9)::D.sl l.1 23 .val (dx l.2 0 j.1)::(fM l.2 0 j.1++(D.sl (z.2 j.2.toNat) 3 (.int .i64) Sv::fM z.2 (j.2.toNat+1) (r9.drop (j.2.toNat+1))))) _;refine(List.Perm.swap _ _ _).trans ?_;exact(((List.perm_middle (l₁:=fM l.2 0 j.1)).cons _).cons _).trans (List.perm_middle (l₁:=[D.sl l.1 23 .val (dx l.2 0 j.1),D.sl z.1 23 .val (dx z.2 0 r9)]))
       obtain⟨Uj,S7,h⟩:=ab h;refine dQ rfl rfl rfl (cp rfl rfl fF (aE S7)) ⟨rfl,rfl,trivial⟩ fun Q=>?_;refine o7 fun o14=>?_;refine ja (bF (t:=.val) [(.tmp 38,.eq Q)] [Q] rfl rfl su (.cons o14 (.val o14) .nil) rfl rfl) ?_;obtain⟨Ui,S5,h⟩:=ab h;refine fr 1 ?_;refine dQ rfl rfl rfl (cp rfl rfl su (show bX ((dx l.2 0 j.1).length+[Q].length) by rw [dH];exact aE S5)) ⟨rfl,rfl,trivial⟩ fun SJ=>?_;refine aq (ao (aJ (tn (aa ?_))));refine mq ?_;obtain⟨SI,SC,h⟩:=ab h;refine jb (bg rfl SC) ?_;refine aq (nl ?_);have TJ:SI.toNat=j.2.toNat+1:=by have:=BN SC;omega
       refine iy ((SJ,nX l.2 j.1.length Q),(j.1++[Sv++[y4.2]],SI)) h (eA (junk:=[]) ⟨rfl,rfl,rfl,rfl,rfl,rfl,trivial⟩ ?perm3)
       case perm3=>
        simp only;rw [yE,yX,TJ,List.append_nil];show List.Perm (D.sl SJ 23 .val (dx l.2 0 j.1++[Q])::D.sl Q 3 (.int .i64) (Sv++[y4.2])::D.sl z.1 23 .val (dx z.2 0 r9)::(fM l.2 0 j.1++fM z.2 (j.2.toNat+1) (r9.drop (j.2.toNat+1)))) _;rw [List.append_assoc];exact((List.Perm.swap _ _ _).trans ((List.perm_middle (l₁:=fM l.2 0 j.1)).symm.cons _)).cons _
      ·rw [dH] at hb;replace h:=bL (mz hb) h;refine dA (aM (aM (bR (bn ?_))));exact iy (l,j.1) h (eA (junk:=.sl z.1 23 .val (dx z.2 0 r9)::fM z.2 j.2.toNat (r9.drop j.2.toNat)) ⟨rfl,rfl,rfl,rfl,trivial⟩ ((List.perm_middle (l₁:=fM l.2 0 j.1)).symm.cons _))
     ·refine aa (mq ?_);obtain⟨Tj,SZ,h⟩:=ab h;refine jb (bg rfl SZ) ?_;refine aq (nl ?_);exact iy (z7,(x6,Tj)) h (eA ⟨rfl,rfl,rfl,rfl,trivial⟩ gP)
    ·refine xa ?_;exact iy (z5,y4.1) h (eA ⟨rfl,trivial⟩ gP)
   ·refine aN (Z:=Nat→Value) (α:=(List (List Int))) (fun X Su=>[(5,.eq z2.1)]) (fun X Su=>.sl z2.1 23 .val (dx X 0 Su)::fM X 0 Su) h (fun K h=>?_) (fun X Su h=>?_)
    ·refine sr (cq (nt (aj ?_)));refine aK (fun O u=>[(5,.eq z2.1),(9,I u.2)]) (fun O u=>.sl z2.1 23 .val (dx O 0 u.1)::fM O 0 u.1) (kO k) k z2.2 (x1,1) (fun _=>rfl) h (eA ⟨rfl,rfl,trivial⟩ gP) (fun n O u h=>?_);unfold kO at h;refine ah (sr ?_);iterate 2 refine mq ?_
     refine ka (cZ rfl rfl nI) ?_;refine jb (bv rfl) ?_;refine nt (bi rfl (fun hb=>?_) (fun hb=>?_))
     ·rw [dH] at hb;replace h:=ct (m8 hb) h;refine sk (aN (Z:=Nat→Value) (α:=(List (List Int))) (fun U mc=>[(5,.eq z2.1),(9,I u.2)]) (fun U mc=>.sl z2.1 23 .val (dx U 0 mc)::fM U 0 mc) h (fun K h=>?_) (fun U mc h=>?_))
      ·refine aj (sr (mq ?_));refine aq (nt (aj ?_));refine aK (fun e c=>[(5,.eq z2.1),(9,I u.2),(10,I c.2)]) (fun e c=>.sl z2.1 23 .val (dx e 0 c.1)::fM e 0 c.1) (kN k) k O (u.1,u.2) (fun _=>rfl) h (eA ⟨rfl,rfl,rfl,trivial⟩ gP) (fun n e c h=>?_);unfold kN at h;refine ah (aN (Z:=Unit) (α:=Bool) (fun SH SG=>[(5,.eq z2.1),(9,I u.2),(10,I c.2),(61,.eq (.bool SG))]) (fun SH SG=>.sl z2.1 23 .val (dx e 0 c.1)::fM e 0 c.1) h (fun K h=>?_) (fun SH SG h=>?_))
       ·refine cm ?_;refine dm ?_;refine db (lD rfl) ?_;refine yq rfl rfl rfl (bz rfl) ⟨rfl,trivial⟩ (fun hb=>?_) (fun hb=>?_)
        ·replace h:=ct (m8 hb) h;refine dc rfl rfl rfl rfl rfl (bz rfl) ⟨rfl,rfl,trivial⟩ ?_;refine dc rfl rfl rfl rfl rfl (bz rfl) ⟨rfl,rfl,trivial⟩ ?_;obtain⟨se,M,h⟩:=ab h;refine jH 0 rfl rfl rfl rfl rfl rfl (bp (t:=.val) rfl nI bZ (g7 M)) ⟨rfl,rfl,rfl,trivial⟩ ?_;refine jH 0 rfl rfl rfl rfl rfl rfl (eQ (t:=.val) (i:=Int.toNat c.2) (off:=0) rfl bZ (fun _=>rfl) rfl (hQ (g7 M)).2 rfl) ⟨rfl,rfl,trivial⟩ ?_;refine dc rfl rfl rfl rfl rfl (bz rfl) ⟨rfl,rfl,trivial⟩ ?_;refine dc rfl rfl rfl rfl rfl (bz rfl) ⟨rfl,rfl,trivial⟩ ?_;obtain⟨ac,SB,h⟩:=ab h;refine dc rfl rfl rfl rfl rfl (fN rfl SB) ⟨rfl,rfl,rfl,trivial⟩ ?_;obtain⟨SD,J,h⟩:=ab h;refine jH 0 rfl rfl rfl rfl rfl rfl (bp (t:=.val) rfl nI bZ (g7 J)) ⟨rfl,rfl,rfl,trivial⟩ ?_;refine jH 0 rfl rfl rfl rfl rfl rfl (eQ (t:=.val) (i:=Int.toNat ac) (off:=0) rfl bZ (fun _=>rfl) rfl (hQ (g7 J)).2 rfl) ⟨rfl,rfl,trivial⟩ ?_;refine df fg ?_;obtain⟨SK,S8,h⟩:=ab h;have S9:=zF k se SD SK S8;obtain⟨rest,hp⟩:=CH (vs:=e) (hQ M).2 (hQ J).2 (by have:=BN SB;have:=(hQ M).1;have:=(hQ J).1;omega);refine cI (f7 ((hp.cons _).trans (List.perm_middle (l₁:=[D.sl (e c.2.toNat) 3 (.int .i64) se,D.sl (e ac.toNat) 3 (.int .i64) SD])).symm)) ?_
         refine bB (Δ:=[_,_]) (F:=_) (fun _ _ h=>by rw [mI rfl rfl rfl rfl h];simp) rfl rfl
          (qI (N:=[(.tmp 54,.eq (e c.2.toNat)),(.tmp 59,.eq (e ac.toNat))]) (qI (N:=[(.tmp 54,Ri se),(.tmp 59,.eq (e ac.toNat))]) (an [.tmp 54,.tmp 59] rfl rfl PU rfl S9) (fun _ _ _ hv hn=>⟨hn.1,lend hn.2.1 hv,trivial⟩) (fun _=>⟨rfl,zR⟩)) (fun _ _ _ hv hn=>⟨lend hn.1 hv,hn.2⟩) (fun _=>⟨rfl,fun d hd=>by simp only [List.mem_cons,List.not_mem_nil,or_false] at hd;subst hd;rfl⟩)) ⟨rfl,rfl,trivial⟩ fun _=>?_
         refine pt (nl ?_);refine iy ((),SK) h (eA (junk:=[]) ⟨rfl,rfl,rfl,rfl,trivial⟩ ?perm4)
         case perm4=>
          rw [List.append_nil];exact(List.perm_middle (l₁:=[D.sl (e c.2.toNat) 3 (.int .i64) se,D.sl (e ac.toNat) 3 (.int .i64) SD])).trans (hp.symm.cons _)
        ·replace h:=bL (mz hb) h;iterate 9 refine DF rfl rfl rfl rfl rfl rfl rfl ?_
         refine df fg ?_;refine gn ?_;refine pf (nl ?_);exact iy ((),false) h (eA ⟨rfl,rfl,rfl,rfl,trivial⟩ gP)
       ·refine cv h (fun h=>?_) (fun h=>?_)
        ·refine sk ?_;obtain⟨s,E,h⟩:=ab h;obtain⟨Ti,SY,h⟩:=ab h;obtain rfl:s=Ti:=Option.some.inj (E.symm.trans SY);obtain⟨qt,y,h⟩:=ab h;obtain⟨Y,x,h⟩:=ab h;obtain⟨Tf,SX,h⟩:=ab h;obtain rfl:Y=Tf:=Option.some.inj (x.symm.trans SX);obtain⟨TS,TR,h⟩:=ab h;obtain⟨n33,SA⟩:=hQ y;obtain⟨n25,Sz⟩:=hQ x;have hne:c.2.toNat≠s.toNat:=by have:=BN E;omega
         obtain⟨rest,hp⟩:=CH (vs:=e) Sz SA hne;have hp2:=(hp.cons (D.sl z2.1 23 .val (dx e 0 c.1))).trans (List.perm_middle (l₁:=[D.sl (e c.2.toNat) 3 (.int .i64) Y,D.sl (e s.toNat) 3 (.int .i64) qt])).symm;refine ah (fh (f7 hp2) ?_);refine H9 fun o36=>?_;refine c9 1 rfl ?_;refine H9 fun o35=>?_;refine c9 1 rfl ?_;refine fh (f7 hp2.symm) ?_;have hlv:(dx e 0 c.1).length=c.1.length:=dH;have hl25:=(List.getElem?_eq_some_iff.1 Sz).1;have hl33:=(List.getElem?_eq_some_iff.1 SA).1
         have g38:bf ((dx e 0 c.1).set c.2.toNat (e s.toNat)) s=some (e s.toNat):=by
          have:=g7 (vs:=e) y;rw [bf,if_pos n33] at this⊢;rw [List.getElem?_set,if_neg hne];exact this
         refine aj (lP ?_);refine bV rfl rfl rfl (bz rfl) ⟨rfl,trivial⟩ ?_;refine bV rfl rfl rfl (bz rfl) ⟨rfl,trivial⟩ ?_;refine bV rfl rfl rfl (bz rfl) ⟨rfl,trivial⟩ ?_;refine bV rfl rfl rfl (bz rfl) ⟨rfl,trivial⟩ ?_;refine bV rfl rfl rfl (fN rfl E) ⟨rfl,rfl,trivial⟩ ?_;refine bV rfl rfl rfl (bz rfl) ⟨rfl,trivial⟩ ?_;refine bV rfl rfl rfl (bz rfl) ⟨rfl,trivial⟩ ?_;refine bV rfl rfl rfl (fN rfl E) ⟨rfl,rfl,trivial⟩ ?_;refine gd 0 rfl rfl rfl rfl (bp (t:=.val) rfl nI bZ (g7 y)) ⟨rfl,rfl,trivial⟩ ?_;refine gd 0 rfl rfl rfl rfl (eQ (t:=.val) (i:=Int.toNat s) (off:=0) rfl bZ (fun _=>rfl) rfl (hQ (g7 y)).2 rfl) ⟨rfl,trivial⟩ ?_;refine bV rfl rfl rfl (bz rfl) ⟨rfl,trivial⟩ ?_;refine bV rfl rfl rfl (bz rfl) ⟨rfl,trivial⟩ ?_;refine gd 0 rfl rfl rfl rfl (bp (t:=.val) rfl nI bZ (g7 x)) ⟨rfl,rfl,trivial⟩ ?_;refine gd 0 rfl rfl rfl rfl (eQ (t:=.val) (i:=Int.toNat c.2) (off:=0) rfl bZ (fun _=>rfl) rfl (hQ (g7 x)).2 rfl) ⟨rfl,trivial⟩ ?_;refine gd 0 rfl rfl rfl rfl (bp (t:=.val) rfl nI bZ (g7 x)) ⟨rfl,rfl,trivial⟩ ?_;refine qL 15 [true,true,false,false,false,true,true,true,true,true,true,true,true,true,true] [79] [] [] rfl (by kernel_rfl) (by kernel_rfl) (by kernel_rfl) fg (fun vs hv hB=>?_);obtain⟨w0,Uh,rfl,TC⟩:=aD hv;obtain⟨w1,Ug,rfl,TB⟩:=aD TC;obtain⟨w2,Uf,rfl,TA⟩:=aD TB;obtain⟨w3,Ue,rfl,Tz⟩:=aD TA;obtain⟨w4,Ud,rfl,Tv⟩:=aD Tz;obtain⟨w5,Uc,rfl,Tu⟩:=aD Tv;obtain⟨w6,Ub,rfl,Tt⟩:=aD Tu;obtain⟨w7,Ua,rfl,To⟩:=aD Tt;obtain⟨w8,T9,rfl,Tn⟩:=aD To;obtain⟨w9,TP,rfl,SS⟩:=aD Tn;obtain⟨T8,TO,rfl,SR⟩:=aD SS;obtain⟨TZ,TN,rfl,SQ⟩:=aD SR;obtain⟨TY,TM,rfl,SO⟩:=aD SQ;obtain⟨TX,TL,rfl,SN⟩:=aD SO;obtain⟨TU,TK,rfl,SL⟩:=aD SN;obtain rfl:=nz SL;refine⟨List.range (D.sl z2.1 23 .val (dx e 0 c.1)::fM e 0 c.1).length,.sl z2.1 23 .val (dx e 0 c.1)::fM e 0 c.1,?pick,List.nodup_range,?_⟩
         case pick=>
          unfold nZ;rw [NM.keep (by simp only [List.reverse_cons,List.reverse_nil,List.nil_append,List.cons_append];repeat (first |exact trivial |refine⟨⟨fun k=>by simp [rI],rfl⟩,?_⟩))];show eT ((D.sl z2.1 23 .val (dx e 0 c.1)::fM e 0 c.1)++[]) _=some _;rw [List.append_nil];exact D9
         refine qJ rfl rfl (eJ (t:=.val) (i:=Int.toNat c.2) rfl bZ rfl (by rw [hlv];exact hl25) rfl (.val o35) o35) ⟨rfl,rfl,trivial⟩ (by kernel_rfl) ?_;refine H6 rfl rfl rfl rfl (bp (t:=.val) rfl nI bZ g38) ⟨rfl,rfl,trivial⟩ (by kernel_rfl) ?_;refine qJ rfl rfl (eJ (t:=.val) (i:=Int.toNat s) rfl bZ rfl (by rw [List.length_set,hlv];exact hl33) rfl (.val o36) o36) ⟨rfl,rfl,trivial⟩ (by kernel_rfl) ?_;refine vy ?_;refine bM (eA (Γ':=[(5,.eq z2.1),(9,I u.2),(10,I c.2)]) (Δ':=.sl z2.1 23 .val (dx (yP e c.2.toNat s.toNat) 0 (List.set (List.set c.1 (Int.toNat c.2) qt) (Int.toNat s) Y))::fM (yP e c.2.toNat s.toNat) 0 (List.set (List.set c.1 (Int.toNat c.2) qt) (Int.toNat s) Y)) (junk:=[]) ⟨rfl,rfl,rfl,trivial⟩ ?perm5) ?_
         case perm5=>
          rw [List.append_nil,Fa Sz SA hne];exact(FT Sz SA hne).symm.cons _
         refine aJ (tn (aa (mq ?_)));obtain⟨Td,SV,h⟩:=ab h;refine jb (fN rfl SV) ?_;refine aq (nl ?_);exact iy (yP e c.2.toNat s.toNat,(List.set (List.set c.1 (Int.toNat c.2) qt) (Int.toNat s) Y,Td)) h (eA ⟨rfl,rfl,rfl,trivial⟩ gP)
        ·refine dA (aM (aM (bR (bn ?_))));exact iy (e,c.1) h (eA ⟨rfl,rfl,trivial⟩ gP)
      ·refine aa (mq ?_);obtain⟨Ta,SU,h⟩:=ab h;refine jb (bg rfl SU) ?_;refine aq (nl ?_);exact iy (U,(mc,Ta)) h (eA ⟨rfl,rfl,trivial⟩ gP)
     ·rw [dH] at hb;replace h:=bL (mz hb) h;refine xa ?_;exact iy (O,u.1) h (eA ⟨rfl,trivial⟩ gP)
    ·refine sr (mq ?_);refine aq (nt (aC ?_));cases h;exact gK (z2.1,X) [_] ⟨rfl,trivial⟩ rfl
theorem xM(k:Nat)(n:Nat)(a0:Int)(a1:Int)(r:(List (List Int)))(h:jk k n a0 a1=some r):cd Tryz.prog 77 [I a0,I a1] [] (fun z:Value=>(bu [.eq z],[.sl z 23 (.slice (.int .i64)) r])):=(vT k n a0 a1 r h).frzAll
end Go.Proofs.YtcnpijmfgfnpiaaGreatDoor
