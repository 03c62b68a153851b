import Derived.Test.YtcnpijmfgfnpiaaGreatDoorWFacts
set_option linter.unusedSimpArgs false
set_option linter.unusedVariables false
set_option maxRecDepth 4000
set_option maxHeartbeats 1000000
namespace Go.Proofs.YtcnpijmfgfnpiaaGreatDoor
open K Go Go.Proofs
def eE(k:Nat)(a0:Int)(a1:Int)(a2:Int):Option Bool:=
 ((if a1≤a0 then(some (decide (a0≤a2))) else(some false)):Option (Bool)).bind fun x1=>
 some x1
theorem eU(k:Nat)(a0:Int)(a1:Int)(a2:Int)(r:Bool)(h:eE k a0 a1 a2=some r):
 cu Tryz.prog 83 [I a0,I a1,I a2] [] (fun _:Unit=>(bq [.eq (.bool r)],[])):=by
 unfold eE at h
 replace h:=be h
 refine cu.of 15 Tryz.func83 rfl Tryz.ntmps83 rfl fun S w0=>?_
 refine sr ?_
 refine cq ?_
 refine nt ?_
 refine aN (Z:=Unit) (α:=Bool) (fun z2 x1=>[(6,.eq (.bool x1))]) (fun z2 x1=>[]) h (fun K h=>?_) (fun z2 x1 h=>?_)
 ·
  refine aa ?_;iterate 2 refine mq ?_
  refine jb (xf rfl) ?_;refine mq ?_;refine bF (s:=10) rfl (fun hb=>?_) (fun hb=>?_)
  ·replace h:=cr (mh hb) h;refine gm ?_;refine gm ?_;refine gb (xf rfl) ?_;refine pt ?_;refine aq (nl ?_);exact jz ((),decide (a0≤a2)) h []
  ·replace h:=bv (lw hb) h;iterate 3 refine gn ?_
   refine pf ?_;refine aq (nl ?_);exact jz ((),false) h []
 ·
  refine aA ?_;cases h;exact ra
def cZ(k:Nat)(a0:bB)(a1:iE):Nat→Int→Option (Except Int Unit)
 |0,_=>none
 |n+1,y6=>
  if y6 < (a1.2.length:Int) then((bf a1.2 y6).bind fun x8=>
  (ck (a0.1 - 1)).bind fun x9=>
  (eE k x8 0 x9).bind fun l=>
  if¬(l=true) then(some (.error 1)) else(((if 0 < y6 then((ck (y6 - 1)).bind fun h=>
  (bf a1.2 h).bind fun e=>
  some (decide (x8≤e))) else(some false)):Option (Bool)).bind fun j=>
  if j=true then(some (.error 5)) else((ck (y6+1)).bind fun c=>
  cZ k a0 a1 n c))) else(some (.ok ()))
def iO(k:Nat)(a0:bB)(a1:iE):Option Int:=
 (eE k a1.1 1 3).bind fun r3=>
 if¬(r3=true) then(some 1) else(bE (α:=Unit) (cZ k a0 a1 k 0) (some) fun _=>
 some 0)
theorem rV(k:Nat)(a0:bB)(a1:iE)(r:Int)(h:iO k a0 a1=some r):
 cu Tryz.prog 92 [.rep aF a0,.rep bS a1] [] (fun _:Unit=>(bq [I r],[])):=by
 unfold iO at h
 replace h:=be h
 refine cu.of 38 Tryz.func92 rfl Tryz.ntmps92 rfl fun S w0=>?_
 refine sr ?_
 refine bx fun b1=>?_
 refine bx fun b2=>?_
 refine cq ?_
 refine nt ?_
 refine ag ?_
 refine sr ?_
 refine fl tU ?_
 refine lo dh ?_
 obtain⟨r3,O,h⟩:=ab h
 have Q:=eU k a1.1 1 3 r3 O
 refine jc (an [.tmp 8,.const (.int .i64 (1)),.const (.int .i64 (3))] rfl rfl AT rfl Q) ?_
 refine ja (ig rfl) ?_
 refine nt ?_
 refine cw h (fun h=>?_) (fun h=>?_)
 ·
  refine sr (cq (nt (rx ?_)));cases h;exact ra
 ·
  refine sk (fP (Z:=Unit) (α:=Unit) (fun z5 x4=>[]) (fun z5 x4=>[]) (fun e=>e=r) h (fun e h=>Option.some.inj h) (fun K hR h=>?_) (fun z5 x4 h=>?_))
  ·refine sr (fl rC ?_);refine lo co ?_;refine ol fg ?_;refine eD rfl ?_;refine nt (aj (aI (fun z7 y6=>[(2,Pt b1),(3,Pt b2),(12,Ri a1.2),(13,I (a1.2.length:Int)),(14,I y6)]) (fun z7 y6=>[.obj b1 25 (.rep aF a0),.obj b2 27 (.rep bS a1)]) (cZ k a0 a1) k () 0 (fun _=>rfl) h (SE.fin [1,0] ⟨rfl,rfl,rfl,rfl,rfl,trivial⟩ rfl) (fun n z7 y6 h=>?_)));unfold cZ at h;refine sr (jb (bm rfl) ?_);refine nt (ag (ci h (fun h=>?_) (fun h=>?_)))
   ·refine sk (ag (aj (sr (mq ?_))));obtain⟨x8,M,h⟩:=ab h;refine jb (ba (t:=(.int .i64)) rfl fg dh M) ?_;refine ja (ar (t:=(.int .i64)) rfl dh rfl) ?_;refine aq ?_;refine aq (nt (ag (sr ?_)));refine mq ?_;refine fl jA ?_;refine lo dh ?_;obtain⟨x9,J,h⟩:=ab h;refine jb (f6 rfl J) ?_;obtain⟨F,y,h⟩:=ab h;refine jc (an [.tmp 19,.const (.int .i64 (0)),.tmp 22] rfl rfl AT rfl (eU k x8 0 x9 F y)) ?_;refine ja (ig rfl) ?_;refine nt (cw h (fun h=>?_) (fun h=>?_))
    ·refine sr (cq (nt (rx (br (bJ (aZ ?_))))));obtain rfl:=hR _ h;exact ra
    ·refine sk (aN (Z:=Unit) (α:=Bool) (fun j c=>[(2,Pt b1),(3,Pt b2),(12,Ri a1.2),(13,I (a1.2.length:Int)),(14,I y6),(36,.eq (.bool c))]) (fun j c=>[.obj b1 25 (.rep aF a0),.obj b2 27 (.rep bS a1)]) h (fun K h=>?_) (fun j c h=>?_))
     ·refine aa (mq ?_);refine jb (l6 rfl) ?_;refine mq ?_;refine bF (s:=27) rfl (fun hb=>?_) (fun hb=>?_)
      ·replace h:=cr (mh hb) h;refine gm ?_;refine ga (av rfl rC) ?_;refine fr 1 ?_;refine hQ rfl rfl rfl rfl rfl rfl (ak rfl co kV rfl) ⟨rfl,trivial⟩ ?_;refine gm ?_;obtain⟨U,x,h⟩:=ab h;refine gb (f6 rfl x) ?_;obtain⟨E,u,h⟩:=ab h;refine gb (ba (t:=(.int .i64)) rfl fg dh u) ?_;refine ga (ar (t:=(.int .i64)) rfl dh rfl) ?_;refine gb (xf rfl) ?_;refine pt (nl ?_);exact jz ((),decide (x8≤E)) h [1,0]
      ·replace h:=bv (lw hb) h;iterate 8 refine gn ?_
       refine pf (nl ?_);exact jz ((),false) h [0,1]
     ·refine cv h (fun h=>?_) (fun h=>?_)
      ·refine sr (cq (nt (aA (br (bJ (aZ ?_))))));obtain rfl:=hR _ h;exact ra
      ·refine aV (aG (tn (aa ?_)));obtain⟨D,l,h⟩:=ab h;refine jb (bg rfl l) ?_;refine mq (nl ?_);exact jz ((),D) h [0,1]
   ·refine xa ?_;exact jz ((),()) h []
  ·refine sr (cq (nt (aA ?_)));cases h;exact ra
def fK(k:Nat)(a0:bB):Nat→Int→Option (Except Int Unit)
 |0,_=>none
 |n+1,y5=>
  if y5 < (a0.2.1.length:Int) then((bf a0.2.1 y5).bind fun x7=>
  (iO k a0 x7).bind fun r9=>
  if¬(r9=0) then(some (.error r9)) else((ck (y5+1)).bind fun c=>
  fK k a0 n c)) else(some (.ok ()))
def fJ(k:Nat)(a0:bB):Nat→Int→Option (Except Int Unit)
 |0,_=>none
 |n+1,c=>
  if c < (a0.2.2.length:Int) then((bf a0.2.2 c).bind fun h=>
  (eE k h 0 9).bind fun j=>
  if¬(j=true) then(some (.error 1)) else((ck (c+1)).bind fun e=>
  fJ k a0 n e)) else(some (.ok ()))
def kf(k:Nat)(a0:bB):Option Int:=
 (eE k a0.1 1 6).bind fun r2=>
 if¬(r2=true) then(some 1) else(if 5 < (a0.2.1.length:Int) then(some 6) else(bE (α:=Unit) (fK k a0 k 0) (some) fun _=>
 if(a0.2.2.length:Int) < 1 then(some 7) else(if 3 < (a0.2.2.length:Int) then(some 6) else(bE (α:=Unit) (fJ k a0 k 0) (some) fun _=>
 some 0))))
theorem nV(k:Nat)(a0:bB)(r:Int)(h:kf k a0=some r):
 cu Tryz.prog 33 [.rep aF a0] [] (fun _:Unit=>(bq [I r],[])):=by
 unfold kf at h
 replace h:=be h
 refine cu.of 51 Tryz.func33 rfl Tryz.ntmps33 rfl fun S w0=>?_
 refine sr ?_
 refine bx fun b1=>?_
 refine cq ?_
 refine nt ?_
 refine ag ?_
 refine sr ?_
 refine fl jA ?_
 refine lo dh ?_
 obtain⟨r2,U,h⟩:=ab h
 have X:=eU k a0.1 1 6 r2 U
 refine jc (an [.tmp 10,.const (.int .i64 (1)),.const (.int .i64 (6))] rfl rfl AT rfl X) ?_
 refine ja (ig rfl) ?_
 refine nt ?_
 refine cw h (fun h=>?_) (fun h=>?_)
 ·
  refine sr (cq (nt (rx ?_)));cases h;exact ra
 ·
  refine sk (ag (sr (fl fX ?_)));refine lo mZ ?_;refine ol wP ?_;refine jb (l6 rfl) ?_;refine nt (ci h (fun h=>?_) (fun h=>?_))
  ·refine sr (cq (nt (rx ?_)));cases h;exact ra
  ·refine sk (fP (Z:=Unit) (α:=Unit) (fun z4 x3=>[(1,Pt b1)]) (fun z4 x3=>[.obj b1 25 (.rep aF a0)]) (fun e=>e=r) h (fun e h=>Option.some.inj h) (fun K hR h=>?_) (fun z4 x3 h=>?_))
   ·refine sr (fl fX ?_);refine lo mZ ?_;refine ol wP ?_;refine eD rfl ?_;refine nt (aj (aI (fun z6 y5=>[(1,Pt b1),(18,Rs bS a0.2.1),(19,I (a0.2.1.length:Int)),(20,I y5)]) (fun z6 y5=>[.obj b1 25 (.rep aF a0)]) (fK k a0) k () 0 (fun _=>rfl) h (SE.fin [0] ⟨rfl,rfl,rfl,rfl,trivial⟩ rfl) (fun n z6 y5 h=>?_)));unfold fK at h;refine sr (jb (bm rfl) ?_);refine nt (ag (ci h (fun h=>?_) (fun h=>?_)))
    ·refine sk (ag (aj (sr ?_)));obtain⟨x7,O,h⟩:=ab h;refine jb (ba (t:=bS) rfl wP nW O) ?_;refine ja (ar (t:=bS) rfl nW rfl) ?_;refine aw rfl rfl rfl (aP rfl uR LP) trivial fun b8=>?_;refine aS rfl rfl (aO rfl nW rfl rfl rfl) ⟨rfl,rfl,trivial⟩ ?_;refine nt (sr (fr 1 ?_));refine lo gC ?_;refine fr 1 ?_;refine lo nW ?_;obtain⟨r9,Q,h⟩:=ab h;refine jb (an [.tmp 24,.tmp 25] rfl rfl Sz rfl (rV k a0 x7 r9 Q)) ?_;refine aq (nt (sr ?_));refine mq ?_;refine jb (jd rfl) ?_;refine nt (cn h (fun h=>?_) (fun h=>?_))
     ·refine sr (mq ?_);refine aq (nt (aA (br (bJ (aZ ?_)))));obtain rfl:=hR _ h;exact ra
     ·refine aV (aG (tn (aa ?_)));obtain⟨J,y,h⟩:=ab h;refine jb (bg rfl y) ?_;refine mq (nl ?_);exact jz ((),J) h [1]
    ·refine xa ?_;exact jz ((),()) h [0]
   ·refine ag (sr (fl d4 ?_));refine lo co ?_;refine ol fg ?_;refine aq (nt (aj (sr ?_)));refine mq ?_;refine jb (bm rfl) ?_;refine aq (nt ?_);refine ci h (fun h=>?_) (fun h=>?_)
    ·refine sr (cq (nt (aA (bJ (aZ ?_)))));cases h;exact ra
    ·refine sr (mq ?_);refine jb (l6 rfl) ?_;refine aq (nt ?_);refine ci h (fun h=>?_) (fun h=>?_)
     ·refine sr (cq (nt (aA (bJ (aZ ?_)))));cases h;exact ra
     ·refine aV (aG (tn (fP (Z:=Unit) (α:=Unit) (fun l s=>[]) (fun l s=>[]) (fun e=>e=r) h (fun e h=>Option.some.inj h) (fun K hR h=>?_) (fun l s h=>?_))))
      ·refine sr (fl d4 ?_);refine lo co ?_;refine ol fg ?_;refine eD rfl ?_;refine nt (aj (aI (fun j c=>[(41,Ri a0.2.2),(42,I (a0.2.2.length:Int)),(43,I c)]) (fun j c=>[]) (fJ k a0) k () 0 (fun _=>rfl) h (SE.fin [] ⟨rfl,rfl,rfl,trivial⟩ rfl) (fun n j c h=>?_)));unfold fJ at h;refine sr (jb (bm rfl) ?_);refine nt (ag (ci h (fun h=>?_) (fun h=>?_)))
       ·refine sk (ag (aj (sr ?_)));obtain⟨F,x,h⟩:=ab h;refine jb (ba (t:=(.int .i64)) rfl fg dh x) ?_;refine ja (ar (t:=(.int .i64)) rfl dh rfl) ?_;refine aq (nt (sr ?_));refine mq ?_;obtain⟨M,D,h⟩:=ab h;refine jc (an [.tmp 47,.const (.int .i64 (0)),.const (.int .i64 (9))] rfl rfl AT rfl (eU k F 0 9 M D)) ?_;refine ja (ig rfl) ?_;refine nt (cw h (fun h=>?_) (fun h=>?_))
        ·refine sr (cq (nt (aA (br (bJ (aZ ?_))))));obtain rfl:=hR _ h;exact ra
        ·refine aV (aG (tn (aa ?_)));obtain⟨E,u,h⟩:=ab h;refine jb (bg rfl u) ?_;refine mq (nl ?_);exact jz ((),E) h []
       ·refine xa ?_;exact jz ((),()) h []
      ·refine sr (cq (nt (aA ?_)));cases h;exact ra
def dW(k:Nat)(a0:Int)(a1:Int):Option Bool:=
 (eM (0≤a1)).bind fun _=>
 some (decide ((wM .u8 (iI .u8 a0 a1) 1)=1))
theorem iM(k:Nat)(a0:Int)(a1:Int)(r:Bool)(h:dW k a0 a1=some r):
 cu Tryz.prog 87 [.eq (.int .u8 a0),I a1] [] (fun _:Unit=>(bq [.eq (.bool r)],[])):=by
 unfold dW at h
 replace h:=be h
 refine cu.of 10 Tryz.func87 rfl Tryz.ntmps87 rfl fun S w0=>?_
 refine sr ?_
 refine cq ?_
 refine nt ?_
 refine sr ?_
 iterate 2 refine mq ?_
 obtain⟨u1,c,h⟩:=ab h
 refine jb (vC rfl (aE c)) ?_
 refine jb (PX rfl) ?_
 refine jb (dw rfl) ?_
 refine aq ?_
 refine nt ?_
 refine aA ?_
 cases h
 exact ra
def dR(k:Nat)(a0:Int)(a1:Int):Option Int:=
 (eM (0≤a1)).bind fun _=>
 some (D8 .u8 a0 (m5 .u8 1 a1))
theorem jp(k:Nat)(a0:Int)(a1:Int)(r:Int)(h:dR k a0 a1=some r):
 cu Tryz.prog 134 [.eq (.int .u8 a0),I a1] [] (fun _:Unit=>(bq [.eq (.int .u8 r)],[])):=by
 unfold dR at h
 replace h:=be h
 refine cu.of 9 Tryz.func134 rfl Tryz.ntmps134 rfl fun S w0=>?_
 refine sr ?_
 refine cq ?_
 refine nt ?_
 refine sr ?_
 iterate 2 refine mq ?_
 obtain⟨u1,c,h⟩:=ab h
 refine jb (Hj rfl (aE c)) ?_
 refine jb (PV rfl) ?_
 refine aq ?_
 refine nt ?_
 refine aA ?_
 cases h
 exact ra
def gJ(k:Nat)(a0:bB)(a1:(List Int)):Nat→(Int×Int)→Option Int
 |0,_=>none
 |n+1,y4=>
  if y4.2 < (a1.length:Int) then((bf a1 y4.2).bind fun x6=>
  (bf a0.2.1 x6).bind fun x7=>
  (ck (y4.1+x7.1)).bind fun x8=>
  (ck (y4.2+1)).bind fun x9=>
  gJ k a0 a1 n (x8,x9)) else(some y4.1)
def nq(k:Nat)(a0:bB)(a1:(List Int)):Option Int:=
 ((gJ k a0 a1 k (0,0)):Option (Int)).bind fun x2=>
 some x2
theorem t9(k:Nat)(a0:bB)(a1:(List Int))(r:Int)(h:nq k a0 a1=some r):
 cu Tryz.prog 135 [.rep aF a0,Ri a1] [] (fun _:Unit=>(bq [I r],[])):=by
 unfold nq at h
 replace h:=be h
 refine cu.of 24 Tryz.func135 rfl Tryz.ntmps135 rfl fun S w0=>?_
 refine sr ?_
 refine bx fun b1=>?_
 refine cq ?_
 refine nt ?_
 refine sr ?_
 refine cq ?_
 refine nt ?_
 refine aN (Z:=Unit) (α:=Int) (fun z3 x2=>[(5,I x2)]) (fun z3 x2=>[]) h (fun K h=>?_) (fun z3 x2 h=>?_)
 ·
  refine sr (mq ?_);refine ol fg ?_;refine eD rfl ?_;refine nt (aj (aI (fun z5 y4=>[(2,Pt b1),(5,I y4.1),(8,Ri a1),(9,I (a1.length:Int)),(10,I y4.2)]) (fun z5 y4=>[.obj b1 25 (.rep aF a0)]) (gJ k a0 a1) k () (0,0) (fun _=>rfl) h (SE.fin [0] ⟨rfl,rfl,rfl,rfl,rfl,trivial⟩ rfl) (fun n z5 y4 h=>?_)));unfold gJ at h;refine sr (jb (bm rfl) ?_);refine nt (ag (ci h (fun h=>?_) (fun h=>?_)))
  ·refine sk (ag (aj (sr ?_)));obtain⟨x6,l,h⟩:=ab h;refine jb (ba (t:=(.int .i64)) rfl fg dh l) ?_;refine ja (ar (t:=(.int .i64)) rfl dh rfl) ?_;refine aq (nt (aa ?_));refine mq ?_;refine fl fX ?_;refine lo mZ ?_;refine mq ?_;obtain⟨x7,j,h⟩:=ab h;refine jb (ba (t:=bS) rfl wP nW j) ?_;refine ja (aM 1 false rfl tU rfl) ?_;refine ja (ar (t:=(.int .i64)) rfl dh rfl) ?_;obtain⟨x8,e,h⟩:=ab h;refine jb (bg rfl e) ?_;refine aq (ao (aG (tn (aa ?_))));obtain⟨x9,c,h⟩:=ab h;refine jb (bg rfl c) ?_;refine mq (nl ?_);exact jz ((),(x8,x9)) h [0]
  ·refine xa ?_;exact jz ((),y4.1) h []
 ·
  refine sr (mq ?_);refine aq (nt (aA ?_));cases h;exact ra
def eO(k:Nat)(a0:bB)(x8:(List Int)):Nat→(Int×Int)→Option (Except Value Int)
 |0,_=>none
 |n+1,c=>
  if c.2 < (x8.length:Int) then((bf x8 c.2).bind fun e=>
  (ck ((a0.2.1.length:Int) - 1)).bind fun j=>
  (eE k e 0 j).bind fun s=>
  if¬(s=true) then(some (.error (.iface 118 (.agg #[.int .i64 3])))) else((dW k c.1 e).bind fun r=>
  if r=true then(some (.error (.iface 118 (.agg #[.int .i64 4])))) else((dR k c.1 e).bind fun l=>
  (ck (c.2+1)).bind fun h=>
  eO k a0 x8 n (l,h)))) else(some (.ok c.1))
def fG(k:Nat)(a0:bB)(a1:(List (List Int))):Nat→(Int×Int)→Option (Except Value Int)
 |0,_=>none
 |n+1,y4=>
  if y4.2 < (a1.length:Int) then(bE (α:=Int) ((bf a1 y4.2).bind fun x8=>
  bE (α:=Int) (eO k a0 x8 k (y4.1,0)) (fun e=>some (.error e)) fun x9=>
  (nq k a0 x8).bind fun j=>
  (bf a0.2.2 y4.2).bind fun h=>
  if h < j then(some (.error (.iface 118 (.agg #[.int .i64 12])))) else(some (.ok x9))) (fun e=>some (.error e)) fun x6=>
  (ck (y4.2+1)).bind fun c=>
  fG k a0 a1 n (x6,c)) else(some (.ok y4.1))
def lA(k:Nat)(a0:bB)(a1:(List (List Int))):Option Value:=
 if(a1.length:Int) < (a0.2.2.length:Int) then(some (.iface 118 (.agg #[.int .i64 7]))) else(if(a0.2.2.length:Int) < (a1.length:Int) then(some (.iface 118 (.agg #[.int .i64 6]))) else(bE (α:=Int) (fG k a0 a1 k (0,0)) (some) fun x2=>
 (eM (0≤(a0.2.1.length:Int))).bind fun _=>
 if¬(x2=(IntKind.u8.wrap ((m5 .u8 1 (a0.2.1.length:Int)) - 1))) then(some (.iface 118 (.agg #[.int .i64 7]))) else(some (.nilIface))))
theorem rR(k:Nat)(a0:bB)(a1:(List (List Int)))(r:Value)(h:lA k a0 a1=some r):
 cu Tryz.prog 94 [.rep aF a0,.rep (.slice (.slice (.int .i64))) a1] [] (fun _:Unit=>(bq [.eq r],[])):=by
 unfold lA at h
 replace h:=be h
 refine cu.of 80 Tryz.func94 rfl Tryz.ntmps94 rfl fun S w0=>?_
 refine sr ?_
 refine bx fun b1=>?_
 refine cq ?_
 refine nt ?_
 refine ag ?_
 refine sr ?_
 refine fl d4 ?_
 refine lo co ?_
 refine ol fg ?_
 refine aq ?_
 refine nt ?_
 refine aj ?_
 refine sr ?_
 refine mq ?_
 refine ol oz ?_
 refine mq ?_
 refine jb (bm rfl) ?_
 refine aq ?_
 refine nt ?_
 refine ci h (fun h=>?_) (fun h=>?_)
 ·
  refine sr (ja (cU [(0,.const (.int .i64 (7)),_)] rfl xd uS t4 (iQ ⟨rfl,trivial⟩) rfl) ?_);refine ja (nE rfl F4) ?_;refine aq (nt (aA (bJ (aZ ?_))));cases h;exact ra
 ·
  refine sr (mq ?_);refine ol oz ?_;refine mq ?_;refine jb (l6 rfl) ?_;refine aq (nt ?_);refine ci h (fun h=>?_) (fun h=>?_)
  ·refine sr (ja (cU [(0,.const (.int .i64 (6)),_)] rfl xd uS t4 (iQ ⟨rfl,trivial⟩) rfl) ?_);refine ja (nE rfl F4) ?_;refine aq (nt (aA (bJ (aZ ?_))));cases h;exact ra
  ·refine aV (aG (tn (sr (cq (nt ?_)))));refine fP (Z:=Unit) (α:=Int) (fun z3 x2=>[(2,Pt b1),(6,.eq (.int .u8 x2))]) (fun z3 x2=>[.obj b1 25 (.rep aF a0)]) (fun e=>e=r) h (fun e h=>Option.some.inj h) (fun K hR h=>?_) (fun z3 x2 h=>?_)
   ·refine sr (mq ?_);refine ol oz ?_;refine eD rfl ?_;refine nt (aj (aI (fun z5 y4=>[(2,Pt b1),(6,.eq (.int .u8 y4.1)),(28,.rep (.slice (.slice (.int .i64))) a1),(29,I (a1.length:Int)),(30,I y4.2)]) (fun z5 y4=>[.obj b1 25 (.rep aF a0)]) (fG k a0 a1) k () (0,0) (fun _=>rfl) h (SE.fin [0] ⟨rfl,rfl,rfl,rfl,rfl,trivial⟩ rfl) (fun n z5 y4 h=>?_)));unfold fG at h;refine sr (jb (bm rfl) ?_);refine nt (ag (ci h (fun h=>?_) (fun h=>?_)))
    ·refine sk (fP (Z:=Unit) (α:=Int) (fun z7 x6=>[(2,Pt b1),(6,.eq (.int .u8 x6)),(28,.rep (.slice (.slice (.int .i64))) a1),(29,I (a1.length:Int)),(30,I y4.2)]) (fun z7 x6=>[.obj b1 25 (.rep aF a0)]) (fun e=>e=r) h (fun e h=>hR e h) (fun K hR h=>?_) (fun z7 x6 h=>?_))
     ·refine aj (sr (mq ?_));obtain⟨x8,se,h⟩:=ab h;refine jb (ba (t:=(.slice (.int .i64))) rfl oz co se) ?_;refine ja (ar (t:=(.slice (.int .i64))) rfl co rfl) ?_;refine aq ?_;refine aq (nt ?_);refine fP (Z:=Unit) (α:=Int) (fun s x9=>[(2,Pt b1),(6,.eq (.int .u8 x9)),(7,I y4.2),(8,Ri x8),(28,.rep (.slice (.slice (.int .i64))) a1),(29,I (a1.length:Int)),(30,I y4.2)]) (fun s x9=>[.obj b1 25 (.rep aF a0)]) (fun e=>e=r) h (fun e h=>hR e h) (fun K hR h=>?_) (fun s x9 h=>?_)
      ·refine sr (mq ?_);refine ol fg ?_;refine eD rfl ?_;refine nt (aj (aI (fun l c=>[(2,Pt b1),(6,.eq (.int .u8 c.1)),(7,I y4.2),(8,Ri x8),(28,.rep (.slice (.slice (.int .i64))) a1),(29,I (a1.length:Int)),(30,I y4.2),(35,Ri x8),(36,I (x8.length:Int)),(37,I c.2)]) (fun l c=>[.obj b1 25 (.rep aF a0)]) (eO k a0 x8) k () (y4.1,0) (fun _=>rfl) h (SE.fin [0] ⟨rfl,rfl,rfl,rfl,rfl,rfl,rfl,rfl,rfl,rfl,trivial⟩ rfl) (fun n l c h=>?_)));unfold eO at h;refine sr (jb (bm rfl) ?_);refine nt (ag (ci h (fun h=>?_) (fun h=>?_)))
       ·refine sk (ag (aj (sr ?_)));obtain⟨j,F,h⟩:=ab h;refine jb (ba (t:=(.int .i64)) rfl fg dh F) ?_;refine ja (ar (t:=(.int .i64)) rfl dh rfl) ?_;refine aq (nt (ag (sr ?_)));refine mq ?_;refine fl fX ?_;refine lo mZ ?_;refine ol wP ?_;obtain⟨ac,E,h⟩:=ab h;refine jb (f6 rfl E) ?_;obtain⟨qt,U,h⟩:=ab h;refine jc (an [.tmp 41,.const (.int .i64 (0)),.tmp 45] rfl rfl AT rfl (eU k j 0 ac qt U)) ?_;refine ja (ig rfl) ?_;refine nt (cw h (fun h=>?_) (fun h=>?_))
        ·refine sr (ja (cU [(0,.const (.int .i64 (3)),_)] rfl xd uS t4 (iQ ⟨rfl,trivial⟩) rfl) ?_);refine ja (nE rfl F4) ?_;refine aq (nt (rx (br (bJ (aZ (br (bJ (aZ ?_))))))));obtain rfl:=hR _ h;exact ra
        ·refine sk (ag (sr ?_));iterate 2 refine mq ?_
         obtain⟨pp,Q,h⟩:=ab h;refine jb (an [.tmp 50,.tmp 51] rfl rfl Lu rfl (iM k c.1 j pp Q)) ?_;refine nt (cv h (fun h=>?_) (fun h=>?_))
         ·refine sr (ja (cU [(0,.const (.int .i64 (4)),_)] rfl xd uS t4 (iQ ⟨rfl,trivial⟩) rfl) ?_);refine ja (nE rfl F4) ?_;refine aq (nt (rx (br (bJ (aZ (br (bJ (aZ ?_))))))));obtain rfl:=hR _ h;exact ra
         ·refine sk (aa ?_);iterate 2 refine mq ?_
          obtain⟨u,O,h⟩:=ab h;refine jb (an [.tmp 55,.tmp 56] rfl rfl Ej rfl (jp k c.1 j u O)) ?_;refine aq (ao (aG (tn (aa ?_))));obtain⟨Y,D,h⟩:=ab h;refine jb (bg rfl D) ?_;refine mq (nl ?_);exact jz ((),(u,Y)) h [0]
       ·refine xa ?_;exact jz ((),c.1) h [0]
      ·refine ag (bW ?_);refine ea 0 (ak rfl gC (xj) rfl) ?_;refine dm ?_;obtain⟨mc,M,h⟩:=ab h;refine db (an [.tmp 59,.tmp 60] rfl rfl MV rfl (t9 k a0 x8 mc M)) ?_;refine da (av rfl d4) ?_;refine ea 0 (ak rfl co kV rfl) ?_;refine dm ?_;obtain⟨TK,y,h⟩:=ab h;refine db (ba (t:=(.int .i64)) rfl fg dh y) ?_;refine da (ar (t:=(.int .i64)) rfl dh rfl) ?_;refine df eA ?_;refine jb (l6 rfl) ?_;refine nt (ci h (fun h=>?_) (fun h=>?_))
       ·refine sr (ja (cU [(0,.const (.int .i64 (12)),_)] rfl xd uS t4 (iQ ⟨rfl,trivial⟩) rfl) ?_);refine ja (nE rfl F4) ?_;refine aq (nt (aA (br (bJ (aZ ?_)))));obtain rfl:=hR _ h;exact ra
       ·refine aV (bn ?_);exact jz ((),x9) h [0]
     ·refine aa ?_;obtain⟨X,x,h⟩:=ab h;refine jb (bg rfl x) ?_;refine mq (nl ?_);exact jz ((),(x6,X)) h [0]
    ·refine xa ?_;exact jz ((),y4.1) h [0]
   ·refine ag (sr (mq ?_));refine fl fX ?_;refine lo mZ ?_;refine ol wP ?_;obtain⟨TL,J,h⟩:=ab h;refine jb (Hj rfl (aE J)) ?_;refine jb (Hi rfl) ?_;refine jb (jd rfl) ?_;refine nt (cn h (fun h=>?_) (fun h=>?_))
    ·refine sr (ja (cU [(0,.const (.int .i64 (7)),_)] rfl xd uS t4 (iQ ⟨rfl,trivial⟩) rfl) ?_);refine ja (nE rfl F4) ?_;refine aq (nt (rx ?_));cases h;exact ra
    ·refine sk (sr (cq (nt (aA ?_))));cases h;exact ra
def cN(k:Nat)(a0:(List (List Int)))(y5:(List (List Int))×Int):Nat→((List (List Int))×Int)→Option (List (List Int))
 |0,_=>none
 |n+1,y9=>
  if y9.2 < 5 then((((eM (0≤y5.2∧y5.2 < 3)).bind fun _=>
  (bf y9.1 y5.2).bind fun c=>
  (eM (0≤y9.2∧y9.2 < 5)).bind fun _=>
  ((if y5.2 < (a0.length:Int) then((bf a0 y5.2).bind fun r=>
  some (decide (y9.2 < (r.length:Int)))) else(some false)):Option (Bool)).bind fun s=>
  if s=true then((bf a0 y5.2).bind fun l=>
  (bf l y9.2).bind fun j=>
  (eM (0≤y5.2∧y5.2 < 3)).bind fun _=>
  (bf (List.set y9.1 (Int.toNat y5.2) (List.set c (Int.toNat y9.2) (-1:Int))) y5.2).bind fun h=>
  (eM (0≤y9.2∧y9.2 < 5)).bind fun _=>
  some (List.set (List.set y9.1 (Int.toNat y5.2) (List.set c (Int.toNat y9.2) (-1:Int))) (Int.toNat y5.2) (List.set h (Int.toNat y9.2) j))) else(some (List.set y9.1 (Int.toNat y5.2) (List.set c (Int.toNat y9.2) (-1:Int))))):Option ((List (List Int)))).bind fun u=>
  (ck (y9.2+1)).bind fun e=>
  cN k a0 y5 n (u,e)) else(some y9.1)
def de(k:Nat)(a0:(List (List Int))):Nat→((List (List Int))×Int)→Option (List (List Int))
 |0,_=>none
 |n+1,y5=>
  if y5.2 < 3 then(((cN k a0 y5 k (y5.1,0)):Option ((List (List Int)))).bind fun x7=>
  (ck (y5.2+1)).bind fun c=>
  de k a0 n (x7,c)) else(some y5.1)
def dB(k:Nat)(a0:(List (List Int))):Option (List (List Int)):=
 ((de k a0 k ([[0,0,0,0,0],[0,0,0,0,0],[0,0,0,0,0]],0)):Option ((List (List Int)))).bind fun x3=>
 some x3
theorem dX(k:Nat)(a0:(List (List Int)))(r:(List (List Int)))(h:dB k a0=some r):
 cu Tryz.prog 86 [.rep (.slice (.slice (.int .i64))) a0] [] (fun _:Unit=>(bq [.rep (.arr 3 (.arr 5 (.int .i64))) r],[])):=by
 unfold dB at h
 replace h:=be h
 refine cu.of 43 Tryz.func86 rfl Tryz.ntmps86 rfl fun S w0=>?_
 refine sr ?_
 refine aw rfl rfl rfl (aP rfl kZ lg) trivial fun b1=>?_
 refine nt ?_
 refine sr ?_
 refine aw rfl rfl rfl (aP rfl kZ lg) trivial fun b2=>?_
 refine nt ?_
 refine aN (Z:=Unit) (α:=(List (List Int))) (fun z4 x3=>[(2,Pt b1),(3,Pt b2)]) (fun z4 x3=>[.obj b1 107 (.rep (.arr 3 (.arr 5 (.int .i64))) [[0,0,0,0,0],[0,0,0,0,0],[0,0,0,0,0]]),.obj b2 107 (.rep (.arr 3 (.arr 5 (.int .i64))) x3)]) h (fun K h=>?_) (fun z4 x3 h=>?_)
 ·
  refine sr (eD rfl ?_);refine nt (aj (aI (fun z6 y5=>[(0,.rep (.slice (.slice (.int .i64))) a0),(2,Pt b1),(3,Pt b2),(6,I y5.2)]) (fun z6 y5=>[.obj b1 107 (.rep (.arr 3 (.arr 5 (.int .i64))) [[0,0,0,0,0],[0,0,0,0,0],[0,0,0,0,0]]),.obj b2 107 (.rep (.arr 3 (.arr 5 (.int .i64))) y5.1)]) (de k a0) k () ([[0,0,0,0,0],[0,0,0,0,0],[0,0,0,0,0]],0) (fun _=>rfl) h (SE.fin [1,0] ⟨rfl,rfl,rfl,rfl,trivial⟩ rfl) (fun n z6 y5 h=>?_)));unfold de at h;refine sr (jb (bm rfl) ?_);refine nt (ag (ci h (fun h=>?_) (fun h=>?_)))
  ·refine sk (aN (Z:=Unit) (α:=(List (List Int))) (fun z8 x7=>[(0,.rep (.slice (.slice (.int .i64))) a0),(2,Pt b1),(3,Pt b2),(6,I y5.2)]) (fun z8 x7=>[.obj b1 107 (.rep (.arr 3 (.arr 5 (.int .i64))) [[0,0,0,0,0],[0,0,0,0,0],[0,0,0,0,0]]),.obj b2 107 (.rep (.arr 3 (.arr 5 (.int .i64))) x7)]) h (fun K h=>?_) (fun z8 x7 h=>?_))
   ·refine aj (sr (mq ?_));refine aq (nt (sr ?_));refine eD rfl ?_;refine nt (aj (aI (fun J y9=>[(0,.rep (.slice (.slice (.int .i64))) a0),(2,Pt b1),(3,Pt b2),(4,I y5.2),(6,I y5.2),(9,I y9.2)]) (fun J y9=>[.obj b1 107 (.rep (.arr 3 (.arr 5 (.int .i64))) [[0,0,0,0,0],[0,0,0,0,0],[0,0,0,0,0]]),.obj b2 107 (.rep (.arr 3 (.arr 5 (.int .i64))) y9.1)]) (cN k a0 y5) k () (y5.1,0) (fun _=>rfl) h (SE.fin [0,1] ⟨rfl,rfl,rfl,rfl,rfl,rfl,trivial⟩ rfl) (fun n J y9 h=>?_)));unfold cN at h;refine sr (jb (bm rfl) ?_);refine nt (ag (ci h (fun h=>?_) (fun h=>?_)))
    ·refine sk (aN (Z:=Unit) (α:=(List (List Int))) (fun F l=>[(0,.rep (.slice (.slice (.int .i64))) a0),(2,Pt b1),(3,Pt b2),(4,I y5.2),(6,I y5.2),(9,I y9.2)]) (fun F l=>[.obj b1 107 (.rep (.arr 3 (.arr 5 (.int .i64))) [[0,0,0,0,0],[0,0,0,0,0],[0,0,0,0,0]]),.obj b2 107 (.rep (.arr 3 (.arr 5 (.int .i64))) l)]) h (fun K h=>?_) (fun F l h=>?_))
     ·refine aj (sr (mq ?_));refine aq (nt (sr ?_));iterate 2 refine mq ?_
      obtain⟨TP,x,h⟩:=ab h;refine jb (gP rfl F5 ub (aE x).1 (aE x).2) ?_;obtain⟨D,ac,h⟩:=ab h;obtain⟨TO,e,h⟩:=ab h;refine jb (gP rfl LW dh (aE e).1 (aE e).2) ?_;refine fr 1 ?_;refine aS rfl rfl (oe (t:=(.int .i64)) (off:=0) (i:=y5.2) (j:=y9.2) (N:=3) (L:=5) rfl dh .int rfl rfl rfl rfl ac (aE e).1 (aE e).2 rfl) ⟨rfl,rfl,trivial⟩ ?_;refine nt (aN (Z:=Unit) (α:=Bool) (fun E y=>[(0,.rep (.slice (.slice (.int .i64))) a0),(2,Pt b1),(3,Pt b2),(4,I y5.2),(5,I y9.2),(6,I y5.2),(9,I y9.2),(28,.eq (.bool y))]) (fun E y=>[.obj b1 107 (.rep (.arr 3 (.arr 5 (.int .i64))) [[0,0,0,0,0],[0,0,0,0,0],[0,0,0,0,0]]),.obj b2 107 (.rep (.arr 3 (.arr 5 (.int .i64))) (List.set y9.1 (Int.toNat y5.2) (List.set D (Int.toNat y9.2) (-1:Int))))]) h (fun K h=>?_) (fun E y h=>?_))
      ·refine aa ?_;iterate 2 refine mq ?_
       refine ol oz ?_;refine jb (bm rfl) ?_;refine mq ?_;refine bF (s:=20) rfl (fun hb=>?_) (fun hb=>?_)
       ·replace h:=cr (mh hb) h;refine gm ?_;refine gm ?_;refine gm ?_;obtain⟨TK,Y,h⟩:=ab h;refine gb (ba (t:=(.slice (.int .i64))) rfl oz co Y) ?_;refine ga (ar (t:=(.slice (.int .i64))) rfl co rfl) ?_;refine ga (jF rfl rfl fg) ?_;refine gb (bm rfl) ?_;refine pt (nl ?_);exact jz ((),decide (y9.2 < (TK.length:Int))) h [1,0]
       ·replace h:=bv (lw hb) h;iterate 7 refine gn ?_
        refine pf (nl ?_);exact jz ((),false) h [1,0]
      ·refine cv h (fun h=>?_) (fun h=>?_)
       ·refine bW ?_;refine dm ?_;refine dm ?_;refine dm ?_;refine dm ?_;obtain⟨TL,X,h⟩:=ab h;refine db (ba (t:=(.slice (.int .i64))) rfl oz co X) ?_;refine da (ar (t:=(.slice (.int .i64))) rfl co rfl) ?_;refine dm ?_;obtain⟨se,U,h⟩:=ab h;refine db (ba (t:=(.int .i64)) rfl fg dh U) ?_;refine da (ar (t:=(.int .i64)) rfl dh rfl) ?_;obtain⟨TN,u,h⟩:=ab h;refine db (gP rfl F5 ub (aE u).1 (aE u).2) ?_;refine df eA ?_;obtain⟨qt,Q,h⟩:=ab h;obtain⟨TM,c,h⟩:=ab h;refine jb (gP rfl LW dh (aE c).1 (aE c).2) ?_;refine fr 1 ?_;refine aS rfl rfl (oe (t:=(.int .i64)) (off:=0) (i:=y5.2) (j:=y9.2) (N:=3) (L:=5) rfl dh .int rfl rfl rfl rfl Q (aE c).1 (aE c).2 rfl) ⟨rfl,rfl,trivial⟩ ?_;refine ao (bn ?_);exact jz ((),List.set (List.set y9.1 (Int.toNat y5.2) (List.set D (Int.toNat y9.2) (-1:Int))) (Int.toNat y5.2) (List.set qt (Int.toNat y9.2) se)) h [1,0]
       ·refine aV (bn ?_);exact jz ((),List.set y9.1 (Int.toNat y5.2) (List.set D (Int.toNat y9.2) (-1:Int))) h [0,1]
     ·refine aa ?_;obtain⟨pp,O,h⟩:=ab h;refine jb (bg rfl O) ?_;refine mq (nl ?_);exact jz ((),(l,pp)) h [0,1]
    ·refine dJ (aR (aR (bR (bn ?_))));exact jz ((),y9.1) h [0,1]
   ·refine aa ?_;obtain⟨mc,M,h⟩:=ab h;refine jb (bg rfl M) ?_;refine mq (nl ?_);exact jz ((),(x7,mc)) h [0,1]
  ·refine xa ?_;exact jz ((),y5.1) h [0,1]
 ·
  refine sr (fr 1 ?_);refine lo cF ?_;refine fr 1 ?_;refine aS rfl rfl (aO rfl cF rfl rfl rfl) ⟨rfl,rfl,trivial⟩ ?_;refine nt (aA ?_);obtain rfl:=Option.some.inj h;exact aL () [.rep (.arr 3 (.arr 5 (.int .i64))) x3] 0 ⟨⟨_,_,_,_,_,rfl,(.head _),cF,(xj),rfl⟩,trivial⟩ rfl
def cR(k:Nat)(x5:(List Int)):Nat→((List Int)×Int)→Option (List Int)
 |0,_=>none
 |n+1,y6=>
  if y6.2 < 5 then((((bf x5 y6.2).bind fun c=>
  if 0≤c then((eM (bY (List.length y6.1+List.length [c]))).bind fun _=>
  some (y6.1++[c])) else(some y6.1)):Option ((List Int))).bind fun x8=>
  (ck (y6.2+1)).bind fun e=>
  cR k x5 n (x8,e)) else(some y6.1)
def dS(k:Nat)(a0:(List (List Int)))(a1:Int):Option (List Int):=
 (((eM (0≤a1∧a1 < 3)).bind fun _=>
 (bf a0 a1).bind fun x5=>
 cR k x5 k (([]:(List Int)),0)):Option ((List Int))).bind fun x2=>
 some x2
theorem ge(k:Nat)(a0:(List (List Int)))(a1:Int)(r:(List Int))(h:dS k a0 a1=some r):
 cu Tryz.prog 110 [.rep (.arr 3 (.arr 5 (.int .i64))) a0,I a1] [] (fun _:Unit=>(bq [Ri r],[])):=by
 unfold dS at h
 replace h:=be h
 refine cu.of 22 Tryz.func110 rfl Tryz.ntmps110 rfl fun S w0=>?_
 refine sr ?_
 refine bx fun b1=>?_
 refine cq ?_
 refine nt ?_
 refine sr ?_
 refine cq ?_
 refine nt ?_
 refine aN (Z:=Value) (α:=(List Int)) (fun z3 x2=>[(5,.eq z3)]) (fun z3 x2=>[.sl z3 3 (.int .i64) x2]) h (fun K h=>?_) (fun z3 x2 h=>?_)
 ·
  refine sr (mq ?_);obtain⟨u4,l,h⟩:=ab h;refine jb (gP rfl F5 ub (aE l).1 (aE l).2) ?_;obtain⟨x5,y,h⟩:=ab h;refine ka (vD (t:=(.arr 5 (.int .i64))) (off:=0) (i:=a1) (N:=3) rfl ub (xj) rfl rfl rfl rfl y) ?_;refine eD rfl ?_;refine nt (aj (fw (SE.nil 3 (.int .i64)) ?_));refine aI (fun z7 y6=>[(5,.eq z7),(10,.rep (.arr 5 (.int .i64)) x5),(11,I y6.2)]) (fun z7 y6=>[.sl z7 3 (.int .i64) y6.1]) (cR k x5) k (.slice none 0 0) (([]:(List Int)),0) (fun _=>rfl) h (SE.fin [0] ⟨rfl,rfl,rfl,trivial⟩ rfl) (fun n z7 y6 h=>?_);unfold cR at h;refine sr (jb (bm rfl) ?_);refine nt (ag (ci h (fun h=>?_) (fun h=>?_)))
  ·refine sk (aN (Z:=Value) (α:=(List Int)) (fun z9 x8=>[(5,.eq z9),(10,.rep (.arr 5 (.int .i64)) x5),(11,I y6.2)]) (fun z9 x8=>[.sl z9 3 (.int .i64) x8]) h (fun K h=>?_) (fun z9 x8 h=>?_))
   ·refine aj (sr ?_);obtain⟨c,j,h⟩:=ab h;refine jb (ue (t:=(.int .i64)) rfl LW dh rfl rfl (fun _=>rfl) j) ?_;refine aq (nt (sr ?_));refine mq ?_;refine jb (qK rfl) ?_;refine nt (ci h (fun h=>?_) (fun h=>?_))
    ·refine aa ?_;iterate 2 refine mq ?_
     refine ja (bH (t:=(.int .i64)) [(.tmp 17,_)] [c] rfl rfl fD (.cons rfl .int .nil) rfl rfl) ?_;obtain⟨D,s,h⟩:=ab h;refine dN rfl rfl rfl (cz rfl rfl fD (aE s)) ⟨rfl,rfl,trivial⟩ fun x=>?_;refine aq (ao (bn ?_));exact jz (x,y6.1++[c]) h [0]
    ·refine aV (bn ?_);exact jz (z7,y6.1) h [0]
   ·refine aa ?_;obtain⟨u,e,h⟩:=ab h;refine jb (bg rfl e) ?_;refine mq (nl ?_);exact jz (z9,(x8,u)) h [0]
  ·refine xa ?_;exact jz (z7,y6.1) h [0]
 ·
  refine sr (mq ?_);refine aq (nt (aA ?_));refine bL (gx [4,5,21] ⟨rfl,rfl,rfl,trivial⟩) ?_;cases h;exact ra
def cE{σ:Type}(k:Nat)(a1:(List Int))(Y:σ→(Int×Int)→Option (σ×Bool)):Nat→(Int×σ)→Option (σ)
 |0,_=>none
 |n+1,y2=>
  if 0≤y2.1 then((bf a1 y2.1).bind fun x4=>
  (Y y2.2 (y2.1,x4)).bind fun r5=>
  if¬(r5.2=true) then(some r5.1) else((ck (y2.1 - 1)).bind fun x7=>
  cE k a1 Y n (x7,r5.1))) else(some y2.2)
def gZ{σ:Type}(k:Nat)(Y:σ→(Int×Int)→Option (σ×Bool))(a1:(List Int))(s0:σ):Option (σ):=
 (ck ((a1.length:Int) - 1)).bind fun x1=>
 cE k a1 Y k (x1,s0)
theorem oR{M:Md Tryz.prog}{σ Z:Type}(E:Z→σ→List D)(l:Nat)(Y:σ→(Int×Int)→Option (σ×Bool))(k:Nat)(a1:(List Int))(c:Nat)(hY:∀z s p r,Y s p=some r→YT M l [I p.1,I p.2] (E z s) (fun z':Z=>(.eq (.bool r.2),E z' r.1))):
 ∀(z0:Z) (s0:σ) (r:σ),gZ k Y a1 s0=some r→dc M 208 [.eq (.func (.yield l) #[] #[]),Pt c] ([.obj c 23 (Ri a1)]++E z0 s0) (fun z:Z=>(bq [],[.obj c 23 (Ri a1)]++E z r)):=by
 intro z0 s0 r h
 unfold gZ at h
 replace h:=be h
 refine dc.of 19 Tryz.func208 rfl Tryz.ntmps208 rfl fun S w0=>?_
 refine sr ?_
 refine lo co ?_
 refine ol fg ?_
 obtain⟨x1,u,h⟩:=ab h
 refine jb (f6 rfl u) ?_
 refine aq ?_
 refine nt ?_
 refine aj ?_
 refine aI (Z:=Z) (α:=Int×σ) (fun z3 y2=>[(0,.eq (.func (.yield l) #[] #[])),(1,Pt c),(3,I y2.1)]) (fun z3 y2=>[.obj c 23 (Ri a1)]++E z3 y2.2) (cE k a1 Y) k z0 (x1,s0) (fun _=>rfl) h (bM [.obj c 23 (Ri a1)] (E z0 s0) [0] ⟨rfl,rfl,rfl,trivial⟩ rfl) (fun n z3 y2 h=>?_)
 unfold cE at h
 refine ag ?_
 refine sr ?_
 refine mq ?_
 refine jb (qK rfl) ?_
 refine nt ?_
 refine ci h (fun h=>?_) (fun h=>?_)
 ·
  refine sk (ag (aj (sr ?_)));iterate 2 refine mq ?_
  refine lo co ?_;refine mq ?_;obtain⟨x4,j,h⟩:=ab h;refine jb (ba (t:=(.int .i64)) rfl fg dh j) ?_;refine ja (ar (t:=(.int .i64)) rfl dh rfl) ?_;obtain⟨r5,x,h⟩:=ab h;refine pU [.obj c 23 (Ri a1)] rfl rfl rfl (yp [.tmp 12,.tmp 16] rfl rfl rfl (hY z3 y2.2 (y2.1,x4) r5 x)) ⟨rfl,rfl,rfl,trivial⟩ fun z6=>?_;refine ja (ig rfl) ?_;refine nt (cw h (fun h=>?_) (fun h=>?_))
  ·refine aA (br (bJ ?_));cases h;exact ia z6 [] trivial rfl
  ·refine aV (aG (tn (aa (mq ?_))));obtain⟨x7,e,h⟩:=ab h;refine jb (f6 rfl e) ?_;refine aq (nl ?_);exact i7 (z6,(x7,r5.1)) h (bM [.obj c 23 (Ri a1)] (E z6 r5.1) [0] ⟨rfl,rfl,rfl,trivial⟩ rfl)
 ·
  refine dJ (aR (aR (bR (jm ?_))));cases h;exact ia z3 [] trivial rfl
theorem qE(a0:(List Int)):cu Tryz.prog 190 [Ri a0] [] (fun z:Nat=>(bq [.eq (.func (.func 208) #[] #[(Pv z)])],[.obj z 23 (Ri a0)])):=by
 refine cu.of 4 Tryz.func190 rfl Tryz.ntmps190 rfl fun S w0=>?_;refine sr (bx fun z=>?_);refine cq (nt (sr ?_));refine ja (tD [] [.tmp 1] [] [(Pv z)] rfl rfl rfl) ?_;refine aq (nt (aA ?_));exact aL z [_] 1 ⟨rfl,trivial⟩ rfl
def pe(k:Nat)(a0:(List Int)):Option (List Int):=
 (gZ k (jS (fun(y3:(List Int)) (p5:(Int×Int))=>
  some ((p5.2::y3),true))) a0 ([],false)).bind fun r6=>
 if r6.2=true then(none) else(some r6.1)
theorem zC(k:Nat)(a0:(List Int))(r:(List Int))(h:pe k a0=some r):
 cu Tryz.prog 157 [Ri a0] [] (fun _:Unit=>(bq [.rep (.lst (.int .i64)) r],[])):=by
 unfold pe at h
 replace h:=be h
 refine zj 15 Tryz.func157 rfl Tryz.ntmps157 rfl fun {M} S w0=>?_
 refine sr ?_
 refine cq ?_
 refine nt ?_
 refine sr ?_
 refine aw rfl rfl rfl (aP rfl Pg Q8) trivial fun b1=>?_
 refine nt ?_
 refine ag ?_
 refine sr ?_
 refine mq ?_
 refine aw rfl rfl rfl (an [.tmp 6] rfl rfl QD rfl (qE a0)) ⟨rfl,trivial⟩ fun b2=>?_
 refine nt ?_
 refine aj ?_
 refine ct 1 rfl ?_
 refine fw (oC (a:=.eq (.pointer none)) (a':=.rep (.lst (.int .i64)) []) (wv .lnil)) ?_
 refine ct 1 rfl ?_
 obtain⟨r6,c,h⟩:=ab h
 refine j0 (Δ:=[.obj b2 23 (Ri a0),.obj b1 216 (.rep (.lst (.int .i64)) [])]) (F:=[]) (X:=Unit) (J:=fun _=>CU r6.2) (E:=fun z4=>[.obj b2 23 (Ri a0),.obj b1 216 (.rep (.lst (.int .i64)) r6.1)]) (r0:=fun _=>.tup .any) rfl rfl Qz (fun rec hp ha hb hs hpe hN hv l=>?_) (fun dl z4=>lP (fun hj=>?_) (fun hj=>?_))
 ·
  rcases rec with⟨st0,pe0,fn0,tm0,ps0,as0,bd0,df0⟩;dsimp only at hp ha hb hs hpe hN hv;subst hp hs hpe;have vN:t5 tm0 [(3,Pt b1)]:=⟨congrArg A.eq (hv 3 _ rfl).symm,trivial⟩;refine dc.pick (M:=M) [1,0,2] [1,0,2] (oR (fun(z4:Unit) (q:(List Int)×Bool)=>[.raw l (.loop (iq ⟨.ready,none,fn0,tm0, #[8,9],as0,bd0,df0⟩ (CU q.2))),.obj b1 216 (.rep (.lst (.int .i64)) q.1)]) l (jS (fun(y3:(List Int)) (p5:(Int×Int))=>
  some ((p5.2::y3),true))) k a0 b2 (fun z4 q p r' h=>?_) () ([],false) r6 c) rfl (fun _=>rfl) (fun _=>rfl)
  obtain⟨rq,hq,h2,rfl⟩:=lQ h;obtain⟨y3,b5⟩:=q;obtain rfl:b5=false:=hq;replace h:=be h2;obtain⟨p5,hpv⟩:∃x,x=p:=⟨_,rfl⟩;subst hpv;refine YT.pick (R':=(fun z4:Unit=>(.eq (.bool rq.2),[.raw l (.loop (iq ⟨.ready,none,fn0,tm0, #[8,9],as0,bd0,df0⟩ (CU (!rq.2)))),.obj b1 216 (.rep (.lst (.int .i64)) rq.1)]))) [0,1] [0,1] (LV ha hb (N:=15) (Γ:=[(3,Pt b1)]) rfl hN (by decide) vN (fun S w=>?_)) rfl (fun _=>rfl) (fun _=>rfl);refine aa (aq (nl ?_));refine pW rfl rfl ?_;refine aj (aa (mq ?_));refine fr 1 ?_;refine lo zG ?_;refine jb (cU [(0,.tmp 10,_),(1,.tmp 11,_)] rfl PP Pe OM (iQ ⟨rfl,rfl,trivial⟩) rfl) ?_;refine aw rfl rfl rfl (oN rfl trivial) ⟨rfl,trivial⟩ fun b7=>?_;refine cD (lG (t:=GR) (x:=(p5.2,y3)) [13] (.agg (.pair .int .rep)) ⟨rfl,trivial⟩) ?_;refine aS rfl rfl (aO rfl zG trivial rfl rfl) ⟨rfl,rfl,trivial⟩ ?_;refine ao (aG (bL (oC (a:=.at GR (p5.2,y3)) (a':=.rep (.lst (.int .i64)) (p5.2::y3)) (wv .lcons)) ?_));refine aH 1 rfl ?_;cases h;exact jP () 1 rfl
 ·
  replace h:=bv (Bw hj) h;refine aG (tn (sr (fr 2 ?_)));refine lo zG ?_;refine aq (nt (aA ?_));refine aH 1 rfl ?_;refine qy ?_;cases h;exact ra
 ·
  replace h:=cr (Bv hj) h;cases h
def gK(k:Nat)(a1:Int):Nat→(Int×(List Int)×(List Int)×(List Int))→Option (Int×(List Int))
 |0,_=>none
 |n+1,y2=>
  if List.isEmpty y2.2.2.2=true then((eM (bY (List.length y2.2.2.1+List.length y2.2.1))).bind fun _=>
  some (y2.1,y2.2.2.1++y2.2.1)) else((o6 y2.2.2.2).bind fun x6=>
  (dW k a1 x6.1).bind fun r7=>
  if r7=true then((o6 y2.2.2.2).bind fun x8=>
  (eM (bY (List.length y2.2.1+List.length [x8.1]))).bind fun _=>
  (o6 y2.2.2.2).bind fun l=>
  gK k a1 n (y2.1,y2.2.1++[x8.1],y2.2.2.1,l.2)) else(((if 0 < (y2.2.1.length:Int) then((o6 y2.2.2.2).bind fun h=>
  (dR k y2.1 h.1).bind fun r=>
  some r) else(some y2.1)):Option (Int)).bind fun j=>
  (o6 y2.2.2.2).bind fun c=>
  (eM (bY (List.length y2.2.2.1+List.length [c.1]))).bind fun _=>
  (o6 y2.2.2.2).bind fun e=>
  gK k a1 n (j,y2.2.1,y2.2.2.1++[c.1],e.2)))
def nr(k:Nat)(a0:(List Int))(a1:Int):Option (Int×(List Int)):=
 (pe k a0).bind fun r1=>
 gK k a1 k (0,([]:(List Int)),([]:(List Int)),r1)
theorem ua(k:Nat)(a0:(List Int))(a1:Int)(r:Int×(List Int))(h:nr k a0 a1=some r):
 cu Tryz.prog 127 [Ri a0,.eq (.int .u8 a1)] [] (fun _:Unit=>(bq [.eq (.int .u8 r.1),Ri r.2],[])):=by
 unfold nr at h
 replace h:=be h
 refine cu.of 54 Tryz.func127 rfl Tryz.ntmps127 rfl fun S w0=>?_
 refine sr ?_
 refine cq ?_
 refine cq ?_
 refine nt ?_
 refine xY rfl (ow (by kernel_rfl) (ow (by kernel_rfl) (IX IW))) ?_
 refine sr ?_
 refine cq ?_
 refine cq ?_
 refine nt ?_
 refine sr ?_
 refine mq ?_
 obtain⟨r1,mc,h⟩:=ab h
 have pp:=zC k a0 r1 mc
 refine ja (an [.tmp 9] rfl rfl QI rfl pp) ?_
 refine aq ?_
 refine nt ?_
 refine ag ?_
 refine Bi ?_
 refine tn ?_
 refine fw (SE.nil 3 (.int .i64)) ?_
 refine fw (SE.nil 3 (.int .i64)) ?_
 refine Du (Z:=Value×Value) (α:=Int×(List Int)×(List Int)×(List Int)) rfl (fun z3 y2=>[(1,.eq (.int .u8 a1)),(4,.eq (.int .u8 y2.1)),(6,.eq z3.1),(7,.eq z3.2),(8,.rep (.lst (.int .i64)) y2.2.2.2)]) (fun z3 y2=>[.sl z3.1 3 (.int .i64) y2.2.1,.sl z3.2 3 (.int .i64) y2.2.2.1]) (gK k a1) k ((.slice none 0 0),(.slice none 0 0)) (0,([]:(List Int)),([]:(List Int)),r1) (fun _=>rfl) h (SE.fin [1,0] ⟨rfl,rfl,rfl,rfl,rfl,trivial⟩ rfl) (fun n z3 y2 h=>?_)
 unfold gK at h
 refine ag ?_
 refine sr ?_
 refine mq ?_
 refine jb (Hq rfl SQ) ?_
 refine nt ?_
 refine cv h (fun h=>?_) (fun h=>?_)
 ·
  refine sr ?_;iterate 3 refine mq ?_
  refine cD (gx [6,15] ⟨rfl,rfl,trivial⟩) ?_;obtain⟨u4,Y,h⟩:=ab h;refine dN rfl rfl rfl (cz rfl rfl fD (aE Y)) ⟨rfl,rfl,trivial⟩ fun v5=>?_;refine aq ?_;refine aq (nt (rx ?_));refine sV ?_;refine bL (gx [5,16] ⟨rfl,rfl,trivial⟩) ?_;cases h;exact rb
 ·
  refine sk (ag (sr ?_));iterate 2 refine mq ?_
  obtain⟨x6,U,h⟩:=ab h;refine ja (lD rfl U) ?_;refine ja (aM 1 false rfl uN rfl) ?_;refine ja (ar (t:=(.int .i64)) rfl dh rfl) ?_;obtain⟨r7,ac,h⟩:=ab h;refine jb (an [.tmp 17,.tmp 21] rfl rfl Lu rfl (iM k a1 x6.1 r7 ac)) ?_;refine nt (cv h (fun h=>?_) (fun h=>?_))
  ·refine sr ?_;iterate 2 refine mq ?_
   obtain⟨x8,Q,h⟩:=ab h;refine ja (lD rfl Q) ?_;refine ja (aM 1 false rfl uN rfl) ?_;refine ja (ar (t:=(.int .i64)) rfl dh rfl) ?_;refine ja (bH (t:=(.int .i64)) [(.tmp 27,_)] [x8.1] rfl rfl fD (.cons rfl .int .nil) rfl rfl) ?_;obtain⟨u9,X,h⟩:=ab h;refine dN rfl rfl rfl (cz rfl rfl fD (aE X)) ⟨rfl,rfl,trivial⟩ fun O=>?_;refine aq (nt (sr ?_));refine mq ?_;obtain⟨J,y,h⟩:=ab h;refine ja (lD rfl y) ?_;refine ja (aM 1 false rfl Ed rfl) ?_;refine ja (ar (t:=(.lst (.int .i64))) rfl zG rfl) ?_;refine aq (nt ?_);refine EF ?_;refine Gi ?_;exact ED ((O,z3.2),(y2.1,y2.2.1++[x8.1],y2.2.2.1,J.2)) h (SE.fin [0,1] ⟨rfl,rfl,rfl,rfl,rfl,trivial⟩ rfl)
  ·refine sk (aN (Z:=Unit) (α:=Int) (fun e c=>[(1,.eq (.int .u8 a1)),(4,.eq (.int .u8 c)),(6,.eq z3.1),(7,.eq z3.2),(8,.rep (.lst (.int .i64)) y2.2.2.2)]) (fun e c=>[.sl z3.1 3 (.int .i64) y2.2.1,.sl z3.2 3 (.int .i64) y2.2.2.1]) h (fun K h=>?_) (fun e c h=>?_))
   ·refine sr (mq ?_);refine ka (dq rfl rfl fg) ?_;refine jb (l6 rfl) ?_;refine nt (ci h (fun h=>?_) (fun h=>?_))
    ·refine aa ?_;iterate 2 refine mq ?_
     obtain⟨I,x,h⟩:=ab h;refine ja (lD rfl x) ?_;refine ja (aM 1 false rfl uN rfl) ?_;refine ja (ar (t:=(.int .i64)) rfl dh rfl) ?_;obtain⟨l,E,h⟩:=ab h;refine jb (an [.tmp 37,.tmp 41] rfl rfl Ej rfl (jp k y2.1 I.1 l E)) ?_;refine aq (nl ?_);exact jz ((),l) h [0,1]
    ·refine aV (ae ?_);exact jz ((),y2.1) h [0,1]
   ·refine sr ?_;iterate 2 refine mq ?_
    obtain⟨j,u,h⟩:=ab h;refine ja (lD rfl u) ?_;refine ja (aM 1 false rfl uN rfl) ?_;refine ja (ar (t:=(.int .i64)) rfl dh rfl) ?_;refine ja (bH (t:=(.int .i64)) [(.tmp 47,_)] [j.1] rfl rfl fD (.cons rfl .int .nil) rfl rfl) ?_;obtain⟨qt,D,h⟩:=ab h;refine fr 1 ?_;refine dN rfl rfl rfl (cz rfl rfl fD (aE D)) ⟨rfl,rfl,trivial⟩ fun M=>?_;refine aq (nt (sr ?_));refine mq ?_;obtain⟨F,s,h⟩:=ab h;refine ja (lD rfl s) ?_;refine ja (aM 1 false rfl Ed rfl) ?_;refine ja (ar (t:=(.lst (.int .i64))) rfl zG rfl) ?_;refine aq (nt ?_);refine EF ?_;exact ED ((z3.1,M),(c,y2.2.1,y2.2.2.1++[j.1],F.2)) h (SE.fin [1,0] ⟨rfl,rfl,rfl,rfl,rfl,trivial⟩ rfl)
def dn(k:Nat)(a0:(List Int))(a1:Int):Nat→Int→Option (Except Int Unit)
 |0,_=>none
 |n+1,y3=>
  if y3 < (a0.length:Int) then((bf a0 y3).bind fun x5=>
  if a1=x5 then(some (.error y3)) else((ck (y3+1)).bind fun x6=>
  dn k a0 a1 n x6)) else(some (.ok ()))
def ji(k:Nat)(a0:(List Int))(a1:Int):Option Int:=
 bE (α:=Unit) (dn k a0 a1 k 0) (some) fun _=>
 some (-1:Int)
theorem ti(k:Nat)(a0:(List Int))(a1:Int)(r:Int)(h:ji k a0 a1=some r):
 cu Tryz.prog 123 [Ri a0,I a1] [] (fun _:Unit=>(bq [I r],[])):=by
 unfold ji at h
 replace h:=be h
 refine cu.of 19 Tryz.func123 rfl Tryz.ntmps123 rfl fun S w0=>?_
 refine sr ?_
 refine cq ?_
 refine nt ?_
 refine fP (Z:=Unit) (α:=Unit) (fun z2 x1=>[]) (fun z2 x1=>[]) (fun e=>e=r) h (fun e h=>Option.some.inj h) (fun K hR h=>?_) (fun z2 x1 h=>?_)
 ·
  refine sr (mq ?_);refine ol fg ?_;refine eD rfl ?_;refine nt (aj (aI (fun z4 y3=>[(0,Ri a0),(1,I a1),(7,I (a0.length:Int)),(8,I y3)]) (fun z4 y3=>[]) (dn k a0 a1) k () 0 (fun _=>rfl) h (SE.fin [] ⟨rfl,rfl,rfl,rfl,trivial⟩ rfl) (fun n z4 y3 h=>?_)));unfold dn at h;refine sr (jb (bm rfl) ?_);refine nt (ag (ci h (fun h=>?_) (fun h=>?_)))
  ·refine sk (ag (aj (sr (mq ?_))));refine aq (nt (sr ?_));iterate 3 refine mq ?_
   obtain⟨x5,j,h⟩:=ab h;refine jb (ba (t:=(.int .i64)) rfl fg dh j) ?_;refine ja (ar (t:=(.int .i64)) rfl dh rfl) ?_;refine jb (dw rfl) ?_;refine nt (ci h (fun h=>?_) (fun h=>?_))
   ·refine sr (mq ?_);refine aq (nt (aA (br (bJ (aZ ?_)))));obtain rfl:=hR _ h;exact ra
   ·refine aV (aG (tn (aa ?_)));obtain⟨x6,c,h⟩:=ab h;refine jb (bg rfl c) ?_;refine mq (nl ?_);exact jz ((),x6) h []
  ·refine xa ?_;exact jz ((),()) h []
 ·
  refine sr (cq (nt (aA ?_)));cases h;exact ra
def gf(k:Nat)(a0:(List Int))(a1:Int):Option Bool:=
 (ji k a0 a1).bind fun r1=>
 some (decide (0≤r1))
theorem qC(k:Nat)(a0:(List Int))(a1:Int)(r:Bool)(h:gf k a0 a1=some r):
 cu Tryz.prog 158 [Ri a0,I a1] [] (fun _:Unit=>(bq [.eq (.bool r)],[])):=by
 unfold gf at h
 replace h:=be h
 refine cu.of 9 Tryz.func158 rfl Tryz.ntmps158 rfl fun S w0=>?_
 refine sr ?_
 refine cq ?_
 refine nt ?_
 refine sr ?_
 iterate 2 refine mq ?_
 obtain⟨r1,c,h⟩:=ab h
 have e:=ti k a0 a1 r1 c
 refine jb (an [.tmp 5,.tmp 6] rfl rfl QU rfl e) ?_
 refine jb (qK rfl) ?_
 refine aq ?_
 refine nt ?_
 refine aA ?_
 cases h
 exact ra
def fh(k:Nat)(a0:dj)(a1:Int):Nat→(Int×Int)→Option Int
 |0,_=>none
 |n+1,y3=>
  if y3.2 < (a0.1.2.1.length:Int) then((((bf a0.1.2.1 y3.2).bind fun x7=>
  (gf k x7.2 a1).bind fun r9=>
  if r9=true then((dR k y3.1 y3.2).bind fun e=>
  some e) else(some y3.1)):Option (Int)).bind fun x5=>
  (ck (y3.2+1)).bind fun c=>
  fh k a0 a1 n (x5,c)) else(some y3.1)
def il(k:Nat)(a0:dj)(a1:Int):Option Int:=
 ((fh k a0 a1 k (0,0)):Option (Int)).bind fun x1=>
 some x1
theorem np(k:Nat)(a0:dj)(a1:Int)(r:Int)(h:il k a0 a1=some r):
 cu Tryz.prog 128 [.at bj a0,I a1] [] (fun _:Unit=>(bq [.eq (.int .u8 r)],[])):=by
 unfold il at h
 replace h:=be h
 refine cu.of 28 Tryz.func128 rfl Tryz.ntmps128 rfl fun S w0=>?_
 refine sr ?_
 refine cq ?_
 refine nt ?_
 refine sr ?_
 refine cq ?_
 refine nt ?_
 refine aN (Z:=Unit) (α:=Int) (fun z2 x1=>[(5,.eq (.int .u8 x1))]) (fun z2 x1=>[]) h (fun K h=>?_) (fun z2 x1 h=>?_)
 ·
  refine sr (mq ?_);refine ja (dK rfl) ?_;refine ja (aM 3 true rfl jX rfl) ?_;refine ja (aM 1 false rfl fX rfl) ?_;refine ja (ar (t:=(.slice bS)) rfl mZ rfl) ?_;refine ol wP ?_;refine eD rfl ?_;refine nt (aj (aI (fun z4 y3=>[(1,I a1),(5,.eq (.int .u8 y3.1)),(12,Rs bS a0.1.2.1),(13,I (a0.1.2.1.length:Int)),(14,I y3.2)]) (fun z4 y3=>[]) (fh k a0 a1) k () (0,0) (fun _=>rfl) h (SE.fin [] ⟨rfl,rfl,rfl,rfl,rfl,trivial⟩ rfl) (fun n z4 y3 h=>?_)));unfold fh at h;refine sr (jb (bm rfl) ?_);refine nt (ag (ci h (fun h=>?_) (fun h=>?_)))
  ·refine sk (aN (Z:=Unit) (α:=Int) (fun z6 x5=>[(1,I a1),(5,.eq (.int .u8 x5)),(12,Rs bS a0.1.2.1),(13,I (a0.1.2.1.length:Int)),(14,I y3.2)]) (fun z6 x5=>[]) h (fun K h=>?_) (fun z6 x5 h=>?_))
   ·refine aj (sr (mq ?_));obtain⟨x7,s,h⟩:=ab h;refine jb (ba (t:=bS) rfl wP nW s) ?_;refine ja (ar (t:=bS) rfl nW rfl) ?_;refine aw rfl rfl rfl (aP rfl uR LP) trivial fun b8=>?_;refine aq ?_;refine aS rfl rfl (aO rfl nW rfl rfl rfl) ⟨rfl,rfl,trivial⟩ ?_;refine nt (sr (fl rC ?_));refine lo co ?_;refine mq ?_;obtain⟨r9,u,h⟩:=ab h;refine jb (an [.tmp 20,.tmp 21] rfl rfl QH rfl (qC k x7.2 a1 r9 u)) ?_;refine nt (cv h (fun h=>?_) (fun h=>?_))
    ·refine aa ?_;iterate 2 refine mq ?_
     obtain⟨c,j,h⟩:=ab h;refine jb (an [.tmp 23,.tmp 24] rfl rfl Ej rfl (jp k y3.1 y3.2 c j)) ?_;refine aq (ao (bn ?_));exact jz ((),c) h []
    ·refine aV (bn ?_);exact jz ((),y3.1) h []
   ·refine aa ?_;obtain⟨l,e,h⟩:=ab h;refine jb (bg rfl e) ?_;refine mq (nl ?_);exact jz ((),(x5,l)) h []
  ·refine xa ?_;exact jz ((),y3.1) h []
 ·
  refine sr (mq ?_);refine aq (nt (aA ?_));cases h;exact ra
def jo(k:Nat)(a0:dj)(a1:(List (List Int)))(a2:Int):Nat→(Int×(List (List Int))×Int)→Option (Int×(List (List Int)))
 |0,_=>none
 |n+1,y5=>
  if y5.2.2 < 3 then((dS k a1 y5.2.2).bind fun r7=>
  (il k a0 a2).bind fun r8=>
  (nr k r7 r8).bind fun r9=>
  (eM (bY (List.length y5.2.1+List.length [r9.2]))).bind fun _=>
  (ck (y5.2.2+1)).bind fun c=>
  jo k a0 a1 a2 n (D8 .u8 y5.1 r9.1,y5.2.1++[r9.2],c)) else(some (y5.1,y5.2.1))
def lj(k:Nat)(a0:dj)(a1:(List (List Int)))(a2:Int):Option (Int×(List (List Int))):=
 ((jo k a0 a1 a2 k (0,([]:(List (List Int))),0)):Option (Int×(List (List Int)))).bind fun x3=>
 (dB k x3.2).bind fun c=>
 some (x3.1,c)
theorem oJ(k:Nat)(a0:dj)(a1:(List (List Int)))(a2:Int)(r:Int×(List (List Int)))(h:lj k a0 a1 a2=some r):
 cu Tryz.prog 85 [.at bj a0,.rep (.arr 3 (.arr 5 (.int .i64))) a1,I a2] [] (fun _:Unit=>(bq [.eq (.int .u8 r.1),.rep (.arr 3 (.arr 5 (.int .i64))) r.2],[])):=by
 unfold lj at h
 replace h:=be h
 refine cu.of 37 Tryz.func85 rfl Tryz.ntmps85 rfl fun S w0=>?_
 refine sr ?_
 refine bx fun b1=>?_
 refine cq ?_
 refine aw rfl rfl rfl (aP rfl kZ lg) trivial fun b2=>?_
 refine nt ?_
 refine sr ?_
 refine cq ?_
 refine nt ?_
 refine sr ?_
 refine cq ?_
 refine nt ?_
 refine aN (Z:=Value) (α:=Int×(List (List Int))) (fun z4 x3=>[(7,Pt b2),(8,.eq (.int .u8 x3.1)),(9,.eq z4)]) (fun z4 x3=>[.obj b2 107 (.rep (.arr 3 (.arr 5 (.int .i64))) [[0,0,0,0,0],[0,0,0,0,0],[0,0,0,0,0]]),.sl z4 23 (.slice (.int .i64)) x3.2]) h (fun K h=>?_) (fun z4 x3 h=>?_)
 ·
  refine sr (eD rfl ?_);refine nt (aj (fw (SE.nil 23 (.slice (.int .i64))) ?_));refine aI (fun z6 y5=>[(0,.at bj a0),(2,I a2),(4,Pt b1),(7,Pt b2),(8,.eq (.int .u8 y5.1)),(9,.eq z6),(13,I y5.2.2)]) (fun z6 y5=>[.obj b1 107 (.rep (.arr 3 (.arr 5 (.int .i64))) a1),.obj b2 107 (.rep (.arr 3 (.arr 5 (.int .i64))) [[0,0,0,0,0],[0,0,0,0,0],[0,0,0,0,0]]),.sl z6 23 (.slice (.int .i64)) y5.2.1]) (jo k a0 a1 a2) k (.slice none 0 0) (0,([]:(List (List Int))),0) (fun _=>rfl) h (SE.fin [2,1,0] ⟨rfl,rfl,rfl,rfl,rfl,rfl,rfl,trivial⟩ rfl) (fun n z6 y5 h=>?_);unfold jo at h;refine sr (jb (bm rfl) ?_);refine nt (ag (ci h (fun h=>?_) (fun h=>?_)))
  ·refine sk (ag (aj (sr (mq ?_))));refine aq (nt (sr ?_));refine lo cF ?_;refine mq ?_;obtain⟨r7,D,h⟩:=ab h;refine jb (an [.tmp 17,.tmp 18] rfl rfl Em rfl (ge k a1 y5.2.2 r7 D)) ?_;iterate 2 refine mq ?_
   obtain⟨r8,y,h⟩:=ab h;refine jb (an [.tmp 20,.tmp 21] rfl rfl QQ rfl (np k a0 a2 r8 y)) ?_;obtain⟨r9,x,h⟩:=ab h;refine jb (an [.tmp 19,.tmp 22] rfl rfl QR rfl (ua k r7 r8 r9 x)) ?_;refine mq ?_;refine xr ?_;refine xr ?_;refine aq ?_;refine aq (nt (sr ?_));iterate 2 refine mq ?_
   refine jb (PV rfl) ?_;refine aq (nt (aa ?_));iterate 2 refine mq ?_
   refine ja (bH (t:=(.slice (.int .i64))) [(.tmp 30,_)] [r9.2] rfl rfl tj (.cons rfl .rep .nil) rfl rfl) ?_;obtain⟨E,j,h⟩:=ab h;refine fr 2 ?_;refine dN rfl rfl rfl (cz rfl rfl tj (aE j)) ⟨rfl,rfl,trivial⟩ fun u=>?_;refine aq (ao (aG (tn (aa ?_))));obtain⟨s,e,h⟩:=ab h;refine jb (bg rfl e) ?_;refine mq (nl ?_);exact jz (u,(D8 .u8 y5.1 r9.1,y5.2.1++[r9.2],s)) h [1,2,0]
  ·refine xa ?_;exact jz (z6,(y5.1,y5.2.1)) h [1,2]
 ·
  refine sr ?_;iterate 2 refine mq ?_
  obtain⟨c,l,h⟩:=ab h;refine fr 1 ?_;refine ka (rJ (N:=[(.tmp 35,.eq z4)]) (an [.tmp 35] rfl rfl Da rfl (dX k x3.2 c l)) (fun _ _ _ hv hn=>⟨(lend hn.1 hv),trivial⟩) (fun _=>⟨rfl,AQ⟩)) ?_;refine aq ?_;refine fr 1 ?_;refine aS rfl rfl (aO rfl cF rfl rfl rfl) ⟨rfl,rfl,trivial⟩ ?_;refine nt (aA ?_);cases h;exact aL () [_,.rep (.arr 3 (.arr 5 (.int .i64))) c] 0 ⟨rfl,⟨_,_,_,_,_,rfl,(.head _),cF,(xj),rfl⟩,trivial⟩ rfl
def ek(k:Nat)(a0:dj)(a1:(List (List Int))):Nat→((List (List Int))×Int)→Option (List (List Int))
 |0,_=>none
 |n+1,y6=>
  if y6.2 < ((List.replicate (Int.toNat (a0.1.2.2.length:Int)) ([]:(List Int))).length:Int) then((dS k a1 y6.2).bind fun r8=>
  (bf y6.1 y6.2).bind fun x9=>
  (ck (y6.2+1)).bind fun c=>
  ek k a0 a1 n (List.set y6.1 (Int.toNat y6.2) r8,c)) else(some y6.1)
def dy(k:Nat)(a0:dj)(a1:(List (List Int))):Option (List (List Int)):=
 (eM (0≤(a0.1.2.2.length:Int)∧bY (Int.toNat (a0.1.2.2.length:Int)))).bind fun _=>
 ((ek k a0 a1 k (List.replicate (Int.toNat (a0.1.2.2.length:Int)) ([]:(List Int)),0)):Option ((List (List Int)))).bind fun x4=>
 some x4
theorem ix(k:Nat)(a0:dj)(a1:(List (List Int)))(r:(List (List Int)))(h:dy k a0 a1=some r):
 cu Tryz.prog 88 [.at bj a0,.rep (.arr 3 (.arr 5 (.int .i64))) a1] [] (fun z:Value=>(bq [.eq z],[.sl z 23 (.slice (.int .i64)) r])):=by
 unfold dy at h
 replace h:=be h
 refine cu.of 27 Tryz.func88 rfl Tryz.ntmps88 rfl fun S w0=>?_
 refine sr ?_
 refine bx fun b1=>?_
 refine cq ?_
 refine nt ?_
 refine sr ?_
 refine mq ?_
 refine ja (dK rfl) ?_
 refine ja (aM 3 true rfl jX rfl) ?_
 refine ja (aM 1 false rfl d4 rfl) ?_
 refine ja (ar (t:=(.slice (.int .i64))) rfl co rfl) ?_
 refine ol fg ?_
 obtain⟨u2,j,h⟩:=ab h
 refine aw rfl rfl rfl (NA (t:=(.slice (.int .i64))) (d:=([]:(List Int))) rfl tj RO (aE j).1 (aE j).2) ⟨rfl,rfl,trivial⟩ fun v3=>?_
 refine aq ?_
 refine nt ?_
 refine aN (Z:=Unit) (α:=(List (List Int))) (fun z5 x4=>[(5,.eq v3)]) (fun z5 x4=>[.sl v3 23 (.slice (.int .i64)) x4]) h (fun K h=>?_) (fun z5 x4 h=>?_)
 ·
  refine sr (mq ?_);refine ka (dq rfl rfl oz) ?_;refine eD rfl ?_;refine nt (aj (aI (fun z7 y6=>[(3,Pt b1),(5,.eq v3),(15,I ((List.replicate (Int.toNat (a0.1.2.2.length:Int)) ([]:(List Int))).length:Int)),(16,I y6.2)]) (fun z7 y6=>[.obj b1 107 (.rep (.arr 3 (.arr 5 (.int .i64))) a1),.sl v3 23 (.slice (.int .i64)) y6.1]) (ek k a0 a1) k () (List.replicate (Int.toNat (a0.1.2.2.length:Int)) ([]:(List Int)),0) (fun _=>rfl) h (SE.fin [1,0] ⟨rfl,rfl,rfl,rfl,trivial⟩ rfl) (fun n z7 y6 h=>?_)));unfold ek at h;refine sr (jb (bm rfl) ?_);refine nt (ag (ci h (fun h=>?_) (fun h=>?_)))
  ·refine sk (ag (aj (sr (mq ?_))));refine aq (nt (aa ?_));iterate 2 refine mq ?_
   refine lo cF ?_;refine mq ?_;obtain⟨r8,s,h⟩:=ab h;refine jb (an [.tmp 21,.tmp 22] rfl rfl Em rfl (ge k a1 y6.2 r8 s)) ?_;obtain⟨x9,c,h⟩:=ab h;refine fr 1 ?_;refine kb (a9 (t:=(.slice (.int .i64))) rfl oz co c) ?_;refine aS rfl rfl (c6 (i:=Int.toNat y6.2) rfl co rfl (jw c) rfl .rep rfl) ⟨rfl,rfl,trivial⟩ ?_;refine ao (aG (tn (aa ?_)));obtain⟨l,e,h⟩:=ab h;refine jb (bg rfl e) ?_;refine mq (nl ?_);exact jz ((),(List.set y6.1 (Int.toNat y6.2) r8,l)) h [1,0]
  ·refine xa ?_;exact jz ((),y6.1) h [1]
 ·
  refine sr (mq ?_);refine aq (nt (aA ?_));cases h;exact aL v3 [.eq v3] 1 ⟨rfl,trivial⟩ rfl
def dE(k:Nat)(a0:(List Int))(a1:(List Int)):Nat→Int→Option (Except Bool Unit)
 |0,_=>none
 |n+1,y3=>
  if y3 < (a0.length:Int) then((bf a0 y3).bind fun x5=>
  (bf a1 y3).bind fun x6=>
  if¬(x5=x6) then(some (.error false)) else((ck (y3+1)).bind fun x7=>
  dE k a0 a1 n x7)) else(some (.ok ()))
def dU(k:Nat)(a0:(List Int))(a1:(List Int)):Option Bool:=
 if¬((a0.length:Int)=(a1.length:Int)) then(some false) else(bE (α:=Unit) (dE k a0 a1 k 0) (some) fun _=>
 some true)
theorem jv(k:Nat)(a0:(List Int))(a1:(List Int))(r:Bool)(h:dU k a0 a1=some r):
 cu Tryz.prog 37 [Ri a0,Ri a1] [] (fun _:Unit=>(bq [.eq (.bool r)],[])):=by
 unfold dU at h
 replace h:=be h
 refine cu.of 26 Tryz.func37 rfl Tryz.ntmps37 rfl fun S w0=>?_
 refine sr ?_
 refine cq ?_
 refine nt ?_
 refine ag ?_
 refine sr ?_
 refine mq ?_
 refine ol fg ?_
 refine mq ?_
 refine ol fg ?_
 refine jb (jd rfl) ?_
 refine nt ?_
 refine cn h (fun h=>?_) (fun h=>?_)
 ·
  refine sr (cq (nt (rx ?_)));cases h;exact ra
 ·
  refine sk (fP (Z:=Unit) (α:=Unit) (fun z2 x1=>[]) (fun z2 x1=>[]) (fun e=>e=r) h (fun e h=>Option.some.inj h) (fun K hR h=>?_) (fun z2 x1 h=>?_))
  ·refine sr (cq (nt (aj ?_)));refine aI (fun z4 y3=>[(0,Ri a0),(1,Ri a1),(5,I y3)]) (fun z4 y3=>[]) (dE k a0 a1) k () 0 (fun _=>rfl) h (SE.fin [] ⟨rfl,rfl,rfl,trivial⟩ rfl) (fun n z4 y3 h=>?_);unfold dE at h;refine ag (sr ?_);iterate 2 refine mq ?_
   refine ol fg ?_;refine jb (bm rfl) ?_;refine nt (ci h (fun h=>?_) (fun h=>?_))
   ·refine sk (ag (aj (ag (bW ?_))));refine dm ?_;refine dm ?_;obtain⟨x5,l,h⟩:=ab h;refine db (ba (t:=(.int .i64)) rfl fg dh l) ?_;refine da (ar (t:=(.int .i64)) rfl dh rfl) ?_;refine dm ?_;refine dm ?_;obtain⟨x6,j,h⟩:=ab h;refine db (ba (t:=(.int .i64)) rfl fg dh j) ?_;refine da (ar (t:=(.int .i64)) rfl dh rfl) ?_;refine df eA ?_;refine jb (jd rfl) ?_;refine nt (cn h (fun h=>?_) (fun h=>?_))
    ·refine sr (cq (nt (aA (br (bJ (aZ ?_))))));obtain rfl:=hR _ h;exact ra
    ·refine aV (aG (tn (aa (mq ?_))));obtain⟨x7,c,h⟩:=ab h;refine jb (bg rfl c) ?_;refine aq (nl ?_);exact jz ((),x7) h []
   ·refine xa ?_;exact jz ((),()) h []
  ·refine sr (cq (nt (aA ?_)));cases h;exact ra
def fi(k:Nat)(a0:(List (List Int)))(a1:(List (List Int))):Nat→Int→Option (Except Bool Unit)
 |0,_=>none
 |n+1,y3=>
  if y3 < (a0.length:Int) then((bf a0 y3).bind fun x5=>
  (bf a1 y3).bind fun x6=>
  (dU k x5 x6).bind fun r7=>
  if¬(r7=true) then(some (.error false)) else((ck (y3+1)).bind fun x8=>
  fi k a0 a1 n x8)) else(some (.ok ()))
def fV(k:Nat)(a0:(List (List Int)))(a1:(List (List Int))):Option Bool:=
 if¬((a0.length:Int)=(a1.length:Int)) then(some false) else(bE (α:=Unit) (fi k a0 a1 k 0) (some) fun _=>
 some true)
theorem ko(k:Nat)(a0:(List (List Int)))(a1:(List (List Int)))(r:Bool)(h:fV k a0 a1=some r):
 cu Tryz.prog 38 [.rep (.slice (.slice (.int .i64))) a0,.rep (.slice (.slice (.int .i64))) a1] [] (fun _:Unit=>(bq [.eq (.bool r)],[])):=by
 unfold fV at h
 replace h:=be h
 refine cu.of 27 Tryz.func38 rfl Tryz.ntmps38 rfl fun S w0=>?_
 refine sr ?_
 refine cq ?_
 refine nt ?_
 refine ag ?_
 refine sr ?_
 refine mq ?_
 refine ol oz ?_
 refine mq ?_
 refine ol oz ?_
 refine jb (jd rfl) ?_
 refine nt ?_
 refine cn h (fun h=>?_) (fun h=>?_)
 ·
  refine sr (cq (nt (rx ?_)));cases h;exact ra
 ·
  refine sk (fP (Z:=Unit) (α:=Unit) (fun z2 x1=>[]) (fun z2 x1=>[]) (fun e=>e=r) h (fun e h=>Option.some.inj h) (fun K hR h=>?_) (fun z2 x1 h=>?_))
  ·refine sr (cq (nt (aj ?_)));refine aI (fun z4 y3=>[(0,.rep (.slice (.slice (.int .i64))) a0),(1,.rep (.slice (.slice (.int .i64))) a1),(5,I y3)]) (fun z4 y3=>[]) (fi k a0 a1) k () 0 (fun _=>rfl) h (SE.fin [] ⟨rfl,rfl,rfl,trivial⟩ rfl) (fun n z4 y3 h=>?_);unfold fi at h;refine ag (sr ?_);iterate 2 refine mq ?_
   refine ol oz ?_;refine jb (bm rfl) ?_;refine nt (ci h (fun h=>?_) (fun h=>?_))
   ·refine sk (ag (aj (ag (bW ?_))));refine dm ?_;refine dm ?_;obtain⟨x5,l,h⟩:=ab h;refine db (ba (t:=(.slice (.int .i64))) rfl oz co l) ?_;refine da (ar (t:=(.slice (.int .i64))) rfl co rfl) ?_;refine dm ?_;refine dm ?_;obtain⟨x6,j,h⟩:=ab h;refine db (ba (t:=(.slice (.int .i64))) rfl oz co j) ?_;refine da (ar (t:=(.slice (.int .i64))) rfl co rfl) ?_;refine df eA ?_;obtain⟨r7,s,h⟩:=ab h;refine jb (an [.tmp 20,.tmp 24] rfl rfl Ly rfl (jv k x5 x6 r7 s)) ?_;refine ja (ig rfl) ?_;refine nt (cw h (fun h=>?_) (fun h=>?_))
    ·refine sr (cq (nt (aA (br (bJ (aZ ?_))))));obtain rfl:=hR _ h;exact ra
    ·refine aV (aG (tn (aa (mq ?_))));obtain⟨x8,c,h⟩:=ab h;refine jb (bg rfl c) ?_;refine aq (nl ?_);exact jz ((),x8) h []
   ·refine xa ?_;exact jz ((),()) h []
  ·refine sr (cq (nt (aA ?_)));cases h;exact ra
def kC(k:Nat)(a0:List Int):Option (List Int):=
 (eM (bY (List.length a0))).bind fun _=>some a0
theorem ny(k:Nat)(a0:List Int)(r:List Int)(h:kC k a0=some r):
 cu Tryz.prog 97 [Ri a0] [] (fun z:Value=>(bq [.eq z],[.sl z 3 (.int .i64) r])):=by
 unfold kC at h
 replace h:=be h
 refine cu.of 8 Tryz.func97 rfl Tryz.ntmps97 rfl fun S w0=>?_
 obtain⟨u1,c,h⟩:=ab h
 cases h
 refine sr ?_
 refine cq ?_
 refine nt ?_
 refine ag ?_
 refine sr ?_
 refine mq ?_
 refine bC (Δ:=[]) (F:=_) (fun _ _ _=>au rfl _) rfl rfl (KC rfl fg) ⟨rfl,rfl,trivial⟩ fun b=>?_
 refine nt ?_
 refine bu rfl (fun hb=>?_) (fun hb=>?_)
 ·
  refine sr (cq (nt (rx ?_)));obtain rfl:=b.2 hb;refine bL (SE.nil 3 (.int .i64)) ?_;exact aL (.slice none 0 0) [.eq (.slice none 0 0)] 1 ⟨rfl,trivial⟩ rfl
 ·
  refine sk (sr (aw rfl rfl rfl (og (t:=(.int .i64)) [] [] rfl rfl fD .nil rfl rfl) trivial fun v1=>?_));refine mq ?_;refine dN rfl rfl rfl (cz rfl rfl fD (by simpa using aE c)) ⟨rfl,rfl,trivial⟩ fun v2=>?_;refine aq (nt (aA ?_));exact aL v2 [.eq v2] 1 ⟨rfl,trivial⟩ rfl
def iy(k:Nat)(a0:dj)(a2:Int):Nat→((List (List Int))×Int)→Option (List (List Int))
 |0,_=>none
 |n+1,y5=>
  if y5.2 < a2 then((lj k a0 y5.1 y5.2).bind fun r7=>
  (ck (y5.2+1)).bind fun x8=>
  iy k a0 a2 n (r7.2,x8)) else(some y5.1)
def lJ(k:Nat)(a0:dj)(a1:(List (List Int)))(a2:Int):Option (List (List Int)):=
 ((iy k a0 a2 k (a1,0)):Option ((List (List Int)))).bind fun x3=>
 some x3
theorem rS(k:Nat)(a0:dj)(a1:(List (List Int)))(a2:Int)(r:(List (List Int)))(h:lJ k a0 a1 a2=some r):
 cu Tryz.prog 103 [.at bj a0,.rep (.arr 3 (.arr 5 (.int .i64))) a1,I a2] [] (fun _:Unit=>(bq [.rep (.arr 3 (.arr 5 (.int .i64))) r],[])):=by
 unfold lJ at h
 replace h:=be h
 refine cu.of 21 Tryz.func103 rfl Tryz.ntmps103 rfl fun S w0=>?_
 refine sr ?_
 refine bx fun b1=>?_
 refine aw rfl rfl rfl (aP rfl kZ lg) trivial fun b2=>?_
 refine nt ?_
 refine aN (Z:=Unit) (α:=(List (List Int))) (fun z4 x3=>[(4,Pt b1),(6,Pt b2)]) (fun z4 x3=>[.obj b1 107 (.rep (.arr 3 (.arr 5 (.int .i64))) x3),.obj b2 107 (.rep (.arr 3 (.arr 5 (.int .i64))) [[0,0,0,0,0],[0,0,0,0,0],[0,0,0,0,0]])]) h (fun K h=>?_) (fun z4 x3 h=>?_)
 ·
  refine sr (mq ?_);refine eD rfl ?_;refine nt (aj (aI (fun z6 y5=>[(0,.at bj a0),(4,Pt b1),(6,Pt b2),(8,I a2),(9,I y5.2)]) (fun z6 y5=>[.obj b1 107 (.rep (.arr 3 (.arr 5 (.int .i64))) y5.1),.obj b2 107 (.rep (.arr 3 (.arr 5 (.int .i64))) [[0,0,0,0,0],[0,0,0,0,0],[0,0,0,0,0]])]) (iy k a0 a2) k () (a1,0) (fun _=>rfl) h (SE.fin [1,0] ⟨rfl,rfl,rfl,rfl,rfl,trivial⟩ rfl) (fun n z6 y5 h=>?_)));unfold iy at h;refine sr (jb (bm rfl) ?_);refine nt (ag (ci h (fun h=>?_) (fun h=>?_)))
  ·refine sk (ag (aj (sr (mq ?_))));refine aq (nt (aa ?_));refine mq ?_;refine lo cF ?_;refine mq ?_;obtain⟨r7,e,h⟩:=ab h;refine jc (an [.tmp 13,.tmp 14,.tmp 15] rfl rfl Qq rfl (oJ k a0 y5.1 y5.2 r7 e)) ?_;refine mq ?_;refine xr ?_;refine xr ?_;refine aS rfl rfl (aO rfl cF rfl rfl rfl) ⟨rfl,rfl,trivial⟩ ?_;refine ao (aG (tn (aa ?_)));obtain⟨x8,c,h⟩:=ab h;refine jb (bg rfl c) ?_;refine mq (nl ?_);exact jz ((),(r7.2,x8)) h [0,1]
  ·refine xa ?_;exact jz ((),y5.1) h [0,1]
 ·
  refine sr (lo cF ?_);refine fr 1 ?_;refine aS rfl rfl (aO rfl cF rfl rfl rfl) ⟨rfl,rfl,trivial⟩ ?_;refine nt (aA ?_);obtain rfl:=Option.some.inj h;exact aL () [.rep (.arr 3 (.arr 5 (.int .i64))) x3] 0 ⟨⟨_,_,_,_,_,rfl,(.head _),cF,(xj),rfl⟩,trivial⟩ rfl
def lU(k:Nat)(a0:List Int)(a1 a2:Int):Option (List Int):=
 (eM (0≤a1∧a1 < a2∧a2≤(a0.length:Int))).bind fun _=>some (a0.take a1.toNat++a0.drop a2.toNat)
theorem sc(k:Nat)(a0:List Int)(v:Value)(a1 a2:Int)(r:List Int)(h:lU k a0 a1 a2=some r):cu Tryz.prog 143 [.eq v,.eq (.int .i64 a1),.eq (.int .i64 a2)] [.sl v 3 (.int .i64) a0] (fun z:Value=>(bq [.eq z],[.sl z 3 (.int .i64) r])):=by
 unfold lU at h
 replace h:=be h
 obtain⟨u1,eg,h⟩:=ab h
 obtain⟨h1,h2,h3⟩:=aE eg
 obtain rfl:=Option.some.inj h
 refine cu.of 33 Tryz.func143 rfl Tryz.ntmps143 rfl fun S w0=>?_
 refine Gj (fun e=>by rw [e] at h3;simp at h3;omega) fun b cap hv hcap=>?_
 subst hv
 have hl:(a0.take a1.toNat++a0.drop a2.toNat).length=a1.toNat+(a0.length - a2.toNat):=by simp;omega
 refine ag ?_
 refine aa ?_
 refine dP rfl ?_
 refine ao (ae ?_)
 show JC _ _ _ _ _
 refine ag ?_
 refine aa ?_
 refine ax rfl rfl ?_
 refine ax rfl rfl ?_
 refine ax rfl rfl ?_
 refine ax rfl rfl ?_
 refine bV rfl rfl rfl (dq rfl rfl fg) ⟨rfl,trivial⟩ ?_
 refine aB rfl (yq rfl fg dh h1 (by omega) h3 (by omega)) ⟨rfl,rfl,rfl,rfl,trivial⟩ ?_
 refine ao (ae ?_)
 show JC _ _ _ _ _
 refine ag ?_
 refine ag ?_
 refine aa ?_
 refine ax rfl rfl ?_
 refine ax rfl rfl ?_
 refine aB rfl (dw rfl) ⟨rfl,rfl,trivial⟩ ?_
 refine ao (ae ?_)
 show JC _ _ _ _ _
 refine bu rfl (fun hb=>absurd (of_decide_eq_true hb) (by omega)) (fun hb=>?_)
 refine aV (ae ?_)
 show JC _ _ _ _ _
 refine ag ?_
 refine aa ?_
 refine ax rfl rfl ?_
 refine bV rfl rfl rfl (dq rfl rfl fg) ⟨rfl,trivial⟩ ?_
 refine dx rfl rfl ?_
 refine ao (ae ?_)
 show JC _ _ _ _ _
 refine ag ?_
 refine bW ?_
 refine dA rfl rfl rfl (bG rfl) ⟨rfl,trivial⟩ ?_
 refine dA rfl rfl rfl (bG rfl) ⟨rfl,trivial⟩ ?_
 refine dA rfl rfl rfl (vB rfl fg dh h1 (by omega)) ⟨rfl,rfl,trivial⟩ ?_
 refine dA rfl rfl rfl (bG rfl) ⟨rfl,trivial⟩ ?_
 refine dA rfl rfl rfl (bG rfl) ⟨rfl,trivial⟩ ?_
 refine dA rfl rfl rfl (Ci rfl fg dh (by omega) h3) ⟨rfl,rfl,trivial⟩ ?_
 refine t8 (by kernel_rfl) eA ?_
 refine cD (sT 22 rfl fun _ _ _ h=>(DJ▸h:(A.eq (.slice (some ⟨b,0,none⟩) a1.toNat cap)).holds _ _ _)) ?_
 refine bV rfl rfl rfl (yt (t:=.int .i64) (b:=b) (cap:=cap) (l:=a0) (i:=a1.toNat) (j:=a2.toNat) rfl rfl fD (by omega) (by omega) hcap) ⟨rfl,rfl,trivial⟩ ?_
 refine dx rfl rfl ?_
 refine ao (ae ?_)
 show JC _ _ _ _ _
 refine ag ?_
 refine aa ?_
 refine ax rfl rfl ?_
 refine ax rfl rfl ?_
 refine bV rfl rfl rfl (dq rfl rfl fg) ⟨rfl,trivial⟩ ?_
 refine ax rfl rfl ?_
 refine aB rfl (zU rfl fg dh (by omega) (by rw [hl];omega) (by omega)) ⟨rfl,rfl,rfl,trivial⟩ ?_
 refine aS rfl rfl (Aa (t:=.int .i64) (b:=b) (cap:=cap) (l:=a0.take a1.toNat++a0.drop a2.toNat) (n:=a0.length) rfl rfl fg rfl To rfl rfl (by rw [hl];omega) hcap) ⟨rfl,trivial⟩ ?_
 refine ao (ae ?_)
 show JC _ _ _ _ _
 refine ag ?_
 refine aa ?_
 refine ax rfl rfl ?_
 refine dx rfl rfl ?_
 refine ao (ae ?_)
 show JC _ _ _ _ _
 refine aA ?_
 exact aL _ [.eq _] 1 ⟨rfl,trivial⟩ rfl
def kA(k:Nat)(x7:Int)(h:(List (List Int))):Nat→((List (List Int))×Int)→Option (List (List Int))
 |0,_=>none
 |n+1,c=>
  if c.2 < (h.length:Int) then((bf h c.2).bind fun e=>
  (eM (bY (List.length [x7]+List.length e))).bind fun _=>
  (eM (bY (List.length c.1+List.length [[x7]++e]))).bind fun _=>
  (ck (c.2+1)).bind fun j=>
  kA k x7 h n (c.1++[[x7]++e],j)) else(some c.1)
def kB(k:Nat)(a0:(List Int))(self:(List Int)→Option ((List (List Int)))):Nat→((List (List Int))×Int)→Option (List (List Int))
 |0,_=>none
 |n+1,y3=>
  if y3.2 < (a0.length:Int) then((((bf a0 y3.2).bind fun x7=>
  (kC k a0).bind fun r8=>
  (ck (y3.2+1)).bind fun e=>
  (lU k r8 y3.2 e).bind fun j=>
  (self j).bind fun h=>
  kA k x7 h k (y3.1,0)):Option ((List (List Int)))).bind fun x5=>
  (ck (y3.2+1)).bind fun c=>
  kB k a0 self n (x5,c)) else(some y3.1)
def lL(k:Nat):Nat→(List Int)→Option ((List (List Int)))
 |0,_=>none
 |m0+1,a0=>
  if(a0.length:Int)=0 then(some [[]]) else(((kB k a0 (lL k m0) k (([]:(List (List Int))),0)):Option ((List (List Int)))).bind fun x1=>
  some x1)
theorem wA(k:Nat):
 ∀(n:Nat) (a0:(List Int)) (r:(List (List Int))),lL k n a0=some r→cu Tryz.prog 107 [Ri a0] ([]) (fun _:Unit=>(bq [.rep (.slice (.slice (.int .i64))) r],[])):=by
 intro n
 induction n with
 |zero=>intro a0 r h;cases h
 |succ m0 ih=>
  intro a0 r h;rw [lL] at h;replace h:=be h;refine cu.of 41 Tryz.func107 rfl Tryz.ntmps107 rfl fun S w0=>?_;refine sr (cq (nt (ag (sr ?_))));refine mq ?_;refine ol fg ?_;refine jb (dw rfl) ?_;refine nt (ci h (fun h=>?_) (fun h=>?_))
  ·refine sr (ja (bH (t:=(.slice (.int .i64))) [(.const (.slice none 0 0),_)] [[]] rfl rfl tj (.cons rfl .nil .nil) rfl rfl) ?_);refine aq (nt (rx ?_));cases h;exact ra
  ·refine sk (sr (cq (nt ?_)));refine aN (Z:=Value) (α:=(List (List Int))) (fun z2 x1=>[(3,.eq z2)]) (fun z2 x1=>[.sl z2 23 (.slice (.int .i64)) x1]) h (fun K h=>?_) (fun z2 x1 h=>?_)
   ·refine sr (mq ?_);refine ol fg ?_;refine eD rfl ?_;refine nt (aj (fw (SE.nil 23 (.slice (.int .i64))) ?_));refine aI (fun z4 y3=>[(0,Ri a0),(3,.eq z4),(12,Ri a0),(13,I (a0.length:Int)),(14,I y3.2)]) (fun z4 y3=>[.sl z4 23 (.slice (.int .i64)) y3.1]) (kB k a0 (lL k m0)) k (.slice none 0 0) (([]:(List (List Int))),0) (fun _=>rfl) h (SE.fin [0] ⟨rfl,rfl,rfl,rfl,rfl,trivial⟩ rfl) (fun n z4 y3 h=>?_);unfold kB at h;refine sr (jb (bm rfl) ?_);refine nt (ag (ci h (fun h=>?_) (fun h=>?_)))
    ·refine sk (aN (Z:=Value) (α:=(List (List Int))) (fun z6 x5=>[(0,Ri a0),(3,.eq z6),(12,Ri a0),(13,I (a0.length:Int)),(14,I y3.2)]) (fun z6 x5=>[.sl z6 23 (.slice (.int .i64)) x5]) h (fun K h=>?_) (fun z6 x5 h=>?_))
     ·refine aj (sr (mq ?_));obtain⟨x7,Y,h⟩:=ab h;refine jb (ba (t:=(.int .i64)) rfl fg dh Y) ?_;refine ja (ar (t:=(.int .i64)) rfl dh rfl) ?_;refine aq ?_;refine aq (nt (sr ?_));refine mq ?_;obtain⟨r8,ac,h⟩:=ab h;refine aw rfl rfl rfl (an [.tmp 19] rfl rfl Ss rfl (ny k a0 r8 ac)) ⟨rfl,trivial⟩ fun v9=>?_;iterate 2 refine mq ?_
      obtain⟨U,D,h⟩:=ab h;refine jb (bg rfl D) ?_;obtain⟨s,M,h⟩:=ab h;refine dN rfl rfl rfl (an [.tmp 20,.tmp 21,.tmp 23] rfl rfl QO rfl (sc k r8 v9 y3.2 U s M)) ⟨rfl,rfl,rfl,trivial⟩ fun qt=>?_;refine cD (gx [24] ⟨rfl,trivial⟩) ?_;obtain⟨j,J,h⟩:=ab h;refine ja (an [.tmp 24] rfl rfl MY rfl (ih s j J)) ?_;refine ol oz ?_;refine eD rfl ?_;refine nt (aj (aI (fun e c=>[(0,Ri a0),(3,.eq e),(5,I x7),(12,Ri a0),(13,I (a0.length:Int)),(14,I y3.2),(25,.rep (.slice (.slice (.int .i64))) j),(26,I (j.length:Int)),(27,I c.2)]) (fun e c=>[.sl e 23 (.slice (.int .i64)) c.1]) (kA k x7 j) k z4 (y3.1,0) (fun _=>rfl) h (SE.fin [0] ⟨rfl,rfl,rfl,rfl,rfl,rfl,rfl,rfl,rfl,trivial⟩ rfl) (fun n e c h=>?_)));unfold kA at h;refine sr (jb (bm rfl) ?_);refine nt (ag (ci h (fun h=>?_) (fun h=>?_)))
      ·refine sk (ag (aj (sr ?_)));obtain⟨l,y,h⟩:=ab h;refine jb (ba (t:=(.slice (.int .i64))) rfl oz co y) ?_;refine ja (ar (t:=(.slice (.int .i64))) rfl co rfl) ?_;refine aq (nt (aa ?_));iterate 2 refine mq ?_
       refine aw rfl rfl rfl (og (t:=(.int .i64)) [(.tmp 32,_)] [x7] rfl rfl fD (.cons rfl .int .nil) rfl rfl) ⟨rfl,trivial⟩ fun pp=>?_;refine mq ?_;obtain⟨TK,F,h⟩:=ab h;refine dN rfl rfl rfl (cz rfl rfl fD (aE F)) ⟨rfl,rfl,trivial⟩ fun mc=>?_;refine cD (gx [35] ⟨rfl,trivial⟩) ?_;refine ja (bH (t:=(.slice (.int .i64))) [(.tmp 35,_)] [[x7]++l] rfl rfl tj (.cons rfl .rep .nil) rfl rfl) ?_;obtain⟨se,E,h⟩:=ab h;refine dN rfl rfl rfl (cz rfl rfl tj (aE E)) ⟨rfl,rfl,trivial⟩ fun X=>?_;refine aq (ao (aG (tn (aa ?_))));obtain⟨Q,x,h⟩:=ab h;refine jb (bg rfl x) ?_;refine mq (nl ?_);exact jz (X,(c.1++[[x7]++l],Q)) h [0]
      ·refine dJ (aR (aR (bR (bn ?_))));exact jz (e,c.1) h [0]
     ·refine aa ?_;obtain⟨O,u,h⟩:=ab h;refine jb (bg rfl u) ?_;refine mq (nl ?_);exact jz (z6,(x5,O)) h [0]
    ·refine xa ?_;exact jz (z4,y3.1) h [0]
   ·refine sr (mq ?_);refine aq (nt (aA ?_));refine bL (gx [2,3,40] ⟨rfl,rfl,rfl,trivial⟩) ?_;cases h;exact ra
def f9{σ:Type}(k:Nat)(a1:(List Int))(Y:σ→Int→Option (σ×Bool)):Nat→(Int×σ)→Option (σ)
 |0,_=>none
 |n+1,y1=>
  if y1.1 < (a1.length:Int) then((bf a1 y1.1).bind fun x3=>
  (Y y1.2 x3).bind fun r4=>
  if¬(r4.2=true) then(some r4.1) else((ck (y1.1+1)).bind fun x6=>
  f9 k a1 Y n (x6,r4.1))) else(some y1.2)
def kg{σ:Type}(k:Nat)(Y:σ→Int→Option (σ×Bool))(a1:(List Int))(s0:σ):Option (σ):=
 f9 k a1 Y k (0,s0)
theorem qB{M:Md Tryz.prog}{σ Z:Type}(E:Z→σ→List D)(l:Nat)(Y:σ→Int→Option (σ×Bool))(k:Nat)(a1:(List Int))(c:Nat)(hY:∀z s p r,Y s p=some r→YT M l [I p] (E z s) (fun z':Z=>(.eq (.bool r.2),E z' r.1))):
 ∀(z0:Z) (s0:σ) (r:σ),kg k Y a1 s0=some r→dc M 146 [.eq (.func (.yield l) #[] #[]),Pt c] ([.obj c 23 (Ri a1)]++E z0 s0) (fun z:Z=>(bq [],[.obj c 23 (Ri a1)]++E z r)):=by
 intro z0 s0 r h
 unfold kg at h
 replace h:=be h
 refine dc.of 16 Tryz.func146 rfl Tryz.ntmps146 rfl fun S w0=>?_
 refine sr ?_
 refine lo co ?_
 refine ol fg ?_
 refine eD rfl ?_
 refine nt ?_
 refine aj ?_
 refine aI (Z:=Z) (α:=Int×σ) (fun z2 y1=>[(0,.eq (.func (.yield l) #[] #[])),(5,Ri a1),(6,I (a1.length:Int)),(7,I y1.1)]) (fun z2 y1=>[.obj c 23 (Ri a1)]++E z2 y1.2) (f9 k a1 Y) k z0 (0,s0) (fun _=>rfl) h (bM [.obj c 23 (Ri a1)] (E z0 s0) [0] ⟨rfl,rfl,rfl,rfl,trivial⟩ rfl) (fun n z2 y1 h=>?_)
 unfold f9 at h
 refine sr ?_
 refine jb (bm rfl) ?_
 refine nt ?_
 refine ag ?_
 refine ci h (fun h=>?_) (fun h=>?_)
 ·
  refine sk (ag (aj (sr ?_)));obtain⟨x3,j,h⟩:=ab h;refine jb (ba (t:=(.int .i64)) rfl fg dh j) ?_;refine ja (ar (t:=(.int .i64)) rfl dh rfl) ?_;refine aq (nt (sr ?_));iterate 2 refine mq ?_
  obtain⟨r4,u,h⟩:=ab h;refine pU [.obj c 23 (Ri a1)] rfl rfl rfl (yp [.tmp 12] rfl rfl rfl (hY z2 y1.2 x3 r4 u)) ⟨rfl,rfl,trivial⟩ fun z5=>?_;refine ja (ig rfl) ?_;refine nt (cw h (fun h=>?_) (fun h=>?_))
  ·refine aA (br (bJ ?_));cases h;exact ia z5 [] trivial rfl
  ·refine aV (aG (tn (aa ?_)));obtain⟨x6,e,h⟩:=ab h;refine jb (bg rfl e) ?_;refine mq (nl ?_);exact i7 (z5,(x6,r4.1)) h (bM [.obj c 23 (Ri a1)] (E z5 r4.1) [0] ⟨rfl,rfl,rfl,rfl,trivial⟩ rfl)
 ·
  refine dJ (aR (aR (bR (jm ?_))));cases h;exact ia z2 [] trivial rfl
def jT(k:Nat)(a1:(List Int)):Option (List Int):=
 (kg k (jS (fun(y2:(List Int)) (p4:Int)=>
  (eM (bY (List.length y2+List.length [p4]))).bind fun _=>
  some (y2++[p4],true))) a1 (([]:(List Int)),false)).bind fun r5=>
 if r5.2=true then(none) else(some r5.1)
theorem pg(k:Nat)(a1:(List Int))(c:Nat)(r:(List Int))(h:jT k a1=some r):
 cu Tryz.prog 183 [.eq (.slice none 0 0),.eq (.func (.func 146) #[] #[(Pv c)])] [.obj c 23 (Ri a1)] (fun z:Value=>(bq [.eq z],[.sl z 3 (.int .i64) r,.obj c 23 (Ri a1)])):=by
 unfold jT at h
 replace h:=be h
 refine zj 13 Tryz.func183 rfl Tryz.ntmps183 rfl fun {M} S w0=>?_
 refine sr ?_
 refine bx fun b1=>?_
 refine cq ?_
 refine nt ?_
 refine ag ?_
 refine sr ?_
 refine mq ?_
 refine nt ?_
 refine aj ?_
 refine fw (SE.nil 3 (.int .i64)) ?_
 refine ct 1 rfl ?_
 refine ct 2 rfl ?_
 obtain⟨r5,j,h⟩:=ab h
 refine j0 (Δ:=[.obj c 23 (Ri a1),.obj b1 23 (.eq (.slice none 0 0)),.sl (.slice none 0 0) 3 (.int .i64) ([]:(List Int))]) (F:=[]) (X:=Value) (J:=fun _=>CU r5.2) (E:=fun z3=>[.obj c 23 (Ri a1),.obj b1 23 (.eq z3),.sl z3 3 (.int .i64) r5.1]) (r0:=fun _=>.tup .any) rfl rfl QL (fun rec hp ha hb hs hpe hN hv l=>?_) (fun dl z3=>lP (fun hj=>?_) (fun hj=>?_))
 ·
  rcases rec with⟨st0,pe0,fn0,tm0,ps0,as0,bd0,df0⟩;dsimp only at hp ha hb hs hpe hN hv;subst hp hs hpe;have vN:t5 tm0 [(2,Pt b1)]:=⟨congrArg A.eq (hv 2 _ rfl).symm,trivial⟩;refine dc.pick (M:=M) [1,0,2,3] [1,0,2,3] (qB (fun(z3:Value) (q:(List Int)×Bool)=>[.raw l (.loop (iq ⟨.ready,none,fn0,tm0, #[7],as0,bd0,df0⟩ (CU q.2))),.obj b1 23 (.eq z3),.sl z3 3 (.int .i64) q.1]) l (jS (fun(y2:(List Int)) (p4:Int)=>
  (eM (bY (List.length y2+List.length [p4]))).bind fun _=>
  some (y2++[p4],true))) k a1 c (fun z3 q p r' h=>?_) (.slice none 0 0) (([]:(List Int)),false) r5 j) rfl (fun _=>rfl) (fun _=>rfl)
  obtain⟨rq,hq,h2,rfl⟩:=lQ h;obtain⟨y2,b5⟩:=q;obtain rfl:b5=false:=hq;replace h:=be h2;obtain⟨p4,hpv⟩:∃x,x=p:=⟨_,rfl⟩;subst hpv;refine YT.pick (R':=(fun z3:Value=>(.eq (.bool rq.2),[.raw l (.loop (iq ⟨.ready,none,fn0,tm0, #[7],as0,bd0,df0⟩ (CU (!rq.2)))),.obj b1 23 (.eq z3),.sl z3 3 (.int .i64) rq.1]))) [0,1,2] [0,1,2] (zb ha hb (N:=13) (Γ:=[(2,Pt b1)]) rfl hN (by decide) vN (fun S w=>?_)) rfl (fun _=>rfl) (fun _=>rfl);refine aa (aq (nl ?_));refine pW rfl rfl ?_;refine aj (aa (fr 1 ?_));refine lo co ?_;refine mq ?_;refine ja (bH (t:=(.int .i64)) [(.tmp 9,_)] [p4] rfl rfl fD (.cons rfl .int .nil) rfl rfl) ?_;obtain⟨u6,e,h⟩:=ab h;refine fr 2 ?_;refine dN rfl rfl rfl (cz rfl rfl fD (aE e)) ⟨rfl,rfl,trivial⟩ fun v7=>?_;refine pV fun o8=>?_;refine fr 1 ?_;refine aS rfl rfl (aO rfl co o8 rfl rfl) ⟨rfl,rfl,trivial⟩ ?_;refine ao (aG (aH 1 rfl ?_));refine aH 1 rfl ?_;refine aH 2 rfl ?_;cases h;exact jP v7 2 rfl
 ·
  replace h:=bv (Bw hj) h;refine aG (tn (sr (fr 2 ?_)));refine lo co ?_;refine aq (nt (aA ?_));refine aH 1 rfl ?_;refine qy ?_;refine bL (SE.fin (Γ':=[(4,_)]) [2,1,0] ⟨rfl,trivial⟩ rfl) ?_;cases h;exact aL z3 [.eq z3] 2 ⟨rfl,trivial⟩ rfl
 ·
  replace h:=cr (Bv hj) h;cases h
def kX(k:Nat)(a0:(List Int)):Option (List Int):=
 (jT k a0).bind fun r1=>
 some r1
theorem qY(k:Nat)(a0:(List Int))(c:Nat)(r:(List Int))(h:kX k a0=some r):
 cu Tryz.prog 144 [.eq (.func (.func 146) #[] #[(Pv c)])] [.obj c 23 (Ri a0)] (fun z:Value=>(bq [.eq z],[.sl z 3 (.int .i64) r,.obj c 23 (Ri a0)])):=by
 unfold kX at h
 replace h:=be h
 refine cu.of 5 Tryz.func144 rfl Tryz.ntmps144 rfl fun S w0=>?_
 refine sr ?_
 refine cq ?_
 refine nt ?_
 refine sr ?_
 refine mq ?_
 obtain⟨r1,e,h⟩:=ab h
 have j:=pg k a0 c r1 e
 refine bC (Δ:=[_]) (F:=_) (fun _ _ _=>au rfl _) rfl rfl (an [.const (.slice none 0 0),.tmp 3] rfl rfl QG rfl j) ⟨rfl,rfl,trivial⟩ fun z2=>?_
 refine aq ?_
 refine nt ?_
 refine aA ?_
 cases h
 exact aL z2 [.eq z2] 2 ⟨rfl,trivial⟩ rfl
def lF(k:Nat)(a0:Int):Option Bool:=
 some (!decide (a0=a0))
theorem lx(k:Nat)(a0:Int)(r:Bool)(h:lF k a0=some r):
 cu Tryz.prog 189 [I a0] [] (fun _:Unit=>(bq [.eq (.bool r)],[])):=by
 unfold lF at h
 replace h:=be h
 refine cu.of 6 Tryz.func189 rfl Tryz.ntmps189 rfl fun S w0=>?_
 refine sr ?_
 refine cq ?_
 refine nt ?_
 refine sr ?_
 iterate 2 refine mq ?_
 refine jb (jd rfl) ?_
 refine aq ?_
 refine nt ?_
 refine aA ?_
 cases h
 exact ra
def wc(k:Nat)(a0:Int)(a1:Int):Option Bool:=
 (((lF k a0).bind fun r3=>
 if r3=true then((lF k a1).bind fun r4=>
 if¬(r4=true) then(some true) else(some (decide (a0 < a1)))) else(some (decide (a0 < a1)))):Option (Bool)).bind fun x1=>
 some x1
theorem A3(k:Nat)(a0:Int)(a1:Int)(r:Bool)(h:wc k a0 a1=some r):
 cu Tryz.prog 202 [I a0,I a1] [] (fun _:Unit=>(bq [.eq (.bool r)],[])):=by
 unfold wc at h
 replace h:=be h
 refine cu.of 17 Tryz.func202 rfl Tryz.ntmps202 rfl fun S w0=>?_
 refine sr ?_
 refine cq ?_
 refine nt ?_
 refine aN (Z:=Unit) (α:=Bool) (fun z2 x1=>[(4,.eq (.bool x1))]) (fun z2 x1=>[]) h (fun K h=>?_) (fun z2 x1 h=>?_)
 ·
  refine aa (mq ?_);obtain⟨r3,e,h⟩:=ab h;refine ja (an [.tmp 5] rfl rfl Ei rfl (lx k a0 r3 e)) ?_;refine mq ?_;refine bF (s:=7) rfl (fun hb=>?_) (fun hb=>?_)
  ·replace h:=cr (Bv hb) h;refine gm ?_;obtain⟨r4,c,h⟩:=ab h;refine ga (an [.tmp 8] rfl rfl Ei rfl (lx k a1 r4 c)) ?_;refine ga (ig rfl) ?_;refine pt ?_;refine mq ?_;refine bF (s:=12) rfl (fun hb=>?_) (fun hb=>?_)
   ·replace h:=cr (HB hb) h;iterate 3 refine gn ?_
    refine pt ?_;refine aq (nl ?_);exact jz ((),true) h []
   ·replace h:=bv (Ac hb) h;refine gm ?_;refine gm ?_;refine gb (bm rfl) ?_;refine pf ?_;refine aq (nl ?_);exact jz ((),decide (a0 < a1)) h []
  ·replace h:=bv (Bw hb) h;iterate 3 refine gn ?_
   refine pf ?_;refine mq ?_;refine gm ?_;refine gm ?_;refine gb (bm rfl) ?_;refine pf ?_;refine aq (nl ?_);exact jz ((),decide (a0 < a1)) h []
 ·
  refine aA ?_;cases h;exact ra
def cJ(k:Nat)(a1:Int):Nat→((List Int)×Int)→Option (List Int)
 |0,_=>none
 |n+1,y6=>
  ((if a1 < y6.2 then((bf y6.1 y6.2).bind fun u=>
  (ck (y6.2 - 1)).bind fun s=>
  (bf y6.1 s).bind fun r=>
  (wc k u r).bind fun x=>
  some x) else(some false)):Option (Bool)).bind fun x8=>
  if x8=true then((ck (y6.2 - 1)).bind fun e=>
  (ck (y6.2 - 1)).bind fun l=>
  (bf y6.1 l).bind fun c=>
  (bf y6.1 y6.2).bind fun j=>
  (bf y6.1 y6.2).bind fun D=>
  (bf (List.set y6.1 (Int.toNat y6.2) c) e).bind fun y=>
  (ck (y6.2 - 1)).bind fun h=>
  cJ k a1 n (List.set (List.set y6.1 (Int.toNat y6.2) c) (Int.toNat e) j,h)) else(some y6.1)
def cK(k:Nat)(a1:Int)(a2:Int):Nat→((List Int)×Int)→Option (List Int)
 |0,_=>none
 |n+1,y2=>
  if y2.2 < a2 then(((cJ k a1 k (y2.1,y2.2)):Option ((List Int))).bind fun x4=>
  (ck (y2.2+1)).bind fun c=>
  cK k a1 a2 n (x4,c)) else(some y2.1)
def eG(k:Nat)(a0:(List Int))(a1:Int)(a2:Int):Option (List Int):=
 (ck (a1+1)).bind fun x1=>
 cK k a1 a2 k (a0,x1)
theorem j9(k:Nat)(a0:(List Int))(c:Value)(a1:Int)(a2:Int)(r:(List Int))(h:eG k a0 a1 a2=some r):
 cu Tryz.prog 196 [.eq c,I a1,I a2] [.sl c 3 (.int .i64) a0] (fun _:Unit=>(bq [],[.sl c 3 (.int .i64) r])):=by
 unfold eG at h
 replace h:=be h
 refine cu.of 49 Tryz.func196 rfl Tryz.ntmps196 rfl fun S w0=>?_
 refine sr ?_
 refine mq ?_
 obtain⟨x1,Ub,h⟩:=ab h
 refine jb (bg rfl Ub) ?_
 refine aq ?_
 refine nt ?_
 refine aj ?_
 refine aI (fun z3 y2=>[(0,.eq c),(1,I a1),(2,I a2),(6,I y2.2)]) (fun z3 y2=>[.sl c 3 (.int .i64) y2.1]) (cK k a1 a2) k () (a0,x1) (fun _=>rfl) h (SE.fin [0] ⟨rfl,rfl,rfl,rfl,trivial⟩ rfl) (fun n z3 y2 h=>?_)
 unfold cK at h
 refine ag ?_
 refine sr ?_
 iterate 2 refine mq ?_
 refine jb (bm rfl) ?_
 refine nt ?_
 refine ci h (fun h=>?_) (fun h=>?_)
 ·
  refine sk (aN (Z:=Unit) (α:=(List Int)) (fun z5 x4=>[(0,.eq c),(1,I a1),(2,I a2),(6,I y2.2)]) (fun z5 x4=>[.sl c 3 (.int .i64) x4]) h (fun K h=>?_) (fun z5 x4 h=>?_))
  ·refine aj (sr (mq ?_));refine aq (nt (aj ?_));refine aI (fun z7 y6=>[(0,.eq c),(1,I a1),(2,I a2),(6,I y2.2),(7,I y6.2)]) (fun z7 y6=>[.sl c 3 (.int .i64) y6.1]) (cJ k a1) k () (y2.1,y2.2) (fun _=>rfl) h (SE.fin [0] ⟨rfl,rfl,rfl,rfl,rfl,trivial⟩ rfl) (fun n z7 y6 h=>?_);unfold cJ at h;refine ag (aN (Z:=Unit) (α:=Bool) (fun z9 x8=>[(0,.eq c),(1,I a1),(2,I a2),(6,I y2.2),(7,I y6.2),(30,.eq (.bool x8))]) (fun z9 x8=>[.sl c 3 (.int .i64) y6.1]) h (fun K h=>?_) (fun z9 x8 h=>?_))
   ·refine bW ?_;refine dm ?_;refine dm ?_;refine db (l6 rfl) ?_;refine zi rfl rfl rfl (bG rfl) ⟨rfl,trivial⟩ (fun hb=>?_) (fun hb=>?_)
    ·replace h:=cr (mh hb) h;refine dt rfl rfl rfl rfl rfl (bG rfl) ⟨rfl,rfl,trivial⟩ ?_;refine dt rfl rfl rfl rfl rfl (bG rfl) ⟨rfl,rfl,trivial⟩ ?_;obtain⟨TP,x,h⟩:=ab h;refine j8 0 rfl rfl rfl rfl rfl rfl (a9 (t:=(.int .i64)) rfl fg dh x) ⟨rfl,rfl,rfl,trivial⟩ ?_;refine j8 0 rfl rfl rfl rfl rfl rfl (eu (i:=Int.toNat y6.2) (off:=0) rfl dh (fun _=>rfl) rfl (dM x).2.2 rfl) ⟨rfl,rfl,trivial⟩ ?_;refine dt rfl rfl rfl rfl rfl (bG rfl) ⟨rfl,rfl,trivial⟩ ?_;refine dt rfl rfl rfl rfl rfl (bG rfl) ⟨rfl,rfl,trivial⟩ ?_;obtain⟨TO,qt,h⟩:=ab h;refine dt rfl rfl rfl rfl rfl (f6 rfl qt) ⟨rfl,rfl,rfl,trivial⟩ ?_;obtain⟨TN,u,h⟩:=ab h;refine j8 0 rfl rfl rfl rfl rfl rfl (a9 (t:=(.int .i64)) rfl fg dh u) ⟨rfl,rfl,rfl,trivial⟩ ?_;refine j8 0 rfl rfl rfl rfl rfl rfl (eu (i:=Int.toNat TO) (off:=0) rfl dh (fun _=>rfl) rfl (dM u).2.2 rfl) ⟨rfl,rfl,trivial⟩ ?_;refine df eA ?_;obtain⟨F,se,h⟩:=ab h;refine gb (an [.tmp 23,.tmp 28] rfl rfl QB rfl (A3 k TP TN F se)) ?_;refine pt (nl ?_);exact jz ((),F) h [0]
    ·replace h:=bv (lw hb) h;iterate 9 refine dg ?_
     refine df eA ?_;refine gn ?_;refine pf (nl ?_);exact jz ((),false) h [0]
   ·refine cv h (fun h=>?_) (fun h=>?_)
    ·refine sk (ag (aj (ml ?_)));refine bX rfl rfl rfl (bG rfl) ⟨rfl,trivial⟩ ?_;refine bX rfl rfl rfl (bG rfl) ⟨rfl,trivial⟩ ?_;refine bX rfl rfl rfl (bG rfl) ⟨rfl,trivial⟩ ?_;refine bX rfl rfl rfl (bG rfl) ⟨rfl,trivial⟩ ?_;obtain⟨y,pp,h⟩:=ab h;refine bX rfl rfl rfl (f6 rfl pp) ⟨rfl,rfl,trivial⟩ ?_;refine bX rfl rfl rfl (bG rfl) ⟨rfl,trivial⟩ ?_;refine bX rfl rfl rfl (bG rfl) ⟨rfl,trivial⟩ ?_;obtain⟨TM,mc,h⟩:=ab h;refine bX rfl rfl rfl (f6 rfl mc) ⟨rfl,rfl,trivial⟩ ?_;obtain⟨E,s,h⟩:=ab h;refine gB 0 rfl rfl rfl rfl (a9 (t:=(.int .i64)) rfl fg dh s) ⟨rfl,rfl,trivial⟩ ?_;refine gB 0 rfl rfl rfl rfl (eu (i:=Int.toNat TM) (off:=0) rfl dh (fun _=>rfl) rfl (dM s).2.2 rfl) ⟨rfl,trivial⟩ ?_;refine bX rfl rfl rfl (bG rfl) ⟨rfl,trivial⟩ ?_;refine bX rfl rfl rfl (bG rfl) ⟨rfl,trivial⟩ ?_;obtain⟨D,l,h⟩:=ab h;refine gB 0 rfl rfl rfl rfl (a9 (t:=(.int .i64)) rfl fg dh l) ⟨rfl,rfl,trivial⟩ ?_;refine gB 0 rfl rfl rfl rfl (eu (i:=Int.toNat y6.2) (off:=0) rfl dh (fun _=>rfl) rfl (dM l).2.2 rfl) ⟨rfl,trivial⟩ ?_;obtain⟨Uj,j,h⟩:=ab h;refine gB 0 rfl rfl rfl rfl (a9 (t:=(.int .i64)) rfl fg dh j) ⟨rfl,rfl,trivial⟩ ?_;refine rM 15 [true,true,false,false,false,true,true,true,true,true,true,true,true,true,true] [48] [] [] rfl (by kernel_rfl) (by kernel_rfl) (by kernel_rfl) eA (fun vs hv hB=>?_);obtain⟨w0,Uz,rfl,Ua⟩:=aD hv;obtain⟨w1,Uy,rfl,T9⟩:=aD Ua;obtain⟨w2,Ux,rfl,T8⟩:=aD T9;obtain⟨w3,Uw,rfl,TZ⟩:=aD T8;obtain⟨w4,Uu,rfl,TY⟩:=aD TZ;obtain⟨w5,Ut,rfl,TX⟩:=aD TY;obtain⟨w6,Us,rfl,TU⟩:=aD TX;obtain⟨w7,Ur,rfl,TS⟩:=aD TU;obtain⟨w8,Up,rfl,TR⟩:=aD TS;obtain⟨w9,Uh,rfl,X⟩:=aD TR;obtain⟨Uo,Ug,rfl,U⟩:=aD X;obtain⟨Un,Uf,rfl,Q⟩:=aD U;obtain⟨Um,Ue,rfl,O⟩:=aD Q;obtain⟨Ul,Ud,rfl,M⟩:=aD O;obtain⟨Uk,Uc,rfl,J⟩:=aD M;obtain rfl:=ot J;refine⟨[0],[.sl c 3 (.int .i64) y6.1],by kernel_rfl,by decide,?_⟩;refine rL rfl rfl (c6 (i:=Int.toNat y6.2) rfl dh rfl (jw j) rfl .int rfl) ⟨rfl,rfl,trivial⟩ (by kernel_rfl) ?_;obtain⟨Ui,e,h⟩:=ab h;refine Jy rfl rfl rfl rfl (a9 (t:=(.int .i64)) rfl fg dh e) ⟨rfl,rfl,trivial⟩ (by kernel_rfl) ?_;refine rL rfl rfl (c6 (i:=Int.toNat y) rfl dh rfl (jw e) rfl .int rfl) ⟨rfl,rfl,trivial⟩ (by kernel_rfl) ?_;refine wo ?_;refine bL (SE.fin (Γ':=[(0,.eq c),(1,I a1),(2,I a2),(6,I y2.2),(7,I y6.2)]) (Δ':=[.sl c 3 (.int .i64) (List.set (List.set y6.1 (Int.toNat y6.2) E) (Int.toNat y) D)]) [0] ⟨rfl,rfl,rfl,rfl,rfl,trivial⟩ rfl) ?_;refine aG (tn (aa (mq ?_)));obtain⟨TL,ac,h⟩:=ab h;refine jb (f6 rfl ac) ?_;refine aq (nl ?_);exact jz ((),(List.set (List.set y6.1 (Int.toNat y6.2) E) (Int.toNat y) D,TL)) h [0]
    ·refine dJ (aR (aR (bR (bn ?_))));exact jz ((),y6.1) h [0]
  ·refine aa (mq ?_);obtain⟨TK,Y,h⟩:=ab h;refine jb (bg rfl Y) ?_;refine aq (nl ?_);exact jz ((),(x4,TK)) h [0]
 ·
  refine dJ (aR (aR (bR (jm ?_))));cases h;exact aL () [] 1 trivial rfl
def kY(k:Nat)(a0:Int):Option Int:=
 ((if 4294967296≤a0 then(some (iI .u64 a0 32,32)) else(some (a0,0))):Option (Int×Int)).bind fun x1=>
 ((if 65536≤x1.1 then((ck (x1.2+16)).bind fun x5=>
 some (iI .u64 x1.1 16,x5)) else(some (x1.1,x1.2))):Option (Int×Int)).bind fun x3=>
 ((if 256≤x3.1 then((ck (x3.2+8)).bind fun x8=>
 some (iI .u64 x3.1 8,x8)) else(some (x3.1,x3.2))):Option (Int×Int)).bind fun x6=>
 (CV KU (IntKind.u8.wrap x6.1)).bind fun x9=>
 (ck (x9.toNat:Int)).bind fun e=>
 (ck (x6.2+e)).bind fun c=>
 some c
theorem ry(k:Nat)(a0:Int)(r:Int)(h:kY k a0=some r):
 cu Tryz.prog 206 [.eq (.int .u64 a0)] [] (fun _:Unit=>(bq [I r],[])):=by
 unfold kY at h
 replace h:=be h
 refine cu.of 25 Tryz.func206 rfl Tryz.ntmps206 rfl fun S w0=>?_
 refine sr ?_
 refine cq ?_
 refine nt ?_
 refine aN (Z:=Unit) (α:=Int×Int) (fun z2 x1=>[(0,.eq (.int .u64 x1.1)),(2,I x1.2)]) (fun z2 x1=>[]) h (fun K h=>?_) (fun z2 x1 h=>?_)
 ·
  refine sr (mq ?_);refine jb (qK rfl) ?_;refine nt (ci h (fun h=>?_) (fun h=>?_))
  ·refine sr (mq ?_);refine aB rfl (vC rfl (by decide)) ⟨rfl,rfl,trivial⟩ ?_;refine aq (nt (aa ?_));refine cq (nl ?_);exact jz ((),(iI .u64 a0 32,32)) h []
  ·refine aV (ae ?_);exact jz ((),(a0,0)) h []
 ·
  refine aN (Z:=Unit) (α:=Int×Int) (fun z4 x3=>[(0,.eq (.int .u64 x3.1)),(2,I x3.2)]) (fun z4 x3=>[]) h (fun K h=>?_) (fun z4 x3 h=>?_)
  ·refine sr (mq ?_);refine jb (qK rfl) ?_;refine nt (ci h (fun h=>?_) (fun h=>?_))
   ·refine sr (mq ?_);refine aB rfl (vC rfl (by decide)) ⟨rfl,rfl,trivial⟩ ?_;refine aq (nt (aa ?_));refine mq ?_;obtain⟨x5,n,h⟩:=ab h;refine jb (bg rfl n) ?_;refine aq (nl ?_);exact jz ((),(iI .u64 x1.1 16,x5)) h []
   ·refine aV (ae ?_);exact jz ((),(x1.1,x1.2)) h []
  ·refine aN (Z:=Unit) (α:=Int×Int) (fun z7 x6=>[(0,.eq (.int .u64 x6.1)),(2,I x6.2)]) (fun z7 x6=>[]) h (fun K h=>?_) (fun z7 x6 h=>?_)
   ·refine sr (mq ?_);refine jb (qK rfl) ?_;refine nt (ci h (fun h=>?_) (fun h=>?_))
    ·refine sr (mq ?_);refine aB rfl (vC rfl (by decide)) ⟨rfl,rfl,trivial⟩ ?_;refine aq (nt (aa ?_));refine mq ?_;obtain⟨x8,l,h⟩:=ab h;refine jb (bg rfl l) ?_;refine aq (nl ?_);exact jz ((),(iI .u64 x3.1 8,x8)) h []
    ·refine aV (ae ?_);exact jz ((),(x3.1,x3.2)) h []
   ·refine sr ?_;iterate 2 refine mq ?_
    refine ja (pq rfl RI U5) ?_;obtain⟨x9,j,h⟩:=ab h;refine ja (zY rfl U9 j) ?_;obtain⟨u,e,h⟩:=ab h;refine ja (zZ rfl U5 U3 e) ?_;obtain⟨s,c,h⟩:=ab h;refine jb (bg rfl c) ?_;refine aq (nt (aA ?_));cases h;exact ra
def yX(k:Nat)(a0:Int):Option Int:=
 (kY k a0).bind fun r1=>
 some r1
theorem Dm(k:Nat)(a0:Int)(r:Int)(h:yX k a0=some r):
 cu Tryz.prog 185 [.eq (.int .u64 a0)] [] (fun _:Unit=>(bq [I r],[])):=by
 unfold yX at h
 replace h:=be h
 refine cu.of 8 Tryz.func185 rfl Tryz.ntmps185 rfl fun S w0=>?_
 refine sr ?_
 refine cq ?_
 refine nt ?_
 refine ag ?_
 refine JF (fun hb=>(by cases hb)) (fun hb=>?_)
 refine sk ?_
 refine sr ?_
 refine mq ?_
 obtain⟨r1,c,h⟩:=ab h
 have e:=ry k a0 r1 c
 refine ja (an [.tmp 6] rfl rfl QA rfl e) ?_
 refine aq ?_
 refine nt ?_
 refine aA ?_
 cases h
 exact ra
def fC(k:Nat)(a0:(List Int))(a1:Int)(a2:Int)(a3:Int):Nat→Unit→Option (List Int)
 |0,_=>none
 |n+1,y1=>
  (ck (a2 - a1)).bind fun x3=>
  if x3≤12 then((eG k a0 a1 a2).bind fun r4=>
  some r4) else(if a3=0 then(none) else(none))
def gX(k:Nat)(a0:(List Int))(a1:Int)(a2:Int)(a3:Int):Option (List Int):=
 fC k a0 a1 a2 a3 k ()
theorem mo(k:Nat)(a0:(List Int))(c:Value)(a1:Int)(a2:Int)(a3:Int)(r:(List Int))(h:gX k a0 a1 a2 a3=some r):
 cu Tryz.prog 184 [.eq c,I a1,I a2,I a3] [.sl c 3 (.int .i64) a0] (fun _:Unit=>(bq [],[.sl c 3 (.int .i64) r])):=by
 unfold gX at h
 replace h:=be h
 refine cu.of 134 Tryz.func184 rfl Tryz.ntmps184 rfl fun S w0=>?_
 refine sr ?_
 refine cq ?_
 refine nt ?_
 refine sr ?_
 refine cq ?_
 refine nt ?_
 refine aj ?_
 refine aI (fun z2 y1=>[(0,.eq c),(1,I a1),(2,I a2),(3,I a3),(8,.eq (.bool true)),(9,.eq (.bool true))]) (fun z2 y1=>[.sl c 3 (.int .i64) a0]) (fC k a0 a1 a2 a3) k () () (fun _=>rfl) h (SE.fin [0] ⟨rfl,rfl,rfl,rfl,rfl,rfl,trivial⟩ rfl) (fun n z2 y1 h=>?_)
 unfold fC at h
 refine aj ?_
 refine sr ?_
 iterate 2 refine mq ?_
 obtain⟨x3,e,h⟩:=ab h
 refine jb (f6 rfl e) ?_
 refine aq ?_
 refine nt ?_
 refine ag ?_
 refine sr ?_
 refine mq ?_
 refine jb (xf rfl) ?_
 refine nt ?_
 refine ci h (fun h=>?_) (fun h=>?_)
 ·
  refine sr ?_;iterate 3 refine mq ?_
  obtain⟨r4,j,h⟩:=ab h;refine kc (an [.tmp 24,.tmp 25,.tmp 26] rfl rfl QC rfl (j9 k a0 c a1 a2 r4 j)) ?_;refine nt (rx (bJ (aZ (bJ ?_))));cases h;exact aL () [] 1 trivial rfl
 ·
  refine sk (ag (sr (mq ?_)));refine jb (dw rfl) ?_;refine nt (ci h (fun h=>?_) (fun h=>?_))
  ·refine sr ?_;iterate 3 refine mq ?_
   cases h
  ·refine sk (ag (sr (mq ?_)));refine ja (ig rfl) ?_;refine nt (bu rfl (fun hb=>(by cases hb)) (fun hb=>?_));refine sk (sr ?_);iterate 3 refine mq ?_
   cases h
def nY(k:Nat)(a0:(List Int)):Option (List Int):=
 (yX k (IntKind.u64.wrap (a0.length:Int))).bind fun r1=>
 (gX k a0 0 (a0.length:Int) r1).bind fun r2=>
 some r2
theorem ux(k:Nat)(a0:(List Int))(c:Value)(r:(List Int))(h:nY k a0=some r):
 cu Tryz.prog 145 [.eq c] [.sl c 3 (.int .i64) a0] (fun _:Unit=>(bq [],[.sl c 3 (.int .i64) r])):=by
 unfold nY at h
 replace h:=be h
 refine cu.of 11 Tryz.func145 rfl Tryz.ntmps145 rfl fun S w0=>?_
 refine sr ?_
 refine mq ?_
 refine ka (dq rfl rfl fg) ?_
 refine aq ?_
 refine nt ?_
 refine aa ?_
 iterate 3 refine mq ?_
 refine ja (pq rfl U3 SR) ?_
 obtain⟨r1,j,h⟩:=ab h
 have n:=Dm k (IntKind.u64.wrap (a0.length:Int)) r1 j
 refine ja (an [.tmp 8] rfl rfl QE rfl n) ?_
 obtain⟨r2,e,h⟩:=ab h
 have l:=mo k a0 c 0 (a0.length:Int) r1 r2 e
 refine bV rfl rfl rfl (an [.tmp 5,.const (.int .i64 (0)),.tmp 6,.tmp 9] rfl rfl QF rfl l) ⟨rfl,rfl,rfl,rfl,trivial⟩ ?_
 refine ao ?_
 refine jm ?_
 cases h
 exact aL () [] 1 trivial rfl
def lS(k:Nat)(a0:(List Int)):Option (List Int):=
 (kX k a0).bind fun r1=>
 (nY k r1).bind fun r3=>
 some r3
theorem sb(k:Nat)(a0:(List Int))(c:Nat)(r:(List Int))(h:lS k a0=some r):
 cu Tryz.prog 108 [.eq (.func (.func 146) #[] #[(Pv c)])] [.obj c 23 (Ri a0)] (fun _:Unit=>(bq [Ri r],[.obj c 23 (Ri a0)])):=by
 unfold lS at h
 replace h:=be h
 refine cu.of 9 Tryz.func108 rfl Tryz.ntmps108 rfl fun S w0=>?_
 refine sr ?_
 refine cq ?_
 refine nt ?_
 refine sr ?_
 refine mq ?_
 obtain⟨r1,j,h⟩:=ab h
 have n:=qY k a0 c r1 j
 refine bC (Δ:=[_]) (F:=_) (fun _ _ _=>au rfl _) rfl rfl (an [.tmp 4] rfl rfl QN rfl n) ⟨rfl,trivial⟩ fun z2=>?_
 refine aq ?_
 refine nt ?_
 refine sr ?_
 refine mq ?_
 obtain⟨r3,e,h⟩:=ab h
 have l:=ux k r1 z2 r3 e
 refine ka (an [.tmp 6] rfl rfl QM rfl l) ?_
 refine nt ?_
 refine sr ?_
 refine mq ?_
 refine aq ?_
 refine nt ?_
 refine aA ?_
 refine bL (gx [2,3,5,6,8] ⟨rfl,rfl,rfl,rfl,rfl,trivial⟩) ?_
 cases h
 exact aL () [_] 1 ⟨rfl,trivial⟩ rfl
theorem sa(a0:(List Int)):cu Tryz.prog 109 [Ri a0] [] (fun z:Nat=>(bq [.eq (.func (.func 146) #[] #[(Pv z)])],[.obj z 23 (Ri a0)])):=by
 refine cu.of 4 Tryz.func109 rfl Tryz.ntmps109 rfl fun S w0=>?_;refine sr (bx fun z=>?_);refine cq (nt (sr ?_));refine ja (tD [] [.tmp 1] [] [(Pv z)] rfl rfl rfl) ?_;refine aq (nt (aA ?_));exact aL z [_] 1 ⟨rfl,trivial⟩ rfl
def bN{σ:Type}(k:Nat)(a0:(List (List Int)))(a1:Int)(a2:Int)(a3:dj)(self:(List (List Int))→Int→Int→σ→Option (Bool×σ))(h:(List Int)):Nat→(Int×σ)→Option (Except (Bool×σ) (σ))
 |0,_=>none
 |n+1,c=>
  if c.1 < (a3.1.2.1.length:Int) then(bE (α:=σ) ((bf a3.1.2.1 c.1).bind fun y=>
  (((dW k a2 c.1).bind fun I=>
  if I=true then(some (true,c.2)) else((nq k a3.1 h).bind fun F=>
  (ck (F+y.1)).bind fun x=>
  (bf a3.1.2.2 a1).bind fun u=>
  some (decide (u < x),c.2))):Option (Bool×σ)).bind fun j=>
  if j.1=true then(some (.ok j.2)) else((eM (0≤a1∧a1 < 3)).bind fun _=>
  (bf a0 a1).bind fun s=>
  (eM (0≤(h.length:Int)∧(h.length:Int) < 5)).bind fun _=>
  (dR k a2 c.1).bind fun E=>
  (self (List.set a0 (Int.toNat a1) (List.set s (Int.toNat (h.length:Int)) c.1)) a1 E j.2).bind fun l=>
  if¬(l.1=true) then(some (.error (false,l.2))) else(some (.ok l.2)))) (fun e=>some (.error e)) fun D=>
  (ck (c.1+1)).bind fun r=>
  bN k a0 a1 a2 a3 self h n (r,D)) else(some (.ok c.2))
def bK{σ:Type}(k:Nat)(Y:σ→(List (List Int))→Option (σ×Bool))(a3:dj):Nat→(List (List Int))→Int→Int→σ→Option (Bool×σ)
 |0,_,_,_,_=>none
 |m0+1,a0,a1,a2,s0=>
  if a1=(a3.1.2.2.length:Int) then((((eM (0≤(a3.1.2.1.length:Int))).bind fun _=>
  if¬(a2=(IntKind.u8.wrap ((m5 .u8 1 (a3.1.2.1.length:Int)) - 1))) then(some (true,s0)) else((Y s0 a0).bind fun r5=>
  some (r5.2,r5.1))):Option (Bool×σ)).bind fun x2=>
  some (x2.1,x2.2)) else((ck (a1+1)).bind fun x7=>
  ((bK k Y a3 m0) a0 x7 a2 s0).bind fun r8=>
  if¬(r8.1=true) then(some (false,r8.2)) else((dS k a0 a1).bind fun e=>
  bE (α:=σ) (bN k a0 a1 a2 a3 (bK k Y a3 m0) e k (0,r8.2)) (some) fun c=>
  some (true,c)))
theorem mX{M:Md Tryz.prog}{σ Z:Type}(E:Z→σ→List D)(l:Nat)(Y:σ→(List (List Int))→Option (σ×Bool))(k:Nat)(a3:dj)(u:Nat)(x:Nat)(c:Nat)(hY:∀z s p r,Y s p=some r→YT M l [.rep (.arr 3 (.arr 5 (.int .i64))) p] (E z s) (fun z':Z=>(.eq (.bool r.2),E z' r.1))):
 ∀(n:Nat) (a0:(List (List Int))) (a1:Int) (a2:Int) (z0:Z) (s0:σ) (r:Bool×σ),bK k Y a3 n a0 a1 a2 s0=some r→dc M 149 [.rep (.arr 3 (.arr 5 (.int .i64))) a0,I a1,.eq (.int .u8 a2),Pt u,Pt x,Pt c] ([.obj u 102 (.at bj a3),.obj x 210 (.eq (.func (.yield l) #[] #[])),.obj c 211 (.eq (.func (.func 149) #[] #[(Pv u),(Pv x),(Pv c)]))]++E z0 s0) (fun z:Z=>(bq [.eq (.bool r.1)],[.obj u 102 (.at bj a3),.obj x 210 (.eq (.func (.yield l) #[] #[])),.obj c 211 (.eq (.func (.func 149) #[] #[(Pv u),(Pv x),(Pv c)]))]++E z r.2)):=by
 intro n
 induction n with
 |zero=>intro a0 a1 a2 z0 s0 r h;cases h
 |succ m0 ih=>
  intro a0 a1 a2 z0 s0 r h;rw [bK] at h;replace h:=be h;refine dc.of 97 Tryz.func149 rfl Tryz.ntmps149 rfl fun S w0=>?_;refine sr (bx fun b1=>?_);refine cq (nt (ag (sr ?_)));refine mq ?_;refine fr 1 ?_;refine lo k7 ?_;refine ja (dK rfl) ?_;refine ja (aM 3 true rfl jX rfl) ?_;refine ja (aM 1 false rfl d4 rfl) ?_;refine ja (ar (t:=(.slice (.int .i64))) rfl co rfl) ?_;refine ol fg ?_;refine jb (dw rfl) ?_;refine nt (ci h (fun h=>?_) (fun h=>?_))
  ·refine aN (Z:=Z) (α:=Bool×σ) (fun z3 x2=>[(9,.eq (.bool x2.1))]) (fun z3 x2=>[.obj u 102 (.at bj a3),.obj x 210 (.eq (.func (.yield l) #[] #[])),.obj c 211 (.eq (.func (.func 149) #[] #[(Pv u),(Pv x),(Pv c)]))]++E z3 x2.2) h (fun K h=>?_) (fun z3 x2 h=>?_)
   ·refine aa (mq ?_);refine lo k7 ?_;refine ja (dK rfl) ?_;refine ja (aM 3 true rfl jX rfl) ?_;refine ja (aM 1 false rfl fX rfl) ?_;refine ja (ar (t:=(.slice bS)) rfl mZ rfl) ?_;refine ol wP ?_;obtain⟨u4,Ui,h⟩:=ab h;refine jb (Hj rfl (aE Ui)) ?_;refine jb (Hi rfl) ?_;refine jb (jd rfl) ?_;refine mq ?_;refine bF (s:=32) rfl (fun hb=>?_) (fun hb=>?_)
    ·replace h:=cr (PZ hb) h;iterate 3 refine gn ?_
     refine pt ?_;refine aq (nl ?_);exact i7 (z0,(true,s0)) h (bM [.obj u 102 (.at bj a3),.obj b1 107 (.rep (.arr 3 (.arr 5 (.int .i64))) a0),.obj x 210 (.eq (.func (.yield l) #[] #[])),.obj c 211 (.eq (.func (.func 149) #[] #[(Pv u),(Pv x),(Pv c)]))] (E z0 s0) [0,2,3] ⟨rfl,trivial⟩ rfl)
    ·replace h:=bv (HV hb) h;refine fr 2 ?_;refine hQ rfl rfl rfl rfl rfl rfl (ak rfl PN kV rfl) ⟨rfl,trivial⟩ ?_;refine fr 2 ?_;refine hQ rfl rfl rfl rfl rfl rfl (ak rfl cF (xj) rfl) ⟨rfl,trivial⟩ ?_;obtain⟨r5,Uk,h⟩:=ab h;refine fr 3 ?_;refine fr 3 ?_;refine fr 3 ?_;refine fr 3 ?_;refine Gg [.obj b1 107 (.rep (.arr 3 (.arr 5 (.int .i64))) a0),.obj x 210 (.eq (.func (.yield l) #[] #[])),.obj u 102 (.at bj a3),.obj c 211 (.eq (.func (.func 149) #[] #[(Pv u),(Pv x),(Pv c)]))] rfl rfl rfl rfl rfl rfl (yp [.tmp 34] rfl rfl rfl (hY z0 s0 a0 r5 Uk)) ⟨rfl,rfl,trivial⟩ fun z6=>?_;refine pf ?_;refine aq (nl ?_);exact i7 (z6,(r5.2,r5.1)) h (bM [.obj b1 107 (.rep (.arr 3 (.arr 5 (.int .i64))) a0),.obj x 210 (.eq (.func (.yield l) #[] #[])),.obj u 102 (.at bj a3),.obj c 211 (.eq (.func (.func 149) #[] #[(Pv u),(Pv x),(Pv c)]))] (E z6 r5.1) [2,1,3] ⟨rfl,trivial⟩ rfl)
   ·refine rx ?_;cases h;exact ia z3 [_] ⟨rfl,trivial⟩ rfl
  ·refine sk (ag (sr (fr 3 ?_)));refine lo DI ?_;refine fr 2 ?_;refine lo cF ?_;refine mq ?_;obtain⟨x7,Uh,h⟩:=ab h;refine jb (bg rfl Uh) ?_;refine mq ?_;obtain⟨r8,Uj,h⟩:=ab h;refine fr 1 ?_;refine fr 3 ?_;refine fr 3 ?_;refine fr 3 ?_;refine pU [.obj b1 107 (.rep (.arr 3 (.arr 5 (.int .i64))) a0)] rfl rfl rfl (pu (fs:=[]) (cs:=[(Pv u),(Pv x),(Pv c)]) (ags:=[.rep (.arr 3 (.arr 5 (.int .i64))) a0,I x7,.eq (.int .u8 a2)]) [.tmp 38,.tmp 40,.tmp 41] rfl rfl I4 rfl (ih a0 x7 a2 z0 s0 r8 Uj)) ⟨rfl,rfl,rfl,rfl,trivial⟩ fun z9=>?_;refine ja (ig rfl) ?_;refine nt (cw h (fun h=>?_) (fun h=>?_))
   ·refine sr (cq (nt (rx ?_)));refine bL (bM (Γ':=[(9,_)]) [.obj b1 107 (.rep (.arr 3 (.arr 5 (.int .i64))) a0),.obj u 102 (.at bj a3),.obj x 210 (.eq (.func (.yield l) #[] #[])),.obj c 211 (.eq (.func (.func 149) #[] #[(Pv u),(Pv x),(Pv c)]))] (E z9 r8.2) [1,2,3] ⟨rfl,trivial⟩ rfl) ?_;cases h;exact ia z9 [_] ⟨rfl,trivial⟩ rfl
   ·refine sk (sr (lo cF ?_));refine mq ?_;obtain⟨F,Ua,h⟩:=ab h;refine jb (an [.tmp 44,.tmp 45] rfl rfl Em rfl (ge k a0 a1 F Ua)) ?_;refine aq (nt ?_);refine fP (Z:=Z) (α:=σ) (fun qt TL=>[]) (fun qt TL=>[.obj u 102 (.at bj a3),.obj x 210 (.eq (.func (.yield l) #[] #[])),.obj c 211 (.eq (.func (.func 149) #[] #[(Pv u),(Pv x),(Pv c)]))]++E qt TL) (fun e=>e=r) h (fun e h=>Option.some.inj h) (fun K hR h=>?_) (fun qt TL h=>?_)
    ·refine sr (fr 1 ?_);refine lo k7 ?_;refine ja (dK rfl) ?_;refine ja (aM 3 true rfl jX rfl) ?_;refine ja (aM 1 false rfl fX rfl) ?_;refine ja (ar (t:=(.slice bS)) rfl mZ rfl) ?_;refine ol wP ?_;refine eD rfl ?_;refine nt (aj (aI (Z:=Z) (α:=Int×σ) (fun J y=>[(1,I a1),(2,.eq (.int .u8 a2)),(3,Pt u),(5,Pt c),(6,Pt b1),(10,Ri F),(51,Rs bS a3.1.2.1),(52,I (a3.1.2.1.length:Int)),(53,I y.1)]) (fun J y=>[.obj u 102 (.at bj a3),.obj c 211 (.eq (.func (.func 149) #[] #[(Pv u),(Pv x),(Pv c)])),.obj x 210 (.eq (.func (.yield l) #[] #[])),.obj b1 107 (.rep (.arr 3 (.arr 5 (.int .i64))) a0)]++E J y.2) (bN k a0 a1 a2 a3 (bK k Y a3 m0) F) k z9 (0,r8.2) (fun _=>rfl) h (bM [.obj u 102 (.at bj a3),.obj b1 107 (.rep (.arr 3 (.arr 5 (.int .i64))) a0),.obj x 210 (.eq (.func (.yield l) #[] #[])),.obj c 211 (.eq (.func (.func 149) #[] #[(Pv u),(Pv x),(Pv c)]))] (E z9 r8.2) [0,3,2,1] ⟨rfl,rfl,rfl,rfl,rfl,rfl,rfl,rfl,rfl,trivial⟩ rfl) (fun n J y h=>?_)));unfold bN at h;refine sr (jb (bm rfl) ?_);refine nt (ag (ci h (fun h=>?_) (fun h=>?_)))
     ·refine sk (fP (Z:=Z) (α:=σ) (fun X mc=>[(1,I a1),(2,.eq (.int .u8 a2)),(3,Pt u),(5,Pt c),(6,Pt b1),(10,Ri F),(51,Rs bS a3.1.2.1),(52,I (a3.1.2.1.length:Int)),(53,I y.1)]) (fun X mc=>[.obj u 102 (.at bj a3),.obj c 211 (.eq (.func (.func 149) #[] #[(Pv u),(Pv x),(Pv c)])),.obj x 210 (.eq (.func (.yield l) #[] #[])),.obj b1 107 (.rep (.arr 3 (.arr 5 (.int .i64))) a0)]++E X mc) (fun e=>e=r) h (fun e h=>hR e h) (fun K hR h=>?_) (fun X mc h=>?_))
      ·refine aj (sr (mq ?_));obtain⟨TO,TX,h⟩:=ab h;refine jb (ba (t:=bS) rfl wP nW TX) ?_;refine ja (ar (t:=bS) rfl nW rfl) ?_;refine aw rfl rfl rfl (aP rfl uR LP) trivial fun Ub=>?_;refine aq ?_;refine aS rfl rfl (aO rfl nW rfl rfl rfl) ⟨rfl,rfl,trivial⟩ ?_;refine nt (ag (aN (Z:=Z) (α:=Bool×σ) (fun U O=>[(1,I a1),(2,.eq (.int .u8 a2)),(3,Pt u),(5,Pt c),(6,Pt b1),(10,Ri F),(11,I y.1),(51,Rs bS a3.1.2.1),(52,I (a3.1.2.1.length:Int)),(53,I y.1),(80,.eq (.bool O.1))]) (fun U O=>[.obj u 102 (.at bj a3),.obj c 211 (.eq (.func (.func 149) #[] #[(Pv u),(Pv x),(Pv c)])),.obj x 210 (.eq (.func (.yield l) #[] #[])),.obj b1 107 (.rep (.arr 3 (.arr 5 (.int .i64))) a0)]++E U O.2) h (fun K h=>?_) (fun U O h=>?_)))
       ·refine bW ?_;refine dm ?_;refine dm ?_;obtain⟨Ug,T9,h⟩:=ab h;refine db (an [.tmp 58,.tmp 59] rfl rfl Lu rfl (iM k a2 y.1 Ug T9)) ?_;refine zi rfl rfl rfl (bG rfl) ⟨rfl,trivial⟩ (fun hb=>?_) (fun hb=>?_)
        ·replace h:=cr (Bv hb) h;iterate 17 refine dg ?_
         refine df eA ?_;refine gn ?_;refine pt (nl ?_);exact i7 (J,(true,y.2)) h (bM [.obj Ub 27 (.rep bS TO),.obj u 102 (.at bj a3),.obj c 211 (.eq (.func (.func 149) #[] #[(Pv u),(Pv x),(Pv c)])),.obj x 210 (.eq (.func (.yield l) #[] #[])),.obj b1 107 (.rep (.arr 3 (.arr 5 (.int .i64))) a0)] (E J y.2) [1,2,3,4] ⟨rfl,rfl,rfl,rfl,rfl,rfl,rfl,rfl,rfl,rfl,rfl,trivial⟩ rfl)
        ·replace h:=bv (Bw hb) h;refine j8 1 rfl rfl rfl rfl rfl rfl (ak rfl k7 kV rfl) ⟨rfl,rfl,trivial⟩ ?_;refine dt rfl rfl rfl rfl rfl (dK rfl) ⟨rfl,rfl,trivial⟩ ?_;refine dt rfl rfl rfl rfl rfl (aM 3 true rfl jX rfl) ⟨rfl,rfl,trivial⟩ ?_;refine dt rfl rfl rfl rfl rfl (ar (t:=aF) rfl gC rfl) ⟨rfl,rfl,trivial⟩ ?_;refine dt rfl rfl rfl rfl rfl (bG rfl) ⟨rfl,rfl,trivial⟩ ?_;obtain⟨Uf,T8,h⟩:=ab h;refine dt rfl rfl rfl rfl rfl (an [.tmp 65,.tmp 66] rfl rfl MV rfl (t9 k a3.1 F Uf T8)) ⟨rfl,rfl,rfl,trivial⟩ ?_;refine dt rfl rfl rfl rfl rfl (av rfl tU) ⟨rfl,rfl,trivial⟩ ?_;refine j8 0 rfl rfl rfl rfl rfl rfl (ak rfl dh kV rfl) ⟨rfl,rfl,trivial⟩ ?_;obtain⟨Ue,TU,h⟩:=ab h;refine dt rfl rfl rfl rfl rfl (bg rfl TU) ⟨rfl,rfl,rfl,trivial⟩ ?_;refine j8 1 rfl rfl rfl rfl rfl rfl (ak rfl k7 kV rfl) ⟨rfl,rfl,trivial⟩ ?_;refine dt rfl rfl rfl rfl rfl (dK rfl) ⟨rfl,rfl,trivial⟩ ?_;refine dt rfl rfl rfl rfl rfl (aM 3 true rfl jX rfl) ⟨rfl,rfl,trivial⟩ ?_;refine dt rfl rfl rfl rfl rfl (aM 1 false rfl d4 rfl) ⟨rfl,rfl,trivial⟩ ?_;refine dt rfl rfl rfl rfl rfl (ar (t:=(.slice (.int .i64))) rfl co rfl) ⟨rfl,rfl,trivial⟩ ?_;refine dt rfl rfl rfl rfl rfl (bG rfl) ⟨rfl,rfl,trivial⟩ ?_;obtain⟨Ud,TS,h⟩:=ab h;refine dt rfl rfl rfl rfl rfl (ba (t:=(.int .i64)) rfl fg dh TS) ⟨rfl,rfl,rfl,trivial⟩ ?_;refine dt rfl rfl rfl rfl rfl (ar (t:=(.int .i64)) rfl dh rfl) ⟨rfl,rfl,trivial⟩ ?_;refine df eA ?_;refine gb (l6 rfl) ?_;refine pf (nl ?_);exact i7 (J,(decide (Ud < Ue),y.2)) h (bM [.obj Ub 27 (.rep bS TO),.obj u 102 (.at bj a3),.obj c 211 (.eq (.func (.func 149) #[] #[(Pv u),(Pv x),(Pv c)])),.obj x 210 (.eq (.func (.yield l) #[] #[])),.obj b1 107 (.rep (.arr 3 (.arr 5 (.int .i64))) a0)] (E J y.2) [1,2,3,4] ⟨rfl,rfl,rfl,rfl,rfl,rfl,rfl,rfl,rfl,rfl,rfl,trivial⟩ rfl)
       ·refine cv h (fun h=>?_) (fun h=>?_)
        ·refine dJ (aR (bR (ae ?_)));exact i7 (U,O.2) h (bM [.obj u 102 (.at bj a3),.obj c 211 (.eq (.func (.func 149) #[] #[(Pv u),(Pv x),(Pv c)])),.obj x 210 (.eq (.func (.yield l) #[] #[])),.obj b1 107 (.rep (.arr 3 (.arr 5 (.int .i64))) a0)] (E U O.2) [0,1,2,3] ⟨rfl,rfl,rfl,rfl,rfl,rfl,rfl,rfl,rfl,trivial⟩ rfl)
        ·refine sk (sr (fr 3 ?_));refine lo cF ?_;refine aw rfl rfl rfl (aP rfl kZ lg) trivial fun TN=>?_;refine aS rfl rfl (aO rfl cF rfl rfl rfl) ⟨rfl,rfl,trivial⟩ ?_;refine nt (sr ?_);iterate 2 refine mq ?_
         refine ol fg ?_;refine mq ?_;obtain⟨Um,TK,h⟩:=ab h;refine jb (gP rfl F5 ub (aE TK).1 (aE TK).2) ?_;obtain⟨ac,TR,h⟩:=ab h;obtain⟨Ul,Q,h⟩:=ab h;refine jb (gP rfl LW dh (aE Q).1 (aE Q).2) ?_;refine aS rfl rfl (oe (t:=(.int .i64)) (off:=0) (i:=a1) (j:=(F.length:Int)) (N:=3) (L:=5) rfl dh .int rfl rfl rfl rfl TR (aE Q).1 (aE Q).2 rfl) ⟨rfl,rfl,trivial⟩ ?_;refine nt (ag (bW ?_));refine ea 3 (ak rfl DI kV rfl) ?_;refine ea 0 (ak rfl cF (xj) rfl) ?_;refine dm ?_;refine dm ?_;refine dm ?_;obtain⟨TM,TZ,h⟩:=ab h;refine db (an [.tmp 91,.tmp 92] rfl rfl Ej rfl (jp k a2 y.1 TM TZ)) ?_;refine df eA ?_;obtain⟨se,TY,h⟩:=ab h;refine fr 3 ?_;refine fr 4 ?_;refine fr 4 ?_;refine fr 4 ?_;refine fr 4 ?_;refine pU [.obj TN 107 (.rep (.arr 3 (.arr 5 (.int .i64))) (List.set a0 (Int.toNat a1) (List.set ac (Int.toNat (F.length:Int)) y.1))),.obj b1 107 (.rep (.arr 3 (.arr 5 (.int .i64))) a0)] rfl rfl rfl (pu (fs:=[]) (cs:=[(Pv u),(Pv x),(Pv c)]) (ags:=[.rep (.arr 3 (.arr 5 (.int .i64))) (List.set a0 (Int.toNat a1) (List.set ac (Int.toNat (F.length:Int)) y.1)),I a1,.eq (.int .u8 TM)]) [.tmp 89,.tmp 90,.tmp 93] rfl rfl I4 rfl (ih (List.set a0 (Int.toNat a1) (List.set ac (Int.toNat (F.length:Int)) y.1)) a1 TM U O.2 se TY)) ⟨rfl,rfl,rfl,rfl,trivial⟩ fun pp=>?_;refine ja (ig rfl) ?_;refine nt (cw h (fun h=>?_) (fun h=>?_))
         ·refine sr (cq (nt (aA (br (bJ (aZ ?_))))));refine bL (bM (Γ':=[(9,_)]) [.obj TN 107 (.rep (.arr 3 (.arr 5 (.int .i64))) (List.set a0 (Int.toNat a1) (List.set ac (Int.toNat (F.length:Int)) y.1))),.obj b1 107 (.rep (.arr 3 (.arr 5 (.int .i64))) a0),.obj u 102 (.at bj a3),.obj x 210 (.eq (.func (.yield l) #[] #[])),.obj c 211 (.eq (.func (.func 149) #[] #[(Pv u),(Pv x),(Pv c)]))] (E pp se.2) [2,3,4] ⟨rfl,trivial⟩ rfl) ?_;obtain rfl:=hR _ h;exact ia pp [_] ⟨rfl,trivial⟩ rfl
         ·refine aV (bn ?_);exact i7 (pp,se.2) h (bM [.obj TN 107 (.rep (.arr 3 (.arr 5 (.int .i64))) (List.set a0 (Int.toNat a1) (List.set ac (Int.toNat (F.length:Int)) y.1))),.obj b1 107 (.rep (.arr 3 (.arr 5 (.int .i64))) a0),.obj u 102 (.at bj a3),.obj x 210 (.eq (.func (.yield l) #[] #[])),.obj c 211 (.eq (.func (.func 149) #[] #[(Pv u),(Pv x),(Pv c)]))] (E pp se.2) [2,4,3,1] ⟨rfl,rfl,rfl,rfl,rfl,rfl,rfl,rfl,rfl,trivial⟩ rfl)
      ·refine aa ?_;obtain⟨Uc,TP,h⟩:=ab h;refine jb (bg rfl TP) ?_;refine mq (nl ?_);exact i7 (X,(Uc,mc)) h (bM [.obj u 102 (.at bj a3),.obj c 211 (.eq (.func (.func 149) #[] #[(Pv u),(Pv x),(Pv c)])),.obj x 210 (.eq (.func (.yield l) #[] #[])),.obj b1 107 (.rep (.arr 3 (.arr 5 (.int .i64))) a0)] (E X mc) [0,1,2,3] ⟨rfl,rfl,rfl,rfl,rfl,rfl,rfl,rfl,rfl,trivial⟩ rfl)
     ·refine xa ?_;exact i7 (J,y.2) h (bM [.obj u 102 (.at bj a3),.obj c 211 (.eq (.func (.func 149) #[] #[(Pv u),(Pv x),(Pv c)])),.obj x 210 (.eq (.func (.yield l) #[] #[])),.obj b1 107 (.rep (.arr 3 (.arr 5 (.int .i64))) a0)] (E J y.2) [0,2,1] trivial rfl)
    ·refine sr (cq (nt (aA ?_)));cases h;exact ia qt [_] ⟨rfl,trivial⟩ rfl
def cV{σ:Type}(k:Nat)(Y:σ→(List (List Int))→Option (σ×Bool))(a1:dj)(s0:σ):Option (σ):=
 (dB k ([]:(List (List Int)))).bind fun r2=>
 (bK k Y a1 k r2 0 0 s0).bind fun r5=>
 some r5.2
theorem gU{M:Md Tryz.prog}{σ Z:Type}(E:Z→σ→List D)(l:Nat)(Y:σ→(List (List Int))→Option (σ×Bool))(k:Nat)(a1:dj)(c:Nat)(hY:∀z s p r,Y s p=some r→YT M l [.rep (.arr 3 (.arr 5 (.int .i64))) p] (E z s) (fun z':Z=>(.eq (.bool r.2),E z' r.1))):
 ∀(z0:Z) (s0:σ) (r:σ),cV k Y a1 s0=some r→dc M 148 [.eq (.func (.yield l) #[] #[]),Pt c] ([.obj c 102 (.at bj a1)]++E z0 s0) (fun z:Z=>(bq [],[.obj c 102 (.at bj a1)]++E z r)):=by
 intro z0 s0 r h
 unfold cV at h
 replace h:=be h
 refine dc.of 10 Tryz.func148 rfl Tryz.ntmps148 rfl fun S w0=>?_
 refine sr ?_
 refine bx fun b1=>?_
 refine nt ?_
 refine sr ?_
 obtain⟨r2,j,h⟩:=ab h
 have u:=dX k ([]:(List (List Int))) r2 j
 refine ja (cH (N:=[(.const (.slice none 0 0),.eq (.slice none 0 0))]) (an [.const (.slice none 0 0)] rfl rfl Da rfl u) fun _ _ _ hn=>⟨(gl (t:=(.slice (.slice (.int .i64)))) (x:=([]:(List (List Int)))) .nil rfl rfl hn.1),trivial⟩) ?_
 refine aw rfl rfl rfl (aP rfl kZ lg) trivial fun b3=>?_
 refine aS rfl rfl (aO rfl cF rfl rfl rfl) ⟨rfl,rfl,trivial⟩ ?_
 refine nt ?_
 refine sr ?_
 refine aw rfl rfl rfl (aP rfl Pi Q9) trivial fun b4=>?_
 refine nt ?_
 refine sr ?_
 refine jc (tD [] [.tmp 1,.tmp 2,.tmp 4] [] [(Pv c),(Pv b1),(Pv b4)] rfl rfl rfl) ?_
 refine aS rfl rfl (aO rfl DI rfl rfl rfl) ⟨rfl,rfl,trivial⟩ ?_
 refine nt ?_
 refine aa ?_
 refine lo DI ?_
 refine fr 1 ?_
 refine lo cF ?_
 obtain⟨r5,e,h⟩:=ab h
 have n:=mX E l Y k a1 c b1 b4 hY k r2 0 0 z0 s0 r5 e
 refine fr 1 ?_
 refine fr 2 ?_
 refine fr 3 ?_
 refine fr 3 ?_
 refine pU [.obj b3 107 (.rep (.arr 3 (.arr 5 (.int .i64))) r2)] rfl rfl rfl (pu (fs:=[]) (cs:=[(Pv c),(Pv b1),(Pv b4)]) (ags:=[.rep (.arr 3 (.arr 5 (.int .i64))) r2,I 0,.eq (.int .u8 0)]) [.tmp 8,.const (.int .i64 (0)),.const (.int .u8 (0))] rfl rfl I4 rfl n) ⟨rfl,rfl,rfl,rfl,trivial⟩ fun z6=>?_
 refine ao ?_
 refine jm ?_
 refine bL (bM (Γ':=[]) [.obj b3 107 (.rep (.arr 3 (.arr 5 (.int .i64))) r2),.obj c 102 (.at bj a1),.obj b1 210 (.eq (.func (.yield l) #[] #[])),.obj b4 211 (.eq (.func (.func 149) #[] #[(Pv c),(Pv b1),(Pv b4)]))] (E z6 r5.2) [1] trivial rfl) ?_
 cases h
 exact ia z6 [] trivial rfl
def g7(k:Nat)(a1:dj):Option (List (List (List Int))):=
 (cV k (jS (fun(y2:(List (List (List Int)))) (p4:(List (List Int)))=>
  (eM (bY (List.length y2+List.length [p4]))).bind fun _=>
  some (y2++[p4],true))) a1 (([]:(List (List (List Int)))),false)).bind fun r5=>
 if r5.2=true then(none) else(some r5.1)
theorem oS(k:Nat)(a1:dj)(c:Nat)(r:(List (List (List Int))))(h:g7 k a1=some r):
 cu Tryz.prog 147 [.eq (.slice none 0 0),.eq (.func (.func 148) #[] #[(Pv c)])] [.obj c 102 (.at bj a1)] (fun z:Value=>(bq [.eq z],[.sl z 107 (.arr 3 (.arr 5 (.int .i64))) r,.obj c 102 (.at bj a1)])):=by
 unfold g7 at h
 replace h:=be h
 refine zj 13 Tryz.func147 rfl Tryz.ntmps147 rfl fun {M} S w0=>?_
 refine sr ?_
 refine bx fun b1=>?_
 refine cq ?_
 refine nt ?_
 refine ag ?_
 refine sr ?_
 refine mq ?_
 refine nt ?_
 refine aj ?_
 refine fw (SE.nil 107 (.arr 3 (.arr 5 (.int .i64)))) ?_
 refine ct 1 rfl ?_
 refine ct 2 rfl ?_
 obtain⟨r5,j,h⟩:=ab h
 refine j0 (Δ:=[.obj c 102 (.at bj a1),.obj b1 152 (.eq (.slice none 0 0)),.sl (.slice none 0 0) 107 (.arr 3 (.arr 5 (.int .i64))) ([]:(List (List (List Int))))]) (F:=[]) (X:=Value) (J:=fun _=>CU r5.2) (E:=fun z3=>[.obj c 102 (.at bj a1),.obj b1 152 (.eq z3),.sl z3 107 (.arr 3 (.arr 5 (.int .i64))) r5.1]) (r0:=fun _=>.tup .any) rfl rfl I5 (fun rec hp ha hb hs hpe hN hv l=>?_) (fun dl z3=>lP (fun hj=>?_) (fun hj=>?_))
 ·
  rcases rec with⟨st0,pe0,fn0,tm0,ps0,as0,bd0,df0⟩;dsimp only at hp ha hb hs hpe hN hv;subst hp hs hpe;have vN:t5 tm0 [(2,Pt b1)]:=⟨congrArg A.eq (hv 2 _ rfl).symm,trivial⟩;refine dc.pick (M:=M) [1,0,2,3] [1,0,2,3] (gU (fun(z3:Value) (q:(List (List (List Int)))×Bool)=>[.raw l (.loop (iq ⟨.ready,none,fn0,tm0, #[7],as0,bd0,df0⟩ (CU q.2))),.obj b1 152 (.eq z3),.sl z3 107 (.arr 3 (.arr 5 (.int .i64))) q.1]) l (jS (fun(y2:(List (List (List Int)))) (p4:(List (List Int)))=>
  (eM (bY (List.length y2+List.length [p4]))).bind fun _=>
  some (y2++[p4],true))) k a1 c (fun z3 q p r' h=>?_) (.slice none 0 0) (([]:(List (List (List Int)))),false) r5 j) rfl (fun _=>rfl) (fun _=>rfl)
  obtain⟨rq,hq,h2,rfl⟩:=lQ h;obtain⟨y2,b5⟩:=q;obtain rfl:b5=false:=hq;replace h:=be h2;obtain⟨p4,hpv⟩:∃x,x=p:=⟨_,rfl⟩;subst hpv;refine YT.pick (R':=(fun z3:Value=>(.eq (.bool rq.2),[.raw l (.loop (iq ⟨.ready,none,fn0,tm0, #[7],as0,bd0,df0⟩ (CU (!rq.2)))),.obj b1 152 (.eq z3),.sl z3 107 (.arr 3 (.arr 5 (.int .i64))) rq.1]))) [0,1,2] [0,1,2] (zb ha hb (N:=13) (Γ:=[(2,Pt b1)]) rfl hN (by decide) vN (fun S w=>?_)) rfl (fun _=>rfl) (fun _=>rfl);refine aa (aw rfl rfl rfl (aP rfl kZ lg) trivial fun b6=>?_);refine aS rfl rfl (aO rfl cF rfl rfl rfl) ⟨rfl,rfl,trivial⟩ ?_;refine nl (aH 1 rfl ?_);refine pW rfl rfl ?_;refine aj (aa (fr 2 ?_));refine lo GW ?_;refine fr 2 ?_;refine lo cF ?_;refine ja (bH (t:=(.arr 3 (.arr 5 (.int .i64)))) [(.tmp 9,_)] [p4] rfl rfl MH (.cons rfl .rep .nil) rfl rfl) ?_;obtain⟨u7,e,h⟩:=ab h;refine fr 3 ?_;refine dN rfl rfl rfl (cz rfl rfl MH (aE e)) ⟨rfl,rfl,trivial⟩ fun v8=>?_;refine pV fun o9=>?_;refine fr 2 ?_;refine aS rfl rfl (aO rfl GW o9 rfl rfl) ⟨rfl,rfl,trivial⟩ ?_;refine ao (aG (aH 1 rfl ?_));refine aH 1 rfl ?_;refine aH 3 rfl ?_;cases h;exact jP v8 2 rfl
 ·
  replace h:=bv (Bw hj) h;refine aG (tn (sr (fr 2 ?_)));refine lo GW ?_;refine aq (nt (aA ?_));refine aH 1 rfl ?_;refine qy ?_;refine bL (SE.fin (Γ':=[(4,_)]) [2,1,0] ⟨rfl,trivial⟩ rfl) ?_;cases h;exact aL z3 [.eq z3] 2 ⟨rfl,trivial⟩ rfl
 ·
  replace h:=cr (Bv hj) h;cases h
def gg(k:Nat)(a0:dj):Option (List (List (List Int))):=
 (g7 k a0).bind fun r1=>
 some r1
theorem qD(k:Nat)(a0:dj)(c:Nat)(r:(List (List (List Int))))(h:gg k a0=some r):
 cu Tryz.prog 115 [.eq (.func (.func 148) #[] #[(Pv c)])] [.obj c 102 (.at bj a0)] (fun _:Unit=>(bq [.rep (.slice (.arr 3 (.arr 5 (.int .i64)))) r],[.obj c 102 (.at bj a0)])):=by
 unfold gg at h
 replace h:=be h
 refine cu.of 5 Tryz.func115 rfl Tryz.ntmps115 rfl fun S w0=>?_
 refine sr ?_
 refine cq ?_
 refine nt ?_
 refine sr ?_
 refine mq ?_
 obtain⟨r1,e,h⟩:=ab h
 have j:=oS k a0 c r1 e
 refine bC (Δ:=[_]) (F:=_) (fun _ _ _=>au rfl _) rfl rfl (an [.const (.slice none 0 0),.tmp 3] rfl rfl QK rfl j) ⟨rfl,rfl,trivial⟩ fun z2=>?_
 refine aq ?_
 refine nt ?_
 refine aA ?_
 refine bL (gx [2,4] ⟨rfl,rfl,trivial⟩) ?_
 cases h
 exact aL () [_] 1 ⟨rfl,trivial⟩ rfl
theorem iL(a0:dj):cu Tryz.prog 116 [.at bj a0] [] (fun z:Nat=>(bq [.eq (.func (.func 148) #[] #[(Pv z)])],[.obj z 102 (.at bj a0)])):=by
 refine cu.of 4 Tryz.func116 rfl Tryz.ntmps116 rfl fun S w0=>?_;refine sr (aw rfl rfl rfl (oN rfl trivial) ⟨rfl,trivial⟩ fun z=>?_);refine cq (nt (sr ?_));refine ja (tD [] [.tmp 1] [] [(Pv z)] rfl rfl rfl) ?_;refine aq (nt (aA ?_));exact aL z [_] 1 ⟨rfl,trivial⟩ rfl
def kM(k:Nat)(a0:(List Int)):Option bB:=
 ((if(a0.length:Int)=0 then(some [3,2]) else(some a0)):Option ((List Int))).bind fun x2=>
 some (3,[(1,[0,2]),(1,[1]),(2,[2]),(1,[0,1])],x2)
theorem jG(k:Nat)(a0:(List Int))(r:bB)(h:kM k a0=some r):
 cu Tryz.prog 78 [Ri a0] [] (fun _:Unit=>(bq [.rep aF r],[])):=by
 unfold kM at h
 replace h:=be h
 refine cu.of 18 Tryz.func78 rfl Tryz.ntmps78 rfl fun S w0=>?_
 refine sr ?_
 refine aw rfl rfl rfl (aP rfl kW m7) trivial fun b1=>?_
 refine nt ?_
 refine aN (Z:=Unit) (α:=(List Int)) (fun z3 x2=>[(0,Ri x2),(2,Pt b1)]) (fun z3 x2=>[.obj b1 25 (.agg (.pair (I 0) (.pair (.eq (.slice none 0 0)) (.eq (.slice none 0 0)))))]) h (fun K h=>?_) (fun z3 x2 h=>?_)
 ·
  refine sr (mq ?_);refine ol fg ?_;refine jb (dw rfl) ?_;refine nt (ci h (fun h=>?_) (fun h=>?_))
  ·refine aa (jb (bH (t:=(.int .i64)) [(.const (.int .i64 (3)),_),(.const (.int .i64 (2)),_)] [3,2] rfl rfl fD (.cons rfl .int (.cons rfl .int .nil)) rfl rfl) ?_);refine aq (nl ?_);exact jz ((),[3,2]) h [0]
  ·refine aV (ae ?_);exact jz ((),a0) h [0]
 ·
  refine sr (jb (bH (t:=(.int .i64)) [(.const (.int .i64 (0)),_),(.const (.int .i64 (2)),_)] [0,2] rfl rfl fD (.cons rfl .int (.cons rfl .int .nil)) rfl rfl) ?_);refine jb (cU [(0,.const (.int .i64 (1)),_),(1,.tmp 7,_)] rfl B0 uR wj (iQ ⟨rfl,rfl,trivial⟩) rfl) ?_;refine ja (bH (t:=(.int .i64)) [(.const (.int .i64 (1)),_)] [1] rfl rfl fD (.cons rfl .int .nil) rfl rfl) ?_;refine jb (cU [(0,.const (.int .i64 (1)),_),(1,.tmp 9,_)] rfl B0 uR wj (iQ ⟨rfl,rfl,trivial⟩) rfl) ?_;refine ja (bH (t:=(.int .i64)) [(.const (.int .i64 (2)),_)] [2] rfl rfl fD (.cons rfl .int .nil) rfl rfl) ?_;refine jb (cU [(0,.const (.int .i64 (2)),_),(1,.tmp 11,_)] rfl B0 uR wj (iQ ⟨rfl,rfl,trivial⟩) rfl) ?_;refine jb (bH (t:=(.int .i64)) [(.const (.int .i64 (0)),_),(.const (.int .i64 (1)),_)] [0,1] rfl rfl fD (.cons rfl .int (.cons rfl .int .nil)) rfl rfl) ?_;refine jb (cU [(0,.const (.int .i64 (1)),_),(1,.tmp 13,_)] rfl B0 uR wj (iQ ⟨rfl,rfl,trivial⟩) rfl) ?_;refine aB rfl (bH (t:=bS) [(.tmp 8,_),(.tmp 10,_),(.tmp 12,_),(.tmp 14,_)] [(1,[0,2]),(1,[1]),(2,[2]),(1,[0,1])] rfl rfl G1 (.cons trivial (.agg (.pair .int .rep)) (.cons trivial (.agg (.pair .int .rep)) (.cons trivial (.agg (.pair .int .rep)) (.cons trivial (.agg (.pair .int .rep)) .nil)))) rfl rfl) ⟨rfl,rfl,rfl,rfl,trivial⟩ ?_;refine mq ?_;refine jc (cU [(0,.const (.int .i64 (3)),_),(1,.tmp 15,_),(2,.tmp 16,_)] rfl Ks kW Es (iQ ⟨rfl,rfl,rfl,trivial⟩) rfl) ?_;refine aS rfl rfl (aO rfl gC trivial rfl rfl) ⟨rfl,rfl,trivial⟩ ?_;refine nt (aA (bL (oC (a:=.agg (.pair (I 3) (.pair (Rs bS [(1,[0,2]),(1,[1]),(2,[2]),(1,[0,1])]) (Ri x2)))) (a':=.rep aF (3,[(1,[0,2]),(1,[1]),(2,[2]),(1,[0,1])],x2)) (wv (.agg (.pair .int (.pair .rep .rep))))) ?_));cases h;exact aL () [.rep aF (3,[(1,[0,2]),(1,[1]),(2,[2]),(1,[0,1])],x2)] 0 ⟨⟨_,_,_,_,_,rfl,(.head _),gC,(xj),rfl⟩,trivial⟩ rfl
def xw(k:Nat):Option (List (List Int)):=
 some [[1,0,3],[2]]
theorem sB(k:Nat)(r:(List (List Int)))(h:xw k=some r):
 cu Tryz.prog 79 [] [] (fun _:Unit=>(bq [.rep (.slice (.slice (.int .i64))) r],[])):=by
 unfold xw at h
 replace h:=be h
 refine cu.of 4 Tryz.func79 rfl Tryz.ntmps79 rfl fun S w0=>?_
 refine sr ?_
 refine cq ?_
 refine nt ?_
 refine sr ?_
 refine jc (bH (t:=(.int .i64)) [(.const (.int .i64 (1)),_),(.const (.int .i64 (0)),_),(.const (.int .i64 (3)),_)] [1,0,3] rfl rfl fD (.cons rfl .int (.cons rfl .int (.cons rfl .int .nil))) rfl rfl) ?_
 refine ja (bH (t:=(.int .i64)) [(.const (.int .i64 (2)),_)] [2] rfl rfl fD (.cons rfl .int .nil) rfl rfl) ?_
 refine jb (bH (t:=(.slice (.int .i64))) [(.tmp 1,_),(.tmp 2,_)] [[1,0,3],[2]] rfl rfl tj (.cons rfl .rep (.cons rfl .rep .nil)) rfl rfl) ?_
 refine aq ?_
 refine nt ?_
 refine aA ?_
 cases h
 exact ra
def Ic(k:Nat):Option (List (List Int)):=
 some [[0,2],[3,1]]
theorem Ib(k:Nat)(r:(List (List Int)))(h:Ic k=some r):
 cu Tryz.prog 80 [] [] (fun _:Unit=>(bq [.rep (.slice (.slice (.int .i64))) r],[])):=by
 unfold Ic at h
 replace h:=be h
 refine cu.of 4 Tryz.func80 rfl Tryz.ntmps80 rfl fun S w0=>?_
 refine sr ?_
 refine cq ?_
 refine nt ?_
 refine sr ?_
 refine jb (bH (t:=(.int .i64)) [(.const (.int .i64 (0)),_),(.const (.int .i64 (2)),_)] [0,2] rfl rfl fD (.cons rfl .int (.cons rfl .int .nil)) rfl rfl) ?_
 refine jb (bH (t:=(.int .i64)) [(.const (.int .i64 (3)),_),(.const (.int .i64 (1)),_)] [3,1] rfl rfl fD (.cons rfl .int (.cons rfl .int .nil)) rfl rfl) ?_
 refine jb (bH (t:=(.slice (.int .i64))) [(.tmp 1,_),(.tmp 2,_)] [[0,2],[3,1]] rfl rfl tj (.cons rfl .rep (.cons rfl .rep .nil)) rfl rfl) ?_
 refine aq ?_
 refine nt ?_
 refine aA ?_
 cases h
 exact ra
def jI(k:Nat)(a0:(List Int)):Option bZ:=
 some (a0,0,1)
theorem pC(k:Nat)(a0:(List Int))(r:bZ)(h:jI k a0=some r):
 cu Tryz.prog 26 [Ri a0] [] (fun z:Nat=>(bq [Pt z],[.obj z 98 (.agg (.pair (Ri r.1) (.pair (I r.2.1) (.eq (.int .u64 r.2.2)))))])):=by
 unfold jI at h
 replace h:=be h
 refine cu.of 6 Tryz.func26 rfl Tryz.ntmps26 rfl fun S w0=>?_
 refine sr ?_
 refine cq ?_
 refine nt ?_
 refine sr ?_
 refine mq ?_
 refine jb (cU [(0,.tmp 3,_),(2,.const (.int .u64 (1)),_)] rfl RY RP Q7 (iQ ⟨rfl,rfl,trivial⟩) rfl) ?_
 refine aw rfl rfl rfl (oN rfl trivial) ⟨rfl,trivial⟩ fun b1=>?_
 refine aq ?_
 refine nt ?_
 refine aA ?_
 cases h
 exact aL b1 [Pt b1] 1 ⟨rfl,trivial⟩ rfl
def eR(k:Nat)(a0:(List Int)):Option (List Int):=
 (eM (bY (List.length ([]:(List Int))+List.length a0))).bind fun _=>
 some (([]:(List Int))++a0)
theorem dG(k:Nat)(a0:(List Int))(r:(List Int))(h:eR k a0=some r):
 cu Tryz.prog 55 [Ri a0] [] (fun z:Value=>(bq [.eq z],[.sl z 3 (.int .i64) r])):=by
 unfold eR at h
 replace h:=be h
 refine cu.of 6 Tryz.func55 rfl Tryz.ntmps55 rfl fun S w0=>?_
 refine sr ?_
 refine cq ?_
 refine nt ?_
 refine sr ?_
 refine aw rfl rfl rfl (og (t:=(.int .i64)) [] ([]:(List Int)) rfl rfl fD .nil rfl rfl) trivial fun v1=>?_
 refine mq ?_
 obtain⟨u2,c,h⟩:=ab h
 refine dN rfl rfl rfl (cz rfl rfl fD (aE c)) ⟨rfl,rfl,trivial⟩ fun v3=>?_
 refine aq ?_
 refine nt ?_
 refine aA ?_
 cases h
 exact aL v3 [.eq v3] 1 ⟨rfl,trivial⟩ rfl
def dF(k:Nat)(a0:bB):Nat→((List iE)×Int)→Option (List iE)
 |0,_=>none
 |n+1,y9=>
  if y9.2 < (a0.2.1.length:Int) then((bf a0.2.1 y9.2).bind fun c=>
  (bf a0.2.1 y9.2).bind fun j=>
  (eR k j.2).bind fun e=>
  (eM (bY (List.length y9.1+List.length [(c.1,e)]))).bind fun _=>
  (ck (y9.2+1)).bind fun h=>
  dF k a0 n (y9.1++[(c.1,e)],h)) else(some y9.1)
def fM(k:Nat)(a0:bB):Option bB:=
 (eR k a0.2.2).bind fun r3=>
 ((dF k a0 k (([]:(List iE)),0)):Option ((List iE))).bind fun x7=>
 some (a0.1,x7,r3)
theorem oP(k:Nat)(a0:bB)(r:bB)(h:fM k a0=some r):
 cu Tryz.prog 29 [.rep aF a0] [] (fun z:Value×Value=>(bq [.agg (.pair (I r.1) (.pair (.eq z.1) (.eq z.2)))],[.sl z.1 27 bS r.2.1,.sl z.2 3 (.int .i64) r.2.2])):=by
 unfold fM at h
 replace h:=be h
 refine cu.of 38 Tryz.func29 rfl Tryz.ntmps29 rfl fun S w0=>?_
 refine sr ?_
 refine bx fun b1=>?_
 refine aw rfl rfl rfl (aP rfl kW m7) trivial fun b2=>?_
 refine nt ?_
 refine ag ?_
 obtain⟨r3,c,h⟩:=ab h
 refine fw (SE.fin (Γ':=[(1,Pt b1),(2,Pt b2)]) (Δ':=[.obj b2 25 (.agg (.pair (I 0) (.pair (.eq (.slice none 0 0)) (.eq (.slice none 0 0))))),.obj b1 25 (.rep aF a0)]) [0,1] ⟨rfl,rfl,trivial⟩ rfl) ?_
 refine Bl (I:=Value×Nat) (Ge:=fun i=>[(1,Pt b1),(2,Pt b2),(3,.eq (.pointer (some ⟨i.2,0,none⟩)))]) (De:=fun i=>[.obj b1 25 (.rep aF a0),.obj b2 25 (.agg (.pair (I 0) (.pair (.eq (.slice none 0 0)) (.eq (.slice none 0 0))))),.sl i.1 3 (.int .i64) r3,.obj i.2 25 (.agg (.pair (I a0.1) (.pair (.eq (.slice none 0 0)) (.eq i.1))))]) (L:=[true,true,true,true,true,true,true,true]) eA rfl (fun J hJ hE=>?_) (by kernel_rfl) ?_
 ·
  have s127:∀(v4:Value) (b6:Nat),J 1 [true,true,true,true,true,true,true,false] [(1,Pt b1),(2,Pt b2),(3,Pt b6),(10,.agg (.pair (I a0.1) (.pair (.eq (.slice none 0 0)) (.eq v4))))] [.obj b1 25 (.rep aF a0),.obj b2 25 (.agg (.pair (I 0) (.pair (.eq (.slice none 0 0)) (.eq (.slice none 0 0))))),.sl v4 3 (.int .i64) r3,.obj b6 25 (.agg (.pair (I 0) (.pair (.eq (.slice none 0 0)) (.eq (.slice none 0 0)))))]:=fun v4 b6=>by
   subst hJ;refine JD.step [7] (by kernel_rfl) rfl ?_;refine cI.cons rfl ?_ ?_
   ·refine fr 3 ?_;refine aS rfl rfl (aO rfl gC trivial rfl rfl) ⟨rfl,rfl,trivial⟩ ?_;exact aC (hE ⟨v4,b6⟩) [1,2,3,0] ⟨rfl,rfl,rfl,trivial⟩
   exact trivial
  have s63:∀(v4:Value),J 2 [true,true,true,true,true,true,false,false] [(1,Pt b1),(2,Pt b2),(10,.agg (.pair (I a0.1) (.pair (.eq (.slice none 0 0)) (.eq v4))))] [.obj b1 25 (.rep aF a0),.obj b2 25 (.agg (.pair (I 0) (.pair (.eq (.slice none 0 0)) (.eq (.slice none 0 0))))),.sl v4 3 (.int .i64) r3]:=fun v4=>by
   subst hJ;refine JD.step [6] (by kernel_rfl) rfl ?_;refine cI.cons rfl ?_ ?_
   ·refine aw rfl rfl rfl (aP rfl kW m7) trivial fun b6=>?_;exact aC (s127 v4 b6) [1,2,3,0] ⟨rfl,rfl,rfl,rfl,trivial⟩
   exact trivial
  have s95:∀(v4:Value) (b6:Nat),J 2 [true,true,true,true,true,false,true,false] [(1,Pt b1),(2,Pt b2),(3,Pt b6),(6,I a0.1),(9,.eq v4)] [.obj b1 25 (.rep aF a0),.obj b2 25 (.agg (.pair (I 0) (.pair (.eq (.slice none 0 0)) (.eq (.slice none 0 0))))),.sl v4 3 (.int .i64) r3,.obj b6 25 (.agg (.pair (I 0) (.pair (.eq (.slice none 0 0)) (.eq (.slice none 0 0)))))]:=fun v4 b6=>by
   subst hJ;refine JD.step [5] (by kernel_rfl) rfl ?_;refine cI.cons rfl ?_ ?_
   ·refine fr 2 ?_;refine pV fun o5=>?_;refine jb (cU [(0,.tmp 6,_),(2,.tmp 9,_)] rfl Ks kW Es (iQ ⟨rfl,o5,trivial⟩) rfl) ?_;exact aC (s127 v4 b6) [1,2,0,3] ⟨rfl,rfl,rfl,rfl,trivial⟩
   exact trivial
  have s31:∀(v4:Value),J 3 [true,true,true,true,true,false,false,false] [(1,Pt b1),(2,Pt b2),(6,I a0.1),(9,.eq v4)] [.obj b1 25 (.rep aF a0),.obj b2 25 (.agg (.pair (I 0) (.pair (.eq (.slice none 0 0)) (.eq (.slice none 0 0))))),.sl v4 3 (.int .i64) r3]:=fun v4=>by
   subst hJ;refine JD.step [5,6] (by kernel_rfl) rfl ?_;refine cI.cons rfl ?_ ?_
   ·refine fr 2 ?_;refine pV fun o5=>?_;refine jb (cU [(0,.tmp 6,_),(2,.tmp 9,_)] rfl Ks kW Es (iQ ⟨rfl,o5,trivial⟩) rfl) ?_;exact aC (s63 v4) [1,2,0] ⟨rfl,rfl,rfl,trivial⟩
   refine cI.cons rfl ?_ ?_
   ·refine aw rfl rfl rfl (aP rfl kW m7) trivial fun b6=>?_;exact aC (s95 v4 b6) [1,2,3,0] ⟨rfl,rfl,rfl,rfl,rfl,trivial⟩
   exact trivial
  have s79:∀(b6:Nat),J 3 [true,true,true,true,false,false,true,false] [(1,Pt b1),(2,Pt b2),(3,Pt b6),(6,I a0.1),(8,Ri a0.2.2)] [.obj b1 25 (.rep aF a0),.obj b2 25 (.agg (.pair (I 0) (.pair (.eq (.slice none 0 0)) (.eq (.slice none 0 0))))),.obj b6 25 (.agg (.pair (I 0) (.pair (.eq (.slice none 0 0)) (.eq (.slice none 0 0)))))]:=fun b6=>by
   subst hJ;refine JD.step [4] (by kernel_rfl) rfl ?_;refine cI.cons rfl ?_ ?_
   ·refine aw rfl rfl rfl (an [.tmp 8] rfl rfl AU rfl (dG k a0.2.2 r3 c)) ⟨rfl,trivial⟩ fun v4=>?_;exact aC (s95 v4 b6) [1,2,0,3] ⟨rfl,rfl,rfl,rfl,rfl,trivial⟩
   exact trivial
  have s93:∀(v4:Value) (b6:Nat),J 3 [true,false,true,true,true,false,true,false] [(1,Pt b1),(2,Pt b2),(3,Pt b6),(5,Pt b1),(9,.eq v4)] [.obj b1 25 (.rep aF a0),.obj b2 25 (.agg (.pair (I 0) (.pair (.eq (.slice none 0 0)) (.eq (.slice none 0 0))))),.sl v4 3 (.int .i64) r3,.obj b6 25 (.agg (.pair (I 0) (.pair (.eq (.slice none 0 0)) (.eq (.slice none 0 0)))))]:=fun v4 b6=>by
   subst hJ;refine JD.step [1] (by kernel_rfl) rfl ?_;refine cI.cons rfl ?_ ?_
   ·refine lo dh ?_;exact aC (s95 v4 b6) [0,1,2,3] ⟨rfl,rfl,rfl,rfl,rfl,trivial⟩
   exact trivial
  have s15:J 4 [true,true,true,true,false,false,false,false] [(1,Pt b1),(2,Pt b2),(6,I a0.1),(8,Ri a0.2.2)] [.obj b1 25 (.rep aF a0),.obj b2 25 (.agg (.pair (I 0) (.pair (.eq (.slice none 0 0)) (.eq (.slice none 0 0)))))]:=by
   subst hJ;refine JD.step [4,6] (by kernel_rfl) rfl ?_;refine cI.cons rfl ?_ ?_
   ·refine aw rfl rfl rfl (an [.tmp 8] rfl rfl AU rfl (dG k a0.2.2 r3 c)) ⟨rfl,trivial⟩ fun v4=>?_;exact aC (s31 v4) [1,2,0] ⟨rfl,rfl,rfl,rfl,trivial⟩
   refine cI.cons rfl ?_ ?_
   ·refine aw rfl rfl rfl (aP rfl kW m7) trivial fun b6=>?_;exact aC (s79 b6) [1,2,0] ⟨rfl,rfl,rfl,rfl,rfl,trivial⟩
   exact trivial
  have s71:∀(b6:Nat),J 4 [true,true,true,false,false,false,true,false] [(1,Pt b1),(2,Pt b2),(3,Pt b6),(6,I a0.1),(7,.eq (.pointer (some ⟨b1,2,none⟩)))] [.obj b1 25 (.rep aF a0),.obj b2 25 (.agg (.pair (I 0) (.pair (.eq (.slice none 0 0)) (.eq (.slice none 0 0))))),.obj b6 25 (.agg (.pair (I 0) (.pair (.eq (.slice none 0 0)) (.eq (.slice none 0 0)))))]:=fun b6=>by
   subst hJ;refine JD.step [3] (by kernel_rfl) rfl ?_;refine cI.cons rfl ?_ ?_
   ·refine lo co ?_;exact aC (s79 b6) [0,1,2] ⟨rfl,rfl,rfl,rfl,rfl,trivial⟩
   exact trivial
  have s29:∀(v4:Value),J 4 [true,false,true,true,true,false,false,false] [(1,Pt b1),(2,Pt b2),(5,Pt b1),(9,.eq v4)] [.obj b1 25 (.rep aF a0),.obj b2 25 (.agg (.pair (I 0) (.pair (.eq (.slice none 0 0)) (.eq (.slice none 0 0))))),.sl v4 3 (.int .i64) r3]:=fun v4=>by
   subst hJ;refine JD.step [1,6] (by kernel_rfl) rfl ?_;refine cI.cons rfl ?_ ?_
   ·refine lo dh ?_;exact aC (s31 v4) [0,1,2] ⟨rfl,rfl,rfl,rfl,trivial⟩
   refine cI.cons rfl ?_ ?_
   ·refine aw rfl rfl rfl (aP rfl kW m7) trivial fun b6=>?_;exact aC (s93 v4 b6) [1,2,3,0] ⟨rfl,rfl,rfl,rfl,rfl,trivial⟩
   exact trivial
  have s77:∀(b6:Nat),J 4 [true,false,true,true,false,false,true,false] [(1,Pt b1),(2,Pt b2),(3,Pt b6),(5,Pt b1),(8,Ri a0.2.2)] [.obj b1 25 (.rep aF a0),.obj b2 25 (.agg (.pair (I 0) (.pair (.eq (.slice none 0 0)) (.eq (.slice none 0 0))))),.obj b6 25 (.agg (.pair (I 0) (.pair (.eq (.slice none 0 0)) (.eq (.slice none 0 0)))))]:=fun b6=>by
   subst hJ;refine JD.step [1,4] (by kernel_rfl) rfl ?_;refine cI.cons rfl ?_ ?_
   ·refine lo dh ?_;exact aC (s79 b6) [0,1,2] ⟨rfl,rfl,rfl,rfl,rfl,trivial⟩
   refine cI.cons rfl ?_ ?_
   ·refine aw rfl rfl rfl (an [.tmp 8] rfl rfl AU rfl (dG k a0.2.2 r3 c)) ⟨rfl,trivial⟩ fun v4=>?_;exact aC (s93 v4 b6) [1,2,0,3] ⟨rfl,rfl,rfl,rfl,rfl,trivial⟩
   exact trivial
  have s92:∀(v4:Value) (b6:Nat),J 4 [false,false,true,true,true,false,true,false] [(1,Pt b1),(2,Pt b2),(3,Pt b6),(9,.eq v4)] [.obj b1 25 (.rep aF a0),.obj b2 25 (.agg (.pair (I 0) (.pair (.eq (.slice none 0 0)) (.eq (.slice none 0 0))))),.sl v4 3 (.int .i64) r3,.obj b6 25 (.agg (.pair (I 0) (.pair (.eq (.slice none 0 0)) (.eq (.slice none 0 0)))))]:=fun v4 b6=>by
   subst hJ;refine JD.step [0] (by kernel_rfl) rfl ?_;refine cI.cons rfl ?_ ?_
   ·refine fl jA ?_;exact aC (s93 v4 b6) [0,1,2,3] ⟨rfl,rfl,rfl,rfl,rfl,trivial⟩
   exact trivial
  have s7:J 5 [true,true,true,false,false,false,false,false] [(1,Pt b1),(2,Pt b2),(6,I a0.1),(7,.eq (.pointer (some ⟨b1,2,none⟩)))] [.obj b1 25 (.rep aF a0),.obj b2 25 (.agg (.pair (I 0) (.pair (.eq (.slice none 0 0)) (.eq (.slice none 0 0)))))]:=by
   subst hJ;refine JD.step [3,6] (by kernel_rfl) rfl ?_;refine cI.cons rfl ?_ ?_
   ·refine lo co ?_;exact aC s15 [0,1] ⟨rfl,rfl,rfl,rfl,trivial⟩
   refine cI.cons rfl ?_ ?_
   ·refine aw rfl rfl rfl (aP rfl kW m7) trivial fun b6=>?_;exact aC (s71 b6) [1,2,0] ⟨rfl,rfl,rfl,rfl,rfl,trivial⟩
   exact trivial
  have s67:∀(b6:Nat),J 5 [true,true,false,false,false,false,true,false] [(1,Pt b1),(2,Pt b2),(3,Pt b6),(6,I a0.1)] [.obj b1 25 (.rep aF a0),.obj b2 25 (.agg (.pair (I 0) (.pair (.eq (.slice none 0 0)) (.eq (.slice none 0 0))))),.obj b6 25 (.agg (.pair (I 0) (.pair (.eq (.slice none 0 0)) (.eq (.slice none 0 0)))))]:=fun b6=>by
   subst hJ;refine JD.step [2] (by kernel_rfl) rfl ?_;refine cI.cons rfl ?_ ?_
   ·refine fl d4 ?_;exact aC (s71 b6) [0,1,2] ⟨rfl,rfl,rfl,rfl,rfl,trivial⟩
   exact trivial
  have s13:J 5 [true,false,true,true,false,false,false,false] [(1,Pt b1),(2,Pt b2),(5,Pt b1),(8,Ri a0.2.2)] [.obj b1 25 (.rep aF a0),.obj b2 25 (.agg (.pair (I 0) (.pair (.eq (.slice none 0 0)) (.eq (.slice none 0 0)))))]:=by
   subst hJ;refine JD.step [1,4,6] (by kernel_rfl) rfl ?_;refine cI.cons rfl ?_ ?_
   ·refine lo dh ?_;exact aC s15 [0,1] ⟨rfl,rfl,rfl,rfl,trivial⟩
   refine cI.cons rfl ?_ ?_
   ·refine aw rfl rfl rfl (an [.tmp 8] rfl rfl AU rfl (dG k a0.2.2 r3 c)) ⟨rfl,trivial⟩ fun v4=>?_;exact aC (s29 v4) [1,2,0] ⟨rfl,rfl,rfl,rfl,trivial⟩
   refine cI.cons rfl ?_ ?_
   ·refine aw rfl rfl rfl (aP rfl kW m7) trivial fun b6=>?_;exact aC (s77 b6) [1,2,0] ⟨rfl,rfl,rfl,rfl,rfl,trivial⟩
   exact trivial
  have s69:∀(b6:Nat),J 5 [true,false,true,false,false,false,true,false] [(1,Pt b1),(2,Pt b2),(3,Pt b6),(5,Pt b1),(7,.eq (.pointer (some ⟨b1,2,none⟩)))] [.obj b1 25 (.rep aF a0),.obj b2 25 (.agg (.pair (I 0) (.pair (.eq (.slice none 0 0)) (.eq (.slice none 0 0))))),.obj b6 25 (.agg (.pair (I 0) (.pair (.eq (.slice none 0 0)) (.eq (.slice none 0 0)))))]:=fun b6=>by
   subst hJ;refine JD.step [1,3] (by kernel_rfl) rfl ?_;refine cI.cons rfl ?_ ?_
   ·refine lo dh ?_;exact aC (s71 b6) [0,1,2] ⟨rfl,rfl,rfl,rfl,rfl,trivial⟩
   refine cI.cons rfl ?_ ?_
   ·refine lo co ?_;exact aC (s77 b6) [0,1,2] ⟨rfl,rfl,rfl,rfl,rfl,trivial⟩
   exact trivial
  have s28:∀(v4:Value),J 5 [false,false,true,true,true,false,false,false] [(1,Pt b1),(2,Pt b2),(9,.eq v4)] [.obj b1 25 (.rep aF a0),.obj b2 25 (.agg (.pair (I 0) (.pair (.eq (.slice none 0 0)) (.eq (.slice none 0 0))))),.sl v4 3 (.int .i64) r3]:=fun v4=>by
   subst hJ;refine JD.step [0,6] (by kernel_rfl) rfl ?_;refine cI.cons rfl ?_ ?_
   ·refine fl jA ?_;exact aC (s29 v4) [0,1,2] ⟨rfl,rfl,rfl,rfl,trivial⟩
   refine cI.cons rfl ?_ ?_
   ·refine aw rfl rfl rfl (aP rfl kW m7) trivial fun b6=>?_;exact aC (s92 v4 b6) [1,2,3,0] ⟨rfl,rfl,rfl,rfl,trivial⟩
   exact trivial
  have s76:∀(b6:Nat),J 5 [false,false,true,true,false,false,true,false] [(1,Pt b1),(2,Pt b2),(3,Pt b6),(8,Ri a0.2.2)] [.obj b1 25 (.rep aF a0),.obj b2 25 (.agg (.pair (I 0) (.pair (.eq (.slice none 0 0)) (.eq (.slice none 0 0))))),.obj b6 25 (.agg (.pair (I 0) (.pair (.eq (.slice none 0 0)) (.eq (.slice none 0 0)))))]:=fun b6=>by
   subst hJ;refine JD.step [0,4] (by kernel_rfl) rfl ?_;refine cI.cons rfl ?_ ?_
   ·refine fl jA ?_;exact aC (s77 b6) [0,1,2] ⟨rfl,rfl,rfl,rfl,rfl,trivial⟩
   refine cI.cons rfl ?_ ?_
   ·refine aw rfl rfl rfl (an [.tmp 8] rfl rfl AU rfl (dG k a0.2.2 r3 c)) ⟨rfl,trivial⟩ fun v4=>?_;exact aC (s92 v4 b6) [1,2,0,3] ⟨rfl,rfl,rfl,rfl,trivial⟩
   exact trivial
  have s3:J 6 [true,true,false,false,false,false,false,false] [(1,Pt b1),(2,Pt b2),(6,I a0.1)] [.obj b1 25 (.rep aF a0),.obj b2 25 (.agg (.pair (I 0) (.pair (.eq (.slice none 0 0)) (.eq (.slice none 0 0)))))]:=by
   subst hJ;refine JD.step [2,6] (by kernel_rfl) rfl ?_;refine cI.cons rfl ?_ ?_
   ·refine fl d4 ?_;exact aC s7 [0,1] ⟨rfl,rfl,rfl,rfl,trivial⟩
   refine cI.cons rfl ?_ ?_
   ·refine aw rfl rfl rfl (aP rfl kW m7) trivial fun b6=>?_;exact aC (s67 b6) [1,2,0] ⟨rfl,rfl,rfl,rfl,trivial⟩
   exact trivial
  have s5:J 6 [true,false,true,false,false,false,false,false] [(1,Pt b1),(2,Pt b2),(5,Pt b1),(7,.eq (.pointer (some ⟨b1,2,none⟩)))] [.obj b1 25 (.rep aF a0),.obj b2 25 (.agg (.pair (I 0) (.pair (.eq (.slice none 0 0)) (.eq (.slice none 0 0)))))]:=by
   subst hJ;refine JD.step [1,3,6] (by kernel_rfl) rfl ?_;refine cI.cons rfl ?_ ?_
   ·refine lo dh ?_;exact aC s7 [0,1] ⟨rfl,rfl,rfl,rfl,trivial⟩
   refine cI.cons rfl ?_ ?_
   ·refine lo co ?_;exact aC s13 [0,1] ⟨rfl,rfl,rfl,rfl,trivial⟩
   refine cI.cons rfl ?_ ?_
   ·refine aw rfl rfl rfl (aP rfl kW m7) trivial fun b6=>?_;exact aC (s69 b6) [1,2,0] ⟨rfl,rfl,rfl,rfl,rfl,trivial⟩
   exact trivial
  have s65:∀(b6:Nat),J 6 [true,false,false,false,false,false,true,false] [(1,Pt b1),(2,Pt b2),(3,Pt b6),(5,Pt b1)] [.obj b1 25 (.rep aF a0),.obj b2 25 (.agg (.pair (I 0) (.pair (.eq (.slice none 0 0)) (.eq (.slice none 0 0))))),.obj b6 25 (.agg (.pair (I 0) (.pair (.eq (.slice none 0 0)) (.eq (.slice none 0 0)))))]:=fun b6=>by
   subst hJ;refine JD.step [1,2] (by kernel_rfl) rfl ?_;refine cI.cons rfl ?_ ?_
   ·refine lo dh ?_;exact aC (s67 b6) [0,1,2] ⟨rfl,rfl,rfl,rfl,trivial⟩
   refine cI.cons rfl ?_ ?_
   ·refine fl d4 ?_;exact aC (s69 b6) [0,1,2] ⟨rfl,rfl,rfl,rfl,rfl,trivial⟩
   exact trivial
  have s12:J 6 [false,false,true,true,false,false,false,false] [(1,Pt b1),(2,Pt b2),(8,Ri a0.2.2)] [.obj b1 25 (.rep aF a0),.obj b2 25 (.agg (.pair (I 0) (.pair (.eq (.slice none 0 0)) (.eq (.slice none 0 0)))))]:=by
   subst hJ;refine JD.step [0,4,6] (by kernel_rfl) rfl ?_;refine cI.cons rfl ?_ ?_
   ·refine fl jA ?_;exact aC s13 [0,1] ⟨rfl,rfl,rfl,rfl,trivial⟩
   refine cI.cons rfl ?_ ?_
   ·refine aw rfl rfl rfl (an [.tmp 8] rfl rfl AU rfl (dG k a0.2.2 r3 c)) ⟨rfl,trivial⟩ fun v4=>?_;exact aC (s28 v4) [1,2,0] ⟨rfl,rfl,rfl,trivial⟩
   refine cI.cons rfl ?_ ?_
   ·refine aw rfl rfl rfl (aP rfl kW m7) trivial fun b6=>?_;exact aC (s76 b6) [1,2,0] ⟨rfl,rfl,rfl,rfl,trivial⟩
   exact trivial
  have s68:∀(b6:Nat),J 6 [false,false,true,false,false,false,true,false] [(1,Pt b1),(2,Pt b2),(3,Pt b6),(7,.eq (.pointer (some ⟨b1,2,none⟩)))] [.obj b1 25 (.rep aF a0),.obj b2 25 (.agg (.pair (I 0) (.pair (.eq (.slice none 0 0)) (.eq (.slice none 0 0))))),.obj b6 25 (.agg (.pair (I 0) (.pair (.eq (.slice none 0 0)) (.eq (.slice none 0 0)))))]:=fun b6=>by
   subst hJ;refine JD.step [0,3] (by kernel_rfl) rfl ?_;refine cI.cons rfl ?_ ?_
   ·refine fl jA ?_;exact aC (s69 b6) [0,1,2] ⟨rfl,rfl,rfl,rfl,rfl,trivial⟩
   refine cI.cons rfl ?_ ?_
   ·refine lo co ?_;exact aC (s76 b6) [0,1,2] ⟨rfl,rfl,rfl,rfl,trivial⟩
   exact trivial
  have s1:J 7 [true,false,false,false,false,false,false,false] [(1,Pt b1),(2,Pt b2),(5,Pt b1)] [.obj b1 25 (.rep aF a0),.obj b2 25 (.agg (.pair (I 0) (.pair (.eq (.slice none 0 0)) (.eq (.slice none 0 0)))))]:=by
   subst hJ;refine JD.step [1,2,6] (by kernel_rfl) rfl ?_;refine cI.cons rfl ?_ ?_
   ·refine lo dh ?_;exact aC s3 [0,1] ⟨rfl,rfl,rfl,trivial⟩
   refine cI.cons rfl ?_ ?_
   ·refine fl d4 ?_;exact aC s5 [0,1] ⟨rfl,rfl,rfl,rfl,trivial⟩
   refine cI.cons rfl ?_ ?_
   ·refine aw rfl rfl rfl (aP rfl kW m7) trivial fun b6=>?_;exact aC (s65 b6) [1,2,0] ⟨rfl,rfl,rfl,rfl,trivial⟩
   exact trivial
  have s4:J 7 [false,false,true,false,false,false,false,false] [(1,Pt b1),(2,Pt b2),(7,.eq (.pointer (some ⟨b1,2,none⟩)))] [.obj b1 25 (.rep aF a0),.obj b2 25 (.agg (.pair (I 0) (.pair (.eq (.slice none 0 0)) (.eq (.slice none 0 0)))))]:=by
   subst hJ;refine JD.step [0,3,6] (by kernel_rfl) rfl ?_;refine cI.cons rfl ?_ ?_
   ·refine fl jA ?_;exact aC s5 [0,1] ⟨rfl,rfl,rfl,rfl,trivial⟩
   refine cI.cons rfl ?_ ?_
   ·refine lo co ?_;exact aC s12 [0,1] ⟨rfl,rfl,rfl,trivial⟩
   refine cI.cons rfl ?_ ?_
   ·refine aw rfl rfl rfl (aP rfl kW m7) trivial fun b6=>?_;exact aC (s68 b6) [1,2,0] ⟨rfl,rfl,rfl,rfl,trivial⟩
   exact trivial
  have s64:∀(b6:Nat),J 7 [false,false,false,false,false,false,true,false] [(1,Pt b1),(2,Pt b2),(3,Pt b6)] [.obj b1 25 (.rep aF a0),.obj b2 25 (.agg (.pair (I 0) (.pair (.eq (.slice none 0 0)) (.eq (.slice none 0 0))))),.obj b6 25 (.agg (.pair (I 0) (.pair (.eq (.slice none 0 0)) (.eq (.slice none 0 0)))))]:=fun b6=>by
   subst hJ;refine JD.step [0,2] (by kernel_rfl) rfl ?_;refine cI.cons rfl ?_ ?_
   ·refine fl jA ?_;exact aC (s65 b6) [0,1,2] ⟨rfl,rfl,rfl,rfl,trivial⟩
   refine cI.cons rfl ?_ ?_
   ·refine fl d4 ?_;exact aC (s68 b6) [0,1,2] ⟨rfl,rfl,rfl,rfl,trivial⟩
   exact trivial
  have s0:J 8 [false,false,false,false,false,false,false,false] [(1,Pt b1),(2,Pt b2)] [.obj b2 25 (.agg (.pair (I 0) (.pair (.eq (.slice none 0 0)) (.eq (.slice none 0 0))))),.obj b1 25 (.rep aF a0)]:=by
   subst hJ;refine JD.step [0,2,6] (by kernel_rfl) rfl ?_;refine cI.cons rfl ?_ ?_
   ·refine fl jA ?_;exact aC s1 [1,0] ⟨rfl,rfl,rfl,trivial⟩
   refine cI.cons rfl ?_ ?_
   ·refine fl d4 ?_;exact aC s4 [1,0] ⟨rfl,rfl,rfl,trivial⟩
   refine cI.cons rfl ?_ ?_
   ·refine aw rfl rfl rfl (aP rfl kW m7) trivial fun b6=>?_;exact aC (s64 b6) [2,1,0] ⟨rfl,rfl,rfl,trivial⟩
   exact trivial
  exact s0
 rintro⟨v4,b6⟩
 show JN _ _ [(1,Pt b1),(2,Pt b2),(3,Pt b6)] [.obj b1 25 (.rep aF a0),.obj b2 25 (.agg (.pair (I 0) (.pair (.eq (.slice none 0 0)) (.eq (.slice none 0 0))))),.sl v4 3 (.int .i64) r3,.obj b6 25 (.agg (.pair (I a0.1) (.pair (.eq (.slice none 0 0)) (.eq v4))))]
 refine tn ?_
 refine aN (Z:=Value) (α:=(List iE)) (fun z8 x7=>[(2,Pt b2),(3,Pt b6)]) (fun z8 x7=>[.obj b2 25 (.agg (.pair (I 0) (.pair (.eq (.slice none 0 0)) (.eq (.slice none 0 0))))),.obj b6 25 (.agg (.pair (I a0.1) (.pair (.eq z8) (.eq v4)))),.sl z8 27 bS x7,.sl v4 3 (.int .i64) r3]) h (fun K h=>?_) (fun z8 x7 h=>?_)
 ·
  refine sr (cq (nt (aj ?_)));refine fw (SE.nil 27 bS) ?_;refine aI (fun e y9=>[(1,Pt b1),(2,Pt b2),(3,Pt b6),(4,I y9.2)]) (fun e y9=>[.obj b1 25 (.rep aF a0),.obj b2 25 (.agg (.pair (I 0) (.pair (.eq (.slice none 0 0)) (.eq (.slice none 0 0))))),.obj b6 25 (.agg (.pair (I a0.1) (.pair (.eq e) (.eq v4)))),.sl e 27 bS y9.1,.sl v4 3 (.int .i64) r3]) (dF k a0) k (.slice none 0 0) (([]:(List iE)),0) (fun _=>rfl) h (SE.fin [1,2,4,0,3] ⟨rfl,rfl,rfl,rfl,trivial⟩ rfl) (fun n e y9 h=>?_);unfold dF at h;refine ag (sr (mq ?_));refine fl fX ?_;refine lo mZ ?_;refine ol wP ?_;refine jb (bm rfl) ?_;refine nt (ci h (fun h=>?_) (fun h=>?_))
  ·refine sk (ag (aj (bW ?_)));refine da (av rfl fX) ?_;refine ea 2 (ak rfl mZ kV rfl) ?_;refine da (av rfl fX) ?_;refine ea 0 (ak rfl mZ kV rfl) ?_;refine dm ?_;obtain⟨l,x,h⟩:=ab h;refine db (ba (t:=bS) rfl wP nW x) ?_;refine da (aM 1 false rfl tU rfl) ?_;refine da (ar (t:=(.int .i64)) rfl dh rfl) ?_;refine da (av rfl fX) ?_;refine ea 0 (ak rfl mZ kV rfl) ?_;refine dm ?_;obtain⟨F,u,h⟩:=ab h;refine db (ba (t:=bS) rfl wP nW u) ?_;refine da (aM 1 false rfl rC rfl) ?_;refine da (ar (t:=(.slice (.int .i64))) rfl co rfl) ?_;obtain⟨j,D,h⟩:=ab h;refine da (zd (an [.tmp 31] rfl rfl AU rfl (dG k F.2 j D))) ?_;refine db (cU [(0,.tmp 25,_),(1,.tmp 32,_)] rfl B0 uR wj (iQ ⟨rfl,rfl,trivial⟩) rfl) ?_;refine da (bH (t:=bS) [(.tmp 33,_)] [(l.1,j)] rfl rfl G1 (.cons trivial (.agg (.pair .int .rep)) .nil) rfl rfl) ?_;refine df eA ?_;obtain⟨O,y,h⟩:=ab h;refine fr 3 ?_;refine dN rfl rfl rfl (cz rfl rfl G1 (aE y)) ⟨rfl,rfl,trivial⟩ fun M=>?_;refine fl fX ?_;refine pV fun o16=>?_;refine fr 3 ?_;refine aS rfl rfl (aO rfl mZ o16 rfl rfl) ⟨rfl,rfl,trivial⟩ ?_;refine ao (aG (tn (aa (mq ?_))));obtain⟨E,s,h⟩:=ab h;refine jb (bg rfl s) ?_;refine aq (nl ?_);exact jz (M,(y9.1++[(l.1,j)],E)) h [2,3,0,1,4]
  ·refine xa ?_;exact jz (e,y9.1) h [1,2,3,4]
 ·
  refine sr (fr 1 ?_);refine lo gC ?_;refine fr 1 ?_;refine aS rfl rfl (aO rfl gC trivial rfl rfl) ⟨rfl,rfl,trivial⟩ ?_;refine nt (aA (bL (SE.fin (Γ':=[(2,_)]) [2,3,0,1] ⟨rfl,trivial⟩ rfl) ?_));cases h;exact aL (z8,v4) [.agg (.pair (I a0.1) (.pair (.eq z8) (.eq v4)))] 2 ⟨⟨_,_,_,_,_,rfl,(.tail _ (.tail _ (.head _))),gC,(xj),rfl⟩,trivial⟩ rfl
def jj(k:Nat)(a0:bZ):Option (Int×bZ):=
 ((if a0.2.1 < (a0.1.length:Int) then((bf a0.1 a0.2.1).bind fun x3=>
 some (IntKind.u64.wrap ((IntKind.u64.wrap ((IntKind.u64.wrap (a0.2.2 * 6364136223846793005))+1442695040888963407))+(IntKind.u64.wrap ((IntKind.u64.wrap x3) * 2862933555777941757))))) else(some (IntKind.u64.wrap ((IntKind.u64.wrap (a0.2.2 * 6364136223846793005))+1442695040888963407)))):Option (Int)).bind fun x1=>
 (ck (a0.2.1+1)).bind fun x4=>
 some (iI .u64 (rz .u64 (IntKind.u64.wrap ((rz .u64 x1 (iI .u64 x1 29)) * 2685821657736338717)) (iI .u64 (IntKind.u64.wrap ((rz .u64 x1 (iI .u64 x1 29)) * 2685821657736338717)) 32)) 8,(a0.1,x4,x1))
theorem tP(k:Nat)(a0:bZ)(c:Nat)(r:Int×bZ)(h:jj k a0=some r):
 cu Tryz.prog 82 [Pt c] [.obj c 98 (.agg (.pair (Ri a0.1) (.pair (I a0.2.1) (.eq (.int .u64 a0.2.2)))))] (fun _:Unit=>(bq [.eq (.int .u64 r.1)],[.obj c 98 (.agg (.pair (Ri r.2.1) (.pair (I r.2.2.1) (.eq (.int .u64 r.2.2.2)))))])):=by
 unfold jj at h
 replace h:=be h
 refine cu.of 67 Tryz.func82 rfl Tryz.ntmps82 rfl fun S w0=>?_
 refine sr ?_
 refine cq ?_
 refine nt ?_
 refine sr ?_
 iterate 2 refine mq ?_
 refine ja (aX rfl) ?_
 refine fl tR ?_
 refine lo EW ?_
 refine jb (Cj rfl) ?_
 refine jb (Cm rfl) ?_
 refine ja (aX rfl) ?_
 refine fl tR ?_
 refine aS rfl rfl (aO rfl EW rfl rfl rfl) ⟨rfl,rfl,trivial⟩ ?_
 refine nt ?_
 refine aN (Z:=Unit) (α:=Int) (fun z2 x1=>[(0,Pt c)]) (fun z2 x1=>[.obj c 98 (.agg (.pair (Ri a0.1) (.pair (I a0.2.1) (.eq (.int .u64 x1)))))]) h (fun K h=>?_) (fun z2 x1 h=>?_)
 ·
  refine ag (bW ?_);refine dm ?_;refine da (aX rfl) ?_;refine da (av rfl yO) ?_;refine ea 0 (ak rfl dh kV rfl) ?_;refine dm ?_;refine da (aX rfl) ?_;refine da (av rfl IV) ?_;refine ea 0 (ak rfl co kV rfl) ?_;refine da (jF rfl rfl fg) ?_;refine df eA ?_;refine jb (bm rfl) ?_;refine nt (ci h (fun h=>?_) (fun h=>?_))
  ·refine bW ?_;refine dm ?_;refine dm ?_;refine da (aX rfl) ?_;refine da (av rfl tR) ?_;refine ea 0 (ak rfl EW kV rfl) ?_;refine dm ?_;refine da (aX rfl) ?_;refine da (av rfl IV) ?_;refine ea 0 (ak rfl co kV rfl) ?_;refine dm ?_;refine da (aX rfl) ?_;refine da (av rfl yO) ?_;refine ea 0 (ak rfl dh kV rfl) ?_;obtain⟨x3,j,h⟩:=ab h;refine db (ba (t:=(.int .i64)) rfl fg dh j) ?_;refine da (ar (t:=(.int .i64)) rfl dh rfl) ?_;refine da (pq rfl U3 RI) ?_;refine db (Cj rfl) ?_;refine db (Cm rfl) ?_;refine df eA ?_;refine ja (aX rfl) ?_;refine fl tR ?_;refine aS rfl rfl (aO rfl EW rfl rfl rfl) ⟨rfl,rfl,trivial⟩ ?_;refine nl ?_;exact jz ((),IntKind.u64.wrap ((IntKind.u64.wrap ((IntKind.u64.wrap (a0.2.2 * 6364136223846793005))+1442695040888963407))+(IntKind.u64.wrap ((IntKind.u64.wrap x3) * 2862933555777941757)))) h [0]
  ·refine aV (ae ?_);exact jz ((),IntKind.u64.wrap ((IntKind.u64.wrap (a0.2.2 * 6364136223846793005))+1442695040888963407)) h [0]
 ·
  refine sr (mq ?_);refine ja (aX rfl) ?_;refine fl yO ?_;refine lo dh ?_;obtain⟨x4,e,h⟩:=ab h;refine jb (bg rfl e) ?_;refine ja (aX rfl) ?_;refine fl yO ?_;refine aS rfl rfl (aO rfl dh rfl rfl rfl) ⟨rfl,rfl,trivial⟩ ?_;refine nt (ag (bW ?_));refine dm ?_;refine da (aX rfl) ?_;refine da (av rfl tR) ?_;refine ea 0 (ak rfl EW kV rfl) ?_;refine dm ?_;refine da (aX rfl) ?_;refine da (av rfl tR) ?_;refine ea 0 (ak rfl EW kV rfl) ?_;refine dA rfl rfl rfl (vC rfl (by decide)) ⟨rfl,rfl,trivial⟩ ?_;refine df eA ?_;refine jb (MK rfl) ?_;refine aq (nt (sr ?_));refine mq ?_;refine jb (Cj rfl) ?_;refine aq (nt (sr ?_));iterate 2 refine mq ?_
  refine aB rfl (vC rfl (by decide)) ⟨rfl,rfl,trivial⟩ ?_;refine jb (MK rfl) ?_;refine aB rfl (vC rfl (by decide)) ⟨rfl,rfl,trivial⟩ ?_;refine aq (nt (aA ?_));cases h;exact aL () [_] 1 ⟨rfl,trivial⟩ rfl
def fe(k:Nat)(a0:bZ)(a1:Int):Option (Int×bZ):=
 if a1 < 1 then(some (0,(a0.1,a0.2.1,a0.2.2))) else((jj k (a0.1,a0.2.1,a0.2.2)).bind fun r1=>
 (ck (a1+1)).bind fun x2=>
 (eM ((IntKind.u64.wrap x2)≠0)).bind fun _=>
 (ck (Int.tmod r1.1 (IntKind.u64.wrap x2))).bind fun x4=>
 some (x4,(r1.2.1,r1.2.2.1,r1.2.2.2)))
theorem i8(k:Nat)(a0:bZ)(c:Nat)(a1:Int)(r:Int×bZ)(h:fe k a0 a1=some r):
 cu Tryz.prog 28 [Pt c,I a1] [.obj c 98 (.agg (.pair (Ri a0.1) (.pair (I a0.2.1) (.eq (.int .u64 a0.2.2)))))] (fun _:Unit=>(bq [I r.1],[.obj c 98 (.agg (.pair (Ri r.2.1) (.pair (I r.2.2.1) (.eq (.int .u64 r.2.2.2)))))])):=by
 unfold fe at h
 replace h:=be h
 refine cu.of 14 Tryz.func28 rfl Tryz.ntmps28 rfl fun S w0=>?_
 refine sr ?_
 refine cq ?_
 refine nt ?_
 refine ag ?_
 refine sr ?_
 refine mq ?_
 refine jb (bm rfl) ?_
 refine nt ?_
 refine ci h (fun h=>?_) (fun h=>?_)
 ·
  refine sr (cq (nt (rx ?_)));cases h;exact aL () [_] 1 ⟨rfl,trivial⟩ rfl
 ·
  refine sk (sr (mq ?_));obtain⟨r1,n,h⟩:=ab h;refine ka (an [.tmp 7] rfl rfl SA rfl (tP k (a0.1,a0.2.1,a0.2.2) c r1 n)) ?_;refine mq ?_;obtain⟨x2,j,h⟩:=ab h;refine jb (bg rfl j) ?_;refine ja (pq rfl U3 RI) ?_;obtain⟨u3,l,h⟩:=ab h;refine jb (PT rfl (aE l)) ?_;obtain⟨x4,e,h⟩:=ab h;refine ja (zZ rfl RI U3 e) ?_;refine aq (nt (aA ?_));cases h;exact aL () [_] 1 ⟨rfl,trivial⟩ rfl
def ff(k:Nat)(a0:bZ)(a1:Int)(a2:Int):Option (Int×bZ):=
 (ck (a2 - a1)).bind fun x1=>
 (fe k (a0.1,a0.2.1,a0.2.2) x1).bind fun r2=>
 (ck (a1+r2.1)).bind fun x3=>
 some (x3,(r2.2.1,r2.2.2.1,r2.2.2.2))
theorem ma(k:Nat)(a0:bZ)(c:Nat)(a1:Int)(a2:Int)(r:Int×bZ)(h:ff k a0 a1 a2=some r):
 cu Tryz.prog 51 [Pt c,I a1,I a2] [.obj c 98 (.agg (.pair (Ri a0.1) (.pair (I a0.2.1) (.eq (.int .u64 a0.2.2)))))] (fun _:Unit=>(bq [I r.1],[.obj c 98 (.agg (.pair (Ri r.2.1) (.pair (I r.2.2.1) (.eq (.int .u64 r.2.2.2)))))])):=by
 unfold ff at h
 replace h:=be h
 refine cu.of 14 Tryz.func51 rfl Tryz.ntmps51 rfl fun S w0=>?_
 refine sr ?_
 refine cq ?_
 refine nt ?_
 refine sr ?_
 iterate 4 refine mq ?_
 obtain⟨x1,j,h⟩:=ab h
 refine jb (f6 rfl j) ?_
 obtain⟨r2,l,h⟩:=ab h
 have n:=i8 k (a0.1,a0.2.1,a0.2.2) c x1 r2 l
 refine kb (an [.tmp 8,.tmp 11] rfl rfl LA rfl n) ?_
 obtain⟨x3,e,h⟩:=ab h
 refine jb (bg rfl e) ?_
 refine aq ?_
 refine nt ?_
 refine aA ?_
 cases h
 exact aL () [_] 1 ⟨rfl,trivial⟩ rfl
def jJ(k:Nat)(a0:bZ)(a1:(List Int)):Option (Int×bZ):=
 (ck ((a1.length:Int) - 1)).bind fun x1=>
 (fe k (a0.1,a0.2.1,a0.2.2) x1).bind fun r2=>
 (bf a1 r2.1).bind fun x3=>
 some (x3,(r2.2.1,r2.2.2.1,r2.2.2.2))
theorem pD(k:Nat)(a0:bZ)(c:Nat)(a1:(List Int))(r:Int×bZ)(h:jJ k a0 a1=some r):
 cu Tryz.prog 112 [Pt c,Ri a1] [.obj c 98 (.agg (.pair (Ri a0.1) (.pair (I a0.2.1) (.eq (.int .u64 a0.2.2)))))] (fun _:Unit=>(bq [I r.1],[.obj c 98 (.agg (.pair (Ri r.2.1) (.pair (I r.2.2.1) (.eq (.int .u64 r.2.2.2)))))])):=by
 unfold jJ at h
 replace h:=be h
 refine cu.of 13 Tryz.func112 rfl Tryz.ntmps112 rfl fun S w0=>?_
 refine sr ?_
 refine cq ?_
 refine nt ?_
 refine sr ?_
 iterate 3 refine mq ?_
 refine ol fg ?_
 obtain⟨x1,j,h⟩:=ab h
 refine jb (f6 rfl j) ?_
 obtain⟨r2,l,h⟩:=ab h
 have n:=i8 k (a0.1,a0.2.1,a0.2.2) c x1 r2 l
 refine kb (an [.tmp 6,.tmp 9] rfl rfl LA rfl n) ?_
 obtain⟨x3,e,h⟩:=ab h
 refine jb (ba (t:=(.int .i64)) rfl fg dh e) ?_
 refine ja (ar (t:=(.int .i64)) rfl dh rfl) ?_
 refine aq ?_
 refine nt ?_
 refine aA ?_
 cases h
 exact aL () [_] 1 ⟨rfl,trivial⟩ rfl
def fW(k:Nat)(a0:bZ)(a1:Int):Option (Bool×bZ):=
 (ck (a1 - 1)).bind fun x1=>
 (fe k (a0.1,a0.2.1,a0.2.2) x1).bind fun r2=>
 some (decide (r2.1=0),(r2.2.1,r2.2.2.1,r2.2.2.2))
theorem nL(k:Nat)(a0:bZ)(c:Nat)(a1:Int)(r:Bool×bZ)(h:fW k a0 a1=some r):
 cu Tryz.prog 113 [Pt c,I a1] [.obj c 98 (.agg (.pair (Ri a0.1) (.pair (I a0.2.1) (.eq (.int .u64 a0.2.2)))))] (fun _:Unit=>(bq [.eq (.bool r.1)],[.obj c 98 (.agg (.pair (Ri r.2.1) (.pair (I r.2.2.1) (.eq (.int .u64 r.2.2.2)))))])):=by
 unfold fW at h
 replace h:=be h
 refine cu.of 10 Tryz.func113 rfl Tryz.ntmps113 rfl fun S w0=>?_
 refine sr ?_
 refine cq ?_
 refine nt ?_
 refine sr ?_
 iterate 2 refine mq ?_
 obtain⟨x1,e,h⟩:=ab h
 refine jb (f6 rfl e) ?_
 obtain⟨r2,j,h⟩:=ab h
 have l:=i8 k (a0.1,a0.2.1,a0.2.2) c x1 r2 j
 refine kb (an [.tmp 5,.tmp 7] rfl rfl LA rfl l) ?_
 refine jb (dw rfl) ?_
 refine aq ?_
 refine nt ?_
 refine aA ?_
 cases h
 exact aL () [_] 1 ⟨rfl,trivial⟩ rfl
def eZ(k:Nat)(r2:Int×bZ):Nat→((List Int)×Int×Int×(List Int)×Int)→Option ((List Int)×Int×Int×(List Int))
 |0,_=>none
 |n+1,c=>
  if c.2.2.2.2 < r2.1 then((((fW k (c.1,c.2.1,c.2.2.1) 2).bind fun e=>
  if e.1=true then((eM (bY (List.length c.2.2.2.1+List.length [c.2.2.2.2]))).bind fun _=>
  some (e.2.1,e.2.2.1,e.2.2.2,c.2.2.2.1++[c.2.2.2.2])) else(some (e.2.1,e.2.2.1,e.2.2.2,c.2.2.2.1))):Option ((List Int)×Int×Int×(List Int))).bind fun h=>
  (ck (c.2.2.2.2+1)).bind fun j=>
  eZ k r2 n (h.1,h.2.1,h.2.2.1,h.2.2.2,j)) else(some (c.1,c.2.1,c.2.2.1,c.2.2.2.1))
def fa(k:Nat)(r2:Int×bZ):Nat→((List Int)×Int×Int×(List iE)×Int×Int)→Option ((List Int)×Int×Int×(List iE)×Int)
 |0,_=>none
 |n+1,y7=>
  if 0 < y7.2.2.2.2.2 then((((jJ k (y7.1,y7.2.1,y7.2.2.1) [1,1,1,2,3]).bind fun c=>
  ((eZ k r2 k (c.2.1,c.2.2.1,c.2.2.2,([]:(List Int)),0)):Option ((List Int)×Int×Int×(List Int))).bind fun e=>
  (eM (bY (List.length y7.2.2.2.1+List.length [(c.1,e.2.2.2)]))).bind fun _=>
  (ck (y7.2.2.2.2.1+c.1)).bind fun j=>
  some (e.1,e.2.1,e.2.2.1,y7.2.2.2.1++[(c.1,e.2.2.2)],j)):Option ((List Int)×Int×Int×(List iE)×Int)).bind fun x9=>
  (ck (y7.2.2.2.2.2 - 1)).bind fun h=>
  fa k r2 n (x9.1,x9.2.1,x9.2.2.1,x9.2.2.2.1,x9.2.2.2.2,h)) else(some (y7.1,y7.2.1,y7.2.2.1,y7.2.2.2.1,y7.2.2.2.2.1))
def eY(k:Nat)(x4:(List Int)×Int×Int×(List iE)×Int):Nat→((List Int)×Int×Int×(List Int)×Int)→Option ((List Int)×Int×Int×(List Int))
 |0,_=>none
 |n+1,c=>
  if 0 < c.2.2.2.2 then((ck (x4.2.2.2.2+1)).bind fun j=>
  (jJ k (c.1,c.2.1,c.2.2.1) [1,2,3,qH 9 x4.2.2.2.2,qH 9 j]).bind fun e=>
  (eM (bY (List.length c.2.2.2.1+List.length [e.1]))).bind fun _=>
  (ck (c.2.2.2.2 - 1)).bind fun h=>
  eY k x4 n (e.2.1,e.2.2.1,e.2.2.2,c.2.2.2.1++[e.1],h)) else(some (c.1,c.2.1,c.2.2.1,c.2.2.2.1))
def iY(k:Nat)(a0:bZ)(a1:Int)(a2:Int):Option (bB×bZ):=
 (ff k (a0.1,a0.2.1,a0.2.2) 1 4).bind fun r2=>
 (((ff k (r2.2.1,r2.2.2.1,r2.2.2.2) 0 a1).bind fun r6=>
 fa k r2 k (r6.2.1,r6.2.2.1,r6.2.2.2,([]:(List iE)),0,r6.1)):Option ((List Int)×Int×Int×(List iE)×Int)).bind fun x4=>
 (((ff k (x4.1,x4.2.1,x4.2.2.1) 1 a2).bind fun j=>
 eY k x4 k (j.2.1,j.2.2.1,j.2.2.2,([]:(List Int)),j.1)):Option ((List Int)×Int×Int×(List Int))).bind fun e=>
 (((fW k (e.1,e.2.1,e.2.2.1) 2).bind fun c=>
 if c.1=true then((bf e.2.2.2 0).bind fun l=>
 some (List.set e.2.2.2 (Int.toNat 0) (qH 9 x4.2.2.2.2),c.2.1,c.2.2.1,c.2.2.2)) else(some (e.2.2.2,c.2.1,c.2.2.1,c.2.2.2))):Option ((List Int)×(List Int)×Int×Int)).bind fun h=>
 some ((r2.1,x4.2.2.2.1,h.1),(h.2.1,h.2.2.1,h.2.2.2))
theorem qM(k:Nat)(a0:bZ)(c:Nat)(a1:Int)(a2:Int)(r:bB×bZ)(h:iY k a0 a1 a2=some r):
 cu Tryz.prog 49 [Pt c,I a1,I a2] [.obj c 98 (.agg (.pair (Ri a0.1) (.pair (I a0.2.1) (.eq (.int .u64 a0.2.2)))))] (fun _:Unit=>(bq [.rep aF r.1],[.obj c 98 (.agg (.pair (Ri r.2.1) (.pair (I r.2.2.1) (.eq (.int .u64 r.2.2.2)))))])):=by
 unfold iY at h
 replace h:=be h
 refine cu.of 79 Tryz.func49 rfl Tryz.ntmps49 rfl fun S w0=>?_
 refine sr ?_
 refine aw rfl rfl rfl (aP rfl kW m7) trivial fun b1=>?_
 refine nt ?_
 refine sr ?_
 refine mq ?_
 obtain⟨r2,Ur,h⟩:=ab h
 have Us:=ma k (a0.1,a0.2.1,a0.2.2) c 1 4 r2 Ur
 refine fr 1 ?_
 refine kc (an [.tmp 13,.const (.int .i64 (1)),.const (.int .i64 (4))] rfl rfl OA rfl Us) ?_
 refine ja (cU [(0,.tmp 14,_)] rfl Ks kW Es (iQ ⟨rfl,trivial⟩) rfl) ?_
 refine aw rfl rfl rfl (aP rfl kW m7) trivial fun b3=>?_
 refine aS rfl rfl (aO rfl gC trivial rfl rfl) ⟨rfl,rfl,trivial⟩ ?_
 refine nt ?_
 refine sr ?_
 refine cq ?_
 refine nt ?_
 refine aN (Z:=Value) (α:=(List Int)×Int×Int×(List iE)×Int) (fun z5 x4=>[(0,Pt c),(2,I a2),(6,Pt b1),(7,Pt b3),(8,I x4.2.2.2.2)]) (fun z5 x4=>[.obj c 98 (.agg (.pair (Ri x4.1) (.pair (I x4.2.1) (.eq (.int .u64 x4.2.2.1))))),.obj b1 25 (.agg (.pair (I 0) (.pair (.eq (.slice none 0 0)) (.eq (.slice none 0 0))))),.obj b3 25 (.agg (.pair (I r2.1) (.pair (.eq z5) (.eq (.slice none 0 0))))),.sl z5 27 bS x4.2.2.2.1]) h (fun K h=>?_) (fun z5 x4 h=>?_)
 ·
  refine sr ?_;iterate 2 refine mq ?_
  obtain⟨r6,Up,h⟩:=ab h;refine fr 1 ?_;refine kc (an [.tmp 16,.const (.int .i64 (0)),.tmp 17] rfl rfl OA rfl (ma k (r2.2.1,r2.2.2.1,r2.2.2.2) c 0 a1 r6 Up)) ?_;refine aq (nt (aj ?_));refine fw (SE.nil 27 bS) ?_;refine aI (fun z8 y7=>[(0,Pt c),(2,I a2),(6,Pt b1),(7,Pt b3),(8,I y7.2.2.2.2.1),(9,I y7.2.2.2.2.2)]) (fun z8 y7=>[.obj c 98 (.agg (.pair (Ri y7.1) (.pair (I y7.2.1) (.eq (.int .u64 y7.2.2.1))))),.obj b1 25 (.agg (.pair (I 0) (.pair (.eq (.slice none 0 0)) (.eq (.slice none 0 0))))),.obj b3 25 (.agg (.pair (I r2.1) (.pair (.eq z8) (.eq (.slice none 0 0))))),.sl z8 27 bS y7.2.2.2.1]) (fa k r2) k (.slice none 0 0) (r6.2.1,r6.2.2.1,r6.2.2.2,([]:(List iE)),0,r6.1) (fun _=>rfl) h (SE.fin [1,3,2,0] ⟨rfl,rfl,rfl,rfl,rfl,rfl,trivial⟩ rfl) (fun n z8 y7 h=>?_);unfold fa at h;refine ag (sr (mq ?_));refine jb (l6 rfl) ?_;refine nt (ci h (fun h=>?_) (fun h=>?_))
  ·refine sk (aN (Z:=Value) (α:=(List Int)×Int×Int×(List iE)×Int) (fun X x9=>[(0,Pt c),(2,I a2),(6,Pt b1),(7,Pt b3),(8,I x9.2.2.2.2),(9,I y7.2.2.2.2.2)]) (fun X x9=>[.obj c 98 (.agg (.pair (Ri x9.1) (.pair (I x9.2.1) (.eq (.int .u64 x9.2.2.1))))),.obj b1 25 (.agg (.pair (I 0) (.pair (.eq (.slice none 0 0)) (.eq (.slice none 0 0))))),.obj b3 25 (.agg (.pair (I r2.1) (.pair (.eq X) (.eq (.slice none 0 0))))),.sl X 27 bS x9.2.2.2.1]) h (fun K h=>?_) (fun X x9 h=>?_))
   ·refine aj (sr (mq ?_));refine aB rfl (bH (t:=(.int .i64)) [(.const (.int .i64 (1)),_),(.const (.int .i64 (1)),_),(.const (.int .i64 (1)),_),(.const (.int .i64 (2)),_),(.const (.int .i64 (3)),_)] [1,1,1,2,3] rfl rfl fD (.cons rfl .int (.cons rfl .int (.cons rfl .int (.cons rfl .int (.cons rfl .int .nil))))) rfl rfl) ⟨rfl,rfl,rfl,rfl,rfl,trivial⟩ ?_;obtain⟨s,T9,h⟩:=ab h;refine kb (an [.tmp 23,.tmp 24] rfl rfl MX rfl (pD k (y7.1,y7.2.1,y7.2.2.1) c [1,1,1,2,3] s T9)) ?_;refine ja (cU [(0,.tmp 25,_)] rfl B0 uR wj (iQ ⟨rfl,trivial⟩) rfl) ?_;refine aw rfl rfl rfl (aP rfl uR LP) trivial fun M=>?_;refine aS rfl rfl (aO rfl nW trivial rfl rfl) ⟨rfl,rfl,trivial⟩ ?_;refine nt (aN (Z:=Value) (α:=(List Int)×Int×Int×(List Int)) (fun ac j=>[(0,Pt c),(2,I a2),(6,Pt b1),(7,Pt b3),(8,I y7.2.2.2.2.1),(9,I y7.2.2.2.2.2),(10,Pt M)]) (fun ac j=>[.obj c 98 (.agg (.pair (Ri j.1) (.pair (I j.2.1) (.eq (.int .u64 j.2.2.1))))),.obj b1 25 (.agg (.pair (I 0) (.pair (.eq (.slice none 0 0)) (.eq (.slice none 0 0))))),.obj b3 25 (.agg (.pair (I r2.1) (.pair (.eq z8) (.eq (.slice none 0 0))))),.sl z8 27 bS y7.2.2.2.1,.obj M 27 (.agg (.pair (I s.1) (.eq ac))),.sl ac 3 (.int .i64) j.2.2.2]) h (fun K h=>?_) (fun ac j h=>?_))
    ·refine sr (cq (nt (aj ?_)));refine fw (SE.nil 3 (.int .i64)) ?_;refine aI (fun Q e=>[(0,Pt c),(2,I a2),(6,Pt b1),(7,Pt b3),(8,I y7.2.2.2.2.1),(9,I y7.2.2.2.2.2),(10,Pt M),(11,I e.2.2.2.2)]) (fun Q e=>[.obj c 98 (.agg (.pair (Ri e.1) (.pair (I e.2.1) (.eq (.int .u64 e.2.2.1))))),.obj b1 25 (.agg (.pair (I 0) (.pair (.eq (.slice none 0 0)) (.eq (.slice none 0 0))))),.obj b3 25 (.agg (.pair (I r2.1) (.pair (.eq z8) (.eq (.slice none 0 0))))),.sl z8 27 bS y7.2.2.2.1,.obj M 27 (.agg (.pair (I s.1) (.eq Q))),.sl Q 3 (.int .i64) e.2.2.2.1]) (eZ k r2) k (.slice none 0 0) (s.2.1,s.2.2.1,s.2.2.2,([]:(List Int)),0) (fun _=>rfl) h (SE.fin [2,3,4,5,1,0] ⟨rfl,rfl,rfl,rfl,rfl,rfl,rfl,rfl,trivial⟩ rfl) (fun n Q e h=>?_);unfold eZ at h;refine ag (sr (mq ?_));refine fl jA ?_;refine fr 2 ?_;refine lo dh ?_;refine jb (bm rfl) ?_;refine nt (ci h (fun h=>?_) (fun h=>?_))
     ·refine sk (aN (Z:=Value) (α:=(List Int)×Int×Int×(List Int)) (fun U x=>[(0,Pt c),(2,I a2),(6,Pt b1),(7,Pt b3),(8,I y7.2.2.2.2.1),(9,I y7.2.2.2.2.2),(10,Pt M),(11,I e.2.2.2.2)]) (fun U x=>[.obj c 98 (.agg (.pair (Ri x.1) (.pair (I x.2.1) (.eq (.int .u64 x.2.2.1))))),.obj b1 25 (.agg (.pair (I 0) (.pair (.eq (.slice none 0 0)) (.eq (.slice none 0 0))))),.obj b3 25 (.agg (.pair (I r2.1) (.pair (.eq z8) (.eq (.slice none 0 0))))),.sl z8 27 bS y7.2.2.2.1,.obj M 27 (.agg (.pair (I s.1) (.eq U))),.sl U 3 (.int .i64) x.2.2.2]) h (fun K h=>?_) (fun U x h=>?_))
      ·refine aj (sr (mq ?_));obtain⟨J,T8,h⟩:=ab h;refine fr 1 ?_;refine kb (an [.tmp 33,.const (.int .i64 (2))] rfl rfl MW rfl (nL k (e.1,e.2.1,e.2.2.1) c 2 J T8)) ?_;refine nt (cv h (fun h=>?_) (fun h=>?_))
       ·refine aa (fl rC ?_);refine fr 4 ?_;refine lo co ?_;refine mq ?_;refine ja (bH (t:=(.int .i64)) [(.tmp 37,_)] [e.2.2.2.2] rfl rfl fD (.cons rfl .int .nil) rfl rfl) ?_;obtain⟨UH,TU,h⟩:=ab h;refine fr 5 ?_;refine dN rfl rfl rfl (cz rfl rfl fD (aE TU)) ⟨rfl,rfl,trivial⟩ fun Uf=>?_;refine fl rC ?_;refine pV fun o22=>?_;refine fr 1 ?_;refine aS rfl rfl (aO rfl co o22 rfl rfl) ⟨rfl,rfl,trivial⟩ ?_;refine ao (bn ?_);exact jz (Uf,(J.2.1,J.2.2.1,J.2.2.2,e.2.2.2.1++[e.2.2.2.2])) h [2,4,3,5,0,1]
       ·refine aV (bn ?_);exact jz (Q,(J.2.1,J.2.2.1,J.2.2.2,e.2.2.2.1)) h [0,2,1,3,4,5]
      ·refine aa (mq ?_);obtain⟨Ud,TP,h⟩:=ab h;refine jb (bg rfl TP) ?_;refine aq (nl ?_);exact jz (U,(x.1,x.2.1,x.2.2.1,x.2.2.2,Ud)) h [0,1,2,3,4,5]
     ·refine xa ?_;exact jz (Q,(e.1,e.2.1,e.2.2.1,e.2.2.2.1)) h [1,2,0,3,4,5]
    ·refine ct 4 rfl ?_;refine ct 5 rfl ?_;refine fw (jB (off:=1) [] trivial rfl rfl) ?_;refine ml ?_;refine bX rfl rfl rfl (av rfl fX) ⟨rfl,trivial⟩ ?_;refine gB 3 rfl rfl rfl rfl (ak rfl mZ kV rfl) ⟨rfl,trivial⟩ ?_;refine gB 0 rfl rfl rfl rfl (ak rfl nW (xj) rfl) ⟨rfl,trivial⟩ ?_;refine bX rfl rfl rfl (bH (t:=bS) [(.tmp 43,_)] [(s.1,j.2.2.2)] rfl rfl G1 (.cons trivial (.agg (.pair .int .rep)) .nil) rfl rfl) ⟨rfl,trivial⟩ ?_;obtain⟨UG,TS,h⟩:=ab h;refine JJ 4 rfl (fun v=>[.sl v 27 bS (y7.2.2.2.1++[(s.1,j.2.2.2)])]) (fun _=>rfl) rfl rfl rfl (cz rfl rfl G1 (aE TS)) ⟨rfl,rfl,trivial⟩ ?_;refine bX rfl rfl rfl (bG rfl) ⟨rfl,trivial⟩ ?_;refine bX rfl rfl rfl (av rfl tU) ⟨rfl,trivial⟩ ?_;refine gB 0 rfl rfl rfl rfl (ak rfl dh kV rfl) ⟨rfl,trivial⟩ ?_;obtain⟨Uc,TO,h⟩:=ab h;refine bX rfl rfl rfl (bg rfl TO) ⟨rfl,rfl,trivial⟩ ?_;refine bX rfl rfl rfl (av rfl fX) ⟨rfl,trivial⟩ ?_;refine rM 10 [true,true,true,true,true,false,false,false,false,true] [] [0] [.obj M 27 (.agg (.pair (I s.1) (Ri j.2.2.2)))] rfl (by kernel_rfl) (by kernel_rfl) (by kernel_rfl) eA (fun vs hv hB=>?_);obtain⟨w0,UE,rfl,Uo⟩:=aD hv;obtain⟨w1,UD,rfl,Un⟩:=aD Uo;obtain⟨w2,UC,rfl,Um⟩:=aD Un;obtain⟨w3,UB,rfl,Ul⟩:=aD Um;obtain⟨se,UA,rfl,Uk⟩:=aD Ul;obtain⟨w5,Uz,rfl,Uj⟩:=aD Uk;obtain⟨w6,Uy,rfl,Ui⟩:=aD Uj;obtain⟨w7,Ux,rfl,Uh⟩:=aD Ui;obtain⟨w8,Uw,rfl,Ug⟩:=aD Uh;obtain⟨w9,Ut,rfl,TK⟩:=aD Ug;obtain rfl:=ot TK;refine⟨[0,1,2,3,4],[.obj c 98 (.agg (.pair (Ri j.1) (.pair (I j.2.1) (.eq (.int .u64 j.2.2.1))))),.obj b1 25 (.agg (.pair (I 0) (.pair (.eq (.slice none 0 0)) (.eq (.slice none 0 0))))),.obj b3 25 (.agg (.pair (I r2.1) (.pair (.eq z8) (.eq (.slice none 0 0))))),.sl se 27 bS (y7.2.2.2.1++[(s.1,j.2.2.2)])],by kernel_rfl,by decide,?_⟩;refine sU 3 rfl ?_;refine OZ fun o27=>?_;refine sU 3 rfl ?_;refine rL rfl rfl (aO rfl mZ o27 rfl rfl) ⟨rfl,rfl,trivial⟩ (by kernel_rfl) ?_;refine Jz (by kernel_rfl) ?_;refine aq (ao (bn ?_));exact jz (se,(j.1,j.2.1,j.2.2.1,y7.2.2.2.1++[(s.1,j.2.2.2)],Uc)) h [3,4,1,2]
   ·refine aa (mq ?_);obtain⟨Ub,TN,h⟩:=ab h;refine jb (f6 rfl TN) ?_;refine aq (nl ?_);exact jz (X,(x9.1,x9.2.1,x9.2.2.1,x9.2.2.2.1,x9.2.2.2.2,Ub)) h [0,1,2,3]
  ·refine xa ?_;exact jz (z8,(y7.1,y7.2.1,y7.2.2.1,y7.2.2.2.1,y7.2.2.2.2.1)) h [0,1,2,3]
 ·
  refine aN (Z:=Value) (α:=(List Int)×Int×Int×(List Int)) (fun O u=>[(0,Pt c),(6,Pt b1),(7,Pt b3),(8,I x4.2.2.2.2)]) (fun O u=>[.obj c 98 (.agg (.pair (Ri u.1) (.pair (I u.2.1) (.eq (.int .u64 u.2.2.1))))),.obj b1 25 (.agg (.pair (I 0) (.pair (.eq (.slice none 0 0)) (.eq (.slice none 0 0))))),.obj b3 25 (.agg (.pair (I r2.1) (.pair (.eq z5) (.eq O)))),.sl z5 27 bS x4.2.2.2.1,.sl O 3 (.int .i64) u.2.2.2]) h (fun K h=>?_) (fun O u h=>?_)
  ·refine sr ?_;iterate 2 refine mq ?_
   obtain⟨Y,TZ,h⟩:=ab h;refine kc (an [.tmp 51,.const (.int .i64 (1)),.tmp 52] rfl rfl OA rfl (ma k (x4.1,x4.2.1,x4.2.2.1) c 1 a2 Y TZ)) ?_;refine aq (nt (aj ?_));refine fw (SE.nil 3 (.int .i64)) ?_;refine aI (fun E l=>[(0,Pt c),(6,Pt b1),(7,Pt b3),(8,I x4.2.2.2.2),(12,I l.2.2.2.2)]) (fun E l=>[.obj c 98 (.agg (.pair (Ri l.1) (.pair (I l.2.1) (.eq (.int .u64 l.2.2.1))))),.obj b1 25 (.agg (.pair (I 0) (.pair (.eq (.slice none 0 0)) (.eq (.slice none 0 0))))),.obj b3 25 (.agg (.pair (I r2.1) (.pair (.eq z5) (.eq E)))),.sl z5 27 bS x4.2.2.2.1,.sl E 3 (.int .i64) l.2.2.2.1]) (eY k x4) k (.slice none 0 0) (Y.2.1,Y.2.2.1,Y.2.2.2,([]:(List Int)),Y.1) (fun _=>rfl) h (SE.fin [1,2,3,4,0] ⟨rfl,rfl,rfl,rfl,rfl,trivial⟩ rfl) (fun n E l h=>?_);unfold eY at h;refine ag (sr (mq ?_));refine jb (l6 rfl) ?_;refine nt (ci h (fun h=>?_) (fun h=>?_))
   ·refine sk (ag (aj (bW ?_)));refine da (av rfl d4) ?_;refine ea 2 (ak rfl co kV rfl) ?_;refine dm ?_;refine dm ?_;refine db (Ho rfl rfl) ?_;refine dm ?_;obtain⟨qt,TM,h⟩:=ab h;refine db (bg rfl TM) ?_;refine db (Ho rfl rfl) ?_;refine dA rfl rfl rfl (bH (t:=(.int .i64)) [(.const (.int .i64 (1)),_),(.const (.int .i64 (2)),_),(.const (.int .i64 (3)),_),(.tmp 62,_),(.tmp 65,_)] [1,2,3,qH 9 x4.2.2.2.2,qH 9 qt] rfl rfl fD (.cons rfl .int (.cons rfl .int (.cons rfl .int (.cons rfl .int (.cons rfl .int .nil))))) rfl rfl) ⟨rfl,rfl,rfl,rfl,rfl,trivial⟩ ?_;obtain⟨D,TY,h⟩:=ab h;refine EO 0 rfl rfl rfl rfl (an [.tmp 60,.tmp 66] rfl rfl MX rfl (pD k (l.1,l.2.1,l.2.2.1) c [1,2,3,qH 9 x4.2.2.2.2,qH 9 qt] D TY)) ⟨rfl,rfl,trivial⟩ ?_;refine da (bH (t:=(.int .i64)) [(.tmp 67,_)] [D.1] rfl rfl fD (.cons rfl .int .nil) rfl rfl) ?_;refine EP (Δ':=[.obj b1 25 (.agg (.pair (I 0) (.pair (.eq (.slice none 0 0)) (.eq (.slice none 0 0))))),.obj b3 25 (.agg (.pair (I r2.1) (.pair (.eq z5) (.eq E)))),.sl z5 27 bS x4.2.2.2.1,.sl E 3 (.int .i64) l.2.2.2.1,.obj c 98 (.agg (.pair (Ri D.2.1) (.pair (I D.2.2.1) (.eq (.int .u64 D.2.2.2)))))]) (by kernel_rfl) eA (by kernel_rfl) ?_;obtain⟨UF,TR,h⟩:=ab h;refine fr 3 ?_;refine dN rfl rfl rfl (cz rfl rfl fD (aE TR)) ⟨rfl,rfl,trivial⟩ fun Ue=>?_;refine fl d4 ?_;refine pV fun o38=>?_;refine fr 2 ?_;refine aS rfl rfl (aO rfl co o38 rfl rfl) ⟨rfl,rfl,trivial⟩ ?_;refine ao (aG (tn (aa (mq ?_))));obtain⟨Ua,TL,h⟩:=ab h;refine jb (f6 rfl TL) ?_;refine aq (nl ?_);exact jz (Ue,(D.2.1,D.2.2.1,D.2.2.2,l.2.2.2.1++[D.1],Ua)) h [4,2,0,3,1]
   ·refine xa ?_;exact jz (E,(l.1,l.2.1,l.2.2.1,l.2.2.2.1)) h [0,1,2,3,4]
  ·refine aN (Z:=Unit) (α:=(List Int)×(List Int)×Int×Int) (fun pp y=>[(6,Pt b1),(7,Pt b3)]) (fun pp y=>[.obj b1 25 (.agg (.pair (I 0) (.pair (.eq (.slice none 0 0)) (.eq (.slice none 0 0))))),.obj b3 25 (.agg (.pair (I r2.1) (.pair (.eq z5) (.eq O)))),.sl z5 27 bS x4.2.2.2.1,.sl O 3 (.int .i64) y.1,.obj c 98 (.agg (.pair (Ri y.2.1) (.pair (I y.2.2.1) (.eq (.int .u64 y.2.2.2)))))]) h (fun K h=>?_) (fun pp y h=>?_)
   ·refine sr (mq ?_);obtain⟨F,TX,h⟩:=ab h;refine kb (an [.tmp 71,.const (.int .i64 (2))] rfl rfl MW rfl (nL k (u.1,u.2.1,u.2.2.1) c 2 F TX)) ?_;refine nt (cv h (fun h=>?_) (fun h=>?_))
    ·refine aa (fl d4 ?_);refine fr 2 ?_;refine lo co ?_;refine mq ?_;refine jb (Ho rfl rfl) ?_;obtain⟨Uu,mc,h⟩:=ab h;refine fr 4 ?_;refine kb (a9 (t:=(.int .i64)) rfl fg dh mc) ?_;refine aS rfl rfl (c6 (i:=Int.toNat 0) rfl dh rfl (jw mc) rfl .int rfl) ⟨rfl,rfl,trivial⟩ ?_;refine nl ?_;exact jz ((),(List.set u.2.2.2 (Int.toNat 0) (qH 9 x4.2.2.2.2),F.2.1,F.2.2.1,F.2.2.2)) h [3,1,4,0,2]
    ·refine aV (ae ?_);exact jz ((),(u.2.2.2,F.2.1,F.2.2.1,F.2.2.2)) h [1,2,3,4,0]
   ·refine sr (fr 1 ?_);refine fr 2 ?_;refine cD (jB (off:=1) [] trivial rfl rfl) ?_;refine fr 2 ?_;refine cD (jB (off:=2) [] trivial rfl rfl) ?_;refine lo gC ?_;refine fr 1 ?_;refine aS rfl rfl (aO rfl gC trivial rfl rfl) ⟨rfl,rfl,trivial⟩ ?_;refine nt (aA (bL (oC (a:=.agg (.pair (I r2.1) (.pair (Rs bS x4.2.2.2.1) (Ri y.1)))) (a':=.rep aF (r2.1,x4.2.2.2.1,y.1)) (wv (.agg (.pair .int (.pair .rep .rep))))) ?_));refine bL (SE.fin (Γ':=[(6,_)]) [2,0,1] ⟨rfl,trivial⟩ rfl) ?_;cases h;exact aL () [.rep aF (r2.1,x4.2.2.2.1,y.1)] 1 ⟨⟨_,_,_,_,_,rfl,(.tail _ (.head _)),gC,(xj),rfl⟩,trivial⟩ rfl
def eB(k:Nat)(a1:Int):Nat→((List Int)×Int×Int×(List Int)×Int)→Option ((List Int)×(List Int)×Int×Int)
 |0,_=>none
 |n+1,y3=>
  if y3.2.2.2.2 < a1 then((fe k (y3.1,y3.2.1,y3.2.2.1) y3.2.2.2.2).bind fun r5=>
  (eM (bY (List.length y3.2.2.2.1+List.length [y3.2.2.2.2]))).bind fun _=>
  (bf (y3.2.2.2.1++[y3.2.2.2.2]) r5.1).bind fun x8=>
  (bf (y3.2.2.2.1++[y3.2.2.2.2]) y3.2.2.2.2).bind fun x9=>
  (bf (List.set (y3.2.2.2.1++[y3.2.2.2.2]) (Int.toNat y3.2.2.2.2) x8) r5.1).bind fun e=>
  (ck (y3.2.2.2.2+1)).bind fun c=>
  eB k a1 n (r5.2.1,r5.2.2.1,r5.2.2.2,List.set (List.set (y3.2.2.2.1++[y3.2.2.2.2]) (Int.toNat y3.2.2.2.2) x8) (Int.toNat r5.1) y3.2.2.2.2,c)) else(some (y3.2.2.2.1,y3.1,y3.2.1,y3.2.2.1))
def dZ(k:Nat)(a0:bZ)(a1:Int):Option ((List Int)×bZ):=
 ((eB k a1 k (a0.1,a0.2.1,a0.2.2,([]:(List Int)),0)):Option ((List Int)×(List Int)×Int×Int)).bind fun x1=>
 some (x1.1,(x1.2.1,x1.2.2.1,x1.2.2.2))
theorem mL(k:Nat)(a0:bZ)(c:Nat)(a1:Int)(r:(List Int)×bZ)(h:dZ k a0 a1=some r):
 cu Tryz.prog 63 [Pt c,I a1] [.obj c 98 (.agg (.pair (Ri a0.1) (.pair (I a0.2.1) (.eq (.int .u64 a0.2.2)))))] (fun _:Unit=>(bq [Ri r.1],[.obj c 98 (.agg (.pair (Ri r.2.1) (.pair (I r.2.2.1) (.eq (.int .u64 r.2.2.2)))))])):=by
 unfold dZ at h
 replace h:=be h
 refine cu.of 32 Tryz.func63 rfl Tryz.ntmps63 rfl fun S w0=>?_
 refine sr ?_
 refine cq ?_
 refine nt ?_
 refine sr ?_
 refine cq ?_
 refine nt ?_
 refine aN (Z:=Value) (α:=(List Int)×(List Int)×Int×Int) (fun z2 x1=>[(5,.eq z2)]) (fun z2 x1=>[.sl z2 3 (.int .i64) x1.1,.obj c 98 (.agg (.pair (Ri x1.2.1) (.pair (I x1.2.2.1) (.eq (.int .u64 x1.2.2.2)))))]) h (fun K h=>?_) (fun z2 x1 h=>?_)
 ·
  refine sr (cq (nt (aj ?_)));refine fw (SE.nil 3 (.int .i64)) ?_;refine aI (fun z4 y3=>[(0,Pt c),(1,I a1),(5,.eq z4),(6,I y3.2.2.2.2)]) (fun z4 y3=>[.obj c 98 (.agg (.pair (Ri y3.1) (.pair (I y3.2.1) (.eq (.int .u64 y3.2.2.1))))),.sl z4 3 (.int .i64) y3.2.2.2.1]) (eB k a1) k (.slice none 0 0) (a0.1,a0.2.1,a0.2.2,([]:(List Int)),0) (fun _=>rfl) h (SE.fin [1,0] ⟨rfl,rfl,rfl,rfl,trivial⟩ rfl) (fun n z4 y3 h=>?_);unfold eB at h;refine ag (sr ?_);iterate 2 refine mq ?_
  refine jb (bm rfl) ?_;refine nt (ci h (fun h=>?_) (fun h=>?_))
  ·refine sk (ag (aj (sr ?_)));iterate 2 refine mq ?_
   obtain⟨r5,y,h⟩:=ab h;refine kb (an [.tmp 13,.tmp 14] rfl rfl LA rfl (i8 k (y3.1,y3.2.1,y3.2.2.1) c y3.2.2.2.2 r5 y)) ?_;refine aq (nt (sr ?_));iterate 2 refine mq ?_
   refine ja (bH (t:=(.int .i64)) [(.tmp 17,_)] [y3.2.2.2.2] rfl rfl fD (.cons rfl .int .nil) rfl rfl) ?_;obtain⟨u6,x,h⟩:=ab h;refine fr 1 ?_;refine dN rfl rfl rfl (cz rfl rfl fD (aE x)) ⟨rfl,rfl,trivial⟩ fun v7=>?_;refine aq (nt (aa ?_));iterate 6 refine mq ?_
   obtain⟨x8,l,h⟩:=ab h;refine kb (a9 (t:=(.int .i64)) rfl fg dh l) ?_;refine ka (eu (i:=Int.toNat r5.1) (off:=0) rfl dh (fun _=>rfl) rfl (dM l).2.2 rfl) ?_;refine mq ?_;obtain⟨x9,j,h⟩:=ab h;refine kb (a9 (t:=(.int .i64)) rfl fg dh j) ?_;refine aS rfl rfl (c6 (i:=Int.toNat y3.2.2.2.2) rfl dh rfl (jw j) rfl .int rfl) ⟨rfl,rfl,trivial⟩ ?_;obtain⟨D,e,h⟩:=ab h;refine kb (a9 (t:=(.int .i64)) rfl fg dh e) ?_;refine aS rfl rfl (c6 (i:=Int.toNat r5.1) rfl dh rfl (jw e) rfl .int rfl) ⟨rfl,rfl,trivial⟩ ?_;refine ao (aG (tn (aa (mq ?_))));obtain⟨u,s,h⟩:=ab h;refine jb (bg rfl s) ?_;refine aq (nl ?_);exact jz (v7,(r5.2.1,r5.2.2.1,r5.2.2.2,List.set (List.set (y3.2.2.2.1++[y3.2.2.2.2]) (Int.toNat y3.2.2.2.2) x8) (Int.toNat r5.1) y3.2.2.2.2,u)) h [1,0]
  ·refine xa ?_;exact jz (z4,(y3.2.2.2.1,y3.1,y3.2.1,y3.2.2.1)) h [1,0]
 ·
  refine sr (mq ?_);refine aq (nt (aA ?_));refine bL (gx [4,5,31] ⟨rfl,rfl,rfl,trivial⟩) ?_;cases h;exact aL () [_] 1 ⟨rfl,trivial⟩ rfl
def jK(k:Nat)(a0:(List Int))(a1:Int):Nat→Int→Option (Except Int Unit)
 |0,_=>none
 |n+1,y3=>
  if y3 < (a0.length:Int) then((bf a0 y3).bind fun x5=>
  if x5=a1 then(some (.error y3)) else((ck (y3+1)).bind fun x6=>
  jK k a0 a1 n x6)) else(some (.ok ()))
def vQ(k:Nat)(a0:(List Int))(a1:Int):Option Int:=
 bE (α:=Unit) (jK k a0 a1 k 0) (some) fun _=>
 some (-1:Int)
theorem FC(k:Nat)(a0:(List Int))(a1:Int)(r:Int)(h:vQ k a0 a1=some r):
 cu Tryz.prog 45 [Ri a0,I a1] [] (fun _:Unit=>(bq [I r],[])):=by
 unfold vQ at h
 replace h:=be h
 refine cu.of 19 Tryz.func45 rfl Tryz.ntmps45 rfl fun S w0=>?_
 refine sr ?_
 refine cq ?_
 refine nt ?_
 refine fP (Z:=Unit) (α:=Unit) (fun z2 x1=>[]) (fun z2 x1=>[]) (fun e=>e=r) h (fun e h=>Option.some.inj h) (fun K hR h=>?_) (fun z2 x1 h=>?_)
 ·
  refine sr (cq (nt (aj ?_)));refine aI (fun z4 y3=>[(0,Ri a0),(1,I a1),(5,I y3)]) (fun z4 y3=>[]) (jK k a0 a1) k () 0 (fun _=>rfl) h (SE.fin [] ⟨rfl,rfl,rfl,trivial⟩ rfl) (fun n z4 y3 h=>?_);unfold jK at h;refine ag (sr ?_);iterate 2 refine mq ?_
  refine ol fg ?_;refine jb (bm rfl) ?_;refine nt (ci h (fun h=>?_) (fun h=>?_))
  ·refine sk (ag (aj (sr ?_)));iterate 2 refine mq ?_
   obtain⟨x5,j,h⟩:=ab h;refine jb (ba (t:=(.int .i64)) rfl fg dh j) ?_;refine ja (ar (t:=(.int .i64)) rfl dh rfl) ?_;refine mq ?_;refine jb (dw rfl) ?_;refine nt (ci h (fun h=>?_) (fun h=>?_))
   ·refine sr (mq ?_);refine aq (nt (aA (br (bJ (aZ ?_)))));obtain rfl:=hR _ h;exact ra
   ·refine aV (aG (tn (aa (mq ?_))));obtain⟨x6,c,h⟩:=ab h;refine jb (bg rfl c) ?_;refine aq (nl ?_);exact jz ((),x6) h []
  ·refine xa ?_;exact jz ((),()) h []
 ·
  refine sr (cq (nt (aA ?_)));cases h;exact ra
def mM(k:Nat)(a0:(List Int))(a1:(List Int)):Nat→Int→Option (Except Bool Unit)
 |0,_=>none
 |n+1,y3=>
  ((if y3 < (a0.length:Int) then(some (decide (y3 < (a1.length:Int)))) else(some false)):Option (Bool)).bind fun x5=>
  if x5=true then((bf a0 y3).bind fun x7=>
  (bf a1 y3).bind fun x8=>
  if¬(x7=x8) then((bf a0 y3).bind fun x9=>
  (bf a1 y3).bind fun e=>
  some (.error (decide (x9 < e)))) else((ck (y3+1)).bind fun c=>
  mM k a0 a1 n c)) else(some (.ok ()))
def vP(k:Nat)(a0:(List Int))(a1:(List Int)):Option Bool:=
 bE (α:=Unit) (mM k a0 a1 k 0) (some) fun _=>
 some (decide ((a0.length:Int) < (a1.length:Int)))
theorem AB(k:Nat)(a0:(List Int))(a1:(List Int))(r:Bool)(h:vP k a0 a1=some r):
 cu Tryz.prog 118 [Ri a0,Ri a1] [] (fun _:Unit=>(bq [.eq (.bool r)],[])):=by
 unfold vP at h
 replace h:=be h
 refine cu.of 41 Tryz.func118 rfl Tryz.ntmps118 rfl fun S w0=>?_
 refine sr ?_
 refine cq ?_
 refine nt ?_
 refine fP (Z:=Unit) (α:=Unit) (fun z2 x1=>[(0,Ri a0),(1,Ri a1)]) (fun z2 x1=>[]) (fun e=>e=r) h (fun e h=>Option.some.inj h) (fun K hR h=>?_) (fun z2 x1 h=>?_)
 ·
  refine sr (cq (nt (aj ?_)));refine aI (fun z4 y3=>[(0,Ri a0),(1,Ri a1),(5,I y3)]) (fun z4 y3=>[]) (mM k a0 a1) k () 0 (fun _=>rfl) h (SE.fin [] ⟨rfl,rfl,rfl,trivial⟩ rfl) (fun n z4 y3 h=>?_);unfold mM at h;refine ag (aN (Z:=Unit) (α:=Bool) (fun z6 x5=>[(0,Ri a0),(1,Ri a1),(5,I y3),(15,.eq (.bool x5))]) (fun z6 x5=>[]) h (fun K h=>?_) (fun z6 x5 h=>?_))
  ·refine aa ?_;iterate 2 refine mq ?_
   refine ol fg ?_;refine jb (bm rfl) ?_;refine mq ?_;refine bF (s:=10) rfl (fun hb=>?_) (fun hb=>?_)
   ·replace h:=cr (mh hb) h;refine gm ?_;refine gm ?_;refine ga (jF rfl rfl fg) ?_;refine gb (bm rfl) ?_;refine pt (nl ?_);exact jz ((),decide (y3 < (a1.length:Int))) h []
   ·replace h:=bv (lw hb) h;iterate 4 refine gn ?_
    refine pf (nl ?_);exact jz ((),false) h []
  ·refine cv h (fun h=>?_) (fun h=>?_)
   ·refine sk (ag (aj (ag (bW ?_))));refine dm ?_;refine dm ?_;obtain⟨x7,y,h⟩:=ab h;refine db (ba (t:=(.int .i64)) rfl fg dh y) ?_;refine da (ar (t:=(.int .i64)) rfl dh rfl) ?_;refine dm ?_;refine dm ?_;obtain⟨x8,x,h⟩:=ab h;refine db (ba (t:=(.int .i64)) rfl fg dh x) ?_;refine da (ar (t:=(.int .i64)) rfl dh rfl) ?_;refine df eA ?_;refine jb (jd rfl) ?_;refine nt (cn h (fun h=>?_) (fun h=>?_))
    ·refine ag (bW ?_);refine dm ?_;refine dm ?_;obtain⟨x9,u,h⟩:=ab h;refine db (ba (t:=(.int .i64)) rfl fg dh u) ?_;refine da (ar (t:=(.int .i64)) rfl dh rfl) ?_;refine dm ?_;refine dm ?_;obtain⟨D,j,h⟩:=ab h;refine db (ba (t:=(.int .i64)) rfl fg dh j) ?_;refine da (ar (t:=(.int .i64)) rfl dh rfl) ?_;refine df eA ?_;refine jb (bm rfl) ?_;refine aq (nt (aA (br (bJ (aZ ?_)))));obtain rfl:=hR _ h;exact ra
    ·refine aV (aG (tn (aa (mq ?_))));obtain⟨l,c,h⟩:=ab h;refine jb (bg rfl c) ?_;refine aq (nl ?_);exact jz ((),l) h []
   ·refine xa ?_;exact jz ((),()) h []
 ·
  refine sr (mq ?_);refine ol fg ?_;refine mq ?_;refine ol fg ?_;refine jb (bm rfl) ?_;refine aq (nt (aA ?_));cases h;exact ra
def pM(k:Nat)(a0:Int)(a1:Int):Option Int:=
 (lF k a0).bind fun r1=>
 (lF k a1).bind fun r2=>
 if r1=true then(if r2=true then(some 0) else(some (-1:Int))) else(if r2=true then(some 1) else(if a0 < a1 then(some (-1:Int)) else(if a1 < a0 then(some 1) else(some 0))))
theorem wd(k:Nat)(a0:Int)(a1:Int)(r:Int)(h:pM k a0 a1=some r):
 cu Tryz.prog 155 [I a0,I a1] [] (fun _:Unit=>(bq [I r],[])):=by
 unfold pM at h
 replace h:=be h
 refine cu.of 20 Tryz.func155 rfl Tryz.ntmps155 rfl fun S w0=>?_
 refine sr ?_
 refine cq ?_
 refine nt ?_
 refine sr ?_
 refine mq ?_
 obtain⟨r1,e,h⟩:=ab h
 have l:=lx k a0 r1 e
 refine ja (an [.tmp 7] rfl rfl Ei rfl l) ?_
 refine aq ?_
 refine nt ?_
 refine sr ?_
 refine mq ?_
 obtain⟨r2,c,h⟩:=ab h
 have j:=lx k a1 r2 c
 refine ja (an [.tmp 9] rfl rfl Ei rfl j) ?_
 refine aq ?_
 refine nt ?_
 refine ag ?_
 refine sr ?_
 refine mq ?_
 refine nt ?_
 refine cv h (fun h=>?_) (fun h=>?_)
 ·
  refine ag (sr (mq (nt ?_)));refine cv h (fun h=>?_) (fun h=>?_)
  ·refine sr (cq (nt (rx (aZ ?_))));cases h;exact ra
  ·refine sk (sr (cq (nt (rx ?_))));cases h;exact ra
 ·
  refine sk (ag (sr (mq (nt ?_))));refine cv h (fun h=>?_) (fun h=>?_)
  ·refine sr (cq (nt (rx ?_)));cases h;exact ra
  ·refine sk (ag (sr ?_));iterate 2 refine mq ?_
   refine jb (bm rfl) ?_;refine nt (ci h (fun h=>?_) (fun h=>?_))
   ·refine sr (cq (nt (rx ?_)));cases h;exact ra
   ·refine sk (ag (sr ?_));iterate 2 refine mq ?_
    refine jb (l6 rfl) ?_;refine nt (ci h (fun h=>?_) (fun h=>?_))
    ·refine sr (cq (nt (rx ?_)));cases h;exact ra
    ·refine sk (sr (cq (nt (aA ?_))));cases h;exact ra
def gY(k:Nat)(a0:(List Int))(a1:(List Int)):Nat→Int→Option (Except Int Unit)
 |0,_=>none
 |n+1,y3=>
  if y3 < (a0.length:Int) then((bf a0 y3).bind fun x5=>
  if(a1.length:Int)≤y3 then(some (.error 1)) else((bf a1 y3).bind fun x6=>
  (pM k x5 x6).bind fun r7=>
  if¬(r7=0) then(some (.error r7)) else((ck (y3+1)).bind fun x8=>
  gY k a0 a1 n x8))) else(some (.ok ()))
def dC(k:Nat)(a0:(List Int))(a1:(List Int)):Option Int:=
 bE (α:=Unit) (gY k a0 a1 k 0) (some) fun _=>
 if(a0.length:Int) < (a1.length:Int) then(some (-1:Int)) else(some 0)
theorem qX(k:Nat)(a0:(List Int))(a1:(List Int))(r:Int)(h:dC k a0 a1=some r):
 cu Tryz.prog 124 [Ri a0,Ri a1] [] (fun _:Unit=>(bq [I r],[])):=by
 unfold dC at h
 replace h:=be h
 refine cu.of 36 Tryz.func124 rfl Tryz.ntmps124 rfl fun S w0=>?_
 refine sr ?_
 refine cq ?_
 refine nt ?_
 refine fP (Z:=Unit) (α:=Unit) (fun z2 x1=>[(0,Ri a0),(1,Ri a1)]) (fun z2 x1=>[]) (fun e=>e=r) h (fun e h=>Option.some.inj h) (fun K hR h=>?_) (fun z2 x1 h=>?_)
 ·
  refine sr (mq ?_);refine ol fg ?_;refine eD rfl ?_;refine nt (aj (aI (fun z4 y3=>[(0,Ri a0),(1,Ri a1),(9,Ri a0),(10,I (a0.length:Int)),(11,I y3)]) (fun z4 y3=>[]) (gY k a0 a1) k () 0 (fun _=>rfl) h (SE.fin [] ⟨rfl,rfl,rfl,rfl,rfl,trivial⟩ rfl) (fun n z4 y3 h=>?_)));unfold gY at h;refine sr (jb (bm rfl) ?_);refine nt (ag (ci h (fun h=>?_) (fun h=>?_)))
  ·refine sk (ag (aj (sr (mq ?_))));obtain⟨x5,l,h⟩:=ab h;refine jb (ba (t:=(.int .i64)) rfl fg dh l) ?_;refine ja (ar (t:=(.int .i64)) rfl dh rfl) ?_;refine aq ?_;refine aq (nt (ag (sr ?_)));iterate 2 refine mq ?_
   refine ol fg ?_;refine jb (qK rfl) ?_;refine nt (ci h (fun h=>?_) (fun h=>?_))
   ·refine sr (cq (nt (rx (br (bJ (aZ ?_))))));obtain rfl:=hR _ h;exact ra
   ·refine sk (sr ?_);iterate 2 refine mq ?_
    obtain⟨x6,j,h⟩:=ab h;refine jb (ba (t:=(.int .i64)) rfl fg dh j) ?_;refine ja (ar (t:=(.int .i64)) rfl dh rfl) ?_;refine aq (nt (sr ?_));iterate 2 refine mq ?_
    obtain⟨r7,s,h⟩:=ab h;refine jb (an [.tmp 24,.tmp 25] rfl rfl QJ rfl (wd k x5 x6 r7 s)) ?_;refine aq (nt (sr ?_));refine mq ?_;refine jb (jd rfl) ?_;refine nt (cn h (fun h=>?_) (fun h=>?_))
    ·refine sr (mq ?_);refine aq (nt (aA (br (bJ (aZ ?_)))));obtain rfl:=hR _ h;exact ra
    ·refine aV (aG (tn (aa ?_)));obtain⟨x8,c,h⟩:=ab h;refine jb (bg rfl c) ?_;refine mq (nl ?_);exact jz ((),x8) h []
  ·refine xa ?_;exact jz ((),()) h []
 ·
  refine ag (sr (mq ?_));refine ol fg ?_;refine mq ?_;refine ol fg ?_;refine jb (bm rfl) ?_;refine nt (ci h (fun h=>?_) (fun h=>?_))
  ·refine sr (cq (nt (rx ?_)));cases h;exact ra
  ·refine sk (sr (cq (nt (aA ?_))));cases h;exact ra
def lr(k:Nat)(y4:(List (List Int))×Int)(r9:(List (List Int))):Nat→((List (List Int))×Int)→Option (List (List Int))
 |0,_=>none
 |n+1,c=>
  if c.2 < (r9.length:Int) then((bf r9 c.2).bind fun e=>
  (eM (bY (List.length e+List.length [y4.2]))).bind fun _=>
  (eM (bY (List.length c.1+List.length [e++[y4.2]]))).bind fun _=>
  (ck (c.2+1)).bind fun h=>
  lr k y4 r9 n (c.1++[e++[y4.2]],h)) else(some c.1)
def lu(k:Nat)(a0:Int)(a1:Int)(self:Int→Int→Option ((List (List Int)))):Nat→((List (List Int))×Int)→Option (List (List Int))
 |0,_=>none
 |n+1,y4=>
  if y4.2 < a0 then((((ck (a1 - 1)).bind fun x8=>
  (self y4.2 x8).bind fun r9=>
  lr k y4 r9 k (y4.1,0)):Option ((List (List Int)))).bind fun x6=>
  (ck (y4.2+1)).bind fun c=>
  lu k a0 a1 self n (x6,c)) else(some y4.1)
def lp(k:Nat):Nat→((List (List Int))×Int)→Option (List (List Int))
 |0,_=>none
 |n+1,c=>
  ((if 0 < c.2 then((bf c.1 c.2).bind fun x=>
  (ck (c.2 - 1)).bind fun u=>
  (bf c.1 u).bind fun s=>
  (vP k x s).bind fun D=>
  some D) else(some false)):Option (Bool)).bind fun y=>
  if y=true then((ck (c.2 - 1)).bind fun h=>
  (ck (c.2 - 1)).bind fun r=>
  (bf c.1 r).bind fun e=>
  (bf c.1 c.2).bind fun l=>
  (bf c.1 c.2).bind fun F=>
  (bf (List.set c.1 (Int.toNat c.2) e) h).bind fun E=>
  (ck (c.2 - 1)).bind fun j=>
  lp k n (List.set (List.set c.1 (Int.toNat c.2) e) (Int.toNat h) l,j)) else(some c.1)
def lq(k:Nat):Nat→((List (List Int))×Int)→Option (List (List Int))
 |0,_=>none
 |n+1,c=>
  if c.2 < (c.1.length:Int) then(((lp k k (c.1,c.2)):Option ((List (List Int)))).bind fun h=>
  (ck (c.2+1)).bind fun e=>
  lq k n (h,e)) else(some c.1)
def jH(k:Nat):Nat→Int→Int→Option ((List (List Int)))
 |0,_,_=>none
 |m0+1,a0,a1=>
  if a1=0 then(some [[]]) else((((ck (a1 - 1)).bind fun x3=>
  lu k a0 a1 (jH k m0) k (([]:(List (List Int))),x3)):Option ((List (List Int)))).bind fun x1=>
  ((lq k k (x1,1)):Option ((List (List Int)))).bind fun c=>
  some c)
theorem wL(k:Nat):
 ∀(n:Nat) (a0:Int) (a1:Int) (r:(List (List Int))),jH k n a0 a1=some r→cu Tryz.prog 77 [I a0,I a1] ([]) (fun z:Value×(Nat→Value)=>(bq [.eq z.1],.sl z.1 23 .val (dH z.2 0 r)::fZ z.2 0 r)):=by
 intro n
 induction n with
 |zero=>intro a0 a1 r h;cases h
 |succ m0 ih=>
  intro a0 a1 r h;rw [jH] at h;replace h:=be h;refine cu.of 81 Tryz.func77 rfl Tryz.ntmps77 rfl fun S w0=>?_;refine sr (cq (nt (ag (sr ?_))));refine mq ?_;refine jb (dw rfl) ?_;refine nt (ci h (fun h=>?_) (fun h=>?_))
  ·refine sr (aw rfl rfl rfl (og (t:=.val) [(.const (.slice none 0 0),.eq (.slice none 0 0))] [.slice none 0 0] rfl rfl tj (.cons rfl (.val rfl) .nil) rfl rfl) ⟨rfl,trivial⟩ fun v1=>?_);refine aq (nt (rx ?_));refine bL (SE.nil 3 (.int .i64)) ?_;refine bL (gw (List.Perm.swap _ _ _)) ?_;cases h;exact ia (v1,fun _=>.slice none 0 0) [_] ⟨rfl,trivial⟩ rfl
  ·refine sk (sr (cq (nt ?_)));refine aN (Z:=Value×(Nat→Value)) (α:=(List (List Int))) (fun z2 x1=>[(5,.eq z2.1)]) (fun z2 x1=>.sl z2.1 23 .val (dH z2.2 0 x1)::fZ z2.2 0 x1) h (fun K h=>?_) (fun z2 x1 h=>?_)
   ·refine sr (mq ?_);obtain⟨x3,UF,h⟩:=ab h;refine jb (f6 rfl UF) ?_;refine aq (nt (aj ?_));refine fw (SE.nil 23 .val) ?_;refine aI (fun z5 y4=>[(0,I a0),(1,I a1),(5,.eq z5.1),(6,I y4.2)]) (fun z5 y4=>.sl z5.1 23 .val (dH z5.2 0 y4.1)::fZ z5.2 0 y4.1) (lu k a0 a1 (jH k m0)) k (.slice none 0 0,fun _=>.slice none 0 0) (([]:(List (List Int))),x3) (fun _=>rfl) h (eN ⟨rfl,rfl,rfl,rfl,trivial⟩ ie) (fun n z5 y4 h=>?_);unfold lu at h;refine ag (sr ?_);iterate 2 refine mq ?_
    refine jb (bm rfl) ?_;refine nt (ci h (fun h=>?_) (fun h=>?_))
    ·refine sk (aN (Z:=Value×(Nat→Value)) (α:=(List (List Int))) (fun z7 x6=>[(0,I a0),(1,I a1),(5,.eq z7.1),(6,I y4.2)]) (fun z7 x6=>.sl z7.1 23 .val (dH z7.2 0 x6)::fZ z7.2 0 x6) h (fun K h=>?_) (fun z7 x6 h=>?_))
     ·refine aj (sr ?_);iterate 2 refine mq ?_
      obtain⟨x8,UE,h⟩:=ab h;refine jb (f6 rfl UE) ?_;obtain⟨r9,UG,h⟩:=ab h;refine bC (Δ:=[]) (F:=_) (fun _ _ _=>au rfl _) rfl rfl (an [.tmp 21,.tmp 23] rfl rfl Qs rfl (ih y4.2 x8 r9 UG)) ⟨rfl,rfl,trivial⟩ fun z=>?_;refine aq (nt (sr ?_));refine cq (nt (aj ?_));refine aI (fun l j=>[(0,I a0),(1,I a1),(5,.eq l.1),(6,I y4.2),(7,.eq z.1),(8,I j.2)]) (fun l j=>.sl l.1 23 .val (dH l.2 0 j.1):: .sl z.1 23 .val (dH z.2 0 r9)::(fZ l.2 0 j.1++fZ z.2 j.2.toNat (r9.drop j.2.toNat))) (lr k y4 r9) k z5 (y4.1,0) (fun _=>rfl) h (eN (junk:=[]) ⟨rfl,rfl,rfl,rfl,rfl,rfl,trivial⟩ ?perm1) (fun n l j h=>?_)
      case perm1=>
       show List.Perm ((D.sl z.1 23 .val (dH z.2 0 r9)::fZ z.2 0 r9)++(D.sl z5.1 23 .val (dH z5.2 0 y4.1)::fZ z5.2 0 y4.1)) ((D.sl z5.1 23 .val (dH z5.2 0 y4.1)::D.sl z.1 23 .val (dH z.2 0 r9)::(fZ z5.2 0 y4.1++fZ z.2 0 r9))++[]);rw [List.append_nil];exact(List.perm_append_comm (l₁:=D.sl z.1 23 .val (dH z.2 0 r9)::fZ z.2 0 r9)).trans (List.Perm.cons _ (List.perm_middle (l₁:=fZ z5.2 0 y4.1)))
      unfold lr at h;refine ag (sr ?_);iterate 2 refine mq ?_
      refine fr 1 ?_;refine ka (dq rfl rfl oz) ?_;refine fr 1 ?_;refine jb (bm rfl) ?_;refine nt (bu rfl (fun hb=>?_) (fun hb=>?_))
      ·rw [dQ] at hb;replace h:=cr (mh hb) h;refine sk (ag (aj (aa ?_)));iterate 3 refine mq ?_
       obtain⟨TL,pp,h⟩:=ab h;obtain⟨U8,Ut⟩:=iD pp;refine fr 1 ?_;refine kb (a9 (t:=.val) rfl oz co (iw pp)) ?_;refine ka (eu (t:=.val) (i:=Int.toNat j.2) (off:=0) rfl co (fun _=>rfl) rfl (iD (iw pp)).2 rfl) ?_;refine mq ?_;refine ja (bH (t:=(.int .i64)) [(.tmp 36,_)] [y4.2] rfl rfl fD (.cons rfl .int .nil) rfl rfl) ?_;rw [Hf Ut];refine cD (gw (Δ':=.sl (z.2 j.2.toNat) 3 (.int .i64) TL:: .sl l.1 23 .val (dH l.2 0 j.1):: .sl z.1 23 .val (dH z.2 0 r9)::(fZ l.2 0 j.1++fZ z.2 (j.2.toNat+1) (r9.drop (j.2.toNat+1)))) ?perm2) ?_
       case perm2=>
        show List.Perm (D.sl z.1 23 .val (dH z.2 0 r9)::D.sl l.1 23 .val (dH l.2 0 j.1)::(fZ l.2 0 j.1++(D.sl (z.2 j.2.toNat) 3 (.int .i64) TL::fZ z.2 (j.2.toNat+1) (r9.drop (j.2.toNat+1))))) _;refine(List.Perm.swap _ _ _).trans ?_;exact(((List.perm_middle (l₁:=fZ l.2 0 j.1)).cons _).cons _).trans (List.perm_middle (l₁:=[D.sl l.1 23 .val (dH l.2 0 j.1),D.sl z.1 23 .val (dH z.2 0 r9)]))
       obtain⟨U7,Uk,h⟩:=ab h;refine dN rfl rfl rfl (cz rfl rfl fD (aE Uk)) ⟨rfl,rfl,trivial⟩ fun Q=>?_;refine pV fun o14=>?_;refine ja (bH (t:=.val) [(.tmp 38,.eq Q)] [Q] rfl rfl tj (.cons o14 (.val o14) .nil) rfl rfl) ?_;obtain⟨U6,Uj,h⟩:=ab h;refine fr 1 ?_;refine dN rfl rfl rfl (cz rfl rfl tj (show bY ((dH l.2 0 j.1).length+[Q].length) by rw [dQ];exact aE Uj)) ⟨rfl,rfl,trivial⟩ fun TY=>?_;refine aq (ao (aG (tn (aa ?_))));refine mq ?_;obtain⟨TX,TP,h⟩:=ab h;refine jb (bg rfl TP) ?_;refine aq (nl ?_);have UH:TX.toNat=j.2.toNat+1:=by have:=Dc TP;omega
       refine i7 ((TY,oU l.2 j.1.length Q),(j.1++[TL++[y4.2]],TX)) h (eN (junk:=[]) ⟨rfl,rfl,rfl,rfl,rfl,rfl,trivial⟩ ?perm3)
       case perm3=>
        simp only;rw [zx,zT,UH,List.append_nil];show List.Perm (D.sl TY 23 .val (dH l.2 0 j.1++[Q])::D.sl Q 3 (.int .i64) (TL++[y4.2])::D.sl z.1 23 .val (dH z.2 0 r9)::(fZ l.2 0 j.1++fZ z.2 (j.2.toNat+1) (r9.drop (j.2.toNat+1)))) _;rw [List.append_assoc];exact((List.Perm.swap _ _ _).trans ((List.perm_middle (l₁:=fZ l.2 0 j.1)).symm.cons _)).cons _
      ·rw [dQ] at hb;replace h:=bv (lw hb) h;refine dJ (aR (aR (bR (bn ?_))));exact i7 (l,j.1) h (eN (junk:=.sl z.1 23 .val (dH z.2 0 r9)::fZ z.2 j.2.toNat (r9.drop j.2.toNat)) ⟨rfl,rfl,rfl,rfl,trivial⟩ ((List.perm_middle (l₁:=fZ l.2 0 j.1)).symm.cons _))
     ·refine aa (mq ?_);obtain⟨Us,Ui,h⟩:=ab h;refine jb (bg rfl Ui) ?_;refine aq (nl ?_);exact i7 (z7,(x6,Us)) h (eN ⟨rfl,rfl,rfl,rfl,trivial⟩ ie)
    ·refine xa ?_;exact i7 (z5,y4.1) h (eN ⟨rfl,trivial⟩ ie)
   ·refine aN (Z:=Nat→Value) (α:=(List (List Int))) (fun X TK=>[(5,.eq z2.1)]) (fun X TK=>.sl z2.1 23 .val (dH X 0 TK)::fZ X 0 TK) h (fun K h=>?_) (fun X TK h=>?_)
    ·refine sr (cq (nt (aj ?_)));refine aI (fun O u=>[(5,.eq z2.1),(9,I u.2)]) (fun O u=>.sl z2.1 23 .val (dH O 0 u.1)::fZ O 0 u.1) (lq k) k z2.2 (x1,1) (fun _=>rfl) h (eN ⟨rfl,rfl,trivial⟩ ie) (fun n O u h=>?_);unfold lq at h;refine ag (sr ?_);iterate 2 refine mq ?_
     refine ka (dq rfl rfl oz) ?_;refine jb (bm rfl) ?_;refine nt (bu rfl (fun hb=>?_) (fun hb=>?_))
     ·rw [dQ] at hb;replace h:=cr (mh hb) h;refine sk (aN (Z:=Nat→Value) (α:=(List (List Int))) (fun U mc=>[(5,.eq z2.1),(9,I u.2)]) (fun U mc=>.sl z2.1 23 .val (dH U 0 mc)::fZ U 0 mc) h (fun K h=>?_) (fun U mc h=>?_))
      ·refine aj (sr (mq ?_));refine aq (nt (aj ?_));refine aI (fun e c=>[(5,.eq z2.1),(9,I u.2),(10,I c.2)]) (fun e c=>.sl z2.1 23 .val (dH e 0 c.1)::fZ e 0 c.1) (lp k) k O (u.1,u.2) (fun _=>rfl) h (eN ⟨rfl,rfl,rfl,trivial⟩ ie) (fun n e c h=>?_);unfold lp at h;refine ag (aN (Z:=Unit) (α:=Bool) (fun TU TS=>[(5,.eq z2.1),(9,I u.2),(10,I c.2),(61,.eq (.bool TS))]) (fun TU TS=>.sl z2.1 23 .val (dH e 0 c.1)::fZ e 0 c.1) h (fun K h=>?_) (fun TU TS h=>?_))
       ·refine bW ?_;refine dm ?_;refine db (l6 rfl) ?_;refine zi rfl rfl rfl (bG rfl) ⟨rfl,trivial⟩ (fun hb=>?_) (fun hb=>?_)
        ·replace h:=cr (mh hb) h;refine dt rfl rfl rfl rfl rfl (bG rfl) ⟨rfl,rfl,trivial⟩ ?_;refine dt rfl rfl rfl rfl rfl (bG rfl) ⟨rfl,rfl,trivial⟩ ?_;obtain⟨se,M,h⟩:=ab h;refine j8 0 rfl rfl rfl rfl rfl rfl (a9 (t:=.val) rfl oz co (iw M)) ⟨rfl,rfl,rfl,trivial⟩ ?_;refine j8 0 rfl rfl rfl rfl rfl rfl (eu (t:=.val) (i:=Int.toNat c.2) (off:=0) rfl co (fun _=>rfl) rfl (iD (iw M)).2 rfl) ⟨rfl,rfl,trivial⟩ ?_;refine dt rfl rfl rfl rfl rfl (bG rfl) ⟨rfl,rfl,trivial⟩ ?_;refine dt rfl rfl rfl rfl rfl (bG rfl) ⟨rfl,rfl,trivial⟩ ?_;obtain⟨ac,TO,h⟩:=ab h;refine dt rfl rfl rfl rfl rfl (f6 rfl TO) ⟨rfl,rfl,rfl,trivial⟩ ?_;obtain⟨TR,J,h⟩:=ab h;refine j8 0 rfl rfl rfl rfl rfl rfl (a9 (t:=.val) rfl oz co (iw J)) ⟨rfl,rfl,rfl,trivial⟩ ?_;refine j8 0 rfl rfl rfl rfl rfl rfl (eu (t:=.val) (i:=Int.toNat ac) (off:=0) rfl co (fun _=>rfl) rfl (iD (iw J)).2 rfl) ⟨rfl,rfl,trivial⟩ ?_;refine df eA ?_;obtain⟨TZ,Ul,h⟩:=ab h;have Um:=AB k se TR TZ Ul;obtain⟨rest,hp⟩:=DZ (vs:=e) (iD M).2 (iD J).2 (by have:=Dc TO;have:=(iD M).1;have:=(iD J).1;omega);refine cD (gw ((hp.cons _).trans (List.perm_middle (l₁:=[D.sl (e c.2.toNat) 3 (.int .i64) se,D.sl (e ac.toNat) 3 (.int .i64) TR])).symm)) ?_
         refine bC (Δ:=[_,_]) (F:=_) (fun _ _ h=>by rw [nk rfl rfl rfl rfl h];simp) rfl rfl
          (rJ (N:=[(.tmp 54,.eq (e c.2.toNat)),(.tmp 59,.eq (e ac.toNat))]) (rJ (N:=[(.tmp 54,Ri se),(.tmp 59,.eq (e ac.toNat))]) (an [.tmp 54,.tmp 59] rfl rfl QV rfl Um) (fun _ _ _ hv hn=>⟨hn.1,lend hn.2.1 hv,trivial⟩) (fun _=>⟨rfl,AQ⟩)) (fun _ _ _ hv hn=>⟨lend hn.1 hv,hn.2⟩) (fun _=>⟨rfl,fun d hd=>by simp only [List.mem_cons,List.not_mem_nil,or_false] at hd;subst hd;rfl⟩)) ⟨rfl,rfl,trivial⟩ fun _=>?_
         refine pt (nl ?_);refine i7 ((),TZ) h (eN (junk:=[]) ⟨rfl,rfl,rfl,rfl,trivial⟩ ?perm4)
         case perm4=>
          rw [List.append_nil];exact(List.perm_middle (l₁:=[D.sl (e c.2.toNat) 3 (.int .i64) se,D.sl (e ac.toNat) 3 (.int .i64) TR])).trans (hp.symm.cons _)
        ·replace h:=bv (lw hb) h;iterate 9 refine EN rfl rfl rfl rfl rfl rfl rfl ?_
         refine df eA ?_;refine gn ?_;refine pf (nl ?_);exact i7 ((),false) h (eN ⟨rfl,rfl,rfl,rfl,trivial⟩ ie)
       ·refine cv h (fun h=>?_) (fun h=>?_)
        ·refine sk ?_;obtain⟨s,E,h⟩:=ab h;obtain⟨Ur,Uh,h⟩:=ab h;obtain rfl:s=Ur:=Option.some.inj (E.symm.trans Uh);obtain⟨qt,y,h⟩:=ab h;obtain⟨Y,x,h⟩:=ab h;obtain⟨Up,Ug,h⟩:=ab h;obtain rfl:Y=Up:=Option.some.inj (x.symm.trans Ug);obtain⟨UP,UO,h⟩:=ab h;obtain⟨n33,TN⟩:=iD y;obtain⟨n25,TM⟩:=iD x;have hne:c.2.toNat≠s.toNat:=by have:=Dc E;omega
         obtain⟨rest,hp⟩:=DZ (vs:=e) TM TN hne;have hp2:=(hp.cons (D.sl z2.1 23 .val (dH e 0 c.1))).trans (List.perm_middle (l₁:=[D.sl (e c.2.toNat) 3 (.int .i64) Y,D.sl (e s.toNat) 3 (.int .i64) qt])).symm;refine ag (fw (gw hp2) ?_);refine JA fun o36=>?_;refine ct 1 rfl ?_;refine JA fun o35=>?_;refine ct 1 rfl ?_;refine fw (gw hp2.symm) ?_;have hlv:(dH e 0 c.1).length=c.1.length:=dQ;have hl25:=(List.getElem?_eq_some_iff.1 TM).1;have hl33:=(List.getElem?_eq_some_iff.1 TN).1
         have g38:bf ((dH e 0 c.1).set c.2.toNat (e s.toNat)) s=some (e s.toNat):=by
          have:=iw (vs:=e) y;rw [bf,if_pos n33] at this⊢;rw [List.getElem?_set,if_neg hne];exact this
         refine aj (ml ?_);refine bX rfl rfl rfl (bG rfl) ⟨rfl,trivial⟩ ?_;refine bX rfl rfl rfl (bG rfl) ⟨rfl,trivial⟩ ?_;refine bX rfl rfl rfl (bG rfl) ⟨rfl,trivial⟩ ?_;refine bX rfl rfl rfl (bG rfl) ⟨rfl,trivial⟩ ?_;refine bX rfl rfl rfl (f6 rfl E) ⟨rfl,rfl,trivial⟩ ?_;refine bX rfl rfl rfl (bG rfl) ⟨rfl,trivial⟩ ?_;refine bX rfl rfl rfl (bG rfl) ⟨rfl,trivial⟩ ?_;refine bX rfl rfl rfl (f6 rfl E) ⟨rfl,rfl,trivial⟩ ?_;refine gB 0 rfl rfl rfl rfl (a9 (t:=.val) rfl oz co (iw y)) ⟨rfl,rfl,trivial⟩ ?_;refine gB 0 rfl rfl rfl rfl (eu (t:=.val) (i:=Int.toNat s) (off:=0) rfl co (fun _=>rfl) rfl (iD (iw y)).2 rfl) ⟨rfl,trivial⟩ ?_;refine bX rfl rfl rfl (bG rfl) ⟨rfl,trivial⟩ ?_;refine bX rfl rfl rfl (bG rfl) ⟨rfl,trivial⟩ ?_;refine gB 0 rfl rfl rfl rfl (a9 (t:=.val) rfl oz co (iw x)) ⟨rfl,rfl,trivial⟩ ?_;refine gB 0 rfl rfl rfl rfl (eu (t:=.val) (i:=Int.toNat c.2) (off:=0) rfl co (fun _=>rfl) rfl (iD (iw x)).2 rfl) ⟨rfl,trivial⟩ ?_;refine gB 0 rfl rfl rfl rfl (a9 (t:=.val) rfl oz co (iw x)) ⟨rfl,rfl,trivial⟩ ?_;refine rM 15 [true,true,false,false,false,true,true,true,true,true,true,true,true,true,true] [79] [] [] rfl (by kernel_rfl) (by kernel_rfl) (by kernel_rfl) eA (fun vs hv hB=>?_);obtain⟨w0,U4,rfl,UD⟩:=aD hv;obtain⟨w1,U2,rfl,UC⟩:=aD UD;obtain⟨w2,U1,rfl,UB⟩:=aD UC;obtain⟨w3,U0,rfl,UA⟩:=aD UB;obtain⟨w4,UZ,rfl,Uz⟩:=aD UA;obtain⟨w5,UY,rfl,Uy⟩:=aD Uz;obtain⟨w6,UX,rfl,Ux⟩:=aD Uy;obtain⟨w7,UW,rfl,Uw⟩:=aD Ux;obtain⟨w8,UV,rfl,Uu⟩:=aD Uw;obtain⟨w9,UN,rfl,Ud⟩:=aD Uu;obtain⟨UU,UM,rfl,Uc⟩:=aD Ud;obtain⟨UT,UL,rfl,Ub⟩:=aD Uc;obtain⟨US,UK,rfl,Ua⟩:=aD Ub;obtain⟨UR,UJ,rfl,T9⟩:=aD Ua;obtain⟨UQ,UI,rfl,T8⟩:=aD T9;obtain rfl:=ot T8;refine⟨List.range (D.sl z2.1 23 .val (dH e 0 c.1)::fZ e 0 c.1).length,.sl z2.1 23 .val (dH e 0 c.1)::fZ e 0 c.1,?pick,List.nodup_range,?_⟩
         case pick=>
          unfold oW;rw [NM.keep (by simp only [List.reverse_cons,List.reverse_nil,List.nil_append,List.cons_append];repeat (first |exact trivial |refine⟨⟨fun k=>by simp [sK],rfl⟩,?_⟩))];show fm ((D.sl z2.1 23 .val (dH e 0 c.1)::fZ e 0 c.1)++[]) _=some _;rw [List.append_nil];exact E9
         refine rL rfl rfl (c6 (t:=.val) (i:=Int.toNat c.2) rfl co rfl (by rw [hlv];exact hl25) rfl (.val o35) o35) ⟨rfl,rfl,trivial⟩ (by kernel_rfl) ?_;refine Jy rfl rfl rfl rfl (a9 (t:=.val) rfl oz co g38) ⟨rfl,rfl,trivial⟩ (by kernel_rfl) ?_;refine rL rfl rfl (c6 (t:=.val) (i:=Int.toNat s) rfl co rfl (by rw [List.length_set,hlv];exact hl33) rfl (.val o36) o36) ⟨rfl,rfl,trivial⟩ (by kernel_rfl) ?_;refine wo ?_;refine bL (eN (Γ':=[(5,.eq z2.1),(9,I u.2),(10,I c.2)]) (Δ':=.sl z2.1 23 .val (dH (zI e c.2.toNat s.toNat) 0 (List.set (List.set c.1 (Int.toNat c.2) qt) (Int.toNat s) Y))::fZ (zI e c.2.toNat s.toNat) 0 (List.set (List.set c.1 (Int.toNat c.2) qt) (Int.toNat s) Y)) (junk:=[]) ⟨rfl,rfl,rfl,trivial⟩ ?perm5) ?_
         case perm5=>
          rw [List.append_nil,GH TM TN hne];exact(He TM TN hne).symm.cons _
         refine aG (tn (aa (mq ?_)));obtain⟨Uo,Uf,h⟩:=ab h;refine jb (f6 rfl Uf) ?_;refine aq (nl ?_);exact i7 (zI e c.2.toNat s.toNat,(List.set (List.set c.1 (Int.toNat c.2) qt) (Int.toNat s) Y,Uo)) h (eN ⟨rfl,rfl,rfl,trivial⟩ ie)
        ·refine dJ (aR (aR (bR (bn ?_))));exact i7 (e,c.1) h (eN ⟨rfl,rfl,trivial⟩ ie)
      ·refine aa (mq ?_);obtain⟨Un,Ue,h⟩:=ab h;refine jb (bg rfl Ue) ?_;refine aq (nl ?_);exact i7 (U,(mc,Un)) h (eN ⟨rfl,rfl,trivial⟩ ie)
     ·rw [dQ] at hb;replace h:=bv (lw hb) h;refine xa ?_;exact i7 (O,u.1) h (eN ⟨rfl,trivial⟩ ie)
    ·refine sr (mq ?_);refine aq (nt (aA ?_));cases h;exact ia (z2.1,X) [_] ⟨rfl,trivial⟩ rfl
theorem yD(k:Nat)(n:Nat)(a0:Int)(a1:Int)(r:(List (List Int)))(h:jH k n a0 a1=some r):cu Tryz.prog 77 [I a0,I a1] [] (fun z:Value=>(bq [.eq z],[.sl z 23 (.slice (.int .i64)) r])):=(wL k n a0 a1 r h).frzAll
end Go.Proofs.YtcnpijmfgfnpiaaGreatDoor
