import Derived.Test.YtcnpijmfgfnpiaaGreatDoorVFacts
set_option linter.unusedSimpArgs false
set_option linter.unusedVariables false
set_option maxRecDepth 4000
set_option maxHeartbeats 1000000
namespace Go.Proofs.YtcnpijmfgfnpiaaGreatDoor
open K Go Go.Proofs
def dP(k:Nat)(a0:Int)(a1:Int)(a2:Int):Option Bool:=
 ((if a1≤a0 then(some (decide (a0≤a2))) else(some false)):Option (Bool)).bind fun x1=>
 some x1
theorem dV(k:Nat)(a0:Int)(a1:Int)(a2:Int)(r:Bool)(h:dP k a0 a1 a2=some r):
 bZ Tryz.prog 83 [I a0,I a1,I a2] [] (fun _:Unit=>(bq [.eq (.bool r)],[])):=by
 unfold dP at h
 replace h:=a9 h
 refine bZ.of 15 Tryz.func83 rfl Tryz.ntmps83 rfl fun S w0=>?_
 refine sr ?_
 refine cq ?_
 refine nt ?_
 refine aL (Z:=Unit) (α:=Bool) (fun z2 x1=>[(6,.eq (.bool x1))]) (fun z2 x1=>[]) h (fun K h=>?_) (fun z2 x1 h=>?_)
 ·
  refine ab ?_;iterate 2 refine mq ?_
  refine jb (uS rfl) ?_;refine mq ?_;refine bC (s:=10) rfl (fun hb=>?_) (fun hb=>?_)
  ·replace h:=cp (me hb) h;refine gm ?_;refine gm ?_;refine gb (uS rfl) ?_;refine pt ?_;refine aq (nl ?_);exact jz ((),decide (a0≤a2)) h []
  ·replace h:=bH (lY hb) h;iterate 3 refine gn ?_
   refine pf ?_;refine aq (nl ?_);exact jz ((),false) h []
 ·
  refine aA ?_;cases h;exact ra
def cV(k:Nat)(a0:a8)(a1:lZ):Nat→Int→Option (Except Int Unit)
 |0,_=>none
 |n+1,y6=>
  if y6 < (a1.2.length:Int) then((aZ a1.2 y6).bind fun x8=>
  (ck (a0.1 - 1)).bind fun x9=>
  (dP k x8 0 x9).bind fun l=>
  if¬(l=true) then(some (.error 1)) else(((if 0 < y6 then((ck (y6 - 1)).bind fun h=>
  (aZ a1.2 h).bind fun e=>
  some (decide (x8≤e))) else(some false)):Option (Bool)).bind fun j=>
  if j=true then(some (.error 5)) else((ck (y6+1)).bind fun c=>
  cV k a0 a1 n c))) else(some (.ok ()))
def iu(k:Nat)(a0:a8)(a1:lZ):Option Int:=
 (dP k a1.1 1 3).bind fun r3=>
 if¬(r3=true) then(some 1) else(bE (α:=Unit) (cV k a0 a1 k 0) (some) fun _=>
 some 0)
theorem q9(k:Nat)(a0:a8)(a1:lZ)(r:Int)(h:iu k a0 a1=some r):
 bZ Tryz.prog 92 [.rep aB a0,.rep cU a1] [] (fun _:Unit=>(bq [I r],[])):=by
 unfold iu at h
 replace h:=a9 h
 refine bZ.of 38 Tryz.func92 rfl Tryz.ntmps92 rfl fun S w0=>?_
 refine sr ?_
 refine bx fun b1=>?_
 refine bx fun b2=>?_
 refine cq ?_
 refine nt ?_
 refine ag ?_
 refine sr ?_
 refine fl o6 ?_
 refine lo cP ?_
 obtain⟨r3,O,h⟩:=aa h
 have Q:=dV k a1.1 1 3 r3 O
 refine jc (ak [.tmp 8,.const (.int .i64 (1)),.const (.int .i64 (3))] rfl rfl yc rfl Q) ?_
 refine ja (d5 rfl) ?_
 refine nt ?_
 refine cw h (fun h=>?_) (fun h=>?_)
 ·
  refine sr (cq (nt (rx ?_)));cases h;exact ra
 ·
  refine sk (dA (Z:=Unit) (α:=Unit) (fun z5 x4=>[]) (fun z5 x4=>[]) (fun e=>e=r) h (fun e h=>Option.some.inj h) (fun K hR h=>?_) (fun z5 x4 h=>?_))
  ·refine sr (fl ta ?_);refine lo bW ?_;refine ol eA ?_;refine fg rfl ?_;refine nt (aj (aG (fun z7 y6=>[(2,Pt b1),(3,Pt b2),(12,Ri a1.2),(13,I (a1.2.length:Int)),(14,I y6)]) (fun z7 y6=>[.obj b1 25 (.rep aB a0),.obj b2 27 (.rep cU a1)]) (cV k a0 a1) k () 0 (fun _=>rfl) h (SE.fin [1,0] ⟨rfl,rfl,rfl,rfl,rfl,trivial⟩ rfl) (fun n z7 y6 h=>?_)));unfold cV at h;refine sr (jb (bm rfl) ?_);refine nt (ag (ci h (fun h=>?_) (fun h=>?_)))
   ·refine sk (ag (aj (sr (mq ?_))));obtain⟨x8,M,h⟩:=aa h;refine jb (aH (t:=(.int .i64)) rfl eA cP M) ?_;refine ja (an (t:=(.int .i64)) rfl cP rfl) ?_;refine aq ?_;refine aq (nt (ag (sr ?_)));refine mq ?_;refine fl kZ ?_;refine lo cP ?_;obtain⟨x9,J,h⟩:=aa h;refine jb (fQ rfl J) ?_;obtain⟨F,y,h⟩:=aa h;refine jc (ak [.tmp 19,.const (.int .i64 (0)),.tmp 22] rfl rfl yc rfl (dV k x8 0 x9 F y)) ?_;refine ja (d5 rfl) ?_;refine nt (cw h (fun h=>?_) (fun h=>?_))
    ·refine sr (cq (nt (rx (br (ba (aP ?_))))));obtain rfl:=hR _ h;exact ra
    ·refine sk (aL (Z:=Unit) (α:=Bool) (fun j c=>[(2,Pt b1),(3,Pt b2),(12,Ri a1.2),(13,I (a1.2.length:Int)),(14,I y6),(36,.eq (.bool c))]) (fun j c=>[.obj b1 25 (.rep aB a0),.obj b2 27 (.rep cU a1)]) h (fun K h=>?_) (fun j c h=>?_))
     ·refine ab (mq ?_);refine jb (jZ rfl) ?_;refine mq ?_;refine bC (s:=27) rfl (fun hb=>?_) (fun hb=>?_)
      ·replace h:=cp (me hb) h;refine gm ?_;refine ga (aw rfl ta) ?_;refine fr 1 ?_;refine jV rfl rfl rfl rfl rfl rfl (ap rfl bW mP rfl) ⟨rfl,trivial⟩ ?_;refine gm ?_;obtain⟨U,x,h⟩:=aa h;refine gb (fQ rfl x) ?_;obtain⟨E,u,h⟩:=aa h;refine gb (aH (t:=(.int .i64)) rfl eA cP u) ?_;refine ga (an (t:=(.int .i64)) rfl cP rfl) ?_;refine gb (uS rfl) ?_;refine pt (nl ?_);exact jz ((),decide (x8≤E)) h [1,0]
      ·replace h:=bH (lY hb) h;iterate 8 refine gn ?_
       refine pf (nl ?_);exact jz ((),false) h [0,1]
     ·refine cv h (fun h=>?_) (fun h=>?_)
      ·refine sr (cq (nt (aA (br (ba (aP ?_))))));obtain rfl:=hR _ h;exact ra
      ·refine aS (aO (tn (ab ?_)));obtain⟨D,l,h⟩:=aa h;refine jb (bb rfl l) ?_;refine mq (nl ?_);exact jz ((),D) h [0,1]
   ·refine xa ?_;exact jz ((),()) h []
  ·refine sr (cq (nt (aA ?_)));cases h;exact ra
def fJ(k:Nat)(a0:a8):Nat→Int→Option (Except Int Unit)
 |0,_=>none
 |n+1,y5=>
  if y5 < (a0.2.1.length:Int) then((aZ a0.2.1 y5).bind fun x7=>
  (iu k a0 x7).bind fun r9=>
  if¬(r9=0) then(some (.error r9)) else((ck (y5+1)).bind fun c=>
  fJ k a0 n c)) else(some (.ok ()))
def fH(k:Nat)(a0:a8):Nat→Int→Option (Except Int Unit)
 |0,_=>none
 |n+1,c=>
  if c < (a0.2.2.length:Int) then((aZ a0.2.2 c).bind fun h=>
  (dP k h 0 9).bind fun j=>
  if¬(j=true) then(some (.error 1)) else((ck (c+1)).bind fun e=>
  fH k a0 n e)) else(some (.ok ()))
def ly(k:Nat)(a0:a8):Option Int:=
 (dP k a0.1 1 6).bind fun r2=>
 if¬(r2=true) then(some 1) else(if 5 < (a0.2.1.length:Int) then(some 6) else(bE (α:=Unit) (fJ k a0 k 0) (some) fun _=>
 if(a0.2.2.length:Int) < 1 then(some 7) else(if 3 < (a0.2.2.length:Int) then(some 6) else(bE (α:=Unit) (fH k a0 k 0) (some) fun _=>
 some 0))))
theorem rc(k:Nat)(a0:a8)(r:Int)(h:ly k a0=some r):
 bZ Tryz.prog 33 [.rep aB a0] [] (fun _:Unit=>(bq [I r],[])):=by
 unfold ly at h
 replace h:=a9 h
 refine bZ.of 51 Tryz.func33 rfl Tryz.ntmps33 rfl fun S w0=>?_
 refine sr ?_
 refine bx fun b1=>?_
 refine cq ?_
 refine nt ?_
 refine ag ?_
 refine sr ?_
 refine fl kZ ?_
 refine lo cP ?_
 obtain⟨r2,U,h⟩:=aa h
 have X:=dV k a0.1 1 6 r2 U
 refine jc (ak [.tmp 10,.const (.int .i64 (1)),.const (.int .i64 (6))] rfl rfl yc rfl X) ?_
 refine ja (d5 rfl) ?_
 refine nt ?_
 refine cw h (fun h=>?_) (fun h=>?_)
 ·
  refine sr (cq (nt (rx ?_)));cases h;exact ra
 ·
  refine sk (ag (sr (fl eM ?_)));refine lo kW ?_;refine ol tp ?_;refine jb (jZ rfl) ?_;refine nt (ci h (fun h=>?_) (fun h=>?_))
  ·refine sr (cq (nt (rx ?_)));cases h;exact ra
  ·refine sk (dA (Z:=Unit) (α:=Unit) (fun z4 x3=>[(1,Pt b1)]) (fun z4 x3=>[.obj b1 25 (.rep aB a0)]) (fun e=>e=r) h (fun e h=>Option.some.inj h) (fun K hR h=>?_) (fun z4 x3 h=>?_))
   ·refine sr (fl eM ?_);refine lo kW ?_;refine ol tp ?_;refine fg rfl ?_;refine nt (aj (aG (fun z6 y5=>[(1,Pt b1),(18,Rs cU a0.2.1),(19,I (a0.2.1.length:Int)),(20,I y5)]) (fun z6 y5=>[.obj b1 25 (.rep aB a0)]) (fJ k a0) k () 0 (fun _=>rfl) h (SE.fin [0] ⟨rfl,rfl,rfl,rfl,trivial⟩ rfl) (fun n z6 y5 h=>?_)));unfold fJ at h;refine sr (jb (bm rfl) ?_);refine nt (ag (ci h (fun h=>?_) (fun h=>?_)))
    ·refine sk (ag (aj (sr ?_)));obtain⟨x7,O,h⟩:=aa h;refine jb (aH (t:=cU) rfl tp ot O) ?_;refine ja (an (t:=cU) rfl ot rfl) ?_;refine aF rfl rfl rfl (bR rfl wZ K1) trivial fun b8=>?_;refine bi rfl rfl (bh rfl ot rfl rfl rfl) ⟨rfl,rfl,trivial⟩ ?_;refine nt (sr (fr 1 ?_));refine lo fK ?_;refine fr 1 ?_;refine lo ot ?_;obtain⟨r9,Q,h⟩:=aa h;refine jb (ak [.tmp 24,.tmp 25] rfl rfl RB rfl (q9 k a0 x7 r9 Q)) ?_;refine aq (nt (sr ?_));refine mq ?_;refine jb (ge rfl) ?_;refine nt (cn h (fun h=>?_) (fun h=>?_))
     ·refine sr (mq ?_);refine aq (nt (aA (br (ba (aP ?_)))));obtain rfl:=hR _ h;exact ra
     ·refine aS (aO (tn (ab ?_)));obtain⟨J,y,h⟩:=aa h;refine jb (bb rfl y) ?_;refine mq (nl ?_);exact jz ((),J) h [1]
    ·refine xa ?_;exact jz ((),()) h [0]
   ·refine ag (sr (fl fD ?_));refine lo bW ?_;refine ol eA ?_;refine aq (nt (aj (sr ?_)));refine mq ?_;refine jb (bm rfl) ?_;refine aq (nt ?_);refine ci h (fun h=>?_) (fun h=>?_)
    ·refine sr (cq (nt (aA (ba (aP ?_)))));cases h;exact ra
    ·refine sr (mq ?_);refine jb (jZ rfl) ?_;refine aq (nt ?_);refine ci h (fun h=>?_) (fun h=>?_)
     ·refine sr (cq (nt (aA (ba (aP ?_)))));cases h;exact ra
     ·refine aS (aO (tn (dA (Z:=Unit) (α:=Unit) (fun l s=>[]) (fun l s=>[]) (fun e=>e=r) h (fun e h=>Option.some.inj h) (fun K hR h=>?_) (fun l s h=>?_))))
      ·refine sr (fl fD ?_);refine lo bW ?_;refine ol eA ?_;refine fg rfl ?_;refine nt (aj (aG (fun j c=>[(41,Ri a0.2.2),(42,I (a0.2.2.length:Int)),(43,I c)]) (fun j c=>[]) (fH k a0) k () 0 (fun _=>rfl) h (SE.fin [] ⟨rfl,rfl,rfl,trivial⟩ rfl) (fun n j c h=>?_)));unfold fH at h;refine sr (jb (bm rfl) ?_);refine nt (ag (ci h (fun h=>?_) (fun h=>?_)))
       ·refine sk (ag (aj (sr ?_)));obtain⟨F,x,h⟩:=aa h;refine jb (aH (t:=(.int .i64)) rfl eA cP x) ?_;refine ja (an (t:=(.int .i64)) rfl cP rfl) ?_;refine aq (nt (sr ?_));refine mq ?_;obtain⟨M,D,h⟩:=aa h;refine jc (ak [.tmp 47,.const (.int .i64 (0)),.const (.int .i64 (9))] rfl rfl yc rfl (dV k F 0 9 M D)) ?_;refine ja (d5 rfl) ?_;refine nt (cw h (fun h=>?_) (fun h=>?_))
        ·refine sr (cq (nt (aA (br (ba (aP ?_))))));obtain rfl:=hR _ h;exact ra
        ·refine aS (aO (tn (ab ?_)));obtain⟨E,u,h⟩:=aa h;refine jb (bb rfl u) ?_;refine mq (nl ?_);exact jz ((),E) h []
       ·refine xa ?_;exact jz ((),()) h []
      ·refine sr (cq (nt (aA ?_)));cases h;exact ra
def d3(k:Nat)(a0:Int)(a1:Int):Option Bool:=
 (ek (0≤a1)).bind fun _=>
 some (decide ((vS .u8 (io .u8 a0 a1) 1)=1))
theorem iq(k:Nat)(a0:Int)(a1:Int)(r:Bool)(h:d3 k a0 a1=some r):
 bZ Tryz.prog 87 [.eq (.int .u8 a0),I a1] [] (fun _:Unit=>(bq [.eq (.bool r)],[])):=by
 unfold d3 at h
 replace h:=a9 h
 refine bZ.of 10 Tryz.func87 rfl Tryz.ntmps87 rfl fun S w0=>?_
 refine sr ?_
 refine cq ?_
 refine nt ?_
 refine sr ?_
 iterate 2 refine mq ?_
 obtain⟨u1,c,h⟩:=aa h
 refine jb (uP rfl (aD c)) ?_
 refine jb (O6 rfl) ?_
 refine jb (dr rfl) ?_
 refine aq ?_
 refine nt ?_
 refine aA ?_
 cases h
 exact ra
def eR(k:Nat)(a0:Int)(a1:Int):Option Int:=
 (ek (0≤a1)).bind fun _=>
 some (CY .u8 a0 (ni .u8 1 a1))
theorem jj(k:Nat)(a0:Int)(a1:Int)(r:Int)(h:eR k a0 a1=some r):
 bZ Tryz.prog 134 [.eq (.int .u8 a0),I a1] [] (fun _:Unit=>(bq [.eq (.int .u8 r)],[])):=by
 unfold eR at h
 replace h:=a9 h
 refine bZ.of 9 Tryz.func134 rfl Tryz.ntmps134 rfl fun S w0=>?_
 refine sr ?_
 refine cq ?_
 refine nt ?_
 refine sr ?_
 iterate 2 refine mq ?_
 obtain⟨u1,c,h⟩:=aa h
 refine jb (Gq rfl (aD c)) ?_
 refine jb (O4 rfl) ?_
 refine aq ?_
 refine nt ?_
 refine aA ?_
 cases h
 exact ra
def gG(k:Nat)(a0:a8)(a1:(List Int)):Nat→(Int×Int)→Option Int
 |0,_=>none
 |n+1,y4=>
  if y4.2 < (a1.length:Int) then((aZ a1 y4.2).bind fun x6=>
  (aZ a0.2.1 x6).bind fun x7=>
  (ck (y4.1+x7.1)).bind fun x8=>
  (ck (y4.2+1)).bind fun x9=>
  gG k a0 a1 n (x8,x9)) else(some y4.1)
def mU(k:Nat)(a0:a8)(a1:(List Int)):Option Int:=
 ((gG k a0 a1 k (0,0)):Option (Int)).bind fun x2=>
 some x2
theorem tz(k:Nat)(a0:a8)(a1:(List Int))(r:Int)(h:mU k a0 a1=some r):
 bZ Tryz.prog 135 [.rep aB a0,Ri a1] [] (fun _:Unit=>(bq [I r],[])):=by
 unfold mU at h
 replace h:=a9 h
 refine bZ.of 24 Tryz.func135 rfl Tryz.ntmps135 rfl fun S w0=>?_
 refine sr ?_
 refine bx fun b1=>?_
 refine cq ?_
 refine nt ?_
 refine sr ?_
 refine cq ?_
 refine nt ?_
 refine aL (Z:=Unit) (α:=Int) (fun z3 x2=>[(5,I x2)]) (fun z3 x2=>[]) h (fun K h=>?_) (fun z3 x2 h=>?_)
 ·
  refine sr (mq ?_);refine ol eA ?_;refine fg rfl ?_;refine nt (aj (aG (fun z5 y4=>[(2,Pt b1),(5,I y4.1),(8,Ri a1),(9,I (a1.length:Int)),(10,I y4.2)]) (fun z5 y4=>[.obj b1 25 (.rep aB a0)]) (gG k a0 a1) k () (0,0) (fun _=>rfl) h (SE.fin [0] ⟨rfl,rfl,rfl,rfl,rfl,trivial⟩ rfl) (fun n z5 y4 h=>?_)));unfold gG at h;refine sr (jb (bm rfl) ?_);refine nt (ag (ci h (fun h=>?_) (fun h=>?_)))
  ·refine sk (ag (aj (sr ?_)));obtain⟨x6,l,h⟩:=aa h;refine jb (aH (t:=(.int .i64)) rfl eA cP l) ?_;refine ja (an (t:=(.int .i64)) rfl cP rfl) ?_;refine aq (nt (ab ?_));refine mq ?_;refine fl eM ?_;refine lo kW ?_;refine mq ?_;obtain⟨x7,j,h⟩:=aa h;refine jb (aH (t:=cU) rfl tp ot j) ?_;refine ja (aM 1 false rfl o6 rfl) ?_;refine ja (an (t:=(.int .i64)) rfl cP rfl) ?_;obtain⟨x8,e,h⟩:=aa h;refine jb (bb rfl e) ?_;refine aq (ao (aO (tn (ab ?_))));obtain⟨x9,c,h⟩:=aa h;refine jb (bb rfl c) ?_;refine mq (nl ?_);exact jz ((),(x8,x9)) h [0]
  ·refine xa ?_;exact jz ((),y4.1) h []
 ·
  refine sr (mq ?_);refine aq (nt (aA ?_));cases h;exact ra
def eQ(k:Nat)(a0:a8)(x8:(List Int)):Nat→(Int×Int)→Option (Except Value Int)
 |0,_=>none
 |n+1,c=>
  if c.2 < (x8.length:Int) then((aZ x8 c.2).bind fun e=>
  (ck ((a0.2.1.length:Int) - 1)).bind fun j=>
  (dP k e 0 j).bind fun s=>
  if¬(s=true) then(some (.error (.iface 118 (.agg #[.int .i64 3])))) else((d3 k c.1 e).bind fun r=>
  if r=true then(some (.error (.iface 118 (.agg #[.int .i64 4])))) else((eR k c.1 e).bind fun l=>
  (ck (c.2+1)).bind fun h=>
  eQ k a0 x8 n (l,h)))) else(some (.ok c.1))
def fG(k:Nat)(a0:a8)(a1:(List (List Int))):Nat→(Int×Int)→Option (Except Value Int)
 |0,_=>none
 |n+1,y4=>
  if y4.2 < (a1.length:Int) then(bE (α:=Int) ((aZ a1 y4.2).bind fun x8=>
  bE (α:=Int) (eQ k a0 x8 k (y4.1,0)) (fun e=>some (.error e)) fun x9=>
  (mU k a0 x8).bind fun j=>
  (aZ a0.2.2 y4.2).bind fun h=>
  if h < j then(some (.error (.iface 118 (.agg #[.int .i64 12])))) else(some (.ok x9))) (fun e=>some (.error e)) fun x6=>
  (ck (y4.2+1)).bind fun c=>
  fG k a0 a1 n (x6,c)) else(some (.ok y4.1))
def lx(k:Nat)(a0:a8)(a1:(List (List Int))):Option Value:=
 if(a1.length:Int) < (a0.2.2.length:Int) then(some (.iface 118 (.agg #[.int .i64 7]))) else(if(a0.2.2.length:Int) < (a1.length:Int) then(some (.iface 118 (.agg #[.int .i64 6]))) else(bE (α:=Int) (fG k a0 a1 k (0,0)) (some) fun x2=>
 (ek (0≤(a0.2.1.length:Int))).bind fun _=>
 if¬(x2=(IntKind.u8.wrap ((ni .u8 1 (a0.2.1.length:Int)) - 1))) then(some (.iface 118 (.agg #[.int .i64 7]))) else(some (.nilIface))))
theorem qZ(k:Nat)(a0:a8)(a1:(List (List Int)))(r:Value)(h:lx k a0 a1=some r):
 bZ Tryz.prog 94 [.rep aB a0,.rep (.slice (.slice (.int .i64))) a1] [] (fun _:Unit=>(bq [.eq r],[])):=by
 unfold lx at h
 replace h:=a9 h
 refine bZ.of 80 Tryz.func94 rfl Tryz.ntmps94 rfl fun S w0=>?_
 refine sr ?_
 refine bx fun b1=>?_
 refine cq ?_
 refine nt ?_
 refine ag ?_
 refine sr ?_
 refine fl fD ?_
 refine lo bW ?_
 refine ol eA ?_
 refine aq ?_
 refine nt ?_
 refine aj ?_
 refine sr ?_
 refine mq ?_
 refine ol k9 ?_
 refine mq ?_
 refine jb (bm rfl) ?_
 refine aq ?_
 refine nt ?_
 refine ci h (fun h=>?_) (fun h=>?_)
 ·
  refine sr (ja (dN [(0,.const (.int .i64 (7)),_)] rfl wh ud tl (jM ⟨rfl,trivial⟩) rfl) ?_);refine ja (m7 rfl EZ) ?_;refine aq (nt (aA (ba (aP ?_))));cases h;exact ra
 ·
  refine sr (mq ?_);refine ol k9 ?_;refine mq ?_;refine jb (jZ rfl) ?_;refine aq (nt ?_);refine ci h (fun h=>?_) (fun h=>?_)
  ·refine sr (ja (dN [(0,.const (.int .i64 (6)),_)] rfl wh ud tl (jM ⟨rfl,trivial⟩) rfl) ?_);refine ja (m7 rfl EZ) ?_;refine aq (nt (aA (ba (aP ?_))));cases h;exact ra
  ·refine aS (aO (tn (sr (cq (nt ?_)))));refine dA (Z:=Unit) (α:=Int) (fun z3 x2=>[(2,Pt b1),(6,.eq (.int .u8 x2))]) (fun z3 x2=>[.obj b1 25 (.rep aB a0)]) (fun e=>e=r) h (fun e h=>Option.some.inj h) (fun K hR h=>?_) (fun z3 x2 h=>?_)
   ·refine sr (mq ?_);refine ol k9 ?_;refine fg rfl ?_;refine nt (aj (aG (fun z5 y4=>[(2,Pt b1),(6,.eq (.int .u8 y4.1)),(28,.rep (.slice (.slice (.int .i64))) a1),(29,I (a1.length:Int)),(30,I y4.2)]) (fun z5 y4=>[.obj b1 25 (.rep aB a0)]) (fG k a0 a1) k () (0,0) (fun _=>rfl) h (SE.fin [0] ⟨rfl,rfl,rfl,rfl,rfl,trivial⟩ rfl) (fun n z5 y4 h=>?_)));unfold fG at h;refine sr (jb (bm rfl) ?_);refine nt (ag (ci h (fun h=>?_) (fun h=>?_)))
    ·refine sk (dA (Z:=Unit) (α:=Int) (fun z7 x6=>[(2,Pt b1),(6,.eq (.int .u8 x6)),(28,.rep (.slice (.slice (.int .i64))) a1),(29,I (a1.length:Int)),(30,I y4.2)]) (fun z7 x6=>[.obj b1 25 (.rep aB a0)]) (fun e=>e=r) h (fun e h=>hR e h) (fun K hR h=>?_) (fun z7 x6 h=>?_))
     ·refine aj (sr (mq ?_));obtain⟨x8,se,h⟩:=aa h;refine jb (aH (t:=(.slice (.int .i64))) rfl k9 bW se) ?_;refine ja (an (t:=(.slice (.int .i64))) rfl bW rfl) ?_;refine aq ?_;refine aq (nt ?_);refine dA (Z:=Unit) (α:=Int) (fun s x9=>[(2,Pt b1),(6,.eq (.int .u8 x9)),(7,I y4.2),(8,Ri x8),(28,.rep (.slice (.slice (.int .i64))) a1),(29,I (a1.length:Int)),(30,I y4.2)]) (fun s x9=>[.obj b1 25 (.rep aB a0)]) (fun e=>e=r) h (fun e h=>hR e h) (fun K hR h=>?_) (fun s x9 h=>?_)
      ·refine sr (mq ?_);refine ol eA ?_;refine fg rfl ?_;refine nt (aj (aG (fun l c=>[(2,Pt b1),(6,.eq (.int .u8 c.1)),(7,I y4.2),(8,Ri x8),(28,.rep (.slice (.slice (.int .i64))) a1),(29,I (a1.length:Int)),(30,I y4.2),(35,Ri x8),(36,I (x8.length:Int)),(37,I c.2)]) (fun l c=>[.obj b1 25 (.rep aB a0)]) (eQ k a0 x8) k () (y4.1,0) (fun _=>rfl) h (SE.fin [0] ⟨rfl,rfl,rfl,rfl,rfl,rfl,rfl,rfl,rfl,rfl,trivial⟩ rfl) (fun n l c h=>?_)));unfold eQ at h;refine sr (jb (bm rfl) ?_);refine nt (ag (ci h (fun h=>?_) (fun h=>?_)))
       ·refine sk (ag (aj (sr ?_)));obtain⟨j,F,h⟩:=aa h;refine jb (aH (t:=(.int .i64)) rfl eA cP F) ?_;refine ja (an (t:=(.int .i64)) rfl cP rfl) ?_;refine aq (nt (ag (sr ?_)));refine mq ?_;refine fl eM ?_;refine lo kW ?_;refine ol tp ?_;obtain⟨ac,E,h⟩:=aa h;refine jb (fQ rfl E) ?_;obtain⟨qt,U,h⟩:=aa h;refine jc (ak [.tmp 41,.const (.int .i64 (0)),.tmp 45] rfl rfl yc rfl (dV k j 0 ac qt U)) ?_;refine ja (d5 rfl) ?_;refine nt (cw h (fun h=>?_) (fun h=>?_))
        ·refine sr (ja (dN [(0,.const (.int .i64 (3)),_)] rfl wh ud tl (jM ⟨rfl,trivial⟩) rfl) ?_);refine ja (m7 rfl EZ) ?_;refine aq (nt (rx (br (ba (aP (br (ba (aP ?_))))))));obtain rfl:=hR _ h;exact ra
        ·refine sk (ag (sr ?_));iterate 2 refine mq ?_
         obtain⟨pp,Q,h⟩:=aa h;refine jb (ak [.tmp 50,.tmp 51] rfl rfl KL rfl (iq k c.1 j pp Q)) ?_;refine nt (cv h (fun h=>?_) (fun h=>?_))
         ·refine sr (ja (dN [(0,.const (.int .i64 (4)),_)] rfl wh ud tl (jM ⟨rfl,trivial⟩) rfl) ?_);refine ja (m7 rfl EZ) ?_;refine aq (nt (rx (br (ba (aP (br (ba (aP ?_))))))));obtain rfl:=hR _ h;exact ra
         ·refine sk (ab ?_);iterate 2 refine mq ?_
          obtain⟨u,O,h⟩:=aa h;refine jb (ak [.tmp 55,.tmp 56] rfl rfl Db rfl (jj k c.1 j u O)) ?_;refine aq (ao (aO (tn (ab ?_))));obtain⟨Y,D,h⟩:=aa h;refine jb (bb rfl D) ?_;refine mq (nl ?_);exact jz ((),(u,Y)) h [0]
       ·refine xa ?_;exact jz ((),c.1) h [0]
      ·refine ag (cy ?_);refine ea 0 (ap rfl fK (xG) rfl) ?_;refine dm ?_;obtain⟨mc,M,h⟩:=aa h;refine db (ak [.tmp 59,.tmp 60] rfl rfl LR rfl (tz k a0 x8 mc M)) ?_;refine da (aw rfl fD) ?_;refine ea 0 (ap rfl bW mP rfl) ?_;refine dm ?_;obtain⟨SJ,y,h⟩:=aa h;refine db (aH (t:=(.int .i64)) rfl eA cP y) ?_;refine da (an (t:=(.int .i64)) rfl cP rfl) ?_;refine df fo ?_;refine jb (jZ rfl) ?_;refine nt (ci h (fun h=>?_) (fun h=>?_))
       ·refine sr (ja (dN [(0,.const (.int .i64 (12)),_)] rfl wh ud tl (jM ⟨rfl,trivial⟩) rfl) ?_);refine ja (m7 rfl EZ) ?_;refine aq (nt (aA (br (ba (aP ?_)))));obtain rfl:=hR _ h;exact ra
       ·refine aS (bn ?_);exact jz ((),x9) h [0]
     ·refine ab ?_;obtain⟨X,x,h⟩:=aa h;refine jb (bb rfl x) ?_;refine mq (nl ?_);exact jz ((),(x6,X)) h [0]
    ·refine xa ?_;exact jz ((),y4.1) h [0]
   ·refine ag (sr (mq ?_));refine fl eM ?_;refine lo kW ?_;refine ol tp ?_;obtain⟨SK,J,h⟩:=aa h;refine jb (Gq rfl (aD J)) ?_;refine jb (Gn rfl) ?_;refine jb (ge rfl) ?_;refine nt (cn h (fun h=>?_) (fun h=>?_))
    ·refine sr (ja (dN [(0,.const (.int .i64 (7)),_)] rfl wh ud tl (jM ⟨rfl,trivial⟩) rfl) ?_);refine ja (m7 rfl EZ) ?_;refine aq (nt (rx ?_));cases h;exact ra
    ·refine sk (sr (cq (nt (aA ?_))));cases h;exact ra
def cJ(k:Nat)(a0:(List (List Int)))(y5:(List (List Int))×Int):Nat→((List (List Int))×Int)→Option (List (List Int))
 |0,_=>none
 |n+1,y9=>
  if y9.2 < 5 then((((ek (0≤y5.2∧y5.2 < 3)).bind fun _=>
  (aZ y9.1 y5.2).bind fun c=>
  (ek (0≤y9.2∧y9.2 < 5)).bind fun _=>
  ((if y5.2 < (a0.length:Int) then((aZ a0 y5.2).bind fun r=>
  some (decide (y9.2 < (r.length:Int)))) else(some false)):Option (Bool)).bind fun s=>
  if s=true then((aZ a0 y5.2).bind fun l=>
  (aZ l y9.2).bind fun j=>
  (ek (0≤y5.2∧y5.2 < 3)).bind fun _=>
  (aZ (List.set y9.1 (Int.toNat y5.2) (List.set c (Int.toNat y9.2) (-1:Int))) y5.2).bind fun h=>
  (ek (0≤y9.2∧y9.2 < 5)).bind fun _=>
  some (List.set (List.set y9.1 (Int.toNat y5.2) (List.set c (Int.toNat y9.2) (-1:Int))) (Int.toNat y5.2) (List.set h (Int.toNat y9.2) j))) else(some (List.set y9.1 (Int.toNat y5.2) (List.set c (Int.toNat y9.2) (-1:Int))))):Option ((List (List Int)))).bind fun u=>
  (ck (y9.2+1)).bind fun e=>
  cJ k a0 y5 n (u,e)) else(some y9.1)
def c6(k:Nat)(a0:(List (List Int))):Nat→((List (List Int))×Int)→Option (List (List Int))
 |0,_=>none
 |n+1,y5=>
  if y5.2 < 3 then(((cJ k a0 y5 k (y5.1,0)):Option ((List (List Int)))).bind fun x7=>
  (ck (y5.2+1)).bind fun c=>
  c6 k a0 n (x7,c)) else(some y5.1)
def dn(k:Nat)(a0:(List (List Int))):Option (List (List Int)):=
 ((c6 k a0 k ([[0,0,0,0,0],[0,0,0,0,0],[0,0,0,0,0]],0)):Option ((List (List Int)))).bind fun x3=>
 some x3
theorem d4(k:Nat)(a0:(List (List Int)))(r:(List (List Int)))(h:dn k a0=some r):
 bZ Tryz.prog 86 [.rep (.slice (.slice (.int .i64))) a0] [] (fun _:Unit=>(bq [.rep (.arr 3 (.arr 5 (.int .i64))) r],[])):=by
 unfold dn at h
 replace h:=a9 h
 refine bZ.of 43 Tryz.func86 rfl Tryz.ntmps86 rfl fun S w0=>?_
 refine sr ?_
 refine aF rfl rfl rfl (bR rfl mQ nr) trivial fun b1=>?_
 refine nt ?_
 refine sr ?_
 refine aF rfl rfl rfl (bR rfl mQ nr) trivial fun b2=>?_
 refine nt ?_
 refine aL (Z:=Unit) (α:=(List (List Int))) (fun z4 x3=>[(2,Pt b1),(3,Pt b2)]) (fun z4 x3=>[.obj b1 107 (.rep (.arr 3 (.arr 5 (.int .i64))) [[0,0,0,0,0],[0,0,0,0,0],[0,0,0,0,0]]),.obj b2 107 (.rep (.arr 3 (.arr 5 (.int .i64))) x3)]) h (fun K h=>?_) (fun z4 x3 h=>?_)
 ·
  refine sr (fg rfl ?_);refine nt (aj (aG (fun z6 y5=>[(0,.rep (.slice (.slice (.int .i64))) a0),(2,Pt b1),(3,Pt b2),(6,I y5.2)]) (fun z6 y5=>[.obj b1 107 (.rep (.arr 3 (.arr 5 (.int .i64))) [[0,0,0,0,0],[0,0,0,0,0],[0,0,0,0,0]]),.obj b2 107 (.rep (.arr 3 (.arr 5 (.int .i64))) y5.1)]) (c6 k a0) k () ([[0,0,0,0,0],[0,0,0,0,0],[0,0,0,0,0]],0) (fun _=>rfl) h (SE.fin [1,0] ⟨rfl,rfl,rfl,rfl,trivial⟩ rfl) (fun n z6 y5 h=>?_)));unfold c6 at h;refine sr (jb (bm rfl) ?_);refine nt (ag (ci h (fun h=>?_) (fun h=>?_)))
  ·refine sk (aL (Z:=Unit) (α:=(List (List Int))) (fun z8 x7=>[(0,.rep (.slice (.slice (.int .i64))) a0),(2,Pt b1),(3,Pt b2),(6,I y5.2)]) (fun z8 x7=>[.obj b1 107 (.rep (.arr 3 (.arr 5 (.int .i64))) [[0,0,0,0,0],[0,0,0,0,0],[0,0,0,0,0]]),.obj b2 107 (.rep (.arr 3 (.arr 5 (.int .i64))) x7)]) h (fun K h=>?_) (fun z8 x7 h=>?_))
   ·refine aj (sr (mq ?_));refine aq (nt (sr ?_));refine fg rfl ?_;refine nt (aj (aG (fun J y9=>[(0,.rep (.slice (.slice (.int .i64))) a0),(2,Pt b1),(3,Pt b2),(4,I y5.2),(6,I y5.2),(9,I y9.2)]) (fun J y9=>[.obj b1 107 (.rep (.arr 3 (.arr 5 (.int .i64))) [[0,0,0,0,0],[0,0,0,0,0],[0,0,0,0,0]]),.obj b2 107 (.rep (.arr 3 (.arr 5 (.int .i64))) y9.1)]) (cJ k a0 y5) k () (y5.1,0) (fun _=>rfl) h (SE.fin [0,1] ⟨rfl,rfl,rfl,rfl,rfl,rfl,trivial⟩ rfl) (fun n J y9 h=>?_)));unfold cJ at h;refine sr (jb (bm rfl) ?_);refine nt (ag (ci h (fun h=>?_) (fun h=>?_)))
    ·refine sk (aL (Z:=Unit) (α:=(List (List Int))) (fun F l=>[(0,.rep (.slice (.slice (.int .i64))) a0),(2,Pt b1),(3,Pt b2),(4,I y5.2),(6,I y5.2),(9,I y9.2)]) (fun F l=>[.obj b1 107 (.rep (.arr 3 (.arr 5 (.int .i64))) [[0,0,0,0,0],[0,0,0,0,0],[0,0,0,0,0]]),.obj b2 107 (.rep (.arr 3 (.arr 5 (.int .i64))) l)]) h (fun K h=>?_) (fun F l h=>?_))
     ·refine aj (sr (mq ?_));refine aq (nt (sr ?_));iterate 2 refine mq ?_
      obtain⟨SQ,x,h⟩:=aa h;refine jb (iD rfl K7 yV (aD x).1 (aD x).2) ?_;obtain⟨D,ac,h⟩:=aa h;obtain⟨SO,e,h⟩:=aa h;refine jb (iD rfl K8 cP (aD e).1 (aD e).2) ?_;refine fr 1 ?_;refine bi rfl rfl (nK (t:=(.int .i64)) (off:=0) (i:=y5.2) (j:=y9.2) (N:=3) (L:=5) rfl cP .int rfl rfl rfl rfl ac (aD e).1 (aD e).2 rfl) ⟨rfl,rfl,trivial⟩ ?_;refine nt (aL (Z:=Unit) (α:=Bool) (fun E y=>[(0,.rep (.slice (.slice (.int .i64))) a0),(2,Pt b1),(3,Pt b2),(4,I y5.2),(5,I y9.2),(6,I y5.2),(9,I y9.2),(28,.eq (.bool y))]) (fun E y=>[.obj b1 107 (.rep (.arr 3 (.arr 5 (.int .i64))) [[0,0,0,0,0],[0,0,0,0,0],[0,0,0,0,0]]),.obj b2 107 (.rep (.arr 3 (.arr 5 (.int .i64))) (List.set y9.1 (Int.toNat y5.2) (List.set D (Int.toNat y9.2) (-1:Int))))]) h (fun K h=>?_) (fun E y h=>?_))
      ·refine ab ?_;iterate 2 refine mq ?_
       refine ol k9 ?_;refine jb (bm rfl) ?_;refine mq ?_;refine bC (s:=20) rfl (fun hb=>?_) (fun hb=>?_)
       ·replace h:=cp (me hb) h;refine gm ?_;refine gm ?_;refine gm ?_;obtain⟨SJ,Y,h⟩:=aa h;refine gb (aH (t:=(.slice (.int .i64))) rfl k9 bW Y) ?_;refine ga (an (t:=(.slice (.int .i64))) rfl bW rfl) ?_;refine ga (jY rfl rfl eA) ?_;refine gb (bm rfl) ?_;refine pt (nl ?_);exact jz ((),decide (y9.2 < (SJ.length:Int))) h [1,0]
       ·replace h:=bH (lY hb) h;iterate 7 refine gn ?_
        refine pf (nl ?_);exact jz ((),false) h [1,0]
      ·refine cv h (fun h=>?_) (fun h=>?_)
       ·refine cy ?_;refine dm ?_;refine dm ?_;refine dm ?_;refine dm ?_;obtain⟨SK,X,h⟩:=aa h;refine db (aH (t:=(.slice (.int .i64))) rfl k9 bW X) ?_;refine da (an (t:=(.slice (.int .i64))) rfl bW rfl) ?_;refine dm ?_;obtain⟨se,U,h⟩:=aa h;refine db (aH (t:=(.int .i64)) rfl eA cP U) ?_;refine da (an (t:=(.int .i64)) rfl cP rfl) ?_;obtain⟨SN,u,h⟩:=aa h;refine db (iD rfl K7 yV (aD u).1 (aD u).2) ?_;refine df fo ?_;obtain⟨qt,Q,h⟩:=aa h;obtain⟨SL,c,h⟩:=aa h;refine jb (iD rfl K8 cP (aD c).1 (aD c).2) ?_;refine fr 1 ?_;refine bi rfl rfl (nK (t:=(.int .i64)) (off:=0) (i:=y5.2) (j:=y9.2) (N:=3) (L:=5) rfl cP .int rfl rfl rfl rfl Q (aD c).1 (aD c).2 rfl) ⟨rfl,rfl,trivial⟩ ?_;refine ao (bn ?_);exact jz ((),List.set (List.set y9.1 (Int.toNat y5.2) (List.set D (Int.toNat y9.2) (-1:Int))) (Int.toNat y5.2) (List.set qt (Int.toNat y9.2) se)) h [1,0]
       ·refine aS (bn ?_);exact jz ((),List.set y9.1 (Int.toNat y5.2) (List.set D (Int.toNat y9.2) (-1:Int))) h [0,1]
     ·refine ab ?_;obtain⟨pp,O,h⟩:=aa h;refine jb (bb rfl O) ?_;refine mq (nl ?_);exact jz ((),(l,pp)) h [0,1]
    ·refine dh (aI (aI (bO (bn ?_))));exact jz ((),y9.1) h [0,1]
   ·refine ab ?_;obtain⟨mc,M,h⟩:=aa h;refine jb (bb rfl M) ?_;refine mq (nl ?_);exact jz ((),(x7,mc)) h [0,1]
  ·refine xa ?_;exact jz ((),y5.1) h [0,1]
 ·
  refine sr (fr 1 ?_);refine lo di ?_;refine fr 1 ?_;refine bi rfl rfl (bh rfl di rfl rfl rfl) ⟨rfl,rfl,trivial⟩ ?_;refine nt (aA ?_);obtain rfl:=Option.some.inj h;exact aE () [.rep (.arr 3 (.arr 5 (.int .i64))) x3] 0 ⟨⟨_,_,_,_,_,rfl,(.head _),di,(xG),rfl⟩,trivial⟩ rfl
def cQ(k:Nat)(x5:(List Int)):Nat→((List Int)×Int)→Option (List Int)
 |0,_=>none
 |n+1,y6=>
  if y6.2 < 5 then((((aZ x5 y6.2).bind fun c=>
  if 0≤c then((ek (bT (List.length y6.1+List.length [c]))).bind fun _=>
  some (y6.1++[c])) else(some y6.1)):Option ((List Int))).bind fun x8=>
  (ck (y6.2+1)).bind fun e=>
  cQ k x5 n (x8,e)) else(some y6.1)
def dX(k:Nat)(a0:(List (List Int)))(a1:Int):Option (List Int):=
 (((ek (0≤a1∧a1 < 3)).bind fun _=>
 (aZ a0 a1).bind fun x5=>
 cQ k x5 k (([]:(List Int)),0)):Option ((List Int))).bind fun x2=>
 some x2
theorem gl(k:Nat)(a0:(List (List Int)))(a1:Int)(r:(List Int))(h:dX k a0 a1=some r):
 bZ Tryz.prog 110 [.rep (.arr 3 (.arr 5 (.int .i64))) a0,I a1] [] (fun _:Unit=>(bq [Ri r],[])):=by
 unfold dX at h
 replace h:=a9 h
 refine bZ.of 22 Tryz.func110 rfl Tryz.ntmps110 rfl fun S w0=>?_
 refine sr ?_
 refine bx fun b1=>?_
 refine cq ?_
 refine nt ?_
 refine sr ?_
 refine cq ?_
 refine nt ?_
 refine aL (Z:=Value) (α:=(List Int)) (fun z3 x2=>[(5,.eq z3)]) (fun z3 x2=>[.sl z3 3 (.int .i64) x2]) h (fun K h=>?_) (fun z3 x2 h=>?_)
 ·
  refine sr (mq ?_);obtain⟨u4,l,h⟩:=aa h;refine jb (iD rfl K7 yV (aD l).1 (aD l).2) ?_;obtain⟨x5,y,h⟩:=aa h;refine ka (Ba (t:=(.arr 5 (.int .i64))) (off:=0) (i:=a1) (N:=3) rfl yV (xG) rfl rfl rfl rfl y) ?_;refine fg rfl ?_;refine nt (aj (eH (SE.nil 3 (.int .i64)) ?_));refine aG (fun z7 y6=>[(5,.eq z7),(10,.rep (.arr 5 (.int .i64)) x5),(11,I y6.2)]) (fun z7 y6=>[.sl z7 3 (.int .i64) y6.1]) (cQ k x5) k (.slice none 0 0) (([]:(List Int)),0) (fun _=>rfl) h (SE.fin [0] ⟨rfl,rfl,rfl,trivial⟩ rfl) (fun n z7 y6 h=>?_);unfold cQ at h;refine sr (jb (bm rfl) ?_);refine nt (ag (ci h (fun h=>?_) (fun h=>?_)))
  ·refine sk (aL (Z:=Value) (α:=(List Int)) (fun z9 x8=>[(5,.eq z9),(10,.rep (.arr 5 (.int .i64)) x5),(11,I y6.2)]) (fun z9 x8=>[.sl z9 3 (.int .i64) x8]) h (fun K h=>?_) (fun z9 x8 h=>?_))
   ·refine aj (sr ?_);obtain⟨c,j,h⟩:=aa h;refine jb (zi (t:=(.int .i64)) rfl K8 cP rfl rfl (fun _=>rfl) j) ?_;refine aq (nt (sr ?_));refine mq ?_;refine jb (qi rfl) ?_;refine nt (ci h (fun h=>?_) (fun h=>?_))
    ·refine ab ?_;iterate 2 refine mq ?_
     refine ja (bF (t:=(.int .i64)) [(.tmp 17,_)] [c] rfl rfl eJ (.cons rfl .int .nil) rfl rfl) ?_;obtain⟨D,s,h⟩:=aa h;refine dF rfl rfl rfl (bX rfl rfl eJ (aD s)) ⟨rfl,rfl,trivial⟩ fun x=>?_;refine aq (ao (bn ?_));exact jz (x,y6.1++[c]) h [0]
    ·refine aS (bn ?_);exact jz (z7,y6.1) h [0]
   ·refine ab ?_;obtain⟨u,e,h⟩:=aa h;refine jb (bb rfl e) ?_;refine mq (nl ?_);exact jz (z9,(x8,u)) h [0]
  ·refine xa ?_;exact jz (z7,y6.1) h [0]
 ·
  refine sr (mq ?_);refine aq (nt (aA ?_));refine bv (f9 [4,5,21] ⟨rfl,rfl,rfl,trivial⟩) ?_;cases h;exact ra
def cF{σ:Type}(k:Nat)(a1:(List Int))(Y:σ→(Int×Int)→Option (σ×Bool)):Nat→(Int×σ)→Option (σ)
 |0,_=>none
 |n+1,y2=>
  if 0≤y2.1 then((aZ a1 y2.1).bind fun x4=>
  (Y y2.2 (y2.1,x4)).bind fun r5=>
  if¬(r5.2=true) then(some r5.1) else((ck (y2.1 - 1)).bind fun x7=>
  cF k a1 Y n (x7,r5.1))) else(some y2.2)
def gX{σ:Type}(k:Nat)(Y:σ→(Int×Int)→Option (σ×Bool))(a1:(List Int))(s0:σ):Option (σ):=
 (ck ((a1.length:Int) - 1)).bind fun x1=>
 cF k a1 Y k (x1,s0)
theorem ou{M:Md Tryz.prog}{σ Z:Type}(E:Z→σ→List D)(l:Nat)(Y:σ→(Int×Int)→Option (σ×Bool))(k:Nat)(a1:(List Int))(c:Nat)(hY:∀z s p r,Y s p=some r→YT M l [I p.1,I p.2] (E z s) (fun z':Z=>(.eq (.bool r.2),E z' r.1))):
 ∀(z0:Z) (s0:σ) (r:σ),gX k Y a1 s0=some r→dC M 208 [.eq (.func (.yield l) #[] #[]),Pt c] ([.obj c 23 (Ri a1)]++E z0 s0) (fun z:Z=>(bq [],[.obj c 23 (Ri a1)]++E z r)):=by
 intro z0 s0 r h
 unfold gX at h
 replace h:=a9 h
 refine dC.of 19 Tryz.func208 rfl Tryz.ntmps208 rfl fun S w0=>?_
 refine sr ?_
 refine lo bW ?_
 refine ol eA ?_
 obtain⟨x1,u,h⟩:=aa h
 refine jb (fQ rfl u) ?_
 refine aq ?_
 refine nt ?_
 refine aj ?_
 refine aG (Z:=Z) (α:=Int×σ) (fun z3 y2=>[(0,.eq (.func (.yield l) #[] #[])),(1,Pt c),(3,I y2.1)]) (fun z3 y2=>[.obj c 23 (Ri a1)]++E z3 y2.2) (cF k a1 Y) k z0 (x1,s0) (fun _=>rfl) h (aQ [.obj c 23 (Ri a1)] (E z0 s0) [0] ⟨rfl,rfl,rfl,trivial⟩ rfl) (fun n z3 y2 h=>?_)
 unfold cF at h
 refine ag ?_
 refine sr ?_
 refine mq ?_
 refine jb (qi rfl) ?_
 refine nt ?_
 refine ci h (fun h=>?_) (fun h=>?_)
 ·
  refine sk (ag (aj (sr ?_)));iterate 2 refine mq ?_
  refine lo bW ?_;refine mq ?_;obtain⟨x4,j,h⟩:=aa h;refine jb (aH (t:=(.int .i64)) rfl eA cP j) ?_;refine ja (an (t:=(.int .i64)) rfl cP rfl) ?_;obtain⟨r5,x,h⟩:=aa h;refine pq [.obj c 23 (Ri a1)] rfl rfl rfl (xu [.tmp 12,.tmp 16] rfl rfl rfl (hY z3 y2.2 (y2.1,x4) r5 x)) ⟨rfl,rfl,rfl,trivial⟩ fun z6=>?_;refine ja (d5 rfl) ?_;refine nt (cw h (fun h=>?_) (fun h=>?_))
  ·refine aA (br (ba ?_));cases h;exact iP z6 [] trivial rfl
  ·refine aS (aO (tn (ab (mq ?_))));obtain⟨x7,e,h⟩:=aa h;refine jb (fQ rfl e) ?_;refine aq (nl ?_);exact fX (z6,(x7,r5.1)) h (aQ [.obj c 23 (Ri a1)] (E z6 r5.1) [0] ⟨rfl,rfl,rfl,trivial⟩ rfl)
 ·
  refine dh (aI (aI (bO (jg ?_))));cases h;exact iP z3 [] trivial rfl
theorem pY(a0:(List Int)):bZ Tryz.prog 190 [Ri a0] [] (fun z:Nat=>(bq [.eq (.func (.func 208) #[] #[(Pv z)])],[.obj z 23 (Ri a0)])):=by
 refine bZ.of 4 Tryz.func190 rfl Tryz.ntmps190 rfl fun S w0=>?_;refine sr (bx fun z=>?_);refine cq (nt (sr ?_));refine ja (sM [] [.tmp 1] [] [(Pv z)] rfl rfl rfl) ?_;refine aq (nt (aA ?_));exact aE z [_] 1 ⟨rfl,trivial⟩ rfl
def oH(k:Nat)(a0:(List Int)):Option (List Int):=
 (gX k (qh (fun(y3:(List Int)) (p5:(Int×Int))=>
  some ((p5.2::y3),true))) a0 ([],false)).bind fun r6=>
 if r6.2=true then(none) else(some r6.1)
theorem yO(k:Nat)(a0:(List Int))(r:(List Int))(h:oH k a0=some r):
 bZ Tryz.prog 157 [Ri a0] [] (fun _:Unit=>(bq [.rep (.lst (.int .i64)) r],[])):=by
 unfold oH at h
 replace h:=a9 h
 refine yv 15 Tryz.func157 rfl Tryz.ntmps157 rfl fun {M} S w0=>?_
 refine sr ?_
 refine cq ?_
 refine nt ?_
 refine sr ?_
 refine aF rfl rfl rfl (bR rfl OB Qz) trivial fun b1=>?_
 refine nt ?_
 refine ag ?_
 refine sr ?_
 refine mq ?_
 refine aF rfl rfl rfl (ak [.tmp 6] rfl rfl P5 rfl (pY a0)) ⟨rfl,trivial⟩ fun b2=>?_
 refine nt ?_
 refine aj ?_
 refine jh 1 rfl ?_
 refine eH (pR (a:=.eq (.pointer none)) (a':=.rep (.lst (.int .i64)) []) (yx .lnil)) ?_
 refine jh 1 rfl ?_
 obtain⟨r6,c,h⟩:=aa h
 refine nW (Δ:=[.obj b2 23 (Ri a0),.obj b1 216 (.rep (.lst (.int .i64)) [])]) (F:=[]) (X:=Unit) (J:=fun _=>J6 r6.2) (E:=fun z4=>[.obj b2 23 (Ri a0),.obj b1 216 (.rep (.lst (.int .i64)) r6.1)]) (r0:=fun _=>.tup .any) rfl rfl P1 (fun rec hp ha hb hs hpe hN hv l=>?_) (fun dl z4=>qs (fun hj=>?_) (fun hj=>?_))
 ·
  rcases rec with⟨st0,pe0,fn0,tm0,ps0,as0,bd0,df0⟩;dsimp only at hp ha hb hs hpe hN hv;subst hp hs hpe;have vN:vr tm0 [(3,Pt b1)]:=⟨congrArg A.eq (hv 3 _ rfl).symm,trivial⟩;refine dC.pick (M:=M) [1,0,2] [1,0,2] (ou (fun(z4:Unit) (q:(List Int)×Bool)=>[.raw l (.loop (jO ⟨.ready,none,fn0,tm0, #[8,9],as0,bd0,df0⟩ (J6 q.2))),.obj b1 216 (.rep (.lst (.int .i64)) q.1)]) l (qh (fun(y3:(List Int)) (p5:(Int×Int))=>
  some ((p5.2::y3),true))) k a0 b2 (fun z4 q p r' h=>?_) () ([],false) r6 c) rfl (fun _=>rfl) (fun _=>rfl)
  obtain⟨rq,hq,h2,rfl⟩:=qu h;obtain⟨y3,b5⟩:=q;obtain rfl:b5=false:=hq;replace h:=a9 h2;obtain⟨p5,hpv⟩:∃x,x=p:=⟨_,rfl⟩;subst hpv;refine YT.pick (R':=(fun z4:Unit=>(.eq (.bool rq.2),[.raw l (.loop (jO ⟨.ready,none,fn0,tm0, #[8,9],as0,bd0,df0⟩ (J6 (!rq.2)))),.obj b1 216 (.rep (.lst (.int .i64)) rq.1)]))) [0,1] [0,1] (K6 ha hb (N:=15) (Γ:=[(3,Pt b1)]) rfl hN (by decide) vN (fun S w=>?_)) rfl (fun _=>rfl) (fun _=>rfl);refine ab (aq (nl ?_));refine vx rfl rfl ?_;refine aj (ab (mq ?_));refine fr 1 ?_;refine lo yT ?_;refine jb (dN [(0,.tmp 10,_),(1,.tmp 11,_)] rfl O0 OA N6 (jM ⟨rfl,rfl,trivial⟩) rfl) ?_;refine aF rfl rfl rfl (oe rfl trivial) ⟨rfl,trivial⟩ fun b7=>?_;refine cu (lD (t:=FO) (x:=(p5.2,y3)) [13] (.agg (.pair .int .rep)) ⟨rfl,trivial⟩) ?_;refine bi rfl rfl (bh rfl yT trivial rfl rfl) ⟨rfl,rfl,trivial⟩ ?_;refine ao (aO (bv (pR (a:=.at FO (p5.2,y3)) (a':=.rep (.lst (.int .i64)) (p5.2::y3)) (yx .lcons)) ?_));refine cN 1 rfl ?_;cases h;exact tu () 1 rfl
 ·
  replace h:=bH (DL hj) h;refine aO (tn (sr (fr 2 ?_)));refine lo yT ?_;refine aq (nt (aA ?_));refine cN 1 rfl ?_;refine yq ?_;cases h;exact ra
 ·
  replace h:=cp (DK hj) h;cases h
def gI(k:Nat)(a1:Int):Nat→(Int×(List Int)×(List Int)×(List Int))→Option (Int×(List Int))
 |0,_=>none
 |n+1,y2=>
  if List.isEmpty y2.2.2.2=true then((ek (bT (List.length y2.2.2.1+List.length y2.2.1))).bind fun _=>
  some (y2.1,y2.2.2.1++y2.2.1)) else((oC y2.2.2.2).bind fun x6=>
  (d3 k a1 x6.1).bind fun r7=>
  if r7=true then((oC y2.2.2.2).bind fun x8=>
  (ek (bT (List.length y2.2.1+List.length [x8.1]))).bind fun _=>
  (oC y2.2.2.2).bind fun l=>
  gI k a1 n (y2.1,y2.2.1++[x8.1],y2.2.2.1,l.2)) else(((if 0 < (y2.2.1.length:Int) then((oC y2.2.2.2).bind fun h=>
  (eR k y2.1 h.1).bind fun r=>
  some r) else(some y2.1)):Option (Int)).bind fun j=>
  (oC y2.2.2.2).bind fun c=>
  (ek (bT (List.length y2.2.2.1+List.length [c.1]))).bind fun _=>
  (oC y2.2.2.2).bind fun e=>
  gI k a1 n (j,y2.2.1,y2.2.2.1++[c.1],e.2)))
def mV(k:Nat)(a0:(List Int))(a1:Int):Option (Int×(List Int)):=
 (oH k a0).bind fun r1=>
 gI k a1 k (0,([]:(List Int)),([]:(List Int)),r1)
theorem tA(k:Nat)(a0:(List Int))(a1:Int)(r:Int×(List Int))(h:mV k a0 a1=some r):
 bZ Tryz.prog 127 [Ri a0,.eq (.int .u8 a1)] [] (fun _:Unit=>(bq [.eq (.int .u8 r.1),Ri r.2],[])):=by
 unfold mV at h
 replace h:=a9 h
 refine bZ.of 54 Tryz.func127 rfl Tryz.ntmps127 rfl fun S w0=>?_
 refine sr ?_
 refine cq ?_
 refine cq ?_
 refine nt ?_
 refine E7 rfl (C7 (by kernel_rfl) (C7 (by kernel_rfl) (NE ND))) ?_
 refine sr ?_
 refine cq ?_
 refine cq ?_
 refine nt ?_
 refine sr ?_
 refine mq ?_
 obtain⟨r1,mc,h⟩:=aa h
 have pp:=yO k a0 r1 mc
 refine ja (ak [.tmp 9] rfl rfl Qa rfl pp) ?_
 refine aq ?_
 refine nt ?_
 refine ag ?_
 refine IZ ?_
 refine tn ?_
 refine eH (SE.nil 3 (.int .i64)) ?_
 refine eH (SE.nil 3 (.int .i64)) ?_
 refine BX (Z:=Value×Value) (α:=Int×(List Int)×(List Int)×(List Int)) rfl (fun z3 y2=>[(1,.eq (.int .u8 a1)),(4,.eq (.int .u8 y2.1)),(6,.eq z3.1),(7,.eq z3.2),(8,.rep (.lst (.int .i64)) y2.2.2.2)]) (fun z3 y2=>[.sl z3.1 3 (.int .i64) y2.2.1,.sl z3.2 3 (.int .i64) y2.2.2.1]) (gI k a1) k ((.slice none 0 0),(.slice none 0 0)) (0,([]:(List Int)),([]:(List Int)),r1) (fun _=>rfl) h (SE.fin [1,0] ⟨rfl,rfl,rfl,rfl,rfl,trivial⟩ rfl) (fun n z3 y2 h=>?_)
 unfold gI at h
 refine ag ?_
 refine sr ?_
 refine mq ?_
 refine jb (Gz rfl RQ) ?_
 refine nt ?_
 refine cv h (fun h=>?_) (fun h=>?_)
 ·
  refine sr ?_;iterate 3 refine mq ?_
  refine cu (f9 [6,15] ⟨rfl,rfl,trivial⟩) ?_;obtain⟨u4,Y,h⟩:=aa h;refine dF rfl rfl rfl (bX rfl rfl eJ (aD Y)) ⟨rfl,rfl,trivial⟩ fun v5=>?_;refine aq ?_;refine aq (nt (rx ?_));refine IY ?_;refine bv (f9 [5,16] ⟨rfl,rfl,trivial⟩) ?_;cases h;exact rb
 ·
  refine sk (ag (sr ?_));iterate 2 refine mq ?_
  obtain⟨x6,U,h⟩:=aa h;refine ja (lA rfl U) ?_;refine ja (aM 1 false rfl t9 rfl) ?_;refine ja (an (t:=(.int .i64)) rfl cP rfl) ?_;obtain⟨r7,ac,h⟩:=aa h;refine jb (ak [.tmp 17,.tmp 21] rfl rfl KL rfl (iq k a1 x6.1 r7 ac)) ?_;refine nt (cv h (fun h=>?_) (fun h=>?_))
  ·refine sr ?_;iterate 2 refine mq ?_
   obtain⟨x8,Q,h⟩:=aa h;refine ja (lA rfl Q) ?_;refine ja (aM 1 false rfl t9 rfl) ?_;refine ja (an (t:=(.int .i64)) rfl cP rfl) ?_;refine ja (bF (t:=(.int .i64)) [(.tmp 27,_)] [x8.1] rfl rfl eJ (.cons rfl .int .nil) rfl rfl) ?_;obtain⟨u9,X,h⟩:=aa h;refine dF rfl rfl rfl (bX rfl rfl eJ (aD X)) ⟨rfl,rfl,trivial⟩ fun O=>?_;refine aq (nt (sr ?_));refine mq ?_;obtain⟨J,y,h⟩:=aa h;refine ja (lA rfl y) ?_;refine ja (aM 1 false rfl C5 rfl) ?_;refine ja (an (t:=(.lst (.int .i64))) rfl yT rfl) ?_;refine aq (nt ?_);refine Du ?_;refine E6 ?_;exact Ds ((O,z3.2),(y2.1,y2.2.1++[x8.1],y2.2.2.1,J.2)) h (SE.fin [0,1] ⟨rfl,rfl,rfl,rfl,rfl,trivial⟩ rfl)
  ·refine sk (aL (Z:=Unit) (α:=Int) (fun e c=>[(1,.eq (.int .u8 a1)),(4,.eq (.int .u8 c)),(6,.eq z3.1),(7,.eq z3.2),(8,.rep (.lst (.int .i64)) y2.2.2.2)]) (fun e c=>[.sl z3.1 3 (.int .i64) y2.2.1,.sl z3.2 3 (.int .i64) y2.2.2.1]) h (fun K h=>?_) (fun e c h=>?_))
   ·refine sr (mq ?_);refine ka (cZ rfl rfl eA) ?_;refine jb (jZ rfl) ?_;refine nt (ci h (fun h=>?_) (fun h=>?_))
    ·refine ab ?_;iterate 2 refine mq ?_
     obtain⟨I,x,h⟩:=aa h;refine ja (lA rfl x) ?_;refine ja (aM 1 false rfl t9 rfl) ?_;refine ja (an (t:=(.int .i64)) rfl cP rfl) ?_;obtain⟨l,E,h⟩:=aa h;refine jb (ak [.tmp 37,.tmp 41] rfl rfl Db rfl (jj k y2.1 I.1 l E)) ?_;refine aq (nl ?_);exact jz ((),l) h [0,1]
    ·refine aS (ae ?_);exact jz ((),y2.1) h [0,1]
   ·refine sr ?_;iterate 2 refine mq ?_
    obtain⟨j,u,h⟩:=aa h;refine ja (lA rfl u) ?_;refine ja (aM 1 false rfl t9 rfl) ?_;refine ja (an (t:=(.int .i64)) rfl cP rfl) ?_;refine ja (bF (t:=(.int .i64)) [(.tmp 47,_)] [j.1] rfl rfl eJ (.cons rfl .int .nil) rfl rfl) ?_;obtain⟨qt,D,h⟩:=aa h;refine fr 1 ?_;refine dF rfl rfl rfl (bX rfl rfl eJ (aD D)) ⟨rfl,rfl,trivial⟩ fun M=>?_;refine aq (nt (sr ?_));refine mq ?_;obtain⟨F,s,h⟩:=aa h;refine ja (lA rfl s) ?_;refine ja (aM 1 false rfl C5 rfl) ?_;refine ja (an (t:=(.lst (.int .i64))) rfl yT rfl) ?_;refine aq (nt ?_);refine Du ?_;exact Ds ((z3.1,M),(c,y2.2.1,y2.2.2.1++[j.1],F.2)) h (SE.fin [1,0] ⟨rfl,rfl,rfl,rfl,rfl,trivial⟩ rfl)
def dp(k:Nat)(a0:(List Int))(a1:Int):Nat→Int→Option (Except Int Unit)
 |0,_=>none
 |n+1,y3=>
  if y3 < (a0.length:Int) then((aZ a0 y3).bind fun x5=>
  if a1=x5 then(some (.error y3)) else((ck (y3+1)).bind fun x6=>
  dp k a0 a1 n x6)) else(some (.ok ()))
def i9(k:Nat)(a0:(List Int))(a1:Int):Option Int:=
 bE (α:=Unit) (dp k a0 a1 k 0) (some) fun _=>
 some (-1:Int)
theorem sD(k:Nat)(a0:(List Int))(a1:Int)(r:Int)(h:i9 k a0 a1=some r):
 bZ Tryz.prog 123 [Ri a0,I a1] [] (fun _:Unit=>(bq [I r],[])):=by
 unfold i9 at h
 replace h:=a9 h
 refine bZ.of 19 Tryz.func123 rfl Tryz.ntmps123 rfl fun S w0=>?_
 refine sr ?_
 refine cq ?_
 refine nt ?_
 refine dA (Z:=Unit) (α:=Unit) (fun z2 x1=>[]) (fun z2 x1=>[]) (fun e=>e=r) h (fun e h=>Option.some.inj h) (fun K hR h=>?_) (fun z2 x1 h=>?_)
 ·
  refine sr (mq ?_);refine ol eA ?_;refine fg rfl ?_;refine nt (aj (aG (fun z4 y3=>[(0,Ri a0),(1,I a1),(7,I (a0.length:Int)),(8,I y3)]) (fun z4 y3=>[]) (dp k a0 a1) k () 0 (fun _=>rfl) h (SE.fin [] ⟨rfl,rfl,rfl,rfl,trivial⟩ rfl) (fun n z4 y3 h=>?_)));unfold dp at h;refine sr (jb (bm rfl) ?_);refine nt (ag (ci h (fun h=>?_) (fun h=>?_)))
  ·refine sk (ag (aj (sr (mq ?_))));refine aq (nt (sr ?_));iterate 3 refine mq ?_
   obtain⟨x5,j,h⟩:=aa h;refine jb (aH (t:=(.int .i64)) rfl eA cP j) ?_;refine ja (an (t:=(.int .i64)) rfl cP rfl) ?_;refine jb (dr rfl) ?_;refine nt (ci h (fun h=>?_) (fun h=>?_))
   ·refine sr (mq ?_);refine aq (nt (aA (br (ba (aP ?_)))));obtain rfl:=hR _ h;exact ra
   ·refine aS (aO (tn (ab ?_)));obtain⟨x6,c,h⟩:=aa h;refine jb (bb rfl c) ?_;refine mq (nl ?_);exact jz ((),x6) h []
  ·refine xa ?_;exact jz ((),()) h []
 ·
  refine sr (cq (nt (aA ?_)));cases h;exact ra
def gr(k:Nat)(a0:(List Int))(a1:Int):Option Bool:=
 (i9 k a0 a1).bind fun r1=>
 some (decide (0≤r1))
theorem pW(k:Nat)(a0:(List Int))(a1:Int)(r:Bool)(h:gr k a0 a1=some r):
 bZ Tryz.prog 158 [Ri a0,I a1] [] (fun _:Unit=>(bq [.eq (.bool r)],[])):=by
 unfold gr at h
 replace h:=a9 h
 refine bZ.of 9 Tryz.func158 rfl Tryz.ntmps158 rfl fun S w0=>?_
 refine sr ?_
 refine cq ?_
 refine nt ?_
 refine sr ?_
 iterate 2 refine mq ?_
 obtain⟨r1,c,h⟩:=aa h
 have e:=sD k a0 a1 r1 c
 refine jb (ak [.tmp 5,.tmp 6] rfl rfl Qk rfl e) ?_
 refine jb (qi rfl) ?_
 refine aq ?_
 refine nt ?_
 refine aA ?_
 cases h
 exact ra
def fh(k:Nat)(a0:dk)(a1:Int):Nat→(Int×Int)→Option Int
 |0,_=>none
 |n+1,y3=>
  if y3.2 < (a0.1.2.1.length:Int) then((((aZ a0.1.2.1 y3.2).bind fun x7=>
  (gr k x7.2 a1).bind fun r9=>
  if r9=true then((eR k y3.1 y3.2).bind fun e=>
  some e) else(some y3.1)):Option (Int)).bind fun x5=>
  (ck (y3.2+1)).bind fun c=>
  fh k a0 a1 n (x5,c)) else(some y3.1)
def hP(k:Nat)(a0:dk)(a1:Int):Option Int:=
 ((fh k a0 a1 k (0,0)):Option (Int)).bind fun x1=>
 some x1
theorem mT(k:Nat)(a0:dk)(a1:Int)(r:Int)(h:hP k a0 a1=some r):
 bZ Tryz.prog 128 [.at bM a0,I a1] [] (fun _:Unit=>(bq [.eq (.int .u8 r)],[])):=by
 unfold hP at h
 replace h:=a9 h
 refine bZ.of 28 Tryz.func128 rfl Tryz.ntmps128 rfl fun S w0=>?_
 refine sr ?_
 refine cq ?_
 refine nt ?_
 refine sr ?_
 refine cq ?_
 refine nt ?_
 refine aL (Z:=Unit) (α:=Int) (fun z2 x1=>[(5,.eq (.int .u8 x1))]) (fun z2 x1=>[]) h (fun K h=>?_) (fun z2 x1 h=>?_)
 ·
  refine sr (mq ?_);refine ja (dM rfl) ?_;refine ja (aM 3 true rfl jT rfl) ?_;refine ja (aM 1 false rfl eM rfl) ?_;refine ja (an (t:=(.slice cU)) rfl kW rfl) ?_;refine ol tp ?_;refine fg rfl ?_;refine nt (aj (aG (fun z4 y3=>[(1,I a1),(5,.eq (.int .u8 y3.1)),(12,Rs cU a0.1.2.1),(13,I (a0.1.2.1.length:Int)),(14,I y3.2)]) (fun z4 y3=>[]) (fh k a0 a1) k () (0,0) (fun _=>rfl) h (SE.fin [] ⟨rfl,rfl,rfl,rfl,rfl,trivial⟩ rfl) (fun n z4 y3 h=>?_)));unfold fh at h;refine sr (jb (bm rfl) ?_);refine nt (ag (ci h (fun h=>?_) (fun h=>?_)))
  ·refine sk (aL (Z:=Unit) (α:=Int) (fun z6 x5=>[(1,I a1),(5,.eq (.int .u8 x5)),(12,Rs cU a0.1.2.1),(13,I (a0.1.2.1.length:Int)),(14,I y3.2)]) (fun z6 x5=>[]) h (fun K h=>?_) (fun z6 x5 h=>?_))
   ·refine aj (sr (mq ?_));obtain⟨x7,s,h⟩:=aa h;refine jb (aH (t:=cU) rfl tp ot s) ?_;refine ja (an (t:=cU) rfl ot rfl) ?_;refine aF rfl rfl rfl (bR rfl wZ K1) trivial fun b8=>?_;refine aq ?_;refine bi rfl rfl (bh rfl ot rfl rfl rfl) ⟨rfl,rfl,trivial⟩ ?_;refine nt (sr (fl ta ?_));refine lo bW ?_;refine mq ?_;obtain⟨r9,u,h⟩:=aa h;refine jb (ak [.tmp 20,.tmp 21] rfl rfl P9 rfl (pW k x7.2 a1 r9 u)) ?_;refine nt (cv h (fun h=>?_) (fun h=>?_))
    ·refine ab ?_;iterate 2 refine mq ?_
     obtain⟨c,j,h⟩:=aa h;refine jb (ak [.tmp 23,.tmp 24] rfl rfl Db rfl (jj k y3.1 y3.2 c j)) ?_;refine aq (ao (bn ?_));exact jz ((),c) h []
    ·refine aS (bn ?_);exact jz ((),y3.1) h []
   ·refine ab ?_;obtain⟨l,e,h⟩:=aa h;refine jb (bb rfl e) ?_;refine mq (nl ?_);exact jz ((),(x5,l)) h []
  ·refine xa ?_;exact jz ((),y3.1) h []
 ·
  refine sr (mq ?_);refine aq (nt (aA ?_));cases h;exact ra
def cO(k:Nat)(a0:dk)(a1:(List (List Int)))(a2:Int):Nat→(Int×(List (List Int))×Int)→Option (Int×(List (List Int)))
 |0,_=>none
 |n+1,y5=>
  if y5.2.2 < 3 then((dX k a1 y5.2.2).bind fun r7=>
  (hP k a0 a2).bind fun r8=>
  (mV k r7 r8).bind fun r9=>
  (ek (bT (List.length y5.2.1+List.length [r9.2]))).bind fun _=>
  (ck (y5.2.2+1)).bind fun c=>
  cO k a0 a1 a2 n (CY .u8 y5.1 r9.1,y5.2.1++[r9.2],c)) else(some (y5.1,y5.2.1))
def iL(k:Nat)(a0:dk)(a1:(List (List Int)))(a2:Int):Option (Int×(List (List Int))):=
 ((cO k a0 a1 a2 k (0,([]:(List (List Int))),0)):Option (Int×(List (List Int)))).bind fun x3=>
 (dn k x3.2).bind fun c=>
 some (x3.1,c)
theorem oa(k:Nat)(a0:dk)(a1:(List (List Int)))(a2:Int)(r:Int×(List (List Int)))(h:iL k a0 a1 a2=some r):
 bZ Tryz.prog 85 [.at bM a0,.rep (.arr 3 (.arr 5 (.int .i64))) a1,I a2] [] (fun _:Unit=>(bq [.eq (.int .u8 r.1),.rep (.arr 3 (.arr 5 (.int .i64))) r.2],[])):=by
 unfold iL at h
 replace h:=a9 h
 refine bZ.of 37 Tryz.func85 rfl Tryz.ntmps85 rfl fun S w0=>?_
 refine sr ?_
 refine bx fun b1=>?_
 refine cq ?_
 refine aF rfl rfl rfl (bR rfl mQ nr) trivial fun b2=>?_
 refine nt ?_
 refine sr ?_
 refine cq ?_
 refine nt ?_
 refine sr ?_
 refine cq ?_
 refine nt ?_
 refine aL (Z:=Value) (α:=Int×(List (List Int))) (fun z4 x3=>[(7,Pt b2),(8,.eq (.int .u8 x3.1)),(9,.eq z4)]) (fun z4 x3=>[.obj b2 107 (.rep (.arr 3 (.arr 5 (.int .i64))) [[0,0,0,0,0],[0,0,0,0,0],[0,0,0,0,0]]),.sl z4 23 (.slice (.int .i64)) x3.2]) h (fun K h=>?_) (fun z4 x3 h=>?_)
 ·
  refine sr (fg rfl ?_);refine nt (aj (eH (SE.nil 23 (.slice (.int .i64))) ?_));refine aG (fun z6 y5=>[(0,.at bM a0),(2,I a2),(4,Pt b1),(7,Pt b2),(8,.eq (.int .u8 y5.1)),(9,.eq z6),(13,I y5.2.2)]) (fun z6 y5=>[.obj b1 107 (.rep (.arr 3 (.arr 5 (.int .i64))) a1),.obj b2 107 (.rep (.arr 3 (.arr 5 (.int .i64))) [[0,0,0,0,0],[0,0,0,0,0],[0,0,0,0,0]]),.sl z6 23 (.slice (.int .i64)) y5.2.1]) (cO k a0 a1 a2) k (.slice none 0 0) (0,([]:(List (List Int))),0) (fun _=>rfl) h (SE.fin [2,1,0] ⟨rfl,rfl,rfl,rfl,rfl,rfl,rfl,trivial⟩ rfl) (fun n z6 y5 h=>?_);unfold cO at h;refine sr (jb (bm rfl) ?_);refine nt (ag (ci h (fun h=>?_) (fun h=>?_)))
  ·refine sk (ag (aj (sr (mq ?_))));refine aq (nt (sr ?_));refine lo di ?_;refine mq ?_;obtain⟨r7,D,h⟩:=aa h;refine jb (ak [.tmp 17,.tmp 18] rfl rfl Dc rfl (gl k a1 y5.2.2 r7 D)) ?_;iterate 2 refine mq ?_
   obtain⟨r8,y,h⟩:=aa h;refine jb (ak [.tmp 20,.tmp 21] rfl rfl Qi rfl (mT k a0 a2 r8 y)) ?_;obtain⟨r9,x,h⟩:=aa h;refine jb (ak [.tmp 19,.tmp 22] rfl rfl Qj rfl (tA k r7 r8 r9 x)) ?_;refine mq ?_;refine xr ?_;refine xr ?_;refine aq ?_;refine aq (nt (sr ?_));iterate 2 refine mq ?_
   refine jb (O4 rfl) ?_;refine aq (nt (ab ?_));iterate 2 refine mq ?_
   refine ja (bF (t:=(.slice (.int .i64))) [(.tmp 30,_)] [r9.2] rfl rfl oJ (.cons rfl .rep .nil) rfl rfl) ?_;obtain⟨E,j,h⟩:=aa h;refine fr 2 ?_;refine dF rfl rfl rfl (bX rfl rfl oJ (aD j)) ⟨rfl,rfl,trivial⟩ fun u=>?_;refine aq (ao (aO (tn (ab ?_))));obtain⟨s,e,h⟩:=aa h;refine jb (bb rfl e) ?_;refine mq (nl ?_);exact jz (u,(CY .u8 y5.1 r9.1,y5.2.1++[r9.2],s)) h [1,2,0]
  ·refine xa ?_;exact jz (z6,(y5.1,y5.2.1)) h [1,2]
 ·
  refine sr ?_;iterate 2 refine mq ?_
  obtain⟨c,l,h⟩:=aa h;refine fr 1 ?_;refine ka (qS (N:=[(.tmp 35,.eq z4)]) (ak [.tmp 35] rfl rfl BJ rfl (d4 k x3.2 c l)) (fun _ _ _ hv hn=>⟨(lend hn.1 hv),trivial⟩) (fun _=>⟨rfl,zT⟩)) ?_;refine aq ?_;refine fr 1 ?_;refine bi rfl rfl (bh rfl di rfl rfl rfl) ⟨rfl,rfl,trivial⟩ ?_;refine nt (aA ?_);cases h;exact aE () [_,.rep (.arr 3 (.arr 5 (.int .i64))) c] 0 ⟨rfl,⟨_,_,_,_,_,rfl,(.head _),di,(xG),rfl⟩,trivial⟩ rfl
def eC(k:Nat)(a0:dk)(a1:(List (List Int))):Nat→((List (List Int))×Int)→Option (List (List Int))
 |0,_=>none
 |n+1,y6=>
  if y6.2 < ((List.replicate (Int.toNat (a0.1.2.2.length:Int)) ([]:(List Int))).length:Int) then((dX k a1 y6.2).bind fun r8=>
  (aZ y6.1 y6.2).bind fun x9=>
  (ck (y6.2+1)).bind fun c=>
  eC k a0 a1 n (List.set y6.1 (Int.toNat y6.2) r8,c)) else(some y6.1)
def dZ(k:Nat)(a0:dk)(a1:(List (List Int))):Option (List (List Int)):=
 (ek (0≤(a0.1.2.2.length:Int)∧bT (Int.toNat (a0.1.2.2.length:Int)))).bind fun _=>
 ((eC k a0 a1 k (List.replicate (Int.toNat (a0.1.2.2.length:Int)) ([]:(List Int)),0)):Option ((List (List Int)))).bind fun x4=>
 some x4
theorem ii(k:Nat)(a0:dk)(a1:(List (List Int)))(r:(List (List Int)))(h:dZ k a0 a1=some r):
 bZ Tryz.prog 88 [.at bM a0,.rep (.arr 3 (.arr 5 (.int .i64))) a1] [] (fun z:Value=>(bq [.eq z],[.sl z 23 (.slice (.int .i64)) r])):=by
 unfold dZ at h
 replace h:=a9 h
 refine bZ.of 27 Tryz.func88 rfl Tryz.ntmps88 rfl fun S w0=>?_
 refine sr ?_
 refine bx fun b1=>?_
 refine cq ?_
 refine nt ?_
 refine sr ?_
 refine mq ?_
 refine ja (dM rfl) ?_
 refine ja (aM 3 true rfl jT rfl) ?_
 refine ja (aM 1 false rfl fD rfl) ?_
 refine ja (an (t:=(.slice (.int .i64))) rfl bW rfl) ?_
 refine ol eA ?_
 obtain⟨u2,j,h⟩:=aa h
 refine aF rfl rfl rfl (Gy (t:=(.slice (.int .i64))) (d:=([]:(List Int))) rfl oJ Q7 (aD j).1 (aD j).2) ⟨rfl,rfl,trivial⟩ fun v3=>?_
 refine aq ?_
 refine nt ?_
 refine aL (Z:=Unit) (α:=(List (List Int))) (fun z5 x4=>[(5,.eq v3)]) (fun z5 x4=>[.sl v3 23 (.slice (.int .i64)) x4]) h (fun K h=>?_) (fun z5 x4 h=>?_)
 ·
  refine sr (mq ?_);refine ka (cZ rfl rfl k9) ?_;refine fg rfl ?_;refine nt (aj (aG (fun z7 y6=>[(3,Pt b1),(5,.eq v3),(15,I ((List.replicate (Int.toNat (a0.1.2.2.length:Int)) ([]:(List Int))).length:Int)),(16,I y6.2)]) (fun z7 y6=>[.obj b1 107 (.rep (.arr 3 (.arr 5 (.int .i64))) a1),.sl v3 23 (.slice (.int .i64)) y6.1]) (eC k a0 a1) k () (List.replicate (Int.toNat (a0.1.2.2.length:Int)) ([]:(List Int)),0) (fun _=>rfl) h (SE.fin [1,0] ⟨rfl,rfl,rfl,rfl,trivial⟩ rfl) (fun n z7 y6 h=>?_)));unfold eC at h;refine sr (jb (bm rfl) ?_);refine nt (ag (ci h (fun h=>?_) (fun h=>?_)))
  ·refine sk (ag (aj (sr (mq ?_))));refine aq (nt (ab ?_));iterate 2 refine mq ?_
   refine lo di ?_;refine mq ?_;obtain⟨r8,s,h⟩:=aa h;refine jb (ak [.tmp 21,.tmp 22] rfl rfl Dc rfl (gl k a1 y6.2 r8 s)) ?_;obtain⟨x9,c,h⟩:=aa h;refine fr 1 ?_;refine kb (be (t:=(.slice (.int .i64))) rfl k9 bW c) ?_;refine bi rfl rfl (cX (i:=Int.toNat y6.2) rfl bW rfl (ik c) rfl .rep rfl) ⟨rfl,rfl,trivial⟩ ?_;refine ao (aO (tn (ab ?_)));obtain⟨l,e,h⟩:=aa h;refine jb (bb rfl e) ?_;refine mq (nl ?_);exact jz ((),(List.set y6.1 (Int.toNat y6.2) r8,l)) h [1,0]
  ·refine xa ?_;exact jz ((),y6.1) h [1]
 ·
  refine sr (mq ?_);refine aq (nt (aA ?_));cases h;exact aE v3 [.eq v3] 1 ⟨rfl,trivial⟩ rfl
def dI(k:Nat)(a0:(List Int))(a1:(List Int)):Nat→Int→Option (Except Bool Unit)
 |0,_=>none
 |n+1,y3=>
  if y3 < (a0.length:Int) then((aZ a0 y3).bind fun x5=>
  (aZ a1 y3).bind fun x6=>
  if¬(x5=x6) then(some (.error false)) else((ck (y3+1)).bind fun x7=>
  dI k a0 a1 n x7)) else(some (.ok ()))
def fS(k:Nat)(a0:(List Int))(a1:(List Int)):Option Bool:=
 if¬((a0.length:Int)=(a1.length:Int)) then(some false) else(bE (α:=Unit) (dI k a0 a1 k 0) (some) fun _=>
 some true)
theorem jp(k:Nat)(a0:(List Int))(a1:(List Int))(r:Bool)(h:fS k a0 a1=some r):
 bZ Tryz.prog 37 [Ri a0,Ri a1] [] (fun _:Unit=>(bq [.eq (.bool r)],[])):=by
 unfold fS at h
 replace h:=a9 h
 refine bZ.of 26 Tryz.func37 rfl Tryz.ntmps37 rfl fun S w0=>?_
 refine sr ?_
 refine cq ?_
 refine nt ?_
 refine ag ?_
 refine sr ?_
 refine mq ?_
 refine ol eA ?_
 refine mq ?_
 refine ol eA ?_
 refine jb (ge rfl) ?_
 refine nt ?_
 refine cn h (fun h=>?_) (fun h=>?_)
 ·
  refine sr (cq (nt (rx ?_)));cases h;exact ra
 ·
  refine sk (dA (Z:=Unit) (α:=Unit) (fun z2 x1=>[]) (fun z2 x1=>[]) (fun e=>e=r) h (fun e h=>Option.some.inj h) (fun K hR h=>?_) (fun z2 x1 h=>?_))
  ·refine sr (cq (nt (aj ?_)));refine aG (fun z4 y3=>[(0,Ri a0),(1,Ri a1),(5,I y3)]) (fun z4 y3=>[]) (dI k a0 a1) k () 0 (fun _=>rfl) h (SE.fin [] ⟨rfl,rfl,rfl,trivial⟩ rfl) (fun n z4 y3 h=>?_);unfold dI at h;refine ag (sr ?_);iterate 2 refine mq ?_
   refine ol eA ?_;refine jb (bm rfl) ?_;refine nt (ci h (fun h=>?_) (fun h=>?_))
   ·refine sk (ag (aj (ag (cy ?_))));refine dm ?_;refine dm ?_;obtain⟨x5,l,h⟩:=aa h;refine db (aH (t:=(.int .i64)) rfl eA cP l) ?_;refine da (an (t:=(.int .i64)) rfl cP rfl) ?_;refine dm ?_;refine dm ?_;obtain⟨x6,j,h⟩:=aa h;refine db (aH (t:=(.int .i64)) rfl eA cP j) ?_;refine da (an (t:=(.int .i64)) rfl cP rfl) ?_;refine df fo ?_;refine jb (ge rfl) ?_;refine nt (cn h (fun h=>?_) (fun h=>?_))
    ·refine sr (cq (nt (aA (br (ba (aP ?_))))));obtain rfl:=hR _ h;exact ra
    ·refine aS (aO (tn (ab (mq ?_))));obtain⟨x7,c,h⟩:=aa h;refine jb (bb rfl c) ?_;refine aq (nl ?_);exact jz ((),x7) h []
   ·refine xa ?_;exact jz ((),()) h []
  ·refine sr (cq (nt (aA ?_)));cases h;exact ra
def iN(k:Nat)(a0:(List (List Int)))(a1:(List (List Int))):Nat→Int→Option (Except Bool Unit)
 |0,_=>none
 |n+1,y3=>
  if y3 < (a0.length:Int) then((aZ a0 y3).bind fun x5=>
  (aZ a1 y3).bind fun x6=>
  (fS k x5 x6).bind fun r7=>
  if¬(r7=true) then(some (.error false)) else((ck (y3+1)).bind fun x8=>
  iN k a0 a1 n x8)) else(some (.ok ()))
def kA(k:Nat)(a0:(List (List Int)))(a1:(List (List Int))):Option Bool:=
 if¬((a0.length:Int)=(a1.length:Int)) then(some false) else(bE (α:=Unit) (iN k a0 a1 k 0) (some) fun _=>
 some true)
theorem ng(k:Nat)(a0:(List (List Int)))(a1:(List (List Int)))(r:Bool)(h:kA k a0 a1=some r):
 bZ Tryz.prog 38 [.rep (.slice (.slice (.int .i64))) a0,.rep (.slice (.slice (.int .i64))) a1] [] (fun _:Unit=>(bq [.eq (.bool r)],[])):=by
 unfold kA at h
 replace h:=a9 h
 refine bZ.of 27 Tryz.func38 rfl Tryz.ntmps38 rfl fun S w0=>?_
 refine sr ?_
 refine cq ?_
 refine nt ?_
 refine ag ?_
 refine sr ?_
 refine mq ?_
 refine ol k9 ?_
 refine mq ?_
 refine ol k9 ?_
 refine jb (ge rfl) ?_
 refine nt ?_
 refine cn h (fun h=>?_) (fun h=>?_)
 ·
  refine sr (cq (nt (rx ?_)));cases h;exact ra
 ·
  refine sk (dA (Z:=Unit) (α:=Unit) (fun z2 x1=>[]) (fun z2 x1=>[]) (fun e=>e=r) h (fun e h=>Option.some.inj h) (fun K hR h=>?_) (fun z2 x1 h=>?_))
  ·refine sr (cq (nt (aj ?_)));refine aG (fun z4 y3=>[(0,.rep (.slice (.slice (.int .i64))) a0),(1,.rep (.slice (.slice (.int .i64))) a1),(5,I y3)]) (fun z4 y3=>[]) (iN k a0 a1) k () 0 (fun _=>rfl) h (SE.fin [] ⟨rfl,rfl,rfl,trivial⟩ rfl) (fun n z4 y3 h=>?_);unfold iN at h;refine ag (sr ?_);iterate 2 refine mq ?_
   refine ol k9 ?_;refine jb (bm rfl) ?_;refine nt (ci h (fun h=>?_) (fun h=>?_))
   ·refine sk (ag (aj (ag (cy ?_))));refine dm ?_;refine dm ?_;obtain⟨x5,l,h⟩:=aa h;refine db (aH (t:=(.slice (.int .i64))) rfl k9 bW l) ?_;refine da (an (t:=(.slice (.int .i64))) rfl bW rfl) ?_;refine dm ?_;refine dm ?_;obtain⟨x6,j,h⟩:=aa h;refine db (aH (t:=(.slice (.int .i64))) rfl k9 bW j) ?_;refine da (an (t:=(.slice (.int .i64))) rfl bW rfl) ?_;refine df fo ?_;obtain⟨r7,s,h⟩:=aa h;refine jb (ak [.tmp 20,.tmp 24] rfl rfl KO rfl (jp k x5 x6 r7 s)) ?_;refine ja (d5 rfl) ?_;refine nt (cw h (fun h=>?_) (fun h=>?_))
    ·refine sr (cq (nt (aA (br (ba (aP ?_))))));obtain rfl:=hR _ h;exact ra
    ·refine aS (aO (tn (ab (mq ?_))));obtain⟨x8,c,h⟩:=aa h;refine jb (bb rfl c) ?_;refine aq (nl ?_);exact jz ((),x8) h []
   ·refine xa ?_;exact jz ((),()) h []
  ·refine sr (cq (nt (aA ?_)));cases h;exact ra
def hQ(k:Nat)(a0:List Int):Option (List Int):=
 (ek (bT (List.length a0))).bind fun _=>some a0
theorem m3(k:Nat)(a0:List Int)(r:List Int)(h:hQ k a0=some r):
 bZ Tryz.prog 97 [Ri a0] [] (fun z:Value=>(bq [.eq z],[.sl z 3 (.int .i64) r])):=by
 unfold hQ at h
 replace h:=a9 h
 refine bZ.of 8 Tryz.func97 rfl Tryz.ntmps97 rfl fun S w0=>?_
 obtain⟨u1,c,h⟩:=aa h
 cases h
 refine sr ?_
 refine cq ?_
 refine nt ?_
 refine ag ?_
 refine sr ?_
 refine mq ?_
 refine bJ (Δ:=[]) (F:=_) (fun _ _ _=>av rfl _) rfl rfl (JH rfl eA) ⟨rfl,rfl,trivial⟩ fun b=>?_
 refine nt ?_
 refine bL rfl (fun hb=>?_) (fun hb=>?_)
 ·
  refine sr (cq (nt (rx ?_)));obtain rfl:=b.2 hb;refine bv (SE.nil 3 (.int .i64)) ?_;exact aE (.slice none 0 0) [.eq (.slice none 0 0)] 1 ⟨rfl,trivial⟩ rfl
 ·
  refine sk (sr (aF rfl rfl rfl (lQ (t:=(.int .i64)) [] [] rfl rfl eJ .nil rfl rfl) trivial fun v1=>?_));refine mq ?_;refine dF rfl rfl rfl (bX rfl rfl eJ (by simpa using aD c)) ⟨rfl,rfl,trivial⟩ fun v2=>?_;refine aq (nt (aA ?_));exact aE v2 [.eq v2] 1 ⟨rfl,trivial⟩ rfl
def eD(k:Nat)(a0:dk)(a2:Int):Nat→((List (List Int))×Int)→Option (List (List Int))
 |0,_=>none
 |n+1,y5=>
  if y5.2 < a2 then((iL k a0 y5.1 y5.2).bind fun r7=>
  (ck (y5.2+1)).bind fun x8=>
  eD k a0 a2 n (r7.2,x8)) else(some y5.1)
def gi(k:Nat)(a0:dk)(a1:(List (List Int)))(a2:Int):Option (List (List Int)):=
 ((eD k a0 a2 k (a1,0)):Option ((List (List Int)))).bind fun x3=>
 some x3
theorem ml(k:Nat)(a0:dk)(a1:(List (List Int)))(a2:Int)(r:(List (List Int)))(h:gi k a0 a1 a2=some r):
 bZ Tryz.prog 103 [.at bM a0,.rep (.arr 3 (.arr 5 (.int .i64))) a1,I a2] [] (fun _:Unit=>(bq [.rep (.arr 3 (.arr 5 (.int .i64))) r],[])):=by
 unfold gi at h
 replace h:=a9 h
 refine bZ.of 21 Tryz.func103 rfl Tryz.ntmps103 rfl fun S w0=>?_
 refine sr ?_
 refine bx fun b1=>?_
 refine aF rfl rfl rfl (bR rfl mQ nr) trivial fun b2=>?_
 refine nt ?_
 refine aL (Z:=Unit) (α:=(List (List Int))) (fun z4 x3=>[(4,Pt b1),(6,Pt b2)]) (fun z4 x3=>[.obj b1 107 (.rep (.arr 3 (.arr 5 (.int .i64))) x3),.obj b2 107 (.rep (.arr 3 (.arr 5 (.int .i64))) [[0,0,0,0,0],[0,0,0,0,0],[0,0,0,0,0]])]) h (fun K h=>?_) (fun z4 x3 h=>?_)
 ·
  refine sr (mq ?_);refine fg rfl ?_;refine nt (aj (aG (fun z6 y5=>[(0,.at bM a0),(4,Pt b1),(6,Pt b2),(8,I a2),(9,I y5.2)]) (fun z6 y5=>[.obj b1 107 (.rep (.arr 3 (.arr 5 (.int .i64))) y5.1),.obj b2 107 (.rep (.arr 3 (.arr 5 (.int .i64))) [[0,0,0,0,0],[0,0,0,0,0],[0,0,0,0,0]])]) (eD k a0 a2) k () (a1,0) (fun _=>rfl) h (SE.fin [1,0] ⟨rfl,rfl,rfl,rfl,rfl,trivial⟩ rfl) (fun n z6 y5 h=>?_)));unfold eD at h;refine sr (jb (bm rfl) ?_);refine nt (ag (ci h (fun h=>?_) (fun h=>?_)))
  ·refine sk (ag (aj (sr (mq ?_))));refine aq (nt (ab ?_));refine mq ?_;refine lo di ?_;refine mq ?_;obtain⟨r7,e,h⟩:=aa h;refine jc (ak [.tmp 13,.tmp 14,.tmp 15] rfl rfl PO rfl (oa k a0 y5.1 y5.2 r7 e)) ?_;refine mq ?_;refine xr ?_;refine xr ?_;refine bi rfl rfl (bh rfl di rfl rfl rfl) ⟨rfl,rfl,trivial⟩ ?_;refine ao (aO (tn (ab ?_)));obtain⟨x8,c,h⟩:=aa h;refine jb (bb rfl c) ?_;refine mq (nl ?_);exact jz ((),(r7.2,x8)) h [0,1]
  ·refine xa ?_;exact jz ((),y5.1) h [0,1]
 ·
  refine sr (lo di ?_);refine fr 1 ?_;refine bi rfl rfl (bh rfl di rfl rfl rfl) ⟨rfl,rfl,trivial⟩ ?_;refine nt (aA ?_);obtain rfl:=Option.some.inj h;exact aE () [.rep (.arr 3 (.arr 5 (.int .i64))) x3] 0 ⟨⟨_,_,_,_,_,rfl,(.head _),di,(xG),rfl⟩,trivial⟩ rfl
def lJ(k:Nat)(a0:List Int)(a1 a2:Int):Option (List Int):=
 (ek (0≤a1∧a1 < a2∧a2≤(a0.length:Int))).bind fun _=>some (a0.take a1.toNat++a0.drop a2.toNat)
theorem rn(k:Nat)(a0:List Int)(v:Value)(a1 a2:Int)(r:List Int)(h:lJ k a0 a1 a2=some r):bZ Tryz.prog 143 [.eq v,.eq (.int .i64 a1),.eq (.int .i64 a2)] [.sl v 3 (.int .i64) a0] (fun z:Value=>(bq [.eq z],[.sl z 3 (.int .i64) r])):=by
 unfold lJ at h
 replace h:=a9 h
 obtain⟨u1,eg,h⟩:=aa h
 obtain⟨h1,h2,h3⟩:=aD eg
 obtain rfl:=Option.some.inj h
 refine bZ.of 33 Tryz.func143 rfl Tryz.ntmps143 rfl fun S w0=>?_
 refine E8 (fun e=>by rw [e] at h3;simp at h3;omega) fun b cap hv hcap=>?_
 subst hv
 have hl:(a0.take a1.toNat++a0.drop a2.toNat).length=a1.toNat+(a0.length - a2.toNat):=by simp;omega
 refine ag ?_
 refine ab ?_
 refine dG rfl ?_
 refine ao (ae ?_)
 show JC _ _ _ _ _
 refine ag ?_
 refine ab ?_
 refine ax rfl rfl ?_
 refine ax rfl rfl ?_
 refine ax rfl rfl ?_
 refine ax rfl rfl ?_
 refine bV rfl rfl rfl (cZ rfl rfl eA) ⟨rfl,trivial⟩ ?_
 refine aC rfl (xw rfl eA cP h1 (by omega) h3 (by omega)) ⟨rfl,rfl,rfl,rfl,trivial⟩ ?_
 refine ao (ae ?_)
 show JC _ _ _ _ _
 refine ag ?_
 refine ag ?_
 refine ab ?_
 refine ax rfl rfl ?_
 refine ax rfl rfl ?_
 refine aC rfl (dr rfl) ⟨rfl,rfl,trivial⟩ ?_
 refine ao (ae ?_)
 show JC _ _ _ _ _
 refine bL rfl (fun hb=>absurd (of_decide_eq_true hb) (by omega)) (fun hb=>?_)
 refine aS (ae ?_)
 show JC _ _ _ _ _
 refine ag ?_
 refine ab ?_
 refine ax rfl rfl ?_
 refine bV rfl rfl rfl (cZ rfl rfl eA) ⟨rfl,trivial⟩ ?_
 refine de rfl rfl ?_
 refine ao (ae ?_)
 show JC _ _ _ _ _
 refine ag ?_
 refine cy ?_
 refine dH rfl rfl rfl (aW rfl) ⟨rfl,trivial⟩ ?_
 refine dH rfl rfl rfl (aW rfl) ⟨rfl,trivial⟩ ?_
 refine dH rfl rfl rfl (uO rfl eA cP h1 (by omega)) ⟨rfl,rfl,trivial⟩ ?_
 refine dH rfl rfl rfl (aW rfl) ⟨rfl,trivial⟩ ?_
 refine dH rfl rfl rfl (aW rfl) ⟨rfl,trivial⟩ ?_
 refine dH rfl rfl rfl (A8 rfl eA cP (by omega) h3) ⟨rfl,rfl,trivial⟩ ?_
 refine tw (by kernel_rfl) fo ?_
 refine cu (sc 22 rfl fun _ _ _ h=>(Cj▸h:(A.eq (.slice (some ⟨b,0,none⟩) a1.toNat cap)).holds _ _ _)) ?_
 refine bV rfl rfl rfl (xy (t:=.int .i64) (b:=b) (cap:=cap) (l:=a0) (i:=a1.toNat) (j:=a2.toNat) rfl rfl eJ (by omega) (by omega) hcap) ⟨rfl,rfl,trivial⟩ ?_
 refine de rfl rfl ?_
 refine ao (ae ?_)
 show JC _ _ _ _ _
 refine ag ?_
 refine ab ?_
 refine ax rfl rfl ?_
 refine ax rfl rfl ?_
 refine bV rfl rfl rfl (cZ rfl rfl eA) ⟨rfl,trivial⟩ ?_
 refine ax rfl rfl ?_
 refine aC rfl (ze rfl eA cP (by omega) (by rw [hl];omega) (by omega)) ⟨rfl,rfl,rfl,trivial⟩ ?_
 refine bi rfl rfl (zl (t:=.int .i64) (b:=b) (cap:=cap) (l:=a0.take a1.toNat++a0.drop a2.toNat) (n:=a0.length) rfl rfl eA rfl Su rfl rfl (by rw [hl];omega) hcap) ⟨rfl,trivial⟩ ?_
 refine ao (ae ?_)
 show JC _ _ _ _ _
 refine ag ?_
 refine ab ?_
 refine ax rfl rfl ?_
 refine de rfl rfl ?_
 refine ao (ae ?_)
 show JC _ _ _ _ _
 refine aA ?_
 exact aE _ [.eq _] 1 ⟨rfl,trivial⟩ rfl
def kw(k:Nat)(x7:Int)(h:(List (List Int))):Nat→((List (List Int))×Int)→Option (List (List Int))
 |0,_=>none
 |n+1,c=>
  if c.2 < (h.length:Int) then((aZ h c.2).bind fun e=>
  (ek (bT (List.length [x7]+List.length e))).bind fun _=>
  (ek (bT (List.length c.1+List.length [[x7]++e]))).bind fun _=>
  (ck (c.2+1)).bind fun j=>
  kw k x7 h n (c.1++[[x7]++e],j)) else(some c.1)
def kx(k:Nat)(a0:(List Int))(self:(List Int)→Option ((List (List Int)))):Nat→((List (List Int))×Int)→Option (List (List Int))
 |0,_=>none
 |n+1,y3=>
  if y3.2 < (a0.length:Int) then((((aZ a0 y3.2).bind fun x7=>
  (hQ k a0).bind fun r8=>
  (ck (y3.2+1)).bind fun e=>
  (lJ k r8 y3.2 e).bind fun j=>
  (self j).bind fun h=>
  kw k x7 h k (y3.1,0)):Option ((List (List Int)))).bind fun x5=>
  (ck (y3.2+1)).bind fun c=>
  kx k a0 self n (x5,c)) else(some y3.1)
def jr(k:Nat):Nat→(List Int)→Option ((List (List Int)))
 |0,_=>none
 |m0+1,a0=>
  if(a0.length:Int)=0 then(some [[]]) else(((kx k a0 (jr k m0) k (([]:(List (List Int))),0)):Option ((List (List Int)))).bind fun x1=>
  some x1)
theorem vF(k:Nat):
 ∀(n:Nat) (a0:(List Int)) (r:(List (List Int))),jr k n a0=some r→bZ Tryz.prog 107 [Ri a0] ([]) (fun _:Unit=>(bq [.rep (.slice (.slice (.int .i64))) r],[])):=by
 intro n
 induction n with
 |zero=>intro a0 r h;cases h
 |succ m0 ih=>
  intro a0 r h;rw [jr] at h;replace h:=a9 h;refine bZ.of 41 Tryz.func107 rfl Tryz.ntmps107 rfl fun S w0=>?_;refine sr (cq (nt (ag (sr ?_))));refine mq ?_;refine ol eA ?_;refine jb (dr rfl) ?_;refine nt (ci h (fun h=>?_) (fun h=>?_))
  ·refine sr (ja (bF (t:=(.slice (.int .i64))) [(.const (.slice none 0 0),_)] [[]] rfl rfl oJ (.cons rfl .nil .nil) rfl rfl) ?_);refine aq (nt (rx ?_));cases h;exact ra
  ·refine sk (sr (cq (nt ?_)));refine aL (Z:=Value) (α:=(List (List Int))) (fun z2 x1=>[(3,.eq z2)]) (fun z2 x1=>[.sl z2 23 (.slice (.int .i64)) x1]) h (fun K h=>?_) (fun z2 x1 h=>?_)
   ·refine sr (mq ?_);refine ol eA ?_;refine fg rfl ?_;refine nt (aj (eH (SE.nil 23 (.slice (.int .i64))) ?_));refine aG (fun z4 y3=>[(0,Ri a0),(3,.eq z4),(12,Ri a0),(13,I (a0.length:Int)),(14,I y3.2)]) (fun z4 y3=>[.sl z4 23 (.slice (.int .i64)) y3.1]) (kx k a0 (jr k m0)) k (.slice none 0 0) (([]:(List (List Int))),0) (fun _=>rfl) h (SE.fin [0] ⟨rfl,rfl,rfl,rfl,rfl,trivial⟩ rfl) (fun n z4 y3 h=>?_);unfold kx at h;refine sr (jb (bm rfl) ?_);refine nt (ag (ci h (fun h=>?_) (fun h=>?_)))
    ·refine sk (aL (Z:=Value) (α:=(List (List Int))) (fun z6 x5=>[(0,Ri a0),(3,.eq z6),(12,Ri a0),(13,I (a0.length:Int)),(14,I y3.2)]) (fun z6 x5=>[.sl z6 23 (.slice (.int .i64)) x5]) h (fun K h=>?_) (fun z6 x5 h=>?_))
     ·refine aj (sr (mq ?_));obtain⟨x7,Y,h⟩:=aa h;refine jb (aH (t:=(.int .i64)) rfl eA cP Y) ?_;refine ja (an (t:=(.int .i64)) rfl cP rfl) ?_;refine aq ?_;refine aq (nt (sr ?_));refine mq ?_;obtain⟨r8,ac,h⟩:=aa h;refine aF rfl rfl rfl (ak [.tmp 19] rfl rfl Rx rfl (m3 k a0 r8 ac)) ⟨rfl,trivial⟩ fun v9=>?_;iterate 2 refine mq ?_
      obtain⟨U,D,h⟩:=aa h;refine jb (bb rfl D) ?_;obtain⟨s,M,h⟩:=aa h;refine dF rfl rfl rfl (ak [.tmp 20,.tmp 21,.tmp 23] rfl rfl Qg rfl (rn k r8 v9 y3.2 U s M)) ⟨rfl,rfl,rfl,trivial⟩ fun qt=>?_;refine cu (f9 [24] ⟨rfl,trivial⟩) ?_;obtain⟨j,J,h⟩:=aa h;refine ja (ak [.tmp 24] rfl rfl LW rfl (ih s j J)) ?_;refine ol k9 ?_;refine fg rfl ?_;refine nt (aj (aG (fun e c=>[(0,Ri a0),(3,.eq e),(5,I x7),(12,Ri a0),(13,I (a0.length:Int)),(14,I y3.2),(25,.rep (.slice (.slice (.int .i64))) j),(26,I (j.length:Int)),(27,I c.2)]) (fun e c=>[.sl e 23 (.slice (.int .i64)) c.1]) (kw k x7 j) k z4 (y3.1,0) (fun _=>rfl) h (SE.fin [0] ⟨rfl,rfl,rfl,rfl,rfl,rfl,rfl,rfl,rfl,trivial⟩ rfl) (fun n e c h=>?_)));unfold kw at h;refine sr (jb (bm rfl) ?_);refine nt (ag (ci h (fun h=>?_) (fun h=>?_)))
      ·refine sk (ag (aj (sr ?_)));obtain⟨l,y,h⟩:=aa h;refine jb (aH (t:=(.slice (.int .i64))) rfl k9 bW y) ?_;refine ja (an (t:=(.slice (.int .i64))) rfl bW rfl) ?_;refine aq (nt (ab ?_));iterate 2 refine mq ?_
       refine aF rfl rfl rfl (lQ (t:=(.int .i64)) [(.tmp 32,_)] [x7] rfl rfl eJ (.cons rfl .int .nil) rfl rfl) ⟨rfl,trivial⟩ fun pp=>?_;refine mq ?_;obtain⟨SJ,F,h⟩:=aa h;refine dF rfl rfl rfl (bX rfl rfl eJ (aD F)) ⟨rfl,rfl,trivial⟩ fun mc=>?_;refine cu (f9 [35] ⟨rfl,trivial⟩) ?_;refine ja (bF (t:=(.slice (.int .i64))) [(.tmp 35,_)] [[x7]++l] rfl rfl oJ (.cons rfl .rep .nil) rfl rfl) ?_;obtain⟨se,E,h⟩:=aa h;refine dF rfl rfl rfl (bX rfl rfl oJ (aD E)) ⟨rfl,rfl,trivial⟩ fun X=>?_;refine aq (ao (aO (tn (ab ?_))));obtain⟨Q,x,h⟩:=aa h;refine jb (bb rfl x) ?_;refine mq (nl ?_);exact jz (X,(c.1++[[x7]++l],Q)) h [0]
      ·refine dh (aI (aI (bO (bn ?_))));exact jz (e,c.1) h [0]
     ·refine ab ?_;obtain⟨O,u,h⟩:=aa h;refine jb (bb rfl u) ?_;refine mq (nl ?_);exact jz (z6,(x5,O)) h [0]
    ·refine xa ?_;exact jz (z4,y3.1) h [0]
   ·refine sr (mq ?_);refine aq (nt (aA ?_));refine bv (f9 [2,3,40] ⟨rfl,rfl,rfl,trivial⟩) ?_;cases h;exact ra
def gg{σ:Type}(k:Nat)(a1:(List Int))(Y:σ→Int→Option (σ×Bool)):Nat→(Int×σ)→Option (σ)
 |0,_=>none
 |n+1,y1=>
  if y1.1 < (a1.length:Int) then((aZ a1 y1.1).bind fun x3=>
  (Y y1.2 x3).bind fun r4=>
  if¬(r4.2=true) then(some r4.1) else((ck (y1.1+1)).bind fun x6=>
  gg k a1 Y n (x6,r4.1))) else(some y1.2)
def j9{σ:Type}(k:Nat)(Y:σ→Int→Option (σ×Bool))(a1:(List Int))(s0:σ):Option (σ):=
 gg k a1 Y k (0,s0)
theorem pV{M:Md Tryz.prog}{σ Z:Type}(E:Z→σ→List D)(l:Nat)(Y:σ→Int→Option (σ×Bool))(k:Nat)(a1:(List Int))(c:Nat)(hY:∀z s p r,Y s p=some r→YT M l [I p] (E z s) (fun z':Z=>(.eq (.bool r.2),E z' r.1))):
 ∀(z0:Z) (s0:σ) (r:σ),j9 k Y a1 s0=some r→dC M 146 [.eq (.func (.yield l) #[] #[]),Pt c] ([.obj c 23 (Ri a1)]++E z0 s0) (fun z:Z=>(bq [],[.obj c 23 (Ri a1)]++E z r)):=by
 intro z0 s0 r h
 unfold j9 at h
 replace h:=a9 h
 refine dC.of 16 Tryz.func146 rfl Tryz.ntmps146 rfl fun S w0=>?_
 refine sr ?_
 refine lo bW ?_
 refine ol eA ?_
 refine fg rfl ?_
 refine nt ?_
 refine aj ?_
 refine aG (Z:=Z) (α:=Int×σ) (fun z2 y1=>[(0,.eq (.func (.yield l) #[] #[])),(5,Ri a1),(6,I (a1.length:Int)),(7,I y1.1)]) (fun z2 y1=>[.obj c 23 (Ri a1)]++E z2 y1.2) (gg k a1 Y) k z0 (0,s0) (fun _=>rfl) h (aQ [.obj c 23 (Ri a1)] (E z0 s0) [0] ⟨rfl,rfl,rfl,rfl,trivial⟩ rfl) (fun n z2 y1 h=>?_)
 unfold gg at h
 refine sr ?_
 refine jb (bm rfl) ?_
 refine nt ?_
 refine ag ?_
 refine ci h (fun h=>?_) (fun h=>?_)
 ·
  refine sk (ag (aj (sr ?_)));obtain⟨x3,j,h⟩:=aa h;refine jb (aH (t:=(.int .i64)) rfl eA cP j) ?_;refine ja (an (t:=(.int .i64)) rfl cP rfl) ?_;refine aq (nt (sr ?_));iterate 2 refine mq ?_
  obtain⟨r4,u,h⟩:=aa h;refine pq [.obj c 23 (Ri a1)] rfl rfl rfl (xu [.tmp 12] rfl rfl rfl (hY z2 y1.2 x3 r4 u)) ⟨rfl,rfl,trivial⟩ fun z5=>?_;refine ja (d5 rfl) ?_;refine nt (cw h (fun h=>?_) (fun h=>?_))
  ·refine aA (br (ba ?_));cases h;exact iP z5 [] trivial rfl
  ·refine aS (aO (tn (ab ?_)));obtain⟨x6,e,h⟩:=aa h;refine jb (bb rfl e) ?_;refine mq (nl ?_);exact fX (z5,(x6,r4.1)) h (aQ [.obj c 23 (Ri a1)] (E z5 r4.1) [0] ⟨rfl,rfl,rfl,rfl,trivial⟩ rfl)
 ·
  refine dh (aI (aI (bO (jg ?_))));cases h;exact iP z2 [] trivial rfl
def jN(k:Nat)(a1:(List Int)):Option (List Int):=
 (j9 k (qh (fun(y2:(List Int)) (p4:Int)=>
  (ek (bT (List.length y2+List.length [p4]))).bind fun _=>
  some (y2++[p4],true))) a1 (([]:(List Int)),false)).bind fun r5=>
 if r5.2=true then(none) else(some r5.1)
theorem oI(k:Nat)(a1:(List Int))(c:Nat)(r:(List Int))(h:jN k a1=some r):
 bZ Tryz.prog 183 [.eq (.slice none 0 0),.eq (.func (.func 146) #[] #[(Pv c)])] [.obj c 23 (Ri a1)] (fun z:Value=>(bq [.eq z],[.sl z 3 (.int .i64) r,.obj c 23 (Ri a1)])):=by
 unfold jN at h
 replace h:=a9 h
 refine yv 13 Tryz.func183 rfl Tryz.ntmps183 rfl fun {M} S w0=>?_
 refine sr ?_
 refine bx fun b1=>?_
 refine cq ?_
 refine nt ?_
 refine ag ?_
 refine sr ?_
 refine mq ?_
 refine nt ?_
 refine aj ?_
 refine eH (SE.nil 3 (.int .i64)) ?_
 refine jh 1 rfl ?_
 refine jh 2 rfl ?_
 obtain⟨r5,j,h⟩:=aa h
 refine nW (Δ:=[.obj c 23 (Ri a1),.obj b1 23 (.eq (.slice none 0 0)),.sl (.slice none 0 0) 3 (.int .i64) ([]:(List Int))]) (F:=[]) (X:=Value) (J:=fun _=>J6 r5.2) (E:=fun z3=>[.obj c 23 (Ri a1),.obj b1 23 (.eq z3),.sl z3 3 (.int .i64) r5.1]) (r0:=fun _=>.tup .any) rfl rfl Qd (fun rec hp ha hb hs hpe hN hv l=>?_) (fun dl z3=>qs (fun hj=>?_) (fun hj=>?_))
 ·
  rcases rec with⟨st0,pe0,fn0,tm0,ps0,as0,bd0,df0⟩;dsimp only at hp ha hb hs hpe hN hv;subst hp hs hpe;have vN:vr tm0 [(2,Pt b1)]:=⟨congrArg A.eq (hv 2 _ rfl).symm,trivial⟩;refine dC.pick (M:=M) [1,0,2,3] [1,0,2,3] (pV (fun(z3:Value) (q:(List Int)×Bool)=>[.raw l (.loop (jO ⟨.ready,none,fn0,tm0, #[7],as0,bd0,df0⟩ (J6 q.2))),.obj b1 23 (.eq z3),.sl z3 3 (.int .i64) q.1]) l (qh (fun(y2:(List Int)) (p4:Int)=>
  (ek (bT (List.length y2+List.length [p4]))).bind fun _=>
  some (y2++[p4],true))) k a1 c (fun z3 q p r' h=>?_) (.slice none 0 0) (([]:(List Int)),false) r5 j) rfl (fun _=>rfl) (fun _=>rfl)
  obtain⟨rq,hq,h2,rfl⟩:=qu h;obtain⟨y2,b5⟩:=q;obtain rfl:b5=false:=hq;replace h:=a9 h2;obtain⟨p4,hpv⟩:∃x,x=p:=⟨_,rfl⟩;subst hpv;refine YT.pick (R':=(fun z3:Value=>(.eq (.bool rq.2),[.raw l (.loop (jO ⟨.ready,none,fn0,tm0, #[7],as0,bd0,df0⟩ (J6 (!rq.2)))),.obj b1 23 (.eq z3),.sl z3 3 (.int .i64) rq.1]))) [0,1,2] [0,1,2] (IJ ha hb (N:=13) (Γ:=[(2,Pt b1)]) rfl hN (by decide) vN (fun S w=>?_)) rfl (fun _=>rfl) (fun _=>rfl);refine ab (aq (nl ?_));refine vx rfl rfl ?_;refine aj (ab (fr 1 ?_));refine lo bW ?_;refine mq ?_;refine ja (bF (t:=(.int .i64)) [(.tmp 9,_)] [p4] rfl rfl eJ (.cons rfl .int .nil) rfl rfl) ?_;obtain⟨u6,e,h⟩:=aa h;refine fr 2 ?_;refine dF rfl rfl rfl (bX rfl rfl eJ (aD e)) ⟨rfl,rfl,trivial⟩ fun v7=>?_;refine yo fun o8=>?_;refine fr 1 ?_;refine bi rfl rfl (bh rfl bW o8 rfl rfl) ⟨rfl,rfl,trivial⟩ ?_;refine ao (aO (cN 1 rfl ?_));refine cN 1 rfl ?_;refine cN 2 rfl ?_;cases h;exact tu v7 2 rfl
 ·
  replace h:=bH (DL hj) h;refine aO (tn (sr (fr 2 ?_)));refine lo bW ?_;refine aq (nt (aA ?_));refine cN 1 rfl ?_;refine yq ?_;refine bv (SE.fin (Γ':=[(4,_)]) [2,1,0] ⟨rfl,trivial⟩ rfl) ?_;cases h;exact aE z3 [.eq z3] 2 ⟨rfl,trivial⟩ rfl
 ·
  replace h:=cp (DK hj) h;cases h
def kX(k:Nat)(a0:(List Int)):Option (List Int):=
 (jN k a0).bind fun r1=>
 some r1
theorem qy(k:Nat)(a0:(List Int))(c:Nat)(r:(List Int))(h:kX k a0=some r):
 bZ Tryz.prog 144 [.eq (.func (.func 146) #[] #[(Pv c)])] [.obj c 23 (Ri a0)] (fun z:Value=>(bq [.eq z],[.sl z 3 (.int .i64) r,.obj c 23 (Ri a0)])):=by
 unfold kX at h
 replace h:=a9 h
 refine bZ.of 5 Tryz.func144 rfl Tryz.ntmps144 rfl fun S w0=>?_
 refine sr ?_
 refine cq ?_
 refine nt ?_
 refine sr ?_
 refine mq ?_
 obtain⟨r1,e,h⟩:=aa h
 have j:=oI k a0 c r1 e
 refine bJ (Δ:=[_]) (F:=_) (fun _ _ _=>av rfl _) rfl rfl (ak [.const (.slice none 0 0),.tmp 3] rfl rfl P8 rfl j) ⟨rfl,rfl,trivial⟩ fun z2=>?_
 refine aq ?_
 refine nt ?_
 refine aA ?_
 cases h
 exact aE z2 [.eq z2] 2 ⟨rfl,trivial⟩ rfl
def pP(k:Nat)(a0:Int):Option Bool:=
 some (!decide (a0=a0))
theorem rT(k:Nat)(a0:Int)(r:Bool)(h:pP k a0=some r):
 bZ Tryz.prog 189 [I a0] [] (fun _:Unit=>(bq [.eq (.bool r)],[])):=by
 unfold pP at h
 replace h:=a9 h
 refine bZ.of 6 Tryz.func189 rfl Tryz.ntmps189 rfl fun S w0=>?_
 refine sr ?_
 refine cq ?_
 refine nt ?_
 refine sr ?_
 iterate 2 refine mq ?_
 refine jb (ge rfl) ?_
 refine aq ?_
 refine nt ?_
 refine aA ?_
 cases h
 exact ra
def vk(k:Nat)(a0:Int)(a1:Int):Option Bool:=
 (((pP k a0).bind fun r3=>
 if r3=true then((pP k a1).bind fun r4=>
 if¬(r4=true) then(some true) else(some (decide (a0 < a1)))) else(some (decide (a0 < a1)))):Option (Bool)).bind fun x1=>
 some x1
theorem Aa(k:Nat)(a0:Int)(a1:Int)(r:Bool)(h:vk k a0 a1=some r):
 bZ Tryz.prog 202 [I a0,I a1] [] (fun _:Unit=>(bq [.eq (.bool r)],[])):=by
 unfold vk at h
 replace h:=a9 h
 refine bZ.of 17 Tryz.func202 rfl Tryz.ntmps202 rfl fun S w0=>?_
 refine sr ?_
 refine cq ?_
 refine nt ?_
 refine aL (Z:=Unit) (α:=Bool) (fun z2 x1=>[(4,.eq (.bool x1))]) (fun z2 x1=>[]) h (fun K h=>?_) (fun z2 x1 h=>?_)
 ·
  refine ab (mq ?_);obtain⟨r3,e,h⟩:=aa h;refine ja (ak [.tmp 5] rfl rfl LQ rfl (rT k a0 r3 e)) ?_;refine mq ?_;refine bC (s:=7) rfl (fun hb=>?_) (fun hb=>?_)
  ·replace h:=cp (DK hb) h;refine gm ?_;obtain⟨r4,c,h⟩:=aa h;refine ga (ak [.tmp 8] rfl rfl LQ rfl (rT k a1 r4 c)) ?_;refine ga (d5 rfl) ?_;refine pt ?_;refine mq ?_;refine bC (s:=12) rfl (fun hb=>?_) (fun hb=>?_)
   ·replace h:=cp (En hb) h;iterate 3 refine gn ?_
    refine pt ?_;refine aq (nl ?_);exact jz ((),true) h []
   ·replace h:=bH (wj hb) h;refine gm ?_;refine gm ?_;refine gb (bm rfl) ?_;refine pf ?_;refine aq (nl ?_);exact jz ((),decide (a0 < a1)) h []
  ·replace h:=bH (DL hb) h;iterate 3 refine gn ?_
   refine pf ?_;refine mq ?_;refine gm ?_;refine gm ?_;refine gb (bm rfl) ?_;refine pf ?_;refine aq (nl ?_);exact jz ((),decide (a0 < a1)) h []
 ·
  refine aA ?_;cases h;exact ra
def cG(k:Nat)(a1:Int):Nat→((List Int)×Int)→Option (List Int)
 |0,_=>none
 |n+1,y6=>
  ((if a1 < y6.2 then((aZ y6.1 y6.2).bind fun u=>
  (ck (y6.2 - 1)).bind fun s=>
  (aZ y6.1 s).bind fun r=>
  (vk k u r).bind fun x=>
  some x) else(some false)):Option (Bool)).bind fun x8=>
  if x8=true then((ck (y6.2 - 1)).bind fun e=>
  (ck (y6.2 - 1)).bind fun l=>
  (aZ y6.1 l).bind fun c=>
  (aZ y6.1 y6.2).bind fun j=>
  (aZ y6.1 y6.2).bind fun D=>
  (aZ (List.set y6.1 (Int.toNat y6.2) c) e).bind fun y=>
  (ck (y6.2 - 1)).bind fun h=>
  cG k a1 n (List.set (List.set y6.1 (Int.toNat y6.2) c) (Int.toNat e) j,h)) else(some y6.1)
def cH(k:Nat)(a1:Int)(a2:Int):Nat→((List Int)×Int)→Option (List Int)
 |0,_=>none
 |n+1,y2=>
  if y2.2 < a2 then(((cG k a1 k (y2.1,y2.2)):Option ((List Int))).bind fun x4=>
  (ck (y2.2+1)).bind fun c=>
  cH k a1 a2 n (x4,c)) else(some y2.1)
def eI(k:Nat)(a0:(List Int))(a1:Int)(a2:Int):Option (List Int):=
 (ck (a1+1)).bind fun x1=>
 cH k a1 a2 k (a0,x1)
theorem jW(k:Nat)(a0:(List Int))(c:Value)(a1:Int)(a2:Int)(r:(List Int))(h:eI k a0 a1 a2=some r):
 bZ Tryz.prog 196 [.eq c,I a1,I a2] [.sl c 3 (.int .i64) a0] (fun _:Unit=>(bq [],[.sl c 3 (.int .i64) r])):=by
 unfold eI at h
 replace h:=a9 h
 refine bZ.of 49 Tryz.func196 rfl Tryz.ntmps196 rfl fun S w0=>?_
 refine sr ?_
 refine mq ?_
 obtain⟨x1,S8,h⟩:=aa h
 refine jb (bb rfl S8) ?_
 refine aq ?_
 refine nt ?_
 refine aj ?_
 refine aG (fun z3 y2=>[(0,.eq c),(1,I a1),(2,I a2),(6,I y2.2)]) (fun z3 y2=>[.sl c 3 (.int .i64) y2.1]) (cH k a1 a2) k () (a0,x1) (fun _=>rfl) h (SE.fin [0] ⟨rfl,rfl,rfl,rfl,trivial⟩ rfl) (fun n z3 y2 h=>?_)
 unfold cH at h
 refine ag ?_
 refine sr ?_
 iterate 2 refine mq ?_
 refine jb (bm rfl) ?_
 refine nt ?_
 refine ci h (fun h=>?_) (fun h=>?_)
 ·
  refine sk (aL (Z:=Unit) (α:=(List Int)) (fun z5 x4=>[(0,.eq c),(1,I a1),(2,I a2),(6,I y2.2)]) (fun z5 x4=>[.sl c 3 (.int .i64) x4]) h (fun K h=>?_) (fun z5 x4 h=>?_))
  ·refine aj (sr (mq ?_));refine aq (nt (aj ?_));refine aG (fun z7 y6=>[(0,.eq c),(1,I a1),(2,I a2),(6,I y2.2),(7,I y6.2)]) (fun z7 y6=>[.sl c 3 (.int .i64) y6.1]) (cG k a1) k () (y2.1,y2.2) (fun _=>rfl) h (SE.fin [0] ⟨rfl,rfl,rfl,rfl,rfl,trivial⟩ rfl) (fun n z7 y6 h=>?_);unfold cG at h;refine ag (aL (Z:=Unit) (α:=Bool) (fun z9 x8=>[(0,.eq c),(1,I a1),(2,I a2),(6,I y2.2),(7,I y6.2),(30,.eq (.bool x8))]) (fun z9 x8=>[.sl c 3 (.int .i64) y6.1]) h (fun K h=>?_) (fun z9 x8 h=>?_))
   ·refine cy ?_;refine dm ?_;refine dm ?_;refine db (jZ rfl) ?_;refine uc rfl rfl rfl (aW rfl) ⟨rfl,trivial⟩ (fun hb=>?_) (fun hb=>?_)
    ·replace h:=cp (me hb) h;refine cr rfl rfl rfl rfl rfl (aW rfl) ⟨rfl,rfl,trivial⟩ ?_;refine cr rfl rfl rfl rfl rfl (aW rfl) ⟨rfl,rfl,trivial⟩ ?_;obtain⟨SQ,x,h⟩:=aa h;refine mC 0 rfl rfl rfl rfl rfl rfl (be (t:=(.int .i64)) rfl eA cP x) ⟨rfl,rfl,rfl,trivial⟩ ?_;refine mC 0 rfl rfl rfl rfl rfl rfl (fi (i:=Int.toNat y6.2) (off:=0) rfl cP (fun _=>rfl) rfl (cT x).2.2 rfl) ⟨rfl,rfl,trivial⟩ ?_;refine cr rfl rfl rfl rfl rfl (aW rfl) ⟨rfl,rfl,trivial⟩ ?_;refine cr rfl rfl rfl rfl rfl (aW rfl) ⟨rfl,rfl,trivial⟩ ?_;obtain⟨SO,qt,h⟩:=aa h;refine cr rfl rfl rfl rfl rfl (fQ rfl qt) ⟨rfl,rfl,rfl,trivial⟩ ?_;obtain⟨SN,u,h⟩:=aa h;refine mC 0 rfl rfl rfl rfl rfl rfl (be (t:=(.int .i64)) rfl eA cP u) ⟨rfl,rfl,rfl,trivial⟩ ?_;refine mC 0 rfl rfl rfl rfl rfl rfl (fi (i:=Int.toNat SO) (off:=0) rfl cP (fun _=>rfl) rfl (cT u).2.2 rfl) ⟨rfl,rfl,trivial⟩ ?_;refine df fo ?_;obtain⟨F,se,h⟩:=aa h;refine gb (ak [.tmp 23,.tmp 28] rfl rfl P3 rfl (Aa k SQ SN F se)) ?_;refine pt (nl ?_);exact jz ((),F) h [0]
    ·replace h:=bH (lY hb) h;iterate 9 refine dg ?_
     refine df fo ?_;refine gn ?_;refine pf (nl ?_);exact jz ((),false) h [0]
   ·refine cv h (fun h=>?_) (fun h=>?_)
    ·refine sk (ag (aj (kU ?_)));refine aN rfl rfl rfl (aW rfl) ⟨rfl,trivial⟩ ?_;refine aN rfl rfl rfl (aW rfl) ⟨rfl,trivial⟩ ?_;refine aN rfl rfl rfl (aW rfl) ⟨rfl,trivial⟩ ?_;refine aN rfl rfl rfl (aW rfl) ⟨rfl,trivial⟩ ?_;obtain⟨y,pp,h⟩:=aa h;refine aN rfl rfl rfl (fQ rfl pp) ⟨rfl,rfl,trivial⟩ ?_;refine aN rfl rfl rfl (aW rfl) ⟨rfl,trivial⟩ ?_;refine aN rfl rfl rfl (aW rfl) ⟨rfl,trivial⟩ ?_;obtain⟨SL,mc,h⟩:=aa h;refine aN rfl rfl rfl (fQ rfl mc) ⟨rfl,rfl,trivial⟩ ?_;obtain⟨E,s,h⟩:=aa h;refine fw 0 rfl rfl rfl rfl (be (t:=(.int .i64)) rfl eA cP s) ⟨rfl,rfl,trivial⟩ ?_;refine fw 0 rfl rfl rfl rfl (fi (i:=Int.toNat SL) (off:=0) rfl cP (fun _=>rfl) rfl (cT s).2.2 rfl) ⟨rfl,trivial⟩ ?_;refine aN rfl rfl rfl (aW rfl) ⟨rfl,trivial⟩ ?_;refine aN rfl rfl rfl (aW rfl) ⟨rfl,trivial⟩ ?_;obtain⟨D,l,h⟩:=aa h;refine fw 0 rfl rfl rfl rfl (be (t:=(.int .i64)) rfl eA cP l) ⟨rfl,rfl,trivial⟩ ?_;refine fw 0 rfl rfl rfl rfl (fi (i:=Int.toNat y6.2) (off:=0) rfl cP (fun _=>rfl) rfl (cT l).2.2 rfl) ⟨rfl,trivial⟩ ?_;obtain⟨Tn,j,h⟩:=aa h;refine fw 0 rfl rfl rfl rfl (be (t:=(.int .i64)) rfl eA cP j) ⟨rfl,rfl,trivial⟩ ?_;refine pr 15 [true,true,false,false,false,true,true,true,true,true,true,true,true,true,true] [48] [] [] rfl (by kernel_rfl) (by kernel_rfl) (by kernel_rfl) fo (fun vs hv hB=>?_);obtain⟨w0,TL,rfl,S7⟩:=ar hv;obtain⟨w1,TK,rfl,S5⟩:=ar S7;obtain⟨w2,TJ,rfl,SZ⟩:=ar S5;obtain⟨w3,TG,rfl,SY⟩:=ar SZ;obtain⟨w4,TF,rfl,SX⟩:=ar SY;obtain⟨w5,TD,rfl,SV⟩:=ar SX;obtain⟨w6,TC,rfl,SU⟩:=ar SV;obtain⟨w7,TB,rfl,SS⟩:=ar SU;obtain⟨w8,TA,rfl,SR⟩:=ar SS;obtain⟨w9,Tj,rfl,X⟩:=ar SR;obtain⟨Tz,Ti,rfl,U⟩:=ar X;obtain⟨Tv,Tf,rfl,Q⟩:=ar U;obtain⟨Tu,Td,rfl,O⟩:=ar Q;obtain⟨Tt,Ta,rfl,M⟩:=ar O;obtain⟨To,S9,rfl,J⟩:=ar M;obtain rfl:=my J;refine⟨[0],[.sl c 3 (.int .i64) y6.1],by kernel_rfl,by decide,?_⟩;refine qT rfl rfl (cX (i:=Int.toNat y6.2) rfl cP rfl (ik j) rfl .int rfl) ⟨rfl,rfl,trivial⟩ (by kernel_rfl) ?_;obtain⟨Tm,e,h⟩:=aa h;refine IV rfl rfl rfl rfl (be (t:=(.int .i64)) rfl eA cP e) ⟨rfl,rfl,trivial⟩ (by kernel_rfl) ?_;refine qT rfl rfl (cX (i:=Int.toNat y) rfl cP rfl (ik e) rfl .int rfl) ⟨rfl,rfl,trivial⟩ (by kernel_rfl) ?_;refine tq ?_;refine bv (SE.fin (Γ':=[(0,.eq c),(1,I a1),(2,I a2),(6,I y2.2),(7,I y6.2)]) (Δ':=[.sl c 3 (.int .i64) (List.set (List.set y6.1 (Int.toNat y6.2) E) (Int.toNat y) D)]) [0] ⟨rfl,rfl,rfl,rfl,rfl,trivial⟩ rfl) ?_;refine aO (tn (ab (mq ?_)));obtain⟨SK,ac,h⟩:=aa h;refine jb (fQ rfl ac) ?_;refine aq (nl ?_);exact jz ((),(List.set (List.set y6.1 (Int.toNat y6.2) E) (Int.toNat y) D,SK)) h [0]
    ·refine dh (aI (aI (bO (bn ?_))));exact jz ((),y6.1) h [0]
  ·refine ab (mq ?_);obtain⟨SJ,Y,h⟩:=aa h;refine jb (bb rfl Y) ?_;refine aq (nl ?_);exact jz ((),(x4,SJ)) h [0]
 ·
  refine dh (aI (aI (bO (jg ?_))));cases h;exact aE () [] 1 trivial rfl
def kY(k:Nat)(a0:Int):Option Int:=
 ((if 4294967296≤a0 then(some (io .u64 a0 32,32)) else(some (a0,0))):Option (Int×Int)).bind fun x1=>
 ((if 65536≤x1.1 then((ck (x1.2+16)).bind fun x5=>
 some (io .u64 x1.1 16,x5)) else(some (x1.1,x1.2))):Option (Int×Int)).bind fun x3=>
 ((if 256≤x3.1 then((ck (x3.2+8)).bind fun x8=>
 some (io .u64 x3.1 8,x8)) else(some (x3.1,x3.2))):Option (Int×Int)).bind fun x6=>
 (Bv J1 (IntKind.u8.wrap x6.1)).bind fun x9=>
 (ck (x9.toNat:Int)).bind fun e=>
 (ck (x6.2+e)).bind fun c=>
 some c
theorem qJ(k:Nat)(a0:Int)(r:Int)(h:kY k a0=some r):
 bZ Tryz.prog 206 [.eq (.int .u64 a0)] [] (fun _:Unit=>(bq [I r],[])):=by
 unfold kY at h
 replace h:=a9 h
 refine bZ.of 25 Tryz.func206 rfl Tryz.ntmps206 rfl fun S w0=>?_
 refine sr ?_
 refine cq ?_
 refine nt ?_
 refine aL (Z:=Unit) (α:=Int×Int) (fun z2 x1=>[(0,.eq (.int .u64 x1.1)),(2,I x1.2)]) (fun z2 x1=>[]) h (fun K h=>?_) (fun z2 x1 h=>?_)
 ·
  refine sr (mq ?_);refine jb (qi rfl) ?_;refine nt (ci h (fun h=>?_) (fun h=>?_))
  ·refine sr (mq ?_);refine aC rfl (uP rfl (by decide)) ⟨rfl,rfl,trivial⟩ ?_;refine aq (nt (ab ?_));refine cq (nl ?_);exact jz ((),(io .u64 a0 32,32)) h []
  ·refine aS (ae ?_);exact jz ((),(a0,0)) h []
 ·
  refine aL (Z:=Unit) (α:=Int×Int) (fun z4 x3=>[(0,.eq (.int .u64 x3.1)),(2,I x3.2)]) (fun z4 x3=>[]) h (fun K h=>?_) (fun z4 x3 h=>?_)
  ·refine sr (mq ?_);refine jb (qi rfl) ?_;refine nt (ci h (fun h=>?_) (fun h=>?_))
   ·refine sr (mq ?_);refine aC rfl (uP rfl (by decide)) ⟨rfl,rfl,trivial⟩ ?_;refine aq (nt (ab ?_));refine mq ?_;obtain⟨x5,n,h⟩:=aa h;refine jb (bb rfl n) ?_;refine aq (nl ?_);exact jz ((),(io .u64 x1.1 16,x5)) h []
   ·refine aS (ae ?_);exact jz ((),(x1.1,x1.2)) h []
  ·refine aL (Z:=Unit) (α:=Int×Int) (fun z7 x6=>[(0,.eq (.int .u64 x6.1)),(2,I x6.2)]) (fun z7 x6=>[]) h (fun K h=>?_) (fun z7 x6 h=>?_)
   ·refine sr (mq ?_);refine jb (qi rfl) ?_;refine nt (ci h (fun h=>?_) (fun h=>?_))
    ·refine sr (mq ?_);refine aC rfl (uP rfl (by decide)) ⟨rfl,rfl,trivial⟩ ?_;refine aq (nt (ab ?_));refine mq ?_;obtain⟨x8,l,h⟩:=aa h;refine jb (bb rfl l) ?_;refine aq (nl ?_);exact jz ((),(io .u64 x3.1 8,x8)) h []
    ·refine aS (ae ?_);exact jz ((),(x3.1,x3.2)) h []
   ·refine sr ?_;iterate 2 refine mq ?_
    refine ja (oN rfl Q0 U5) ?_;obtain⟨x9,j,h⟩:=aa h;refine ja (zj rfl U9 j) ?_;obtain⟨u,e,h⟩:=aa h;refine ja (zk rfl U5 U3 e) ?_;obtain⟨s,c,h⟩:=aa h;refine jb (bb rfl c) ?_;refine aq (nt (aA ?_));cases h;exact ra
def yi(k:Nat)(a0:Int):Option Int:=
 (kY k a0).bind fun r1=>
 some r1
theorem BR(k:Nat)(a0:Int)(r:Int)(h:yi k a0=some r):
 bZ Tryz.prog 185 [.eq (.int .u64 a0)] [] (fun _:Unit=>(bq [I r],[])):=by
 unfold yi at h
 replace h:=a9 h
 refine bZ.of 8 Tryz.func185 rfl Tryz.ntmps185 rfl fun S w0=>?_
 refine sr ?_
 refine cq ?_
 refine nt ?_
 refine ag ?_
 refine I3 (fun hb=>(by cases hb)) (fun hb=>?_)
 refine sk ?_
 refine sr ?_
 refine mq ?_
 obtain⟨r1,c,h⟩:=aa h
 have e:=qJ k a0 r1 c
 refine ja (ak [.tmp 6] rfl rfl P2 rfl e) ?_
 refine aq ?_
 refine nt ?_
 refine aA ?_
 cases h
 exact ra
def fC(k:Nat)(a0:(List Int))(a1:Int)(a2:Int)(a3:Int):Nat→Unit→Option (List Int)
 |0,_=>none
 |n+1,y1=>
  (ck (a2 - a1)).bind fun x3=>
  if x3≤12 then((eI k a0 a1 a2).bind fun r4=>
  some r4) else(if a3=0 then(none) else(none))
def gW(k:Nat)(a0:(List Int))(a1:Int)(a2:Int)(a3:Int):Option (List Int):=
 fC k a0 a1 a2 a3 k ()
theorem mb(k:Nat)(a0:(List Int))(c:Value)(a1:Int)(a2:Int)(a3:Int)(r:(List Int))(h:gW k a0 a1 a2 a3=some r):
 bZ Tryz.prog 184 [.eq c,I a1,I a2,I a3] [.sl c 3 (.int .i64) a0] (fun _:Unit=>(bq [],[.sl c 3 (.int .i64) r])):=by
 unfold gW at h
 replace h:=a9 h
 refine bZ.of 134 Tryz.func184 rfl Tryz.ntmps184 rfl fun S w0=>?_
 refine sr ?_
 refine cq ?_
 refine nt ?_
 refine sr ?_
 refine cq ?_
 refine nt ?_
 refine aj ?_
 refine aG (fun z2 y1=>[(0,.eq c),(1,I a1),(2,I a2),(3,I a3),(8,.eq (.bool true)),(9,.eq (.bool true))]) (fun z2 y1=>[.sl c 3 (.int .i64) a0]) (fC k a0 a1 a2 a3) k () () (fun _=>rfl) h (SE.fin [0] ⟨rfl,rfl,rfl,rfl,rfl,rfl,trivial⟩ rfl) (fun n z2 y1 h=>?_)
 unfold fC at h
 refine aj ?_
 refine sr ?_
 iterate 2 refine mq ?_
 obtain⟨x3,e,h⟩:=aa h
 refine jb (fQ rfl e) ?_
 refine aq ?_
 refine nt ?_
 refine ag ?_
 refine sr ?_
 refine mq ?_
 refine jb (uS rfl) ?_
 refine nt ?_
 refine ci h (fun h=>?_) (fun h=>?_)
 ·
  refine sr ?_;iterate 3 refine mq ?_
  obtain⟨r4,j,h⟩:=aa h;refine kc (ak [.tmp 24,.tmp 25,.tmp 26] rfl rfl P4 rfl (jW k a0 c a1 a2 r4 j)) ?_;refine nt (rx (ba (aP (ba ?_))));cases h;exact aE () [] 1 trivial rfl
 ·
  refine sk (ag (sr (mq ?_)));refine jb (dr rfl) ?_;refine nt (ci h (fun h=>?_) (fun h=>?_))
  ·refine sr ?_;iterate 3 refine mq ?_
   cases h
  ·refine sk (ag (sr (mq ?_)));refine ja (d5 rfl) ?_;refine nt (bL rfl (fun hb=>(by cases hb)) (fun hb=>?_));refine sk (sr ?_);iterate 3 refine mq ?_
   cases h
def nE(k:Nat)(a0:(List Int)):Option (List Int):=
 (yi k (IntKind.u64.wrap (a0.length:Int))).bind fun r1=>
 (gW k a0 0 (a0.length:Int) r1).bind fun r2=>
 some r2
theorem tR(k:Nat)(a0:(List Int))(c:Value)(r:(List Int))(h:nE k a0=some r):
 bZ Tryz.prog 145 [.eq c] [.sl c 3 (.int .i64) a0] (fun _:Unit=>(bq [],[.sl c 3 (.int .i64) r])):=by
 unfold nE at h
 replace h:=a9 h
 refine bZ.of 11 Tryz.func145 rfl Tryz.ntmps145 rfl fun S w0=>?_
 refine sr ?_
 refine mq ?_
 refine ka (cZ rfl rfl eA) ?_
 refine aq ?_
 refine nt ?_
 refine ab ?_
 iterate 3 refine mq ?_
 refine ja (oN rfl U3 RR) ?_
 obtain⟨r1,j,h⟩:=aa h
 have n:=BR k (IntKind.u64.wrap (a0.length:Int)) r1 j
 refine ja (ak [.tmp 8] rfl rfl P6 rfl n) ?_
 obtain⟨r2,e,h⟩:=aa h
 have l:=mb k a0 c 0 (a0.length:Int) r1 r2 e
 refine bV rfl rfl rfl (ak [.tmp 5,.const (.int .i64 (0)),.tmp 6,.tmp 9] rfl rfl P7 rfl l) ⟨rfl,rfl,rfl,rfl,trivial⟩ ?_
 refine ao ?_
 refine jg ?_
 cases h
 exact aE () [] 1 trivial rfl
def ix(k:Nat)(a0:(List Int)):Option (List Int):=
 (kX k a0).bind fun r1=>
 (nE k r1).bind fun r3=>
 some r3
theorem rm(k:Nat)(a0:(List Int))(c:Nat)(r:(List Int))(h:ix k a0=some r):
 bZ Tryz.prog 108 [.eq (.func (.func 146) #[] #[(Pv c)])] [.obj c 23 (Ri a0)] (fun _:Unit=>(bq [Ri r],[.obj c 23 (Ri a0)])):=by
 unfold ix at h
 replace h:=a9 h
 refine bZ.of 9 Tryz.func108 rfl Tryz.ntmps108 rfl fun S w0=>?_
 refine sr ?_
 refine cq ?_
 refine nt ?_
 refine sr ?_
 refine mq ?_
 obtain⟨r1,j,h⟩:=aa h
 have n:=qy k a0 c r1 j
 refine bJ (Δ:=[_]) (F:=_) (fun _ _ _=>av rfl _) rfl rfl (ak [.tmp 4] rfl rfl Qf rfl n) ⟨rfl,trivial⟩ fun z2=>?_
 refine aq ?_
 refine nt ?_
 refine sr ?_
 refine mq ?_
 obtain⟨r3,e,h⟩:=aa h
 have l:=tR k r1 z2 r3 e
 refine ka (ak [.tmp 6] rfl rfl Qe rfl l) ?_
 refine nt ?_
 refine sr ?_
 refine mq ?_
 refine aq ?_
 refine nt ?_
 refine aA ?_
 refine bv (f9 [2,3,5,6,8] ⟨rfl,rfl,rfl,rfl,rfl,trivial⟩) ?_
 cases h
 exact aE () [_] 1 ⟨rfl,trivial⟩ rfl
theorem rj(a0:(List Int)):bZ Tryz.prog 109 [Ri a0] [] (fun z:Nat=>(bq [.eq (.func (.func 146) #[] #[(Pv z)])],[.obj z 23 (Ri a0)])):=by
 refine bZ.of 4 Tryz.func109 rfl Tryz.ntmps109 rfl fun S w0=>?_;refine sr (bx fun z=>?_);refine cq (nt (sr ?_));refine ja (sM [] [.tmp 1] [] [(Pv z)] rfl rfl rfl) ?_;refine aq (nt (aA ?_));exact aE z [_] 1 ⟨rfl,trivial⟩ rfl
def dW{σ:Type}(k:Nat)(a0:(List (List Int)))(a1:Int)(a2:Int)(a3:dk)(self:(List (List Int))→Int→Int→σ→Option (Bool×σ))(h:(List Int)):Nat→(Int×σ)→Option (Except (Bool×σ) (σ))
 |0,_=>none
 |n+1,c=>
  if c.1 < (a3.1.2.1.length:Int) then(bE (α:=σ) ((aZ a3.1.2.1 c.1).bind fun y=>
  (((d3 k a2 c.1).bind fun I=>
  if I=true then(some (true,c.2)) else((mU k a3.1 h).bind fun F=>
  (ck (F+y.1)).bind fun x=>
  (aZ a3.1.2.2 a1).bind fun u=>
  some (decide (u < x),c.2))):Option (Bool×σ)).bind fun j=>
  if j.1=true then(some (.ok j.2)) else((ek (0≤a1∧a1 < 3)).bind fun _=>
  (aZ a0 a1).bind fun s=>
  (ek (0≤(h.length:Int)∧(h.length:Int) < 5)).bind fun _=>
  (eR k a2 c.1).bind fun E=>
  (self (List.set a0 (Int.toNat a1) (List.set s (Int.toNat (h.length:Int)) c.1)) a1 E j.2).bind fun l=>
  if¬(l.1=true) then(some (.error (false,l.2))) else(some (.ok l.2)))) (fun e=>some (.error e)) fun D=>
  (ck (c.1+1)).bind fun r=>
  dW k a0 a1 a2 a3 self h n (r,D)) else(some (.ok c.2))
def cY{σ:Type}(k:Nat)(Y:σ→(List (List Int))→Option (σ×Bool))(a3:dk):Nat→(List (List Int))→Int→Int→σ→Option (Bool×σ)
 |0,_,_,_,_=>none
 |m0+1,a0,a1,a2,s0=>
  if a1=(a3.1.2.2.length:Int) then((((ek (0≤(a3.1.2.1.length:Int))).bind fun _=>
  if¬(a2=(IntKind.u8.wrap ((ni .u8 1 (a3.1.2.1.length:Int)) - 1))) then(some (true,s0)) else((Y s0 a0).bind fun r5=>
  some (r5.2,r5.1))):Option (Bool×σ)).bind fun x2=>
  some (x2.1,x2.2)) else((ck (a1+1)).bind fun x7=>
  ((cY k Y a3 m0) a0 x7 a2 s0).bind fun r8=>
  if¬(r8.1=true) then(some (false,r8.2)) else((dX k a0 a1).bind fun e=>
  bE (α:=σ) (dW k a0 a1 a2 a3 (cY k Y a3 m0) e k (0,r8.2)) (some) fun c=>
  some (true,c)))
theorem mG{M:Md Tryz.prog}{σ Z:Type}(E:Z→σ→List D)(l:Nat)(Y:σ→(List (List Int))→Option (σ×Bool))(k:Nat)(a3:dk)(u:Nat)(x:Nat)(c:Nat)(hY:∀z s p r,Y s p=some r→YT M l [.rep (.arr 3 (.arr 5 (.int .i64))) p] (E z s) (fun z':Z=>(.eq (.bool r.2),E z' r.1))):
 ∀(n:Nat) (a0:(List (List Int))) (a1:Int) (a2:Int) (z0:Z) (s0:σ) (r:Bool×σ),cY k Y a3 n a0 a1 a2 s0=some r→dC M 149 [.rep (.arr 3 (.arr 5 (.int .i64))) a0,I a1,.eq (.int .u8 a2),Pt u,Pt x,Pt c] ([.obj u 102 (.at bM a3),.obj x 210 (.eq (.func (.yield l) #[] #[])),.obj c 211 (.eq (.func (.func 149) #[] #[(Pv u),(Pv x),(Pv c)]))]++E z0 s0) (fun z:Z=>(bq [.eq (.bool r.1)],[.obj u 102 (.at bM a3),.obj x 210 (.eq (.func (.yield l) #[] #[])),.obj c 211 (.eq (.func (.func 149) #[] #[(Pv u),(Pv x),(Pv c)]))]++E z r.2)):=by
 intro n
 induction n with
 |zero=>intro a0 a1 a2 z0 s0 r h;cases h
 |succ m0 ih=>
  intro a0 a1 a2 z0 s0 r h;rw [cY] at h;replace h:=a9 h;refine dC.of 97 Tryz.func149 rfl Tryz.ntmps149 rfl fun S w0=>?_;refine sr (bx fun b1=>?_);refine cq (nt (ag (sr ?_)));refine mq ?_;refine fr 1 ?_;refine lo rf ?_;refine ja (dM rfl) ?_;refine ja (aM 3 true rfl jT rfl) ?_;refine ja (aM 1 false rfl fD rfl) ?_;refine ja (an (t:=(.slice (.int .i64))) rfl bW rfl) ?_;refine ol eA ?_;refine jb (dr rfl) ?_;refine nt (ci h (fun h=>?_) (fun h=>?_))
  ·refine aL (Z:=Z) (α:=Bool×σ) (fun z3 x2=>[(9,.eq (.bool x2.1))]) (fun z3 x2=>[.obj u 102 (.at bM a3),.obj x 210 (.eq (.func (.yield l) #[] #[])),.obj c 211 (.eq (.func (.func 149) #[] #[(Pv u),(Pv x),(Pv c)]))]++E z3 x2.2) h (fun K h=>?_) (fun z3 x2 h=>?_)
   ·refine ab (mq ?_);refine lo rf ?_;refine ja (dM rfl) ?_;refine ja (aM 3 true rfl jT rfl) ?_;refine ja (aM 1 false rfl eM rfl) ?_;refine ja (an (t:=(.slice cU)) rfl kW rfl) ?_;refine ol tp ?_;obtain⟨u4,Tm,h⟩:=aa h;refine jb (Gq rfl (aD Tm)) ?_;refine jb (Gn rfl) ?_;refine jb (ge rfl) ?_;refine mq ?_;refine bC (s:=32) rfl (fun hb=>?_) (fun hb=>?_)
    ·replace h:=cp (JY hb) h;iterate 3 refine gn ?_
     refine pt ?_;refine aq (nl ?_);exact fX (z0,(true,s0)) h (aQ [.obj u 102 (.at bM a3),.obj b1 107 (.rep (.arr 3 (.arr 5 (.int .i64))) a0),.obj x 210 (.eq (.func (.yield l) #[] #[])),.obj c 211 (.eq (.func (.func 149) #[] #[(Pv u),(Pv x),(Pv c)]))] (E z0 s0) [0,2,3] ⟨rfl,trivial⟩ rfl)
    ·replace h:=bH (xH hb) h;refine fr 2 ?_;refine jV rfl rfl rfl rfl rfl rfl (ap rfl OW mP rfl) ⟨rfl,trivial⟩ ?_;refine fr 2 ?_;refine jV rfl rfl rfl rfl rfl rfl (ap rfl di (xG) rfl) ⟨rfl,trivial⟩ ?_;obtain⟨r5,To,h⟩:=aa h;refine fr 3 ?_;refine fr 3 ?_;refine fr 3 ?_;refine fr 3 ?_;refine E4 [.obj b1 107 (.rep (.arr 3 (.arr 5 (.int .i64))) a0),.obj x 210 (.eq (.func (.yield l) #[] #[])),.obj u 102 (.at bM a3),.obj c 211 (.eq (.func (.func 149) #[] #[(Pv u),(Pv x),(Pv c)]))] rfl rfl rfl rfl rfl rfl (xu [.tmp 34] rfl rfl rfl (hY z0 s0 a0 r5 To)) ⟨rfl,rfl,trivial⟩ fun z6=>?_;refine pf ?_;refine aq (nl ?_);exact fX (z6,(r5.2,r5.1)) h (aQ [.obj b1 107 (.rep (.arr 3 (.arr 5 (.int .i64))) a0),.obj x 210 (.eq (.func (.yield l) #[] #[])),.obj u 102 (.at bM a3),.obj c 211 (.eq (.func (.func 149) #[] #[(Pv u),(Pv x),(Pv c)]))] (E z6 r5.1) [2,1,3] ⟨rfl,trivial⟩ rfl)
   ·refine rx ?_;cases h;exact iP z3 [_] ⟨rfl,trivial⟩ rfl
  ·refine sk (ag (sr (fr 3 ?_)));refine lo Cf ?_;refine fr 2 ?_;refine lo di ?_;refine mq ?_;obtain⟨x7,Tj,h⟩:=aa h;refine jb (bb rfl Tj) ?_;refine mq ?_;obtain⟨r8,Tn,h⟩:=aa h;refine fr 1 ?_;refine fr 3 ?_;refine fr 3 ?_;refine fr 3 ?_;refine pq [.obj b1 107 (.rep (.arr 3 (.arr 5 (.int .i64))) a0)] rfl rfl rfl (oO (fs:=[]) (cs:=[(Pv u),(Pv x),(Pv c)]) (ags:=[.rep (.arr 3 (.arr 5 (.int .i64))) a0,I x7,.eq (.int .u8 a2)]) [.tmp 38,.tmp 40,.tmp 41] rfl rfl Ir rfl (ih a0 x7 a2 z0 s0 r8 Tn)) ⟨rfl,rfl,rfl,rfl,trivial⟩ fun z9=>?_;refine ja (d5 rfl) ?_;refine nt (cw h (fun h=>?_) (fun h=>?_))
   ·refine sr (cq (nt (rx ?_)));refine bv (aQ (Γ':=[(9,_)]) [.obj b1 107 (.rep (.arr 3 (.arr 5 (.int .i64))) a0),.obj u 102 (.at bM a3),.obj x 210 (.eq (.func (.yield l) #[] #[])),.obj c 211 (.eq (.func (.func 149) #[] #[(Pv u),(Pv x),(Pv c)]))] (E z9 r8.2) [1,2,3] ⟨rfl,trivial⟩ rfl) ?_;cases h;exact iP z9 [_] ⟨rfl,trivial⟩ rfl
   ·refine sk (sr (lo di ?_));refine mq ?_;obtain⟨F,S7,h⟩:=aa h;refine jb (ak [.tmp 44,.tmp 45] rfl rfl Dc rfl (gl k a0 a1 F S7)) ?_;refine aq (nt ?_);refine dA (Z:=Z) (α:=σ) (fun qt SK=>[]) (fun qt SK=>[.obj u 102 (.at bM a3),.obj x 210 (.eq (.func (.yield l) #[] #[])),.obj c 211 (.eq (.func (.func 149) #[] #[(Pv u),(Pv x),(Pv c)]))]++E qt SK) (fun e=>e=r) h (fun e h=>Option.some.inj h) (fun K hR h=>?_) (fun qt SK h=>?_)
    ·refine sr (fr 1 ?_);refine lo rf ?_;refine ja (dM rfl) ?_;refine ja (aM 3 true rfl jT rfl) ?_;refine ja (aM 1 false rfl eM rfl) ?_;refine ja (an (t:=(.slice cU)) rfl kW rfl) ?_;refine ol tp ?_;refine fg rfl ?_;refine nt (aj (aG (Z:=Z) (α:=Int×σ) (fun J y=>[(1,I a1),(2,.eq (.int .u8 a2)),(3,Pt u),(5,Pt c),(6,Pt b1),(10,Ri F),(51,Rs cU a3.1.2.1),(52,I (a3.1.2.1.length:Int)),(53,I y.1)]) (fun J y=>[.obj u 102 (.at bM a3),.obj c 211 (.eq (.func (.func 149) #[] #[(Pv u),(Pv x),(Pv c)])),.obj x 210 (.eq (.func (.yield l) #[] #[])),.obj b1 107 (.rep (.arr 3 (.arr 5 (.int .i64))) a0)]++E J y.2) (dW k a0 a1 a2 a3 (cY k Y a3 m0) F) k z9 (0,r8.2) (fun _=>rfl) h (aQ [.obj u 102 (.at bM a3),.obj b1 107 (.rep (.arr 3 (.arr 5 (.int .i64))) a0),.obj x 210 (.eq (.func (.yield l) #[] #[])),.obj c 211 (.eq (.func (.func 149) #[] #[(Pv u),(Pv x),(Pv c)]))] (E z9 r8.2) [0,3,2,1] ⟨rfl,rfl,rfl,rfl,rfl,rfl,rfl,rfl,rfl,trivial⟩ rfl) (fun n J y h=>?_)));unfold dW at h;refine sr (jb (bm rfl) ?_);refine nt (ag (ci h (fun h=>?_) (fun h=>?_)))
     ·refine sk (dA (Z:=Z) (α:=σ) (fun X mc=>[(1,I a1),(2,.eq (.int .u8 a2)),(3,Pt u),(5,Pt c),(6,Pt b1),(10,Ri F),(51,Rs cU a3.1.2.1),(52,I (a3.1.2.1.length:Int)),(53,I y.1)]) (fun X mc=>[.obj u 102 (.at bM a3),.obj c 211 (.eq (.func (.func 149) #[] #[(Pv u),(Pv x),(Pv c)])),.obj x 210 (.eq (.func (.yield l) #[] #[])),.obj b1 107 (.rep (.arr 3 (.arr 5 (.int .i64))) a0)]++E X mc) (fun e=>e=r) h (fun e h=>hR e h) (fun K hR h=>?_) (fun X mc h=>?_))
      ·refine aj (sr (mq ?_));obtain⟨SO,SV,h⟩:=aa h;refine jb (aH (t:=cU) rfl tp ot SV) ?_;refine ja (an (t:=cU) rfl ot rfl) ?_;refine aF rfl rfl rfl (bR rfl wZ K1) trivial fun S8=>?_;refine aq ?_;refine bi rfl rfl (bh rfl ot rfl rfl rfl) ⟨rfl,rfl,trivial⟩ ?_;refine nt (ag (aL (Z:=Z) (α:=Bool×σ) (fun U O=>[(1,I a1),(2,.eq (.int .u8 a2)),(3,Pt u),(5,Pt c),(6,Pt b1),(10,Ri F),(11,I y.1),(51,Rs cU a3.1.2.1),(52,I (a3.1.2.1.length:Int)),(53,I y.1),(80,.eq (.bool O.1))]) (fun U O=>[.obj u 102 (.at bM a3),.obj c 211 (.eq (.func (.func 149) #[] #[(Pv u),(Pv x),(Pv c)])),.obj x 210 (.eq (.func (.yield l) #[] #[])),.obj b1 107 (.rep (.arr 3 (.arr 5 (.int .i64))) a0)]++E U O.2) h (fun K h=>?_) (fun U O h=>?_)))
       ·refine cy ?_;refine dm ?_;refine dm ?_;obtain⟨Ti,S5,h⟩:=aa h;refine db (ak [.tmp 58,.tmp 59] rfl rfl KL rfl (iq k a2 y.1 Ti S5)) ?_;refine uc rfl rfl rfl (aW rfl) ⟨rfl,trivial⟩ (fun hb=>?_) (fun hb=>?_)
        ·replace h:=cp (DK hb) h;iterate 17 refine dg ?_
         refine df fo ?_;refine gn ?_;refine pt (nl ?_);exact fX (J,(true,y.2)) h (aQ [.obj S8 27 (.rep cU SO),.obj u 102 (.at bM a3),.obj c 211 (.eq (.func (.func 149) #[] #[(Pv u),(Pv x),(Pv c)])),.obj x 210 (.eq (.func (.yield l) #[] #[])),.obj b1 107 (.rep (.arr 3 (.arr 5 (.int .i64))) a0)] (E J y.2) [1,2,3,4] ⟨rfl,rfl,rfl,rfl,rfl,rfl,rfl,rfl,rfl,rfl,rfl,trivial⟩ rfl)
        ·replace h:=bH (DL hb) h;refine mC 1 rfl rfl rfl rfl rfl rfl (ap rfl rf mP rfl) ⟨rfl,rfl,trivial⟩ ?_;refine cr rfl rfl rfl rfl rfl (dM rfl) ⟨rfl,rfl,trivial⟩ ?_;refine cr rfl rfl rfl rfl rfl (aM 3 true rfl jT rfl) ⟨rfl,rfl,trivial⟩ ?_;refine cr rfl rfl rfl rfl rfl (an (t:=aB) rfl fK rfl) ⟨rfl,rfl,trivial⟩ ?_;refine cr rfl rfl rfl rfl rfl (aW rfl) ⟨rfl,rfl,trivial⟩ ?_;obtain⟨Tf,SZ,h⟩:=aa h;refine cr rfl rfl rfl rfl rfl (ak [.tmp 65,.tmp 66] rfl rfl LR rfl (tz k a3.1 F Tf SZ)) ⟨rfl,rfl,rfl,trivial⟩ ?_;refine cr rfl rfl rfl rfl rfl (aw rfl o6) ⟨rfl,rfl,trivial⟩ ?_;refine mC 0 rfl rfl rfl rfl rfl rfl (ap rfl cP mP rfl) ⟨rfl,rfl,trivial⟩ ?_;obtain⟨Td,SU,h⟩:=aa h;refine cr rfl rfl rfl rfl rfl (bb rfl SU) ⟨rfl,rfl,rfl,trivial⟩ ?_;refine mC 1 rfl rfl rfl rfl rfl rfl (ap rfl rf mP rfl) ⟨rfl,rfl,trivial⟩ ?_;refine cr rfl rfl rfl rfl rfl (dM rfl) ⟨rfl,rfl,trivial⟩ ?_;refine cr rfl rfl rfl rfl rfl (aM 3 true rfl jT rfl) ⟨rfl,rfl,trivial⟩ ?_;refine cr rfl rfl rfl rfl rfl (aM 1 false rfl fD rfl) ⟨rfl,rfl,trivial⟩ ?_;refine cr rfl rfl rfl rfl rfl (an (t:=(.slice (.int .i64))) rfl bW rfl) ⟨rfl,rfl,trivial⟩ ?_;refine cr rfl rfl rfl rfl rfl (aW rfl) ⟨rfl,rfl,trivial⟩ ?_;obtain⟨Ta,SS,h⟩:=aa h;refine cr rfl rfl rfl rfl rfl (aH (t:=(.int .i64)) rfl eA cP SS) ⟨rfl,rfl,rfl,trivial⟩ ?_;refine cr rfl rfl rfl rfl rfl (an (t:=(.int .i64)) rfl cP rfl) ⟨rfl,rfl,trivial⟩ ?_;refine df fo ?_;refine gb (jZ rfl) ?_;refine pf (nl ?_);exact fX (J,(decide (Ta < Td),y.2)) h (aQ [.obj S8 27 (.rep cU SO),.obj u 102 (.at bM a3),.obj c 211 (.eq (.func (.func 149) #[] #[(Pv u),(Pv x),(Pv c)])),.obj x 210 (.eq (.func (.yield l) #[] #[])),.obj b1 107 (.rep (.arr 3 (.arr 5 (.int .i64))) a0)] (E J y.2) [1,2,3,4] ⟨rfl,rfl,rfl,rfl,rfl,rfl,rfl,rfl,rfl,rfl,rfl,trivial⟩ rfl)
       ·refine cv h (fun h=>?_) (fun h=>?_)
        ·refine dh (aI (bO (ae ?_)));exact fX (U,O.2) h (aQ [.obj u 102 (.at bM a3),.obj c 211 (.eq (.func (.func 149) #[] #[(Pv u),(Pv x),(Pv c)])),.obj x 210 (.eq (.func (.yield l) #[] #[])),.obj b1 107 (.rep (.arr 3 (.arr 5 (.int .i64))) a0)] (E U O.2) [0,1,2,3] ⟨rfl,rfl,rfl,rfl,rfl,rfl,rfl,rfl,rfl,trivial⟩ rfl)
        ·refine sk (sr (fr 3 ?_));refine lo di ?_;refine aF rfl rfl rfl (bR rfl mQ nr) trivial fun SN=>?_;refine bi rfl rfl (bh rfl di rfl rfl rfl) ⟨rfl,rfl,trivial⟩ ?_;refine nt (sr ?_);iterate 2 refine mq ?_
         refine ol eA ?_;refine mq ?_;obtain⟨Tu,SJ,h⟩:=aa h;refine jb (iD rfl K7 yV (aD SJ).1 (aD SJ).2) ?_;obtain⟨ac,SR,h⟩:=aa h;obtain⟨Tt,Q,h⟩:=aa h;refine jb (iD rfl K8 cP (aD Q).1 (aD Q).2) ?_;refine bi rfl rfl (nK (t:=(.int .i64)) (off:=0) (i:=a1) (j:=(F.length:Int)) (N:=3) (L:=5) rfl cP .int rfl rfl rfl rfl SR (aD Q).1 (aD Q).2 rfl) ⟨rfl,rfl,trivial⟩ ?_;refine nt (ag (cy ?_));refine ea 3 (ap rfl Cf mP rfl) ?_;refine ea 0 (ap rfl di (xG) rfl) ?_;refine dm ?_;refine dm ?_;refine dm ?_;obtain⟨SL,SY,h⟩:=aa h;refine db (ak [.tmp 91,.tmp 92] rfl rfl Db rfl (jj k a2 y.1 SL SY)) ?_;refine df fo ?_;obtain⟨se,SX,h⟩:=aa h;refine fr 3 ?_;refine fr 4 ?_;refine fr 4 ?_;refine fr 4 ?_;refine fr 4 ?_;refine pq [.obj SN 107 (.rep (.arr 3 (.arr 5 (.int .i64))) (List.set a0 (Int.toNat a1) (List.set ac (Int.toNat (F.length:Int)) y.1))),.obj b1 107 (.rep (.arr 3 (.arr 5 (.int .i64))) a0)] rfl rfl rfl (oO (fs:=[]) (cs:=[(Pv u),(Pv x),(Pv c)]) (ags:=[.rep (.arr 3 (.arr 5 (.int .i64))) (List.set a0 (Int.toNat a1) (List.set ac (Int.toNat (F.length:Int)) y.1)),I a1,.eq (.int .u8 SL)]) [.tmp 89,.tmp 90,.tmp 93] rfl rfl Ir rfl (ih (List.set a0 (Int.toNat a1) (List.set ac (Int.toNat (F.length:Int)) y.1)) a1 SL U O.2 se SX)) ⟨rfl,rfl,rfl,rfl,trivial⟩ fun pp=>?_;refine ja (d5 rfl) ?_;refine nt (cw h (fun h=>?_) (fun h=>?_))
         ·refine sr (cq (nt (aA (br (ba (aP ?_))))));refine bv (aQ (Γ':=[(9,_)]) [.obj SN 107 (.rep (.arr 3 (.arr 5 (.int .i64))) (List.set a0 (Int.toNat a1) (List.set ac (Int.toNat (F.length:Int)) y.1))),.obj b1 107 (.rep (.arr 3 (.arr 5 (.int .i64))) a0),.obj u 102 (.at bM a3),.obj x 210 (.eq (.func (.yield l) #[] #[])),.obj c 211 (.eq (.func (.func 149) #[] #[(Pv u),(Pv x),(Pv c)]))] (E pp se.2) [2,3,4] ⟨rfl,trivial⟩ rfl) ?_;obtain rfl:=hR _ h;exact iP pp [_] ⟨rfl,trivial⟩ rfl
         ·refine aS (bn ?_);exact fX (pp,se.2) h (aQ [.obj SN 107 (.rep (.arr 3 (.arr 5 (.int .i64))) (List.set a0 (Int.toNat a1) (List.set ac (Int.toNat (F.length:Int)) y.1))),.obj b1 107 (.rep (.arr 3 (.arr 5 (.int .i64))) a0),.obj u 102 (.at bM a3),.obj x 210 (.eq (.func (.yield l) #[] #[])),.obj c 211 (.eq (.func (.func 149) #[] #[(Pv u),(Pv x),(Pv c)]))] (E pp se.2) [2,4,3,1] ⟨rfl,rfl,rfl,rfl,rfl,rfl,rfl,rfl,rfl,trivial⟩ rfl)
      ·refine ab ?_;obtain⟨S9,SQ,h⟩:=aa h;refine jb (bb rfl SQ) ?_;refine mq (nl ?_);exact fX (X,(S9,mc)) h (aQ [.obj u 102 (.at bM a3),.obj c 211 (.eq (.func (.func 149) #[] #[(Pv u),(Pv x),(Pv c)])),.obj x 210 (.eq (.func (.yield l) #[] #[])),.obj b1 107 (.rep (.arr 3 (.arr 5 (.int .i64))) a0)] (E X mc) [0,1,2,3] ⟨rfl,rfl,rfl,rfl,rfl,rfl,rfl,rfl,rfl,trivial⟩ rfl)
     ·refine xa ?_;exact fX (J,y.2) h (aQ [.obj u 102 (.at bM a3),.obj c 211 (.eq (.func (.func 149) #[] #[(Pv u),(Pv x),(Pv c)])),.obj x 210 (.eq (.func (.yield l) #[] #[])),.obj b1 107 (.rep (.arr 3 (.arr 5 (.int .i64))) a0)] (E J y.2) [0,2,1] trivial rfl)
    ·refine sr (cq (nt (aA ?_)));cases h;exact iP qt [_] ⟨rfl,trivial⟩ rfl
def iV{σ:Type}(k:Nat)(Y:σ→(List (List Int))→Option (σ×Bool))(a1:dk)(s0:σ):Option (σ):=
 (dn k ([]:(List (List Int)))).bind fun r2=>
 (cY k Y a1 k r2 0 0 s0).bind fun r5=>
 some r5.2
theorem nC{M:Md Tryz.prog}{σ Z:Type}(E:Z→σ→List D)(l:Nat)(Y:σ→(List (List Int))→Option (σ×Bool))(k:Nat)(a1:dk)(c:Nat)(hY:∀z s p r,Y s p=some r→YT M l [.rep (.arr 3 (.arr 5 (.int .i64))) p] (E z s) (fun z':Z=>(.eq (.bool r.2),E z' r.1))):
 ∀(z0:Z) (s0:σ) (r:σ),iV k Y a1 s0=some r→dC M 148 [.eq (.func (.yield l) #[] #[]),Pt c] ([.obj c 102 (.at bM a1)]++E z0 s0) (fun z:Z=>(bq [],[.obj c 102 (.at bM a1)]++E z r)):=by
 intro z0 s0 r h
 unfold iV at h
 replace h:=a9 h
 refine dC.of 10 Tryz.func148 rfl Tryz.ntmps148 rfl fun S w0=>?_
 refine sr ?_
 refine bx fun b1=>?_
 refine nt ?_
 refine sr ?_
 obtain⟨r2,j,h⟩:=aa h
 have u:=d4 k ([]:(List (List Int))) r2 j
 refine ja (dz (N:=[(.const (.slice none 0 0),.eq (.slice none 0 0))]) (ak [.const (.slice none 0 0)] rfl rfl BJ rfl u) fun _ _ _ hn=>⟨(jG (t:=(.slice (.slice (.int .i64)))) (x:=([]:(List (List Int)))) .nil rfl rfl hn.1),trivial⟩) ?_
 refine aF rfl rfl rfl (bR rfl mQ nr) trivial fun b3=>?_
 refine bi rfl rfl (bh rfl di rfl rfl rfl) ⟨rfl,rfl,trivial⟩ ?_
 refine nt ?_
 refine sr ?_
 refine aF rfl rfl rfl (bR rfl OC QA) trivial fun b4=>?_
 refine nt ?_
 refine sr ?_
 refine jc (sM [] [.tmp 1,.tmp 2,.tmp 4] [] [(Pv c),(Pv b1),(Pv b4)] rfl rfl rfl) ?_
 refine bi rfl rfl (bh rfl Cf rfl rfl rfl) ⟨rfl,rfl,trivial⟩ ?_
 refine nt ?_
 refine ab ?_
 refine lo Cf ?_
 refine fr 1 ?_
 refine lo di ?_
 obtain⟨r5,e,h⟩:=aa h
 have n:=mG E l Y k a1 c b1 b4 hY k r2 0 0 z0 s0 r5 e
 refine fr 1 ?_
 refine fr 2 ?_
 refine fr 3 ?_
 refine fr 3 ?_
 refine pq [.obj b3 107 (.rep (.arr 3 (.arr 5 (.int .i64))) r2)] rfl rfl rfl (oO (fs:=[]) (cs:=[(Pv c),(Pv b1),(Pv b4)]) (ags:=[.rep (.arr 3 (.arr 5 (.int .i64))) r2,I 0,.eq (.int .u8 0)]) [.tmp 8,.const (.int .i64 (0)),.const (.int .u8 (0))] rfl rfl Ir rfl n) ⟨rfl,rfl,rfl,rfl,trivial⟩ fun z6=>?_
 refine ao ?_
 refine jg ?_
 refine bv (aQ (Γ':=[]) [.obj b3 107 (.rep (.arr 3 (.arr 5 (.int .i64))) r2),.obj c 102 (.at bM a1),.obj b1 210 (.eq (.func (.yield l) #[] #[])),.obj b4 211 (.eq (.func (.func 149) #[] #[(Pv c),(Pv b1),(Pv b4)]))] (E z6 r5.2) [1] trivial rfl) ?_
 cases h
 exact iP z6 [] trivial rfl
def jv(k:Nat)(a1:dk):Option (List (List (List Int))):=
 (iV k (qh (fun(y2:(List (List (List Int)))) (p4:(List (List Int)))=>
  (ek (bT (List.length y2+List.length [p4]))).bind fun _=>
  some (y2++[p4],true))) a1 (([]:(List (List (List Int)))),false)).bind fun r5=>
 if r5.2=true then(none) else(some r5.1)
theorem ov(k:Nat)(a1:dk)(c:Nat)(r:(List (List (List Int))))(h:jv k a1=some r):
 bZ Tryz.prog 147 [.eq (.slice none 0 0),.eq (.func (.func 148) #[] #[(Pv c)])] [.obj c 102 (.at bM a1)] (fun z:Value=>(bq [.eq z],[.sl z 107 (.arr 3 (.arr 5 (.int .i64))) r,.obj c 102 (.at bM a1)])):=by
 unfold jv at h
 replace h:=a9 h
 refine yv 13 Tryz.func147 rfl Tryz.ntmps147 rfl fun {M} S w0=>?_
 refine sr ?_
 refine bx fun b1=>?_
 refine cq ?_
 refine nt ?_
 refine ag ?_
 refine sr ?_
 refine mq ?_
 refine nt ?_
 refine aj ?_
 refine eH (SE.nil 107 (.arr 3 (.arr 5 (.int .i64)))) ?_
 refine jh 1 rfl ?_
 refine jh 2 rfl ?_
 obtain⟨r5,j,h⟩:=aa h
 refine nW (Δ:=[.obj c 102 (.at bM a1),.obj b1 152 (.eq (.slice none 0 0)),.sl (.slice none 0 0) 107 (.arr 3 (.arr 5 (.int .i64))) ([]:(List (List (List Int))))]) (F:=[]) (X:=Value) (J:=fun _=>J6 r5.2) (E:=fun z3=>[.obj c 102 (.at bM a1),.obj b1 152 (.eq z3),.sl z3 107 (.arr 3 (.arr 5 (.int .i64))) r5.1]) (r0:=fun _=>.tup .any) rfl rfl Qb (fun rec hp ha hb hs hpe hN hv l=>?_) (fun dl z3=>qs (fun hj=>?_) (fun hj=>?_))
 ·
  rcases rec with⟨st0,pe0,fn0,tm0,ps0,as0,bd0,df0⟩;dsimp only at hp ha hb hs hpe hN hv;subst hp hs hpe;have vN:vr tm0 [(2,Pt b1)]:=⟨congrArg A.eq (hv 2 _ rfl).symm,trivial⟩;refine dC.pick (M:=M) [1,0,2,3] [1,0,2,3] (nC (fun(z3:Value) (q:(List (List (List Int)))×Bool)=>[.raw l (.loop (jO ⟨.ready,none,fn0,tm0, #[7],as0,bd0,df0⟩ (J6 q.2))),.obj b1 152 (.eq z3),.sl z3 107 (.arr 3 (.arr 5 (.int .i64))) q.1]) l (qh (fun(y2:(List (List (List Int)))) (p4:(List (List Int)))=>
  (ek (bT (List.length y2+List.length [p4]))).bind fun _=>
  some (y2++[p4],true))) k a1 c (fun z3 q p r' h=>?_) (.slice none 0 0) (([]:(List (List (List Int)))),false) r5 j) rfl (fun _=>rfl) (fun _=>rfl)
  obtain⟨rq,hq,h2,rfl⟩:=qu h;obtain⟨y2,b5⟩:=q;obtain rfl:b5=false:=hq;replace h:=a9 h2;obtain⟨p4,hpv⟩:∃x,x=p:=⟨_,rfl⟩;subst hpv;refine YT.pick (R':=(fun z3:Value=>(.eq (.bool rq.2),[.raw l (.loop (jO ⟨.ready,none,fn0,tm0, #[7],as0,bd0,df0⟩ (J6 (!rq.2)))),.obj b1 152 (.eq z3),.sl z3 107 (.arr 3 (.arr 5 (.int .i64))) rq.1]))) [0,1,2] [0,1,2] (IJ ha hb (N:=13) (Γ:=[(2,Pt b1)]) rfl hN (by decide) vN (fun S w=>?_)) rfl (fun _=>rfl) (fun _=>rfl);refine ab (aF rfl rfl rfl (bR rfl mQ nr) trivial fun b6=>?_);refine bi rfl rfl (bh rfl di rfl rfl rfl) ⟨rfl,rfl,trivial⟩ ?_;refine nl (cN 1 rfl ?_);refine vx rfl rfl ?_;refine aj (ab (fr 2 ?_));refine lo FU ?_;refine fr 2 ?_;refine lo di ?_;refine ja (bF (t:=(.arr 3 (.arr 5 (.int .i64)))) [(.tmp 9,_)] [p4] rfl rfl LA (.cons rfl .rep .nil) rfl rfl) ?_;obtain⟨u7,e,h⟩:=aa h;refine fr 3 ?_;refine dF rfl rfl rfl (bX rfl rfl LA (aD e)) ⟨rfl,rfl,trivial⟩ fun v8=>?_;refine yo fun o9=>?_;refine fr 2 ?_;refine bi rfl rfl (bh rfl FU o9 rfl rfl) ⟨rfl,rfl,trivial⟩ ?_;refine ao (aO (cN 1 rfl ?_));refine cN 1 rfl ?_;refine cN 3 rfl ?_;cases h;exact tu v8 2 rfl
 ·
  replace h:=bH (DL hj) h;refine aO (tn (sr (fr 2 ?_)));refine lo FU ?_;refine aq (nt (aA ?_));refine cN 1 rfl ?_;refine yq ?_;refine bv (SE.fin (Γ':=[(4,_)]) [2,1,0] ⟨rfl,trivial⟩ rfl) ?_;cases h;exact aE z3 [.eq z3] 2 ⟨rfl,trivial⟩ rfl
 ·
  replace h:=cp (DK hj) h;cases h
def kd(k:Nat)(a0:dk):Option (List (List (List Int))):=
 (jv k a0).bind fun r1=>
 some r1
theorem pX(k:Nat)(a0:dk)(c:Nat)(r:(List (List (List Int))))(h:kd k a0=some r):
 bZ Tryz.prog 115 [.eq (.func (.func 148) #[] #[(Pv c)])] [.obj c 102 (.at bM a0)] (fun _:Unit=>(bq [.rep (.slice (.arr 3 (.arr 5 (.int .i64)))) r],[.obj c 102 (.at bM a0)])):=by
 unfold kd at h
 replace h:=a9 h
 refine bZ.of 5 Tryz.func115 rfl Tryz.ntmps115 rfl fun S w0=>?_
 refine sr ?_
 refine cq ?_
 refine nt ?_
 refine sr ?_
 refine mq ?_
 obtain⟨r1,e,h⟩:=aa h
 have j:=ov k a0 c r1 e
 refine bJ (Δ:=[_]) (F:=_) (fun _ _ _=>av rfl _) rfl rfl (ak [.const (.slice none 0 0),.tmp 3] rfl rfl Qc rfl j) ⟨rfl,rfl,trivial⟩ fun z2=>?_
 refine aq ?_
 refine nt ?_
 refine aA ?_
 refine bv (f9 [2,4] ⟨rfl,rfl,trivial⟩) ?_
 cases h
 exact aE () [_] 1 ⟨rfl,trivial⟩ rfl
theorem oG(a0:dk):bZ Tryz.prog 116 [.at bM a0] [] (fun z:Nat=>(bq [.eq (.func (.func 148) #[] #[(Pv z)])],[.obj z 102 (.at bM a0)])):=by
 refine bZ.of 4 Tryz.func116 rfl Tryz.ntmps116 rfl fun S w0=>?_;refine sr (aF rfl rfl rfl (oe rfl trivial) ⟨rfl,trivial⟩ fun z=>?_);refine cq (nt (sr ?_));refine ja (sM [] [.tmp 1] [] [(Pv z)] rfl rfl rfl) ?_;refine aq (nt (aA ?_));exact aE z [_] 1 ⟨rfl,trivial⟩ rfl
def kJ(k:Nat)(a0:(List Int)):Option a8:=
 ((if(a0.length:Int)=0 then(some [3,2]) else(some a0)):Option ((List Int))).bind fun x2=>
 some (3,[(1,[0,2]),(1,[1]),(2,[2]),(1,[0,1])],x2)
theorem jB(k:Nat)(a0:(List Int))(r:a8)(h:kJ k a0=some r):
 bZ Tryz.prog 78 [Ri a0] [] (fun _:Unit=>(bq [.rep aB r],[])):=by
 unfold kJ at h
 replace h:=a9 h
 refine bZ.of 18 Tryz.func78 rfl Tryz.ntmps78 rfl fun S w0=>?_
 refine sr ?_
 refine aF rfl rfl rfl (bR rfl xb BS) trivial fun b1=>?_
 refine nt ?_
 refine aL (Z:=Unit) (α:=(List Int)) (fun z3 x2=>[(0,Ri x2),(2,Pt b1)]) (fun z3 x2=>[.obj b1 25 (.agg (.pair (I 0) (.pair (.eq (.slice none 0 0)) (.eq (.slice none 0 0)))))]) h (fun K h=>?_) (fun z3 x2 h=>?_)
 ·
  refine sr (mq ?_);refine ol eA ?_;refine jb (dr rfl) ?_;refine nt (ci h (fun h=>?_) (fun h=>?_))
  ·refine ab (jb (bF (t:=(.int .i64)) [(.const (.int .i64 (3)),_),(.const (.int .i64 (2)),_)] [3,2] rfl rfl eJ (.cons rfl .int (.cons rfl .int .nil)) rfl rfl) ?_);refine aq (nl ?_);exact jz ((),[3,2]) h [0]
  ·refine aS (ae ?_);exact jz ((),a0) h [0]
 ·
  refine sr (jb (bF (t:=(.int .i64)) [(.const (.int .i64 (0)),_),(.const (.int .i64 (2)),_)] [0,2] rfl rfl eJ (.cons rfl .int (.cons rfl .int .nil)) rfl rfl) ?_);refine jb (dN [(0,.const (.int .i64 (1)),_),(1,.tmp 7,_)] rfl Gg wZ Af (jM ⟨rfl,rfl,trivial⟩) rfl) ?_;refine ja (bF (t:=(.int .i64)) [(.const (.int .i64 (1)),_)] [1] rfl rfl eJ (.cons rfl .int .nil) rfl rfl) ?_;refine jb (dN [(0,.const (.int .i64 (1)),_),(1,.tmp 9,_)] rfl Gg wZ Af (jM ⟨rfl,rfl,trivial⟩) rfl) ?_;refine ja (bF (t:=(.int .i64)) [(.const (.int .i64 (2)),_)] [2] rfl rfl eJ (.cons rfl .int .nil) rfl rfl) ?_;refine jb (dN [(0,.const (.int .i64 (2)),_),(1,.tmp 11,_)] rfl Gg wZ Af (jM ⟨rfl,rfl,trivial⟩) rfl) ?_;refine jb (bF (t:=(.int .i64)) [(.const (.int .i64 (0)),_),(.const (.int .i64 (1)),_)] [0,1] rfl rfl eJ (.cons rfl .int (.cons rfl .int .nil)) rfl rfl) ?_;refine jb (dN [(0,.const (.int .i64 (1)),_),(1,.tmp 13,_)] rfl Gg wZ Af (jM ⟨rfl,rfl,trivial⟩) rfl) ?_;refine aC rfl (bF (t:=cU) [(.tmp 8,_),(.tmp 10,_),(.tmp 12,_),(.tmp 14,_)] [(1,[0,2]),(1,[1]),(2,[2]),(1,[0,1])] rfl rfl MG (.cons trivial (.agg (.pair .int .rep)) (.cons trivial (.agg (.pair .int .rep)) (.cons trivial (.agg (.pair .int .rep)) (.cons trivial (.agg (.pair .int .rep)) .nil)))) rfl rfl) ⟨rfl,rfl,rfl,rfl,trivial⟩ ?_;refine mq ?_;refine jc (dN [(0,.const (.int .i64 (3)),_),(1,.tmp 15,_),(2,.tmp 16,_)] rfl OZ xb L0 (jM ⟨rfl,rfl,rfl,trivial⟩) rfl) ?_;refine bi rfl rfl (bh rfl fK trivial rfl rfl) ⟨rfl,rfl,trivial⟩ ?_;refine nt (aA (bv (pR (a:=.agg (.pair (I 3) (.pair (Rs cU [(1,[0,2]),(1,[1]),(2,[2]),(1,[0,1])]) (Ri x2)))) (a':=.rep aB (3,[(1,[0,2]),(1,[1]),(2,[2]),(1,[0,1])],x2)) (yx (.agg (.pair .int (.pair .rep .rep))))) ?_));cases h;exact aE () [.rep aB (3,[(1,[0,2]),(1,[1]),(2,[2]),(1,[0,1])],x2)] 0 ⟨⟨_,_,_,_,_,rfl,(.head _),fK,(xG),rfl⟩,trivial⟩ rfl
def wA(k:Nat):Option (List (List Int)):=
 some [[1,0,3],[2]]
theorem rK(k:Nat)(r:(List (List Int)))(h:wA k=some r):
 bZ Tryz.prog 79 [] [] (fun _:Unit=>(bq [.rep (.slice (.slice (.int .i64))) r],[])):=by
 unfold wA at h
 replace h:=a9 h
 refine bZ.of 4 Tryz.func79 rfl Tryz.ntmps79 rfl fun S w0=>?_
 refine sr ?_
 refine cq ?_
 refine nt ?_
 refine sr ?_
 refine jc (bF (t:=(.int .i64)) [(.const (.int .i64 (1)),_),(.const (.int .i64 (0)),_),(.const (.int .i64 (3)),_)] [1,0,3] rfl rfl eJ (.cons rfl .int (.cons rfl .int (.cons rfl .int .nil))) rfl rfl) ?_
 refine ja (bF (t:=(.int .i64)) [(.const (.int .i64 (2)),_)] [2] rfl rfl eJ (.cons rfl .int .nil) rfl rfl) ?_
 refine jb (bF (t:=(.slice (.int .i64))) [(.tmp 1,_),(.tmp 2,_)] [[1,0,3],[2]] rfl rfl oJ (.cons rfl .rep (.cons rfl .rep .nil)) rfl rfl) ?_
 refine aq ?_
 refine nt ?_
 refine aA ?_
 cases h
 exact ra
def Ho(k:Nat):Option (List (List Int)):=
 some [[0,2],[3,1]]
theorem Hn(k:Nat)(r:(List (List Int)))(h:Ho k=some r):
 bZ Tryz.prog 80 [] [] (fun _:Unit=>(bq [.rep (.slice (.slice (.int .i64))) r],[])):=by
 unfold Ho at h
 replace h:=a9 h
 refine bZ.of 4 Tryz.func80 rfl Tryz.ntmps80 rfl fun S w0=>?_
 refine sr ?_
 refine cq ?_
 refine nt ?_
 refine sr ?_
 refine jb (bF (t:=(.int .i64)) [(.const (.int .i64 (0)),_),(.const (.int .i64 (2)),_)] [0,2] rfl rfl eJ (.cons rfl .int (.cons rfl .int .nil)) rfl rfl) ?_
 refine jb (bF (t:=(.int .i64)) [(.const (.int .i64 (3)),_),(.const (.int .i64 (1)),_)] [3,1] rfl rfl eJ (.cons rfl .int (.cons rfl .int .nil)) rfl rfl) ?_
 refine jb (bF (t:=(.slice (.int .i64))) [(.tmp 1,_),(.tmp 2,_)] [[0,2],[3,1]] rfl rfl oJ (.cons rfl .rep (.cons rfl .rep .nil)) rfl rfl) ?_
 refine aq ?_
 refine nt ?_
 refine aA ?_
 cases h
 exact ra
def jD(k:Nat)(a0:(List Int)):Option bB:=
 some (a0,0,1)
theorem oV(k:Nat)(a0:(List Int))(r:bB)(h:jD k a0=some r):
 bZ Tryz.prog 26 [Ri a0] [] (fun z:Nat=>(bq [Pt z],[.obj z 98 (.agg (.pair (Ri r.1) (.pair (I r.2.1) (.eq (.int .u64 r.2.2)))))])):=by
 unfold jD at h
 replace h:=a9 h
 refine bZ.of 6 Tryz.func26 rfl Tryz.ntmps26 rfl fun S w0=>?_
 refine sr ?_
 refine cq ?_
 refine nt ?_
 refine sr ?_
 refine mq ?_
 refine jb (dN [(0,.tmp 3,_),(2,.const (.int .u64 (1)),_)] rfl Rj Q8 Qy (jM ⟨rfl,rfl,trivial⟩) rfl) ?_
 refine aF rfl rfl rfl (oe rfl trivial) ⟨rfl,trivial⟩ fun b1=>?_
 refine aq ?_
 refine nt ?_
 refine aA ?_
 cases h
 exact aE b1 [Pt b1] 1 ⟨rfl,trivial⟩ rfl
def g7(k:Nat)(a0:(List Int)):Option (List Int):=
 (ek (bT (List.length ([]:(List Int))+List.length a0))).bind fun _=>
 some (([]:(List Int))++a0)
theorem oh(k:Nat)(a0:(List Int))(r:(List Int))(h:g7 k a0=some r):
 bZ Tryz.prog 55 [Ri a0] [] (fun z:Value=>(bq [.eq z],[.sl z 3 (.int .i64) r])):=by
 unfold g7 at h
 replace h:=a9 h
 refine bZ.of 6 Tryz.func55 rfl Tryz.ntmps55 rfl fun S w0=>?_
 refine sr ?_
 refine cq ?_
 refine nt ?_
 refine sr ?_
 refine aF rfl rfl rfl (lQ (t:=(.int .i64)) [] ([]:(List Int)) rfl rfl eJ .nil rfl rfl) trivial fun v1=>?_
 refine mq ?_
 obtain⟨u2,c,h⟩:=aa h
 refine dF rfl rfl rfl (bX rfl rfl eJ (aD c)) ⟨rfl,rfl,trivial⟩ fun v3=>?_
 refine aq ?_
 refine nt ?_
 refine aA ?_
 cases h
 exact aE v3 [.eq v3] 1 ⟨rfl,trivial⟩ rfl
def cC(k:Nat)(a0:(List (List Int))):Nat→((List (List Int))×Int)→Option (List (List Int))
 |0,_=>none
 |n+1,y3=>
  if y3.2 < (a0.length:Int) then((aZ a0 y3.2).bind fun x5=>
  (g7 k x5).bind fun r6=>
  (ek (bT (List.length y3.1+List.length [r6]))).bind fun _=>
  (ck (y3.2+1)).bind fun c=>
  cC k a0 n (y3.1++[r6],c)) else(some y3.1)
def dD(k:Nat)(a0:(List (List Int))):Option (List (List Int)):=
 ((cC k a0 k (([]:(List (List Int))),0)):Option ((List (List Int)))).bind fun x1=>
 some x1
theorem sZ(k:Nat)(a0:(List (List Int)))(r:(List (List Int)))(h:dD k a0=some r):
 bZ Tryz.prog 30 [.rep (.slice (.slice (.int .i64))) a0] [] (fun z:Value=>(bq [.eq z],[.sl z 23 (.slice (.int .i64)) r])):=by
 unfold dD at h
 replace h:=a9 h
 refine bZ.of 20 Tryz.func30 rfl Tryz.ntmps30 rfl fun S w0=>?_
 refine sr ?_
 refine cq ?_
 refine nt ?_
 refine sr ?_
 refine cq ?_
 refine nt ?_
 refine aL (Z:=Value) (α:=(List (List Int))) (fun z2 x1=>[(3,.eq z2)]) (fun z2 x1=>[.sl z2 23 (.slice (.int .i64)) x1]) h (fun K h=>?_) (fun z2 x1 h=>?_)
 ·
  refine sr (cq (nt (aj ?_)));refine eH (SE.nil 23 (.slice (.int .i64))) ?_;refine aG (fun z4 y3=>[(0,.rep (.slice (.slice (.int .i64))) a0),(3,.eq z4),(4,I y3.2)]) (fun z4 y3=>[.sl z4 23 (.slice (.int .i64)) y3.1]) (cC k a0) k (.slice none 0 0) (([]:(List (List Int))),0) (fun _=>rfl) h (SE.fin [0] ⟨rfl,rfl,rfl,trivial⟩ rfl) (fun n z4 y3 h=>?_);unfold cC at h;refine ag (sr ?_);iterate 2 refine mq ?_
  refine ol k9 ?_;refine jb (bm rfl) ?_;refine nt (ci h (fun h=>?_) (fun h=>?_))
  ·refine sk (ag (aj (ab ?_)));iterate 3 refine mq ?_
   obtain⟨x5,j,h⟩:=aa h;refine jb (aH (t:=(.slice (.int .i64))) rfl k9 bW j) ?_;refine ja (an (t:=(.slice (.int .i64))) rfl bW rfl) ?_;obtain⟨r6,s,h⟩:=aa h;refine aF rfl rfl rfl (ak [.tmp 15] rfl rfl PP rfl (oh k x5 r6 s)) ⟨rfl,trivial⟩ fun v7=>?_;refine cu (f9 [16] ⟨rfl,trivial⟩) ?_;refine ja (bF (t:=(.slice (.int .i64))) [(.tmp 16,_)] [r6] rfl rfl oJ (.cons rfl .rep .nil) rfl rfl) ?_;obtain⟨u8,l,h⟩:=aa h;refine dF rfl rfl rfl (bX rfl rfl oJ (aD l)) ⟨rfl,rfl,trivial⟩ fun v9=>?_;refine aq (ao (aO (tn (ab ?_))));refine mq ?_;obtain⟨e,c,h⟩:=aa h;refine jb (bb rfl c) ?_;refine aq (nl ?_);exact jz (v9,(y3.1++[r6],e)) h [0]
  ·refine xa ?_;exact jz (z4,y3.1) h [0]
 ·
  refine sr (mq ?_);refine aq (nt (aA ?_));cases h;exact aE z2 [.eq z2] 1 ⟨rfl,trivial⟩ rfl
def jf(k:Nat)(a0:bB):Option (Int×bB):=
 ((if a0.2.1 < (a0.1.length:Int) then((aZ a0.1 a0.2.1).bind fun x3=>
 some (IntKind.u64.wrap ((IntKind.u64.wrap ((IntKind.u64.wrap (a0.2.2 * 6364136223846793005))+1442695040888963407))+(IntKind.u64.wrap ((IntKind.u64.wrap x3) * 2862933555777941757))))) else(some (IntKind.u64.wrap ((IntKind.u64.wrap (a0.2.2 * 6364136223846793005))+1442695040888963407)))):Option (Int)).bind fun x1=>
 (ck (a0.2.1+1)).bind fun x4=>
 some (io .u64 (qL .u64 (IntKind.u64.wrap ((qL .u64 x1 (io .u64 x1 29)) * 2685821657736338717)) (io .u64 (IntKind.u64.wrap ((qL .u64 x1 (io .u64 x1 29)) * 2685821657736338717)) 32)) 8,(a0.1,x4,x1))
theorem sY(k:Nat)(a0:bB)(c:Nat)(r:Int×bB)(h:jf k a0=some r):
 bZ Tryz.prog 82 [Pt c] [.obj c 98 (.agg (.pair (Ri a0.1) (.pair (I a0.2.1) (.eq (.int .u64 a0.2.2)))))] (fun _:Unit=>(bq [.eq (.int .u64 r.1)],[.obj c 98 (.agg (.pair (Ri r.2.1) (.pair (I r.2.2.1) (.eq (.int .u64 r.2.2.2)))))])):=by
 unfold jf at h
 replace h:=a9 h
 refine bZ.of 67 Tryz.func82 rfl Tryz.ntmps82 rfl fun S w0=>?_
 refine sr ?_
 refine cq ?_
 refine nt ?_
 refine sr ?_
 iterate 2 refine mq ?_
 refine ja (aV rfl) ?_
 refine fl s9 ?_
 refine lo DY ?_
 refine jb (A9 rfl) ?_
 refine jb (Bc rfl) ?_
 refine ja (aV rfl) ?_
 refine fl s9 ?_
 refine bi rfl rfl (bh rfl DY rfl rfl rfl) ⟨rfl,rfl,trivial⟩ ?_
 refine nt ?_
 refine aL (Z:=Unit) (α:=Int) (fun z2 x1=>[(0,Pt c)]) (fun z2 x1=>[.obj c 98 (.agg (.pair (Ri a0.1) (.pair (I a0.2.1) (.eq (.int .u64 x1)))))]) h (fun K h=>?_) (fun z2 x1 h=>?_)
 ·
  refine ag (cy ?_);refine dm ?_;refine da (aV rfl) ?_;refine da (aw rfl xZ) ?_;refine ea 0 (ap rfl cP mP rfl) ?_;refine dm ?_;refine da (aV rfl) ?_;refine da (aw rfl If) ?_;refine ea 0 (ap rfl bW mP rfl) ?_;refine da (jY rfl rfl eA) ?_;refine df fo ?_;refine jb (bm rfl) ?_;refine nt (ci h (fun h=>?_) (fun h=>?_))
  ·refine cy ?_;refine dm ?_;refine dm ?_;refine da (aV rfl) ?_;refine da (aw rfl s9) ?_;refine ea 0 (ap rfl DY mP rfl) ?_;refine dm ?_;refine da (aV rfl) ?_;refine da (aw rfl If) ?_;refine ea 0 (ap rfl bW mP rfl) ?_;refine dm ?_;refine da (aV rfl) ?_;refine da (aw rfl xZ) ?_;refine ea 0 (ap rfl cP mP rfl) ?_;obtain⟨x3,j,h⟩:=aa h;refine db (aH (t:=(.int .i64)) rfl eA cP j) ?_;refine da (an (t:=(.int .i64)) rfl cP rfl) ?_;refine da (oN rfl U3 Q0) ?_;refine db (A9 rfl) ?_;refine db (Bc rfl) ?_;refine df fo ?_;refine ja (aV rfl) ?_;refine fl s9 ?_;refine bi rfl rfl (bh rfl DY rfl rfl rfl) ⟨rfl,rfl,trivial⟩ ?_;refine nl ?_;exact jz ((),IntKind.u64.wrap ((IntKind.u64.wrap ((IntKind.u64.wrap (a0.2.2 * 6364136223846793005))+1442695040888963407))+(IntKind.u64.wrap ((IntKind.u64.wrap x3) * 2862933555777941757)))) h [0]
  ·refine aS (ae ?_);exact jz ((),IntKind.u64.wrap ((IntKind.u64.wrap (a0.2.2 * 6364136223846793005))+1442695040888963407)) h [0]
 ·
  refine sr (mq ?_);refine ja (aV rfl) ?_;refine fl xZ ?_;refine lo cP ?_;obtain⟨x4,e,h⟩:=aa h;refine jb (bb rfl e) ?_;refine ja (aV rfl) ?_;refine fl xZ ?_;refine bi rfl rfl (bh rfl cP rfl rfl rfl) ⟨rfl,rfl,trivial⟩ ?_;refine nt (ag (cy ?_));refine dm ?_;refine da (aV rfl) ?_;refine da (aw rfl s9) ?_;refine ea 0 (ap rfl DY mP rfl) ?_;refine dm ?_;refine da (aV rfl) ?_;refine da (aw rfl s9) ?_;refine ea 0 (ap rfl DY mP rfl) ?_;refine dH rfl rfl rfl (uP rfl (by decide)) ⟨rfl,rfl,trivial⟩ ?_;refine df fo ?_;refine jb (LG rfl) ?_;refine aq (nt (sr ?_));refine mq ?_;refine jb (A9 rfl) ?_;refine aq (nt (sr ?_));iterate 2 refine mq ?_
  refine aC rfl (uP rfl (by decide)) ⟨rfl,rfl,trivial⟩ ?_;refine jb (LG rfl) ?_;refine aC rfl (uP rfl (by decide)) ⟨rfl,rfl,trivial⟩ ?_;refine aq (nt (aA ?_));cases h;exact aE () [_] 1 ⟨rfl,trivial⟩ rfl
def cz(k:Nat)(a0:bB)(a1:Int):Option (Int×bB):=
 if a1 < 1 then(some (0,(a0.1,a0.2.1,a0.2.2))) else((jf k (a0.1,a0.2.1,a0.2.2)).bind fun r1=>
 (ck (a1+1)).bind fun x2=>
 (ek ((IntKind.u64.wrap x2)≠0)).bind fun _=>
 (ck (Int.tmod r1.1 (IntKind.u64.wrap x2))).bind fun x4=>
 some (x4,(r1.2.1,r1.2.2.1,r1.2.2.2)))
theorem dR(k:Nat)(a0:bB)(c:Nat)(a1:Int)(r:Int×bB)(h:cz k a0 a1=some r):
 bZ Tryz.prog 28 [Pt c,I a1] [.obj c 98 (.agg (.pair (Ri a0.1) (.pair (I a0.2.1) (.eq (.int .u64 a0.2.2)))))] (fun _:Unit=>(bq [I r.1],[.obj c 98 (.agg (.pair (Ri r.2.1) (.pair (I r.2.2.1) (.eq (.int .u64 r.2.2.2)))))])):=by
 unfold cz at h
 replace h:=a9 h
 refine bZ.of 14 Tryz.func28 rfl Tryz.ntmps28 rfl fun S w0=>?_
 refine sr ?_
 refine cq ?_
 refine nt ?_
 refine ag ?_
 refine sr ?_
 refine mq ?_
 refine jb (bm rfl) ?_
 refine nt ?_
 refine ci h (fun h=>?_) (fun h=>?_)
 ·
  refine sr (cq (nt (rx ?_)));cases h;exact aE () [_] 1 ⟨rfl,trivial⟩ rfl
 ·
  refine sk (sr (mq ?_));obtain⟨r1,n,h⟩:=aa h;refine ka (ak [.tmp 7] rfl rfl RD rfl (sY k (a0.1,a0.2.1,a0.2.2) c r1 n)) ?_;refine mq ?_;obtain⟨x2,j,h⟩:=aa h;refine jb (bb rfl j) ?_;refine ja (oN rfl U3 Q0) ?_;obtain⟨u3,l,h⟩:=aa h;refine jb (Gt rfl (aD l)) ?_;obtain⟨x4,e,h⟩:=aa h;refine ja (zk rfl Q0 U3 e) ?_;refine aq (nt (aA ?_));cases h;exact aE () [_] 1 ⟨rfl,trivial⟩ rfl
def fe(k:Nat)(a0:bB)(a1:Int)(a2:Int):Option (Int×bB):=
 (ck (a2 - a1)).bind fun x1=>
 (cz k (a0.1,a0.2.1,a0.2.2) x1).bind fun r2=>
 (ck (a1+r2.1)).bind fun x3=>
 some (x3,(r2.2.1,r2.2.2.1,r2.2.2.2))
theorem lV(k:Nat)(a0:bB)(c:Nat)(a1:Int)(a2:Int)(r:Int×bB)(h:fe k a0 a1 a2=some r):
 bZ Tryz.prog 51 [Pt c,I a1,I a2] [.obj c 98 (.agg (.pair (Ri a0.1) (.pair (I a0.2.1) (.eq (.int .u64 a0.2.2)))))] (fun _:Unit=>(bq [I r.1],[.obj c 98 (.agg (.pair (Ri r.2.1) (.pair (I r.2.2.1) (.eq (.int .u64 r.2.2.2)))))])):=by
 unfold fe at h
 replace h:=a9 h
 refine bZ.of 14 Tryz.func51 rfl Tryz.ntmps51 rfl fun S w0=>?_
 refine sr ?_
 refine cq ?_
 refine nt ?_
 refine sr ?_
 iterate 4 refine mq ?_
 obtain⟨x1,j,h⟩:=aa h
 refine jb (fQ rfl j) ?_
 obtain⟨r2,l,h⟩:=aa h
 have n:=dR k (a0.1,a0.2.1,a0.2.2) c x1 r2 l
 refine kb (ak [.tmp 8,.tmp 11] rfl rfl BL rfl n) ?_
 obtain⟨x3,e,h⟩:=aa h
 refine jb (bb rfl e) ?_
 refine aq ?_
 refine nt ?_
 refine aA ?_
 cases h
 exact aE () [_] 1 ⟨rfl,trivial⟩ rfl
def jE(k:Nat)(a0:bB)(a1:(List Int)):Option (Int×bB):=
 (ck ((a1.length:Int) - 1)).bind fun x1=>
 (cz k (a0.1,a0.2.1,a0.2.2) x1).bind fun r2=>
 (aZ a1 r2.1).bind fun x3=>
 some (x3,(r2.2.1,r2.2.2.1,r2.2.2.2))
theorem oW(k:Nat)(a0:bB)(c:Nat)(a1:(List Int))(r:Int×bB)(h:jE k a0 a1=some r):
 bZ Tryz.prog 112 [Pt c,Ri a1] [.obj c 98 (.agg (.pair (Ri a0.1) (.pair (I a0.2.1) (.eq (.int .u64 a0.2.2)))))] (fun _:Unit=>(bq [I r.1],[.obj c 98 (.agg (.pair (Ri r.2.1) (.pair (I r.2.2.1) (.eq (.int .u64 r.2.2.2)))))])):=by
 unfold jE at h
 replace h:=a9 h
 refine bZ.of 13 Tryz.func112 rfl Tryz.ntmps112 rfl fun S w0=>?_
 refine sr ?_
 refine cq ?_
 refine nt ?_
 refine sr ?_
 iterate 3 refine mq ?_
 refine ol eA ?_
 obtain⟨x1,j,h⟩:=aa h
 refine jb (fQ rfl j) ?_
 obtain⟨r2,l,h⟩:=aa h
 have n:=dR k (a0.1,a0.2.1,a0.2.2) c x1 r2 l
 refine kb (ak [.tmp 6,.tmp 9] rfl rfl BL rfl n) ?_
 obtain⟨x3,e,h⟩:=aa h
 refine jb (aH (t:=(.int .i64)) rfl eA cP e) ?_
 refine ja (an (t:=(.int .i64)) rfl cP rfl) ?_
 refine aq ?_
 refine nt ?_
 refine aA ?_
 cases h
 exact aE () [_] 1 ⟨rfl,trivial⟩ rfl
def f8(k:Nat)(a0:bB)(a1:Int):Option (Bool×bB):=
 (ck (a1 - 1)).bind fun x1=>
 (cz k (a0.1,a0.2.1,a0.2.2) x1).bind fun r2=>
 some (decide (r2.1=0),(r2.2.1,r2.2.2.1,r2.2.2.2))
theorem nh(k:Nat)(a0:bB)(c:Nat)(a1:Int)(r:Bool×bB)(h:f8 k a0 a1=some r):
 bZ Tryz.prog 113 [Pt c,I a1] [.obj c 98 (.agg (.pair (Ri a0.1) (.pair (I a0.2.1) (.eq (.int .u64 a0.2.2)))))] (fun _:Unit=>(bq [.eq (.bool r.1)],[.obj c 98 (.agg (.pair (Ri r.2.1) (.pair (I r.2.2.1) (.eq (.int .u64 r.2.2.2)))))])):=by
 unfold f8 at h
 replace h:=a9 h
 refine bZ.of 10 Tryz.func113 rfl Tryz.ntmps113 rfl fun S w0=>?_
 refine sr ?_
 refine cq ?_
 refine nt ?_
 refine sr ?_
 iterate 2 refine mq ?_
 obtain⟨x1,e,h⟩:=aa h
 refine jb (fQ rfl e) ?_
 obtain⟨r2,j,h⟩:=aa h
 have l:=dR k (a0.1,a0.2.1,a0.2.2) c x1 r2 j
 refine kb (ak [.tmp 5,.tmp 7] rfl rfl BL rfl l) ?_
 refine jb (dr rfl) ?_
 refine aq ?_
 refine nt ?_
 refine aA ?_
 cases h
 exact aE () [_] 1 ⟨rfl,trivial⟩ rfl
def eZ(k:Nat)(r2:Int×bB):Nat→((List Int)×Int×Int×(List Int)×Int)→Option ((List Int)×Int×Int×(List Int))
 |0,_=>none
 |n+1,c=>
  if c.2.2.2.2 < r2.1 then((((f8 k (c.1,c.2.1,c.2.2.1) 2).bind fun e=>
  if e.1=true then((ek (bT (List.length c.2.2.2.1+List.length [c.2.2.2.2]))).bind fun _=>
  some (e.2.1,e.2.2.1,e.2.2.2,c.2.2.2.1++[c.2.2.2.2])) else(some (e.2.1,e.2.2.1,e.2.2.2,c.2.2.2.1))):Option ((List Int)×Int×Int×(List Int))).bind fun h=>
  (ck (c.2.2.2.2+1)).bind fun j=>
  eZ k r2 n (h.1,h.2.1,h.2.2.1,h.2.2.2,j)) else(some (c.1,c.2.1,c.2.2.1,c.2.2.2.1))
def fa(k:Nat)(r2:Int×bB):Nat→((List Int)×Int×Int×(List lZ)×Int×Int)→Option ((List Int)×Int×Int×(List lZ)×Int)
 |0,_=>none
 |n+1,y7=>
  if 0 < y7.2.2.2.2.2 then((((jE k (y7.1,y7.2.1,y7.2.2.1) [1,1,1,2,3]).bind fun c=>
  ((eZ k r2 k (c.2.1,c.2.2.1,c.2.2.2,([]:(List Int)),0)):Option ((List Int)×Int×Int×(List Int))).bind fun e=>
  (ek (bT (List.length y7.2.2.2.1+List.length [(c.1,e.2.2.2)]))).bind fun _=>
  (ck (y7.2.2.2.2.1+c.1)).bind fun j=>
  some (e.1,e.2.1,e.2.2.1,y7.2.2.2.1++[(c.1,e.2.2.2)],j)):Option ((List Int)×Int×Int×(List lZ)×Int)).bind fun x9=>
  (ck (y7.2.2.2.2.2 - 1)).bind fun h=>
  fa k r2 n (x9.1,x9.2.1,x9.2.2.1,x9.2.2.2.1,x9.2.2.2.2,h)) else(some (y7.1,y7.2.1,y7.2.2.1,y7.2.2.2.1,y7.2.2.2.2.1))
def eY(k:Nat)(x4:(List Int)×Int×Int×(List lZ)×Int):Nat→((List Int)×Int×Int×(List Int)×Int)→Option ((List Int)×Int×Int×(List Int))
 |0,_=>none
 |n+1,c=>
  if 0 < c.2.2.2.2 then((ck (x4.2.2.2.2+1)).bind fun j=>
  (jE k (c.1,c.2.1,c.2.2.1) [1,2,3,qd 9 x4.2.2.2.2,qd 9 j]).bind fun e=>
  (ek (bT (List.length c.2.2.2.1+List.length [e.1]))).bind fun _=>
  (ck (c.2.2.2.2 - 1)).bind fun h=>
  eY k x4 n (e.2.1,e.2.2.1,e.2.2.2,c.2.2.2.1++[e.1],h)) else(some (c.1,c.2.1,c.2.2.1,c.2.2.2.1))
def kh(k:Nat)(a0:bB)(a1:Int)(a2:Int):Option (a8×bB):=
 (fe k (a0.1,a0.2.1,a0.2.2) 1 4).bind fun r2=>
 (((fe k (r2.2.1,r2.2.2.1,r2.2.2.2) 0 a1).bind fun r6=>
 fa k r2 k (r6.2.1,r6.2.2.1,r6.2.2.2,([]:(List lZ)),0,r6.1)):Option ((List Int)×Int×Int×(List lZ)×Int)).bind fun x4=>
 (((fe k (x4.1,x4.2.1,x4.2.2.1) 1 a2).bind fun j=>
 eY k x4 k (j.2.1,j.2.2.1,j.2.2.2,([]:(List Int)),j.1)):Option ((List Int)×Int×Int×(List Int))).bind fun e=>
 (((f8 k (e.1,e.2.1,e.2.2.1) 2).bind fun c=>
 if c.1=true then((aZ e.2.2.2 0).bind fun l=>
 some (List.set e.2.2.2 (Int.toNat 0) (qd 9 x4.2.2.2.2),c.2.1,c.2.2.1,c.2.2.2)) else(some (e.2.2.2,c.2.1,c.2.2.1,c.2.2.2))):Option ((List Int)×(List Int)×Int×Int)).bind fun h=>
 some ((r2.1,x4.2.2.2.1,h.1),(h.2.1,h.2.2.1,h.2.2.2))
theorem vR(k:Nat)(a0:bB)(c:Nat)(a1:Int)(a2:Int)(r:a8×bB)(h:kh k a0 a1 a2=some r):
 bZ Tryz.prog 49 [Pt c,I a1,I a2] [.obj c 98 (.agg (.pair (Ri a0.1) (.pair (I a0.2.1) (.eq (.int .u64 a0.2.2)))))] (fun _:Unit=>(bq [.rep aB r.1],[.obj c 98 (.agg (.pair (Ri r.2.1) (.pair (I r.2.2.1) (.eq (.int .u64 r.2.2.2)))))])):=by
 unfold kh at h
 replace h:=a9 h
 refine bZ.of 79 Tryz.func49 rfl Tryz.ntmps49 rfl fun S w0=>?_
 refine sr ?_
 refine aF rfl rfl rfl (bR rfl xb BS) trivial fun b1=>?_
 refine nt ?_
 refine sr ?_
 refine mq ?_
 obtain⟨r2,TB,h⟩:=aa h
 have TC:=lV k (a0.1,a0.2.1,a0.2.2) c 1 4 r2 TB
 refine fr 1 ?_
 refine kc (ak [.tmp 13,.const (.int .i64 (1)),.const (.int .i64 (4))] rfl rfl NU rfl TC) ?_
 refine ja (dN [(0,.tmp 14,_)] rfl OZ xb L0 (jM ⟨rfl,trivial⟩) rfl) ?_
 refine aF rfl rfl rfl (bR rfl xb BS) trivial fun b3=>?_
 refine bi rfl rfl (bh rfl fK trivial rfl rfl) ⟨rfl,rfl,trivial⟩ ?_
 refine nt ?_
 refine sr ?_
 refine cq ?_
 refine nt ?_
 refine aL (Z:=Value) (α:=(List Int)×Int×Int×(List lZ)×Int) (fun z5 x4=>[(0,Pt c),(2,I a2),(6,Pt b1),(7,Pt b3),(8,I x4.2.2.2.2)]) (fun z5 x4=>[.obj c 98 (.agg (.pair (Ri x4.1) (.pair (I x4.2.1) (.eq (.int .u64 x4.2.2.1))))),.obj b1 25 (.agg (.pair (I 0) (.pair (.eq (.slice none 0 0)) (.eq (.slice none 0 0))))),.obj b3 25 (.agg (.pair (I r2.1) (.pair (.eq z5) (.eq (.slice none 0 0))))),.sl z5 27 cU x4.2.2.2.1]) h (fun K h=>?_) (fun z5 x4 h=>?_)
 ·
  refine sr ?_;iterate 2 refine mq ?_
  obtain⟨r6,TA,h⟩:=aa h;refine fr 1 ?_;refine kc (ak [.tmp 16,.const (.int .i64 (0)),.tmp 17] rfl rfl NU rfl (lV k (r2.2.1,r2.2.2.1,r2.2.2.2) c 0 a1 r6 TA)) ?_;refine aq (nt (aj ?_));refine eH (SE.nil 27 cU) ?_;refine aG (fun z8 y7=>[(0,Pt c),(2,I a2),(6,Pt b1),(7,Pt b3),(8,I y7.2.2.2.2.1),(9,I y7.2.2.2.2.2)]) (fun z8 y7=>[.obj c 98 (.agg (.pair (Ri y7.1) (.pair (I y7.2.1) (.eq (.int .u64 y7.2.2.1))))),.obj b1 25 (.agg (.pair (I 0) (.pair (.eq (.slice none 0 0)) (.eq (.slice none 0 0))))),.obj b3 25 (.agg (.pair (I r2.1) (.pair (.eq z8) (.eq (.slice none 0 0))))),.sl z8 27 cU y7.2.2.2.1]) (fa k r2) k (.slice none 0 0) (r6.2.1,r6.2.2.1,r6.2.2.2,([]:(List lZ)),0,r6.1) (fun _=>rfl) h (SE.fin [1,3,2,0] ⟨rfl,rfl,rfl,rfl,rfl,rfl,trivial⟩ rfl) (fun n z8 y7 h=>?_);unfold fa at h;refine ag (sr (mq ?_));refine jb (jZ rfl) ?_;refine nt (ci h (fun h=>?_) (fun h=>?_))
  ·refine sk (aL (Z:=Value) (α:=(List Int)×Int×Int×(List lZ)×Int) (fun X x9=>[(0,Pt c),(2,I a2),(6,Pt b1),(7,Pt b3),(8,I x9.2.2.2.2),(9,I y7.2.2.2.2.2)]) (fun X x9=>[.obj c 98 (.agg (.pair (Ri x9.1) (.pair (I x9.2.1) (.eq (.int .u64 x9.2.2.1))))),.obj b1 25 (.agg (.pair (I 0) (.pair (.eq (.slice none 0 0)) (.eq (.slice none 0 0))))),.obj b3 25 (.agg (.pair (I r2.1) (.pair (.eq X) (.eq (.slice none 0 0))))),.sl X 27 cU x9.2.2.2.1]) h (fun K h=>?_) (fun X x9 h=>?_))
   ·refine aj (sr (mq ?_));refine aC rfl (bF (t:=(.int .i64)) [(.const (.int .i64 (1)),_),(.const (.int .i64 (1)),_),(.const (.int .i64 (1)),_),(.const (.int .i64 (2)),_),(.const (.int .i64 (3)),_)] [1,1,1,2,3] rfl rfl eJ (.cons rfl .int (.cons rfl .int (.cons rfl .int (.cons rfl .int (.cons rfl .int .nil))))) rfl rfl) ⟨rfl,rfl,rfl,rfl,rfl,trivial⟩ ?_;obtain⟨s,S5,h⟩:=aa h;refine kb (ak [.tmp 23,.tmp 24] rfl rfl LU rfl (oW k (y7.1,y7.2.1,y7.2.2.1) c [1,1,1,2,3] s S5)) ?_;refine ja (dN [(0,.tmp 25,_)] rfl Gg wZ Af (jM ⟨rfl,trivial⟩) rfl) ?_;refine aF rfl rfl rfl (bR rfl wZ K1) trivial fun M=>?_;refine bi rfl rfl (bh rfl ot trivial rfl rfl) ⟨rfl,rfl,trivial⟩ ?_;refine nt (aL (Z:=Value) (α:=(List Int)×Int×Int×(List Int)) (fun ac j=>[(0,Pt c),(2,I a2),(6,Pt b1),(7,Pt b3),(8,I y7.2.2.2.2.1),(9,I y7.2.2.2.2.2),(10,Pt M)]) (fun ac j=>[.obj c 98 (.agg (.pair (Ri j.1) (.pair (I j.2.1) (.eq (.int .u64 j.2.2.1))))),.obj b1 25 (.agg (.pair (I 0) (.pair (.eq (.slice none 0 0)) (.eq (.slice none 0 0))))),.obj b3 25 (.agg (.pair (I r2.1) (.pair (.eq z8) (.eq (.slice none 0 0))))),.sl z8 27 cU y7.2.2.2.1,.obj M 27 (.agg (.pair (I s.1) (.eq ac))),.sl ac 3 (.int .i64) j.2.2.2]) h (fun K h=>?_) (fun ac j h=>?_))
    ·refine sr (cq (nt (aj ?_)));refine eH (SE.nil 3 (.int .i64)) ?_;refine aG (fun Q e=>[(0,Pt c),(2,I a2),(6,Pt b1),(7,Pt b3),(8,I y7.2.2.2.2.1),(9,I y7.2.2.2.2.2),(10,Pt M),(11,I e.2.2.2.2)]) (fun Q e=>[.obj c 98 (.agg (.pair (Ri e.1) (.pair (I e.2.1) (.eq (.int .u64 e.2.2.1))))),.obj b1 25 (.agg (.pair (I 0) (.pair (.eq (.slice none 0 0)) (.eq (.slice none 0 0))))),.obj b3 25 (.agg (.pair (I r2.1) (.pair (.eq z8) (.eq (.slice none 0 0))))),.sl z8 27 cU y7.2.2.2.1,.obj M 27 (.agg (.pair (I s.1) (.eq Q))),.sl Q 3 (.int .i64) e.2.2.2.1]) (eZ k r2) k (.slice none 0 0) (s.2.1,s.2.2.1,s.2.2.2,([]:(List Int)),0) (fun _=>rfl) h (SE.fin [2,3,4,5,1,0] ⟨rfl,rfl,rfl,rfl,rfl,rfl,rfl,rfl,trivial⟩ rfl) (fun n Q e h=>?_);unfold eZ at h;refine ag (sr (mq ?_));refine fl kZ ?_;refine fr 2 ?_;refine lo cP ?_;refine jb (bm rfl) ?_;refine nt (ci h (fun h=>?_) (fun h=>?_))
     ·refine sk (aL (Z:=Value) (α:=(List Int)×Int×Int×(List Int)) (fun U x=>[(0,Pt c),(2,I a2),(6,Pt b1),(7,Pt b3),(8,I y7.2.2.2.2.1),(9,I y7.2.2.2.2.2),(10,Pt M),(11,I e.2.2.2.2)]) (fun U x=>[.obj c 98 (.agg (.pair (Ri x.1) (.pair (I x.2.1) (.eq (.int .u64 x.2.2.1))))),.obj b1 25 (.agg (.pair (I 0) (.pair (.eq (.slice none 0 0)) (.eq (.slice none 0 0))))),.obj b3 25 (.agg (.pair (I r2.1) (.pair (.eq z8) (.eq (.slice none 0 0))))),.sl z8 27 cU y7.2.2.2.1,.obj M 27 (.agg (.pair (I s.1) (.eq U))),.sl U 3 (.int .i64) x.2.2.2]) h (fun K h=>?_) (fun U x h=>?_))
      ·refine aj (sr (mq ?_));obtain⟨J,SZ,h⟩:=aa h;refine fr 1 ?_;refine kb (ak [.tmp 33,.const (.int .i64 (2))] rfl rfl LS rfl (nh k (e.1,e.2.1,e.2.2.1) c 2 J SZ)) ?_;refine nt (cv h (fun h=>?_) (fun h=>?_))
       ·refine ab (fl ta ?_);refine fr 4 ?_;refine lo bW ?_;refine mq ?_;refine ja (bF (t:=(.int .i64)) [(.tmp 37,_)] [e.2.2.2.2] rfl rfl eJ (.cons rfl .int .nil) rfl rfl) ?_;obtain⟨TX,SU,h⟩:=aa h;refine fr 5 ?_;refine dF rfl rfl rfl (bX rfl rfl eJ (aD SU)) ⟨rfl,rfl,trivial⟩ fun Tf=>?_;refine fl ta ?_;refine yo fun o22=>?_;refine fr 1 ?_;refine bi rfl rfl (bh rfl bW o22 rfl rfl) ⟨rfl,rfl,trivial⟩ ?_;refine ao (bn ?_);exact jz (Tf,(J.2.1,J.2.2.1,J.2.2.2,e.2.2.2.1++[e.2.2.2.2])) h [2,4,3,5,0,1]
       ·refine aS (bn ?_);exact jz (Q,(J.2.1,J.2.2.1,J.2.2.2,e.2.2.2.1)) h [0,2,1,3,4,5]
      ·refine ab (mq ?_);obtain⟨Ta,SQ,h⟩:=aa h;refine jb (bb rfl SQ) ?_;refine aq (nl ?_);exact jz (U,(x.1,x.2.1,x.2.2.1,x.2.2.2,Ta)) h [0,1,2,3,4,5]
     ·refine xa ?_;exact jz (Q,(e.1,e.2.1,e.2.2.1,e.2.2.2.1)) h [1,2,0,3,4,5]
    ·refine jh 4 rfl ?_;refine jh 5 rfl ?_;refine eH (qQ (off:=1) [] trivial rfl rfl) ?_;refine kU ?_;refine aN rfl rfl rfl (aw rfl eM) ⟨rfl,trivial⟩ ?_;refine fw 3 rfl rfl rfl rfl (ap rfl kW mP rfl) ⟨rfl,trivial⟩ ?_;refine fw 0 rfl rfl rfl rfl (ap rfl ot (xG) rfl) ⟨rfl,trivial⟩ ?_;refine aN rfl rfl rfl (bF (t:=cU) [(.tmp 43,_)] [(s.1,j.2.2.2)] rfl rfl MG (.cons trivial (.agg (.pair .int .rep)) .nil) rfl rfl) ⟨rfl,trivial⟩ ?_;obtain⟨TU,SS,h⟩:=aa h;refine vB 4 rfl (fun v=>[.sl v 27 cU (y7.2.2.2.1++[(s.1,j.2.2.2)])]) (fun _=>rfl) rfl rfl rfl (bX rfl rfl MG (aD SS)) ⟨rfl,rfl,trivial⟩ ?_;refine aN rfl rfl rfl (aW rfl) ⟨rfl,trivial⟩ ?_;refine aN rfl rfl rfl (aw rfl o6) ⟨rfl,trivial⟩ ?_;refine fw 0 rfl rfl rfl rfl (ap rfl cP mP rfl) ⟨rfl,trivial⟩ ?_;obtain⟨S9,SO,h⟩:=aa h;refine aN rfl rfl rfl (bb rfl SO) ⟨rfl,rfl,trivial⟩ ?_;refine aN rfl rfl rfl (aw rfl eM) ⟨rfl,trivial⟩ ?_;refine pr 10 [true,true,true,true,true,false,false,false,false,true] [] [0] [.obj M 27 (.agg (.pair (I s.1) (Ri j.2.2.2)))] rfl (by kernel_rfl) (by kernel_rfl) (by kernel_rfl) fo (fun vs hv hB=>?_);obtain⟨w0,TR,rfl,Tz⟩:=ar hv;obtain⟨w1,TP,rfl,Tv⟩:=ar Tz;obtain⟨w2,TO,rfl,Tu⟩:=ar Tv;obtain⟨w3,TN,rfl,Tt⟩:=ar Tu;obtain⟨se,TM,rfl,To⟩:=ar Tt;obtain⟨w5,TL,rfl,Tn⟩:=ar To;obtain⟨w6,TK,rfl,Tm⟩:=ar Tn;obtain⟨w7,TJ,rfl,Tj⟩:=ar Tm;obtain⟨w8,TG,rfl,Ti⟩:=ar Tj;obtain⟨w9,TD,rfl,SJ⟩:=ar Ti;obtain rfl:=my SJ;refine⟨[0,1,2,3,4],[.obj c 98 (.agg (.pair (Ri j.1) (.pair (I j.2.1) (.eq (.int .u64 j.2.2.1))))),.obj b1 25 (.agg (.pair (I 0) (.pair (.eq (.slice none 0 0)) (.eq (.slice none 0 0))))),.obj b3 25 (.agg (.pair (I r2.1) (.pair (.eq z8) (.eq (.slice none 0 0))))),.sl se 27 cU (y7.2.2.2.1++[(s.1,j.2.2.2)])],by kernel_rfl,by decide,?_⟩;refine l7 3 rfl ?_;refine IW fun o27=>?_;refine l7 3 rfl ?_;refine qT rfl rfl (bh rfl kW o27 rfl rfl) ⟨rfl,rfl,trivial⟩ (by kernel_rfl) ?_;refine IX (by kernel_rfl) ?_;refine aq (ao (bn ?_));exact jz (se,(j.1,j.2.1,j.2.2.1,y7.2.2.2.1++[(s.1,j.2.2.2)],S9)) h [3,4,1,2]
   ·refine ab (mq ?_);obtain⟨S8,SN,h⟩:=aa h;refine jb (fQ rfl SN) ?_;refine aq (nl ?_);exact jz (X,(x9.1,x9.2.1,x9.2.2.1,x9.2.2.2.1,x9.2.2.2.2,S8)) h [0,1,2,3]
  ·refine xa ?_;exact jz (z8,(y7.1,y7.2.1,y7.2.2.1,y7.2.2.2.1,y7.2.2.2.2.1)) h [0,1,2,3]
 ·
  refine aL (Z:=Value) (α:=(List Int)×Int×Int×(List Int)) (fun O u=>[(0,Pt c),(6,Pt b1),(7,Pt b3),(8,I x4.2.2.2.2)]) (fun O u=>[.obj c 98 (.agg (.pair (Ri u.1) (.pair (I u.2.1) (.eq (.int .u64 u.2.2.1))))),.obj b1 25 (.agg (.pair (I 0) (.pair (.eq (.slice none 0 0)) (.eq (.slice none 0 0))))),.obj b3 25 (.agg (.pair (I r2.1) (.pair (.eq z5) (.eq O)))),.sl z5 27 cU x4.2.2.2.1,.sl O 3 (.int .i64) u.2.2.2]) h (fun K h=>?_) (fun O u h=>?_)
  ·refine sr ?_;iterate 2 refine mq ?_
   obtain⟨Y,SY,h⟩:=aa h;refine kc (ak [.tmp 51,.const (.int .i64 (1)),.tmp 52] rfl rfl NU rfl (lV k (x4.1,x4.2.1,x4.2.2.1) c 1 a2 Y SY)) ?_;refine aq (nt (aj ?_));refine eH (SE.nil 3 (.int .i64)) ?_;refine aG (fun E l=>[(0,Pt c),(6,Pt b1),(7,Pt b3),(8,I x4.2.2.2.2),(12,I l.2.2.2.2)]) (fun E l=>[.obj c 98 (.agg (.pair (Ri l.1) (.pair (I l.2.1) (.eq (.int .u64 l.2.2.1))))),.obj b1 25 (.agg (.pair (I 0) (.pair (.eq (.slice none 0 0)) (.eq (.slice none 0 0))))),.obj b3 25 (.agg (.pair (I r2.1) (.pair (.eq z5) (.eq E)))),.sl z5 27 cU x4.2.2.2.1,.sl E 3 (.int .i64) l.2.2.2.1]) (eY k x4) k (.slice none 0 0) (Y.2.1,Y.2.2.1,Y.2.2.2,([]:(List Int)),Y.1) (fun _=>rfl) h (SE.fin [1,2,3,4,0] ⟨rfl,rfl,rfl,rfl,rfl,trivial⟩ rfl) (fun n E l h=>?_);unfold eY at h;refine ag (sr (mq ?_));refine jb (jZ rfl) ?_;refine nt (ci h (fun h=>?_) (fun h=>?_))
   ·refine sk (ag (aj (cy ?_)));refine da (aw rfl fD) ?_;refine ea 2 (ap rfl bW mP rfl) ?_;refine dm ?_;refine dm ?_;refine db (Gx rfl rfl) ?_;refine dm ?_;obtain⟨qt,SL,h⟩:=aa h;refine db (bb rfl SL) ?_;refine db (Gx rfl rfl) ?_;refine dH rfl rfl rfl (bF (t:=(.int .i64)) [(.const (.int .i64 (1)),_),(.const (.int .i64 (2)),_),(.const (.int .i64 (3)),_),(.tmp 62,_),(.tmp 65,_)] [1,2,3,qd 9 x4.2.2.2.2,qd 9 qt] rfl rfl eJ (.cons rfl .int (.cons rfl .int (.cons rfl .int (.cons rfl .int (.cons rfl .int .nil))))) rfl rfl) ⟨rfl,rfl,rfl,rfl,rfl,trivial⟩ ?_;obtain⟨D,SX,h⟩:=aa h;refine DD 0 rfl rfl rfl rfl (ak [.tmp 60,.tmp 66] rfl rfl LU rfl (oW k (l.1,l.2.1,l.2.2.1) c [1,2,3,qd 9 x4.2.2.2.2,qd 9 qt] D SX)) ⟨rfl,rfl,trivial⟩ ?_;refine da (bF (t:=(.int .i64)) [(.tmp 67,_)] [D.1] rfl rfl eJ (.cons rfl .int .nil) rfl rfl) ?_;refine DF (Δ':=[.obj b1 25 (.agg (.pair (I 0) (.pair (.eq (.slice none 0 0)) (.eq (.slice none 0 0))))),.obj b3 25 (.agg (.pair (I r2.1) (.pair (.eq z5) (.eq E)))),.sl z5 27 cU x4.2.2.2.1,.sl E 3 (.int .i64) l.2.2.2.1,.obj c 98 (.agg (.pair (Ri D.2.1) (.pair (I D.2.2.1) (.eq (.int .u64 D.2.2.2)))))]) (by kernel_rfl) fo (by kernel_rfl) ?_;obtain⟨TS,SR,h⟩:=aa h;refine fr 3 ?_;refine dF rfl rfl rfl (bX rfl rfl eJ (aD SR)) ⟨rfl,rfl,trivial⟩ fun Td=>?_;refine fl fD ?_;refine yo fun o38=>?_;refine fr 2 ?_;refine bi rfl rfl (bh rfl bW o38 rfl rfl) ⟨rfl,rfl,trivial⟩ ?_;refine ao (aO (tn (ab (mq ?_))));obtain⟨S7,SK,h⟩:=aa h;refine jb (fQ rfl SK) ?_;refine aq (nl ?_);exact jz (Td,(D.2.1,D.2.2.1,D.2.2.2,l.2.2.2.1++[D.1],S7)) h [4,2,0,3,1]
   ·refine xa ?_;exact jz (E,(l.1,l.2.1,l.2.2.1,l.2.2.2.1)) h [0,1,2,3,4]
  ·refine aL (Z:=Unit) (α:=(List Int)×(List Int)×Int×Int) (fun pp y=>[(6,Pt b1),(7,Pt b3)]) (fun pp y=>[.obj b1 25 (.agg (.pair (I 0) (.pair (.eq (.slice none 0 0)) (.eq (.slice none 0 0))))),.obj b3 25 (.agg (.pair (I r2.1) (.pair (.eq z5) (.eq O)))),.sl z5 27 cU x4.2.2.2.1,.sl O 3 (.int .i64) y.1,.obj c 98 (.agg (.pair (Ri y.2.1) (.pair (I y.2.2.1) (.eq (.int .u64 y.2.2.2)))))]) h (fun K h=>?_) (fun pp y h=>?_)
   ·refine sr (mq ?_);obtain⟨F,SV,h⟩:=aa h;refine kb (ak [.tmp 71,.const (.int .i64 (2))] rfl rfl LS rfl (nh k (u.1,u.2.1,u.2.2.1) c 2 F SV)) ?_;refine nt (cv h (fun h=>?_) (fun h=>?_))
    ·refine ab (fl fD ?_);refine fr 2 ?_;refine lo bW ?_;refine mq ?_;refine jb (Gx rfl rfl) ?_;obtain⟨TF,mc,h⟩:=aa h;refine fr 4 ?_;refine kb (be (t:=(.int .i64)) rfl eA cP mc) ?_;refine bi rfl rfl (cX (i:=Int.toNat 0) rfl cP rfl (ik mc) rfl .int rfl) ⟨rfl,rfl,trivial⟩ ?_;refine nl ?_;exact jz ((),(List.set u.2.2.2 (Int.toNat 0) (qd 9 x4.2.2.2.2),F.2.1,F.2.2.1,F.2.2.2)) h [3,1,4,0,2]
    ·refine aS (ae ?_);exact jz ((),(u.2.2.2,F.2.1,F.2.2.1,F.2.2.2)) h [1,2,3,4,0]
   ·refine sr (fr 1 ?_);refine fr 2 ?_;refine cu (qQ (off:=1) [] trivial rfl rfl) ?_;refine fr 2 ?_;refine cu (qQ (off:=2) [] trivial rfl rfl) ?_;refine lo fK ?_;refine fr 1 ?_;refine bi rfl rfl (bh rfl fK trivial rfl rfl) ⟨rfl,rfl,trivial⟩ ?_;refine nt (aA (bv (pR (a:=.agg (.pair (I r2.1) (.pair (Rs cU x4.2.2.2.1) (Ri y.1)))) (a':=.rep aB (r2.1,x4.2.2.2.1,y.1)) (yx (.agg (.pair .int (.pair .rep .rep))))) ?_));refine bv (SE.fin (Γ':=[(6,_)]) [2,0,1] ⟨rfl,trivial⟩ rfl) ?_;cases h;exact aE () [.rep aB (r2.1,x4.2.2.2.1,y.1)] 1 ⟨⟨_,_,_,_,_,rfl,(.tail _ (.head _)),fK,(xG),rfl⟩,trivial⟩ rfl
def eF(k:Nat)(a1:Int):Nat→((List Int)×Int×Int×(List Int)×Int)→Option ((List Int)×(List Int)×Int×Int)
 |0,_=>none
 |n+1,y3=>
  if y3.2.2.2.2 < a1 then((cz k (y3.1,y3.2.1,y3.2.2.1) y3.2.2.2.2).bind fun r5=>
  (ek (bT (List.length y3.2.2.2.1+List.length [y3.2.2.2.2]))).bind fun _=>
  (aZ (y3.2.2.2.1++[y3.2.2.2.2]) r5.1).bind fun x8=>
  (aZ (y3.2.2.2.1++[y3.2.2.2.2]) y3.2.2.2.2).bind fun x9=>
  (aZ (List.set (y3.2.2.2.1++[y3.2.2.2.2]) (Int.toNat y3.2.2.2.2) x8) r5.1).bind fun e=>
  (ck (y3.2.2.2.2+1)).bind fun c=>
  eF k a1 n (r5.2.1,r5.2.2.1,r5.2.2.2,List.set (List.set (y3.2.2.2.1++[y3.2.2.2.2]) (Int.toNat y3.2.2.2.2) x8) (Int.toNat r5.1) y3.2.2.2.2,c)) else(some (y3.2.2.2.1,y3.1,y3.2.1,y3.2.2.1))
def gx(k:Nat)(a0:bB)(a1:Int):Option ((List Int)×bB):=
 ((eF k a1 k (a0.1,a0.2.1,a0.2.2,([]:(List Int)),0)):Option ((List Int)×(List Int)×Int×Int)).bind fun x1=>
 some (x1.1,(x1.2.1,x1.2.2.1,x1.2.2.2))
theorem rL(k:Nat)(a0:bB)(c:Nat)(a1:Int)(r:(List Int)×bB)(h:gx k a0 a1=some r):
 bZ Tryz.prog 63 [Pt c,I a1] [.obj c 98 (.agg (.pair (Ri a0.1) (.pair (I a0.2.1) (.eq (.int .u64 a0.2.2)))))] (fun _:Unit=>(bq [Ri r.1],[.obj c 98 (.agg (.pair (Ri r.2.1) (.pair (I r.2.2.1) (.eq (.int .u64 r.2.2.2)))))])):=by
 unfold gx at h
 replace h:=a9 h
 refine bZ.of 32 Tryz.func63 rfl Tryz.ntmps63 rfl fun S w0=>?_
 refine sr ?_
 refine cq ?_
 refine nt ?_
 refine sr ?_
 refine cq ?_
 refine nt ?_
 refine aL (Z:=Value) (α:=(List Int)×(List Int)×Int×Int) (fun z2 x1=>[(5,.eq z2)]) (fun z2 x1=>[.sl z2 3 (.int .i64) x1.1,.obj c 98 (.agg (.pair (Ri x1.2.1) (.pair (I x1.2.2.1) (.eq (.int .u64 x1.2.2.2)))))]) h (fun K h=>?_) (fun z2 x1 h=>?_)
 ·
  refine sr (cq (nt (aj ?_)));refine eH (SE.nil 3 (.int .i64)) ?_;refine aG (fun z4 y3=>[(0,Pt c),(1,I a1),(5,.eq z4),(6,I y3.2.2.2.2)]) (fun z4 y3=>[.obj c 98 (.agg (.pair (Ri y3.1) (.pair (I y3.2.1) (.eq (.int .u64 y3.2.2.1))))),.sl z4 3 (.int .i64) y3.2.2.2.1]) (eF k a1) k (.slice none 0 0) (a0.1,a0.2.1,a0.2.2,([]:(List Int)),0) (fun _=>rfl) h (SE.fin [1,0] ⟨rfl,rfl,rfl,rfl,trivial⟩ rfl) (fun n z4 y3 h=>?_);unfold eF at h;refine ag (sr ?_);iterate 2 refine mq ?_
  refine jb (bm rfl) ?_;refine nt (ci h (fun h=>?_) (fun h=>?_))
  ·refine sk (ag (aj (sr ?_)));iterate 2 refine mq ?_
   obtain⟨r5,y,h⟩:=aa h;refine kb (ak [.tmp 13,.tmp 14] rfl rfl BL rfl (dR k (y3.1,y3.2.1,y3.2.2.1) c y3.2.2.2.2 r5 y)) ?_;refine aq (nt (sr ?_));iterate 2 refine mq ?_
   refine ja (bF (t:=(.int .i64)) [(.tmp 17,_)] [y3.2.2.2.2] rfl rfl eJ (.cons rfl .int .nil) rfl rfl) ?_;obtain⟨u6,x,h⟩:=aa h;refine fr 1 ?_;refine dF rfl rfl rfl (bX rfl rfl eJ (aD x)) ⟨rfl,rfl,trivial⟩ fun v7=>?_;refine aq (nt (ab ?_));iterate 6 refine mq ?_
   obtain⟨x8,l,h⟩:=aa h;refine kb (be (t:=(.int .i64)) rfl eA cP l) ?_;refine ka (fi (i:=Int.toNat r5.1) (off:=0) rfl cP (fun _=>rfl) rfl (cT l).2.2 rfl) ?_;refine mq ?_;obtain⟨x9,j,h⟩:=aa h;refine kb (be (t:=(.int .i64)) rfl eA cP j) ?_;refine bi rfl rfl (cX (i:=Int.toNat y3.2.2.2.2) rfl cP rfl (ik j) rfl .int rfl) ⟨rfl,rfl,trivial⟩ ?_;obtain⟨D,e,h⟩:=aa h;refine kb (be (t:=(.int .i64)) rfl eA cP e) ?_;refine bi rfl rfl (cX (i:=Int.toNat r5.1) rfl cP rfl (ik e) rfl .int rfl) ⟨rfl,rfl,trivial⟩ ?_;refine ao (aO (tn (ab (mq ?_))));obtain⟨u,s,h⟩:=aa h;refine jb (bb rfl s) ?_;refine aq (nl ?_);exact jz (v7,(r5.2.1,r5.2.2.1,r5.2.2.2,List.set (List.set (y3.2.2.2.1++[y3.2.2.2.2]) (Int.toNat y3.2.2.2.2) x8) (Int.toNat r5.1) y3.2.2.2.2,u)) h [1,0]
  ·refine xa ?_;exact jz (z4,(y3.2.2.2.1,y3.1,y3.2.1,y3.2.2.1)) h [1,0]
 ·
  refine sr (mq ?_);refine aq (nt (aA ?_));refine bv (f9 [4,5,31] ⟨rfl,rfl,rfl,trivial⟩) ?_;cases h;exact aE () [_] 1 ⟨rfl,trivial⟩ rfl
def oU(k:Nat)(a0:Int)(a1:Int):Option Int:=
 (ek (a1≠0)).bind fun _=>
 (ck ((Int.tmod a0 a1)+a1)).bind fun x2=>
 (ek (a1≠0)).bind fun _=>
 some (Int.tmod x2 a1)
theorem zL(k:Nat)(a0:Int)(a1:Int)(r:Int)(h:oU k a0 a1=some r):
 bZ Tryz.prog 122 [I a0,I a1] [] (fun _:Unit=>(bq [I r],[])):=by
 unfold oU at h
 replace h:=a9 h
 refine bZ.of 12 Tryz.func122 rfl Tryz.ntmps122 rfl fun S w0=>?_
 refine sr ?_
 refine cq ?_
 refine nt ?_
 refine sr ?_
 iterate 2 refine mq ?_
 obtain⟨u1,j,h⟩:=aa h
 refine jb (Gt rfl (aD j)) ?_
 refine mq ?_
 obtain⟨x2,c,h⟩:=aa h
 refine jb (bb rfl c) ?_
 refine mq ?_
 obtain⟨u3,e,h⟩:=aa h
 refine jb (Gt rfl (aD e)) ?_
 refine aq ?_
 refine nt ?_
 refine aA ?_
 cases h
 exact ra
def dx(k:Nat)(a1:a8)(r7:(List Int)×bB)(c:(List Int)×Int×Int×(List Int)×Int×(List (List Int)))(e:Int×bB):Nat→(Int×(List (List Int)))→Option ((List Int)×Int×Int×(List Int)×(List (List Int)))
 |0,_=>none
 |n+1,h=>
  if h.1 < (c.2.2.2.1.length:Int) then((ck (e.1+h.1)).bind fun O=>
  (oU k O (c.2.2.2.1.length:Int)).bind fun j=>
  (((aZ c.2.2.2.1 j).bind fun M=>
  (aZ r7.1 c.2.2.2.2.1).bind fun J=>
  (aZ a1.2.1 J).bind fun I=>
  if I.1≤M then(some (true,h.2)) else((ck ((c.2.2.2.1.length:Int) - 1)).bind fun F=>
  some (decide (h.1=F),h.2))):Option (Bool×(List (List Int)))).bind fun l=>
  if l.1=true then((aZ l.2 j).bind fun s=>
  (aZ r7.1 c.2.2.2.2.1).bind fun r=>
  (ek (bT (List.length s+List.length [r]))).bind fun _=>
  (aZ c.2.2.2.1 j).bind fun E=>
  (aZ r7.1 c.2.2.2.2.1).bind fun D=>
  (aZ a1.2.1 D).bind fun y=>
  (ck (E - y.1)).bind fun x=>
  (aZ c.2.2.2.1 j).bind fun Q=>
  some (e.2.1,e.2.2.1,e.2.2.2,List.set c.2.2.2.1 (Int.toNat j) x,List.set l.2 (Int.toNat j) (s++[r]))) else((ck (h.1+1)).bind fun u=>
  dx k a1 r7 c e n (u,l.2))) else(some (e.2.1,e.2.2.1,e.2.2.2,c.2.2.2.1,h.2))
def fj(k:Nat)(a1:a8)(r7:(List Int)×bB):Nat→((List Int)×Int×Int×(List Int)×Int×(List (List Int)))→Option ((List Int)×Int×Int×(List (List Int)))
 |0,_=>none
 |n+1,c=>
  if c.2.2.2.2.1 < (r7.1.length:Int) then((((ck ((c.2.2.2.1.length:Int) - 1)).bind fun j=>
  (cz k (c.1,c.2.1,c.2.2.1) j).bind fun l=>
  dx k a1 r7 c l k (0,c.2.2.2.2.2)):Option ((List Int)×Int×Int×(List Int)×(List (List Int)))).bind fun e=>
  (ck (c.2.2.2.2.1+1)).bind fun h=>
  fj k a1 r7 n (e.1,e.2.1,e.2.2.1,e.2.2.2.1,h,e.2.2.2.2)) else(some (c.1,c.2.1,c.2.2.1,c.2.2.2.2.2))
def ic(k:Nat)(a0:bB)(a1:a8):Option ((List (List Int))×bB):=
 (ek (0≤(a1.2.2.length:Int)∧bT (Int.toNat (a1.2.2.length:Int)))).bind fun _=>
 (ek (bT (List.length ([]:(List Int))+List.length a1.2.2))).bind fun _=>
 (gx k (a0.1,a0.2.1,a0.2.2) (a1.2.1.length:Int)).bind fun r7=>
 ((fj k a1 r7 k (r7.2.1,r7.2.2.1,r7.2.2.2,([]:(List Int))++a1.2.2,0,List.replicate (Int.toNat (a1.2.2.length:Int)) ([]:(List Int)))):Option ((List Int)×Int×Int×(List (List Int)))).bind fun x8=>
 some (x8.2.2.2,(x8.1,x8.2.1,x8.2.2.1))
theorem sX(k:Nat)(a0:bB)(e:Nat)(a1:a8)(r:(List (List Int))×bB)(h:ic k a0 a1=some r):
 bZ Tryz.prog 81 [Pt e,.rep aB a1] [.obj e 98 (.agg (.pair (Ri a0.1) (.pair (I a0.2.1) (.eq (.int .u64 a0.2.2)))))] (fun _:Unit=>(bq [.rep (.slice (.slice (.int .i64))) r.1],[.obj e 98 (.agg (.pair (Ri r.2.1) (.pair (I r.2.2.1) (.eq (.int .u64 r.2.2.2)))))])):=by
 unfold ic at h
 replace h:=a9 h
 refine bZ.of 100 Tryz.func81 rfl Tryz.ntmps81 rfl fun S w0=>?_
 refine sr ?_
 refine bx fun b1=>?_
 refine cq ?_
 refine nt ?_
 refine sr ?_
 refine fl fD ?_
 refine lo bW ?_
 refine ol eA ?_
 obtain⟨u2,TA,h⟩:=aa h
 refine aF rfl rfl rfl (Gy (t:=.val) (d:=.slice none 0 0) rfl oJ Oz (aD TA).1 (aD TA).2) ⟨rfl,rfl,trivial⟩ fun v3=>?_
 refine cu (Am (F:=[.obj b1 25 (.rep aB a1),.obj e 98 (.agg (.pair (Ri a0.1) (.pair (I a0.2.1) (.eq (.int .u64 a0.2.2)))))])) ?_
 refine aq ?_
 refine nt ?_
 refine sr ?_
 refine aF rfl rfl rfl (lQ (t:=(.int .i64)) [] ([]:(List Int)) rfl rfl eJ .nil rfl rfl) trivial fun v4=>?_
 refine fl fD ?_
 refine fr 1 ?_
 refine lo bW ?_
 obtain⟨u5,TY,h⟩:=aa h
 refine fr 1 ?_
 refine dF rfl rfl rfl (bX rfl rfl eJ (aD TY)) ⟨rfl,rfl,trivial⟩ fun v6=>?_
 refine aq ?_
 refine nt ?_
 refine sr ?_
 refine mq ?_
 refine fl eM ?_
 refine fr 1 ?_
 refine lo kW ?_
 refine ol tp ?_
 obtain⟨r7,TZ,h⟩:=aa h
 have T8:=rL k (a0.1,a0.2.1,a0.2.2) e (a1.2.1.length:Int) r7 TZ
 refine fr 2 ?_
 refine kb (ak [.tmp 20,.tmp 23] rfl rfl RH rfl T8) ?_
 refine aq ?_
 refine nt ?_
 refine aL (Z:=(Value×(Nat→Value))) (α:=(List Int)×Int×Int×(List (List Int))) (fun z9 x8=>[(5,.eq z9.1)]) (fun z9 x8=>[.obj e 98 (.agg (.pair (Ri x8.1) (.pair (I x8.2.1) (.eq (.int .u64 x8.2.2.1)))))]++dK 23 z9 x8.2.2.2) h (fun K h=>?_) (fun z9 x8 h=>?_)
 ·
  refine sr (cq (nt (aj ?_)));refine aG (Z:=(Value×(Nat→Value))) (α:=(List Int)×Int×Int×(List Int)×Int×(List (List Int))) (fun Q j=>[(0,Pt e),(3,Pt b1),(5,.eq Q.1),(6,.eq v6),(7,Ri r7.1),(8,I j.2.2.2.2.1)]) (fun Q j=>[.obj e 98 (.agg (.pair (Ri j.1) (.pair (I j.2.1) (.eq (.int .u64 j.2.2.1))))),.obj b1 25 (.rep aB a1),.sl v6 3 (.int .i64) j.2.2.2.1]++dK 23 Q j.2.2.2.2.2) (fj k a1 r7) k (v3,fun _=>.slice none 0 0) (r7.2.1,r7.2.2.1,r7.2.2.2,([]:(List Int))++a1.2.2,0,List.replicate (Int.toNat (a1.2.2.length:Int)) ([]:(List Int))) (fun _=>rfl) h (aQ [.obj e 98 (.agg (.pair (Ri r7.2.1) (.pair (I r7.2.2.1) (.eq (.int .u64 r7.2.2.2))))),.obj b1 25 (.rep aB a1),.sl v6 3 (.int .i64) (([]:(List Int))++a1.2.2)] (dK 23 (v3,fun _=>.slice none 0 0) (List.replicate (Int.toNat (a1.2.2.length:Int)) ([]:(List Int)))) [0,1,2] ⟨rfl,rfl,rfl,rfl,rfl,rfl,trivial⟩ rfl) (fun n Q j h=>?_);unfold fj at h;refine ag (sr ?_);iterate 2 refine mq ?_
  refine ol eA ?_;refine jb (bm rfl) ?_;refine nt (ci h (fun h=>?_) (fun h=>?_))
  ·refine sk (aL (Z:=(Value×(Nat→Value))) (α:=(List Int)×Int×Int×(List Int)×(List (List Int))) (fun X u=>[(0,Pt e),(3,Pt b1),(5,.eq X.1),(6,.eq v6),(7,Ri r7.1),(8,I j.2.2.2.2.1)]) (fun X u=>[.obj e 98 (.agg (.pair (Ri u.1) (.pair (I u.2.1) (.eq (.int .u64 u.2.2.1))))),.obj b1 25 (.rep aB a1),.sl v6 3 (.int .i64) u.2.2.2.1]++dK 23 X u.2.2.2.2) h (fun K h=>?_) (fun X u h=>?_))
   ·refine aj (sr ?_);iterate 2 refine mq ?_
    refine fr 2 ?_;refine ka (cZ rfl rfl eA) ?_;obtain⟨TK,Tv,h⟩:=aa h;refine jb (fQ rfl Tv) ?_;obtain⟨c,TC,h⟩:=aa h;refine fr 1 ?_;refine kb (ak [.tmp 31,.tmp 34] rfl rfl BL rfl (dR k (j.1,j.2.1,j.2.2.1) e TK c TC)) ?_;refine aq (nt (sr ?_));refine cq (nt (aj ?_));refine aG (Z:=(Value×(Nat→Value))) (α:=Int×(List (List Int))) (fun E y=>[(0,Pt e),(3,Pt b1),(5,.eq E.1),(6,.eq v6),(7,Ri r7.1),(8,I j.2.2.2.2.1),(9,I c.1),(10,I y.1)]) (fun E y=>[.obj e 98 (.agg (.pair (Ri c.2.1) (.pair (I c.2.2.1) (.eq (.int .u64 c.2.2.2))))),.obj b1 25 (.rep aB a1),.sl v6 3 (.int .i64) j.2.2.2.1]++dK 23 E y.2) (dx k a1 r7 j c) k Q (0,j.2.2.2.2.2) (fun _=>rfl) h (aQ [.obj e 98 (.agg (.pair (Ri c.2.1) (.pair (I c.2.2.1) (.eq (.int .u64 c.2.2.2))))),.sl v6 3 (.int .i64) j.2.2.2.1,.obj b1 25 (.rep aB a1)] (dK 23 Q j.2.2.2.2.2) [0,2,1] ⟨rfl,rfl,rfl,rfl,rfl,rfl,rfl,rfl,trivial⟩ rfl) (fun n E y h=>?_);unfold dx at h;refine ag (sr ?_);iterate 2 refine mq ?_
    refine fr 2 ?_;refine ka (cZ rfl rfl eA) ?_;refine jb (bm rfl) ?_;refine nt (ci h (fun h=>?_) (fun h=>?_))
    ·refine sk (ag (aj (sr ?_)));iterate 2 refine mq ?_
     obtain⟨TJ,Tu,h⟩:=aa h;refine jb (bb rfl Tu) ?_;refine mq ?_;refine ka (cZ rfl rfl eA) ?_;obtain⟨s,TB,h⟩:=aa h;refine jb (ak [.tmp 44,.tmp 46] rfl rfl Ql rfl (zL k TJ (j.2.2.2.1.length:Int) s TB)) ?_;refine aq (nt ?_);refine aL (Z:=(Value×(Nat→Value))) (α:=Bool×(List (List Int))) (fun l x=>[(0,Pt e),(3,Pt b1),(5,.eq l.1),(6,.eq v6),(7,Ri r7.1),(8,I j.2.2.2.2.1),(9,I c.1),(10,I y.1),(11,I s),(68,.eq (.bool x.1))]) (fun l x=>[.obj e 98 (.agg (.pair (Ri c.2.1) (.pair (I c.2.2.1) (.eq (.int .u64 c.2.2.2))))),.obj b1 25 (.rep aB a1),.sl v6 3 (.int .i64) j.2.2.2.1]++dK 23 l x.2) h (fun K h=>?_) (fun l x h=>?_)
     ·refine cy ?_;refine dm ?_;refine dm ?_;obtain⟨UB,mc,h⟩:=aa h;refine eb 0 (be (t:=(.int .i64)) rfl eA cP mc) ?_;refine ea 0 (fi (i:=Int.toNat s) (off:=0) rfl cP (fun _=>rfl) rfl (cT mc).2.2 rfl) ?_;refine da (aw rfl eM) ?_;refine ea 2 (ap rfl kW mP rfl) ?_;refine dm ?_;refine dm ?_;obtain⟨UA,Tt,h⟩:=aa h;refine db (aH (t:=(.int .i64)) rfl eA cP Tt) ?_;refine da (an (t:=(.int .i64)) rfl cP rfl) ?_;obtain⟨Uz,To,h⟩:=aa h;refine db (aH (t:=cU) rfl tp ot To) ?_;refine da (aM 1 false rfl o6 rfl) ?_;refine da (an (t:=(.int .i64)) rfl cP rfl) ?_;refine db (qi rfl) ?_;refine uc rfl rfl rfl (aW rfl) ⟨rfl,trivial⟩ (fun hb=>?_) (fun hb=>?_)
      ·replace h:=cp (me hb) h;iterate 4 refine dg ?_
       refine df fo ?_;refine gn ?_;refine pt (nl ?_);exact fX (E,(true,y.2)) h (aQ [.sl v6 3 (.int .i64) j.2.2.2.1,.obj e 98 (.agg (.pair (Ri c.2.1) (.pair (I c.2.2.1) (.eq (.int .u64 c.2.2.2))))),.obj b1 25 (.rep aB a1)] (dK 23 E y.2) [1,2,0] ⟨rfl,rfl,rfl,rfl,rfl,rfl,rfl,rfl,rfl,rfl,trivial⟩ rfl)
      ·replace h:=bH (lY hb) h;refine cr rfl rfl rfl rfl rfl (aW rfl) ⟨rfl,rfl,trivial⟩ ?_;refine cr rfl rfl rfl rfl rfl (aW rfl) ⟨rfl,rfl,trivial⟩ ?_;refine mC 0 rfl rfl rfl rfl rfl rfl (cZ rfl rfl eA) ⟨rfl,rfl,trivial⟩ ?_;obtain⟨TG,Tn,h⟩:=aa h;refine cr rfl rfl rfl rfl rfl (fQ rfl Tn) ⟨rfl,rfl,rfl,trivial⟩ ?_;refine df fo ?_;refine gb (dr rfl) ?_;refine pf (nl ?_);exact fX (E,(decide (y.1=TG),y.2)) h (aQ [.sl v6 3 (.int .i64) j.2.2.2.1,.obj e 98 (.agg (.pair (Ri c.2.1) (.pair (I c.2.2.1) (.eq (.int .u64 c.2.2.2))))),.obj b1 25 (.rep aB a1)] (dK 23 E y.2) [1,2,0] ⟨rfl,rfl,rfl,rfl,rfl,rfl,rfl,rfl,rfl,rfl,trivial⟩ rfl)
     ·refine cv h (fun h=>?_) (fun h=>?_)
      ·refine ag ?_;obtain⟨O,J,h⟩:=aa h;refine eH (nu (pre:=[.obj e 98 (.agg (.pair (Ri c.2.1) (.pair (I c.2.2.1) (.eq (.int .u64 c.2.2.2))))),.obj b1 25 (.rep aB a1),.sl v6 3 (.int .i64) j.2.2.2.1]) (kB J).2) ?_;obtain⟨M,Tm,h⟩:=aa h;obtain⟨U4,Tz,h⟩:=aa h;obtain⟨Uy,ac,h⟩:=aa h;obtain⟨Ux,Tj,h⟩:=aa h;obtain⟨Uw,Ti,h⟩:=aa h;obtain⟨U,Tf,h⟩:=aa h;obtain⟨Uu,Y,h⟩:=aa h;refine vz (Δ:=[.sl (l.2 (Int.toNat s)) 3 (.int .i64) O,.sl l.1 23 .val (eP l.2 0 x.2),.obj e 98 (.agg (.pair (Ri c.2.1) (.pair (I c.2.2.1) (.eq (.int .u64 c.2.2.2))))),.obj b1 25 (.rep aB a1),.sl v6 3 (.int .i64) j.2.2.2.1]) (F:=(kE l.2 0 x.2).eraseIdx (Int.toNat s)) (Z:=Value) (fun i=>[(0,Pt e),(3,Pt b1),(5,.eq l.1),(6,.eq v6),(7,Ri r7.1),(8,I j.2.2.2.2.1)]) (fun i=>[.sl v6 3 (.int .i64) (List.set j.2.2.2.1 (Int.toNat s) U),.sl l.1 23 .val (List.set (eP l.2 0 x.2) (Int.toNat s) i),.sl i 3 (.int .i64) (O++[M]),.obj e 98 (.agg (.pair (Ri c.2.1) (.pair (I c.2.2.1) (.eq (.int .u64 c.2.2.2))))),.obj b1 25 (.rep aB a1)]) (fun S w=>?_) (fun D=>?_)
       ·refine kU ?_;refine aN rfl rfl rfl (aW rfl) ⟨rfl,trivial⟩ ?_;refine aN rfl rfl rfl (aW rfl) ⟨rfl,trivial⟩ ?_;refine aN rfl rfl rfl (aW rfl) ⟨rfl,trivial⟩ ?_;refine aN rfl rfl rfl (aW rfl) ⟨rfl,trivial⟩ ?_;refine aN rfl rfl rfl (aW rfl) ⟨rfl,trivial⟩ ?_;refine aN rfl rfl rfl (aW rfl) ⟨rfl,trivial⟩ ?_;refine fw 1 rfl rfl rfl rfl (be (t:=.val) rfl k9 bW (ji J)) ⟨rfl,rfl,trivial⟩ ?_;refine fw 1 rfl rfl rfl rfl (fi (i:=Int.toNat s) (off:=0) rfl bW (fun _=>rfl) rfl (cT (ji J)).2.2 rfl) ⟨rfl,trivial⟩ ?_;refine aN rfl rfl rfl (aW rfl) ⟨rfl,trivial⟩ ?_;refine aN rfl rfl rfl (aW rfl) ⟨rfl,trivial⟩ ?_;refine aN rfl rfl rfl (aH (t:=(.int .i64)) rfl eA cP Tm) ⟨rfl,rfl,trivial⟩ ?_;refine aN rfl rfl rfl (an (t:=(.int .i64)) rfl cP rfl) ⟨rfl,trivial⟩ ?_;refine aN rfl rfl rfl (bF (t:=(.int .i64)) [(.tmp 80,_)] [M] rfl rfl eJ (.cons rfl .int .nil) rfl rfl) ⟨rfl,trivial⟩ ?_;refine vB 0 rfl (fun v=>[.sl v 3 (.int .i64) (O++[M])]) (fun _=>rfl) rfl rfl rfl (bX rfl rfl eJ (aD Tz)) ⟨rfl,rfl,trivial⟩ ?_;refine aN rfl rfl rfl (aW rfl) ⟨rfl,trivial⟩ ?_;refine aN rfl rfl rfl (aW rfl) ⟨rfl,trivial⟩ ?_;refine fw 4 rfl rfl rfl rfl (be (t:=(.int .i64)) rfl eA cP ac) ⟨rfl,rfl,trivial⟩ ?_;refine fw 4 rfl rfl rfl rfl (fi (i:=Int.toNat s) (off:=0) rfl cP (fun _=>rfl) rfl (cT ac).2.2 rfl) ⟨rfl,trivial⟩ ?_;refine aN rfl rfl rfl (aw rfl eM) ⟨rfl,trivial⟩ ?_;refine fw 3 rfl rfl rfl rfl (ap rfl kW mP rfl) ⟨rfl,trivial⟩ ?_;refine aN rfl rfl rfl (aW rfl) ⟨rfl,trivial⟩ ?_;refine aN rfl rfl rfl (aW rfl) ⟨rfl,trivial⟩ ?_;refine aN rfl rfl rfl (aH (t:=(.int .i64)) rfl eA cP Tj) ⟨rfl,rfl,trivial⟩ ?_;refine aN rfl rfl rfl (an (t:=(.int .i64)) rfl cP rfl) ⟨rfl,trivial⟩ ?_;refine aN rfl rfl rfl (aH (t:=cU) rfl tp ot Ti) ⟨rfl,rfl,trivial⟩ ?_;refine aN rfl rfl rfl (aM 1 false rfl o6 rfl) ⟨rfl,trivial⟩ ?_;refine aN rfl rfl rfl (an (t:=(.int .i64)) rfl cP rfl) ⟨rfl,trivial⟩ ?_;refine aN rfl rfl rfl (fQ rfl Tf) ⟨rfl,rfl,trivial⟩ ?_;refine fw 1 rfl rfl rfl rfl (be (t:=.val) rfl k9 bW (ji J)) ⟨rfl,rfl,trivial⟩ ?_;refine pr 29 [true,true,false,false,true,true,true,true,true,true,true,true,true,true,true,true,true,true,true,true,true,true,true,true,true,true,true,false,true] [98] [] [] rfl (by kernel_rfl) (by kernel_rfl) (by kernel_rfl) fo (fun vs hv hB=>?_);obtain⟨w0,U2,rfl,TX⟩:=ar hv;obtain⟨w1,U1,rfl,TU⟩:=ar TX;obtain⟨w2,U0,rfl,TS⟩:=ar TU;obtain⟨w3,UZ,rfl,TR⟩:=ar TS;obtain⟨w4,UY,rfl,TP⟩:=ar TR;obtain⟨w5,UX,rfl,TO⟩:=ar TP;obtain⟨w6,UW,rfl,TN⟩:=ar TO;obtain⟨w7,UV,rfl,TM⟩:=ar TN;obtain⟨w8,UU,rfl,TL⟩:=ar TM;obtain⟨w9,Ut,rfl,S9⟩:=ar TL;obtain⟨UT,Us,rfl,S8⟩:=ar S9;obtain⟨US,Ur,rfl,S7⟩:=ar S8;obtain⟨UR,Up,rfl,S5⟩:=ar S7;obtain⟨D,Uo,rfl,SZ⟩:=ar S5;obtain⟨UQ,Un,rfl,SY⟩:=ar SZ;obtain⟨UP,Um,rfl,SX⟩:=ar SY;obtain⟨UO,Ul,rfl,SV⟩:=ar SX;obtain⟨UN,Uk,rfl,SU⟩:=ar SV;obtain⟨UM,Uj,rfl,SS⟩:=ar SU;obtain⟨UL,Ui,rfl,SR⟩:=ar SS;obtain⟨UK,Uh,rfl,SQ⟩:=ar SR;obtain⟨UJ,Ug,rfl,SO⟩:=ar SQ;obtain⟨UI,Uf,rfl,SN⟩:=ar SO;obtain⟨UH,Ue,rfl,SL⟩:=ar SN;obtain⟨UG,Ud,rfl,SK⟩:=ar SL;obtain⟨UF,Uc,rfl,SJ⟩:=ar SK;obtain⟨UE,Ub,rfl,se⟩:=ar SJ
        obtain⟨UD,Ua,rfl,qt⟩:=ar se;obtain⟨UC,T9,rfl,pp⟩:=ar qt;obtain rfl:=my pp;refine⟨[0,1,2,3,4],[.sl l.1 23 .val (eP l.2 0 x.2),.obj e 98 (.agg (.pair (Ri c.2.1) (.pair (I c.2.2.1) (.eq (.int .u64 c.2.2.2))))),.obj b1 25 (.rep aB a1),.sl v6 3 (.int .i64) j.2.2.2.1,.sl D 3 (.int .i64) (O++[M])],by kernel_rfl,by decide,?_⟩;refine l7 4 rfl ?_;refine IW fun o34=>?_;refine l7 1 rfl ?_;refine qT rfl rfl (cX (i:=Int.toNat s) rfl bW rfl (ik (ji J)) rfl (.val o34) o34) ⟨rfl,rfl,trivial⟩ (by kernel_rfl) ?_;refine l7 4 rfl ?_;refine IV rfl rfl rfl rfl (be (t:=(.int .i64)) rfl eA cP Y) ⟨rfl,rfl,trivial⟩ (by kernel_rfl) ?_;refine qT rfl rfl (cX (i:=Int.toNat s) rfl cP rfl (ik Y) rfl .int rfl) ⟨rfl,rfl,trivial⟩ (by kernel_rfl) ?_;refine tq ?_;refine bv (SE.fin (Γ':=[(0,Pt e),(3,Pt b1),(5,.eq l.1),(6,.eq v6),(7,Ri r7.1),(8,I j.2.2.2.2.1)]) (Δ':=[.sl v6 3 (.int .i64) (List.set j.2.2.2.1 (Int.toNat s) U),.sl l.1 23 .val (List.set (eP l.2 0 x.2) (Int.toNat s) D),.sl D 3 (.int .i64) (O++[M]),.obj e 98 (.agg (.pair (Ri c.2.1) (.pair (I c.2.2.1) (.eq (.int .u64 c.2.2.2))))),.obj b1 25 (.rep aB a1)]) [0,1,2,3,4] ⟨rfl,rfl,rfl,rfl,rfl,rfl,trivial⟩ rfl) ?_;exact fun a w st=>⟨rfl,(D),(SE.fin (Γ':=[(0,Pt e),(3,Pt b1),(5,.eq l.1),(6,.eq v6),(7,Ri r7.1),(8,I j.2.2.2.2.1)]) (Δ':=[.sl v6 3 (.int .i64) (List.set j.2.2.2.1 (Int.toNat s) U),.sl l.1 23 .val (List.set (eP l.2 0 x.2) (Int.toNat s) D),.sl D 3 (.int .i64) (O++[M]),.obj e 98 (.agg (.pair (Ri c.2.1) (.pair (I c.2.2.1) (.eq (.int .u64 c.2.2.2))))),.obj b1 25 (.rep aB a1)]) [0,1,2,3,4] ⟨rfl,rfl,rfl,rfl,rfl,rfl,trivial⟩ rfl) a w st⟩
       ·show JN _ _ [(0,Pt e),(3,Pt b1),(5,.eq l.1),(6,.eq v6),(7,Ri r7.1),(8,I j.2.2.2.2.1)] ([.sl v6 3 (.int .i64) (List.set j.2.2.2.1 (Int.toNat s) U),.sl l.1 23 .val (List.set (eP l.2 0 x.2) (Int.toNat s) D),.sl D 3 (.int .i64) (O++[M]),.obj e 98 (.agg (.pair (Ri c.2.1) (.pair (I c.2.2.1) (.eq (.int .u64 c.2.2.2))))),.obj b1 25 (.rep aB a1)]++(kE l.2 0 x.2).eraseIdx (Int.toNat s));refine cN 1 rfl ?_;refine cN 2 rfl ?_;refine bv (BU (pre:=[.sl v6 3 (.int .i64) (List.set j.2.2.2.1 (Int.toNat s) U),.obj e 98 (.agg (.pair (Ri c.2.1) (.pair (I c.2.2.1) (.eq (.int .u64 c.2.2.2))))),.obj b1 25 (.rep aB a1)]) (z:=l) (i:=Int.toNat s) (kB J).2) ?_;refine tn (dh (Ar (eq_false (by decide)) ?_));refine aI (aI (bO (bn ?_)));exact fX ((l.1,m4 l.2 (Int.toNat s) D),(c.2.1,c.2.2.1,c.2.2.2,List.set j.2.2.2.1 (Int.toNat s) U,List.set x.2 (Int.toNat s) (O++[M]))) h (aQ [.sl v6 3 (.int .i64) (List.set j.2.2.2.1 (Int.toNat s) U),.obj e 98 (.agg (.pair (Ri c.2.1) (.pair (I c.2.2.1) (.eq (.int .u64 c.2.2.2))))),.obj b1 25 (.rep aB a1)] (dK 23 (l.1,m4 l.2 (Int.toNat s) D) (List.set x.2 (Int.toNat s) (O++[M]))) [1,2,0] ⟨rfl,rfl,rfl,rfl,rfl,rfl,trivial⟩ rfl)
      ·refine aS (aO (tn (ab (mq ?_))));obtain⟨TF,Td,h⟩:=aa h;refine jb (bb rfl Td) ?_;refine aq (nl ?_);exact fX (l,(TF,x.2)) h (aQ [.obj e 98 (.agg (.pair (Ri c.2.1) (.pair (I c.2.2.1) (.eq (.int .u64 c.2.2.2))))),.obj b1 25 (.rep aB a1),.sl v6 3 (.int .i64) j.2.2.2.1] (dK 23 l x.2) [0,1,2] ⟨rfl,rfl,rfl,rfl,rfl,rfl,rfl,rfl,trivial⟩ rfl)
    ·refine dh (aI (aI (bO (bn ?_))));exact fX (E,(c.2.1,c.2.2.1,c.2.2.2,j.2.2.2.1,y.2)) h (aQ [.sl v6 3 (.int .i64) j.2.2.2.1,.obj e 98 (.agg (.pair (Ri c.2.1) (.pair (I c.2.2.1) (.eq (.int .u64 c.2.2.2))))),.obj b1 25 (.rep aB a1)] (dK 23 E y.2) [1,2,0] ⟨rfl,rfl,rfl,rfl,rfl,rfl,trivial⟩ rfl)
   ·refine ab (mq ?_);obtain⟨TD,Ta,h⟩:=aa h;refine jb (bb rfl Ta) ?_;refine aq (nl ?_);exact fX (X,(u.1,u.2.1,u.2.2.1,u.2.2.2.1,TD,u.2.2.2.2)) h (aQ [.obj e 98 (.agg (.pair (Ri u.1) (.pair (I u.2.1) (.eq (.int .u64 u.2.2.1))))),.obj b1 25 (.rep aB a1),.sl v6 3 (.int .i64) u.2.2.2.1] (dK 23 X u.2.2.2.2) [0,1,2] ⟨rfl,rfl,rfl,rfl,rfl,rfl,trivial⟩ rfl)
  ·refine xa ?_;exact fX (Q,(j.1,j.2.1,j.2.2.1,j.2.2.2.2.2)) h (aQ [.obj e 98 (.agg (.pair (Ri j.1) (.pair (I j.2.1) (.eq (.int .u64 j.2.2.1))))),.obj b1 25 (.rep aB a1),.sl v6 3 (.int .i64) j.2.2.2.1] (dK 23 Q j.2.2.2.2.2) [0] ⟨rfl,trivial⟩ rfl)
 ·
  refine sr (mq ?_);refine aq (nt (aA ?_));refine bv (IP (pre:=[.obj e 98 (.agg (.pair (Ri x8.1) (.pair (I x8.2.1) (.eq (.int .u64 x8.2.2.1)))))])) ?_;refine bv (f9 [4,5,99] ⟨rfl,rfl,rfl,trivial⟩) ?_;cases h;exact aE () [_] 1 ⟨rfl,trivial⟩ rfl
def gY(k:Nat)(a0:Int)(a1:Int)(a2:Int):Option Bool:=
 ((if a1≤a0 then(some (decide (a0≤a2))) else(some false)):Option (Bool)).bind fun x1=>
 some x1
theorem jd(k:Nat)(a0:Int)(a1:Int)(a2:Int)(r:Bool)(h:gY k a0 a1 a2=some r):
 bZ Tryz.prog 90 [I a0,I a1,I a2] [] (fun _:Unit=>(bq [.eq (.bool r)],[])):=by
 unfold gY at h
 replace h:=a9 h
 refine bZ.of 15 Tryz.func90 rfl Tryz.ntmps90 rfl fun S w0=>?_
 refine sr ?_
 refine cq ?_
 refine nt ?_
 refine aL (Z:=Unit) (α:=Bool) (fun z2 x1=>[(6,.eq (.bool x1))]) (fun z2 x1=>[]) h (fun K h=>?_) (fun z2 x1 h=>?_)
 ·
  refine ab ?_;iterate 2 refine mq ?_
  refine jb (qi rfl) ?_;refine mq ?_;refine bC (s:=10) rfl (fun hb=>?_) (fun hb=>?_)
  ·replace h:=cp (me hb) h;refine gm ?_;refine gm ?_;refine gb (uS rfl) ?_;refine pt ?_;refine aq (nl ?_);exact jz ((),decide (a0≤a2)) h []
  ·replace h:=bH (lY hb) h;iterate 3 refine gn ?_
   refine pf ?_;refine aq (nl ?_);exact jz ((),false) h []
 ·
  refine aA ?_;cases h;exact ra
def fO(k:Nat)(a0:a8)(e:lZ):Nat→Int→Option (Except Int Unit)
 |0,_=>none
 |n+1,c=>
  if c < (e.2.length:Int) then((aZ e.2 c).bind fun x=>
  (ck (a0.1 - 1)).bind fun u=>
  (gY k x 0 u).bind fun y=>
  if¬(y=true) then(some (.error 1)) else(((if 0 < c then((aZ e.2 c).bind fun r=>
  (ck (c - 1)).bind fun l=>
  (aZ e.2 l).bind fun j=>
  some (decide (r≤j))) else(some false)):Option (Bool)).bind fun s=>
  if s=true then(some (.error 5)) else((ck (c+1)).bind fun h=>
  fO k a0 e n h))) else(some (.ok ()))
def fP(k:Nat)(a0:a8):Nat→Int→Option (Except Int Unit)
 |0,_=>none
 |n+1,y5=>
  if y5 < (a0.2.1.length:Int) then(bE (α:=Unit) ((aZ a0.2.1 y5).bind fun x9=>
  (gY k x9.1 1 3).bind fun j=>
  if¬(j=true) then(some (.error 1)) else((aZ a0.2.1 y5).bind fun h=>
  fO k a0 h k 0)) (fun e=>some (.error e)) fun _=>
  (ck (y5+1)).bind fun c=>
  fP k a0 n c) else(some (.ok ()))
def fN(k:Nat)(a0:a8):Nat→Int→Option (Except Int Unit)
 |0,_=>none
 |n+1,c=>
  if c < (a0.2.2.length:Int) then((aZ a0.2.2 c).bind fun h=>
  (gY k h 0 9).bind fun j=>
  if¬(j=true) then(some (.error 1)) else((ck (c+1)).bind fun e=>
  fN k a0 n e)) else(some (.ok ()))
def m5(k:Nat)(a0:a8):Option Int:=
 (gY k a0.1 1 6).bind fun r2=>
 if¬(r2=true) then(some 1) else(if 5 < (a0.2.1.length:Int) then(some 6) else(bE (α:=Unit) (fP k a0 k 0) (some) fun _=>
 if(a0.2.2.length:Int)=0 then(some 7) else(if 3 < (a0.2.2.length:Int) then(some 6) else(bE (α:=Unit) (fN k a0 k 0) (some) fun _=>
 some 0))))
theorem xp(k:Nat)(a0:a8)(r:Int)(h:m5 k a0=some r):
 bZ Tryz.prog 34 [.rep aB a0] [] (fun _:Unit=>(bq [I r],[])):=by
 unfold m5 at h
 replace h:=a9 h
 refine bZ.of 87 Tryz.func34 rfl Tryz.ntmps34 rfl fun S w0=>?_
 refine sr ?_
 refine bx fun b1=>?_
 refine cq ?_
 refine nt ?_
 refine ag ?_
 refine sr ?_
 refine fl kZ ?_
 refine lo cP ?_
 obtain⟨r2,SZ,h⟩:=aa h
 have S5:=jd k a0.1 1 6 r2 SZ
 refine jc (ak [.tmp 8,.const (.int .i64 (1)),.const (.int .i64 (6))] rfl rfl Io rfl S5) ?_
 refine ja (d5 rfl) ?_
 refine nt ?_
 refine cw h (fun h=>?_) (fun h=>?_)
 ·
  refine sr (cq (nt (rx ?_)));cases h;exact ra
 ·
  refine sk (ag (sr (fl eM ?_)));refine lo kW ?_;refine ol tp ?_;refine jb (jZ rfl) ?_;refine nt (ci h (fun h=>?_) (fun h=>?_))
  ·refine sr (cq (nt (rx ?_)));cases h;exact ra
  ·refine sk (dA (Z:=Unit) (α:=Unit) (fun z4 x3=>[(1,Pt b1)]) (fun z4 x3=>[.obj b1 25 (.rep aB a0)]) (fun e=>e=r) h (fun e h=>Option.some.inj h) (fun K hR h=>?_) (fun z4 x3 h=>?_))
   ·refine sr (cq (nt (aj ?_)));refine aG (fun z6 y5=>[(1,Pt b1),(3,I y5)]) (fun z6 y5=>[.obj b1 25 (.rep aB a0)]) (fP k a0) k () 0 (fun _=>rfl) h (SE.fin [0] ⟨rfl,rfl,trivial⟩ rfl) (fun n z6 y5 h=>?_);unfold fP at h;refine ag (sr (mq ?_));refine fl eM ?_;refine lo kW ?_;refine ol tp ?_;refine jb (bm rfl) ?_;refine nt (ci h (fun h=>?_) (fun h=>?_))
    ·refine sk (dA (Z:=Unit) (α:=Unit) (fun z8 x7=>[(1,Pt b1),(3,I y5)]) (fun z8 x7=>[.obj b1 25 (.rep aB a0)]) (fun e=>e=r) h (fun e h=>hR e h) (fun K hR h=>?_) (fun z8 x7 h=>?_))
     ·refine aj (ag (sr (fl eM ?_)));refine lo kW ?_;refine mq ?_;obtain⟨x9,SY,h⟩:=aa h;refine jb (aH (t:=cU) rfl tp ot SY) ?_;refine ja (aM 1 false rfl o6 rfl) ?_;refine ja (an (t:=(.int .i64)) rfl cP rfl) ?_;obtain⟨SX,se,h⟩:=aa h;refine jc (ak [.tmp 27,.const (.int .i64 (1)),.const (.int .i64 (3))] rfl rfl Io rfl (jd k x9.1 1 3 SX se)) ?_;refine ja (d5 rfl) ?_;refine nt (cw h (fun h=>?_) (fun h=>?_))
      ·refine sr (cq (nt (rx (br (ba (aP ?_))))));obtain rfl:=hR _ h;exact ra
      ·refine sk (sr (fl eM ?_));refine lo kW ?_;refine mq ?_;obtain⟨s,mc,h⟩:=aa h;refine jb (aH (t:=cU) rfl tp ot mc) ?_;refine ja (aM 1 false rfl ta rfl) ?_;refine ja (an (t:=(.slice (.int .i64))) rfl bW rfl) ?_;refine aq (nt (sr ?_));refine cq (nt (aj ?_));refine aG (fun D c=>[(1,Pt b1),(3,I y5),(4,Ri s.2),(5,I c)]) (fun D c=>[.obj b1 25 (.rep aB a0)]) (fO k a0 s) k () 0 (fun _=>rfl) h (SE.fin [0] ⟨rfl,rfl,rfl,rfl,trivial⟩ rfl) (fun n D c h=>?_);unfold fO at h;refine ag (sr ?_);iterate 2 refine mq ?_
       refine ol eA ?_;refine jb (bm rfl) ?_;refine nt (ci h (fun h=>?_) (fun h=>?_))
       ·refine sk (ag (aj (ag (ag (cy ?_)))));refine dm ?_;refine dm ?_;obtain⟨SS,ac,h⟩:=aa h;refine db (aH (t:=(.int .i64)) rfl eA cP ac) ?_;refine da (an (t:=(.int .i64)) rfl cP rfl) ?_;refine da (aw rfl kZ) ?_;refine ea 0 (ap rfl cP mP rfl) ?_;obtain⟨SR,Y,h⟩:=aa h;refine db (fQ rfl Y) ?_;refine df fo ?_;obtain⟨SV,qt,h⟩:=aa h;refine jc (ak [.tmp 45,.const (.int .i64 (0)),.tmp 48] rfl rfl Io rfl (jd k SS 0 SR SV qt)) ?_;refine ja (d5 rfl) ?_;refine nt (cw h (fun h=>?_) (fun h=>?_))
        ·refine sr (cq (nt (rx (br (ba (br (ba (aP ?_))))))));obtain rfl:=hR _ h;exact ra
        ·refine sk (aL (Z:=Unit) (α:=Bool) (fun y l=>[(1,Pt b1),(3,I y5),(4,Ri s.2),(5,I c),(64,.eq (.bool l))]) (fun y l=>[.obj b1 25 (.rep aB a0)]) h (fun K h=>?_) (fun y l h=>?_))
         ·refine cy ?_;refine dm ?_;refine db (jZ rfl) ?_;refine uc rfl rfl rfl (aW rfl) ⟨rfl,trivial⟩ (fun hb=>?_) (fun hb=>?_)
          ·replace h:=cp (me hb) h;refine cr rfl rfl rfl rfl rfl (aW rfl) ⟨rfl,rfl,trivial⟩ ?_;refine cr rfl rfl rfl rfl rfl (aW rfl) ⟨rfl,rfl,trivial⟩ ?_;obtain⟨SQ,X,h⟩:=aa h;refine cr rfl rfl rfl rfl rfl (aH (t:=(.int .i64)) rfl eA cP X) ⟨rfl,rfl,rfl,trivial⟩ ?_;refine cr rfl rfl rfl rfl rfl (an (t:=(.int .i64)) rfl cP rfl) ⟨rfl,rfl,trivial⟩ ?_;refine cr rfl rfl rfl rfl rfl (aW rfl) ⟨rfl,rfl,trivial⟩ ?_;refine cr rfl rfl rfl rfl rfl (aW rfl) ⟨rfl,rfl,trivial⟩ ?_;obtain⟨S7,U,h⟩:=aa h;refine cr rfl rfl rfl rfl rfl (fQ rfl U) ⟨rfl,rfl,rfl,trivial⟩ ?_;obtain⟨SO,Q,h⟩:=aa h;refine cr rfl rfl rfl rfl rfl (aH (t:=(.int .i64)) rfl eA cP Q) ⟨rfl,rfl,rfl,trivial⟩ ?_;refine cr rfl rfl rfl rfl rfl (an (t:=(.int .i64)) rfl cP rfl) ⟨rfl,rfl,trivial⟩ ?_;refine df fo ?_;refine gb (uS rfl) ?_;refine pt (nl ?_);exact jz ((),decide (SQ≤SO)) h [0]
          ·replace h:=bH (lY hb) h;iterate 9 refine dg ?_
           refine df fo ?_;refine gn ?_;refine pf (nl ?_);exact jz ((),false) h [0]
         ·refine cv h (fun h=>?_) (fun h=>?_)
          ·refine sr (cq (nt (aA (br (ba (br (ba (aP ?_))))))));obtain rfl:=hR _ h;exact ra
          ·refine aS (aO (tn (ab (mq ?_))));obtain⟨SN,O,h⟩:=aa h;refine jb (bb rfl O) ?_;refine aq (nl ?_);exact jz ((),SN) h [0]
       ·refine dh (aI (aI (bO (bn ?_))));exact jz ((),()) h [0]
     ·refine ab (mq ?_);obtain⟨SL,M,h⟩:=aa h;refine jb (bb rfl M) ?_;refine aq (nl ?_);exact jz ((),SL) h [0]
    ·refine xa ?_;exact jz ((),()) h [0]
   ·refine ag (sr (fl fD ?_));refine lo bW ?_;refine ol eA ?_;refine jb (dr rfl) ?_;refine nt (ci h (fun h=>?_) (fun h=>?_))
    ·refine sr (cq (nt (rx ?_)));cases h;exact ra
    ·refine sk (ag (sr (fl fD ?_)));refine lo bW ?_;refine ol eA ?_;refine jb (jZ rfl) ?_;refine nt (ci h (fun h=>?_) (fun h=>?_))
     ·refine sr (cq (nt (rx ?_)));cases h;exact ra
     ·refine sk (dA (Z:=Unit) (α:=Unit) (fun x E=>[]) (fun x E=>[]) (fun e=>e=r) h (fun e h=>Option.some.inj h) (fun K hR h=>?_) (fun x E h=>?_))
      ·refine sr (cq (nt (aj ?_)));refine aG (fun u j=>[(1,Pt b1),(6,I j)]) (fun u j=>[.obj b1 25 (.rep aB a0)]) (fN k a0) k () 0 (fun _=>rfl) h (SE.fin [0] ⟨rfl,rfl,trivial⟩ rfl) (fun n u j h=>?_);unfold fN at h;refine ag (sr (mq ?_));refine fl fD ?_;refine lo bW ?_;refine ol eA ?_;refine jb (bm rfl) ?_;refine nt (ci h (fun h=>?_) (fun h=>?_))
       ·refine sk (ag (aj (sr (fl fD ?_))));refine lo bW ?_;refine mq ?_;obtain⟨SK,J,h⟩:=aa h;refine jb (aH (t:=(.int .i64)) rfl eA cP J) ?_;refine ja (an (t:=(.int .i64)) rfl cP rfl) ?_;obtain⟨SU,pp,h⟩:=aa h;refine jc (ak [.tmp 84,.const (.int .i64 (0)),.const (.int .i64 (9))] rfl rfl Io rfl (jd k SK 0 9 SU pp)) ?_;refine ja (d5 rfl) ?_;refine nt (cw h (fun h=>?_) (fun h=>?_))
        ·refine sr (cq (nt (aA (br (ba (aP ?_))))));obtain rfl:=hR _ h;exact ra
        ·refine aS (aO (tn (ab (mq ?_))));obtain⟨SJ,F,h⟩:=aa h;refine jb (bb rfl F) ?_;refine aq (nl ?_);exact jz ((),SJ) h [0]
       ·refine xa ?_;exact jz ((),()) h []
      ·refine sr (cq (nt (aA ?_)));cases h;exact ra
def kD(k:Nat)(a0:a8)(a1:Int):Option Bool:=
 (ck ((a0.2.1.length:Int) - 1)).bind fun x2=>
 (gY k a1 0 x2).bind fun r3=>
 some r3
theorem uD(k:Nat)(a0:a8)(a1:Int)(r:Bool)(h:kD k a0 a1=some r):
 bZ Tryz.prog 95 [.rep aB a0,I a1] [] (fun _:Unit=>(bq [.eq (.bool r)],[])):=by
 unfold kD at h
 replace h:=a9 h
 refine bZ.of 11 Tryz.func95 rfl Tryz.ntmps95 rfl fun S w0=>?_
 refine sr ?_
 refine bx fun b1=>?_
 refine cq ?_
 refine nt ?_
 refine sr ?_
 refine mq ?_
 refine fl eM ?_
 refine lo kW ?_
 refine ol tp ?_
 obtain⟨x2,c,h⟩:=aa h
 refine jb (fQ rfl c) ?_
 obtain⟨r3,e,h⟩:=aa h
 have j:=jd k a1 0 x2 r3 e
 refine jc (ak [.tmp 5,.const (.int .i64 (0)),.tmp 9] rfl rfl Io rfl j) ?_
 refine aq ?_
 refine nt ?_
 refine aA ?_
 cases h
 exact ra
def iz(k:Nat)(a0:(List Int))(a1:Int):Nat→Int→Option (Except Bool Unit)
 |0,_=>none
 |n+1,y3=>
  if y3 < (a0.length:Int) then((aZ a0 y3).bind fun x5=>
  if x5=a1 then(some (.error true)) else((ck (y3+1)).bind fun x6=>
  iz k a0 a1 n x6)) else(some (.ok ()))
def nJ(k:Nat)(a0:(List Int))(a1:Int):Option Bool:=
 bE (α:=Unit) (iz k a0 a1 k 0) (some) fun _=>
 some false
theorem qC(k:Nat)(a0:(List Int))(a1:Int)(r:Bool)(h:nJ k a0 a1=some r):
 bZ Tryz.prog 96 [Ri a0,I a1] [] (fun _:Unit=>(bq [.eq (.bool r)],[])):=by
 unfold nJ at h
 replace h:=a9 h
 refine bZ.of 18 Tryz.func96 rfl Tryz.ntmps96 rfl fun S w0=>?_
 refine sr ?_
 refine cq ?_
 refine nt ?_
 refine dA (Z:=Unit) (α:=Unit) (fun z2 x1=>[]) (fun z2 x1=>[]) (fun e=>e=r) h (fun e h=>Option.some.inj h) (fun K hR h=>?_) (fun z2 x1 h=>?_)
 ·
  refine sr (cq (nt (aj ?_)));refine aG (fun z4 y3=>[(0,Ri a0),(1,I a1),(5,I y3)]) (fun z4 y3=>[]) (iz k a0 a1) k () 0 (fun _=>rfl) h (SE.fin [] ⟨rfl,rfl,rfl,trivial⟩ rfl) (fun n z4 y3 h=>?_);unfold iz at h;refine ag (sr ?_);iterate 2 refine mq ?_
  refine ol eA ?_;refine jb (bm rfl) ?_;refine nt (ci h (fun h=>?_) (fun h=>?_))
  ·refine sk (ag (aj (sr ?_)));iterate 2 refine mq ?_
   obtain⟨x5,j,h⟩:=aa h;refine jb (aH (t:=(.int .i64)) rfl eA cP j) ?_;refine ja (an (t:=(.int .i64)) rfl cP rfl) ?_;refine mq ?_;refine jb (dr rfl) ?_;refine nt (ci h (fun h=>?_) (fun h=>?_))
   ·refine sr (cq (nt (aA (br (ba (aP ?_))))));obtain rfl:=hR _ h;exact ra
   ·refine aS (aO (tn (ab (mq ?_))));obtain⟨x6,c,h⟩:=aa h;refine jb (bb rfl c) ?_;refine aq (nl ?_);exact jz ((),x6) h []
  ·refine xa ?_;exact jz ((),()) h []
 ·
  refine sr (cq (nt (aA ?_)));cases h;exact ra
def cg(k:Nat)(a0:a8)(a1:(List (List Int)))(y5:(List Int)×Int):Nat→((List Int)×Int×Int)→Option (Except Int ((List Int)×Int))
 |0,_=>none
 |n+1,c=>
  (aZ a1 y5.2).bind fun F=>
  if c.2.2 < (F.length:Int) then((aZ a1 y5.2).bind fun E=>
  (aZ E c.2.2).bind fun D=>
  (kD k a0 D).bind fun J=>
  if¬(J=true) then(some (.error 3)) else((aZ a1 y5.2).bind fun y=>
  (aZ y c.2.2).bind fun x=>
  (nJ k c.1 x).bind fun I=>
  if I=true then(some (.error 4)) else((aZ a1 y5.2).bind fun u=>
  (aZ u c.2.2).bind fun e=>
  (ek (bT (List.length c.1+List.length [e]))).bind fun _=>
  (aZ a1 y5.2).bind fun s=>
  (aZ s c.2.2).bind fun r=>
  (aZ a0.2.1 r).bind fun l=>
  (ck (c.2.1+l.1)).bind fun j=>
  (ck (c.2.2+1)).bind fun h=>
  cg k a0 a1 y5 n (c.1++[e],j,h)))) else(some (.ok (c.1,c.2.1)))
def cE(k:Nat)(a0:a8)(a1:(List (List Int))):Nat→((List Int)×Int)→Option (Except Int (List Int))
 |0,_=>none
 |n+1,y5=>
  if y5.2 < (a1.length:Int) then(bE (α:=(List Int)) (bE (α:=(List Int)×Int) (cg k a0 a1 y5 k (y5.1,0,0)) (fun e=>some (.error e)) fun x9=>
  (aZ a0.2.2 y5.2).bind fun h=>
  if h < x9.2 then(some (.error 12)) else(some (.ok x9.1))) (fun e=>some (.error e)) fun x7=>
  (ck (y5.2+1)).bind fun c=>
  cE k a0 a1 n (x7,c)) else(some (.ok y5.1))
def dQ(k:Nat)(a0:a8)(a1:(List (List Int))):Option Int:=
 (m5 k a0).bind fun r2=>
 if¬(r2=0) then(some r2) else(if(a1.length:Int) < (a0.2.2.length:Int) then(some 7) else(if(a0.2.2.length:Int) < (a1.length:Int) then(some 6) else(bE (α:=(List Int)) (cE k a0 a1 k (([]:(List Int)),0)) (some) fun x3=>
 if(x3.length:Int) < (a0.2.1.length:Int) then(some 7) else(some 0))))
theorem li(k:Nat)(a0:a8)(a1:(List (List Int)))(r:Int)(h:dQ k a0 a1=some r):
 bZ Tryz.prog 36 [.rep aB a0,.rep (.slice (.slice (.int .i64))) a1] [] (fun _:Unit=>(bq [I r],[])):=by
 unfold dQ at h
 replace h:=a9 h
 refine bZ.of 98 Tryz.func36 rfl Tryz.ntmps36 rfl fun S w0=>?_
 refine sr ?_
 refine bx fun b1=>?_
 refine cq ?_
 refine nt ?_
 refine ag ?_
 refine sr ?_
 refine lo fK ?_
 obtain⟨r2,TC,h⟩:=aa h
 have TD:=xp k a0 r2 TC
 refine ja (ak [.tmp 10] rfl rfl RN rfl TD) ?_
 refine aq ?_
 refine nt ?_
 refine sr ?_
 refine mq ?_
 refine jb (ge rfl) ?_
 refine nt ?_
 refine cn h (fun h=>?_) (fun h=>?_)
 ·
  refine sr (mq ?_);refine aq (nt (rx ?_));cases h;exact ra
 ·
  refine sk (ag (sr (mq ?_)));refine ol k9 ?_;refine fl fD ?_;refine lo bW ?_;refine ol eA ?_;refine jb (bm rfl) ?_;refine nt (ci h (fun h=>?_) (fun h=>?_))
  ·refine sr (cq (nt (rx ?_)));cases h;exact ra
  ·refine sk (ag (sr (mq ?_)));refine ol k9 ?_;refine fl fD ?_;refine lo bW ?_;refine ol eA ?_;refine jb (jZ rfl) ?_;refine nt (ci h (fun h=>?_) (fun h=>?_))
   ·refine sr (cq (nt (rx ?_)));cases h;exact ra
   ·refine sk (sr (cq (nt ?_)));refine dA (Z:=Value) (α:=(List Int)) (fun z4 x3=>[(2,Pt b1),(6,.eq z4)]) (fun z4 x3=>[.obj b1 25 (.rep aB a0),.sl z4 3 (.int .i64) x3]) (fun e=>e=r) h (fun e h=>Option.some.inj h) (fun K hR h=>?_) (fun z4 x3 h=>?_)
    ·refine sr (cq (nt (aj ?_)));refine eH (SE.nil 3 (.int .i64)) ?_;refine aG (fun z6 y5=>[(1,.rep (.slice (.slice (.int .i64))) a1),(2,Pt b1),(6,.eq z6),(7,I y5.2)]) (fun z6 y5=>[.obj b1 25 (.rep aB a0),.sl z6 3 (.int .i64) y5.1]) (cE k a0 a1) k (.slice none 0 0) (([]:(List Int)),0) (fun _=>rfl) h (SE.fin [1,0] ⟨rfl,rfl,rfl,rfl,trivial⟩ rfl) (fun n z6 y5 h=>?_);unfold cE at h;refine ag (sr ?_);iterate 2 refine mq ?_
     refine ol k9 ?_;refine jb (bm rfl) ?_;refine nt (ci h (fun h=>?_) (fun h=>?_))
     ·refine sk (dA (Z:=Value) (α:=(List Int)) (fun z8 x7=>[(1,.rep (.slice (.slice (.int .i64))) a1),(2,Pt b1),(6,.eq z8),(7,I y5.2)]) (fun z8 x7=>[.obj b1 25 (.rep aB a0),.sl z8 3 (.int .i64) x7]) (fun e=>e=r) h (fun e h=>hR e h) (fun K hR h=>?_) (fun z8 x7 h=>?_))
      ·refine aj (sr (cq (nt ?_)));refine dA (Z:=Value) (α:=(List Int)×Int) (fun l x9=>[(1,.rep (.slice (.slice (.int .i64))) a1),(2,Pt b1),(6,.eq l),(7,I y5.2),(8,I x9.2)]) (fun l x9=>[.obj b1 25 (.rep aB a0),.sl l 3 (.int .i64) x9.1]) (fun e=>e=r) h (fun e h=>hR e h) (fun K hR h=>?_) (fun l x9 h=>?_)
       ·refine sr (cq (nt (aj ?_)));refine aG (fun j c=>[(1,.rep (.slice (.slice (.int .i64))) a1),(2,Pt b1),(6,.eq j),(7,I y5.2),(8,I c.2.1),(9,I c.2.2)]) (fun j c=>[.obj b1 25 (.rep aB a0),.sl j 3 (.int .i64) c.1]) (cg k a0 a1 y5) k z6 (y5.1,0,0) (fun _=>rfl) h (SE.fin [0,1] ⟨rfl,rfl,rfl,rfl,rfl,rfl,trivial⟩ rfl) (fun n j c h=>?_);unfold cg at h;refine ag (sr ?_);iterate 3 refine mq ?_
        obtain⟨Uf,SZ,h⟩:=aa h;refine jb (aH (t:=(.slice (.int .i64))) rfl k9 bW SZ) ?_;refine ja (an (t:=(.slice (.int .i64))) rfl bW rfl) ?_;refine ol eA ?_;refine jb (bm rfl) ?_;refine nt (ci h (fun h=>?_) (fun h=>?_))
        ·refine sk (ag (aj (ag (ag (cy ?_)))));refine ea 0 (ap rfl fK (xG) rfl) ?_;refine dm ?_;refine dm ?_;obtain⟨Ue,SY,h⟩:=aa h;refine db (aH (t:=(.slice (.int .i64))) rfl k9 bW SY) ?_;refine da (an (t:=(.slice (.int .i64))) rfl bW rfl) ?_;refine dm ?_;obtain⟨Tf,SX,h⟩:=aa h;refine db (aH (t:=(.int .i64)) rfl eA cP SX) ?_;refine da (an (t:=(.int .i64)) rfl cP rfl) ?_;refine df fo ?_;obtain⟨Tj,S8,h⟩:=aa h;refine jb (ak [.tmp 42,.tmp 49] rfl rfl Ry rfl (uD k a0 Tf Tj S8)) ?_;refine ja (d5 rfl) ?_;refine nt (cw h (fun h=>?_) (fun h=>?_))
         ·refine sr (cq (nt (rx (br (ba (aP (br (ba (aP ?_)))))))));obtain rfl:=hR _ h;exact ra
         ·refine sk (ag (sr ?_));iterate 3 refine mq ?_
          obtain⟨Ud,SV,h⟩:=aa h;refine jb (aH (t:=(.slice (.int .i64))) rfl k9 bW SV) ?_;refine ja (an (t:=(.slice (.int .i64))) rfl bW rfl) ?_;refine mq ?_;obtain⟨u,SU,h⟩:=aa h;refine jb (aH (t:=(.int .i64)) rfl eA cP SU) ?_;refine ja (an (t:=(.int .i64)) rfl cP rfl) ?_;obtain⟨Ti,S7,h⟩:=aa h;refine fr 1 ?_;refine kb (qS (N:=[(.tmp 52,.eq j),(.tmp 59,I u)]) (ak [.tmp 52,.tmp 59] rfl rfl NT rfl (qC k c.1 u Ti S7)) (fun _ _ _ hv hn=>⟨(lend hn.1 hv),hn.2.1,trivial⟩) (fun _=>⟨rfl,zT⟩)) ?_;refine nt (cv h (fun h=>?_) (fun h=>?_))
          ·refine sr (cq (nt (rx (br (ba (aP (br (ba (aP ?_)))))))));obtain rfl:=hR _ h;exact ra
          ·refine sk (kU ?_);refine aN rfl rfl rfl (aW rfl) ⟨rfl,trivial⟩ ?_;refine aN rfl rfl rfl (aW rfl) ⟨rfl,trivial⟩ ?_;refine aN rfl rfl rfl (aW rfl) ⟨rfl,trivial⟩ ?_;obtain⟨Uc,SS,h⟩:=aa h;refine aN rfl rfl rfl (aH (t:=(.slice (.int .i64))) rfl k9 bW SS) ⟨rfl,rfl,trivial⟩ ?_;refine aN rfl rfl rfl (an (t:=(.slice (.int .i64))) rfl bW rfl) ⟨rfl,trivial⟩ ?_;refine aN rfl rfl rfl (aW rfl) ⟨rfl,trivial⟩ ?_;obtain⟨s,SR,h⟩:=aa h;refine aN rfl rfl rfl (aH (t:=(.int .i64)) rfl eA cP SR) ⟨rfl,rfl,trivial⟩ ?_;refine aN rfl rfl rfl (an (t:=(.int .i64)) rfl cP rfl) ⟨rfl,trivial⟩ ?_;refine aN rfl rfl rfl (bF (t:=(.int .i64)) [(.tmp 68,_)] [s] rfl rfl eJ (.cons rfl .int .nil) rfl rfl) ⟨rfl,trivial⟩ ?_;obtain⟨UF,S5,h⟩:=aa h;refine vB 0 rfl (fun v=>[.sl v 3 (.int .i64) (c.1++[s])]) (fun _=>rfl) rfl rfl rfl (bX rfl rfl eJ (aD S5)) ⟨rfl,rfl,trivial⟩ ?_;refine aN rfl rfl rfl (aW rfl) ⟨rfl,trivial⟩ ?_;refine aN rfl rfl rfl (aw rfl eM) ⟨rfl,trivial⟩ ?_;refine fw 1 rfl rfl rfl rfl (ap rfl kW mP rfl) ⟨rfl,trivial⟩ ?_;refine aN rfl rfl rfl (aW rfl) ⟨rfl,trivial⟩ ?_;refine aN rfl rfl rfl (aW rfl) ⟨rfl,trivial⟩ ?_;obtain⟨Ub,SQ,h⟩:=aa h;refine aN rfl rfl rfl (aH (t:=(.slice (.int .i64))) rfl k9 bW SQ) ⟨rfl,rfl,trivial⟩ ?_;refine aN rfl rfl rfl (an (t:=(.slice (.int .i64))) rfl bW rfl) ⟨rfl,trivial⟩ ?_;refine aN rfl rfl rfl (aW rfl) ⟨rfl,trivial⟩ ?_;obtain⟨Ua,SO,h⟩:=aa h;refine aN rfl rfl rfl (aH (t:=(.int .i64)) rfl eA cP SO) ⟨rfl,rfl,trivial⟩ ?_;refine aN rfl rfl rfl (an (t:=(.int .i64)) rfl cP rfl) ⟨rfl,trivial⟩ ?_;obtain⟨T9,SN,h⟩:=aa h;refine aN rfl rfl rfl (aH (t:=cU) rfl tp ot SN) ⟨rfl,rfl,trivial⟩ ?_;refine aN rfl rfl rfl (aM 1 false rfl o6 rfl) ⟨rfl,trivial⟩ ?_;refine aN rfl rfl rfl (an (t:=(.int .i64)) rfl cP rfl) ⟨rfl,trivial⟩ ?_;obtain⟨Td,SL,h⟩:=aa h;refine aN rfl rfl rfl (bb rfl SL) ⟨rfl,rfl,trivial⟩ ?_;refine pr 24 [true,true,true,true,true,true,true,true,true,true,false,false,false,false,false,false,false,false,false,false,false,false,false,false] [6] [1] [.obj b1 25 (.rep aB a0)] rfl (by kernel_rfl) (by kernel_rfl) (by kernel_rfl) fo (fun vs hv hB=>?_);obtain⟨w0,UE,rfl,TB⟩:=ar hv;obtain⟨w1,UD,rfl,TA⟩:=ar TB;obtain⟨w2,UC,rfl,Tz⟩:=ar TA;obtain⟨w3,UB,rfl,Tv⟩:=ar Tz;obtain⟨w4,UA,rfl,Tu⟩:=ar Tv;obtain⟨w5,Uz,rfl,Tt⟩:=ar Tu;obtain⟨w6,Uy,rfl,To⟩:=ar Tt;obtain⟨w7,Ux,rfl,Tn⟩:=ar To;obtain⟨w8,Uw,rfl,Tm⟩:=ar Tn;obtain⟨x,TZ,rfl,qt⟩:=ar Tm;obtain⟨Uu,TY,rfl,pp⟩:=ar qt;obtain⟨Ut,TX,rfl,mc⟩:=ar pp;obtain⟨Us,TU,rfl,ac⟩:=ar mc;obtain⟨Ur,TS,rfl,Y⟩:=ar ac;obtain⟨Up,TR,rfl,X⟩:=ar Y;obtain⟨Uo,TP,rfl,U⟩:=ar X;obtain⟨Un,TO,rfl,Q⟩:=ar U;obtain⟨Um,TN,rfl,O⟩:=ar Q;obtain⟨Ul,TM,rfl,M⟩:=ar O;obtain⟨Uk,TL,rfl,J⟩:=ar M;obtain⟨Uj,TK,rfl,F⟩:=ar J;obtain⟨Ui,TJ,rfl,E⟩:=ar F;obtain⟨Uh,TG,rfl,D⟩:=ar E;obtain⟨Ug,TF,rfl,y⟩:=ar D;obtain rfl:=my y;refine⟨[0,1],[.sl x 3 (.int .i64) (c.1++[s])],by kernel_rfl,by decide,?_⟩;refine nV rfl rfl rfl rfl (iG rfl) ⟨rfl,trivial⟩ (by kernel_rfl) ?_;refine IX (by kernel_rfl) ?_;refine aq (ao (aO (tn (ab ?_))));refine mq ?_;obtain⟨Ta,SK,h⟩:=aa h
           refine jb (bb rfl SK) ?_;refine aq (nl ?_);exact jz (x,(c.1++[s],Td,Ta)) h [0,1]
        ·refine xa ?_;exact jz (j,(c.1,c.2.1)) h [0,1]
       ·refine sr (mq ?_);refine fl fD ?_;refine lo bW ?_;refine mq ?_;obtain⟨T8,SJ,h⟩:=aa h;refine jb (aH (t:=(.int .i64)) rfl eA cP SJ) ?_;refine ja (an (t:=(.int .i64)) rfl cP rfl) ?_;refine jb (jZ rfl) ?_;refine nt (ci h (fun h=>?_) (fun h=>?_))
        ·refine sr (cq (nt (aA (br (ba (aP ?_))))));obtain rfl:=hR _ h;exact ra
        ·refine aS (bn ?_);exact jz (l,x9.1) h [0,1]
      ·refine ab (mq ?_);obtain⟨S9,se,h⟩:=aa h;refine jb (bb rfl se) ?_;refine aq (nl ?_);exact jz (z8,(x7,S9)) h [0,1]
     ·refine xa ?_;exact jz (z6,y5.1) h [0,1]
    ·refine ag (sr (mq ?_));refine fr 1 ?_;refine ka (cZ rfl rfl eA) ?_;refine fl eM ?_;refine fr 1 ?_;refine lo kW ?_;refine ol tp ?_;refine jb (bm rfl) ?_;refine nt (ci h (fun h=>?_) (fun h=>?_))
     ·refine sr (cq (nt (rx ?_)));cases h;exact ra
     ·refine sk (sr (cq (nt (aA ?_))));cases h;exact ra
def ky(k:Nat)(a0:(List Int))(a1:(List Int))(a2:Int)(self:(List Int)→(List Int)→Int→Option ((List (List Int)))):Nat→((List (List Int))×Int)→Option (List (List Int))
 |0,_=>none
 |n+1,y3=>
  if y3.2 < a2 then((((((nJ k a0 y3.2).bind fun r9=>
  if r9=true then((nJ k a1 y3.2).bind fun h=>
  some (!h)) else(some false)):Option (Bool)).bind fun x7=>
  if x7=true then((ek (bT (List.length ([]:(List Int))+List.length a1))).bind fun _=>
  (ek (bT (List.length (([]:(List Int))++a1)+List.length [y3.2]))).bind fun _=>
  (self a0 ((([]:(List Int))++a1)++[y3.2]) a2).bind fun c=>
  (ek (bT (List.length y3.1+List.length c))).bind fun _=>
  some (y3.1++c)) else(some y3.1)):Option ((List (List Int)))).bind fun x5=>
  (ck (y3.2+1)).bind fun e=>
  ky k a0 a1 a2 self n (x5,e)) else(some y3.1)
def jw(k:Nat):Nat→(List Int)→(List Int)→Int→Option ((List (List Int)))
 |0,_,_,_=>none
 |m0+1,a0,a1,a2=>
  if(a1.length:Int)=(a0.length:Int) then(some [a1]) else(((ky k a0 a1 a2 (jw k m0) k (([]:(List (List Int))),0)):Option ((List (List Int)))).bind fun x1=>
  some x1)
theorem vI(k:Nat):
 ∀(n:Nat) (a0:(List Int)) (a1:(List Int)) (a2:Int) (r:(List (List Int))),jw k n a0 a1 a2=some r→bZ Tryz.prog 54 [Ri a0,Ri a1,I a2] ([]) (fun _:Unit=>(bq [.rep (.slice (.slice (.int .i64))) r],[])):=by
 intro n
 induction n with
 |zero=>intro a0 a1 a2 r h;cases h
 |succ m0 ih=>
  intro a0 a1 a2 r h;rw [jw] at h;replace h:=a9 h;refine bZ.of 42 Tryz.func54 rfl Tryz.ntmps54 rfl fun S w0=>?_;refine sr (cq (nt (ag (sr ?_))));refine mq ?_;refine ol eA ?_;refine mq ?_;refine ol eA ?_;refine jb (dr rfl) ?_;refine nt (ci h (fun h=>?_) (fun h=>?_))
  ·refine sr (mq ?_);refine ja (bF (t:=(.slice (.int .i64))) [(.tmp 14,_)] [a1] rfl rfl oJ (.cons rfl .rep .nil) rfl rfl) ?_;refine aq (nt (rx ?_));cases h;exact ra
  ·refine sk (sr (cq (nt ?_)));refine aL (Z:=Value) (α:=(List (List Int))) (fun z2 x1=>[(7,.eq z2)]) (fun z2 x1=>[.sl z2 23 (.slice (.int .i64)) x1]) h (fun K h=>?_) (fun z2 x1 h=>?_)
   ·refine sr (cq (nt (aj ?_)));refine eH (SE.nil 23 (.slice (.int .i64))) ?_;refine aG (fun z4 y3=>[(0,Ri a0),(1,Ri a1),(2,I a2),(7,.eq z4),(8,I y3.2)]) (fun z4 y3=>[.sl z4 23 (.slice (.int .i64)) y3.1]) (ky k a0 a1 a2 (jw k m0)) k (.slice none 0 0) (([]:(List (List Int))),0) (fun _=>rfl) h (SE.fin [0] ⟨rfl,rfl,rfl,rfl,rfl,trivial⟩ rfl) (fun n z4 y3 h=>?_);unfold ky at h;refine ag (sr ?_);iterate 2 refine mq ?_
    refine jb (bm rfl) ?_;refine nt (ci h (fun h=>?_) (fun h=>?_))
    ·refine sk (aL (Z:=Value) (α:=(List (List Int))) (fun z6 x5=>[(0,Ri a0),(1,Ri a1),(2,I a2),(7,.eq z6),(8,I y3.2)]) (fun z6 x5=>[.sl z6 23 (.slice (.int .i64)) x5]) h (fun K h=>?_) (fun z6 x5 h=>?_))
     ·refine aj (aL (Z:=Unit) (α:=Bool) (fun z8 x7=>[(0,Ri a0),(1,Ri a1),(2,I a2),(7,.eq z4),(8,I y3.2),(29,.eq (.bool x7))]) (fun z8 x7=>[.sl z4 23 (.slice (.int .i64)) y3.1]) h (fun K h=>?_) (fun z8 x7 h=>?_))
      ·refine ab ?_;iterate 2 refine mq ?_
       obtain⟨r9,J,h⟩:=aa h;refine jb (ak [.tmp 21,.tmp 22] rfl rfl NT rfl (qC k a0 y3.2 r9 J)) ?_;refine mq ?_;refine bC (s:=24) rfl (fun hb=>?_) (fun hb=>?_)
       ·replace h:=cp (DK hb) h;refine gm ?_;refine gm ?_;obtain⟨e,D,h⟩:=aa h;refine gb (ak [.tmp 25,.tmp 26] rfl rfl NT rfl (qC k a1 y3.2 e D)) ?_;refine ga (d5 rfl) ?_;refine pt (nl ?_);exact jz ((), !e) h [0]
       ·replace h:=bH (DL hb) h;iterate 4 refine gn ?_
        refine pf (nl ?_);exact jz ((),false) h [0]
      ·refine cv h (fun h=>?_) (fun h=>?_)
       ·refine ab ?_;iterate 2 refine mq ?_
        refine aF rfl rfl rfl (lQ (t:=(.int .i64)) [] ([]:(List Int)) rfl rfl eJ .nil rfl rfl) trivial fun Q=>?_;refine mq ?_;obtain⟨Y,x,h⟩:=aa h;refine dF rfl rfl rfl (bX rfl rfl eJ (aD x)) ⟨rfl,rfl,trivial⟩ fun O=>?_;refine mq ?_;refine ja (bF (t:=(.int .i64)) [(.tmp 35,_)] [y3.2] rfl rfl eJ (.cons rfl .int .nil) rfl rfl) ?_;obtain⟨X,u,h⟩:=aa h;refine dF rfl rfl rfl (bX rfl rfl eJ (aD u)) ⟨rfl,rfl,trivial⟩ fun M=>?_;refine mq ?_;refine cu (f9 [37] ⟨rfl,trivial⟩) ?_;obtain⟨c,y,h⟩:=aa h;refine jc (ak [.tmp 31,.tmp 37,.tmp 38] rfl rfl PQ rfl (ih a0 ((([]:(List Int))++a1)++[y3.2]) a2 c y)) ?_;obtain⟨U,l,h⟩:=aa h;refine dF rfl rfl rfl (bX rfl rfl oJ (aD l)) ⟨rfl,rfl,trivial⟩ fun F=>?_;refine aq (ao (bn ?_));exact jz (F,y3.1++c) h [0]
       ·refine aS (bn ?_);exact jz (z4,y3.1) h [0]
     ·refine ab (mq ?_);obtain⟨E,j,h⟩:=aa h;refine jb (bb rfl j) ?_;refine aq (nl ?_);exact jz (z6,(x5,E)) h [0]
    ·refine xa ?_;exact jz (z4,y3.1) h [0]
   ·refine sr (mq ?_);refine aq (nt (aA ?_));refine bv (f9 [6,7,41] ⟨rfl,rfl,rfl,trivial⟩) ?_;cases h;exact ra
def kK(k:Nat)(a0:bB)(a1:Int):Option (a8×(List (List Int))×Bool×bB):=
 (kh k (a0.1,a0.2.1,a0.2.2) a1 3).bind fun r2=>
 (ic k (r2.2.1,r2.2.2.1,r2.2.2.2) r2.1).bind fun r4=>
 (dQ k r2.1 r4.1).bind fun r5=>
 some (r2.1,r4.1,decide (r5=0),(r4.2.1,r4.2.2.1,r4.2.2.2))
theorem tI(k:Nat)(a0:bB)(c:Nat)(a1:Int)(r:a8×(List (List Int))×Bool×bB)(h:kK k a0 a1=some r):
 bZ Tryz.prog 44 [Pt c,I a1] [.obj c 98 (.agg (.pair (Ri a0.1) (.pair (I a0.2.1) (.eq (.int .u64 a0.2.2)))))] (fun _:Unit=>(bq [.rep aB r.1,.rep (.slice (.slice (.int .i64))) r.2.1,.eq (.bool r.2.2.1)],[.obj c 98 (.agg (.pair (Ri r.2.2.2.1) (.pair (I r.2.2.2.2.1) (.eq (.int .u64 r.2.2.2.2.2)))))])):=by
 unfold kK at h
 replace h:=a9 h
 refine bZ.of 21 Tryz.func44 rfl Tryz.ntmps44 rfl fun S w0=>?_
 refine sr ?_
 refine aF rfl rfl rfl (bR rfl xb BS) trivial fun b1=>?_
 refine cq ?_
 refine cq ?_
 refine nt ?_
 refine sr ?_
 iterate 2 refine mq ?_
 obtain⟨r2,D,h⟩:=aa h
 have J:=vR k (a0.1,a0.2.1,a0.2.2) c a1 3 r2 D
 refine fr 1 ?_
 refine kc (ak [.tmp 9,.tmp 10,.const (.int .i64 (3))] rfl rfl RL rfl J) ?_
 refine aF rfl rfl rfl (bR rfl xb BS) trivial fun b3=>?_
 refine bi rfl rfl (bh rfl fK rfl rfl rfl) ⟨rfl,rfl,trivial⟩ ?_
 refine nt ?_
 refine sr ?_
 refine mq ?_
 refine lo fK ?_
 obtain⟨r4,y,h⟩:=aa h
 have F:=sX k (r2.2.1,r2.2.2.1,r2.2.2.2) c r2.1 r4 y
 refine fr 1 ?_
 refine kb (ak [.tmp 12,.tmp 13] rfl rfl RE rfl F) ?_
 refine aq ?_
 refine nt ?_
 refine ag ?_
 refine kU ?_
 refine fw 1 rfl rfl rfl rfl (ap rfl fK (xG) rfl) ⟨rfl,trivial⟩ ?_
 refine aN rfl rfl rfl (aW rfl) ⟨rfl,trivial⟩ ?_
 refine fw 1 rfl rfl rfl rfl (ap rfl fK (xG) rfl) ⟨rfl,trivial⟩ ?_
 refine aN rfl rfl rfl (aW rfl) ⟨rfl,trivial⟩ ?_
 obtain⟨r5,x,h⟩:=aa h
 have E:=li k r2.1 r4.1 r5 x
 refine aN rfl rfl rfl (ak [.tmp 17,.tmp 18] rfl rfl PW rfl E) ⟨rfl,rfl,trivial⟩ ?_
 refine aN rfl rfl rfl (dr rfl) ⟨rfl,rfl,trivial⟩ ?_
 refine pr 6 [true,false,true,true,true,false] [5,6] [] [] rfl (by kernel_rfl) (by kernel_rfl) (by kernel_rfl) fo (fun vs hv hB=>?_)
 obtain⟨w0,Y,rfl,u⟩:=ar hv
 obtain⟨w1,X,rfl,s⟩:=ar u
 obtain⟨w2,U,rfl,n⟩:=ar s
 obtain⟨w3,Q,rfl,l⟩:=ar n
 obtain⟨w4,O,rfl,j⟩:=ar l
 obtain⟨w5,M,rfl,e⟩:=ar j
 obtain rfl:=my e
 refine⟨[0,1,2],[.obj c 98 (.agg (.pair (Ri r4.2.1) (.pair (I r4.2.2.1) (.eq (.int .u64 r4.2.2.2))))),.obj b3 25 (.rep aB r2.1),.obj b1 25 (.agg (.pair (I 0) (.pair (.eq (.slice none 0 0)) (.eq (.slice none 0 0)))))],by kernel_rfl,by decide,?_⟩
 refine l7 2 rfl ?_
 refine qT rfl rfl (bh rfl fK rfl rfl rfl) ⟨rfl,rfl,trivial⟩ (by kernel_rfl) ?_
 refine nV rfl rfl rfl rfl (iG rfl) ⟨rfl,trivial⟩ (by kernel_rfl) ?_
 refine nV rfl rfl rfl rfl (iG rfl) ⟨rfl,trivial⟩ (by kernel_rfl) ?_
 refine tq ?_
 refine bv (SE.fin (Γ':=[(4,Pt b1),(5,.rep (.slice (.slice (.int .i64))) r4.1),(6,.eq (.bool (decide (r5=0))))]) (Δ':=[.obj b1 25 (.rep aB r2.1),.obj c 98 (.agg (.pair (Ri r4.2.1) (.pair (I r4.2.2.1) (.eq (.int .u64 r4.2.2.2))))),.obj b3 25 (.rep aB r2.1)]) [0,1,2] ⟨rfl,rfl,rfl,trivial⟩ rfl) ?_
 refine tn ?_
 refine aA ?_
 refine bv (SE.fin (Γ':=[(4,_),(5,_),(6,_)]) [1,0,2] ⟨rfl,rfl,rfl,trivial⟩ rfl) ?_
 cases h
 exact aE () [.rep aB r2.1,_,_] 1 ⟨⟨_,_,_,_,_,rfl,(.tail _ (.head _)),fK,(xG),rfl⟩,rfl,rfl,trivial⟩ rfl
end Go.Proofs.YtcnpijmfgfnpiaaGreatDoor
