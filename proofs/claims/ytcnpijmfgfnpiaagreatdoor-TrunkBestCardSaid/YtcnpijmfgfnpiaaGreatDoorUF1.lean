import Derived.Test.YtcnpijmfgfnpiaaGreatDoorUFacts
set_option linter.unusedSimpArgs false
set_option linter.unusedVariables false
set_option maxRecDepth 4000
set_option maxHeartbeats 1000000
namespace Go.Proofs.YtcnpijmfgfnpiaaGreatDoor
open K Go Go.Proofs
def dP(k:Nat)(a0:Int)(a1:Int)(a2:Int):Option Bool:=
 ((if a1≤a0 then(some (decide (a0≤a2))) else(some false)):Option (Bool)).bind fun x1=>
 some x1
theorem d5(k:Nat)(a0:Int)(a1:Int)(a2:Int)(r:Bool)(h:dP k a0 a1 a2=some r):
 cd Tryz.prog 83 [I a0,I a1,I a2] [] (fun _:Unit=>(bv [.eq (.bool r)],[])):=by
 unfold dP at h
 replace h:=ba h
 refine cd.of 15 Tryz.func83 rfl Tryz.ntmps83 rfl fun S w0=>?_
 refine sr ?_
 refine cq ?_
 refine nt ?_
 refine aK (Z:=Unit) (α:=Bool) (fun z2 x1=>[(6,.eq (.bool x1))]) (fun z2 x1=>[]) h (fun K h=>?_) (fun z2 x1 h=>?_)
 ·
  refine aa ?_;iterate 2 refine mq ?_
  refine jb (yp rfl) ?_;refine mq ?_;refine bG (s:=10) rfl (fun hb=>?_) (fun hb=>?_)
  ·replace h:=cm (l5 hb) h;refine gm ?_;refine gm ?_;refine gb (yp rfl) ?_;refine pt ?_;refine aq (nl ?_);exact jz ((),decide (a0≤a2)) h []
  ·replace h:=bD (lu hb) h;iterate 3 refine gn ?_
   refine pf ?_;refine aq (nl ?_);exact jz ((),false) h []
 ·
  refine aB ?_;cases h;exact ra
def cM(k:Nat)(a0:bR)(a1:lQ):Nat→Int→Option (Except Int Unit)
 |0,_=>none
 |n+1,y6=>
  if y6 < (a1.2.length:Int) then((a9 a1.2 y6).bind fun x8=>
  (ck (a0.1 - 1)).bind fun x9=>
  (dP k x8 0 x9).bind fun l=>
  if¬(l=true) then(some (.error 1)) else(((if 0 < y6 then((ck (y6 - 1)).bind fun h=>
  (a9 a1.2 h).bind fun e=>
  some (decide (x8≤e))) else(some false)):Option (Bool)).bind fun j=>
  if j=true then(some (.error 5)) else((ck (y6+1)).bind fun c=>
  cM k a0 a1 n c))) else(some (.ok ()))
def gW(k:Nat)(a0:bR)(a1:lQ):Option Int:=
 (dP k a1.1 1 3).bind fun r3=>
 if¬(r3=true) then(some 1) else(bE (α:=Unit) (cM k a0 a1 k 0) (some) fun _=>
 some 0)
theorem qB(k:Nat)(a0:bR)(a1:lQ)(r:Int)(h:gW k a0 a1=some r):
 cd Tryz.prog 92 [.rep aI a0,.rep c9 a1] [] (fun _:Unit=>(bv [I r],[])):=by
 unfold gW at h
 replace h:=ba h
 refine cd.of 38 Tryz.func92 rfl Tryz.ntmps92 rfl fun S w0=>?_
 refine sr ?_
 refine bx fun b1=>?_
 refine bx fun b2=>?_
 refine cq ?_
 refine nt ?_
 refine ah ?_
 refine sr ?_
 refine fl xh ?_
 refine lo dw ?_
 obtain⟨r3,O,h⟩:=ab h
 have Q:=d5 k a1.1 1 3 r3 O
 refine jc (ar [.tmp 8,.const (.int .i64 (1)),.const (.int .i64 (3))] rfl rfl zb rfl Q) ?_
 refine ja (fW rfl) ?_
 refine nt ?_
 refine cw h (fun h=>?_) (fun h=>?_)
 ·
  refine sr (cq (nt (rx ?_)));cases h;exact ra
 ·
  refine sk (fj (Z:=Unit) (α:=Unit) (fun z5 x4=>[]) (fun z5 x4=>[]) (fun e=>e=r) h (fun e h=>Option.some.inj h) (fun K hR h=>?_) (fun z5 x4 h=>?_))
  ·refine sr (fl ut ?_);refine lo cp ?_;refine ol fY ?_;refine eB rfl ?_;refine nt (aj (aH (fun z7 y6=>[(2,Pt b1),(3,Pt b2),(12,Ri a1.2),(13,I (a1.2.length:Int)),(14,I y6)]) (fun z7 y6=>[.obj b1 25 (.rep aI a0),.obj b2 27 (.rep c9 a1)]) (cM k a0 a1) k () 0 (fun _=>rfl) h (SE.fin [1,0] ⟨rfl,rfl,rfl,rfl,rfl,trivial⟩ rfl) (fun n z7 y6 h=>?_)));unfold cM at h;refine sr (jb (bz rfl) ?_);refine nt (ah (ci h (fun h=>?_) (fun h=>?_)))
   ·refine sk (ah (aj (sr (mq ?_))));obtain⟨x8,M,h⟩:=ab h;refine jb (aL (t:=(.int .i64)) rfl fY dw M) ?_;refine ja (ao (t:=(.int .i64)) rfl dw rfl) ?_;refine aq ?_;refine aq (nt (ah (sr ?_)));refine mq ?_;refine fl qf ?_;refine lo dw ?_;obtain⟨x9,J,h⟩:=ab h;refine jb (gC rfl J) ?_;obtain⟨F,y,h⟩:=ab h;refine jc (ar [.tmp 19,.const (.int .i64 (0)),.tmp 22] rfl rfl zb rfl (d5 k x8 0 x9 F y)) ?_;refine ja (fW rfl) ?_;refine nt (cw h (fun h=>?_) (fun h=>?_))
    ·refine sr (cq (nt (rx (br (bM (aX ?_))))));obtain rfl:=hR _ h;exact ra
    ·refine sk (aK (Z:=Unit) (α:=Bool) (fun j c=>[(2,Pt b1),(3,Pt b2),(12,Ri a1.2),(13,I (a1.2.length:Int)),(14,I y6),(36,.eq (.bool c))]) (fun j c=>[.obj b1 25 (.rep aI a0),.obj b2 27 (.rep c9 a1)]) h (fun K h=>?_) (fun j c h=>?_))
     ·refine aa (mq ?_);refine jb (mC rfl) ?_;refine mq ?_;refine bG (s:=27) rfl (fun hb=>?_) (fun hb=>?_)
      ·replace h:=cm (l5 hb) h;refine gm ?_;refine ga (ax rfl ut) ?_;refine fr 1 ?_;refine lm rfl rfl rfl rfl rfl rfl (an rfl cp mN rfl) ⟨rfl,trivial⟩ ?_;refine gm ?_;obtain⟨U,x,h⟩:=ab h;refine gb (gC rfl x) ?_;obtain⟨E,u,h⟩:=ab h;refine gb (aL (t:=(.int .i64)) rfl fY dw u) ?_;refine ga (ao (t:=(.int .i64)) rfl dw rfl) ?_;refine gb (yp rfl) ?_;refine pt (nl ?_);exact jz ((),decide (x8≤E)) h [1,0]
      ·replace h:=bD (lu hb) h;iterate 8 refine gn ?_
       refine pf (nl ?_);exact jz ((),false) h [0,1]
     ·refine cv h (fun h=>?_) (fun h=>?_)
      ·refine sr (cq (nt (aB (br (bM (aX ?_))))));obtain rfl:=hR _ h;exact ra
      ·refine aO (aG (tn (aa ?_)));obtain⟨D,l,h⟩:=ab h;refine jb (bh rfl l) ?_;refine mq (nl ?_);exact jz ((),D) h [0,1]
   ·refine xa ?_;exact jz ((),()) h []
  ·refine sr (cq (nt (aB ?_)));cases h;exact ra
def fe(k:Nat)(a0:bR):Nat→Int→Option (Except Int Unit)
 |0,_=>none
 |n+1,y5=>
  if y5 < (a0.2.1.length:Int) then((a9 a0.2.1 y5).bind fun x7=>
  (gW k a0 x7).bind fun r9=>
  if¬(r9=0) then(some (.error r9)) else((ck (y5+1)).bind fun c=>
  fe k a0 n c)) else(some (.ok ()))
def fa(k:Nat)(a0:bR):Nat→Int→Option (Except Int Unit)
 |0,_=>none
 |n+1,c=>
  if c < (a0.2.2.length:Int) then((a9 a0.2.2 c).bind fun h=>
  (dP k h 0 9).bind fun j=>
  if¬(j=true) then(some (.error 1)) else((ck (c+1)).bind fun e=>
  fa k a0 n e)) else(some (.ok ()))
def kx(k:Nat)(a0:bR):Option Int:=
 (dP k a0.1 1 6).bind fun r2=>
 if¬(r2=true) then(some 1) else(if 5 < (a0.2.1.length:Int) then(some 6) else(bE (α:=Unit) (fe k a0 k 0) (some) fun _=>
 if(a0.2.2.length:Int) < 1 then(some 7) else(if 3 < (a0.2.2.length:Int) then(some 6) else(bE (α:=Unit) (fa k a0 k 0) (some) fun _=>
 some 0))))
theorem qC(k:Nat)(a0:bR)(r:Int)(h:kx k a0=some r):
 cd Tryz.prog 33 [.rep aI a0] [] (fun _:Unit=>(bv [I r],[])):=by
 unfold kx at h
 replace h:=ba h
 refine cd.of 51 Tryz.func33 rfl Tryz.ntmps33 rfl fun S w0=>?_
 refine sr ?_
 refine bx fun b1=>?_
 refine cq ?_
 refine nt ?_
 refine ah ?_
 refine sr ?_
 refine fl qf ?_
 refine lo dw ?_
 obtain⟨r2,U,h⟩:=ab h
 have X:=d5 k a0.1 1 6 r2 U
 refine jc (ar [.tmp 10,.const (.int .i64 (1)),.const (.int .i64 (6))] rfl rfl zb rfl X) ?_
 refine ja (fW rfl) ?_
 refine nt ?_
 refine cw h (fun h=>?_) (fun h=>?_)
 ·
  refine sr (cq (nt (rx ?_)));cases h;exact ra
 ·
  refine sk (ah (sr (fl i7 ?_)));refine lo qE ?_;refine ol zM ?_;refine jb (mC rfl) ?_;refine nt (ci h (fun h=>?_) (fun h=>?_))
  ·refine sr (cq (nt (rx ?_)));cases h;exact ra
  ·refine sk (fj (Z:=Unit) (α:=Unit) (fun z4 x3=>[(1,Pt b1)]) (fun z4 x3=>[.obj b1 25 (.rep aI a0)]) (fun e=>e=r) h (fun e h=>Option.some.inj h) (fun K hR h=>?_) (fun z4 x3 h=>?_))
   ·refine sr (fl i7 ?_);refine lo qE ?_;refine ol zM ?_;refine eB rfl ?_;refine nt (aj (aH (fun z6 y5=>[(1,Pt b1),(18,Rs c9 a0.2.1),(19,I (a0.2.1.length:Int)),(20,I y5)]) (fun z6 y5=>[.obj b1 25 (.rep aI a0)]) (fe k a0) k () 0 (fun _=>rfl) h (SE.fin [0] ⟨rfl,rfl,rfl,rfl,trivial⟩ rfl) (fun n z6 y5 h=>?_)));unfold fe at h;refine sr (jb (bz rfl) ?_);refine nt (ah (ci h (fun h=>?_) (fun h=>?_)))
    ·refine sk (ah (aj (sr ?_)));obtain⟨x7,O,h⟩:=ab h;refine jb (aL (t:=c9) rfl zM rP O) ?_;refine ja (ao (t:=c9) rfl rP rfl) ?_;refine aD rfl rfl rfl (bF rfl wl Jx) trivial fun b8=>?_;refine a8 rfl rfl (aW rfl rP rfl rfl rfl) ⟨rfl,rfl,trivial⟩ ?_;refine nt (sr (fr 1 ?_));refine lo jk ?_;refine fr 1 ?_;refine lo rP ?_;obtain⟨r9,Q,h⟩:=ab h;refine jb (ar [.tmp 24,.tmp 25] rfl rfl QH rfl (qB k a0 x7 r9 Q)) ?_;refine aq (nt (sr ?_));refine mq ?_;refine jb (iH rfl) ?_;refine nt (cn h (fun h=>?_) (fun h=>?_))
     ·refine sr (mq ?_);refine aq (nt (aB (br (bM (aX ?_)))));obtain rfl:=hR _ h;exact ra
     ·refine aO (aG (tn (aa ?_)));obtain⟨J,y,h⟩:=ab h;refine jb (bh rfl y) ?_;refine mq (nl ?_);exact jz ((),J) h [1]
    ·refine xa ?_;exact jz ((),()) h [0]
   ·refine ah (sr (fl iZ ?_));refine lo cp ?_;refine ol fY ?_;refine aq (nt (aj (sr ?_)));refine mq ?_;refine jb (bz rfl) ?_;refine aq (nt ?_);refine ci h (fun h=>?_) (fun h=>?_)
    ·refine sr (cq (nt (aB (bM (aX ?_)))));cases h;exact ra
    ·refine sr (mq ?_);refine jb (mC rfl) ?_;refine aq (nt ?_);refine ci h (fun h=>?_) (fun h=>?_)
     ·refine sr (cq (nt (aB (bM (aX ?_)))));cases h;exact ra
     ·refine aO (aG (tn (fj (Z:=Unit) (α:=Unit) (fun l s=>[]) (fun l s=>[]) (fun e=>e=r) h (fun e h=>Option.some.inj h) (fun K hR h=>?_) (fun l s h=>?_))))
      ·refine sr (fl iZ ?_);refine lo cp ?_;refine ol fY ?_;refine eB rfl ?_;refine nt (aj (aH (fun j c=>[(41,Ri a0.2.2),(42,I (a0.2.2.length:Int)),(43,I c)]) (fun j c=>[]) (fa k a0) k () 0 (fun _=>rfl) h (SE.fin [] ⟨rfl,rfl,rfl,trivial⟩ rfl) (fun n j c h=>?_)));unfold fa at h;refine sr (jb (bz rfl) ?_);refine nt (ah (ci h (fun h=>?_) (fun h=>?_)))
       ·refine sk (ah (aj (sr ?_)));obtain⟨F,x,h⟩:=ab h;refine jb (aL (t:=(.int .i64)) rfl fY dw x) ?_;refine ja (ao (t:=(.int .i64)) rfl dw rfl) ?_;refine aq (nt (sr ?_));refine mq ?_;obtain⟨M,D,h⟩:=ab h;refine jc (ar [.tmp 47,.const (.int .i64 (0)),.const (.int .i64 (9))] rfl rfl zb rfl (d5 k F 0 9 M D)) ?_;refine ja (fW rfl) ?_;refine nt (cw h (fun h=>?_) (fun h=>?_))
        ·refine sr (cq (nt (aB (br (bM (aX ?_))))));obtain rfl:=hR _ h;exact ra
        ·refine aO (aG (tn (aa ?_)));obtain⟨E,u,h⟩:=ab h;refine jb (bh rfl u) ?_;refine mq (nl ?_);exact jz ((),E) h []
       ·refine xa ?_;exact jz ((),()) h []
      ·refine sr (cq (nt (aB ?_)));cases h;exact ra
def dF(k:Nat)(a0:Int)(a1:Int):Option Bool:=
 (d3 (0≤a1)).bind fun _=>
 some (decide ((vd .u8 (gK .u8 a0 a1) 1)=1))
theorem gU(k:Nat)(a0:Int)(a1:Int)(r:Bool)(h:dF k a0 a1=some r):
 cd Tryz.prog 87 [.eq (.int .u8 a0),I a1] [] (fun _:Unit=>(bv [.eq (.bool r)],[])):=by
 unfold dF at h
 replace h:=ba h
 refine cd.of 10 Tryz.func87 rfl Tryz.ntmps87 rfl fun S w0=>?_
 refine sr ?_
 refine cq ?_
 refine nt ?_
 refine sr ?_
 iterate 2 refine mq ?_
 obtain⟨u1,c,h⟩:=ab h
 refine jb (t7 rfl (aC c)) ?_
 refine jb (NT rfl) ?_
 refine jb (de rfl) ?_
 refine aq ?_
 refine nt ?_
 refine aB ?_
 cases h
 exact ra
def dB(k:Nat)(a0:Int)(a1:Int):Option Int:=
 (d3 (0≤a1)).bind fun _=>
 some (BF .u8 a0 (lZ .u8 1 a1))
theorem iu(k:Nat)(a0:Int)(a1:Int)(r:Int)(h:dB k a0 a1=some r):
 cd Tryz.prog 134 [.eq (.int .u8 a0),I a1] [] (fun _:Unit=>(bv [.eq (.int .u8 r)],[])):=by
 unfold dB at h
 replace h:=ba h
 refine cd.of 9 Tryz.func134 rfl Tryz.ntmps134 rfl fun S w0=>?_
 refine sr ?_
 refine cq ?_
 refine nt ?_
 refine sr ?_
 iterate 2 refine mq ?_
 obtain⟨u1,c,h⟩:=ab h
 refine jb (E9 rfl (aC c)) ?_
 refine jb (NR rfl) ?_
 refine aq ?_
 refine nt ?_
 refine aB ?_
 cases h
 exact ra
def fR(k:Nat)(a0:bR)(a1:(List Int)):Nat→(Int×Int)→Option Int
 |0,_=>none
 |n+1,y4=>
  if y4.2 < (a1.length:Int) then((a9 a1 y4.2).bind fun x6=>
  (a9 a0.2.1 x6).bind fun x7=>
  (ck (y4.1+x7.1)).bind fun x8=>
  (ck (y4.2+1)).bind fun x9=>
  fR k a0 a1 n (x8,x9)) else(some y4.1)
def mm(k:Nat)(a0:bR)(a1:(List Int)):Option Int:=
 ((fR k a0 a1 k (0,0)):Option (Int)).bind fun x2=>
 some x2
theorem sM(k:Nat)(a0:bR)(a1:(List Int))(r:Int)(h:mm k a0 a1=some r):
 cd Tryz.prog 135 [.rep aI a0,Ri a1] [] (fun _:Unit=>(bv [I r],[])):=by
 unfold mm at h
 replace h:=ba h
 refine cd.of 24 Tryz.func135 rfl Tryz.ntmps135 rfl fun S w0=>?_
 refine sr ?_
 refine bx fun b1=>?_
 refine cq ?_
 refine nt ?_
 refine sr ?_
 refine cq ?_
 refine nt ?_
 refine aK (Z:=Unit) (α:=Int) (fun z3 x2=>[(5,I x2)]) (fun z3 x2=>[]) h (fun K h=>?_) (fun z3 x2 h=>?_)
 ·
  refine sr (mq ?_);refine ol fY ?_;refine eB rfl ?_;refine nt (aj (aH (fun z5 y4=>[(2,Pt b1),(5,I y4.1),(8,Ri a1),(9,I (a1.length:Int)),(10,I y4.2)]) (fun z5 y4=>[.obj b1 25 (.rep aI a0)]) (fR k a0 a1) k () (0,0) (fun _=>rfl) h (SE.fin [0] ⟨rfl,rfl,rfl,rfl,rfl,trivial⟩ rfl) (fun n z5 y4 h=>?_)));unfold fR at h;refine sr (jb (bz rfl) ?_);refine nt (ah (ci h (fun h=>?_) (fun h=>?_)))
  ·refine sk (ah (aj (sr ?_)));obtain⟨x6,l,h⟩:=ab h;refine jb (aL (t:=(.int .i64)) rfl fY dw l) ?_;refine ja (ao (t:=(.int .i64)) rfl dw rfl) ?_;refine aq (nt (aa ?_));refine mq ?_;refine fl i7 ?_;refine lo qE ?_;refine mq ?_;obtain⟨x7,j,h⟩:=ab h;refine jb (aL (t:=c9) rfl zM rP j) ?_;refine ja (aM 1 false rfl xh rfl) ?_;refine ja (ao (t:=(.int .i64)) rfl dw rfl) ?_;obtain⟨x8,e,h⟩:=ab h;refine jb (bh rfl e) ?_;refine aq (ak (aG (tn (aa ?_))));obtain⟨x9,c,h⟩:=ab h;refine jb (bh rfl c) ?_;refine mq (nl ?_);exact jz ((),(x8,x9)) h [0]
  ·refine xa ?_;exact jz ((),y4.1) h []
 ·
  refine sr (mq ?_);refine aq (nt (aB ?_));cases h;exact ra
def dW(k:Nat)(a0:bR)(x8:(List Int)):Nat→(Int×Int)→Option (Except Value Int)
 |0,_=>none
 |n+1,c=>
  if c.2 < (x8.length:Int) then((a9 x8 c.2).bind fun e=>
  (ck ((a0.2.1.length:Int) - 1)).bind fun j=>
  (dP k e 0 j).bind fun s=>
  if¬(s=true) then(some (.error (.iface 118 (.agg #[.int .i64 3])))) else((dF k c.1 e).bind fun r=>
  if r=true then(some (.error (.iface 118 (.agg #[.int .i64 4])))) else((dB k c.1 e).bind fun l=>
  (ck (c.2+1)).bind fun h=>
  dW k a0 x8 n (l,h)))) else(some (.ok c.1))
def eZ(k:Nat)(a0:bR)(a1:(List (List Int))):Nat→(Int×Int)→Option (Except Value Int)
 |0,_=>none
 |n+1,y4=>
  if y4.2 < (a1.length:Int) then(bE (α:=Int) ((a9 a1 y4.2).bind fun x8=>
  bE (α:=Int) (dW k a0 x8 k (y4.1,0)) (fun e=>some (.error e)) fun x9=>
  (mm k a0 x8).bind fun j=>
  (a9 a0.2.2 y4.2).bind fun h=>
  if h < j then(some (.error (.iface 118 (.agg #[.int .i64 12])))) else(some (.ok x9))) (fun e=>some (.error e)) fun x6=>
  (ck (y4.2+1)).bind fun c=>
  eZ k a0 a1 n (x6,c)) else(some (.ok y4.1))
def kw(k:Nat)(a0:bR)(a1:(List (List Int))):Option Value:=
 if(a1.length:Int) < (a0.2.2.length:Int) then(some (.iface 118 (.agg #[.int .i64 7]))) else(if(a0.2.2.length:Int) < (a1.length:Int) then(some (.iface 118 (.agg #[.int .i64 6]))) else(bE (α:=Int) (eZ k a0 a1 k (0,0)) (some) fun x2=>
 (d3 (0≤(a0.2.1.length:Int))).bind fun _=>
 if¬(x2=(IntKind.u8.wrap ((lZ .u8 1 (a0.2.1.length:Int)) - 1))) then(some (.iface 118 (.agg #[.int .i64 7]))) else(some (.nilIface))))
theorem qx(k:Nat)(a0:bR)(a1:(List (List Int)))(r:Value)(h:kw k a0 a1=some r):
 cd Tryz.prog 94 [.rep aI a0,.rep (.slice (.slice (.int .i64))) a1] [] (fun _:Unit=>(bv [.eq r],[])):=by
 unfold kw at h
 replace h:=ba h
 refine cd.of 80 Tryz.func94 rfl Tryz.ntmps94 rfl fun S w0=>?_
 refine sr ?_
 refine bx fun b1=>?_
 refine cq ?_
 refine nt ?_
 refine ah ?_
 refine sr ?_
 refine fl iZ ?_
 refine lo cp ?_
 refine ol fY ?_
 refine aq ?_
 refine nt ?_
 refine aj ?_
 refine sr ?_
 refine mq ?_
 refine ol lj ?_
 refine mq ?_
 refine jb (bz rfl) ?_
 refine aq ?_
 refine nt ?_
 refine ci h (fun h=>?_) (fun h=>?_)
 ·
  refine sr (ja (dr [(0,.const (.int .i64 (7)),_)] rfl vu tA sG (iS ⟨rfl,trivial⟩) rfl) ?_);refine ja (mB rfl D5) ?_;refine aq (nt (aB (bM (aX ?_))));cases h;exact ra
 ·
  refine sr (mq ?_);refine ol lj ?_;refine mq ?_;refine jb (mC rfl) ?_;refine aq (nt ?_);refine ci h (fun h=>?_) (fun h=>?_)
  ·refine sr (ja (dr [(0,.const (.int .i64 (6)),_)] rfl vu tA sG (iS ⟨rfl,trivial⟩) rfl) ?_);refine ja (mB rfl D5) ?_;refine aq (nt (aB (bM (aX ?_))));cases h;exact ra
  ·refine aO (aG (tn (sr (cq (nt ?_)))));refine fj (Z:=Unit) (α:=Int) (fun z3 x2=>[(2,Pt b1),(6,.eq (.int .u8 x2))]) (fun z3 x2=>[.obj b1 25 (.rep aI a0)]) (fun e=>e=r) h (fun e h=>Option.some.inj h) (fun K hR h=>?_) (fun z3 x2 h=>?_)
   ·refine sr (mq ?_);refine ol lj ?_;refine eB rfl ?_;refine nt (aj (aH (fun z5 y4=>[(2,Pt b1),(6,.eq (.int .u8 y4.1)),(28,.rep (.slice (.slice (.int .i64))) a1),(29,I (a1.length:Int)),(30,I y4.2)]) (fun z5 y4=>[.obj b1 25 (.rep aI a0)]) (eZ k a0 a1) k () (0,0) (fun _=>rfl) h (SE.fin [0] ⟨rfl,rfl,rfl,rfl,rfl,trivial⟩ rfl) (fun n z5 y4 h=>?_)));unfold eZ at h;refine sr (jb (bz rfl) ?_);refine nt (ah (ci h (fun h=>?_) (fun h=>?_)))
    ·refine sk (fj (Z:=Unit) (α:=Int) (fun z7 x6=>[(2,Pt b1),(6,.eq (.int .u8 x6)),(28,.rep (.slice (.slice (.int .i64))) a1),(29,I (a1.length:Int)),(30,I y4.2)]) (fun z7 x6=>[.obj b1 25 (.rep aI a0)]) (fun e=>e=r) h (fun e h=>hR e h) (fun K hR h=>?_) (fun z7 x6 h=>?_))
     ·refine aj (sr (mq ?_));obtain⟨x8,se,h⟩:=ab h;refine jb (aL (t:=(.slice (.int .i64))) rfl lj cp se) ?_;refine ja (ao (t:=(.slice (.int .i64))) rfl cp rfl) ?_;refine aq ?_;refine aq (nt ?_);refine fj (Z:=Unit) (α:=Int) (fun s x9=>[(2,Pt b1),(6,.eq (.int .u8 x9)),(7,I y4.2),(8,Ri x8),(28,.rep (.slice (.slice (.int .i64))) a1),(29,I (a1.length:Int)),(30,I y4.2)]) (fun s x9=>[.obj b1 25 (.rep aI a0)]) (fun e=>e=r) h (fun e h=>hR e h) (fun K hR h=>?_) (fun s x9 h=>?_)
      ·refine sr (mq ?_);refine ol fY ?_;refine eB rfl ?_;refine nt (aj (aH (fun l c=>[(2,Pt b1),(6,.eq (.int .u8 c.1)),(7,I y4.2),(8,Ri x8),(28,.rep (.slice (.slice (.int .i64))) a1),(29,I (a1.length:Int)),(30,I y4.2),(35,Ri x8),(36,I (x8.length:Int)),(37,I c.2)]) (fun l c=>[.obj b1 25 (.rep aI a0)]) (dW k a0 x8) k () (y4.1,0) (fun _=>rfl) h (SE.fin [0] ⟨rfl,rfl,rfl,rfl,rfl,rfl,rfl,rfl,rfl,rfl,trivial⟩ rfl) (fun n l c h=>?_)));unfold dW at h;refine sr (jb (bz rfl) ?_);refine nt (ah (ci h (fun h=>?_) (fun h=>?_)))
       ·refine sk (ah (aj (sr ?_)));obtain⟨j,F,h⟩:=ab h;refine jb (aL (t:=(.int .i64)) rfl fY dw F) ?_;refine ja (ao (t:=(.int .i64)) rfl dw rfl) ?_;refine aq (nt (ah (sr ?_)));refine mq ?_;refine fl i7 ?_;refine lo qE ?_;refine ol zM ?_;obtain⟨ac,E,h⟩:=ab h;refine jb (gC rfl E) ?_;obtain⟨qt,U,h⟩:=ab h;refine jc (ar [.tmp 41,.const (.int .i64 (0)),.tmp 45] rfl rfl zb rfl (d5 k j 0 ac qt U)) ?_;refine ja (fW rfl) ?_;refine nt (cw h (fun h=>?_) (fun h=>?_))
        ·refine sr (ja (dr [(0,.const (.int .i64 (3)),_)] rfl vu tA sG (iS ⟨rfl,trivial⟩) rfl) ?_);refine ja (mB rfl D5) ?_;refine aq (nt (rx (br (bM (aX (br (bM (aX ?_))))))));obtain rfl:=hR _ h;exact ra
        ·refine sk (ah (sr ?_));iterate 2 refine mq ?_
         obtain⟨pp,Q,h⟩:=ab h;refine jb (ar [.tmp 50,.tmp 51] rfl rfl Je rfl (gU k c.1 j pp Q)) ?_;refine nt (cv h (fun h=>?_) (fun h=>?_))
         ·refine sr (ja (dr [(0,.const (.int .i64 (4)),_)] rfl vu tA sG (iS ⟨rfl,trivial⟩) rfl) ?_);refine ja (mB rfl D5) ?_;refine aq (nt (rx (br (bM (aX (br (bM (aX ?_))))))));obtain rfl:=hR _ h;exact ra
         ·refine sk (aa ?_);iterate 2 refine mq ?_
          obtain⟨u,O,h⟩:=ab h;refine jb (ar [.tmp 55,.tmp 56] rfl rfl BS rfl (iu k c.1 j u O)) ?_;refine aq (ak (aG (tn (aa ?_))));obtain⟨Y,D,h⟩:=ab h;refine jb (bh rfl D) ?_;refine mq (nl ?_);exact jz ((),(u,Y)) h [0]
       ·refine xa ?_;exact jz ((),c.1) h [0]
      ·refine ah (bZ ?_);refine ea 0 (an rfl jk (zK) rfl) ?_;refine dm ?_;obtain⟨mc,M,h⟩:=ab h;refine db (ar [.tmp 59,.tmp 60] rfl rfl KD rfl (sM k a0 x8 mc M)) ?_;refine da (ax rfl iZ) ?_;refine ea 0 (an rfl cp mN rfl) ?_;refine dm ?_;obtain⟨Rz,y,h⟩:=ab h;refine db (aL (t:=(.int .i64)) rfl fY dw y) ?_;refine da (ao (t:=(.int .i64)) rfl dw rfl) ?_;refine df eU ?_;refine jb (mC rfl) ?_;refine nt (ci h (fun h=>?_) (fun h=>?_))
       ·refine sr (ja (dr [(0,.const (.int .i64 (12)),_)] rfl vu tA sG (iS ⟨rfl,trivial⟩) rfl) ?_);refine ja (mB rfl D5) ?_;refine aq (nt (aB (br (bM (aX ?_)))));obtain rfl:=hR _ h;exact ra
       ·refine aO (bn ?_);exact jz ((),x9) h [0]
     ·refine aa ?_;obtain⟨X,x,h⟩:=ab h;refine jb (bh rfl x) ?_;refine mq (nl ?_);exact jz ((),(x6,X)) h [0]
    ·refine xa ?_;exact jz ((),y4.1) h [0]
   ·refine ah (sr (mq ?_));refine fl i7 ?_;refine lo qE ?_;refine ol zM ?_;obtain⟨RA,J,h⟩:=ab h;refine jb (E9 rfl (aC J)) ?_;refine jb (E8 rfl) ?_;refine jb (iH rfl) ?_;refine nt (cn h (fun h=>?_) (fun h=>?_))
    ·refine sr (ja (dr [(0,.const (.int .i64 (7)),_)] rfl vu tA sG (iS ⟨rfl,trivial⟩) rfl) ?_);refine ja (mB rfl D5) ?_;refine aq (nt (rx ?_));cases h;exact ra
    ·refine sk (sr (cq (nt (aB ?_))));cases h;exact ra
def cD(k:Nat)(a0:(List (List Int)))(y5:(List (List Int))×Int):Nat→((List (List Int))×Int)→Option (List (List Int))
 |0,_=>none
 |n+1,y9=>
  if y9.2 < 5 then((((d3 (0≤y5.2∧y5.2 < 3)).bind fun _=>
  (a9 y9.1 y5.2).bind fun c=>
  (d3 (0≤y9.2∧y9.2 < 5)).bind fun _=>
  ((if y5.2 < (a0.length:Int) then((a9 a0 y5.2).bind fun r=>
  some (decide (y9.2 < (r.length:Int)))) else(some false)):Option (Bool)).bind fun s=>
  if s=true then((a9 a0 y5.2).bind fun l=>
  (a9 l y9.2).bind fun j=>
  (d3 (0≤y5.2∧y5.2 < 3)).bind fun _=>
  (a9 (List.set y9.1 (Int.toNat y5.2) (List.set c (Int.toNat y9.2) (-1:Int))) y5.2).bind fun h=>
  (d3 (0≤y9.2∧y9.2 < 5)).bind fun _=>
  some (List.set (List.set y9.1 (Int.toNat y5.2) (List.set c (Int.toNat y9.2) (-1:Int))) (Int.toNat y5.2) (List.set h (Int.toNat y9.2) j))) else(some (List.set y9.1 (Int.toNat y5.2) (List.set c (Int.toNat y9.2) (-1:Int))))):Option ((List (List Int)))).bind fun u=>
  (ck (y9.2+1)).bind fun e=>
  cD k a0 y5 n (u,e)) else(some y9.1)
def cP(k:Nat)(a0:(List (List Int))):Nat→((List (List Int))×Int)→Option (List (List Int))
 |0,_=>none
 |n+1,y5=>
  if y5.2 < 3 then(((cD k a0 y5 k (y5.1,0)):Option ((List (List Int)))).bind fun x7=>
  (ck (y5.2+1)).bind fun c=>
  cP k a0 n (x7,c)) else(some y5.1)
def dG(k:Nat)(a0:(List (List Int))):Option (List (List Int)):=
 ((cP k a0 k ([[0,0,0,0,0],[0,0,0,0,0],[0,0,0,0,0]],0)):Option ((List (List Int)))).bind fun x3=>
 some x3
theorem eJ(k:Nat)(a0:(List (List Int)))(r:(List (List Int)))(h:dG k a0=some r):
 cd Tryz.prog 86 [.rep (.slice (.slice (.int .i64))) a0] [] (fun _:Unit=>(bv [.rep (.arr 3 (.arr 5 (.int .i64))) r],[])):=by
 unfold dG at h
 replace h:=ba h
 refine cd.of 43 Tryz.func86 rfl Tryz.ntmps86 rfl fun S w0=>?_
 refine sr ?_
 refine aD rfl rfl rfl (bF rfl lx lS) trivial fun b1=>?_
 refine nt ?_
 refine sr ?_
 refine aD rfl rfl rfl (bF rfl lx lS) trivial fun b2=>?_
 refine nt ?_
 refine aK (Z:=Unit) (α:=(List (List Int))) (fun z4 x3=>[(2,Pt b1),(3,Pt b2)]) (fun z4 x3=>[.obj b1 107 (.rep (.arr 3 (.arr 5 (.int .i64))) [[0,0,0,0,0],[0,0,0,0,0],[0,0,0,0,0]]),.obj b2 107 (.rep (.arr 3 (.arr 5 (.int .i64))) x3)]) h (fun K h=>?_) (fun z4 x3 h=>?_)
 ·
  refine sr (eB rfl ?_);refine nt (aj (aH (fun z6 y5=>[(0,.rep (.slice (.slice (.int .i64))) a0),(2,Pt b1),(3,Pt b2),(6,I y5.2)]) (fun z6 y5=>[.obj b1 107 (.rep (.arr 3 (.arr 5 (.int .i64))) [[0,0,0,0,0],[0,0,0,0,0],[0,0,0,0,0]]),.obj b2 107 (.rep (.arr 3 (.arr 5 (.int .i64))) y5.1)]) (cP k a0) k () ([[0,0,0,0,0],[0,0,0,0,0],[0,0,0,0,0]],0) (fun _=>rfl) h (SE.fin [1,0] ⟨rfl,rfl,rfl,rfl,trivial⟩ rfl) (fun n z6 y5 h=>?_)));unfold cP at h;refine sr (jb (bz rfl) ?_);refine nt (ah (ci h (fun h=>?_) (fun h=>?_)))
  ·refine sk (aK (Z:=Unit) (α:=(List (List Int))) (fun z8 x7=>[(0,.rep (.slice (.slice (.int .i64))) a0),(2,Pt b1),(3,Pt b2),(6,I y5.2)]) (fun z8 x7=>[.obj b1 107 (.rep (.arr 3 (.arr 5 (.int .i64))) [[0,0,0,0,0],[0,0,0,0,0],[0,0,0,0,0]]),.obj b2 107 (.rep (.arr 3 (.arr 5 (.int .i64))) x7)]) h (fun K h=>?_) (fun z8 x7 h=>?_))
   ·refine aj (sr (mq ?_));refine aq (nt (sr ?_));refine eB rfl ?_;refine nt (aj (aH (fun J y9=>[(0,.rep (.slice (.slice (.int .i64))) a0),(2,Pt b1),(3,Pt b2),(4,I y5.2),(6,I y5.2),(9,I y9.2)]) (fun J y9=>[.obj b1 107 (.rep (.arr 3 (.arr 5 (.int .i64))) [[0,0,0,0,0],[0,0,0,0,0],[0,0,0,0,0]]),.obj b2 107 (.rep (.arr 3 (.arr 5 (.int .i64))) y9.1)]) (cD k a0 y5) k () (y5.1,0) (fun _=>rfl) h (SE.fin [0,1] ⟨rfl,rfl,rfl,rfl,rfl,rfl,trivial⟩ rfl) (fun n J y9 h=>?_)));unfold cD at h;refine sr (jb (bz rfl) ?_);refine nt (ah (ci h (fun h=>?_) (fun h=>?_)))
    ·refine sk (aK (Z:=Unit) (α:=(List (List Int))) (fun F l=>[(0,.rep (.slice (.slice (.int .i64))) a0),(2,Pt b1),(3,Pt b2),(4,I y5.2),(6,I y5.2),(9,I y9.2)]) (fun F l=>[.obj b1 107 (.rep (.arr 3 (.arr 5 (.int .i64))) [[0,0,0,0,0],[0,0,0,0,0],[0,0,0,0,0]]),.obj b2 107 (.rep (.arr 3 (.arr 5 (.int .i64))) l)]) h (fun K h=>?_) (fun F l h=>?_))
     ·refine aj (sr (mq ?_));refine aq (nt (sr ?_));iterate 2 refine mq ?_
      obtain⟨RF,x,h⟩:=ab h;refine jb (g7 rfl JG yd (aC x).1 (aC x).2) ?_;obtain⟨D,ac,h⟩:=ab h;obtain⟨RE,e,h⟩:=ab h;refine jb (g7 rfl JH dw (aC e).1 (aC e).2) ?_;refine fr 1 ?_;refine a8 rfl rfl (m3 (t:=(.int .i64)) (off:=0) (i:=y5.2) (j:=y9.2) (N:=3) (L:=5) rfl dw .int rfl rfl rfl rfl ac (aC e).1 (aC e).2 rfl) ⟨rfl,rfl,trivial⟩ ?_;refine nt (aK (Z:=Unit) (α:=Bool) (fun E y=>[(0,.rep (.slice (.slice (.int .i64))) a0),(2,Pt b1),(3,Pt b2),(4,I y5.2),(5,I y9.2),(6,I y5.2),(9,I y9.2),(28,.eq (.bool y))]) (fun E y=>[.obj b1 107 (.rep (.arr 3 (.arr 5 (.int .i64))) [[0,0,0,0,0],[0,0,0,0,0],[0,0,0,0,0]]),.obj b2 107 (.rep (.arr 3 (.arr 5 (.int .i64))) (List.set y9.1 (Int.toNat y5.2) (List.set D (Int.toNat y9.2) (-1:Int))))]) h (fun K h=>?_) (fun E y h=>?_))
      ·refine aa ?_;iterate 2 refine mq ?_
       refine ol lj ?_;refine jb (bz rfl) ?_;refine mq ?_;refine bG (s:=20) rfl (fun hb=>?_) (fun hb=>?_)
       ·replace h:=cm (l5 hb) h;refine gm ?_;refine gm ?_;refine gm ?_;obtain⟨Rz,Y,h⟩:=ab h;refine gb (aL (t:=(.slice (.int .i64))) rfl lj cp Y) ?_;refine ga (ao (t:=(.slice (.int .i64))) rfl cp rfl) ?_;refine ga (jg rfl rfl fY) ?_;refine gb (bz rfl) ?_;refine pt (nl ?_);exact jz ((),decide (y9.2 < (Rz.length:Int))) h [1,0]
       ·replace h:=bD (lu hb) h;iterate 7 refine gn ?_
        refine pf (nl ?_);exact jz ((),false) h [1,0]
      ·refine cv h (fun h=>?_) (fun h=>?_)
       ·refine bZ ?_;refine dm ?_;refine dm ?_;refine dm ?_;refine dm ?_;obtain⟨RA,X,h⟩:=ab h;refine db (aL (t:=(.slice (.int .i64))) rfl lj cp X) ?_;refine da (ao (t:=(.slice (.int .i64))) rfl cp rfl) ?_;refine dm ?_;obtain⟨se,U,h⟩:=ab h;refine db (aL (t:=(.int .i64)) rfl fY dw U) ?_;refine da (ao (t:=(.int .i64)) rfl dw rfl) ?_;obtain⟨RD,u,h⟩:=ab h;refine db (g7 rfl JG yd (aC u).1 (aC u).2) ?_;refine df eU ?_;obtain⟨qt,Q,h⟩:=ab h;obtain⟨RB,c,h⟩:=ab h;refine jb (g7 rfl JH dw (aC c).1 (aC c).2) ?_;refine fr 1 ?_;refine a8 rfl rfl (m3 (t:=(.int .i64)) (off:=0) (i:=y5.2) (j:=y9.2) (N:=3) (L:=5) rfl dw .int rfl rfl rfl rfl Q (aC c).1 (aC c).2 rfl) ⟨rfl,rfl,trivial⟩ ?_;refine ak (bn ?_);exact jz ((),List.set (List.set y9.1 (Int.toNat y5.2) (List.set D (Int.toNat y9.2) (-1:Int))) (Int.toNat y5.2) (List.set qt (Int.toNat y9.2) se)) h [1,0]
       ·refine aO (bn ?_);exact jz ((),List.set y9.1 (Int.toNat y5.2) (List.set D (Int.toNat y9.2) (-1:Int))) h [0,1]
     ·refine aa ?_;obtain⟨pp,O,h⟩:=ab h;refine jb (bh rfl O) ?_;refine mq (nl ?_);exact jz ((),(l,pp)) h [0,1]
    ·refine dD (aN (aN (bU (bn ?_))));exact jz ((),y9.1) h [0,1]
   ·refine aa ?_;obtain⟨mc,M,h⟩:=ab h;refine jb (bh rfl M) ?_;refine mq (nl ?_);exact jz ((),(x7,mc)) h [0,1]
  ·refine xa ?_;exact jz ((),y5.1) h [0,1]
 ·
  refine sr (fr 1 ?_);refine lo cN ?_;refine fr 1 ?_;refine a8 rfl rfl (aW rfl cN rfl rfl rfl) ⟨rfl,rfl,trivial⟩ ?_;refine nt (aB ?_);obtain rfl:=Option.some.inj h;exact aJ () [.rep (.arr 3 (.arr 5 (.int .i64))) x3] 0 ⟨⟨_,_,_,_,_,rfl,(.head _),cN,(zK),rfl⟩,trivial⟩ rfl
def cG(k:Nat)(x5:(List Int)):Nat→((List Int)×Int)→Option (List Int)
 |0,_=>none
 |n+1,y6=>
  if y6.2 < 5 then((((a9 x5 y6.2).bind fun c=>
  if 0≤c then((d3 (bV (List.length y6.1+List.length [c]))).bind fun _=>
  some (y6.1++[c])) else(some y6.1)):Option ((List Int))).bind fun x8=>
  (ck (y6.2+1)).bind fun e=>
  cG k x5 n (x8,e)) else(some y6.1)
def dC(k:Nat)(a0:(List (List Int)))(a1:Int):Option (List Int):=
 (((d3 (0≤a1∧a1 < 3)).bind fun _=>
 (a9 a0 a1).bind fun x5=>
 cG k x5 k (([]:(List Int)),0)):Option ((List Int))).bind fun x2=>
 some x2
theorem fE(k:Nat)(a0:(List (List Int)))(a1:Int)(r:(List Int))(h:dC k a0 a1=some r):
 cd Tryz.prog 110 [.rep (.arr 3 (.arr 5 (.int .i64))) a0,I a1] [] (fun _:Unit=>(bv [Ri r],[])):=by
 unfold dC at h
 replace h:=ba h
 refine cd.of 22 Tryz.func110 rfl Tryz.ntmps110 rfl fun S w0=>?_
 refine sr ?_
 refine bx fun b1=>?_
 refine cq ?_
 refine nt ?_
 refine sr ?_
 refine cq ?_
 refine nt ?_
 refine aK (Z:=Value) (α:=(List Int)) (fun z3 x2=>[(5,.eq z3)]) (fun z3 x2=>[.sl z3 3 (.int .i64) x2]) h (fun K h=>?_) (fun z3 x2 h=>?_)
 ·
  refine sr (mq ?_);obtain⟨u4,l,h⟩:=ab h;refine jb (g7 rfl JG yd (aC l).1 (aC l).2) ?_;obtain⟨x5,y,h⟩:=ab h;refine ka (As (t:=(.arr 5 (.int .i64))) (off:=0) (i:=a1) (N:=3) rfl yd (zK) rfl rfl rfl rfl y) ?_;refine eB rfl ?_;refine nt (aj (fP (SE.nil 3 (.int .i64)) ?_));refine aH (fun z7 y6=>[(5,.eq z7),(10,.rep (.arr 5 (.int .i64)) x5),(11,I y6.2)]) (fun z7 y6=>[.sl z7 3 (.int .i64) y6.1]) (cG k x5) k (.slice none 0 0) (([]:(List Int)),0) (fun _=>rfl) h (SE.fin [0] ⟨rfl,rfl,rfl,trivial⟩ rfl) (fun n z7 y6 h=>?_);unfold cG at h;refine sr (jb (bz rfl) ?_);refine nt (ah (ci h (fun h=>?_) (fun h=>?_)))
  ·refine sk (aK (Z:=Value) (α:=(List Int)) (fun z9 x8=>[(5,.eq z9),(10,.rep (.arr 5 (.int .i64)) x5),(11,I y6.2)]) (fun z9 x8=>[.sl z9 3 (.int .i64) x8]) h (fun K h=>?_) (fun z9 x8 h=>?_))
   ·refine aj (sr ?_);obtain⟨c,j,h⟩:=ab h;refine jb (yr (t:=(.int .i64)) rfl JH dw rfl rfl (fun _=>rfl) j) ?_;refine aq (nt (sr ?_));refine mq ?_;refine jb (pA rfl) ?_;refine nt (ci h (fun h=>?_) (fun h=>?_))
    ·refine aa ?_;iterate 2 refine mq ?_
     refine ja (bu (t:=(.int .i64)) [(.tmp 17,_)] [c] rfl rfl fp (.cons rfl .int .nil) rfl rfl) ?_;obtain⟨D,s,h⟩:=ab h;refine dS rfl rfl rfl (ct rfl rfl fp (aC s)) ⟨rfl,rfl,trivial⟩ fun x=>?_;refine aq (ak (bn ?_));exact jz (x,y6.1++[c]) h [0]
    ·refine aO (bn ?_);exact jz (z7,y6.1) h [0]
   ·refine aa ?_;obtain⟨u,e,h⟩:=ab h;refine jb (bh rfl e) ?_;refine mq (nl ?_);exact jz (z9,(x8,u)) h [0]
  ·refine xa ?_;exact jz (z7,y6.1) h [0]
 ·
  refine sr (mq ?_);refine aq (nt (aB ?_));refine bS (fM [4,5,21] ⟨rfl,rfl,rfl,trivial⟩) ?_;cases h;exact ra
def cr{σ:Type}(k:Nat)(a1:(List Int))(Y:σ→(Int×Int)→Option (σ×Bool)):Nat→(Int×σ)→Option (σ)
 |0,_=>none
 |n+1,y2=>
  if 0≤y2.1 then((a9 a1 y2.1).bind fun x4=>
  (Y y2.2 (y2.1,x4)).bind fun r5=>
  if¬(r5.2=true) then(some r5.1) else((ck (y2.1 - 1)).bind fun x7=>
  cr k a1 Y n (x7,r5.1))) else(some y2.2)
def f8{σ:Type}(k:Nat)(Y:σ→(Int×Int)→Option (σ×Bool))(a1:(List Int))(s0:σ):Option (σ):=
 (ck ((a1.length:Int) - 1)).bind fun x1=>
 cr k a1 Y k (x1,s0)
theorem nv{M:Md Tryz.prog}{σ Z:Type}(E:Z→σ→List D)(l:Nat)(Y:σ→(Int×Int)→Option (σ×Bool))(k:Nat)(a1:(List Int))(c:Nat)(hY:∀z s p r,Y s p=some r→YT M l [I p.1,I p.2] (E z s) (fun z':Z=>(.eq (.bool r.2),E z' r.1))):
 ∀(z0:Z) (s0:σ) (r:σ),f8 k Y a1 s0=some r→c6 M 208 [.eq (.func (.yield l) #[] #[]),Pt c] ([.obj c 23 (Ri a1)]++E z0 s0) (fun z:Z=>(bv [],[.obj c 23 (Ri a1)]++E z r)):=by
 intro z0 s0 r h
 unfold f8 at h
 replace h:=ba h
 refine c6.of 19 Tryz.func208 rfl Tryz.ntmps208 rfl fun S w0=>?_
 refine sr ?_
 refine lo cp ?_
 refine ol fY ?_
 obtain⟨x1,u,h⟩:=ab h
 refine jb (gC rfl u) ?_
 refine aq ?_
 refine nt ?_
 refine aj ?_
 refine aH (Z:=Z) (α:=Int×σ) (fun z3 y2=>[(0,.eq (.func (.yield l) #[] #[])),(1,Pt c),(3,I y2.1)]) (fun z3 y2=>[.obj c 23 (Ri a1)]++E z3 y2.2) (cr k a1 Y) k z0 (x1,s0) (fun _=>rfl) h (aV [.obj c 23 (Ri a1)] (E z0 s0) [0] ⟨rfl,rfl,rfl,trivial⟩ rfl) (fun n z3 y2 h=>?_)
 unfold cr at h
 refine ah ?_
 refine sr ?_
 refine mq ?_
 refine jb (pA rfl) ?_
 refine nt ?_
 refine ci h (fun h=>?_) (fun h=>?_)
 ·
  refine sk (ah (aj (sr ?_)));iterate 2 refine mq ?_
  refine lo cp ?_;refine mq ?_;obtain⟨x4,j,h⟩:=ab h;refine jb (aL (t:=(.int .i64)) rfl fY dw j) ?_;refine ja (ao (t:=(.int .i64)) rfl dw rfl) ?_;obtain⟨r5,x,h⟩:=ab h;refine oC [.obj c 23 (Ri a1)] rfl rfl rfl (wI [.tmp 12,.tmp 16] rfl rfl rfl (hY z3 y2.2 (y2.1,x4) r5 x)) ⟨rfl,rfl,rfl,trivial⟩ fun z6=>?_;refine ja (fW rfl) ?_;refine nt (cw h (fun h=>?_) (fun h=>?_))
  ·refine aB (br (bM ?_));cases h;exact ic z6 [] trivial rfl
  ·refine aO (aG (tn (aa (mq ?_))));obtain⟨x7,e,h⟩:=ab h;refine jb (gC rfl e) ?_;refine aq (nl ?_);exact gP (z6,(x7,r5.1)) h (aV [.obj c 23 (Ri a1)] (E z6 r5.1) [0] ⟨rfl,rfl,rfl,trivial⟩ rfl)
 ·
  refine dD (aN (aN (bU (iq ?_))));cases h;exact ic z3 [] trivial rfl
theorem pq(a0:(List Int)):cd Tryz.prog 190 [Ri a0] [] (fun z:Nat=>(bv [.eq (.func (.func 208) #[] #[(Pv z)])],[.obj z 23 (Ri a0)])):=by
 refine cd.of 4 Tryz.func190 rfl Tryz.ntmps190 rfl fun S w0=>?_;refine sr (bx fun z=>?_);refine cq (nt (sr ?_));refine ja (sa [] [.tmp 1] [] [(Pv z)] rfl rfl rfl) ?_;refine aq (nt (aB ?_));exact aJ z [_] 1 ⟨rfl,trivial⟩ rfl
def nH(k:Nat)(a0:(List Int)):Option (List Int):=
 (f8 k (kN (fun(y3:(List Int)) (p5:(Int×Int))=>
  some ((p5.2::y3),true))) a0 ([],false)).bind fun r6=>
 if r6.2=true then(none) else(some r6.1)
theorem xY(k:Nat)(a0:(List Int))(r:(List Int))(h:nH k a0=some r):
 cd Tryz.prog 157 [Ri a0] [] (fun _:Unit=>(bv [.rep (.lst (.int .i64)) r],[])):=by
 unfold nH at h
 replace h:=ba h
 refine xE 15 Tryz.func157 rfl Tryz.ntmps157 rfl fun {M} S w0=>?_
 refine sr ?_
 refine cq ?_
 refine nt ?_
 refine sr ?_
 refine aD rfl rfl rfl (bF rfl Nc PG) trivial fun b1=>?_
 refine nt ?_
 refine ah ?_
 refine sr ?_
 refine mq ?_
 refine aD rfl rfl rfl (ar [.tmp 6] rfl rfl OX rfl (pq a0)) ⟨rfl,trivial⟩ fun b2=>?_
 refine nt ?_
 refine aj ?_
 refine dV 1 rfl ?_
 refine fP (pg (a:=.eq (.pointer none)) (a':=.rep (.lst (.int .i64)) []) (xG .lnil)) ?_
 refine dV 1 rfl ?_
 obtain⟨r6,c,h⟩:=ab h
 refine ko (Δ:=[.obj b2 23 (Ri a0),.obj b1 216 (.rep (.lst (.int .i64)) [])]) (F:=[]) (X:=Unit) (J:=fun _=>Ek r6.2) (E:=fun z4=>[.obj b2 23 (Ri a0),.obj b1 216 (.rep (.lst (.int .i64)) r6.1)]) (r0:=fun _=>.tup .any) rfl rfl OS (fun rec hp ha hb hs hpe hN hv l=>?_) (fun dl z4=>mT (fun hj=>?_) (fun hj=>?_))
 ·
  rcases rec with⟨st0,pe0,fn0,tm0,ps0,as0,bd0,df0⟩;dsimp only at hp ha hb hs hpe hN hv;subst hp hs hpe;have vN:te tm0 [(3,Pt b1)]:=⟨congrArg A.eq (hv 3 _ rfl).symm,trivial⟩;refine c6.pick (M:=M) [1,0,2] [1,0,2] (nv (fun(z4:Unit) (q:(List Int)×Bool)=>[.raw l (.loop (ii ⟨.ready,none,fn0,tm0, #[8,9],as0,bd0,df0⟩ (Ek q.2))),.obj b1 216 (.rep (.lst (.int .i64)) q.1)]) l (kN (fun(y3:(List Int)) (p5:(Int×Int))=>
  some ((p5.2::y3),true))) k a0 b2 (fun z4 q p r' h=>?_) () ([],false) r6 c) rfl (fun _=>rfl) (fun _=>rfl)
  obtain⟨rq,hq,h2,rfl⟩:=mU h;obtain⟨y3,b5⟩:=q;obtain rfl:b5=false:=hq;replace h:=ba h2;obtain⟨p5,hpv⟩:∃x,x=p:=⟨_,rfl⟩;subst hpv;refine YT.pick (R':=(fun z4:Unit=>(.eq (.bool rq.2),[.raw l (.loop (ii ⟨.ready,none,fn0,tm0, #[8,9],as0,bd0,df0⟩ (Ek (!rq.2)))),.obj b1 216 (.rep (.lst (.int .i64)) rq.1)]))) [0,1] [0,1] (JF ha hb (N:=15) (Γ:=[(3,Pt b1)]) rfl hN (by decide) vN (fun S w=>?_)) rfl (fun _=>rfl) (fun _=>rfl);refine aa (aq (nl ?_));refine rC rfl rfl ?_;refine aj (aa (mq ?_));refine fr 1 ?_;refine lo yb ?_;refine jb (dr [(0,.tmp 10,_),(1,.tmp 11,_)] rfl NK Nb MH (iS ⟨rfl,rfl,trivial⟩) rfl) ?_;refine aD rfl rfl rfl (nq rfl trivial) ⟨rfl,trivial⟩ fun b7=>?_;refine co (kD (t:=EI) (x:=(p5.2,y3)) [13] (.agg (.pair .int .rep)) ⟨rfl,trivial⟩) ?_;refine a8 rfl rfl (aW rfl yb trivial rfl rfl) ⟨rfl,rfl,trivial⟩ ?_;refine ak (aG (bS (pg (a:=.at EI (p5.2,y3)) (a':=.rep (.lst (.int .i64)) (p5.2::y3)) (xG .lcons)) ?_));refine bO 1 rfl ?_;cases h;exact mK () 1 rfl
 ·
  replace h:=bD (zT hj) h;refine aG (tn (sr (fr 2 ?_)));refine lo yb ?_;refine aq (nt (aB ?_));refine bO 1 rfl ?_;refine tw ?_;cases h;exact ra
 ·
  replace h:=cm (zS hj) h;cases h
def fS(k:Nat)(a1:Int):Nat→(Int×(List Int)×(List Int)×(List Int))→Option (Int×(List Int))
 |0,_=>none
 |n+1,y2=>
  if List.isEmpty y2.2.2.2=true then((d3 (bV (List.length y2.2.2.1+List.length y2.2.1))).bind fun _=>
  some (y2.1,y2.2.2.1++y2.2.1)) else((nE y2.2.2.2).bind fun x6=>
  (dF k a1 x6.1).bind fun r7=>
  if r7=true then((nE y2.2.2.2).bind fun x8=>
  (d3 (bV (List.length y2.2.1+List.length [x8.1]))).bind fun _=>
  (nE y2.2.2.2).bind fun l=>
  fS k a1 n (y2.1,y2.2.1++[x8.1],y2.2.2.1,l.2)) else(((if 0 < (y2.2.1.length:Int) then((nE y2.2.2.2).bind fun h=>
  (dB k y2.1 h.1).bind fun r=>
  some r) else(some y2.1)):Option (Int)).bind fun j=>
  (nE y2.2.2.2).bind fun c=>
  (d3 (bV (List.length y2.2.2.1+List.length [c.1]))).bind fun _=>
  (nE y2.2.2.2).bind fun e=>
  fS k a1 n (j,y2.2.1,y2.2.2.1++[c.1],e.2)))
def mn(k:Nat)(a0:(List Int))(a1:Int):Option (Int×(List Int)):=
 (nH k a0).bind fun r1=>
 fS k a1 k (0,([]:(List Int)),([]:(List Int)),r1)
theorem sN(k:Nat)(a0:(List Int))(a1:Int)(r:Int×(List Int))(h:mn k a0 a1=some r):
 cd Tryz.prog 127 [Ri a0,.eq (.int .u8 a1)] [] (fun _:Unit=>(bv [.eq (.int .u8 r.1),Ri r.2],[])):=by
 unfold mn at h
 replace h:=ba h
 refine cd.of 54 Tryz.func127 rfl Tryz.ntmps127 rfl fun S w0=>?_
 refine sr ?_
 refine cq ?_
 refine cq ?_
 refine nt ?_
 refine Ee rfl (BP (by kernel_rfl) (BP (by kernel_rfl) (LM LL))) ?_
 refine sr ?_
 refine cq ?_
 refine cq ?_
 refine nt ?_
 refine sr ?_
 refine mq ?_
 obtain⟨r1,mc,h⟩:=ab h
 have pp:=xY k a0 r1 mc
 refine ja (ar [.tmp 9] rfl rfl O2 rfl pp) ?_
 refine aq ?_
 refine nt ?_
 refine ah ?_
 refine HH ?_
 refine tn ?_
 refine fP (SE.nil 3 (.int .i64)) ?_
 refine fP (SE.nil 3 (.int .i64)) ?_
 refine A8 (Z:=Value×Value) (α:=Int×(List Int)×(List Int)×(List Int)) rfl (fun z3 y2=>[(1,.eq (.int .u8 a1)),(4,.eq (.int .u8 y2.1)),(6,.eq z3.1),(7,.eq z3.2),(8,.rep (.lst (.int .i64)) y2.2.2.2)]) (fun z3 y2=>[.sl z3.1 3 (.int .i64) y2.2.1,.sl z3.2 3 (.int .i64) y2.2.2.1]) (fS k a1) k ((.slice none 0 0),(.slice none 0 0)) (0,([]:(List Int)),([]:(List Int)),r1) (fun _=>rfl) h (SE.fin [1,0] ⟨rfl,rfl,rfl,rfl,rfl,trivial⟩ rfl) (fun n z3 y2 h=>?_)
 unfold fS at h
 refine ah ?_
 refine sr ?_
 refine mq ?_
 refine jb (Fh rfl QY) ?_
 refine nt ?_
 refine cv h (fun h=>?_) (fun h=>?_)
 ·
  refine sr ?_;iterate 3 refine mq ?_
  refine co (fM [6,15] ⟨rfl,rfl,trivial⟩) ?_;obtain⟨u4,Y,h⟩:=ab h;refine dS rfl rfl rfl (ct rfl rfl fp (aC Y)) ⟨rfl,rfl,trivial⟩ fun v5=>?_;refine aq ?_;refine aq (nt (rx ?_));refine HG ?_;refine bS (fM [5,16] ⟨rfl,rfl,trivial⟩) ?_;cases h;exact rb
 ·
  refine sk (ah (sr ?_));iterate 2 refine mq ?_
  obtain⟨x6,U,h⟩:=ab h;refine ja (kA rfl U) ?_;refine ja (aM 1 false rfl tq rfl) ?_;refine ja (ao (t:=(.int .i64)) rfl dw rfl) ?_;obtain⟨r7,ac,h⟩:=ab h;refine jb (ar [.tmp 17,.tmp 21] rfl rfl Je rfl (gU k a1 x6.1 r7 ac)) ?_;refine nt (cv h (fun h=>?_) (fun h=>?_))
  ·refine sr ?_;iterate 2 refine mq ?_
   obtain⟨x8,Q,h⟩:=ab h;refine ja (kA rfl Q) ?_;refine ja (aM 1 false rfl tq rfl) ?_;refine ja (ao (t:=(.int .i64)) rfl dw rfl) ?_;refine ja (bu (t:=(.int .i64)) [(.tmp 27,_)] [x8.1] rfl rfl fp (.cons rfl .int .nil) rfl rfl) ?_;obtain⟨u9,X,h⟩:=ab h;refine dS rfl rfl rfl (ct rfl rfl fp (aC X)) ⟨rfl,rfl,trivial⟩ fun O=>?_;refine aq (nt (sr ?_));refine mq ?_;obtain⟨J,y,h⟩:=ab h;refine ja (kA rfl y) ?_;refine ja (aM 1 false rfl BN rfl) ?_;refine ja (ao (t:=(.lst (.int .i64))) rfl yb rfl) ?_;refine aq (nt ?_);refine Cm ?_;refine Ed ?_;exact Ci ((O,z3.2),(y2.1,y2.2.1++[x8.1],y2.2.2.1,J.2)) h (SE.fin [0,1] ⟨rfl,rfl,rfl,rfl,rfl,trivial⟩ rfl)
  ·refine sk (aK (Z:=Unit) (α:=Int) (fun e c=>[(1,.eq (.int .u8 a1)),(4,.eq (.int .u8 c)),(6,.eq z3.1),(7,.eq z3.2),(8,.rep (.lst (.int .i64)) y2.2.2.2)]) (fun e c=>[.sl z3.1 3 (.int .i64) y2.2.1,.sl z3.2 3 (.int .i64) y2.2.2.1]) h (fun K h=>?_) (fun e c h=>?_))
   ·refine sr (mq ?_);refine ka (fH rfl rfl fY) ?_;refine jb (mC rfl) ?_;refine nt (ci h (fun h=>?_) (fun h=>?_))
    ·refine aa ?_;iterate 2 refine mq ?_
     obtain⟨I,x,h⟩:=ab h;refine ja (kA rfl x) ?_;refine ja (aM 1 false rfl tq rfl) ?_;refine ja (ao (t:=(.int .i64)) rfl dw rfl) ?_;obtain⟨l,E,h⟩:=ab h;refine jb (ar [.tmp 37,.tmp 41] rfl rfl BS rfl (iu k y2.1 I.1 l E)) ?_;refine aq (nl ?_);exact jz ((),l) h [0,1]
    ·refine aO (ae ?_);exact jz ((),y2.1) h [0,1]
   ·refine sr ?_;iterate 2 refine mq ?_
    obtain⟨j,u,h⟩:=ab h;refine ja (kA rfl u) ?_;refine ja (aM 1 false rfl tq rfl) ?_;refine ja (ao (t:=(.int .i64)) rfl dw rfl) ?_;refine ja (bu (t:=(.int .i64)) [(.tmp 47,_)] [j.1] rfl rfl fp (.cons rfl .int .nil) rfl rfl) ?_;obtain⟨qt,D,h⟩:=ab h;refine fr 1 ?_;refine dS rfl rfl rfl (ct rfl rfl fp (aC D)) ⟨rfl,rfl,trivial⟩ fun M=>?_;refine aq (nt (sr ?_));refine mq ?_;obtain⟨F,s,h⟩:=ab h;refine ja (kA rfl s) ?_;refine ja (aM 1 false rfl BN rfl) ?_;refine ja (ao (t:=(.lst (.int .i64))) rfl yb rfl) ?_;refine aq (nt ?_);refine Cm ?_;exact Ci ((z3.1,M),(c,y2.2.1,y2.2.2.1++[j.1],F.2)) h (SE.fin [1,0] ⟨rfl,rfl,rfl,rfl,rfl,trivial⟩ rfl)
def cS(k:Nat)(a0:(List Int))(a1:Int):Nat→Int→Option (Except Int Unit)
 |0,_=>none
 |n+1,y3=>
  if y3 < (a0.length:Int) then((a9 a0 y3).bind fun x5=>
  if a1=x5 then(some (.error y3)) else((ck (y3+1)).bind fun x6=>
  cS k a0 a1 n x6)) else(some (.ok ()))
def io(k:Nat)(a0:(List Int))(a1:Int):Option Int:=
 bE (α:=Unit) (cS k a0 a1 k 0) (some) fun _=>
 some (-1:Int)
theorem rS(k:Nat)(a0:(List Int))(a1:Int)(r:Int)(h:io k a0 a1=some r):
 cd Tryz.prog 123 [Ri a0,I a1] [] (fun _:Unit=>(bv [I r],[])):=by
 unfold io at h
 replace h:=ba h
 refine cd.of 19 Tryz.func123 rfl Tryz.ntmps123 rfl fun S w0=>?_
 refine sr ?_
 refine cq ?_
 refine nt ?_
 refine fj (Z:=Unit) (α:=Unit) (fun z2 x1=>[]) (fun z2 x1=>[]) (fun e=>e=r) h (fun e h=>Option.some.inj h) (fun K hR h=>?_) (fun z2 x1 h=>?_)
 ·
  refine sr (mq ?_);refine ol fY ?_;refine eB rfl ?_;refine nt (aj (aH (fun z4 y3=>[(0,Ri a0),(1,I a1),(7,I (a0.length:Int)),(8,I y3)]) (fun z4 y3=>[]) (cS k a0 a1) k () 0 (fun _=>rfl) h (SE.fin [] ⟨rfl,rfl,rfl,rfl,trivial⟩ rfl) (fun n z4 y3 h=>?_)));unfold cS at h;refine sr (jb (bz rfl) ?_);refine nt (ah (ci h (fun h=>?_) (fun h=>?_)))
  ·refine sk (ah (aj (sr (mq ?_))));refine aq (nt (sr ?_));iterate 3 refine mq ?_
   obtain⟨x5,j,h⟩:=ab h;refine jb (aL (t:=(.int .i64)) rfl fY dw j) ?_;refine ja (ao (t:=(.int .i64)) rfl dw rfl) ?_;refine jb (de rfl) ?_;refine nt (ci h (fun h=>?_) (fun h=>?_))
   ·refine sr (mq ?_);refine aq (nt (aB (br (bM (aX ?_)))));obtain rfl:=hR _ h;exact ra
   ·refine aO (aG (tn (aa ?_)));obtain⟨x6,c,h⟩:=ab h;refine jb (bh rfl c) ?_;refine mq (nl ?_);exact jz ((),x6) h []
  ·refine xa ?_;exact jz ((),()) h []
 ·
  refine sr (cq (nt (aB ?_)));cases h;exact ra
def fF(k:Nat)(a0:(List Int))(a1:Int):Option Bool:=
 (io k a0 a1).bind fun r1=>
 some (decide (0≤r1))
theorem pn(k:Nat)(a0:(List Int))(a1:Int)(r:Bool)(h:fF k a0 a1=some r):
 cd Tryz.prog 158 [Ri a0,I a1] [] (fun _:Unit=>(bv [.eq (.bool r)],[])):=by
 unfold fF at h
 replace h:=ba h
 refine cd.of 9 Tryz.func158 rfl Tryz.ntmps158 rfl fun S w0=>?_
 refine sr ?_
 refine cq ?_
 refine nt ?_
 refine sr ?_
 iterate 2 refine mq ?_
 obtain⟨r1,c,h⟩:=ab h
 have e:=rS k a0 a1 r1 c
 refine jb (ar [.tmp 5,.tmp 6] rfl rfl Pg rfl e) ?_
 refine jb (pA rfl) ?_
 refine aq ?_
 refine nt ?_
 refine aB ?_
 cases h
 exact ra
def eD(k:Nat)(a0:cR)(a1:Int):Nat→(Int×Int)→Option Int
 |0,_=>none
 |n+1,y3=>
  if y3.2 < (a0.1.2.1.length:Int) then((((a9 a0.1.2.1 y3.2).bind fun x7=>
  (fF k x7.2 a1).bind fun r9=>
  if r9=true then((dB k y3.1 y3.2).bind fun e=>
  some e) else(some y3.1)):Option (Int)).bind fun x5=>
  (ck (y3.2+1)).bind fun c=>
  eD k a0 a1 n (x5,c)) else(some y3.1)
def gj(k:Nat)(a0:cR)(a1:Int):Option Int:=
 ((eD k a0 a1 k (0,0)):Option (Int)).bind fun x1=>
 some x1
theorem ml(k:Nat)(a0:cR)(a1:Int)(r:Int)(h:gj k a0 a1=some r):
 cd Tryz.prog 128 [.at bj a0,I a1] [] (fun _:Unit=>(bv [.eq (.int .u8 r)],[])):=by
 unfold gj at h
 replace h:=ba h
 refine cd.of 28 Tryz.func128 rfl Tryz.ntmps128 rfl fun S w0=>?_
 refine sr ?_
 refine cq ?_
 refine nt ?_
 refine sr ?_
 refine cq ?_
 refine nt ?_
 refine aK (Z:=Unit) (α:=Int) (fun z2 x1=>[(5,.eq (.int .u8 x1))]) (fun z2 x1=>[]) h (fun K h=>?_) (fun z2 x1 h=>?_)
 ·
  refine sr (mq ?_);refine ja (dq rfl) ?_;refine ja (aM 3 true rfl i8 rfl) ?_;refine ja (aM 1 false rfl i7 rfl) ?_;refine ja (ao (t:=(.slice c9)) rfl qE rfl) ?_;refine ol zM ?_;refine eB rfl ?_;refine nt (aj (aH (fun z4 y3=>[(1,I a1),(5,.eq (.int .u8 y3.1)),(12,Rs c9 a0.1.2.1),(13,I (a0.1.2.1.length:Int)),(14,I y3.2)]) (fun z4 y3=>[]) (eD k a0 a1) k () (0,0) (fun _=>rfl) h (SE.fin [] ⟨rfl,rfl,rfl,rfl,rfl,trivial⟩ rfl) (fun n z4 y3 h=>?_)));unfold eD at h;refine sr (jb (bz rfl) ?_);refine nt (ah (ci h (fun h=>?_) (fun h=>?_)))
  ·refine sk (aK (Z:=Unit) (α:=Int) (fun z6 x5=>[(1,I a1),(5,.eq (.int .u8 x5)),(12,Rs c9 a0.1.2.1),(13,I (a0.1.2.1.length:Int)),(14,I y3.2)]) (fun z6 x5=>[]) h (fun K h=>?_) (fun z6 x5 h=>?_))
   ·refine aj (sr (mq ?_));obtain⟨x7,s,h⟩:=ab h;refine jb (aL (t:=c9) rfl zM rP s) ?_;refine ja (ao (t:=c9) rfl rP rfl) ?_;refine aD rfl rfl rfl (bF rfl wl Jx) trivial fun b8=>?_;refine aq ?_;refine a8 rfl rfl (aW rfl rP rfl rfl rfl) ⟨rfl,rfl,trivial⟩ ?_;refine nt (sr (fl ut ?_));refine lo cp ?_;refine mq ?_;obtain⟨r9,u,h⟩:=ab h;refine jb (ar [.tmp 20,.tmp 21] rfl rfl O1 rfl (pn k x7.2 a1 r9 u)) ?_;refine nt (cv h (fun h=>?_) (fun h=>?_))
    ·refine aa ?_;iterate 2 refine mq ?_
     obtain⟨c,j,h⟩:=ab h;refine jb (ar [.tmp 23,.tmp 24] rfl rfl BS rfl (iu k y3.1 y3.2 c j)) ?_;refine aq (ak (bn ?_));exact jz ((),c) h []
    ·refine aO (bn ?_);exact jz ((),y3.1) h []
   ·refine aa ?_;obtain⟨l,e,h⟩:=ab h;refine jb (bh rfl e) ?_;refine mq (nl ?_);exact jz ((),(x5,l)) h []
  ·refine xa ?_;exact jz ((),y3.1) h []
 ·
  refine sr (mq ?_);refine aq (nt (aB ?_));cases h;exact ra
def ir(k:Nat)(a0:cR)(a1:(List (List Int)))(a2:Int):Nat→(Int×(List (List Int))×Int)→Option (Int×(List (List Int)))
 |0,_=>none
 |n+1,y5=>
  if y5.2.2 < 3 then((dC k a1 y5.2.2).bind fun r7=>
  (gj k a0 a2).bind fun r8=>
  (mn k r7 r8).bind fun r9=>
  (d3 (bV (List.length y5.2.1+List.length [r9.2]))).bind fun _=>
  (ck (y5.2.2+1)).bind fun c=>
  ir k a0 a1 a2 n (BF .u8 y5.1 r9.1,y5.2.1++[r9.2],c)) else(some (y5.1,y5.2.1))
def kh(k:Nat)(a0:cR)(a1:(List (List Int)))(a2:Int):Option (Int×(List (List Int))):=
 ((ir k a0 a1 a2 k (0,([]:(List (List Int))),0)):Option (Int×(List (List Int)))).bind fun x3=>
 (dG k x3.2).bind fun c=>
 some (x3.1,c)
theorem ni(k:Nat)(a0:cR)(a1:(List (List Int)))(a2:Int)(r:Int×(List (List Int)))(h:kh k a0 a1 a2=some r):
 cd Tryz.prog 85 [.at bj a0,.rep (.arr 3 (.arr 5 (.int .i64))) a1,I a2] [] (fun _:Unit=>(bv [.eq (.int .u8 r.1),.rep (.arr 3 (.arr 5 (.int .i64))) r.2],[])):=by
 unfold kh at h
 replace h:=ba h
 refine cd.of 37 Tryz.func85 rfl Tryz.ntmps85 rfl fun S w0=>?_
 refine sr ?_
 refine bx fun b1=>?_
 refine cq ?_
 refine aD rfl rfl rfl (bF rfl lx lS) trivial fun b2=>?_
 refine nt ?_
 refine sr ?_
 refine cq ?_
 refine nt ?_
 refine sr ?_
 refine cq ?_
 refine nt ?_
 refine aK (Z:=Value) (α:=Int×(List (List Int))) (fun z4 x3=>[(7,Pt b2),(8,.eq (.int .u8 x3.1)),(9,.eq z4)]) (fun z4 x3=>[.obj b2 107 (.rep (.arr 3 (.arr 5 (.int .i64))) [[0,0,0,0,0],[0,0,0,0,0],[0,0,0,0,0]]),.sl z4 23 (.slice (.int .i64)) x3.2]) h (fun K h=>?_) (fun z4 x3 h=>?_)
 ·
  refine sr (eB rfl ?_);refine nt (aj (fP (SE.nil 23 (.slice (.int .i64))) ?_));refine aH (fun z6 y5=>[(0,.at bj a0),(2,I a2),(4,Pt b1),(7,Pt b2),(8,.eq (.int .u8 y5.1)),(9,.eq z6),(13,I y5.2.2)]) (fun z6 y5=>[.obj b1 107 (.rep (.arr 3 (.arr 5 (.int .i64))) a1),.obj b2 107 (.rep (.arr 3 (.arr 5 (.int .i64))) [[0,0,0,0,0],[0,0,0,0,0],[0,0,0,0,0]]),.sl z6 23 (.slice (.int .i64)) y5.2.1]) (ir k a0 a1 a2) k (.slice none 0 0) (0,([]:(List (List Int))),0) (fun _=>rfl) h (SE.fin [2,1,0] ⟨rfl,rfl,rfl,rfl,rfl,rfl,rfl,trivial⟩ rfl) (fun n z6 y5 h=>?_);unfold ir at h;refine sr (jb (bz rfl) ?_);refine nt (ah (ci h (fun h=>?_) (fun h=>?_)))
  ·refine sk (ah (aj (sr (mq ?_))));refine aq (nt (sr ?_));refine lo cN ?_;refine mq ?_;obtain⟨r7,D,h⟩:=ab h;refine jb (ar [.tmp 17,.tmp 18] rfl rfl BU rfl (fE k a1 y5.2.2 r7 D)) ?_;iterate 2 refine mq ?_
   obtain⟨r8,y,h⟩:=ab h;refine jb (ar [.tmp 20,.tmp 21] rfl rfl O9 rfl (ml k a0 a2 r8 y)) ?_;obtain⟨r9,x,h⟩:=ab h;refine jb (ar [.tmp 19,.tmp 22] rfl rfl Pe rfl (sN k r7 r8 r9 x)) ?_;refine mq ?_;refine xr ?_;refine xr ?_;refine aq ?_;refine aq (nt (sr ?_));iterate 2 refine mq ?_
   refine jb (NR rfl) ?_;refine aq (nt (aa ?_));iterate 2 refine mq ?_
   refine ja (bu (t:=(.slice (.int .i64))) [(.tmp 30,_)] [r9.2] rfl rfl pr (.cons rfl .rep .nil) rfl rfl) ?_;obtain⟨E,j,h⟩:=ab h;refine fr 2 ?_;refine dS rfl rfl rfl (ct rfl rfl pr (aC j)) ⟨rfl,rfl,trivial⟩ fun u=>?_;refine aq (ak (aG (tn (aa ?_))));obtain⟨s,e,h⟩:=ab h;refine jb (bh rfl e) ?_;refine mq (nl ?_);exact jz (u,(BF .u8 y5.1 r9.1,y5.2.1++[r9.2],s)) h [1,2,0]
  ·refine xa ?_;exact jz (z6,(y5.1,y5.2.1)) h [1,2]
 ·
  refine sr ?_;iterate 2 refine mq ?_
  obtain⟨c,l,h⟩:=ab h;refine fr 1 ?_;refine ka (A5 (N:=[(.tmp 35,.eq z4)]) (ar [.tmp 35] rfl rfl DU rfl (eJ k x3.2 c l)) (fun _ _ _ hv hn=>⟨(lend hn.1 hv),trivial⟩) (fun _=>⟨rfl,GQ⟩)) ?_;refine aq ?_;refine fr 1 ?_;refine a8 rfl rfl (aW rfl cN rfl rfl rfl) ⟨rfl,rfl,trivial⟩ ?_;refine nt (aB ?_);cases h;exact aJ () [_,.rep (.arr 3 (.arr 5 (.int .i64))) c] 0 ⟨rfl,⟨_,_,_,_,_,rfl,(.head _),cN,(zK),rfl⟩,trivial⟩ rfl
def dM(k:Nat)(a0:cR)(a1:(List (List Int))):Nat→((List (List Int))×Int)→Option (List (List Int))
 |0,_=>none
 |n+1,y6=>
  if y6.2 < ((List.replicate (Int.toNat (a0.1.2.2.length:Int)) ([]:(List Int))).length:Int) then((dC k a1 y6.2).bind fun r8=>
  (a9 y6.1 y6.2).bind fun x9=>
  (ck (y6.2+1)).bind fun c=>
  dM k a0 a1 n (List.set y6.1 (Int.toNat y6.2) r8,c)) else(some y6.1)
def eI(k:Nat)(a0:cR)(a1:(List (List Int))):Option (List (List Int)):=
 (d3 (0≤(a0.1.2.2.length:Int)∧bV (Int.toNat (a0.1.2.2.length:Int)))).bind fun _=>
 ((dM k a0 a1 k (List.replicate (Int.toNat (a0.1.2.2.length:Int)) ([]:(List Int)),0)):Option ((List (List Int)))).bind fun x4=>
 some x4
theorem iP(k:Nat)(a0:cR)(a1:(List (List Int)))(r:(List (List Int)))(h:eI k a0 a1=some r):
 cd Tryz.prog 88 [.at bj a0,.rep (.arr 3 (.arr 5 (.int .i64))) a1] [] (fun z:Value=>(bv [.eq z],[.sl z 23 (.slice (.int .i64)) r])):=by
 unfold eI at h
 replace h:=ba h
 refine cd.of 27 Tryz.func88 rfl Tryz.ntmps88 rfl fun S w0=>?_
 refine sr ?_
 refine bx fun b1=>?_
 refine cq ?_
 refine nt ?_
 refine sr ?_
 refine mq ?_
 refine ja (dq rfl) ?_
 refine ja (aM 3 true rfl i8 rfl) ?_
 refine ja (aM 1 false rfl iZ rfl) ?_
 refine ja (ao (t:=(.slice (.int .i64))) rfl cp rfl) ?_
 refine ol fY ?_
 obtain⟨u2,j,h⟩:=ab h
 refine aD rfl rfl rfl (Fg (t:=(.slice (.int .i64))) (d:=([]:(List Int))) rfl pr Qa (aC j).1 (aC j).2) ⟨rfl,rfl,trivial⟩ fun v3=>?_
 refine aq ?_
 refine nt ?_
 refine aK (Z:=Unit) (α:=(List (List Int))) (fun z5 x4=>[(5,.eq v3)]) (fun z5 x4=>[.sl v3 23 (.slice (.int .i64)) x4]) h (fun K h=>?_) (fun z5 x4 h=>?_)
 ·
  refine sr (mq ?_);refine ka (fH rfl rfl lj) ?_;refine eB rfl ?_;refine nt (aj (aH (fun z7 y6=>[(3,Pt b1),(5,.eq v3),(15,I ((List.replicate (Int.toNat (a0.1.2.2.length:Int)) ([]:(List Int))).length:Int)),(16,I y6.2)]) (fun z7 y6=>[.obj b1 107 (.rep (.arr 3 (.arr 5 (.int .i64))) a1),.sl v3 23 (.slice (.int .i64)) y6.1]) (dM k a0 a1) k () (List.replicate (Int.toNat (a0.1.2.2.length:Int)) ([]:(List Int)),0) (fun _=>rfl) h (SE.fin [1,0] ⟨rfl,rfl,rfl,rfl,trivial⟩ rfl) (fun n z7 y6 h=>?_)));unfold dM at h;refine sr (jb (bz rfl) ?_);refine nt (ah (ci h (fun h=>?_) (fun h=>?_)))
  ·refine sk (ah (aj (sr (mq ?_))));refine aq (nt (aa ?_));iterate 2 refine mq ?_
   refine lo cN ?_;refine mq ?_;obtain⟨r8,s,h⟩:=ab h;refine jb (ar [.tmp 21,.tmp 22] rfl rfl BU rfl (fE k a1 y6.2 r8 s)) ?_;obtain⟨x9,c,h⟩:=ab h;refine fr 1 ?_;refine kb (cE (t:=(.slice (.int .i64))) rfl lj cp c) ?_;refine a8 rfl rfl (fV (i:=Int.toNat y6.2) rfl cp rfl (lO c) rfl .rep rfl) ⟨rfl,rfl,trivial⟩ ?_;refine ak (aG (tn (aa ?_)));obtain⟨l,e,h⟩:=ab h;refine jb (bh rfl e) ?_;refine mq (nl ?_);exact jz ((),(List.set y6.1 (Int.toNat y6.2) r8,l)) h [1,0]
  ·refine xa ?_;exact jz ((),y6.1) h [1]
 ·
  refine sr (mq ?_);refine aq (nt (aB ?_));cases h;exact aJ v3 [.eq v3] 1 ⟨rfl,trivial⟩ rfl
def dn(k:Nat)(a0:(List Int))(a1:(List Int)):Nat→Int→Option (Except Bool Unit)
 |0,_=>none
 |n+1,y3=>
  if y3 < (a0.length:Int) then((a9 a0 y3).bind fun x5=>
  (a9 a1 y3).bind fun x6=>
  if¬(x5=x6) then(some (.error false)) else((ck (y3+1)).bind fun x7=>
  dn k a0 a1 n x7)) else(some (.ok ()))
def dZ(k:Nat)(a0:(List Int))(a1:(List Int)):Option Bool:=
 if¬((a0.length:Int)=(a1.length:Int)) then(some false) else(bE (α:=Unit) (dn k a0 a1 k 0) (some) fun _=>
 some true)
theorem iz(k:Nat)(a0:(List Int))(a1:(List Int))(r:Bool)(h:dZ k a0 a1=some r):
 cd Tryz.prog 37 [Ri a0,Ri a1] [] (fun _:Unit=>(bv [.eq (.bool r)],[])):=by
 unfold dZ at h
 replace h:=ba h
 refine cd.of 26 Tryz.func37 rfl Tryz.ntmps37 rfl fun S w0=>?_
 refine sr ?_
 refine cq ?_
 refine nt ?_
 refine ah ?_
 refine sr ?_
 refine mq ?_
 refine ol fY ?_
 refine mq ?_
 refine ol fY ?_
 refine jb (iH rfl) ?_
 refine nt ?_
 refine cn h (fun h=>?_) (fun h=>?_)
 ·
  refine sr (cq (nt (rx ?_)));cases h;exact ra
 ·
  refine sk (fj (Z:=Unit) (α:=Unit) (fun z2 x1=>[]) (fun z2 x1=>[]) (fun e=>e=r) h (fun e h=>Option.some.inj h) (fun K hR h=>?_) (fun z2 x1 h=>?_))
  ·refine sr (cq (nt (aj ?_)));refine aH (fun z4 y3=>[(0,Ri a0),(1,Ri a1),(5,I y3)]) (fun z4 y3=>[]) (dn k a0 a1) k () 0 (fun _=>rfl) h (SE.fin [] ⟨rfl,rfl,rfl,trivial⟩ rfl) (fun n z4 y3 h=>?_);unfold dn at h;refine ah (sr ?_);iterate 2 refine mq ?_
   refine ol fY ?_;refine jb (bz rfl) ?_;refine nt (ci h (fun h=>?_) (fun h=>?_))
   ·refine sk (ah (aj (ah (bZ ?_))));refine dm ?_;refine dm ?_;obtain⟨x5,l,h⟩:=ab h;refine db (aL (t:=(.int .i64)) rfl fY dw l) ?_;refine da (ao (t:=(.int .i64)) rfl dw rfl) ?_;refine dm ?_;refine dm ?_;obtain⟨x6,j,h⟩:=ab h;refine db (aL (t:=(.int .i64)) rfl fY dw j) ?_;refine da (ao (t:=(.int .i64)) rfl dw rfl) ?_;refine df eU ?_;refine jb (iH rfl) ?_;refine nt (cn h (fun h=>?_) (fun h=>?_))
    ·refine sr (cq (nt (aB (br (bM (aX ?_))))));obtain rfl:=hR _ h;exact ra
    ·refine aO (aG (tn (aa (mq ?_))));obtain⟨x7,c,h⟩:=ab h;refine jb (bh rfl c) ?_;refine aq (nl ?_);exact jz ((),x7) h []
   ·refine xa ?_;exact jz ((),()) h []
  ·refine sr (cq (nt (aB ?_)));cases h;exact ra
def eE(k:Nat)(a0:(List (List Int)))(a1:(List (List Int))):Nat→Int→Option (Except Bool Unit)
 |0,_=>none
 |n+1,y3=>
  if y3 < (a0.length:Int) then((a9 a0 y3).bind fun x5=>
  (a9 a1 y3).bind fun x6=>
  (dZ k x5 x6).bind fun r7=>
  if¬(r7=true) then(some (.error false)) else((ck (y3+1)).bind fun x8=>
  eE k a0 a1 n x8)) else(some (.ok ()))
def ft(k:Nat)(a0:(List (List Int)))(a1:(List (List Int))):Option Bool:=
 if¬((a0.length:Int)=(a1.length:Int)) then(some false) else(bE (α:=Unit) (eE k a0 a1 k 0) (some) fun _=>
 some true)
theorem ju(k:Nat)(a0:(List (List Int)))(a1:(List (List Int)))(r:Bool)(h:ft k a0 a1=some r):
 cd Tryz.prog 38 [.rep (.slice (.slice (.int .i64))) a0,.rep (.slice (.slice (.int .i64))) a1] [] (fun _:Unit=>(bv [.eq (.bool r)],[])):=by
 unfold ft at h
 replace h:=ba h
 refine cd.of 27 Tryz.func38 rfl Tryz.ntmps38 rfl fun S w0=>?_
 refine sr ?_
 refine cq ?_
 refine nt ?_
 refine ah ?_
 refine sr ?_
 refine mq ?_
 refine ol lj ?_
 refine mq ?_
 refine ol lj ?_
 refine jb (iH rfl) ?_
 refine nt ?_
 refine cn h (fun h=>?_) (fun h=>?_)
 ·
  refine sr (cq (nt (rx ?_)));cases h;exact ra
 ·
  refine sk (fj (Z:=Unit) (α:=Unit) (fun z2 x1=>[]) (fun z2 x1=>[]) (fun e=>e=r) h (fun e h=>Option.some.inj h) (fun K hR h=>?_) (fun z2 x1 h=>?_))
  ·refine sr (cq (nt (aj ?_)));refine aH (fun z4 y3=>[(0,.rep (.slice (.slice (.int .i64))) a0),(1,.rep (.slice (.slice (.int .i64))) a1),(5,I y3)]) (fun z4 y3=>[]) (eE k a0 a1) k () 0 (fun _=>rfl) h (SE.fin [] ⟨rfl,rfl,rfl,trivial⟩ rfl) (fun n z4 y3 h=>?_);unfold eE at h;refine ah (sr ?_);iterate 2 refine mq ?_
   refine ol lj ?_;refine jb (bz rfl) ?_;refine nt (ci h (fun h=>?_) (fun h=>?_))
   ·refine sk (ah (aj (ah (bZ ?_))));refine dm ?_;refine dm ?_;obtain⟨x5,l,h⟩:=ab h;refine db (aL (t:=(.slice (.int .i64))) rfl lj cp l) ?_;refine da (ao (t:=(.slice (.int .i64))) rfl cp rfl) ?_;refine dm ?_;refine dm ?_;obtain⟨x6,j,h⟩:=ab h;refine db (aL (t:=(.slice (.int .i64))) rfl lj cp j) ?_;refine da (ao (t:=(.slice (.int .i64))) rfl cp rfl) ?_;refine df eU ?_;obtain⟨r7,s,h⟩:=ab h;refine jb (ar [.tmp 20,.tmp 24] rfl rfl Jg rfl (iz k x5 x6 r7 s)) ?_;refine ja (fW rfl) ?_;refine nt (cw h (fun h=>?_) (fun h=>?_))
    ·refine sr (cq (nt (aB (br (bM (aX ?_))))));obtain rfl:=hR _ h;exact ra
    ·refine aO (aG (tn (aa (mq ?_))));obtain⟨x8,c,h⟩:=ab h;refine jb (bh rfl c) ?_;refine aq (nl ?_);exact jz ((),x8) h []
   ·refine xa ?_;exact jz ((),()) h []
  ·refine sr (cq (nt (aB ?_)));cases h;exact ra
def jH(k:Nat)(a0:List Int):Option (List Int):=
 (d3 (bV (List.length a0))).bind fun _=>some a0
theorem my(k:Nat)(a0:List Int)(r:List Int)(h:jH k a0=some r):
 cd Tryz.prog 97 [Ri a0] [] (fun z:Value=>(bv [.eq z],[.sl z 3 (.int .i64) r])):=by
 unfold jH at h
 replace h:=ba h
 refine cd.of 8 Tryz.func97 rfl Tryz.ntmps97 rfl fun S w0=>?_
 obtain⟨u1,c,h⟩:=ab h
 cases h
 refine sr ?_
 refine cq ?_
 refine nt ?_
 refine ah ?_
 refine sr ?_
 refine mq ?_
 refine bH (Δ:=[]) (F:=_) (fun _ _ _=>au rfl _) rfl rfl (It rfl fY) ⟨rfl,rfl,trivial⟩ fun b=>?_
 refine nt ?_
 refine bB rfl (fun hb=>?_) (fun hb=>?_)
 ·
  refine sr (cq (nt (rx ?_)));obtain rfl:=b.2 hb;refine bS (SE.nil 3 (.int .i64)) ?_;exact aJ (.slice none 0 0) [.eq (.slice none 0 0)] 1 ⟨rfl,trivial⟩ rfl
 ·
  refine sk (sr (aD rfl rfl rfl (pT (t:=(.int .i64)) [] [] rfl rfl fp .nil rfl rfl) trivial fun v1=>?_));refine mq ?_;refine dS rfl rfl rfl (ct rfl rfl fp (by simpa using aC c)) ⟨rfl,rfl,trivial⟩ fun v2=>?_;refine aq (nt (aB ?_));exact aJ v2 [.eq v2] 1 ⟨rfl,trivial⟩ rfl
def gz(k:Nat)(a0:cR)(a2:Int):Nat→((List (List Int))×Int)→Option (List (List Int))
 |0,_=>none
 |n+1,y5=>
  if y5.2 < a2 then((kh k a0 y5.1 y5.2).bind fun r7=>
  (ck (y5.2+1)).bind fun x8=>
  gz k a0 a2 n (r7.2,x8)) else(some y5.1)
def kF(k:Nat)(a0:cR)(a1:(List (List Int)))(a2:Int):Option (List (List Int)):=
 ((gz k a0 a2 k (a1,0)):Option ((List (List Int)))).bind fun x3=>
 some x3
theorem qy(k:Nat)(a0:cR)(a1:(List (List Int)))(a2:Int)(r:(List (List Int)))(h:kF k a0 a1 a2=some r):
 cd Tryz.prog 103 [.at bj a0,.rep (.arr 3 (.arr 5 (.int .i64))) a1,I a2] [] (fun _:Unit=>(bv [.rep (.arr 3 (.arr 5 (.int .i64))) r],[])):=by
 unfold kF at h
 replace h:=ba h
 refine cd.of 21 Tryz.func103 rfl Tryz.ntmps103 rfl fun S w0=>?_
 refine sr ?_
 refine bx fun b1=>?_
 refine aD rfl rfl rfl (bF rfl lx lS) trivial fun b2=>?_
 refine nt ?_
 refine aK (Z:=Unit) (α:=(List (List Int))) (fun z4 x3=>[(4,Pt b1),(6,Pt b2)]) (fun z4 x3=>[.obj b1 107 (.rep (.arr 3 (.arr 5 (.int .i64))) x3),.obj b2 107 (.rep (.arr 3 (.arr 5 (.int .i64))) [[0,0,0,0,0],[0,0,0,0,0],[0,0,0,0,0]])]) h (fun K h=>?_) (fun z4 x3 h=>?_)
 ·
  refine sr (mq ?_);refine eB rfl ?_;refine nt (aj (aH (fun z6 y5=>[(0,.at bj a0),(4,Pt b1),(6,Pt b2),(8,I a2),(9,I y5.2)]) (fun z6 y5=>[.obj b1 107 (.rep (.arr 3 (.arr 5 (.int .i64))) y5.1),.obj b2 107 (.rep (.arr 3 (.arr 5 (.int .i64))) [[0,0,0,0,0],[0,0,0,0,0],[0,0,0,0,0]])]) (gz k a0 a2) k () (a1,0) (fun _=>rfl) h (SE.fin [1,0] ⟨rfl,rfl,rfl,rfl,rfl,trivial⟩ rfl) (fun n z6 y5 h=>?_)));unfold gz at h;refine sr (jb (bz rfl) ?_);refine nt (ah (ci h (fun h=>?_) (fun h=>?_)))
  ·refine sk (ah (aj (sr (mq ?_))));refine aq (nt (aa ?_));refine mq ?_;refine lo cN ?_;refine mq ?_;obtain⟨r7,e,h⟩:=ab h;refine jc (ar [.tmp 13,.tmp 14,.tmp 15] rfl rfl ON rfl (ni k a0 y5.1 y5.2 r7 e)) ?_;refine mq ?_;refine xr ?_;refine xr ?_;refine a8 rfl rfl (aW rfl cN rfl rfl rfl) ⟨rfl,rfl,trivial⟩ ?_;refine ak (aG (tn (aa ?_)));obtain⟨x8,c,h⟩:=ab h;refine jb (bh rfl c) ?_;refine mq (nl ?_);exact jz ((),(r7.2,x8)) h [0,1]
  ·refine xa ?_;exact jz ((),y5.1) h [0,1]
 ·
  refine sr (lo cN ?_);refine fr 1 ?_;refine a8 rfl rfl (aW rfl cN rfl rfl rfl) ⟨rfl,rfl,trivial⟩ ?_;refine nt (aB ?_);obtain rfl:=Option.some.inj h;exact aJ () [.rep (.arr 3 (.arr 5 (.int .i64))) x3] 0 ⟨⟨_,_,_,_,_,rfl,(.head _),cN,(zK),rfl⟩,trivial⟩ rfl
def kQ(k:Nat)(a0:List Int)(a1 a2:Int):Option (List Int):=
 (d3 (0≤a1∧a1 < a2∧a2≤(a0.length:Int))).bind fun _=>some (a0.take a1.toNat++a0.drop a2.toNat)
theorem qJ(k:Nat)(a0:List Int)(v:Value)(a1 a2:Int)(r:List Int)(h:kQ k a0 a1 a2=some r):cd Tryz.prog 143 [.eq v,.eq (.int .i64 a1),.eq (.int .i64 a2)] [.sl v 3 (.int .i64) a0] (fun z:Value=>(bv [.eq z],[.sl z 3 (.int .i64) r])):=by
 unfold kQ at h
 replace h:=ba h
 obtain⟨u1,eg,h⟩:=ab h
 obtain⟨h1,h2,h3⟩:=aC eg
 obtain rfl:=Option.some.inj h
 refine cd.of 33 Tryz.func143 rfl Tryz.ntmps143 rfl fun S w0=>?_
 refine Ef (fun e=>by rw [e] at h3;simp at h3;omega) fun b cap hv hcap=>?_
 subst hv
 have hl:(a0.take a1.toNat++a0.drop a2.toNat).length=a1.toNat+(a0.length - a2.toNat):=by simp;omega
 refine ah ?_
 refine aa ?_
 refine dA rfl ?_
 refine ak (ae ?_)
 show JC _ _ _ _ _
 refine ah ?_
 refine aa ?_
 refine aw rfl rfl ?_
 refine aw rfl rfl ?_
 refine aw rfl rfl ?_
 refine aw rfl rfl ?_
 refine bT rfl rfl rfl (fH rfl rfl fY) ⟨rfl,trivial⟩ ?_
 refine aA rfl (wJ rfl fY dw h1 (by omega) h3 (by omega)) ⟨rfl,rfl,rfl,rfl,trivial⟩ ?_
 refine ak (ae ?_)
 show JC _ _ _ _ _
 refine ah ?_
 refine ah ?_
 refine aa ?_
 refine aw rfl rfl ?_
 refine aw rfl rfl ?_
 refine aA rfl (de rfl) ⟨rfl,rfl,trivial⟩ ?_
 refine ak (ae ?_)
 show JC _ _ _ _ _
 refine bB rfl (fun hb=>absurd (of_decide_eq_true hb) (by omega)) (fun hb=>?_)
 refine aO (ae ?_)
 show JC _ _ _ _ _
 refine ah ?_
 refine aa ?_
 refine aw rfl rfl ?_
 refine bT rfl rfl rfl (fH rfl rfl fY) ⟨rfl,trivial⟩ ?_
 refine dc rfl rfl ?_
 refine ak (ae ?_)
 show JC _ _ _ _ _
 refine ah ?_
 refine bZ ?_
 refine di rfl rfl rfl (aZ rfl) ⟨rfl,trivial⟩ ?_
 refine di rfl rfl rfl (aZ rfl) ⟨rfl,trivial⟩ ?_
 refine di rfl rfl rfl (t6 rfl fY dw h1 (by omega)) ⟨rfl,rfl,trivial⟩ ?_
 refine di rfl rfl rfl (aZ rfl) ⟨rfl,trivial⟩ ?_
 refine di rfl rfl rfl (aZ rfl) ⟨rfl,trivial⟩ ?_
 refine di rfl rfl rfl (Aq rfl fY dw (by omega) h3) ⟨rfl,rfl,trivial⟩ ?_
 refine sL (by kernel_rfl) eU ?_
 refine co (rA 22 rfl fun _ _ _ h=>(Bh▸h:(A.eq (.slice (some ⟨b,0,none⟩) a1.toNat cap)).holds _ _ _)) ?_
 refine bT rfl rfl rfl (wL (t:=.int .i64) (b:=b) (cap:=cap) (l:=a0) (i:=a1.toNat) (j:=a2.toNat) rfl rfl fp (by omega) (by omega) hcap) ⟨rfl,rfl,trivial⟩ ?_
 refine dc rfl rfl ?_
 refine ak (ae ?_)
 show JC _ _ _ _ _
 refine ah ?_
 refine aa ?_
 refine aw rfl rfl ?_
 refine aw rfl rfl ?_
 refine bT rfl rfl rfl (fH rfl rfl fY) ⟨rfl,trivial⟩ ?_
 refine aw rfl rfl ?_
 refine aA rfl (ym rfl fY dw (by omega) (by rw [hl];omega) (by omega)) ⟨rfl,rfl,rfl,trivial⟩ ?_
 refine a8 rfl rfl (yv (t:=.int .i64) (b:=b) (cap:=cap) (l:=a0.take a1.toNat++a0.drop a2.toNat) (n:=a0.length) rfl rfl fY rfl Rm rfl rfl (by rw [hl];omega) hcap) ⟨rfl,trivial⟩ ?_
 refine ak (ae ?_)
 show JC _ _ _ _ _
 refine ah ?_
 refine aa ?_
 refine aw rfl rfl ?_
 refine dc rfl rfl ?_
 refine ak (ae ?_)
 show JC _ _ _ _ _
 refine aB ?_
 exact aJ _ [.eq _] 1 ⟨rfl,trivial⟩ rfl
def jF(k:Nat)(x7:Int)(h:(List (List Int))):Nat→((List (List Int))×Int)→Option (List (List Int))
 |0,_=>none
 |n+1,c=>
  if c.2 < (h.length:Int) then((a9 h c.2).bind fun e=>
  (d3 (bV (List.length [x7]+List.length e))).bind fun _=>
  (d3 (bV (List.length c.1+List.length [[x7]++e]))).bind fun _=>
  (ck (c.2+1)).bind fun j=>
  jF k x7 h n (c.1++[[x7]++e],j)) else(some c.1)
def jG(k:Nat)(a0:(List Int))(self:(List Int)→Option ((List (List Int)))):Nat→((List (List Int))×Int)→Option (List (List Int))
 |0,_=>none
 |n+1,y3=>
  if y3.2 < (a0.length:Int) then((((a9 a0 y3.2).bind fun x7=>
  (jH k a0).bind fun r8=>
  (ck (y3.2+1)).bind fun e=>
  (kQ k r8 y3.2 e).bind fun j=>
  (self j).bind fun h=>
  jF k x7 h k (y3.1,0)):Option ((List (List Int)))).bind fun x5=>
  (ck (y3.2+1)).bind fun c=>
  jG k a0 self n (x5,c)) else(some y3.1)
def kH(k:Nat):Nat→(List Int)→Option ((List (List Int)))
 |0,_=>none
 |m0+1,a0=>
  if(a0.length:Int)=0 then(some [[]]) else(((jG k a0 (kH k m0) k (([]:(List (List Int))),0)):Option ((List (List Int)))).bind fun x1=>
  some x1)
theorem uO(k:Nat):
 ∀(n:Nat) (a0:(List Int)) (r:(List (List Int))),kH k n a0=some r→cd Tryz.prog 107 [Ri a0] ([]) (fun _:Unit=>(bv [.rep (.slice (.slice (.int .i64))) r],[])):=by
 intro n
 induction n with
 |zero=>intro a0 r h;cases h
 |succ m0 ih=>
  intro a0 r h;rw [kH] at h;replace h:=ba h;refine cd.of 41 Tryz.func107 rfl Tryz.ntmps107 rfl fun S w0=>?_;refine sr (cq (nt (ah (sr ?_))));refine mq ?_;refine ol fY ?_;refine jb (de rfl) ?_;refine nt (ci h (fun h=>?_) (fun h=>?_))
  ·refine sr (ja (bu (t:=(.slice (.int .i64))) [(.const (.slice none 0 0),_)] [[]] rfl rfl pr (.cons rfl .nil .nil) rfl rfl) ?_);refine aq (nt (rx ?_));cases h;exact ra
  ·refine sk (sr (cq (nt ?_)));refine aK (Z:=Value) (α:=(List (List Int))) (fun z2 x1=>[(3,.eq z2)]) (fun z2 x1=>[.sl z2 23 (.slice (.int .i64)) x1]) h (fun K h=>?_) (fun z2 x1 h=>?_)
   ·refine sr (mq ?_);refine ol fY ?_;refine eB rfl ?_;refine nt (aj (fP (SE.nil 23 (.slice (.int .i64))) ?_));refine aH (fun z4 y3=>[(0,Ri a0),(3,.eq z4),(12,Ri a0),(13,I (a0.length:Int)),(14,I y3.2)]) (fun z4 y3=>[.sl z4 23 (.slice (.int .i64)) y3.1]) (jG k a0 (kH k m0)) k (.slice none 0 0) (([]:(List (List Int))),0) (fun _=>rfl) h (SE.fin [0] ⟨rfl,rfl,rfl,rfl,rfl,trivial⟩ rfl) (fun n z4 y3 h=>?_);unfold jG at h;refine sr (jb (bz rfl) ?_);refine nt (ah (ci h (fun h=>?_) (fun h=>?_)))
    ·refine sk (aK (Z:=Value) (α:=(List (List Int))) (fun z6 x5=>[(0,Ri a0),(3,.eq z6),(12,Ri a0),(13,I (a0.length:Int)),(14,I y3.2)]) (fun z6 x5=>[.sl z6 23 (.slice (.int .i64)) x5]) h (fun K h=>?_) (fun z6 x5 h=>?_))
     ·refine aj (sr (mq ?_));obtain⟨x7,Y,h⟩:=ab h;refine jb (aL (t:=(.int .i64)) rfl fY dw Y) ?_;refine ja (ao (t:=(.int .i64)) rfl dw rfl) ?_;refine aq ?_;refine aq (nt (sr ?_));refine mq ?_;obtain⟨r8,ac,h⟩:=ab h;refine aD rfl rfl rfl (ar [.tmp 19] rfl rfl QE rfl (my k a0 r8 ac)) ⟨rfl,trivial⟩ fun v9=>?_;iterate 2 refine mq ?_
      obtain⟨U,D,h⟩:=ab h;refine jb (bh rfl D) ?_;obtain⟨s,M,h⟩:=ab h;refine dS rfl rfl rfl (ar [.tmp 20,.tmp 21,.tmp 23] rfl rfl O7 rfl (qJ k r8 v9 y3.2 U s M)) ⟨rfl,rfl,rfl,trivial⟩ fun qt=>?_;refine co (fM [24] ⟨rfl,trivial⟩) ?_;obtain⟨j,J,h⟩:=ab h;refine ja (ar [.tmp 24] rfl rfl KH rfl (ih s j J)) ?_;refine ol lj ?_;refine eB rfl ?_;refine nt (aj (aH (fun e c=>[(0,Ri a0),(3,.eq e),(5,I x7),(12,Ri a0),(13,I (a0.length:Int)),(14,I y3.2),(25,.rep (.slice (.slice (.int .i64))) j),(26,I (j.length:Int)),(27,I c.2)]) (fun e c=>[.sl e 23 (.slice (.int .i64)) c.1]) (jF k x7 j) k z4 (y3.1,0) (fun _=>rfl) h (SE.fin [0] ⟨rfl,rfl,rfl,rfl,rfl,rfl,rfl,rfl,rfl,trivial⟩ rfl) (fun n e c h=>?_)));unfold jF at h;refine sr (jb (bz rfl) ?_);refine nt (ah (ci h (fun h=>?_) (fun h=>?_)))
      ·refine sk (ah (aj (sr ?_)));obtain⟨l,y,h⟩:=ab h;refine jb (aL (t:=(.slice (.int .i64))) rfl lj cp y) ?_;refine ja (ao (t:=(.slice (.int .i64))) rfl cp rfl) ?_;refine aq (nt (aa ?_));iterate 2 refine mq ?_
       refine aD rfl rfl rfl (pT (t:=(.int .i64)) [(.tmp 32,_)] [x7] rfl rfl fp (.cons rfl .int .nil) rfl rfl) ⟨rfl,trivial⟩ fun pp=>?_;refine mq ?_;obtain⟨Rz,F,h⟩:=ab h;refine dS rfl rfl rfl (ct rfl rfl fp (aC F)) ⟨rfl,rfl,trivial⟩ fun mc=>?_;refine co (fM [35] ⟨rfl,trivial⟩) ?_;refine ja (bu (t:=(.slice (.int .i64))) [(.tmp 35,_)] [[x7]++l] rfl rfl pr (.cons rfl .rep .nil) rfl rfl) ?_;obtain⟨se,E,h⟩:=ab h;refine dS rfl rfl rfl (ct rfl rfl pr (aC E)) ⟨rfl,rfl,trivial⟩ fun X=>?_;refine aq (ak (aG (tn (aa ?_))));obtain⟨Q,x,h⟩:=ab h;refine jb (bh rfl x) ?_;refine mq (nl ?_);exact jz (X,(c.1++[[x7]++l],Q)) h [0]
      ·refine dD (aN (aN (bU (bn ?_))));exact jz (e,c.1) h [0]
     ·refine aa ?_;obtain⟨O,u,h⟩:=ab h;refine jb (bh rfl u) ?_;refine mq (nl ?_);exact jz (z6,(x5,O)) h [0]
    ·refine xa ?_;exact jz (z4,y3.1) h [0]
   ·refine sr (mq ?_);refine aq (nt (aB ?_));refine bS (fM [2,3,40] ⟨rfl,rfl,rfl,trivial⟩) ?_;cases h;exact ra
def fB{σ:Type}(k:Nat)(a1:(List Int))(Y:σ→Int→Option (σ×Bool)):Nat→(Int×σ)→Option (σ)
 |0,_=>none
 |n+1,y1=>
  if y1.1 < (a1.length:Int) then((a9 a1 y1.1).bind fun x3=>
  (Y y1.2 x3).bind fun r4=>
  if¬(r4.2=true) then(some r4.1) else((ck (y1.1+1)).bind fun x6=>
  fB k a1 Y n (x6,r4.1))) else(some y1.2)
def jl{σ:Type}(k:Nat)(Y:σ→Int→Option (σ×Bool))(a1:(List Int))(s0:σ):Option (σ):=
 fB k a1 Y k (0,s0)
theorem pm{M:Md Tryz.prog}{σ Z:Type}(E:Z→σ→List D)(l:Nat)(Y:σ→Int→Option (σ×Bool))(k:Nat)(a1:(List Int))(c:Nat)(hY:∀z s p r,Y s p=some r→YT M l [I p] (E z s) (fun z':Z=>(.eq (.bool r.2),E z' r.1))):
 ∀(z0:Z) (s0:σ) (r:σ),jl k Y a1 s0=some r→c6 M 146 [.eq (.func (.yield l) #[] #[]),Pt c] ([.obj c 23 (Ri a1)]++E z0 s0) (fun z:Z=>(bv [],[.obj c 23 (Ri a1)]++E z r)):=by
 intro z0 s0 r h
 unfold jl at h
 replace h:=ba h
 refine c6.of 16 Tryz.func146 rfl Tryz.ntmps146 rfl fun S w0=>?_
 refine sr ?_
 refine lo cp ?_
 refine ol fY ?_
 refine eB rfl ?_
 refine nt ?_
 refine aj ?_
 refine aH (Z:=Z) (α:=Int×σ) (fun z2 y1=>[(0,.eq (.func (.yield l) #[] #[])),(5,Ri a1),(6,I (a1.length:Int)),(7,I y1.1)]) (fun z2 y1=>[.obj c 23 (Ri a1)]++E z2 y1.2) (fB k a1 Y) k z0 (0,s0) (fun _=>rfl) h (aV [.obj c 23 (Ri a1)] (E z0 s0) [0] ⟨rfl,rfl,rfl,rfl,trivial⟩ rfl) (fun n z2 y1 h=>?_)
 unfold fB at h
 refine sr ?_
 refine jb (bz rfl) ?_
 refine nt ?_
 refine ah ?_
 refine ci h (fun h=>?_) (fun h=>?_)
 ·
  refine sk (ah (aj (sr ?_)));obtain⟨x3,j,h⟩:=ab h;refine jb (aL (t:=(.int .i64)) rfl fY dw j) ?_;refine ja (ao (t:=(.int .i64)) rfl dw rfl) ?_;refine aq (nt (sr ?_));iterate 2 refine mq ?_
  obtain⟨r4,u,h⟩:=ab h;refine oC [.obj c 23 (Ri a1)] rfl rfl rfl (wI [.tmp 12] rfl rfl rfl (hY z2 y1.2 x3 r4 u)) ⟨rfl,rfl,trivial⟩ fun z5=>?_;refine ja (fW rfl) ?_;refine nt (cw h (fun h=>?_) (fun h=>?_))
  ·refine aB (br (bM ?_));cases h;exact ic z5 [] trivial rfl
  ·refine aO (aG (tn (aa ?_)));obtain⟨x6,e,h⟩:=ab h;refine jb (bh rfl e) ?_;refine mq (nl ?_);exact gP (z5,(x6,r4.1)) h (aV [.obj c 23 (Ri a1)] (E z5 r4.1) [0] ⟨rfl,rfl,rfl,rfl,trivial⟩ rfl)
 ·
  refine dD (aN (aN (bU (iq ?_))));cases h;exact ic z2 [] trivial rfl
def iU(k:Nat)(a1:(List Int)):Option (List Int):=
 (jl k (kN (fun(y2:(List Int)) (p4:Int)=>
  (d3 (bV (List.length y2+List.length [p4]))).bind fun _=>
  some (y2++[p4],true))) a1 (([]:(List Int)),false)).bind fun r5=>
 if r5.2=true then(none) else(some r5.1)
theorem nK(k:Nat)(a1:(List Int))(c:Nat)(r:(List Int))(h:iU k a1=some r):
 cd Tryz.prog 183 [.eq (.slice none 0 0),.eq (.func (.func 146) #[] #[(Pv c)])] [.obj c 23 (Ri a1)] (fun z:Value=>(bv [.eq z],[.sl z 3 (.int .i64) r,.obj c 23 (Ri a1)])):=by
 unfold iU at h
 replace h:=ba h
 refine xE 13 Tryz.func183 rfl Tryz.ntmps183 rfl fun {M} S w0=>?_
 refine sr ?_
 refine bx fun b1=>?_
 refine cq ?_
 refine nt ?_
 refine ah ?_
 refine sr ?_
 refine mq ?_
 refine nt ?_
 refine aj ?_
 refine fP (SE.nil 3 (.int .i64)) ?_
 refine dV 1 rfl ?_
 refine dV 2 rfl ?_
 obtain⟨r5,j,h⟩:=ab h
 refine ko (Δ:=[.obj c 23 (Ri a1),.obj b1 23 (.eq (.slice none 0 0)),.sl (.slice none 0 0) 3 (.int .i64) ([]:(List Int))]) (F:=[]) (X:=Value) (J:=fun _=>Ek r5.2) (E:=fun z3=>[.obj c 23 (Ri a1),.obj b1 23 (.eq z3),.sl z3 3 (.int .i64) r5.1]) (r0:=fun _=>.tup .any) rfl rfl O4 (fun rec hp ha hb hs hpe hN hv l=>?_) (fun dl z3=>mT (fun hj=>?_) (fun hj=>?_))
 ·
  rcases rec with⟨st0,pe0,fn0,tm0,ps0,as0,bd0,df0⟩;dsimp only at hp ha hb hs hpe hN hv;subst hp hs hpe;have vN:te tm0 [(2,Pt b1)]:=⟨congrArg A.eq (hv 2 _ rfl).symm,trivial⟩;refine c6.pick (M:=M) [1,0,2,3] [1,0,2,3] (pm (fun(z3:Value) (q:(List Int)×Bool)=>[.raw l (.loop (ii ⟨.ready,none,fn0,tm0, #[7],as0,bd0,df0⟩ (Ek q.2))),.obj b1 23 (.eq z3),.sl z3 3 (.int .i64) q.1]) l (kN (fun(y2:(List Int)) (p4:Int)=>
  (d3 (bV (List.length y2+List.length [p4]))).bind fun _=>
  some (y2++[p4],true))) k a1 c (fun z3 q p r' h=>?_) (.slice none 0 0) (([]:(List Int)),false) r5 j) rfl (fun _=>rfl) (fun _=>rfl)
  obtain⟨rq,hq,h2,rfl⟩:=mU h;obtain⟨y2,b5⟩:=q;obtain rfl:b5=false:=hq;replace h:=ba h2;obtain⟨p4,hpv⟩:∃x,x=p:=⟨_,rfl⟩;subst hpv;refine YT.pick (R':=(fun z3:Value=>(.eq (.bool rq.2),[.raw l (.loop (ii ⟨.ready,none,fn0,tm0, #[7],as0,bd0,df0⟩ (Ek (!rq.2)))),.obj b1 23 (.eq z3),.sl z3 3 (.int .i64) rq.1]))) [0,1,2] [0,1,2] (A2 ha hb (N:=13) (Γ:=[(2,Pt b1)]) rfl hN (by decide) vN (fun S w=>?_)) rfl (fun _=>rfl) (fun _=>rfl);refine aa (aq (nl ?_));refine rC rfl rfl ?_;refine aj (aa (fr 1 ?_));refine lo cp ?_;refine mq ?_;refine ja (bu (t:=(.int .i64)) [(.tmp 9,_)] [p4] rfl rfl fp (.cons rfl .int .nil) rfl rfl) ?_;obtain⟨u6,e,h⟩:=ab h;refine fr 2 ?_;refine dS rfl rfl rfl (ct rfl rfl fp (aC e)) ⟨rfl,rfl,trivial⟩ fun v7=>?_;refine xy fun o8=>?_;refine fr 1 ?_;refine a8 rfl rfl (aW rfl cp o8 rfl rfl) ⟨rfl,rfl,trivial⟩ ?_;refine ak (aG (bO 1 rfl ?_));refine bO 1 rfl ?_;refine bO 2 rfl ?_;cases h;exact mK v7 2 rfl
 ·
  replace h:=bD (zT hj) h;refine aG (tn (sr (fr 2 ?_)));refine lo cp ?_;refine aq (nt (aB ?_));refine bO 1 rfl ?_;refine tw ?_;refine bS (SE.fin (Γ':=[(4,_)]) [2,1,0] ⟨rfl,trivial⟩ rfl) ?_;cases h;exact aJ z3 [.eq z3] 2 ⟨rfl,trivial⟩ rfl
 ·
  replace h:=cm (zS hj) h;cases h
def j0(k:Nat)(a0:(List Int)):Option (List Int):=
 (iU k a0).bind fun r1=>
 some r1
theorem pN(k:Nat)(a0:(List Int))(c:Nat)(r:(List Int))(h:j0 k a0=some r):
 cd Tryz.prog 144 [.eq (.func (.func 146) #[] #[(Pv c)])] [.obj c 23 (Ri a0)] (fun z:Value=>(bv [.eq z],[.sl z 3 (.int .i64) r,.obj c 23 (Ri a0)])):=by
 unfold j0 at h
 replace h:=ba h
 refine cd.of 5 Tryz.func144 rfl Tryz.ntmps144 rfl fun S w0=>?_
 refine sr ?_
 refine cq ?_
 refine nt ?_
 refine sr ?_
 refine mq ?_
 obtain⟨r1,e,h⟩:=ab h
 have j:=nK k a0 c r1 e
 refine bH (Δ:=[_]) (F:=_) (fun _ _ _=>au rfl _) rfl rfl (ar [.const (.slice none 0 0),.tmp 3] rfl rfl O0 rfl j) ⟨rfl,rfl,trivial⟩ fun z2=>?_
 refine aq ?_
 refine nt ?_
 refine aB ?_
 cases h
 exact aJ z2 [.eq z2] 2 ⟨rfl,trivial⟩ rfl
def o5(k:Nat)(a0:Int):Option Bool:=
 some (!decide (a0=a0))
theorem rh(k:Nat)(a0:Int)(r:Bool)(h:o5 k a0=some r):
 cd Tryz.prog 189 [I a0] [] (fun _:Unit=>(bv [.eq (.bool r)],[])):=by
 unfold o5 at h
 replace h:=ba h
 refine cd.of 6 Tryz.func189 rfl Tryz.ntmps189 rfl fun S w0=>?_
 refine sr ?_
 refine cq ?_
 refine nt ?_
 refine sr ?_
 iterate 2 refine mq ?_
 refine jb (iH rfl) ?_
 refine aq ?_
 refine nt ?_
 refine aB ?_
 cases h
 exact ra
def uy(k:Nat)(a0:Int)(a1:Int):Option Bool:=
 (((o5 k a0).bind fun r3=>
 if r3=true then((o5 k a1).bind fun r4=>
 if¬(r4=true) then(some true) else(some (decide (a0 < a1)))) else(some (decide (a0 < a1)))):Option (Bool)).bind fun x1=>
 some x1
theorem zk(k:Nat)(a0:Int)(a1:Int)(r:Bool)(h:uy k a0 a1=some r):
 cd Tryz.prog 202 [I a0,I a1] [] (fun _:Unit=>(bv [.eq (.bool r)],[])):=by
 unfold uy at h
 replace h:=ba h
 refine cd.of 17 Tryz.func202 rfl Tryz.ntmps202 rfl fun S w0=>?_
 refine sr ?_
 refine cq ?_
 refine nt ?_
 refine aK (Z:=Unit) (α:=Bool) (fun z2 x1=>[(4,.eq (.bool x1))]) (fun z2 x1=>[]) h (fun K h=>?_) (fun z2 x1 h=>?_)
 ·
  refine aa (mq ?_);obtain⟨r3,e,h⟩:=ab h;refine ja (ar [.tmp 5] rfl rfl KB rfl (rh k a0 r3 e)) ?_;refine mq ?_;refine bG (s:=7) rfl (fun hb=>?_) (fun hb=>?_)
  ·replace h:=cm (zS hb) h;refine gm ?_;obtain⟨r4,c,h⟩:=ab h;refine ga (ar [.tmp 8] rfl rfl KB rfl (rh k a1 r4 c)) ?_;refine ga (fW rfl) ?_;refine pt ?_;refine mq ?_;refine bG (s:=12) rfl (fun hb=>?_) (fun hb=>?_)
   ·replace h:=cm (Dp hb) h;iterate 3 refine gn ?_
    refine pt ?_;refine aq (nl ?_);exact jz ((),true) h []
   ·replace h:=bD (vx hb) h;refine gm ?_;refine gm ?_;refine gb (bz rfl) ?_;refine pf ?_;refine aq (nl ?_);exact jz ((),decide (a0 < a1)) h []
  ·replace h:=bD (zT hb) h;iterate 3 refine gn ?_
   refine pf ?_;refine mq ?_;refine gm ?_;refine gm ?_;refine gb (bz rfl) ?_;refine pf ?_;refine aq (nl ?_);exact jz ((),decide (a0 < a1)) h []
 ·
  refine aB ?_;cases h;exact ra
def cy(k:Nat)(a1:Int):Nat→((List Int)×Int)→Option (List Int)
 |0,_=>none
 |n+1,y6=>
  ((if a1 < y6.2 then((a9 y6.1 y6.2).bind fun u=>
  (ck (y6.2 - 1)).bind fun s=>
  (a9 y6.1 s).bind fun r=>
  (uy k u r).bind fun x=>
  some x) else(some false)):Option (Bool)).bind fun x8=>
  if x8=true then((ck (y6.2 - 1)).bind fun e=>
  (ck (y6.2 - 1)).bind fun l=>
  (a9 y6.1 l).bind fun c=>
  (a9 y6.1 y6.2).bind fun j=>
  (a9 y6.1 y6.2).bind fun D=>
  (a9 (List.set y6.1 (Int.toNat y6.2) c) e).bind fun y=>
  (ck (y6.2 - 1)).bind fun h=>
  cy k a1 n (List.set (List.set y6.1 (Int.toNat y6.2) c) (Int.toNat e) j,h)) else(some y6.1)
def cz(k:Nat)(a1:Int)(a2:Int):Nat→((List Int)×Int)→Option (List Int)
 |0,_=>none
 |n+1,y2=>
  if y2.2 < a2 then(((cy k a1 k (y2.1,y2.2)):Option ((List Int))).bind fun x4=>
  (ck (y2.2+1)).bind fun c=>
  cz k a1 a2 n (x4,c)) else(some y2.1)
def dQ(k:Nat)(a0:(List Int))(a1:Int)(a2:Int):Option (List Int):=
 (ck (a1+1)).bind fun x1=>
 cz k a1 a2 k (a0,x1)
theorem jf(k:Nat)(a0:(List Int))(c:Value)(a1:Int)(a2:Int)(r:(List Int))(h:dQ k a0 a1 a2=some r):
 cd Tryz.prog 196 [.eq c,I a1,I a2] [.sl c 3 (.int .i64) a0] (fun _:Unit=>(bv [],[.sl c 3 (.int .i64) r])):=by
 unfold dQ at h
 replace h:=ba h
 refine cd.of 49 Tryz.func196 rfl Tryz.ntmps196 rfl fun S w0=>?_
 refine sr ?_
 refine mq ?_
 obtain⟨x1,RR,h⟩:=ab h
 refine jb (bh rfl RR) ?_
 refine aq ?_
 refine nt ?_
 refine aj ?_
 refine aH (fun z3 y2=>[(0,.eq c),(1,I a1),(2,I a2),(6,I y2.2)]) (fun z3 y2=>[.sl c 3 (.int .i64) y2.1]) (cz k a1 a2) k () (a0,x1) (fun _=>rfl) h (SE.fin [0] ⟨rfl,rfl,rfl,rfl,trivial⟩ rfl) (fun n z3 y2 h=>?_)
 unfold cz at h
 refine ah ?_
 refine sr ?_
 iterate 2 refine mq ?_
 refine jb (bz rfl) ?_
 refine nt ?_
 refine ci h (fun h=>?_) (fun h=>?_)
 ·
  refine sk (aK (Z:=Unit) (α:=(List Int)) (fun z5 x4=>[(0,.eq c),(1,I a1),(2,I a2),(6,I y2.2)]) (fun z5 x4=>[.sl c 3 (.int .i64) x4]) h (fun K h=>?_) (fun z5 x4 h=>?_))
  ·refine aj (sr (mq ?_));refine aq (nt (aj ?_));refine aH (fun z7 y6=>[(0,.eq c),(1,I a1),(2,I a2),(6,I y2.2),(7,I y6.2)]) (fun z7 y6=>[.sl c 3 (.int .i64) y6.1]) (cy k a1) k () (y2.1,y2.2) (fun _=>rfl) h (SE.fin [0] ⟨rfl,rfl,rfl,rfl,rfl,trivial⟩ rfl) (fun n z7 y6 h=>?_);unfold cy at h;refine ah (aK (Z:=Unit) (α:=Bool) (fun z9 x8=>[(0,.eq c),(1,I a1),(2,I a2),(6,I y2.2),(7,I y6.2),(30,.eq (.bool x8))]) (fun z9 x8=>[.sl c 3 (.int .i64) y6.1]) h (fun K h=>?_) (fun z9 x8 h=>?_))
   ·refine bZ ?_;refine dm ?_;refine dm ?_;refine db (mC rfl) ?_;refine xC rfl rfl rfl (aZ rfl) ⟨rfl,trivial⟩ (fun hb=>?_) (fun hb=>?_)
    ·replace h:=cm (l5 hb) h;refine bL rfl rfl rfl rfl rfl (aZ rfl) ⟨rfl,rfl,trivial⟩ ?_;refine bL rfl rfl rfl rfl rfl (aZ rfl) ⟨rfl,rfl,trivial⟩ ?_;obtain⟨RF,x,h⟩:=ab h;refine nc 0 rfl rfl rfl rfl rfl rfl (cE (t:=(.int .i64)) rfl fY dw x) ⟨rfl,rfl,rfl,trivial⟩ ?_;refine nc 0 rfl rfl rfl rfl rfl rfl (jo (i:=Int.toNat y6.2) (off:=0) rfl dw (fun _=>rfl) rfl (eG x).2.2 rfl) ⟨rfl,rfl,trivial⟩ ?_;refine bL rfl rfl rfl rfl rfl (aZ rfl) ⟨rfl,rfl,trivial⟩ ?_;refine bL rfl rfl rfl rfl rfl (aZ rfl) ⟨rfl,rfl,trivial⟩ ?_;obtain⟨RE,qt,h⟩:=ab h;refine bL rfl rfl rfl rfl rfl (gC rfl qt) ⟨rfl,rfl,rfl,trivial⟩ ?_;obtain⟨RD,u,h⟩:=ab h;refine nc 0 rfl rfl rfl rfl rfl rfl (cE (t:=(.int .i64)) rfl fY dw u) ⟨rfl,rfl,rfl,trivial⟩ ?_;refine nc 0 rfl rfl rfl rfl rfl rfl (jo (i:=Int.toNat RE) (off:=0) rfl dw (fun _=>rfl) rfl (eG u).2.2 rfl) ⟨rfl,rfl,trivial⟩ ?_;refine df eU ?_;obtain⟨F,se,h⟩:=ab h;refine gb (ar [.tmp 23,.tmp 28] rfl rfl OU rfl (zk k RF RD F se)) ?_;refine pt (nl ?_);exact jz ((),F) h [0]
    ·replace h:=bD (lu hb) h;iterate 9 refine dg ?_
     refine df eU ?_;refine gn ?_;refine pf (nl ?_);exact jz ((),false) h [0]
   ·refine cv h (fun h=>?_) (fun h=>?_)
    ·refine sk (ah (aj (mL ?_)));refine be rfl rfl rfl (aZ rfl) ⟨rfl,trivial⟩ ?_;refine be rfl rfl rfl (aZ rfl) ⟨rfl,trivial⟩ ?_;refine be rfl rfl rfl (aZ rfl) ⟨rfl,trivial⟩ ?_;refine be rfl rfl rfl (aZ rfl) ⟨rfl,trivial⟩ ?_;obtain⟨y,pp,h⟩:=ab h;refine be rfl rfl rfl (gC rfl pp) ⟨rfl,rfl,trivial⟩ ?_;refine be rfl rfl rfl (aZ rfl) ⟨rfl,trivial⟩ ?_;refine be rfl rfl rfl (aZ rfl) ⟨rfl,trivial⟩ ?_;obtain⟨RB,mc,h⟩:=ab h;refine be rfl rfl rfl (gC rfl mc) ⟨rfl,rfl,trivial⟩ ?_;obtain⟨E,s,h⟩:=ab h;refine il 0 rfl rfl rfl rfl (cE (t:=(.int .i64)) rfl fY dw s) ⟨rfl,rfl,trivial⟩ ?_;refine il 0 rfl rfl rfl rfl (jo (i:=Int.toNat RB) (off:=0) rfl dw (fun _=>rfl) rfl (eG s).2.2 rfl) ⟨rfl,trivial⟩ ?_;refine be rfl rfl rfl (aZ rfl) ⟨rfl,trivial⟩ ?_;refine be rfl rfl rfl (aZ rfl) ⟨rfl,trivial⟩ ?_;obtain⟨D,l,h⟩:=ab h;refine il 0 rfl rfl rfl rfl (cE (t:=(.int .i64)) rfl fY dw l) ⟨rfl,rfl,trivial⟩ ?_;refine il 0 rfl rfl rfl rfl (jo (i:=Int.toNat y6.2) (off:=0) rfl dw (fun _=>rfl) rfl (eG l).2.2 rfl) ⟨rfl,trivial⟩ ?_;obtain⟨R7,j,h⟩:=ab h;refine il 0 rfl rfl rfl rfl (cE (t:=(.int .i64)) rfl fY dw j) ⟨rfl,rfl,trivial⟩ ?_;refine sK 15 [true,true,false,false,false,true,true,true,true,true,true,true,true,true,true] [48] [] [] rfl (by kernel_rfl) (by kernel_rfl) (by kernel_rfl) eU (fun vs hv hB=>?_);obtain⟨w0,SD,rfl,RQ⟩:=av hv;obtain⟨w1,SC,rfl,RP⟩:=av RQ;obtain⟨w2,SB,rfl,RO⟩:=av RP;obtain⟨w3,SA,rfl,RN⟩:=av RO;obtain⟨w4,Sz,rfl,RL⟩:=av RN;obtain⟨w5,Sv,rfl,RJ⟩:=av RL;obtain⟨w6,Su,rfl,RI⟩:=av RJ;obtain⟨w7,Ss,rfl,RH⟩:=av RI;obtain⟨w8,Sr,rfl,RG⟩:=av RH;obtain⟨w9,RZ,rfl,X⟩:=av RG;obtain⟨Sm,RY,rfl,U⟩:=av X;obtain⟨Sl,RX,rfl,Q⟩:=av U;obtain⟨Sj,RV,rfl,O⟩:=av Q;obtain⟨Si,RU,rfl,M⟩:=av O;obtain⟨R9,RS,rfl,J⟩:=av M;obtain rfl:=oU J;refine⟨[0],[.sl c 3 (.int .i64) y6.1],by kernel_rfl,by decide,?_⟩;refine uJ rfl rfl (fV (i:=Int.toNat y6.2) rfl dw rfl (lO j) rfl .int rfl) ⟨rfl,rfl,trivial⟩ (by kernel_rfl) ?_;obtain⟨R2,e,h⟩:=ab h;refine HD rfl rfl rfl rfl (cE (t:=(.int .i64)) rfl fY dw e) ⟨rfl,rfl,trivial⟩ (by kernel_rfl) ?_;refine uJ rfl rfl (fV (i:=Int.toNat y) rfl dw rfl (lO e) rfl .int rfl) ⟨rfl,rfl,trivial⟩ (by kernel_rfl) ?_;refine uI ?_;refine bS (SE.fin (Γ':=[(0,.eq c),(1,I a1),(2,I a2),(6,I y2.2),(7,I y6.2)]) (Δ':=[.sl c 3 (.int .i64) (List.set (List.set y6.1 (Int.toNat y6.2) E) (Int.toNat y) D)]) [0] ⟨rfl,rfl,rfl,rfl,rfl,trivial⟩ rfl) ?_;refine aG (tn (aa (mq ?_)));obtain⟨RA,ac,h⟩:=ab h;refine jb (gC rfl ac) ?_;refine aq (nl ?_);exact jz ((),(List.set (List.set y6.1 (Int.toNat y6.2) E) (Int.toNat y) D,RA)) h [0]
    ·refine dD (aN (aN (bU (bn ?_))));exact jz ((),y6.1) h [0]
  ·refine aa (mq ?_);obtain⟨Rz,Y,h⟩:=ab h;refine jb (bh rfl Y) ?_;refine aq (nl ?_);exact jz ((),(x4,Rz)) h [0]
 ·
  refine dD (aN (aN (bU (iq ?_))));cases h;exact aJ () [] 1 trivial rfl
def j7(k:Nat)(a0:Int):Option Int:=
 ((if 4294967296≤a0 then(some (gK .u64 a0 32,32)) else(some (a0,0))):Option (Int×Int)).bind fun x1=>
 ((if 65536≤x1.1 then((ck (x1.2+16)).bind fun x5=>
 some (gK .u64 x1.1 16,x5)) else(some (x1.1,x1.2))):Option (Int×Int)).bind fun x3=>
 ((if 256≤x3.1 then((ck (x3.2+8)).bind fun x8=>
 some (gK .u64 x3.1 8,x8)) else(some (x3.1,x3.2))):Option (Int×Int)).bind fun x6=>
 (AN IM (IntKind.u8.wrap x6.1)).bind fun x9=>
 (ck (x9.toNat:Int)).bind fun e=>
 (ck (x6.2+e)).bind fun c=>
 some c
theorem qc(k:Nat)(a0:Int)(r:Int)(h:j7 k a0=some r):
 cd Tryz.prog 206 [.eq (.int .u64 a0)] [] (fun _:Unit=>(bv [I r],[])):=by
 unfold j7 at h
 replace h:=ba h
 refine cd.of 25 Tryz.func206 rfl Tryz.ntmps206 rfl fun S w0=>?_
 refine sr ?_
 refine cq ?_
 refine nt ?_
 refine aK (Z:=Unit) (α:=Int×Int) (fun z2 x1=>[(0,.eq (.int .u64 x1.1)),(2,I x1.2)]) (fun z2 x1=>[]) h (fun K h=>?_) (fun z2 x1 h=>?_)
 ·
  refine sr (mq ?_);refine jb (pA rfl) ?_;refine nt (ci h (fun h=>?_) (fun h=>?_))
  ·refine sr (mq ?_);refine aA rfl (t7 rfl (by decide)) ⟨rfl,rfl,trivial⟩ ?_;refine aq (nt (aa ?_));refine cq (nl ?_);exact jz ((),(gK .u64 a0 32,32)) h []
  ·refine aO (ae ?_);exact jz ((),(a0,0)) h []
 ·
  refine aK (Z:=Unit) (α:=Int×Int) (fun z4 x3=>[(0,.eq (.int .u64 x3.1)),(2,I x3.2)]) (fun z4 x3=>[]) h (fun K h=>?_) (fun z4 x3 h=>?_)
  ·refine sr (mq ?_);refine jb (pA rfl) ?_;refine nt (ci h (fun h=>?_) (fun h=>?_))
   ·refine sr (mq ?_);refine aA rfl (t7 rfl (by decide)) ⟨rfl,rfl,trivial⟩ ?_;refine aq (nt (aa ?_));refine mq ?_;obtain⟨x5,n,h⟩:=ab h;refine jb (bh rfl n) ?_;refine aq (nl ?_);exact jz ((),(gK .u64 x1.1 16,x5)) h []
   ·refine aO (ae ?_);exact jz ((),(x1.1,x1.2)) h []
  ·refine aK (Z:=Unit) (α:=Int×Int) (fun z7 x6=>[(0,.eq (.int .u64 x6.1)),(2,I x6.2)]) (fun z7 x6=>[]) h (fun K h=>?_) (fun z7 x6 h=>?_)
   ·refine sr (mq ?_);refine jb (pA rfl) ?_;refine nt (ci h (fun h=>?_) (fun h=>?_))
    ·refine sr (mq ?_);refine aA rfl (t7 rfl (by decide)) ⟨rfl,rfl,trivial⟩ ?_;refine aq (nt (aa ?_));refine mq ?_;obtain⟨x8,l,h⟩:=ab h;refine jb (bh rfl l) ?_;refine aq (nl ?_);exact jz ((),(gK .u64 x3.1 8,x8)) h []
    ·refine aO (ae ?_);exact jz ((),(x3.1,x3.2)) h []
   ·refine sr ?_;iterate 2 refine mq ?_
    refine ja (nP rfl P6 U5) ?_;obtain⟨x9,j,h⟩:=ab h;refine ja (yt rfl U9 j) ?_;obtain⟨u,e,h⟩:=ab h;refine ja (yu rfl U5 U3 e) ?_;obtain⟨s,c,h⟩:=ab h;refine jb (bh rfl c) ?_;refine aq (nt (aB ?_));cases h;exact ra
def xo(k:Nat)(a0:Int):Option Int:=
 (j7 k a0).bind fun r1=>
 some r1
theorem A0(k:Nat)(a0:Int)(r:Int)(h:xo k a0=some r):
 cd Tryz.prog 185 [.eq (.int .u64 a0)] [] (fun _:Unit=>(bv [I r],[])):=by
 unfold xo at h
 replace h:=ba h
 refine cd.of 8 Tryz.func185 rfl Tryz.ntmps185 rfl fun S w0=>?_
 refine sr ?_
 refine cq ?_
 refine nt ?_
 refine ah ?_
 refine HL (fun hb=>(by cases hb)) (fun hb=>?_)
 refine sk ?_
 refine sr ?_
 refine mq ?_
 obtain⟨r1,c,h⟩:=ab h
 have e:=qc k a0 r1 c
 refine ja (ar [.tmp 6] rfl rfl OT rfl e) ?_
 refine aq ?_
 refine nt ?_
 refine aB ?_
 cases h
 exact ra
def eW(k:Nat)(a0:(List Int))(a1:Int)(a2:Int)(a3:Int):Nat→Unit→Option (List Int)
 |0,_=>none
 |n+1,y1=>
  (ck (a2 - a1)).bind fun x3=>
  if x3≤12 then((dQ k a0 a1 a2).bind fun r4=>
  some r4) else(if a3=0 then(none) else(none))
def f7(k:Nat)(a0:(List Int))(a1:Int)(a2:Int)(a3:Int):Option (List Int):=
 eW k a0 a1 a2 a3 k ()
theorem lr(k:Nat)(a0:(List Int))(c:Value)(a1:Int)(a2:Int)(a3:Int)(r:(List Int))(h:f7 k a0 a1 a2 a3=some r):
 cd Tryz.prog 184 [.eq c,I a1,I a2,I a3] [.sl c 3 (.int .i64) a0] (fun _:Unit=>(bv [],[.sl c 3 (.int .i64) r])):=by
 unfold f7 at h
 replace h:=ba h
 refine cd.of 134 Tryz.func184 rfl Tryz.ntmps184 rfl fun S w0=>?_
 refine sr ?_
 refine cq ?_
 refine nt ?_
 refine sr ?_
 refine cq ?_
 refine nt ?_
 refine aj ?_
 refine aH (fun z2 y1=>[(0,.eq c),(1,I a1),(2,I a2),(3,I a3),(8,.eq (.bool true)),(9,.eq (.bool true))]) (fun z2 y1=>[.sl c 3 (.int .i64) a0]) (eW k a0 a1 a2 a3) k () () (fun _=>rfl) h (SE.fin [0] ⟨rfl,rfl,rfl,rfl,rfl,rfl,trivial⟩ rfl) (fun n z2 y1 h=>?_)
 unfold eW at h
 refine aj ?_
 refine sr ?_
 iterate 2 refine mq ?_
 obtain⟨x3,e,h⟩:=ab h
 refine jb (gC rfl e) ?_
 refine aq ?_
 refine nt ?_
 refine ah ?_
 refine sr ?_
 refine mq ?_
 refine jb (yp rfl) ?_
 refine nt ?_
 refine ci h (fun h=>?_) (fun h=>?_)
 ·
  refine sr ?_;iterate 3 refine mq ?_
  obtain⟨r4,j,h⟩:=ab h;refine kc (ar [.tmp 24,.tmp 25,.tmp 26] rfl rfl OW rfl (jf k a0 c a1 a2 r4 j)) ?_;refine nt (rx (bM (aX (bM ?_))));cases h;exact aJ () [] 1 trivial rfl
 ·
  refine sk (ah (sr (mq ?_)));refine jb (de rfl) ?_;refine nt (ci h (fun h=>?_) (fun h=>?_))
  ·refine sr ?_;iterate 3 refine mq ?_
   cases h
  ·refine sk (ah (sr (mq ?_)));refine ja (fW rfl) ?_;refine nt (bB rfl (fun hb=>(by cases hb)) (fun hb=>?_));refine sk (sr ?_);iterate 3 refine mq ?_
   cases h
def mW(k:Nat)(a0:(List Int)):Option (List Int):=
 (xo k (IntKind.u64.wrap (a0.length:Int))).bind fun r1=>
 (f7 k a0 0 (a0.length:Int) r1).bind fun r2=>
 some r2
theorem s8(k:Nat)(a0:(List Int))(c:Value)(r:(List Int))(h:mW k a0=some r):
 cd Tryz.prog 145 [.eq c] [.sl c 3 (.int .i64) a0] (fun _:Unit=>(bv [],[.sl c 3 (.int .i64) r])):=by
 unfold mW at h
 replace h:=ba h
 refine cd.of 11 Tryz.func145 rfl Tryz.ntmps145 rfl fun S w0=>?_
 refine sr ?_
 refine mq ?_
 refine ka (fH rfl rfl fY) ?_
 refine aq ?_
 refine nt ?_
 refine aa ?_
 iterate 3 refine mq ?_
 refine ja (nP rfl U3 QZ) ?_
 obtain⟨r1,j,h⟩:=ab h
 have n:=A0 k (IntKind.u64.wrap (a0.length:Int)) r1 j
 refine ja (ar [.tmp 8] rfl rfl OY rfl n) ?_
 obtain⟨r2,e,h⟩:=ab h
 have l:=lr k a0 c 0 (a0.length:Int) r1 r2 e
 refine bT rfl rfl rfl (ar [.tmp 5,.const (.int .i64 (0)),.tmp 6,.tmp 9] rfl rfl OZ rfl l) ⟨rfl,rfl,rfl,rfl,trivial⟩ ?_
 refine ak ?_
 refine iq ?_
 cases h
 exact aJ () [] 1 trivial rfl
def kP(k:Nat)(a0:(List Int)):Option (List Int):=
 (j0 k a0).bind fun r1=>
 (mW k r1).bind fun r3=>
 some r3
theorem qI(k:Nat)(a0:(List Int))(c:Nat)(r:(List Int))(h:kP k a0=some r):
 cd Tryz.prog 108 [.eq (.func (.func 146) #[] #[(Pv c)])] [.obj c 23 (Ri a0)] (fun _:Unit=>(bv [Ri r],[.obj c 23 (Ri a0)])):=by
 unfold kP at h
 replace h:=ba h
 refine cd.of 9 Tryz.func108 rfl Tryz.ntmps108 rfl fun S w0=>?_
 refine sr ?_
 refine cq ?_
 refine nt ?_
 refine sr ?_
 refine mq ?_
 obtain⟨r1,j,h⟩:=ab h
 have n:=pN k a0 c r1 j
 refine bH (Δ:=[_]) (F:=_) (fun _ _ _=>au rfl _) rfl rfl (ar [.tmp 4] rfl rfl O6 rfl n) ⟨rfl,trivial⟩ fun z2=>?_
 refine aq ?_
 refine nt ?_
 refine sr ?_
 refine mq ?_
 obtain⟨r3,e,h⟩:=ab h
 have l:=s8 k r1 z2 r3 e
 refine ka (ar [.tmp 6] rfl rfl O5 rfl l) ?_
 refine nt ?_
 refine sr ?_
 refine mq ?_
 refine aq ?_
 refine nt ?_
 refine aB ?_
 refine bS (fM [2,3,5,6,8] ⟨rfl,rfl,rfl,rfl,rfl,trivial⟩) ?_
 cases h
 exact aJ () [_] 1 ⟨rfl,trivial⟩ rfl
theorem qH(a0:(List Int)):cd Tryz.prog 109 [Ri a0] [] (fun z:Nat=>(bv [.eq (.func (.func 146) #[] #[(Pv z)])],[.obj z 23 (Ri a0)])):=by
 refine cd.of 4 Tryz.func109 rfl Tryz.ntmps109 rfl fun S w0=>?_;refine sr (bx fun z=>?_);refine cq (nt (sr ?_));refine ja (sa [] [.tmp 1] [] [(Pv z)] rfl rfl rfl) ?_;refine aq (nt (aB ?_));exact aJ z [_] 1 ⟨rfl,trivial⟩ rfl
def bJ{σ:Type}(k:Nat)(a0:(List (List Int)))(a1:Int)(a2:Int)(a3:cR)(self:(List (List Int))→Int→Int→σ→Option (Bool×σ))(h:(List Int)):Nat→(Int×σ)→Option (Except (Bool×σ) (σ))
 |0,_=>none
 |n+1,c=>
  if c.1 < (a3.1.2.1.length:Int) then(bE (α:=σ) ((a9 a3.1.2.1 c.1).bind fun y=>
  (((dF k a2 c.1).bind fun I=>
  if I=true then(some (true,c.2)) else((mm k a3.1 h).bind fun F=>
  (ck (F+y.1)).bind fun x=>
  (a9 a3.1.2.2 a1).bind fun u=>
  some (decide (u < x),c.2))):Option (Bool×σ)).bind fun j=>
  if j.1=true then(some (.ok j.2)) else((d3 (0≤a1∧a1 < 3)).bind fun _=>
  (a9 a0 a1).bind fun s=>
  (d3 (0≤(h.length:Int)∧(h.length:Int) < 5)).bind fun _=>
  (dB k a2 c.1).bind fun E=>
  (self (List.set a0 (Int.toNat a1) (List.set s (Int.toNat (h.length:Int)) c.1)) a1 E j.2).bind fun l=>
  if¬(l.1=true) then(some (.error (false,l.2))) else(some (.ok l.2)))) (fun e=>some (.error e)) fun D=>
  (ck (c.1+1)).bind fun r=>
  bJ k a0 a1 a2 a3 self h n (r,D)) else(some (.ok c.2))
def bC{σ:Type}(k:Nat)(Y:σ→(List (List Int))→Option (σ×Bool))(a3:cR):Nat→(List (List Int))→Int→Int→σ→Option (Bool×σ)
 |0,_,_,_,_=>none
 |m0+1,a0,a1,a2,s0=>
  if a1=(a3.1.2.2.length:Int) then((((d3 (0≤(a3.1.2.1.length:Int))).bind fun _=>
  if¬(a2=(IntKind.u8.wrap ((lZ .u8 1 (a3.1.2.1.length:Int)) - 1))) then(some (true,s0)) else((Y s0 a0).bind fun r5=>
  some (r5.2,r5.1))):Option (Bool×σ)).bind fun x2=>
  some (x2.1,x2.2)) else((ck (a1+1)).bind fun x7=>
  ((bC k Y a3 m0) a0 x7 a2 s0).bind fun r8=>
  if¬(r8.1=true) then(some (false,r8.2)) else((dC k a0 a1).bind fun e=>
  bE (α:=σ) (bJ k a0 a1 a2 a3 (bC k Y a3 m0) e k (0,r8.2)) (some) fun c=>
  some (true,c)))
theorem lY{M:Md Tryz.prog}{σ Z:Type}(E:Z→σ→List D)(l:Nat)(Y:σ→(List (List Int))→Option (σ×Bool))(k:Nat)(a3:cR)(u:Nat)(x:Nat)(c:Nat)(hY:∀z s p r,Y s p=some r→YT M l [.rep (.arr 3 (.arr 5 (.int .i64))) p] (E z s) (fun z':Z=>(.eq (.bool r.2),E z' r.1))):
 ∀(n:Nat) (a0:(List (List Int))) (a1:Int) (a2:Int) (z0:Z) (s0:σ) (r:Bool×σ),bC k Y a3 n a0 a1 a2 s0=some r→c6 M 149 [.rep (.arr 3 (.arr 5 (.int .i64))) a0,I a1,.eq (.int .u8 a2),Pt u,Pt x,Pt c] ([.obj u 102 (.at bj a3),.obj x 210 (.eq (.func (.yield l) #[] #[])),.obj c 211 (.eq (.func (.func 149) #[] #[(Pv u),(Pv x),(Pv c)]))]++E z0 s0) (fun z:Z=>(bv [.eq (.bool r.1)],[.obj u 102 (.at bj a3),.obj x 210 (.eq (.func (.yield l) #[] #[])),.obj c 211 (.eq (.func (.func 149) #[] #[(Pv u),(Pv x),(Pv c)]))]++E z r.2)):=by
 intro n
 induction n with
 |zero=>intro a0 a1 a2 z0 s0 r h;cases h
 |succ m0 ih=>
  intro a0 a1 a2 z0 s0 r h;rw [bC] at h;replace h:=ba h;refine c6.of 97 Tryz.func149 rfl Tryz.ntmps149 rfl fun S w0=>?_;refine sr (bx fun b1=>?_);refine cq (nt (ah (sr ?_)));refine mq ?_;refine fr 1 ?_;refine lo nk ?_;refine ja (dq rfl) ?_;refine ja (aM 3 true rfl i8 rfl) ?_;refine ja (aM 1 false rfl iZ rfl) ?_;refine ja (ao (t:=(.slice (.int .i64))) rfl cp rfl) ?_;refine ol fY ?_;refine jb (de rfl) ?_;refine nt (ci h (fun h=>?_) (fun h=>?_))
  ·refine aK (Z:=Z) (α:=Bool×σ) (fun z3 x2=>[(9,.eq (.bool x2.1))]) (fun z3 x2=>[.obj u 102 (.at bj a3),.obj x 210 (.eq (.func (.yield l) #[] #[])),.obj c 211 (.eq (.func (.func 149) #[] #[(Pv u),(Pv x),(Pv c)]))]++E z3 x2.2) h (fun K h=>?_) (fun z3 x2 h=>?_)
   ·refine aa (mq ?_);refine lo nk ?_;refine ja (dq rfl) ?_;refine ja (aM 3 true rfl i8 rfl) ?_;refine ja (aM 1 false rfl i7 rfl) ?_;refine ja (ao (t:=(.slice c9)) rfl qE rfl) ?_;refine ol zM ?_;obtain⟨u4,R2,h⟩:=ab h;refine jb (E9 rfl (aC R2)) ?_;refine jb (E8 rfl) ?_;refine jb (iH rfl) ?_;refine mq ?_;refine bG (s:=32) rfl (fun hb=>?_) (fun hb=>?_)
    ·replace h:=cm (NV hb) h;iterate 3 refine gn ?_
     refine pt ?_;refine aq (nl ?_);exact gP (z0,(true,s0)) h (aV [.obj u 102 (.at bj a3),.obj b1 107 (.rep (.arr 3 (.arr 5 (.int .i64))) a0),.obj x 210 (.eq (.func (.yield l) #[] #[])),.obj c 211 (.eq (.func (.func 149) #[] #[(Pv u),(Pv x),(Pv c)]))] (E z0 s0) [0,2,3] ⟨rfl,trivial⟩ rfl)
    ·replace h:=bD (FY hb) h;refine fr 2 ?_;refine lm rfl rfl rfl rfl rfl rfl (an rfl NG mN rfl) ⟨rfl,trivial⟩ ?_;refine fr 2 ?_;refine lm rfl rfl rfl rfl rfl rfl (an rfl cN (zK) rfl) ⟨rfl,trivial⟩ ?_;obtain⟨r5,R9,h⟩:=ab h;refine fr 3 ?_;refine fr 3 ?_;refine fr 3 ?_;refine fr 3 ?_;refine Ea [.obj b1 107 (.rep (.arr 3 (.arr 5 (.int .i64))) a0),.obj x 210 (.eq (.func (.yield l) #[] #[])),.obj u 102 (.at bj a3),.obj c 211 (.eq (.func (.func 149) #[] #[(Pv u),(Pv x),(Pv c)]))] rfl rfl rfl rfl rfl rfl (wI [.tmp 34] rfl rfl rfl (hY z0 s0 a0 r5 R9)) ⟨rfl,rfl,trivial⟩ fun z6=>?_;refine pf ?_;refine aq (nl ?_);exact gP (z6,(r5.2,r5.1)) h (aV [.obj b1 107 (.rep (.arr 3 (.arr 5 (.int .i64))) a0),.obj x 210 (.eq (.func (.yield l) #[] #[])),.obj u 102 (.at bj a3),.obj c 211 (.eq (.func (.func 149) #[] #[(Pv u),(Pv x),(Pv c)]))] (E z6 r5.1) [2,1,3] ⟨rfl,trivial⟩ rfl)
   ·refine rx ?_;cases h;exact ic z3 [_] ⟨rfl,trivial⟩ rfl
  ·refine sk (ah (sr (fr 3 ?_)));refine lo Bg ?_;refine fr 2 ?_;refine lo cN ?_;refine mq ?_;obtain⟨x7,RZ,h⟩:=ab h;refine jb (bh rfl RZ) ?_;refine mq ?_;obtain⟨r8,R7,h⟩:=ab h;refine fr 1 ?_;refine fr 3 ?_;refine fr 3 ?_;refine fr 3 ?_;refine oC [.obj b1 107 (.rep (.arr 3 (.arr 5 (.int .i64))) a0)] rfl rfl rfl (nQ (fs:=[]) (cs:=[(Pv u),(Pv x),(Pv c)]) (ags:=[.rep (.arr 3 (.arr 5 (.int .i64))) a0,I x7,.eq (.int .u8 a2)]) [.tmp 38,.tmp 40,.tmp 41] rfl rfl GZ rfl (ih a0 x7 a2 z0 s0 r8 R7)) ⟨rfl,rfl,rfl,rfl,trivial⟩ fun z9=>?_;refine ja (fW rfl) ?_;refine nt (cw h (fun h=>?_) (fun h=>?_))
   ·refine sr (cq (nt (rx ?_)));refine bS (aV (Γ':=[(9,_)]) [.obj b1 107 (.rep (.arr 3 (.arr 5 (.int .i64))) a0),.obj u 102 (.at bj a3),.obj x 210 (.eq (.func (.yield l) #[] #[])),.obj c 211 (.eq (.func (.func 149) #[] #[(Pv u),(Pv x),(Pv c)]))] (E z9 r8.2) [1,2,3] ⟨rfl,trivial⟩ rfl) ?_;cases h;exact ic z9 [_] ⟨rfl,trivial⟩ rfl
   ·refine sk (sr (lo cN ?_));refine mq ?_;obtain⟨F,RQ,h⟩:=ab h;refine jb (ar [.tmp 44,.tmp 45] rfl rfl BU rfl (fE k a0 a1 F RQ)) ?_;refine aq (nt ?_);refine fj (Z:=Z) (α:=σ) (fun qt RA=>[]) (fun qt RA=>[.obj u 102 (.at bj a3),.obj x 210 (.eq (.func (.yield l) #[] #[])),.obj c 211 (.eq (.func (.func 149) #[] #[(Pv u),(Pv x),(Pv c)]))]++E qt RA) (fun e=>e=r) h (fun e h=>Option.some.inj h) (fun K hR h=>?_) (fun qt RA h=>?_)
    ·refine sr (fr 1 ?_);refine lo nk ?_;refine ja (dq rfl) ?_;refine ja (aM 3 true rfl i8 rfl) ?_;refine ja (aM 1 false rfl i7 rfl) ?_;refine ja (ao (t:=(.slice c9)) rfl qE rfl) ?_;refine ol zM ?_;refine eB rfl ?_;refine nt (aj (aH (Z:=Z) (α:=Int×σ) (fun J y=>[(1,I a1),(2,.eq (.int .u8 a2)),(3,Pt u),(5,Pt c),(6,Pt b1),(10,Ri F),(51,Rs c9 a3.1.2.1),(52,I (a3.1.2.1.length:Int)),(53,I y.1)]) (fun J y=>[.obj u 102 (.at bj a3),.obj c 211 (.eq (.func (.func 149) #[] #[(Pv u),(Pv x),(Pv c)])),.obj x 210 (.eq (.func (.yield l) #[] #[])),.obj b1 107 (.rep (.arr 3 (.arr 5 (.int .i64))) a0)]++E J y.2) (bJ k a0 a1 a2 a3 (bC k Y a3 m0) F) k z9 (0,r8.2) (fun _=>rfl) h (aV [.obj u 102 (.at bj a3),.obj b1 107 (.rep (.arr 3 (.arr 5 (.int .i64))) a0),.obj x 210 (.eq (.func (.yield l) #[] #[])),.obj c 211 (.eq (.func (.func 149) #[] #[(Pv u),(Pv x),(Pv c)]))] (E z9 r8.2) [0,3,2,1] ⟨rfl,rfl,rfl,rfl,rfl,rfl,rfl,rfl,rfl,trivial⟩ rfl) (fun n J y h=>?_)));unfold bJ at h;refine sr (jb (bz rfl) ?_);refine nt (ah (ci h (fun h=>?_) (fun h=>?_)))
     ·refine sk (fj (Z:=Z) (α:=σ) (fun X mc=>[(1,I a1),(2,.eq (.int .u8 a2)),(3,Pt u),(5,Pt c),(6,Pt b1),(10,Ri F),(51,Rs c9 a3.1.2.1),(52,I (a3.1.2.1.length:Int)),(53,I y.1)]) (fun X mc=>[.obj u 102 (.at bj a3),.obj c 211 (.eq (.func (.func 149) #[] #[(Pv u),(Pv x),(Pv c)])),.obj x 210 (.eq (.func (.yield l) #[] #[])),.obj b1 107 (.rep (.arr 3 (.arr 5 (.int .i64))) a0)]++E X mc) (fun e=>e=r) h (fun e h=>hR e h) (fun K hR h=>?_) (fun X mc h=>?_))
      ·refine aj (sr (mq ?_));obtain⟨RE,RJ,h⟩:=ab h;refine jb (aL (t:=c9) rfl zM rP RJ) ?_;refine ja (ao (t:=c9) rfl rP rfl) ?_;refine aD rfl rfl rfl (bF rfl wl Jx) trivial fun RR=>?_;refine aq ?_;refine a8 rfl rfl (aW rfl rP rfl rfl rfl) ⟨rfl,rfl,trivial⟩ ?_;refine nt (ah (aK (Z:=Z) (α:=Bool×σ) (fun U O=>[(1,I a1),(2,.eq (.int .u8 a2)),(3,Pt u),(5,Pt c),(6,Pt b1),(10,Ri F),(11,I y.1),(51,Rs c9 a3.1.2.1),(52,I (a3.1.2.1.length:Int)),(53,I y.1),(80,.eq (.bool O.1))]) (fun U O=>[.obj u 102 (.at bj a3),.obj c 211 (.eq (.func (.func 149) #[] #[(Pv u),(Pv x),(Pv c)])),.obj x 210 (.eq (.func (.yield l) #[] #[])),.obj b1 107 (.rep (.arr 3 (.arr 5 (.int .i64))) a0)]++E U O.2) h (fun K h=>?_) (fun U O h=>?_)))
       ·refine bZ ?_;refine dm ?_;refine dm ?_;obtain⟨RY,RP,h⟩:=ab h;refine db (ar [.tmp 58,.tmp 59] rfl rfl Je rfl (gU k a2 y.1 RY RP)) ?_;refine xC rfl rfl rfl (aZ rfl) ⟨rfl,trivial⟩ (fun hb=>?_) (fun hb=>?_)
        ·replace h:=cm (zS hb) h;iterate 17 refine dg ?_
         refine df eU ?_;refine gn ?_;refine pt (nl ?_);exact gP (J,(true,y.2)) h (aV [.obj RR 27 (.rep c9 RE),.obj u 102 (.at bj a3),.obj c 211 (.eq (.func (.func 149) #[] #[(Pv u),(Pv x),(Pv c)])),.obj x 210 (.eq (.func (.yield l) #[] #[])),.obj b1 107 (.rep (.arr 3 (.arr 5 (.int .i64))) a0)] (E J y.2) [1,2,3,4] ⟨rfl,rfl,rfl,rfl,rfl,rfl,rfl,rfl,rfl,rfl,rfl,trivial⟩ rfl)
        ·replace h:=bD (zT hb) h;refine nc 1 rfl rfl rfl rfl rfl rfl (an rfl nk mN rfl) ⟨rfl,rfl,trivial⟩ ?_;refine bL rfl rfl rfl rfl rfl (dq rfl) ⟨rfl,rfl,trivial⟩ ?_;refine bL rfl rfl rfl rfl rfl (aM 3 true rfl i8 rfl) ⟨rfl,rfl,trivial⟩ ?_;refine bL rfl rfl rfl rfl rfl (ao (t:=aI) rfl jk rfl) ⟨rfl,rfl,trivial⟩ ?_;refine bL rfl rfl rfl rfl rfl (aZ rfl) ⟨rfl,rfl,trivial⟩ ?_;obtain⟨RX,RO,h⟩:=ab h;refine bL rfl rfl rfl rfl rfl (ar [.tmp 65,.tmp 66] rfl rfl KD rfl (sM k a3.1 F RX RO)) ⟨rfl,rfl,rfl,trivial⟩ ?_;refine bL rfl rfl rfl rfl rfl (ax rfl xh) ⟨rfl,rfl,trivial⟩ ?_;refine nc 0 rfl rfl rfl rfl rfl rfl (an rfl dw mN rfl) ⟨rfl,rfl,trivial⟩ ?_;obtain⟨RV,RI,h⟩:=ab h;refine bL rfl rfl rfl rfl rfl (bh rfl RI) ⟨rfl,rfl,rfl,trivial⟩ ?_;refine nc 1 rfl rfl rfl rfl rfl rfl (an rfl nk mN rfl) ⟨rfl,rfl,trivial⟩ ?_;refine bL rfl rfl rfl rfl rfl (dq rfl) ⟨rfl,rfl,trivial⟩ ?_;refine bL rfl rfl rfl rfl rfl (aM 3 true rfl i8 rfl) ⟨rfl,rfl,trivial⟩ ?_;refine bL rfl rfl rfl rfl rfl (aM 1 false rfl iZ rfl) ⟨rfl,rfl,trivial⟩ ?_;refine bL rfl rfl rfl rfl rfl (ao (t:=(.slice (.int .i64))) rfl cp rfl) ⟨rfl,rfl,trivial⟩ ?_;refine bL rfl rfl rfl rfl rfl (aZ rfl) ⟨rfl,rfl,trivial⟩ ?_;obtain⟨RU,RH,h⟩:=ab h;refine bL rfl rfl rfl rfl rfl (aL (t:=(.int .i64)) rfl fY dw RH) ⟨rfl,rfl,rfl,trivial⟩ ?_;refine bL rfl rfl rfl rfl rfl (ao (t:=(.int .i64)) rfl dw rfl) ⟨rfl,rfl,trivial⟩ ?_;refine df eU ?_;refine gb (mC rfl) ?_;refine pf (nl ?_);exact gP (J,(decide (RU < RV),y.2)) h (aV [.obj RR 27 (.rep c9 RE),.obj u 102 (.at bj a3),.obj c 211 (.eq (.func (.func 149) #[] #[(Pv u),(Pv x),(Pv c)])),.obj x 210 (.eq (.func (.yield l) #[] #[])),.obj b1 107 (.rep (.arr 3 (.arr 5 (.int .i64))) a0)] (E J y.2) [1,2,3,4] ⟨rfl,rfl,rfl,rfl,rfl,rfl,rfl,rfl,rfl,rfl,rfl,trivial⟩ rfl)
       ·refine cv h (fun h=>?_) (fun h=>?_)
        ·refine dD (aN (bU (ae ?_)));exact gP (U,O.2) h (aV [.obj u 102 (.at bj a3),.obj c 211 (.eq (.func (.func 149) #[] #[(Pv u),(Pv x),(Pv c)])),.obj x 210 (.eq (.func (.yield l) #[] #[])),.obj b1 107 (.rep (.arr 3 (.arr 5 (.int .i64))) a0)] (E U O.2) [0,1,2,3] ⟨rfl,rfl,rfl,rfl,rfl,rfl,rfl,rfl,rfl,trivial⟩ rfl)
        ·refine sk (sr (fr 3 ?_));refine lo cN ?_;refine aD rfl rfl rfl (bF rfl lx lS) trivial fun RD=>?_;refine a8 rfl rfl (aW rfl cN rfl rfl rfl) ⟨rfl,rfl,trivial⟩ ?_;refine nt (sr ?_);iterate 2 refine mq ?_
         refine ol fY ?_;refine mq ?_;obtain⟨Sj,Rz,h⟩:=ab h;refine jb (g7 rfl JG yd (aC Rz).1 (aC Rz).2) ?_;obtain⟨ac,RG,h⟩:=ab h;obtain⟨Si,Q,h⟩:=ab h;refine jb (g7 rfl JH dw (aC Q).1 (aC Q).2) ?_;refine a8 rfl rfl (m3 (t:=(.int .i64)) (off:=0) (i:=a1) (j:=(F.length:Int)) (N:=3) (L:=5) rfl dw .int rfl rfl rfl rfl RG (aC Q).1 (aC Q).2 rfl) ⟨rfl,rfl,trivial⟩ ?_;refine nt (ah (bZ ?_));refine ea 3 (an rfl Bg mN rfl) ?_;refine ea 0 (an rfl cN (zK) rfl) ?_;refine dm ?_;refine dm ?_;refine dm ?_;obtain⟨RB,RN,h⟩:=ab h;refine db (ar [.tmp 91,.tmp 92] rfl rfl BS rfl (iu k a2 y.1 RB RN)) ?_;refine df eU ?_;obtain⟨se,RL,h⟩:=ab h;refine fr 3 ?_;refine fr 4 ?_;refine fr 4 ?_;refine fr 4 ?_;refine fr 4 ?_;refine oC [.obj RD 107 (.rep (.arr 3 (.arr 5 (.int .i64))) (List.set a0 (Int.toNat a1) (List.set ac (Int.toNat (F.length:Int)) y.1))),.obj b1 107 (.rep (.arr 3 (.arr 5 (.int .i64))) a0)] rfl rfl rfl (nQ (fs:=[]) (cs:=[(Pv u),(Pv x),(Pv c)]) (ags:=[.rep (.arr 3 (.arr 5 (.int .i64))) (List.set a0 (Int.toNat a1) (List.set ac (Int.toNat (F.length:Int)) y.1)),I a1,.eq (.int .u8 RB)]) [.tmp 89,.tmp 90,.tmp 93] rfl rfl GZ rfl (ih (List.set a0 (Int.toNat a1) (List.set ac (Int.toNat (F.length:Int)) y.1)) a1 RB U O.2 se RL)) ⟨rfl,rfl,rfl,rfl,trivial⟩ fun pp=>?_;refine ja (fW rfl) ?_;refine nt (cw h (fun h=>?_) (fun h=>?_))
         ·refine sr (cq (nt (aB (br (bM (aX ?_))))));refine bS (aV (Γ':=[(9,_)]) [.obj RD 107 (.rep (.arr 3 (.arr 5 (.int .i64))) (List.set a0 (Int.toNat a1) (List.set ac (Int.toNat (F.length:Int)) y.1))),.obj b1 107 (.rep (.arr 3 (.arr 5 (.int .i64))) a0),.obj u 102 (.at bj a3),.obj x 210 (.eq (.func (.yield l) #[] #[])),.obj c 211 (.eq (.func (.func 149) #[] #[(Pv u),(Pv x),(Pv c)]))] (E pp se.2) [2,3,4] ⟨rfl,trivial⟩ rfl) ?_;obtain rfl:=hR _ h;exact ic pp [_] ⟨rfl,trivial⟩ rfl
         ·refine aO (bn ?_);exact gP (pp,se.2) h (aV [.obj RD 107 (.rep (.arr 3 (.arr 5 (.int .i64))) (List.set a0 (Int.toNat a1) (List.set ac (Int.toNat (F.length:Int)) y.1))),.obj b1 107 (.rep (.arr 3 (.arr 5 (.int .i64))) a0),.obj u 102 (.at bj a3),.obj x 210 (.eq (.func (.yield l) #[] #[])),.obj c 211 (.eq (.func (.func 149) #[] #[(Pv u),(Pv x),(Pv c)]))] (E pp se.2) [2,4,3,1] ⟨rfl,rfl,rfl,rfl,rfl,rfl,rfl,rfl,rfl,trivial⟩ rfl)
      ·refine aa ?_;obtain⟨RS,RF,h⟩:=ab h;refine jb (bh rfl RF) ?_;refine mq (nl ?_);exact gP (X,(RS,mc)) h (aV [.obj u 102 (.at bj a3),.obj c 211 (.eq (.func (.func 149) #[] #[(Pv u),(Pv x),(Pv c)])),.obj x 210 (.eq (.func (.yield l) #[] #[])),.obj b1 107 (.rep (.arr 3 (.arr 5 (.int .i64))) a0)] (E X mc) [0,1,2,3] ⟨rfl,rfl,rfl,rfl,rfl,rfl,rfl,rfl,rfl,trivial⟩ rfl)
     ·refine xa ?_;exact gP (J,y.2) h (aV [.obj u 102 (.at bj a3),.obj c 211 (.eq (.func (.func 149) #[] #[(Pv u),(Pv x),(Pv c)])),.obj x 210 (.eq (.func (.yield l) #[] #[])),.obj b1 107 (.rep (.arr 3 (.arr 5 (.int .i64))) a0)] (E J y.2) [0,2,1] trivial rfl)
    ·refine sr (cq (nt (aB ?_)));cases h;exact ic qt [_] ⟨rfl,trivial⟩ rfl
def dj{σ:Type}(k:Nat)(Y:σ→(List (List Int))→Option (σ×Bool))(a1:cR)(s0:σ):Option (σ):=
 (dG k ([]:(List (List Int)))).bind fun r2=>
 (bC k Y a1 k r2 0 0 s0).bind fun r5=>
 some r5.2
theorem iO{M:Md Tryz.prog}{σ Z:Type}(E:Z→σ→List D)(l:Nat)(Y:σ→(List (List Int))→Option (σ×Bool))(k:Nat)(a1:cR)(c:Nat)(hY:∀z s p r,Y s p=some r→YT M l [.rep (.arr 3 (.arr 5 (.int .i64))) p] (E z s) (fun z':Z=>(.eq (.bool r.2),E z' r.1))):
 ∀(z0:Z) (s0:σ) (r:σ),dj k Y a1 s0=some r→c6 M 148 [.eq (.func (.yield l) #[] #[]),Pt c] ([.obj c 102 (.at bj a1)]++E z0 s0) (fun z:Z=>(bv [],[.obj c 102 (.at bj a1)]++E z r)):=by
 intro z0 s0 r h
 unfold dj at h
 replace h:=ba h
 refine c6.of 10 Tryz.func148 rfl Tryz.ntmps148 rfl fun S w0=>?_
 refine sr ?_
 refine bx fun b1=>?_
 refine nt ?_
 refine sr ?_
 obtain⟨r2,j,h⟩:=ab h
 have u:=eJ k ([]:(List (List Int))) r2 j
 refine ja (dt (N:=[(.const (.slice none 0 0),.eq (.slice none 0 0))]) (ar [.const (.slice none 0 0)] rfl rfl DU rfl u) fun _ _ _ hn=>⟨(jA (t:=(.slice (.slice (.int .i64)))) (x:=([]:(List (List Int)))) .nil rfl rfl hn.1),trivial⟩) ?_
 refine aD rfl rfl rfl (bF rfl lx lS) trivial fun b3=>?_
 refine a8 rfl rfl (aW rfl cN rfl rfl rfl) ⟨rfl,rfl,trivial⟩ ?_
 refine nt ?_
 refine sr ?_
 refine aD rfl rfl rfl (bF rfl Nh PH) trivial fun b4=>?_
 refine nt ?_
 refine sr ?_
 refine jc (sa [] [.tmp 1,.tmp 2,.tmp 4] [] [(Pv c),(Pv b1),(Pv b4)] rfl rfl rfl) ?_
 refine a8 rfl rfl (aW rfl Bg rfl rfl rfl) ⟨rfl,rfl,trivial⟩ ?_
 refine nt ?_
 refine aa ?_
 refine lo Bg ?_
 refine fr 1 ?_
 refine lo cN ?_
 obtain⟨r5,e,h⟩:=ab h
 have n:=lY E l Y k a1 c b1 b4 hY k r2 0 0 z0 s0 r5 e
 refine fr 1 ?_
 refine fr 2 ?_
 refine fr 3 ?_
 refine fr 3 ?_
 refine oC [.obj b3 107 (.rep (.arr 3 (.arr 5 (.int .i64))) r2)] rfl rfl rfl (nQ (fs:=[]) (cs:=[(Pv c),(Pv b1),(Pv b4)]) (ags:=[.rep (.arr 3 (.arr 5 (.int .i64))) r2,I 0,.eq (.int .u8 0)]) [.tmp 8,.const (.int .i64 (0)),.const (.int .u8 (0))] rfl rfl GZ rfl n) ⟨rfl,rfl,rfl,rfl,trivial⟩ fun z6=>?_
 refine ak ?_
 refine iq ?_
 refine bS (aV (Γ':=[]) [.obj b3 107 (.rep (.arr 3 (.arr 5 (.int .i64))) r2),.obj c 102 (.at bj a1),.obj b1 210 (.eq (.func (.yield l) #[] #[])),.obj b4 211 (.eq (.func (.func 149) #[] #[(Pv c),(Pv b1),(Pv b4)]))] (E z6 r5.2) [1] trivial rfl) ?_
 cases h
 exact ic z6 [] trivial rfl
def f9(k:Nat)(a1:cR):Option (List (List (List Int))):=
 (dj k (kN (fun(y2:(List (List (List Int)))) (p4:(List (List Int)))=>
  (d3 (bV (List.length y2+List.length [p4]))).bind fun _=>
  some (y2++[p4],true))) a1 (([]:(List (List (List Int)))),false)).bind fun r5=>
 if r5.2=true then(none) else(some r5.1)
theorem nw(k:Nat)(a1:cR)(c:Nat)(r:(List (List (List Int))))(h:f9 k a1=some r):
 cd Tryz.prog 147 [.eq (.slice none 0 0),.eq (.func (.func 148) #[] #[(Pv c)])] [.obj c 102 (.at bj a1)] (fun z:Value=>(bv [.eq z],[.sl z 107 (.arr 3 (.arr 5 (.int .i64))) r,.obj c 102 (.at bj a1)])):=by
 unfold f9 at h
 replace h:=ba h
 refine xE 13 Tryz.func147 rfl Tryz.ntmps147 rfl fun {M} S w0=>?_
 refine sr ?_
 refine bx fun b1=>?_
 refine cq ?_
 refine nt ?_
 refine ah ?_
 refine sr ?_
 refine mq ?_
 refine nt ?_
 refine aj ?_
 refine fP (SE.nil 107 (.arr 3 (.arr 5 (.int .i64)))) ?_
 refine dV 1 rfl ?_
 refine dV 2 rfl ?_
 obtain⟨r5,j,h⟩:=ab h
 refine ko (Δ:=[.obj c 102 (.at bj a1),.obj b1 152 (.eq (.slice none 0 0)),.sl (.slice none 0 0) 107 (.arr 3 (.arr 5 (.int .i64))) ([]:(List (List (List Int))))]) (F:=[]) (X:=Value) (J:=fun _=>Ek r5.2) (E:=fun z3=>[.obj c 102 (.at bj a1),.obj b1 152 (.eq z3),.sl z3 107 (.arr 3 (.arr 5 (.int .i64))) r5.1]) (r0:=fun _=>.tup .any) rfl rfl KC (fun rec hp ha hb hs hpe hN hv l=>?_) (fun dl z3=>mT (fun hj=>?_) (fun hj=>?_))
 ·
  rcases rec with⟨st0,pe0,fn0,tm0,ps0,as0,bd0,df0⟩;dsimp only at hp ha hb hs hpe hN hv;subst hp hs hpe;have vN:te tm0 [(2,Pt b1)]:=⟨congrArg A.eq (hv 2 _ rfl).symm,trivial⟩;refine c6.pick (M:=M) [1,0,2,3] [1,0,2,3] (iO (fun(z3:Value) (q:(List (List (List Int)))×Bool)=>[.raw l (.loop (ii ⟨.ready,none,fn0,tm0, #[7],as0,bd0,df0⟩ (Ek q.2))),.obj b1 152 (.eq z3),.sl z3 107 (.arr 3 (.arr 5 (.int .i64))) q.1]) l (kN (fun(y2:(List (List (List Int)))) (p4:(List (List Int)))=>
  (d3 (bV (List.length y2+List.length [p4]))).bind fun _=>
  some (y2++[p4],true))) k a1 c (fun z3 q p r' h=>?_) (.slice none 0 0) (([]:(List (List (List Int)))),false) r5 j) rfl (fun _=>rfl) (fun _=>rfl)
  obtain⟨rq,hq,h2,rfl⟩:=mU h;obtain⟨y2,b5⟩:=q;obtain rfl:b5=false:=hq;replace h:=ba h2;obtain⟨p4,hpv⟩:∃x,x=p:=⟨_,rfl⟩;subst hpv;refine YT.pick (R':=(fun z3:Value=>(.eq (.bool rq.2),[.raw l (.loop (ii ⟨.ready,none,fn0,tm0, #[7],as0,bd0,df0⟩ (Ek (!rq.2)))),.obj b1 152 (.eq z3),.sl z3 107 (.arr 3 (.arr 5 (.int .i64))) rq.1]))) [0,1,2] [0,1,2] (A2 ha hb (N:=13) (Γ:=[(2,Pt b1)]) rfl hN (by decide) vN (fun S w=>?_)) rfl (fun _=>rfl) (fun _=>rfl);refine aa (aD rfl rfl rfl (bF rfl lx lS) trivial fun b6=>?_);refine a8 rfl rfl (aW rfl cN rfl rfl rfl) ⟨rfl,rfl,trivial⟩ ?_;refine nl (bO 1 rfl ?_);refine rC rfl rfl ?_;refine aj (aa (fr 2 ?_));refine lo EN ?_;refine fr 2 ?_;refine lo cN ?_;refine ja (bu (t:=(.arr 3 (.arr 5 (.int .i64)))) [(.tmp 9,_)] [p4] rfl rfl J9 (.cons rfl .rep .nil) rfl rfl) ?_;obtain⟨u7,e,h⟩:=ab h;refine fr 3 ?_;refine dS rfl rfl rfl (ct rfl rfl J9 (aC e)) ⟨rfl,rfl,trivial⟩ fun v8=>?_;refine xy fun o9=>?_;refine fr 2 ?_;refine a8 rfl rfl (aW rfl EN o9 rfl rfl) ⟨rfl,rfl,trivial⟩ ?_;refine ak (aG (bO 1 rfl ?_));refine bO 1 rfl ?_;refine bO 3 rfl ?_;cases h;exact mK v8 2 rfl
 ·
  replace h:=bD (zT hj) h;refine aG (tn (sr (fr 2 ?_)));refine lo EN ?_;refine aq (nt (aB ?_));refine bO 1 rfl ?_;refine tw ?_;refine bS (SE.fin (Γ':=[(4,_)]) [2,1,0] ⟨rfl,trivial⟩ rfl) ?_;cases h;exact aJ z3 [.eq z3] 2 ⟨rfl,trivial⟩ rfl
 ·
  replace h:=cm (zS hj) h;cases h
def fG(k:Nat)(a0:cR):Option (List (List (List Int))):=
 (f9 k a0).bind fun r1=>
 some r1
theorem po(k:Nat)(a0:cR)(c:Nat)(r:(List (List (List Int))))(h:fG k a0=some r):
 cd Tryz.prog 115 [.eq (.func (.func 148) #[] #[(Pv c)])] [.obj c 102 (.at bj a0)] (fun _:Unit=>(bv [.rep (.slice (.arr 3 (.arr 5 (.int .i64)))) r],[.obj c 102 (.at bj a0)])):=by
 unfold fG at h
 replace h:=ba h
 refine cd.of 5 Tryz.func115 rfl Tryz.ntmps115 rfl fun S w0=>?_
 refine sr ?_
 refine cq ?_
 refine nt ?_
 refine sr ?_
 refine mq ?_
 obtain⟨r1,e,h⟩:=ab h
 have j:=nw k a0 c r1 e
 refine bH (Δ:=[_]) (F:=_) (fun _ _ _=>au rfl _) rfl rfl (ar [.const (.slice none 0 0),.tmp 3] rfl rfl O3 rfl j) ⟨rfl,rfl,trivial⟩ fun z2=>?_
 refine aq ?_
 refine nt ?_
 refine aB ?_
 refine bS (fM [2,4] ⟨rfl,rfl,trivial⟩) ?_
 cases h
 exact aJ () [_] 1 ⟨rfl,trivial⟩ rfl
theorem jN(a0:cR):cd Tryz.prog 116 [.at bj a0] [] (fun z:Nat=>(bv [.eq (.func (.func 148) #[] #[(Pv z)])],[.obj z 102 (.at bj a0)])):=by
 refine cd.of 4 Tryz.func116 rfl Tryz.ntmps116 rfl fun S w0=>?_;refine sr (aD rfl rfl rfl (nq rfl trivial) ⟨rfl,trivial⟩ fun z=>?_);refine cq (nt (sr ?_));refine ja (sa [] [.tmp 1] [] [(Pv z)] rfl rfl rfl) ?_;refine aq (nt (aB ?_));exact aJ z [_] 1 ⟨rfl,trivial⟩ rfl
def jR(k:Nat)(a0:(List Int)):Option bR:=
 ((if(a0.length:Int)=0 then(some [3,2]) else(some a0)):Option ((List Int))).bind fun x2=>
 some (3,[(1,[0,2]),(1,[1]),(2,[2]),(1,[0,1])],x2)
theorem iJ(k:Nat)(a0:(List Int))(r:bR)(h:jR k a0=some r):
 cd Tryz.prog 78 [Ri a0] [] (fun _:Unit=>(bv [.rep aI r],[])):=by
 unfold jR at h
 replace h:=ba h
 refine cd.of 18 Tryz.func78 rfl Tryz.ntmps78 rfl fun S w0=>?_
 refine sr ?_
 refine aD rfl rfl rfl (bF rfl CO Jy) trivial fun b1=>?_
 refine nt ?_
 refine aK (Z:=Unit) (α:=(List Int)) (fun z3 x2=>[(0,Ri x2),(2,Pt b1)]) (fun z3 x2=>[.obj b1 25 (.agg (.pair (I 0) (.pair (.eq (.slice none 0 0)) (.eq (.slice none 0 0)))))]) h (fun K h=>?_) (fun z3 x2 h=>?_)
 ·
  refine sr (mq ?_);refine ol fY ?_;refine jb (de rfl) ?_;refine nt (ci h (fun h=>?_) (fun h=>?_))
  ·refine aa (jb (bu (t:=(.int .i64)) [(.const (.int .i64 (3)),_),(.const (.int .i64 (2)),_)] [3,2] rfl rfl fp (.cons rfl .int (.cons rfl .int .nil)) rfl rfl) ?_);refine aq (nl ?_);exact jz ((),[3,2]) h [0]
  ·refine aO (ae ?_);exact jz ((),a0) h [0]
 ·
  refine sr (jb (bu (t:=(.int .i64)) [(.const (.int .i64 (0)),_),(.const (.int .i64 (2)),_)] [0,2] rfl rfl fp (.cons rfl .int (.cons rfl .int .nil)) rfl rfl) ?_);refine jb (dr [(0,.const (.int .i64 (1)),_),(1,.tmp 7,_)] rfl E2 wl zr (iS ⟨rfl,rfl,trivial⟩) rfl) ?_;refine ja (bu (t:=(.int .i64)) [(.const (.int .i64 (1)),_)] [1] rfl rfl fp (.cons rfl .int .nil) rfl rfl) ?_;refine jb (dr [(0,.const (.int .i64 (1)),_),(1,.tmp 9,_)] rfl E2 wl zr (iS ⟨rfl,rfl,trivial⟩) rfl) ?_;refine ja (bu (t:=(.int .i64)) [(.const (.int .i64 (2)),_)] [2] rfl rfl fp (.cons rfl .int .nil) rfl rfl) ?_;refine jb (dr [(0,.const (.int .i64 (2)),_),(1,.tmp 11,_)] rfl E2 wl zr (iS ⟨rfl,rfl,trivial⟩) rfl) ?_;refine jb (bu (t:=(.int .i64)) [(.const (.int .i64 (0)),_),(.const (.int .i64 (1)),_)] [0,1] rfl rfl fp (.cons rfl .int (.cons rfl .int .nil)) rfl rfl) ?_;refine jb (dr [(0,.const (.int .i64 (1)),_),(1,.tmp 13,_)] rfl E2 wl zr (iS ⟨rfl,rfl,trivial⟩) rfl) ?_;refine aA rfl (bu (t:=c9) [(.tmp 8,_),(.tmp 10,_),(.tmp 12,_),(.tmp 14,_)] [(1,[0,2]),(1,[1]),(2,[2]),(1,[0,1])] rfl rfl K1 (.cons trivial (.agg (.pair .int .rep)) (.cons trivial (.agg (.pair .int .rep)) (.cons trivial (.agg (.pair .int .rep)) (.cons trivial (.agg (.pair .int .rep)) .nil)))) rfl rfl) ⟨rfl,rfl,rfl,rfl,trivial⟩ ?_;refine mq ?_;refine jc (dr [(0,.const (.int .i64 (3)),_),(1,.tmp 15,_),(2,.tmp 16,_)] rfl NJ CO KL (iS ⟨rfl,rfl,rfl,trivial⟩) rfl) ?_;refine a8 rfl rfl (aW rfl jk trivial rfl rfl) ⟨rfl,rfl,trivial⟩ ?_;refine nt (aB (bS (pg (a:=.agg (.pair (I 3) (.pair (Rs c9 [(1,[0,2]),(1,[1]),(2,[2]),(1,[0,1])]) (Ri x2)))) (a':=.rep aI (3,[(1,[0,2]),(1,[1]),(2,[2]),(1,[0,1])],x2)) (xG (.agg (.pair .int (.pair .rep .rep))))) ?_));cases h;exact aJ () [.rep aI (3,[(1,[0,2]),(1,[1]),(2,[2]),(1,[0,1])],x2)] 0 ⟨⟨_,_,_,_,_,rfl,(.head _),jk,(zK),rfl⟩,trivial⟩ rfl
def vI(k:Nat):Option (List (List Int)):=
 some [[1,0,3],[2]]
theorem qW(k:Nat)(r:(List (List Int)))(h:vI k=some r):
 cd Tryz.prog 79 [] [] (fun _:Unit=>(bv [.rep (.slice (.slice (.int .i64))) r],[])):=by
 unfold vI at h
 replace h:=ba h
 refine cd.of 4 Tryz.func79 rfl Tryz.ntmps79 rfl fun S w0=>?_
 refine sr ?_
 refine cq ?_
 refine nt ?_
 refine sr ?_
 refine jc (bu (t:=(.int .i64)) [(.const (.int .i64 (1)),_),(.const (.int .i64 (0)),_),(.const (.int .i64 (3)),_)] [1,0,3] rfl rfl fp (.cons rfl .int (.cons rfl .int (.cons rfl .int .nil))) rfl rfl) ?_
 refine ja (bu (t:=(.int .i64)) [(.const (.int .i64 (2)),_)] [2] rfl rfl fp (.cons rfl .int .nil) rfl rfl) ?_
 refine jb (bu (t:=(.slice (.int .i64))) [(.tmp 1,_),(.tmp 2,_)] [[1,0,3],[2]] rfl rfl pr (.cons rfl .rep (.cons rfl .rep .nil)) rfl rfl) ?_
 refine aq ?_
 refine nt ?_
 refine aB ?_
 cases h
 exact ra
def Gk(k:Nat):Option (List (List Int)):=
 some [[0,2],[3,1]]
theorem Gj(k:Nat)(r:(List (List Int)))(h:Gk k=some r):
 cd Tryz.prog 80 [] [] (fun _:Unit=>(bv [.rep (.slice (.slice (.int .i64))) r],[])):=by
 unfold Gk at h
 replace h:=ba h
 refine cd.of 4 Tryz.func80 rfl Tryz.ntmps80 rfl fun S w0=>?_
 refine sr ?_
 refine cq ?_
 refine nt ?_
 refine sr ?_
 refine jb (bu (t:=(.int .i64)) [(.const (.int .i64 (0)),_),(.const (.int .i64 (2)),_)] [0,2] rfl rfl fp (.cons rfl .int (.cons rfl .int .nil)) rfl rfl) ?_
 refine jb (bu (t:=(.int .i64)) [(.const (.int .i64 (3)),_),(.const (.int .i64 (1)),_)] [3,1] rfl rfl fp (.cons rfl .int (.cons rfl .int .nil)) rfl rfl) ?_
 refine jb (bu (t:=(.slice (.int .i64))) [(.tmp 1,_),(.tmp 2,_)] [[0,2],[3,1]] rfl rfl pr (.cons rfl .rep (.cons rfl .rep .nil)) rfl rfl) ?_
 refine aq ?_
 refine nt ?_
 refine aB ?_
 cases h
 exact ra
def lM(k:Nat)(a0:(List Int)):Option cJ:=
 some (a0,0,1)
theorem uf(k:Nat)(a0:(List Int))(r:cJ)(h:lM k a0=some r):
 cd Tryz.prog 26 [Ri a0] [] (fun z:Nat=>(bv [Pt z],[.obj z 98 (.agg (.pair (Ri r.1) (.pair (I r.2.1) (.eq (.int .u64 r.2.2)))))])):=by
 unfold lM at h
 replace h:=ba h
 refine cd.of 6 Tryz.func26 rfl Tryz.ntmps26 rfl fun S w0=>?_
 refine sr ?_
 refine cq ?_
 refine nt ?_
 refine sr ?_
 refine mq ?_
 refine jb (dr [(0,.tmp 3,_),(2,.const (.int .u64 (1)),_)] rfl Qh Qb PE (iS ⟨rfl,rfl,trivial⟩) rfl) ?_
 refine aD rfl rfl rfl (nq rfl trivial) ⟨rfl,trivial⟩ fun b1=>?_
 refine aq ?_
 refine nt ?_
 refine aB ?_
 cases h
 exact aJ b1 [Pt b1] 1 ⟨rfl,trivial⟩ rfl
def m7(k:Nat)(a0:(List Int)):Option (List Int):=
 (d3 (bV (List.length ([]:(List Int))+List.length a0))).bind fun _=>
 some (([]:(List Int))++a0)
theorem ta(k:Nat)(a0:(List Int))(r:(List Int))(h:m7 k a0=some r):
 cd Tryz.prog 55 [Ri a0] [] (fun z:Value=>(bv [.eq z],[.sl z 3 (.int .i64) r])):=by
 unfold m7 at h
 replace h:=ba h
 refine cd.of 6 Tryz.func55 rfl Tryz.ntmps55 rfl fun S w0=>?_
 refine sr ?_
 refine cq ?_
 refine nt ?_
 refine sr ?_
 refine aD rfl rfl rfl (pT (t:=(.int .i64)) [] ([]:(List Int)) rfl rfl fp .nil rfl rfl) trivial fun v1=>?_
 refine mq ?_
 obtain⟨u2,c,h⟩:=ab h
 refine dS rfl rfl rfl (ct rfl rfl fp (aC c)) ⟨rfl,rfl,trivial⟩ fun v3=>?_
 refine aq ?_
 refine nt ?_
 refine aB ?_
 cases h
 exact aJ v3 [.eq v3] 1 ⟨rfl,trivial⟩ rfl
def ip(k:Nat)(a0:cJ):Option (Int×cJ):=
 ((if a0.2.1 < (a0.1.length:Int) then((a9 a0.1 a0.2.1).bind fun x3=>
 some (IntKind.u64.wrap ((IntKind.u64.wrap ((IntKind.u64.wrap (a0.2.2 * 6364136223846793005))+1442695040888963407))+(IntKind.u64.wrap ((IntKind.u64.wrap x3) * 2862933555777941757))))) else(some (IntKind.u64.wrap ((IntKind.u64.wrap (a0.2.2 * 6364136223846793005))+1442695040888963407)))):Option (Int)).bind fun x1=>
 (ck (a0.2.1+1)).bind fun x4=>
 some (gK .u64 (qd .u64 (IntKind.u64.wrap ((qd .u64 x1 (gK .u64 x1 29)) * 2685821657736338717)) (gK .u64 (IntKind.u64.wrap ((qd .u64 x1 (gK .u64 x1 29)) * 2685821657736338717)) 32)) 8,(a0.1,x4,x1))
theorem sw(k:Nat)(a0:cJ)(c:Nat)(r:Int×cJ)(h:ip k a0=some r):
 cd Tryz.prog 82 [Pt c] [.obj c 98 (.agg (.pair (Ri a0.1) (.pair (I a0.2.1) (.eq (.int .u64 a0.2.2)))))] (fun _:Unit=>(bv [.eq (.int .u64 r.1)],[.obj c 98 (.agg (.pair (Ri r.2.1) (.pair (I r.2.2.1) (.eq (.int .u64 r.2.2.2)))))])):=by
 unfold ip at h
 replace h:=ba h
 refine cd.of 67 Tryz.func82 rfl Tryz.ntmps82 rfl fun S w0=>?_
 refine sr ?_
 refine cq ?_
 refine nt ?_
 refine sr ?_
 iterate 2 refine mq ?_
 refine ja (aR rfl) ?_
 refine fl sA ?_
 refine lo C0 ?_
 refine jb (Ar rfl) ?_
 refine jb (Au rfl) ?_
 refine ja (aR rfl) ?_
 refine fl sA ?_
 refine a8 rfl rfl (aW rfl C0 rfl rfl rfl) ⟨rfl,rfl,trivial⟩ ?_
 refine nt ?_
 refine aK (Z:=Unit) (α:=Int) (fun z2 x1=>[(0,Pt c)]) (fun z2 x1=>[.obj c 98 (.agg (.pair (Ri a0.1) (.pair (I a0.2.1) (.eq (.int .u64 x1)))))]) h (fun K h=>?_) (fun z2 x1 h=>?_)
 ·
  refine ah (bZ ?_);refine dm ?_;refine da (aR rfl) ?_;refine da (ax rfl xg) ?_;refine ea 0 (an rfl dw mN rfl) ?_;refine dm ?_;refine da (aR rfl) ?_;refine da (ax rfl GP) ?_;refine ea 0 (an rfl cp mN rfl) ?_;refine da (jg rfl rfl fY) ?_;refine df eU ?_;refine jb (bz rfl) ?_;refine nt (ci h (fun h=>?_) (fun h=>?_))
  ·refine bZ ?_;refine dm ?_;refine dm ?_;refine da (aR rfl) ?_;refine da (ax rfl sA) ?_;refine ea 0 (an rfl C0 mN rfl) ?_;refine dm ?_;refine da (aR rfl) ?_;refine da (ax rfl GP) ?_;refine ea 0 (an rfl cp mN rfl) ?_;refine dm ?_;refine da (aR rfl) ?_;refine da (ax rfl xg) ?_;refine ea 0 (an rfl dw mN rfl) ?_;obtain⟨x3,j,h⟩:=ab h;refine db (aL (t:=(.int .i64)) rfl fY dw j) ?_;refine da (ao (t:=(.int .i64)) rfl dw rfl) ?_;refine da (nP rfl U3 P6) ?_;refine db (Ar rfl) ?_;refine db (Au rfl) ?_;refine df eU ?_;refine ja (aR rfl) ?_;refine fl sA ?_;refine a8 rfl rfl (aW rfl C0 rfl rfl rfl) ⟨rfl,rfl,trivial⟩ ?_;refine nl ?_;exact jz ((),IntKind.u64.wrap ((IntKind.u64.wrap ((IntKind.u64.wrap (a0.2.2 * 6364136223846793005))+1442695040888963407))+(IntKind.u64.wrap ((IntKind.u64.wrap x3) * 2862933555777941757)))) h [0]
  ·refine aO (ae ?_);exact jz ((),IntKind.u64.wrap ((IntKind.u64.wrap (a0.2.2 * 6364136223846793005))+1442695040888963407)) h [0]
 ·
  refine sr (mq ?_);refine ja (aR rfl) ?_;refine fl xg ?_;refine lo dw ?_;obtain⟨x4,e,h⟩:=ab h;refine jb (bh rfl e) ?_;refine ja (aR rfl) ?_;refine fl xg ?_;refine a8 rfl rfl (aW rfl dw rfl rfl rfl) ⟨rfl,rfl,trivial⟩ ?_;refine nt (ah (bZ ?_));refine dm ?_;refine da (aR rfl) ?_;refine da (ax rfl sA) ?_;refine ea 0 (an rfl C0 mN rfl) ?_;refine dm ?_;refine da (aR rfl) ?_;refine da (ax rfl sA) ?_;refine ea 0 (an rfl C0 mN rfl) ?_;refine di rfl rfl rfl (t7 rfl (by decide)) ⟨rfl,rfl,trivial⟩ ?_;refine df eU ?_;refine jb (Kr rfl) ?_;refine aq (nt (sr ?_));refine mq ?_;refine jb (Ar rfl) ?_;refine aq (nt (sr ?_));iterate 2 refine mq ?_
  refine aA rfl (t7 rfl (by decide)) ⟨rfl,rfl,trivial⟩ ?_;refine jb (Kr rfl) ?_;refine aA rfl (t7 rfl (by decide)) ⟨rfl,rfl,trivial⟩ ?_;refine aq (nt (aB ?_));cases h;exact aJ () [_] 1 ⟨rfl,trivial⟩ rfl
def fu(k:Nat)(a0:cJ)(a1:Int):Option (Int×cJ):=
 if a1 < 1 then(some (0,(a0.1,a0.2.1,a0.2.2))) else((ip k (a0.1,a0.2.1,a0.2.2)).bind fun r1=>
 (ck (a1+1)).bind fun x2=>
 (d3 ((IntKind.u64.wrap x2)≠0)).bind fun _=>
 (ck (Int.tmod r1.1 (IntKind.u64.wrap x2))).bind fun x4=>
 some (x4,(r1.2.1,r1.2.2.1,r1.2.2.2)))
theorem jv(k:Nat)(a0:cJ)(c:Nat)(a1:Int)(r:Int×cJ)(h:fu k a0 a1=some r):
 cd Tryz.prog 28 [Pt c,I a1] [.obj c 98 (.agg (.pair (Ri a0.1) (.pair (I a0.2.1) (.eq (.int .u64 a0.2.2)))))] (fun _:Unit=>(bv [I r.1],[.obj c 98 (.agg (.pair (Ri r.2.1) (.pair (I r.2.2.1) (.eq (.int .u64 r.2.2.2)))))])):=by
 unfold fu at h
 replace h:=ba h
 refine cd.of 14 Tryz.func28 rfl Tryz.ntmps28 rfl fun S w0=>?_
 refine sr ?_
 refine cq ?_
 refine nt ?_
 refine ah ?_
 refine sr ?_
 refine mq ?_
 refine jb (bz rfl) ?_
 refine nt ?_
 refine ci h (fun h=>?_) (fun h=>?_)
 ·
  refine sr (cq (nt (rx ?_)));cases h;exact aJ () [_] 1 ⟨rfl,trivial⟩ rfl
 ·
  refine sk (sr (mq ?_));obtain⟨r1,n,h⟩:=ab h;refine ka (ar [.tmp 7] rfl rfl QI rfl (sw k (a0.1,a0.2.1,a0.2.2) c r1 n)) ?_;refine mq ?_;obtain⟨x2,j,h⟩:=ab h;refine jb (bh rfl j) ?_;refine ja (nP rfl U3 P6) ?_;obtain⟨u3,l,h⟩:=ab h;refine jb (NP rfl (aC l)) ?_;obtain⟨x4,e,h⟩:=ab h;refine ja (yu rfl P6 U3 e) ?_;refine aq (nt (aB ?_));cases h;exact aJ () [_] 1 ⟨rfl,trivial⟩ rfl
def eA(k:Nat)(a0:cJ)(a1:Int)(a2:Int):Option (Int×cJ):=
 (ck (a2 - a1)).bind fun x1=>
 (fu k (a0.1,a0.2.1,a0.2.2) x1).bind fun r2=>
 (ck (a1+r2.1)).bind fun x3=>
 some (x3,(r2.2.1,r2.2.2.1,r2.2.2.2))
theorem lb(k:Nat)(a0:cJ)(c:Nat)(a1:Int)(a2:Int)(r:Int×cJ)(h:eA k a0 a1 a2=some r):
 cd Tryz.prog 51 [Pt c,I a1,I a2] [.obj c 98 (.agg (.pair (Ri a0.1) (.pair (I a0.2.1) (.eq (.int .u64 a0.2.2)))))] (fun _:Unit=>(bv [I r.1],[.obj c 98 (.agg (.pair (Ri r.2.1) (.pair (I r.2.2.1) (.eq (.int .u64 r.2.2.2)))))])):=by
 unfold eA at h
 replace h:=ba h
 refine cd.of 14 Tryz.func51 rfl Tryz.ntmps51 rfl fun S w0=>?_
 refine sr ?_
 refine cq ?_
 refine nt ?_
 refine sr ?_
 iterate 4 refine mq ?_
 obtain⟨x1,j,h⟩:=ab h
 refine jb (gC rfl j) ?_
 obtain⟨r2,l,h⟩:=ab h
 have n:=jv k (a0.1,a0.2.1,a0.2.2) c x1 r2 l
 refine kb (ar [.tmp 8,.tmp 11] rfl rfl L6 rfl n) ?_
 obtain⟨x3,e,h⟩:=ab h
 refine jb (bh rfl e) ?_
 refine aq ?_
 refine nt ?_
 refine aB ?_
 cases h
 exact aJ () [_] 1 ⟨rfl,trivial⟩ rfl
def iK(k:Nat)(a0:cJ)(a1:(List Int)):Option (Int×cJ):=
 (ck ((a1.length:Int) - 1)).bind fun x1=>
 (fu k (a0.1,a0.2.1,a0.2.2) x1).bind fun r2=>
 (a9 a1 r2.1).bind fun x3=>
 some (x3,(r2.2.1,r2.2.2.1,r2.2.2.2))
theorem nY(k:Nat)(a0:cJ)(c:Nat)(a1:(List Int))(r:Int×cJ)(h:iK k a0 a1=some r):
 cd Tryz.prog 112 [Pt c,Ri a1] [.obj c 98 (.agg (.pair (Ri a0.1) (.pair (I a0.2.1) (.eq (.int .u64 a0.2.2)))))] (fun _:Unit=>(bv [I r.1],[.obj c 98 (.agg (.pair (Ri r.2.1) (.pair (I r.2.2.1) (.eq (.int .u64 r.2.2.2)))))])):=by
 unfold iK at h
 replace h:=ba h
 refine cd.of 13 Tryz.func112 rfl Tryz.ntmps112 rfl fun S w0=>?_
 refine sr ?_
 refine cq ?_
 refine nt ?_
 refine sr ?_
 iterate 3 refine mq ?_
 refine ol fY ?_
 obtain⟨x1,j,h⟩:=ab h
 refine jb (gC rfl j) ?_
 obtain⟨r2,l,h⟩:=ab h
 have n:=jv k (a0.1,a0.2.1,a0.2.2) c x1 r2 l
 refine kb (ar [.tmp 6,.tmp 9] rfl rfl L6 rfl n) ?_
 obtain⟨x3,e,h⟩:=ab h
 refine jb (aL (t:=(.int .i64)) rfl fY dw e) ?_
 refine ja (ao (t:=(.int .i64)) rfl dw rfl) ?_
 refine aq ?_
 refine nt ?_
 refine aB ?_
 cases h
 exact aJ () [_] 1 ⟨rfl,trivial⟩ rfl
def fw(k:Nat)(a0:cJ)(a1:Int):Option (Bool×cJ):=
 (ck (a1 - 1)).bind fun x1=>
 (fu k (a0.1,a0.2.1,a0.2.2) x1).bind fun r2=>
 some (decide (r2.1=0),(r2.2.1,r2.2.2.1,r2.2.2.2))
theorem mF(k:Nat)(a0:cJ)(c:Nat)(a1:Int)(r:Bool×cJ)(h:fw k a0 a1=some r):
 cd Tryz.prog 113 [Pt c,I a1] [.obj c 98 (.agg (.pair (Ri a0.1) (.pair (I a0.2.1) (.eq (.int .u64 a0.2.2)))))] (fun _:Unit=>(bv [.eq (.bool r.1)],[.obj c 98 (.agg (.pair (Ri r.2.1) (.pair (I r.2.2.1) (.eq (.int .u64 r.2.2.2)))))])):=by
 unfold fw at h
 replace h:=ba h
 refine cd.of 10 Tryz.func113 rfl Tryz.ntmps113 rfl fun S w0=>?_
 refine sr ?_
 refine cq ?_
 refine nt ?_
 refine sr ?_
 iterate 2 refine mq ?_
 obtain⟨x1,e,h⟩:=ab h
 refine jb (gC rfl e) ?_
 obtain⟨r2,j,h⟩:=ab h
 have l:=jv k (a0.1,a0.2.1,a0.2.2) c x1 r2 j
 refine kb (ar [.tmp 5,.tmp 7] rfl rfl L6 rfl l) ?_
 refine jb (de rfl) ?_
 refine aq ?_
 refine nt ?_
 refine aB ?_
 cases h
 exact aJ () [_] 1 ⟨rfl,trivial⟩ rfl
def ek(k:Nat)(r2:Int×cJ):Nat→((List Int)×Int×Int×(List Int)×Int)→Option ((List Int)×Int×Int×(List Int))
 |0,_=>none
 |n+1,c=>
  if c.2.2.2.2 < r2.1 then((((fw k (c.1,c.2.1,c.2.2.1) 2).bind fun e=>
  if e.1=true then((d3 (bV (List.length c.2.2.2.1+List.length [c.2.2.2.2]))).bind fun _=>
  some (e.2.1,e.2.2.1,e.2.2.2,c.2.2.2.1++[c.2.2.2.2])) else(some (e.2.1,e.2.2.1,e.2.2.2,c.2.2.2.1))):Option ((List Int)×Int×Int×(List Int))).bind fun h=>
  (ck (c.2.2.2.2+1)).bind fun j=>
  ek k r2 n (h.1,h.2.1,h.2.2.1,h.2.2.2,j)) else(some (c.1,c.2.1,c.2.2.1,c.2.2.2.1))
def eu(k:Nat)(r2:Int×cJ):Nat→((List Int)×Int×Int×(List lQ)×Int×Int)→Option ((List Int)×Int×Int×(List lQ)×Int)
 |0,_=>none
 |n+1,y7=>
  if 0 < y7.2.2.2.2.2 then((((iK k (y7.1,y7.2.1,y7.2.2.1) [1,1,1,2,3]).bind fun c=>
  ((ek k r2 k (c.2.1,c.2.2.1,c.2.2.2,([]:(List Int)),0)):Option ((List Int)×Int×Int×(List Int))).bind fun e=>
  (d3 (bV (List.length y7.2.2.2.1+List.length [(c.1,e.2.2.2)]))).bind fun _=>
  (ck (y7.2.2.2.2.1+c.1)).bind fun j=>
  some (e.1,e.2.1,e.2.2.1,y7.2.2.2.1++[(c.1,e.2.2.2)],j)):Option ((List Int)×Int×Int×(List lQ)×Int)).bind fun x9=>
  (ck (y7.2.2.2.2.2 - 1)).bind fun h=>
  eu k r2 n (x9.1,x9.2.1,x9.2.2.1,x9.2.2.2.1,x9.2.2.2.2,h)) else(some (y7.1,y7.2.1,y7.2.2.1,y7.2.2.2.1,y7.2.2.2.2.1))
def eh(k:Nat)(x4:(List Int)×Int×Int×(List lQ)×Int):Nat→((List Int)×Int×Int×(List Int)×Int)→Option ((List Int)×Int×Int×(List Int))
 |0,_=>none
 |n+1,c=>
  if 0 < c.2.2.2.2 then((ck (x4.2.2.2.2+1)).bind fun j=>
  (iK k (c.1,c.2.1,c.2.2.1) [1,2,3,px 9 x4.2.2.2.2,px 9 j]).bind fun e=>
  (d3 (bV (List.length c.2.2.2.1+List.length [e.1]))).bind fun _=>
  (ck (c.2.2.2.2 - 1)).bind fun h=>
  eh k x4 n (e.2.1,e.2.2.1,e.2.2.2,c.2.2.2.1++[e.1],h)) else(some (c.1,c.2.1,c.2.2.1,c.2.2.2.1))
def jt(k:Nat)(a0:cJ)(a1:Int)(a2:Int):Option (bR×cJ):=
 (eA k (a0.1,a0.2.1,a0.2.2) 1 4).bind fun r2=>
 (((eA k (r2.2.1,r2.2.2.1,r2.2.2.2) 0 a1).bind fun r6=>
 eu k r2 k (r6.2.1,r6.2.2.1,r6.2.2.2,([]:(List lQ)),0,r6.1)):Option ((List Int)×Int×Int×(List lQ)×Int)).bind fun x4=>
 (((eA k (x4.1,x4.2.1,x4.2.2.1) 1 a2).bind fun j=>
 eh k x4 k (j.2.1,j.2.2.1,j.2.2.2,([]:(List Int)),j.1)):Option ((List Int)×Int×Int×(List Int))).bind fun e=>
 (((fw k (e.1,e.2.1,e.2.2.1) 2).bind fun c=>
 if c.1=true then((a9 e.2.2.2 0).bind fun l=>
 some (List.set e.2.2.2 (Int.toNat 0) (px 9 x4.2.2.2.2),c.2.1,c.2.2.1,c.2.2.2)) else(some (e.2.2.2,c.2.1,c.2.2.1,c.2.2.2))):Option ((List Int)×(List Int)×Int×Int)).bind fun h=>
 some ((r2.1,x4.2.2.2.1,h.1),(h.2.1,h.2.2.1,h.2.2.2))
theorem vc(k:Nat)(a0:cJ)(c:Nat)(a1:Int)(a2:Int)(r:bR×cJ)(h:jt k a0 a1 a2=some r):
 cd Tryz.prog 49 [Pt c,I a1,I a2] [.obj c 98 (.agg (.pair (Ri a0.1) (.pair (I a0.2.1) (.eq (.int .u64 a0.2.2)))))] (fun _:Unit=>(bv [.rep aI r.1],[.obj c 98 (.agg (.pair (Ri r.2.1) (.pair (I r.2.2.1) (.eq (.int .u64 r.2.2.2)))))])):=by
 unfold jt at h
 replace h:=ba h
 refine cd.of 79 Tryz.func49 rfl Tryz.ntmps49 rfl fun S w0=>?_
 refine sr ?_
 refine aD rfl rfl rfl (bF rfl CO Jy) trivial fun b1=>?_
 refine nt ?_
 refine sr ?_
 refine mq ?_
 obtain⟨r2,Ss,h⟩:=ab h
 have Su:=lb k (a0.1,a0.2.1,a0.2.2) c 1 4 r2 Ss
 refine fr 1 ?_
 refine kc (ar [.tmp 13,.const (.int .i64 (1)),.const (.int .i64 (4))] rfl rfl L1 rfl Su) ?_
 refine ja (dr [(0,.tmp 14,_)] rfl NJ CO KL (iS ⟨rfl,trivial⟩) rfl) ?_
 refine aD rfl rfl rfl (bF rfl CO Jy) trivial fun b3=>?_
 refine a8 rfl rfl (aW rfl jk trivial rfl rfl) ⟨rfl,rfl,trivial⟩ ?_
 refine nt ?_
 refine sr ?_
 refine cq ?_
 refine nt ?_
 refine aK (Z:=Value) (α:=(List Int)×Int×Int×(List lQ)×Int) (fun z5 x4=>[(0,Pt c),(2,I a2),(6,Pt b1),(7,Pt b3),(8,I x4.2.2.2.2)]) (fun z5 x4=>[.obj c 98 (.agg (.pair (Ri x4.1) (.pair (I x4.2.1) (.eq (.int .u64 x4.2.2.1))))),.obj b1 25 (.agg (.pair (I 0) (.pair (.eq (.slice none 0 0)) (.eq (.slice none 0 0))))),.obj b3 25 (.agg (.pair (I r2.1) (.pair (.eq z5) (.eq (.slice none 0 0))))),.sl z5 27 c9 x4.2.2.2.1]) h (fun K h=>?_) (fun z5 x4 h=>?_)
 ·
  refine sr ?_;iterate 2 refine mq ?_
  obtain⟨r6,Sr,h⟩:=ab h;refine fr 1 ?_;refine kc (ar [.tmp 16,.const (.int .i64 (0)),.tmp 17] rfl rfl L1 rfl (lb k (r2.2.1,r2.2.2.1,r2.2.2.2) c 0 a1 r6 Sr)) ?_;refine aq (nt (aj ?_));refine fP (SE.nil 27 c9) ?_;refine aH (fun z8 y7=>[(0,Pt c),(2,I a2),(6,Pt b1),(7,Pt b3),(8,I y7.2.2.2.2.1),(9,I y7.2.2.2.2.2)]) (fun z8 y7=>[.obj c 98 (.agg (.pair (Ri y7.1) (.pair (I y7.2.1) (.eq (.int .u64 y7.2.2.1))))),.obj b1 25 (.agg (.pair (I 0) (.pair (.eq (.slice none 0 0)) (.eq (.slice none 0 0))))),.obj b3 25 (.agg (.pair (I r2.1) (.pair (.eq z8) (.eq (.slice none 0 0))))),.sl z8 27 c9 y7.2.2.2.1]) (eu k r2) k (.slice none 0 0) (r6.2.1,r6.2.2.1,r6.2.2.2,([]:(List lQ)),0,r6.1) (fun _=>rfl) h (SE.fin [1,3,2,0] ⟨rfl,rfl,rfl,rfl,rfl,rfl,trivial⟩ rfl) (fun n z8 y7 h=>?_);unfold eu at h;refine ah (sr (mq ?_));refine jb (mC rfl) ?_;refine nt (ci h (fun h=>?_) (fun h=>?_))
  ·refine sk (aK (Z:=Value) (α:=(List Int)×Int×Int×(List lQ)×Int) (fun X x9=>[(0,Pt c),(2,I a2),(6,Pt b1),(7,Pt b3),(8,I x9.2.2.2.2),(9,I y7.2.2.2.2.2)]) (fun X x9=>[.obj c 98 (.agg (.pair (Ri x9.1) (.pair (I x9.2.1) (.eq (.int .u64 x9.2.2.1))))),.obj b1 25 (.agg (.pair (I 0) (.pair (.eq (.slice none 0 0)) (.eq (.slice none 0 0))))),.obj b3 25 (.agg (.pair (I r2.1) (.pair (.eq X) (.eq (.slice none 0 0))))),.sl X 27 c9 x9.2.2.2.1]) h (fun K h=>?_) (fun X x9 h=>?_))
   ·refine aj (sr (mq ?_));refine aA rfl (bu (t:=(.int .i64)) [(.const (.int .i64 (1)),_),(.const (.int .i64 (1)),_),(.const (.int .i64 (1)),_),(.const (.int .i64 (2)),_),(.const (.int .i64 (3)),_)] [1,1,1,2,3] rfl rfl fp (.cons rfl .int (.cons rfl .int (.cons rfl .int (.cons rfl .int (.cons rfl .int .nil))))) rfl rfl) ⟨rfl,rfl,rfl,rfl,rfl,trivial⟩ ?_;obtain⟨s,RP,h⟩:=ab h;refine kb (ar [.tmp 23,.tmp 24] rfl rfl KG rfl (nY k (y7.1,y7.2.1,y7.2.2.1) c [1,1,1,2,3] s RP)) ?_;refine ja (dr [(0,.tmp 25,_)] rfl E2 wl zr (iS ⟨rfl,trivial⟩) rfl) ?_;refine aD rfl rfl rfl (bF rfl wl Jx) trivial fun M=>?_;refine a8 rfl rfl (aW rfl rP trivial rfl rfl) ⟨rfl,rfl,trivial⟩ ?_;refine nt (aK (Z:=Value) (α:=(List Int)×Int×Int×(List Int)) (fun ac j=>[(0,Pt c),(2,I a2),(6,Pt b1),(7,Pt b3),(8,I y7.2.2.2.2.1),(9,I y7.2.2.2.2.2),(10,Pt M)]) (fun ac j=>[.obj c 98 (.agg (.pair (Ri j.1) (.pair (I j.2.1) (.eq (.int .u64 j.2.2.1))))),.obj b1 25 (.agg (.pair (I 0) (.pair (.eq (.slice none 0 0)) (.eq (.slice none 0 0))))),.obj b3 25 (.agg (.pair (I r2.1) (.pair (.eq z8) (.eq (.slice none 0 0))))),.sl z8 27 c9 y7.2.2.2.1,.obj M 27 (.agg (.pair (I s.1) (.eq ac))),.sl ac 3 (.int .i64) j.2.2.2]) h (fun K h=>?_) (fun ac j h=>?_))
    ·refine sr (cq (nt (aj ?_)));refine fP (SE.nil 3 (.int .i64)) ?_;refine aH (fun Q e=>[(0,Pt c),(2,I a2),(6,Pt b1),(7,Pt b3),(8,I y7.2.2.2.2.1),(9,I y7.2.2.2.2.2),(10,Pt M),(11,I e.2.2.2.2)]) (fun Q e=>[.obj c 98 (.agg (.pair (Ri e.1) (.pair (I e.2.1) (.eq (.int .u64 e.2.2.1))))),.obj b1 25 (.agg (.pair (I 0) (.pair (.eq (.slice none 0 0)) (.eq (.slice none 0 0))))),.obj b3 25 (.agg (.pair (I r2.1) (.pair (.eq z8) (.eq (.slice none 0 0))))),.sl z8 27 c9 y7.2.2.2.1,.obj M 27 (.agg (.pair (I s.1) (.eq Q))),.sl Q 3 (.int .i64) e.2.2.2.1]) (ek k r2) k (.slice none 0 0) (s.2.1,s.2.2.1,s.2.2.2,([]:(List Int)),0) (fun _=>rfl) h (SE.fin [2,3,4,5,1,0] ⟨rfl,rfl,rfl,rfl,rfl,rfl,rfl,rfl,trivial⟩ rfl) (fun n Q e h=>?_);unfold ek at h;refine ah (sr (mq ?_));refine fl qf ?_;refine fr 2 ?_;refine lo dw ?_;refine jb (bz rfl) ?_;refine nt (ci h (fun h=>?_) (fun h=>?_))
     ·refine sk (aK (Z:=Value) (α:=(List Int)×Int×Int×(List Int)) (fun U x=>[(0,Pt c),(2,I a2),(6,Pt b1),(7,Pt b3),(8,I y7.2.2.2.2.1),(9,I y7.2.2.2.2.2),(10,Pt M),(11,I e.2.2.2.2)]) (fun U x=>[.obj c 98 (.agg (.pair (Ri x.1) (.pair (I x.2.1) (.eq (.int .u64 x.2.2.1))))),.obj b1 25 (.agg (.pair (I 0) (.pair (.eq (.slice none 0 0)) (.eq (.slice none 0 0))))),.obj b3 25 (.agg (.pair (I r2.1) (.pair (.eq z8) (.eq (.slice none 0 0))))),.sl z8 27 c9 y7.2.2.2.1,.obj M 27 (.agg (.pair (I s.1) (.eq U))),.sl U 3 (.int .i64) x.2.2.2]) h (fun K h=>?_) (fun U x h=>?_))
      ·refine aj (sr (mq ?_));obtain⟨J,RO,h⟩:=ab h;refine fr 1 ?_;refine kb (ar [.tmp 33,.const (.int .i64 (2))] rfl rfl KF rfl (mF k (e.1,e.2.1,e.2.2.1) c 2 J RO)) ?_;refine nt (cv h (fun h=>?_) (fun h=>?_))
       ·refine aa (fl ut ?_);refine fr 4 ?_;refine lo cp ?_;refine mq ?_;refine ja (bu (t:=(.int .i64)) [(.tmp 37,_)] [e.2.2.2.2] rfl rfl fp (.cons rfl .int .nil) rfl rfl) ?_;obtain⟨SO,RI,h⟩:=ab h;refine fr 5 ?_;refine dS rfl rfl rfl (ct rfl rfl fp (aC RI)) ⟨rfl,rfl,trivial⟩ fun RX=>?_;refine fl ut ?_;refine xy fun o22=>?_;refine fr 1 ?_;refine a8 rfl rfl (aW rfl cp o22 rfl rfl) ⟨rfl,rfl,trivial⟩ ?_;refine ak (bn ?_);exact jz (RX,(J.2.1,J.2.2.1,J.2.2.2,e.2.2.2.1++[e.2.2.2.2])) h [2,4,3,5,0,1]
       ·refine aO (bn ?_);exact jz (Q,(J.2.1,J.2.2.1,J.2.2.2,e.2.2.2.1)) h [0,2,1,3,4,5]
      ·refine aa (mq ?_);obtain⟨RU,RF,h⟩:=ab h;refine jb (bh rfl RF) ?_;refine aq (nl ?_);exact jz (U,(x.1,x.2.1,x.2.2.1,x.2.2.2,RU)) h [0,1,2,3,4,5]
     ·refine xa ?_;exact jz (Q,(e.1,e.2.1,e.2.2.1,e.2.2.2.1)) h [1,2,0,3,4,5]
    ·refine dV 4 rfl ?_;refine dV 5 rfl ?_;refine fP (qn (off:=1) [] trivial rfl rfl) ?_;refine mL ?_;refine be rfl rfl rfl (ax rfl i7) ⟨rfl,trivial⟩ ?_;refine il 3 rfl rfl rfl rfl (an rfl qE mN rfl) ⟨rfl,trivial⟩ ?_;refine il 0 rfl rfl rfl rfl (an rfl rP (zK) rfl) ⟨rfl,trivial⟩ ?_;refine be rfl rfl rfl (bu (t:=c9) [(.tmp 43,_)] [(s.1,j.2.2.2)] rfl rfl K1 (.cons trivial (.agg (.pair .int .rep)) .nil) rfl rfl) ⟨rfl,trivial⟩ ?_;obtain⟨SN,RH,h⟩:=ab h;refine zE 4 rfl (fun v=>[.sl v 27 c9 (y7.2.2.2.1++[(s.1,j.2.2.2)])]) (fun _=>rfl) rfl rfl rfl (ct rfl rfl K1 (aC RH)) ⟨rfl,rfl,trivial⟩ ?_;refine be rfl rfl rfl (aZ rfl) ⟨rfl,trivial⟩ ?_;refine be rfl rfl rfl (ax rfl xh) ⟨rfl,trivial⟩ ?_;refine il 0 rfl rfl rfl rfl (an rfl dw mN rfl) ⟨rfl,trivial⟩ ?_;obtain⟨RS,RE,h⟩:=ab h;refine be rfl rfl rfl (bh rfl RE) ⟨rfl,rfl,trivial⟩ ?_;refine be rfl rfl rfl (ax rfl i7) ⟨rfl,trivial⟩ ?_;refine sK 10 [true,true,true,true,true,false,false,false,false,true] [] [0] [.obj M 27 (.agg (.pair (I s.1) (Ri j.2.2.2)))] rfl (by kernel_rfl) (by kernel_rfl) (by kernel_rfl) eU (fun vs hv hB=>?_);obtain⟨w0,SK,rfl,Sm⟩:=av hv;obtain⟨w1,SJ,rfl,Sl⟩:=av Sm;obtain⟨w2,SI,rfl,Sj⟩:=av Sl;obtain⟨w3,SH,rfl,Si⟩:=av Sj;obtain⟨se,SG,rfl,R9⟩:=av Si;obtain⟨w5,SD,rfl,R7⟩:=av R9;obtain⟨w6,SC,rfl,R2⟩:=av R7;obtain⟨w7,SB,rfl,RZ⟩:=av R2;obtain⟨w8,SA,rfl,RY⟩:=av RZ;obtain⟨w9,Sv,rfl,Rz⟩:=av RY;obtain rfl:=oU Rz;refine⟨[0,1,2,3,4],[.obj c 98 (.agg (.pair (Ri j.1) (.pair (I j.2.1) (.eq (.int .u64 j.2.2.1))))),.obj b1 25 (.agg (.pair (I 0) (.pair (.eq (.slice none 0 0)) (.eq (.slice none 0 0))))),.obj b3 25 (.agg (.pair (I r2.1) (.pair (.eq z8) (.eq (.slice none 0 0))))),.sl se 27 c9 (y7.2.2.2.1++[(s.1,j.2.2.2)])],by kernel_rfl,by decide,?_⟩;refine oz 3 rfl ?_;refine HE fun o27=>?_;refine oz 3 rfl ?_;refine uJ rfl rfl (aW rfl qE o27 rfl rfl) ⟨rfl,rfl,trivial⟩ (by kernel_rfl) ?_;refine MU (by kernel_rfl) ?_;refine aq (ak (bn ?_));exact jz (se,(j.1,j.2.1,j.2.2.1,y7.2.2.2.1++[(s.1,j.2.2.2)],RS)) h [3,4,1,2]
   ·refine aa (mq ?_);obtain⟨RR,RD,h⟩:=ab h;refine jb (gC rfl RD) ?_;refine aq (nl ?_);exact jz (X,(x9.1,x9.2.1,x9.2.2.1,x9.2.2.2.1,x9.2.2.2.2,RR)) h [0,1,2,3]
  ·refine xa ?_;exact jz (z8,(y7.1,y7.2.1,y7.2.2.1,y7.2.2.2.1,y7.2.2.2.2.1)) h [0,1,2,3]
 ·
  refine aK (Z:=Value) (α:=(List Int)×Int×Int×(List Int)) (fun O u=>[(0,Pt c),(6,Pt b1),(7,Pt b3),(8,I x4.2.2.2.2)]) (fun O u=>[.obj c 98 (.agg (.pair (Ri u.1) (.pair (I u.2.1) (.eq (.int .u64 u.2.2.1))))),.obj b1 25 (.agg (.pair (I 0) (.pair (.eq (.slice none 0 0)) (.eq (.slice none 0 0))))),.obj b3 25 (.agg (.pair (I r2.1) (.pair (.eq z5) (.eq O)))),.sl z5 27 c9 x4.2.2.2.1,.sl O 3 (.int .i64) u.2.2.2]) h (fun K h=>?_) (fun O u h=>?_)
  ·refine sr ?_;iterate 2 refine mq ?_
   obtain⟨Y,RN,h⟩:=ab h;refine kc (ar [.tmp 51,.const (.int .i64 (1)),.tmp 52] rfl rfl L1 rfl (lb k (x4.1,x4.2.1,x4.2.2.1) c 1 a2 Y RN)) ?_;refine aq (nt (aj ?_));refine fP (SE.nil 3 (.int .i64)) ?_;refine aH (fun E l=>[(0,Pt c),(6,Pt b1),(7,Pt b3),(8,I x4.2.2.2.2),(12,I l.2.2.2.2)]) (fun E l=>[.obj c 98 (.agg (.pair (Ri l.1) (.pair (I l.2.1) (.eq (.int .u64 l.2.2.1))))),.obj b1 25 (.agg (.pair (I 0) (.pair (.eq (.slice none 0 0)) (.eq (.slice none 0 0))))),.obj b3 25 (.agg (.pair (I r2.1) (.pair (.eq z5) (.eq E)))),.sl z5 27 c9 x4.2.2.2.1,.sl E 3 (.int .i64) l.2.2.2.1]) (eh k x4) k (.slice none 0 0) (Y.2.1,Y.2.2.1,Y.2.2.2,([]:(List Int)),Y.1) (fun _=>rfl) h (SE.fin [1,2,3,4,0] ⟨rfl,rfl,rfl,rfl,rfl,trivial⟩ rfl) (fun n E l h=>?_);unfold eh at h;refine ah (sr (mq ?_));refine jb (mC rfl) ?_;refine nt (ci h (fun h=>?_) (fun h=>?_))
   ·refine sk (ah (aj (bZ ?_)));refine da (ax rfl iZ) ?_;refine ea 2 (an rfl cp mN rfl) ?_;refine dm ?_;refine dm ?_;refine db (Ff rfl rfl) ?_;refine dm ?_;obtain⟨qt,RB,h⟩:=ab h;refine db (bh rfl RB) ?_;refine db (Ff rfl rfl) ?_;refine di rfl rfl rfl (bu (t:=(.int .i64)) [(.const (.int .i64 (1)),_),(.const (.int .i64 (2)),_),(.const (.int .i64 (3)),_),(.tmp 62,_),(.tmp 65,_)] [1,2,3,px 9 x4.2.2.2.2,px 9 qt] rfl rfl fp (.cons rfl .int (.cons rfl .int (.cons rfl .int (.cons rfl .int (.cons rfl .int .nil))))) rfl rfl) ⟨rfl,rfl,rfl,rfl,rfl,trivial⟩ ?_;obtain⟨D,RL,h⟩:=ab h;refine JW 0 rfl rfl rfl rfl (ar [.tmp 60,.tmp 66] rfl rfl KG rfl (nY k (l.1,l.2.1,l.2.2.1) c [1,2,3,px 9 x4.2.2.2.2,px 9 qt] D RL)) ⟨rfl,rfl,trivial⟩ ?_;refine da (bu (t:=(.int .i64)) [(.tmp 67,_)] [D.1] rfl rfl fp (.cons rfl .int .nil) rfl rfl) ?_;refine JY (Δ':=[.obj b1 25 (.agg (.pair (I 0) (.pair (.eq (.slice none 0 0)) (.eq (.slice none 0 0))))),.obj b3 25 (.agg (.pair (I r2.1) (.pair (.eq z5) (.eq E)))),.sl z5 27 c9 x4.2.2.2.1,.sl E 3 (.int .i64) l.2.2.2.1,.obj c 98 (.agg (.pair (Ri D.2.1) (.pair (I D.2.2.1) (.eq (.int .u64 D.2.2.2)))))]) (by kernel_rfl) eU (by kernel_rfl) ?_;obtain⟨SL,RG,h⟩:=ab h;refine fr 3 ?_;refine dS rfl rfl rfl (ct rfl rfl fp (aC RG)) ⟨rfl,rfl,trivial⟩ fun RV=>?_;refine fl iZ ?_;refine xy fun o38=>?_;refine fr 2 ?_;refine a8 rfl rfl (aW rfl cp o38 rfl rfl) ⟨rfl,rfl,trivial⟩ ?_;refine ak (aG (tn (aa (mq ?_))));obtain⟨RQ,RA,h⟩:=ab h;refine jb (gC rfl RA) ?_;refine aq (nl ?_);exact jz (RV,(D.2.1,D.2.2.1,D.2.2.2,l.2.2.2.1++[D.1],RQ)) h [4,2,0,3,1]
   ·refine xa ?_;exact jz (E,(l.1,l.2.1,l.2.2.1,l.2.2.2.1)) h [0,1,2,3,4]
  ·refine aK (Z:=Unit) (α:=(List Int)×(List Int)×Int×Int) (fun pp y=>[(6,Pt b1),(7,Pt b3)]) (fun pp y=>[.obj b1 25 (.agg (.pair (I 0) (.pair (.eq (.slice none 0 0)) (.eq (.slice none 0 0))))),.obj b3 25 (.agg (.pair (I r2.1) (.pair (.eq z5) (.eq O)))),.sl z5 27 c9 x4.2.2.2.1,.sl O 3 (.int .i64) y.1,.obj c 98 (.agg (.pair (Ri y.2.1) (.pair (I y.2.2.1) (.eq (.int .u64 y.2.2.2)))))]) h (fun K h=>?_) (fun pp y h=>?_)
   ·refine sr (mq ?_);obtain⟨F,RJ,h⟩:=ab h;refine kb (ar [.tmp 71,.const (.int .i64 (2))] rfl rfl KF rfl (mF k (u.1,u.2.1,u.2.2.1) c 2 F RJ)) ?_;refine nt (cv h (fun h=>?_) (fun h=>?_))
    ·refine aa (fl iZ ?_);refine fr 2 ?_;refine lo cp ?_;refine mq ?_;refine jb (Ff rfl rfl) ?_;obtain⟨Sz,mc,h⟩:=ab h;refine fr 4 ?_;refine kb (cE (t:=(.int .i64)) rfl fY dw mc) ?_;refine a8 rfl rfl (fV (i:=Int.toNat 0) rfl dw rfl (lO mc) rfl .int rfl) ⟨rfl,rfl,trivial⟩ ?_;refine nl ?_;exact jz ((),(List.set u.2.2.2 (Int.toNat 0) (px 9 x4.2.2.2.2),F.2.1,F.2.2.1,F.2.2.2)) h [3,1,4,0,2]
    ·refine aO (ae ?_);exact jz ((),(u.2.2.2,F.2.1,F.2.2.1,F.2.2.2)) h [1,2,3,4,0]
   ·refine sr (fr 1 ?_);refine fr 2 ?_;refine co (qn (off:=1) [] trivial rfl rfl) ?_;refine fr 2 ?_;refine co (qn (off:=2) [] trivial rfl rfl) ?_;refine lo jk ?_;refine fr 1 ?_;refine a8 rfl rfl (aW rfl jk trivial rfl rfl) ⟨rfl,rfl,trivial⟩ ?_;refine nt (aB (bS (pg (a:=.agg (.pair (I r2.1) (.pair (Rs c9 x4.2.2.2.1) (Ri y.1)))) (a':=.rep aI (r2.1,x4.2.2.2.1,y.1)) (xG (.agg (.pair .int (.pair .rep .rep))))) ?_));refine bS (SE.fin (Γ':=[(6,_)]) [2,0,1] ⟨rfl,trivial⟩ rfl) ?_;cases h;exact aJ () [.rep aI (r2.1,x4.2.2.2.1,y.1)] 1 ⟨⟨_,_,_,_,_,rfl,(.tail _ (.head _)),jk,(zK),rfl⟩,trivial⟩ rfl
def oV(k:Nat)(a0:(List Int))(a1:Int):Nat→Int→Option (Except Int Unit)
 |0,_=>none
 |n+1,y3=>
  if y3 < (a0.length:Int) then((a9 a0 y3).bind fun x5=>
  if x5=a1 then(some (.error y3)) else((ck (y3+1)).bind fun x6=>
  oV k a0 a1 n x6)) else(some (.ok ()))
def AM(k:Nat)(a0:(List Int))(a1:Int):Option Int:=
 bE (α:=Unit) (oV k a0 a1 k 0) (some) fun _=>
 some (-1:Int)
theorem Dz(k:Nat)(a0:(List Int))(a1:Int)(r:Int)(h:AM k a0 a1=some r):
 cd Tryz.prog 45 [Ri a0,I a1] [] (fun _:Unit=>(bv [I r],[])):=by
 unfold AM at h
 replace h:=ba h
 refine cd.of 19 Tryz.func45 rfl Tryz.ntmps45 rfl fun S w0=>?_
 refine sr ?_
 refine cq ?_
 refine nt ?_
 refine fj (Z:=Unit) (α:=Unit) (fun z2 x1=>[]) (fun z2 x1=>[]) (fun e=>e=r) h (fun e h=>Option.some.inj h) (fun K hR h=>?_) (fun z2 x1 h=>?_)
 ·
  refine sr (cq (nt (aj ?_)));refine aH (fun z4 y3=>[(0,Ri a0),(1,I a1),(5,I y3)]) (fun z4 y3=>[]) (oV k a0 a1) k () 0 (fun _=>rfl) h (SE.fin [] ⟨rfl,rfl,rfl,trivial⟩ rfl) (fun n z4 y3 h=>?_);unfold oV at h;refine ah (sr ?_);iterate 2 refine mq ?_
  refine ol fY ?_;refine jb (bz rfl) ?_;refine nt (ci h (fun h=>?_) (fun h=>?_))
  ·refine sk (ah (aj (sr ?_)));iterate 2 refine mq ?_
   obtain⟨x5,j,h⟩:=ab h;refine jb (aL (t:=(.int .i64)) rfl fY dw j) ?_;refine ja (ao (t:=(.int .i64)) rfl dw rfl) ?_;refine mq ?_;refine jb (de rfl) ?_;refine nt (ci h (fun h=>?_) (fun h=>?_))
   ·refine sr (mq ?_);refine aq (nt (aB (br (bM (aX ?_)))));obtain rfl:=hR _ h;exact ra
   ·refine aO (aG (tn (aa (mq ?_))));obtain⟨x6,c,h⟩:=ab h;refine jb (bh rfl c) ?_;refine aq (nl ?_);exact jz ((),x6) h []
  ·refine xa ?_;exact jz ((),()) h []
 ·
  refine sr (cq (nt (aB ?_)));cases h;exact ra
def jJ(k:Nat)(a0:Int)(y3:Int×(List (List Int)))(y9:(List (List Int))×Int):Nat→((List (List Int))×Int)→Option (List (List Int))
 |0,_=>none
 |n+1,c=>
  if c.2 < a0 then((a9 y3.2 y9.2).bind fun j=>
  (m7 k j).bind fun e=>
  (d3 (bV (List.length e+List.length [c.2]))).bind fun _=>
  (d3 (bV (List.length c.1+List.length [e++[c.2]]))).bind fun _=>
  (ck (c.2+1)).bind fun h=>
  jJ k a0 y3 y9 n (c.1++[e++[c.2]],h)) else(some c.1)
def jK(k:Nat)(a0:Int)(y3:Int×(List (List Int))):Nat→((List (List Int))×Int)→Option (List (List Int))
 |0,_=>none
 |n+1,y9=>
  if y9.2 < (y3.2.length:Int) then(((jJ k a0 y3 y9 k (y9.1,0)):Option ((List (List Int)))).bind fun e=>
  (ck (y9.2+1)).bind fun c=>
  jK k a0 y3 n (e,c)) else(some y9.1)
def jL(k:Nat)(a0:Int):Nat→(Int×(List (List Int)))→Option (List (List Int))
 |0,_=>none
 |n+1,y3=>
  if 0 < y3.1 then(((((jK k a0 y3 k (([]:(List (List Int))),0)):Option ((List (List Int)))).bind fun x7=>
  some x7):Option ((List (List Int)))).bind fun x5=>
  (ck (y3.1 - 1)).bind fun c=>
  jL k a0 n (c,x5)) else(some y3.2)
def jr(k:Nat)(a0:Int)(a1:Int):Option (List (List Int)):=
 ((jL k a0 k (a1,[[]])):Option ((List (List Int)))).bind fun x1=>
 some x1
theorem pD(k:Nat)(a0:Int)(a1:Int)(r:(List (List Int)))(h:jr k a0 a1=some r):
 cd Tryz.prog 61 [I a0,I a1] [] (fun _:Unit=>(bv [.rep (.slice (.slice (.int .i64))) r],[])):=by
 unfold jr at h
 replace h:=ba h
 refine cd.of 38 Tryz.func61 rfl Tryz.ntmps61 rfl fun S w0=>?_
 refine sr ?_
 refine cq ?_
 refine nt ?_
 refine sr ?_
 refine ja (bu (t:=(.slice (.int .i64))) [(.const (.slice none 0 0),_)] [[]] rfl rfl pr (.cons rfl .nil .nil) rfl rfl) ?_
 refine aq ?_
 refine nt ?_
 refine aK (Z:=Unit) (α:=(List (List Int))) (fun z2 x1=>[(5,.rep (.slice (.slice (.int .i64))) x1)]) (fun z2 x1=>[]) h (fun K h=>?_) (fun z2 x1 h=>?_)
 ·
  refine aj (aH (fun z4 y3=>[(0,I a0),(1,I y3.1),(5,.rep (.slice (.slice (.int .i64))) y3.2)]) (fun z4 y3=>[]) (jL k a0) k () (a1,[[]]) (fun _=>rfl) h (SE.fin [] ⟨rfl,rfl,rfl,trivial⟩ rfl) (fun n z4 y3 h=>?_));unfold jL at h;refine ah (sr (mq ?_));refine jb (mC rfl) ?_;refine nt (ci h (fun h=>?_) (fun h=>?_))
  ·refine sk (aK (Z:=Value) (α:=(List (List Int))) (fun z6 x5=>[(0,I a0),(1,I y3.1),(5,.eq z6)]) (fun z6 x5=>[.sl z6 23 (.slice (.int .i64)) x5]) h (fun K h=>?_) (fun z6 x5 h=>?_))
   ·refine aj (sr (cq (nt ?_)));refine aK (Z:=Value) (α:=(List (List Int))) (fun z8 x7=>[(0,I a0),(1,I y3.1),(6,.eq z8)]) (fun z8 x7=>[.sl z8 23 (.slice (.int .i64)) x7]) h (fun K h=>?_) (fun z8 x7 h=>?_)
    ·refine sr (cq (nt (aj ?_)));refine fP (SE.nil 23 (.slice (.int .i64))) ?_;refine aH (fun e y9=>[(0,I a0),(1,I y3.1),(5,.rep (.slice (.slice (.int .i64))) y3.2),(6,.eq e),(7,I y9.2)]) (fun e y9=>[.sl e 23 (.slice (.int .i64)) y9.1]) (jK k a0 y3) k (.slice none 0 0) (([]:(List (List Int))),0) (fun _=>rfl) h (SE.fin [0] ⟨rfl,rfl,rfl,rfl,rfl,trivial⟩ rfl) (fun n e y9 h=>?_);unfold jK at h;refine ah (sr ?_);iterate 2 refine mq ?_
     refine ol lj ?_;refine jb (bz rfl) ?_;refine nt (ci h (fun h=>?_) (fun h=>?_))
     ·refine sk (aK (Z:=Value) (α:=(List (List Int))) (fun l s=>[(0,I a0),(1,I y3.1),(5,.rep (.slice (.slice (.int .i64))) y3.2),(6,.eq l),(7,I y9.2)]) (fun l s=>[.sl l 23 (.slice (.int .i64)) s]) h (fun K h=>?_) (fun l s h=>?_))
      ·refine aj (sr (cq (nt (aj ?_))));refine aH (fun j c=>[(0,I a0),(1,I y3.1),(5,.rep (.slice (.slice (.int .i64))) y3.2),(6,.eq j),(7,I y9.2),(8,I c.2)]) (fun j c=>[.sl j 23 (.slice (.int .i64)) c.1]) (jJ k a0 y3 y9) k e (y9.1,0) (fun _=>rfl) h (SE.fin [0] ⟨rfl,rfl,rfl,rfl,rfl,rfl,trivial⟩ rfl) (fun n j c h=>?_);unfold jJ at h;refine ah (sr ?_);iterate 2 refine mq ?_
       refine jb (bz rfl) ?_;refine nt (ci h (fun h=>?_) (fun h=>?_))
       ·refine sk (ah (aj (aa ?_)));iterate 3 refine mq ?_
        obtain⟨X,E,h⟩:=ab h;refine jb (aL (t:=(.slice (.int .i64))) rfl lj cp E) ?_;refine ja (ao (t:=(.slice (.int .i64))) rfl cp rfl) ?_;obtain⟨u,M,h⟩:=ab h;refine aD rfl rfl rfl (ar [.tmp 29] rfl rfl QO rfl (ta k X u M)) ⟨rfl,trivial⟩ fun mc=>?_;refine mq ?_;refine ja (bu (t:=(.int .i64)) [(.tmp 31,_)] [c.2] rfl rfl fp (.cons rfl .int .nil) rfl rfl) ?_;obtain⟨qt,J,h⟩:=ab h;refine dS rfl rfl rfl (ct rfl rfl fp (aC J)) ⟨rfl,rfl,trivial⟩ fun ac=>?_;refine co (fM [33] ⟨rfl,trivial⟩) ?_;refine ja (bu (t:=(.slice (.int .i64))) [(.tmp 33,_)] [u++[c.2]] rfl rfl pr (.cons rfl .rep .nil) rfl rfl) ?_;obtain⟨pp,F,h⟩:=ab h;refine dS rfl rfl rfl (ct rfl rfl pr (aC F)) ⟨rfl,rfl,trivial⟩ fun Y=>?_;refine aq (ak (aG (tn (aa ?_))));refine mq ?_;obtain⟨U,D,h⟩:=ab h;refine jb (bh rfl D) ?_;refine aq (nl ?_);exact jz (Y,(c.1++[u++[c.2]],U)) h [0]
       ·refine dD (aN (aN (bU (bn ?_))));exact jz (j,c.1) h [0]
      ·refine aa (mq ?_);obtain⟨Q,y,h⟩:=ab h;refine jb (bh rfl y) ?_;refine aq (nl ?_);exact jz (l,(s,Q)) h [0]
     ·refine xa ?_;exact jz (e,y9.1) h [0]
    ·refine aa (mq ?_);refine aq (ak (bn ?_));exact jz (z8,x7) h [0]
   ·refine aa (mq ?_);obtain⟨O,x,h⟩:=ab h;refine jb (gC rfl x) ?_;refine aq (nl ?_);refine bS (fM [5] ⟨rfl,trivial⟩) ?_;exact jz ((),(O,x5)) h []
  ·refine xa ?_;exact jz ((),y3.2) h []
 ·
  refine sr (mq ?_);refine aq (nt (aB ?_));cases h;exact ra
def lK(k:Nat)(a0:Int)(r1:(List (List Int)))(y4:(List (List Int))×Int):Nat→(Bool×Int)→Option Bool
 |0,_=>none
 |n+1,c=>
  if c.2 < a0 then(((if c.1=true then((a9 r1 y4.2).bind fun h=>
  (AM k h c.2).bind fun l=>
  some (decide (0≤l))) else(some false)):Option (Bool)).bind fun j=>
  (ck (c.2+1)).bind fun e=>
  lK k a0 r1 y4 n (j,e)) else(some c.1)
def lL(k:Nat)(a0:Int)(r1:(List (List Int))):Nat→((List (List Int))×Int)→Option (List (List Int))
 |0,_=>none
 |n+1,y4=>
  if y4.2 < (r1.length:Int) then(((((lK k a0 r1 y4 k (true,0)):Option (Bool)).bind fun x8=>
  if x8=true then((a9 r1 y4.2).bind fun c=>
  (d3 (bV (List.length y4.1+List.length [c]))).bind fun _=>
  some (y4.1++[c])) else(some y4.1)):Option ((List (List Int)))).bind fun x6=>
  (ck (y4.2+1)).bind fun e=>
  lL k a0 r1 n (x6,e)) else(some y4.1)
def nX(k:Nat)(a0:Int):Option (List (List Int)):=
 (jr k a0 a0).bind fun r1=>
 ((lL k a0 r1 k (([]:(List (List Int))),0)):Option ((List (List Int)))).bind fun x2=>
 some x2
theorem yS(k:Nat)(a0:Int)(r:(List (List Int)))(h:nX k a0=some r):
 cd Tryz.prog 60 [I a0] [] (fun _:Unit=>(bv [.rep (.slice (.slice (.int .i64))) r],[])):=by
 unfold nX at h
 replace h:=ba h
 refine cd.of 41 Tryz.func60 rfl Tryz.ntmps60 rfl fun S w0=>?_
 refine sr ?_
 refine cq ?_
 refine nt ?_
 refine sr ?_
 refine cq ?_
 refine nt ?_
 refine sr ?_
 iterate 2 refine mq ?_
 obtain⟨r1,Y,h⟩:=ab h
 have ac:=pD k a0 a0 r1 Y
 refine jb (ar [.tmp 8,.tmp 9] rfl rfl OO rfl ac) ?_
 refine aq ?_
 refine nt ?_
 refine aK (Z:=Value) (α:=(List (List Int))) (fun z3 x2=>[(3,.eq z3)]) (fun z3 x2=>[.sl z3 23 (.slice (.int .i64)) x2]) h (fun K h=>?_) (fun z3 x2 h=>?_)
 ·
  refine sr (cq (nt (aj ?_)));refine fP (SE.nil 23 (.slice (.int .i64))) ?_;refine aH (fun z5 y4=>[(0,I a0),(3,.eq z5),(4,.rep (.slice (.slice (.int .i64))) r1),(5,I y4.2)]) (fun z5 y4=>[.sl z5 23 (.slice (.int .i64)) y4.1]) (lL k a0 r1) k (.slice none 0 0) (([]:(List (List Int))),0) (fun _=>rfl) h (SE.fin [0] ⟨rfl,rfl,rfl,rfl,trivial⟩ rfl) (fun n z5 y4 h=>?_);unfold lL at h;refine ah (sr ?_);iterate 2 refine mq ?_
  refine ol lj ?_;refine jb (bz rfl) ?_;refine nt (ci h (fun h=>?_) (fun h=>?_))
  ·refine sk (aK (Z:=Value) (α:=(List (List Int))) (fun z7 x6=>[(0,I a0),(3,.eq z7),(4,.rep (.slice (.slice (.int .i64))) r1),(5,I y4.2)]) (fun z7 x6=>[.sl z7 23 (.slice (.int .i64)) x6]) h (fun K h=>?_) (fun z7 x6 h=>?_))
   ·refine aj (sr (cq (nt ?_)));refine aK (Z:=Unit) (α:=Bool) (fun z9 x8=>[(0,I a0),(3,.eq z5),(4,.rep (.slice (.slice (.int .i64))) r1),(5,I y4.2),(6,.eq (.bool x8))]) (fun z9 x8=>[.sl z5 23 (.slice (.int .i64)) y4.1]) h (fun K h=>?_) (fun z9 x8 h=>?_)
    ·refine sr (cq (nt (aj ?_)));refine aH (fun l c=>[(0,I a0),(3,.eq z5),(4,.rep (.slice (.slice (.int .i64))) r1),(5,I y4.2),(6,.eq (.bool c.1)),(7,I c.2)]) (fun l c=>[.sl z5 23 (.slice (.int .i64)) y4.1]) (lK k a0 r1 y4) k () (true,0) (fun _=>rfl) h (SE.fin [0] ⟨rfl,rfl,rfl,rfl,rfl,rfl,trivial⟩ rfl) (fun n l c h=>?_);unfold lK at h;refine ah (sr ?_);iterate 2 refine mq ?_
     refine jb (bz rfl) ?_;refine nt (ci h (fun h=>?_) (fun h=>?_))
     ·refine sk (aK (Z:=Unit) (α:=Bool) (fun j e=>[(0,I a0),(3,.eq z5),(4,.rep (.slice (.slice (.int .i64))) r1),(5,I y4.2),(6,.eq (.bool e)),(7,I c.2)]) (fun j e=>[.sl z5 23 (.slice (.int .i64)) y4.1]) h (fun K h=>?_) (fun j e h=>?_))
      ·refine aj (aa ?_);iterate 2 refine mq ?_
       refine bG (s:=23) rfl (fun hb=>?_) (fun hb=>?_)
       ·replace h:=cm (zS hb) h;refine gm ?_;refine gm ?_;obtain⟨U,F,h⟩:=ab h;refine gb (aL (t:=(.slice (.int .i64))) rfl lj cp F) ?_;refine ga (ao (t:=(.slice (.int .i64))) rfl cp rfl) ?_;refine gm ?_;obtain⟨x,M,h⟩:=ab h;refine gb (ar [.tmp 27,.tmp 28] rfl rfl QQ rfl (Dz k U c.2 x M)) ?_;refine gb (pA rfl) ?_;refine pt ?_;refine aq (ak (bn ?_));exact jz ((),decide (0≤x)) h [0]
       ·replace h:=bD (zT hb) h;iterate 7 refine gn ?_
        refine pf ?_;refine aq (ak (bn ?_));exact jz ((),false) h [0]
      ·refine aa (mq ?_);obtain⟨Q,E,h⟩:=ab h;refine jb (bh rfl E) ?_;refine aq (nl ?_);exact jz ((),(e,Q)) h [0]
     ·refine xa ?_;exact jz ((),c.1) h [0]
    ·refine sr (mq (nt ?_));refine cv h (fun h=>?_) (fun h=>?_)
     ·refine aa ?_;iterate 3 refine mq ?_
      obtain⟨u,D,h⟩:=ab h;refine jb (aL (t:=(.slice (.int .i64))) rfl lj cp D) ?_;refine ja (ao (t:=(.slice (.int .i64))) rfl cp rfl) ?_;refine ja (bu (t:=(.slice (.int .i64))) [(.tmp 37,_)] [u] rfl rfl pr (.cons rfl .rep .nil) rfl rfl) ?_;obtain⟨mc,J,h⟩:=ab h;refine dS rfl rfl rfl (ct rfl rfl pr (aC J)) ⟨rfl,rfl,trivial⟩ fun X=>?_;refine aq (ak (bn ?_));exact jz (X,y4.1++[u]) h [0]
     ·refine aO (bn ?_);exact jz (z5,y4.1) h [0]
   ·refine aa (mq ?_);obtain⟨O,y,h⟩:=ab h;refine jb (bh rfl y) ?_;refine aq (nl ?_);exact jz (z7,(x6,O)) h [0]
  ·refine xa ?_;exact jz (z5,y4.1) h [0]
 ·
  refine sr (mq ?_);refine aq (nt (aB ?_));refine bS (fM [2,3,40] ⟨rfl,rfl,rfl,trivial⟩) ?_;cases h;exact ra
def hC(k:Nat)(a0:(List Int))(a1:(List Int)):Nat→Int→Option (Except Bool Unit)
 |0,_=>none
 |n+1,y3=>
  ((if y3 < (a0.length:Int) then(some (decide (y3 < (a1.length:Int)))) else(some false)):Option (Bool)).bind fun x5=>
  if x5=true then((a9 a0 y3).bind fun x7=>
  (a9 a1 y3).bind fun x8=>
  if¬(x7=x8) then((a9 a0 y3).bind fun x9=>
  (a9 a1 y3).bind fun e=>
  some (.error (decide (x9 < e)))) else((ck (y3+1)).bind fun c=>
  hC k a0 a1 n c)) else(some (.ok ()))
def nZ(k:Nat)(a0:(List Int))(a1:(List Int)):Option Bool:=
 bE (α:=Unit) (hC k a0 a1 k 0) (some) fun _=>
 some (decide ((a0.length:Int) < (a1.length:Int)))
theorem yT(k:Nat)(a0:(List Int))(a1:(List Int))(r:Bool)(h:nZ k a0 a1=some r):
 cd Tryz.prog 118 [Ri a0,Ri a1] [] (fun _:Unit=>(bv [.eq (.bool r)],[])):=by
 unfold nZ at h
 replace h:=ba h
 refine cd.of 41 Tryz.func118 rfl Tryz.ntmps118 rfl fun S w0=>?_
 refine sr ?_
 refine cq ?_
 refine nt ?_
 refine fj (Z:=Unit) (α:=Unit) (fun z2 x1=>[(0,Ri a0),(1,Ri a1)]) (fun z2 x1=>[]) (fun e=>e=r) h (fun e h=>Option.some.inj h) (fun K hR h=>?_) (fun z2 x1 h=>?_)
 ·
  refine sr (cq (nt (aj ?_)));refine aH (fun z4 y3=>[(0,Ri a0),(1,Ri a1),(5,I y3)]) (fun z4 y3=>[]) (hC k a0 a1) k () 0 (fun _=>rfl) h (SE.fin [] ⟨rfl,rfl,rfl,trivial⟩ rfl) (fun n z4 y3 h=>?_);unfold hC at h;refine ah (aK (Z:=Unit) (α:=Bool) (fun z6 x5=>[(0,Ri a0),(1,Ri a1),(5,I y3),(15,.eq (.bool x5))]) (fun z6 x5=>[]) h (fun K h=>?_) (fun z6 x5 h=>?_))
  ·refine aa ?_;iterate 2 refine mq ?_
   refine ol fY ?_;refine jb (bz rfl) ?_;refine mq ?_;refine bG (s:=10) rfl (fun hb=>?_) (fun hb=>?_)
   ·replace h:=cm (l5 hb) h;refine gm ?_;refine gm ?_;refine ga (jg rfl rfl fY) ?_;refine gb (bz rfl) ?_;refine pt (nl ?_);exact jz ((),decide (y3 < (a1.length:Int))) h []
   ·replace h:=bD (lu hb) h;iterate 4 refine gn ?_
    refine pf (nl ?_);exact jz ((),false) h []
  ·refine cv h (fun h=>?_) (fun h=>?_)
   ·refine sk (ah (aj (ah (bZ ?_))));refine dm ?_;refine dm ?_;obtain⟨x7,y,h⟩:=ab h;refine db (aL (t:=(.int .i64)) rfl fY dw y) ?_;refine da (ao (t:=(.int .i64)) rfl dw rfl) ?_;refine dm ?_;refine dm ?_;obtain⟨x8,x,h⟩:=ab h;refine db (aL (t:=(.int .i64)) rfl fY dw x) ?_;refine da (ao (t:=(.int .i64)) rfl dw rfl) ?_;refine df eU ?_;refine jb (iH rfl) ?_;refine nt (cn h (fun h=>?_) (fun h=>?_))
    ·refine ah (bZ ?_);refine dm ?_;refine dm ?_;obtain⟨x9,u,h⟩:=ab h;refine db (aL (t:=(.int .i64)) rfl fY dw u) ?_;refine da (ao (t:=(.int .i64)) rfl dw rfl) ?_;refine dm ?_;refine dm ?_;obtain⟨D,j,h⟩:=ab h;refine db (aL (t:=(.int .i64)) rfl fY dw j) ?_;refine da (ao (t:=(.int .i64)) rfl dw rfl) ?_;refine df eU ?_;refine jb (bz rfl) ?_;refine aq (nt (aB (br (bM (aX ?_)))));obtain rfl:=hR _ h;exact ra
    ·refine aO (aG (tn (aa (mq ?_))));obtain⟨l,c,h⟩:=ab h;refine jb (bh rfl c) ?_;refine aq (nl ?_);exact jz ((),l) h []
   ·refine xa ?_;exact jz ((),()) h []
 ·
  refine sr (mq ?_);refine ol fY ?_;refine mq ?_;refine ol fY ?_;refine jb (bz rfl) ?_;refine aq (nt (aB ?_));cases h;exact ra
def eN(k:Nat)(a0:(List (List Int)))(a1:(List (List Int))):Nat→Int→Option (Except Bool Unit)
 |0,_=>none
 |n+1,y3=>
  if y3 < (a0.length:Int) then((a9 a0 y3).bind fun x5=>
  (a9 a1 y3).bind fun x6=>
  (dZ k x5 x6).bind fun r7=>
  if¬(r7=true) then((a9 a0 y3).bind fun x8=>
  (a9 a1 y3).bind fun x9=>
  (nZ k x8 x9).bind fun e=>
  some (.error e)) else((ck (y3+1)).bind fun c=>
  eN k a0 a1 n c)) else(some (.ok ()))
def fX(k:Nat)(a0:(List (List Int)))(a1:(List (List Int))):Option Bool:=
 bE (α:=Unit) (eN k a0 a1 k 0) (some) fun _=>
 some false
theorem ue(k:Nat)(a0:(List (List Int)))(a1:(List (List Int)))(r:Bool)(h:fX k a0 a1=some r):
 cd Tryz.prog 62 [.rep (.slice (.slice (.int .i64))) a0,.rep (.slice (.slice (.int .i64))) a1] [] (fun _:Unit=>(bv [.eq (.bool r)],[])):=by
 unfold fX at h
 replace h:=ba h
 refine cd.of 31 Tryz.func62 rfl Tryz.ntmps62 rfl fun S w0=>?_
 refine sr ?_
 refine cq ?_
 refine nt ?_
 refine fj (Z:=Unit) (α:=Unit) (fun z2 x1=>[]) (fun z2 x1=>[]) (fun e=>e=r) h (fun e h=>Option.some.inj h) (fun K hR h=>?_) (fun z2 x1 h=>?_)
 ·
  refine sr (cq (nt (aj ?_)));refine aH (fun z4 y3=>[(0,.rep (.slice (.slice (.int .i64))) a0),(1,.rep (.slice (.slice (.int .i64))) a1),(5,I y3)]) (fun z4 y3=>[]) (eN k a0 a1) k () 0 (fun _=>rfl) h (SE.fin [] ⟨rfl,rfl,rfl,trivial⟩ rfl) (fun n z4 y3 h=>?_);unfold eN at h;refine ah (sr ?_);iterate 2 refine mq ?_
  refine ol lj ?_;refine jb (bz rfl) ?_;refine nt (ci h (fun h=>?_) (fun h=>?_))
  ·refine sk (ah (aj (ah (bZ ?_))));refine dm ?_;refine dm ?_;obtain⟨x5,D,h⟩:=ab h;refine db (aL (t:=(.slice (.int .i64))) rfl lj cp D) ?_;refine da (ao (t:=(.slice (.int .i64))) rfl cp rfl) ?_;refine dm ?_;refine dm ?_;obtain⟨x6,y,h⟩:=ab h;refine db (aL (t:=(.slice (.int .i64))) rfl lj cp y) ?_;refine da (ao (t:=(.slice (.int .i64))) rfl cp rfl) ?_;refine df eU ?_;obtain⟨r7,E,h⟩:=ab h;refine jb (ar [.tmp 15,.tmp 19] rfl rfl Jg rfl (iz k x5 x6 r7 E)) ?_;refine ja (fW rfl) ?_;refine nt (cw h (fun h=>?_) (fun h=>?_))
   ·refine ah (bZ ?_);refine dm ?_;refine dm ?_;obtain⟨x8,x,h⟩:=ab h;refine db (aL (t:=(.slice (.int .i64))) rfl lj cp x) ?_;refine da (ao (t:=(.slice (.int .i64))) rfl cp rfl) ?_;refine dm ?_;refine dm ?_;obtain⟨x9,u,h⟩:=ab h;refine db (aL (t:=(.slice (.int .i64))) rfl lj cp u) ?_;refine da (ao (t:=(.slice (.int .i64))) rfl cp rfl) ?_;refine df eU ?_;obtain⟨s,j,h⟩:=ab h;refine jb (ar [.tmp 25,.tmp 29] rfl rfl Pi rfl (yT k x8 x9 s j)) ?_;refine aq (nt (aB (br (bM (aX ?_)))));obtain rfl:=hR _ h;exact ra
   ·refine aO (aG (tn (aa (mq ?_))));obtain⟨l,c,h⟩:=ab h;refine jb (bh rfl c) ?_;refine aq (nl ?_);exact jz ((),l) h []
  ·refine xa ?_;exact jz ((),()) h []
 ·
  refine sr (cq (nt (aB ?_)));cases h;exact ra
end Go.Proofs.YtcnpijmfgfnpiaaGreatDoor
