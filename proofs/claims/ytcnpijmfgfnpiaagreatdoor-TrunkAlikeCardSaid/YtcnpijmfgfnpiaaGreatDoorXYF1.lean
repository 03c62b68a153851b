import Derived.Test.YtcnpijmfgfnpiaaGreatDoorXYFacts
set_option linter.unusedSimpArgs false
set_option linter.unusedVariables false
set_option maxRecDepth 4000
set_option maxHeartbeats 1000000
namespace Go.Proofs.YtcnpijmfgfnpiaaGreatDoor
open K Go Go.Proofs
def dw(k:Nat)(a0:Int)(a1:Int)(a2:Int):Option Bool:=
 ((if a1≤a0 then(some (decide (a0≤a2))) else(some false)):Option (Bool)).bind fun x1=>
 some x1
theorem dB(k:Nat)(a0:Int)(a1:Int)(a2:Int)(r:Bool)(h:dw k a0 a1 a2=some r):
 bX Tryz.prog 83 [I a0,I a1,I a2] [] (fun _:Unit=>(bq [.eq (.bool r)],[])):=by
 unfold dw at h
 replace h:=a9 h
 refine bX.of 15 Tryz.func83 rfl Tryz.ntmps83 rfl fun S w0=>?_
 refine sr ?_
 refine cq ?_
 refine nt ?_
 refine aW (Z:=Unit) (α:=Bool) (fun z2 x1=>[(6,.eq (.bool x1))]) (fun z2 x1=>[]) h (fun K h=>?_) (fun z2 x1 h=>?_)
 ·
  refine ab ?_;iterate 2 refine mq ?_
  refine jb (tR rfl) ?_;refine mq ?_;refine bZ (s:=10) rfl (fun hb=>?_) (fun hb=>?_)
  ·replace h:=cM (nq hb) h;refine gm ?_;refine gm ?_;refine gb (tR rfl) ?_;refine pt ?_;refine aq (nl ?_);exact jz ((),decide (a0≤a2)) h []
  ·replace h:=bQ (m4 hb) h;iterate 3 refine gn ?_
   refine pf ?_;refine aq (nl ?_);exact jz ((),false) h []
 ·
  refine aA ?_;cases h;exact ra
def cK(k:Nat)(a0:bm)(a1:ic):Nat→Int→Option (Except Int Unit)
 |0,_=>none
 |n+1,y6=>
  if y6 < (a1.2.length:Int) then((a8 a1.2 y6).bind fun x8=>
  (ck (a0.1 - 1)).bind fun x9=>
  (dw k x8 0 x9).bind fun l=>
  if¬(l=true) then(some (.error 1)) else(((if 0 < y6 then((ck (y6 - 1)).bind fun h=>
  (a8 a1.2 h).bind fun e=>
  some (decide (x8≤e))) else(some false)):Option (Bool)).bind fun j=>
  if j=true then(some (.error 5)) else((ck (y6+1)).bind fun c=>
  cK k a0 a1 n c))) else(some (.ok ()))
def g7(k:Nat)(a0:bm)(a1:ic):Option Int:=
 (dw k a1.1 1 3).bind fun r3=>
 if¬(r3=true) then(some 1) else(bE (α:=Unit) (cK k a0 a1 k 0) (some) fun _=>
 some 0)
theorem qj(k:Nat)(a0:bm)(a1:ic)(r:Int)(h:g7 k a0 a1=some r):
 bX Tryz.prog 92 [.rep bb a0,.rep aY a1] [] (fun _:Unit=>(bq [I r],[])):=by
 unfold g7 at h
 replace h:=a9 h
 refine bX.of 38 Tryz.func92 rfl Tryz.ntmps92 rfl fun S w0=>?_
 refine sr ?_
 refine bx fun b1=>?_
 refine bx fun b2=>?_
 refine cq ?_
 refine nt ?_
 refine ah ?_
 refine sr ?_
 refine fl nZ ?_
 refine lo cR ?_
 obtain⟨r3,O,h⟩:=aa h
 have Q:=dB k a1.1 1 3 r3 O
 refine jc (ao [.tmp 8,.const (.int .i64 (1)),.const (.int .i64 (3))] rfl rfl wP rfl Q) ?_
 refine ja (eR rfl) ?_
 refine nt ?_
 refine cw h (fun h=>?_) (fun h=>?_)
 ·
  refine sr (cq (nt (rx ?_)));cases h;exact ra
 ·
  refine sk (eX (Z:=Unit) (α:=Unit) (fun z5 x4=>[]) (fun z5 x4=>[]) (fun e=>e=r) h (fun e h=>Option.some.inj h) (fun K hR h=>?_) (fun z5 x4 h=>?_))
  ·refine sr (fl nY ?_);refine lo cG ?_;refine ol eO ?_;refine eG rfl ?_;refine nt (aj (aJ (fun z7 y6=>[(2,Pt b1),(3,Pt b2),(12,Ri a1.2),(13,I (a1.2.length:Int)),(14,I y6)]) (fun z7 y6=>[.obj b1 25 (.rep bb a0),.obj b2 27 (.rep aY a1)]) (cK k a0 a1) k () 0 (fun _=>rfl) h (SE.fin [1,0] ⟨rfl,rfl,rfl,rfl,rfl,trivial⟩ rfl) (fun n z7 y6 h=>?_)));unfold cK at h;refine sr (jb (bH rfl) ?_);refine nt (ah (ci h (fun h=>?_) (fun h=>?_)))
   ·refine sk (ah (aj (sr (mq ?_))));obtain⟨x8,M,h⟩:=aa h;refine jb (aN (t:=(.int .i64)) rfl eO cR M) ?_;refine ja (ar (t:=(.int .i64)) rfl cR rfl) ?_;refine aq ?_;refine aq (nt (ah (sr ?_)));refine mq ?_;refine fl lg ?_;refine lo cR ?_;obtain⟨x9,J,h⟩:=aa h;refine jb (fH rfl J) ?_;obtain⟨F,y,h⟩:=aa h;refine jc (ao [.tmp 19,.const (.int .i64 (0)),.tmp 22] rfl rfl wP rfl (dB k x8 0 x9 F y)) ?_;refine ja (eR rfl) ?_;refine nt (cw h (fun h=>?_) (fun h=>?_))
    ·refine sr (cq (nt (rx (br (bf (aP ?_))))));obtain rfl:=hR _ h;exact ra
    ·refine sk (aW (Z:=Unit) (α:=Bool) (fun j c=>[(2,Pt b1),(3,Pt b2),(12,Ri a1.2),(13,I (a1.2.length:Int)),(14,I y6),(36,.eq (.bool c))]) (fun j c=>[.obj b1 25 (.rep bb a0),.obj b2 27 (.rep aY a1)]) h (fun K h=>?_) (fun j c h=>?_))
     ·refine ab (mq ?_);refine jb (jK rfl) ?_;refine mq ?_;refine bZ (s:=27) rfl (fun hb=>?_) (fun hb=>?_)
      ·replace h:=cM (nq hb) h;refine gm ?_;refine ga (aw rfl nY) ?_;refine fr 1 ?_;refine lW rfl rfl rfl rfl rfl rfl (ak rfl cG my rfl) ⟨rfl,trivial⟩ ?_;refine gm ?_;obtain⟨U,x,h⟩:=aa h;refine gb (fH rfl x) ?_;obtain⟨E,u,h⟩:=aa h;refine gb (aN (t:=(.int .i64)) rfl eO cR u) ?_;refine ga (ar (t:=(.int .i64)) rfl cR rfl) ?_;refine gb (tR rfl) ?_;refine pt (nl ?_);exact jz ((),decide (x8≤E)) h [1,0]
      ·replace h:=bQ (m4 hb) h;iterate 8 refine gn ?_
       refine pf (nl ?_);exact jz ((),false) h [0,1]
     ·refine cv h (fun h=>?_) (fun h=>?_)
      ·refine sr (cq (nt (aA (br (bf (aP ?_))))));obtain rfl:=hR _ h;exact ra
      ·refine aU (aI (tn (ab ?_)));obtain⟨D,l,h⟩:=aa h;refine jb (bj rfl l) ?_;refine mq (nl ?_);exact jz ((),D) h [0,1]
   ·refine xa ?_;exact jz ((),()) h []
  ·refine sr (cq (nt (aA ?_)));cases h;exact ra
def fk(k:Nat)(a0:bm):Nat→Int→Option (Except Int Unit)
 |0,_=>none
 |n+1,y5=>
  if y5 < (a0.2.1.length:Int) then((a8 a0.2.1 y5).bind fun x7=>
  (g7 k a0 x7).bind fun r9=>
  if¬(r9=0) then(some (.error r9)) else((ck (y5+1)).bind fun c=>
  fk k a0 n c)) else(some (.ok ()))
def fj(k:Nat)(a0:bm):Nat→Int→Option (Except Int Unit)
 |0,_=>none
 |n+1,c=>
  if c < (a0.2.2.length:Int) then((a8 a0.2.2 c).bind fun h=>
  (dw k h 0 9).bind fun j=>
  if¬(j=true) then(some (.error 1)) else((ck (c+1)).bind fun e=>
  fj k a0 n e)) else(some (.ok ()))
def kz(k:Nat)(a0:bm):Option Int:=
 (dw k a0.1 1 6).bind fun r2=>
 if¬(r2=true) then(some 1) else(if 5 < (a0.2.1.length:Int) then(some 6) else(bE (α:=Unit) (fk k a0 k 0) (some) fun _=>
 if(a0.2.2.length:Int) < 1 then(some 7) else(if 3 < (a0.2.2.length:Int) then(some 6) else(bE (α:=Unit) (fj k a0 k 0) (some) fun _=>
 some 0))))
theorem qk(k:Nat)(a0:bm)(r:Int)(h:kz k a0=some r):
 bX Tryz.prog 33 [.rep bb a0] [] (fun _:Unit=>(bq [I r],[])):=by
 unfold kz at h
 replace h:=a9 h
 refine bX.of 51 Tryz.func33 rfl Tryz.ntmps33 rfl fun S w0=>?_
 refine sr ?_
 refine bx fun b1=>?_
 refine cq ?_
 refine nt ?_
 refine ah ?_
 refine sr ?_
 refine fl lg ?_
 refine lo cR ?_
 obtain⟨r2,U,h⟩:=aa h
 have X:=dB k a0.1 1 6 r2 U
 refine jc (ao [.tmp 10,.const (.int .i64 (1)),.const (.int .i64 (6))] rfl rfl wP rfl X) ?_
 refine ja (eR rfl) ?_
 refine nt ?_
 refine cw h (fun h=>?_) (fun h=>?_)
 ·
  refine sr (cq (nt (rx ?_)));cases h;exact ra
 ·
  refine sk (ah (sr (fl dW ?_)));refine lo jY ?_;refine ol sb ?_;refine jb (jK rfl) ?_;refine nt (ci h (fun h=>?_) (fun h=>?_))
  ·refine sr (cq (nt (rx ?_)));cases h;exact ra
  ·refine sk (eX (Z:=Unit) (α:=Unit) (fun z4 x3=>[(1,Pt b1)]) (fun z4 x3=>[.obj b1 25 (.rep bb a0)]) (fun e=>e=r) h (fun e h=>Option.some.inj h) (fun K hR h=>?_) (fun z4 x3 h=>?_))
   ·refine sr (fl dW ?_);refine lo jY ?_;refine ol sb ?_;refine eG rfl ?_;refine nt (aj (aJ (fun z6 y5=>[(1,Pt b1),(18,Rs aY a0.2.1),(19,I (a0.2.1.length:Int)),(20,I y5)]) (fun z6 y5=>[.obj b1 25 (.rep bb a0)]) (fk k a0) k () 0 (fun _=>rfl) h (SE.fin [0] ⟨rfl,rfl,rfl,rfl,trivial⟩ rfl) (fun n z6 y5 h=>?_)));unfold fk at h;refine sr (jb (bH rfl) ?_);refine nt (ah (ci h (fun h=>?_) (fun h=>?_)))
    ·refine sk (ah (aj (sr ?_)));obtain⟨x7,O,h⟩:=aa h;refine jb (aN (t:=aY) rfl sb mf O) ?_;refine ja (ar (t:=aY) rfl mf rfl) ?_;refine aF rfl rfl rfl (bL rfl vS IS) trivial fun b8=>?_;refine bg rfl rfl (ba rfl mf rfl rfl rfl) ⟨rfl,rfl,trivial⟩ ?_;refine nt (sr (fr 1 ?_));refine lo ii ?_;refine fr 1 ?_;refine lo mf ?_;obtain⟨r9,Q,h⟩:=aa h;refine jb (ao [.tmp 24,.tmp 25] rfl rfl P3 rfl (qj k a0 x7 r9 Q)) ?_;refine aq (nt (sr ?_));refine mq ?_;refine jb (jf rfl) ?_;refine nt (cn h (fun h=>?_) (fun h=>?_))
     ·refine sr (mq ?_);refine aq (nt (aA (br (bf (aP ?_)))));obtain rfl:=hR _ h;exact ra
     ·refine aU (aI (tn (ab ?_)));obtain⟨J,y,h⟩:=aa h;refine jb (bj rfl y) ?_;refine mq (nl ?_);exact jz ((),J) h [1]
    ·refine xa ?_;exact jz ((),()) h [0]
   ·refine ah (sr (fl fF ?_));refine lo cG ?_;refine ol eO ?_;refine aq (nt (aj (sr ?_)));refine mq ?_;refine jb (bH rfl) ?_;refine aq (nt ?_);refine ci h (fun h=>?_) (fun h=>?_)
    ·refine sr (cq (nt (aA (bf (aP ?_)))));cases h;exact ra
    ·refine sr (mq ?_);refine jb (jK rfl) ?_;refine aq (nt ?_);refine ci h (fun h=>?_) (fun h=>?_)
     ·refine sr (cq (nt (aA (bf (aP ?_)))));cases h;exact ra
     ·refine aU (aI (tn (eX (Z:=Unit) (α:=Unit) (fun l s=>[]) (fun l s=>[]) (fun e=>e=r) h (fun e h=>Option.some.inj h) (fun K hR h=>?_) (fun l s h=>?_))))
      ·refine sr (fl fF ?_);refine lo cG ?_;refine ol eO ?_;refine eG rfl ?_;refine nt (aj (aJ (fun j c=>[(41,Ri a0.2.2),(42,I (a0.2.2.length:Int)),(43,I c)]) (fun j c=>[]) (fj k a0) k () 0 (fun _=>rfl) h (SE.fin [] ⟨rfl,rfl,rfl,trivial⟩ rfl) (fun n j c h=>?_)));unfold fj at h;refine sr (jb (bH rfl) ?_);refine nt (ah (ci h (fun h=>?_) (fun h=>?_)))
       ·refine sk (ah (aj (sr ?_)));obtain⟨F,x,h⟩:=aa h;refine jb (aN (t:=(.int .i64)) rfl eO cR x) ?_;refine ja (ar (t:=(.int .i64)) rfl cR rfl) ?_;refine aq (nt (sr ?_));refine mq ?_;obtain⟨M,D,h⟩:=aa h;refine jc (ao [.tmp 47,.const (.int .i64 (0)),.const (.int .i64 (9))] rfl rfl wP rfl (dB k F 0 9 M D)) ?_;refine ja (eR rfl) ?_;refine nt (cw h (fun h=>?_) (fun h=>?_))
        ·refine sr (cq (nt (aA (br (bf (aP ?_))))));obtain rfl:=hR _ h;exact ra
        ·refine aU (aI (tn (ab ?_)));obtain⟨E,u,h⟩:=aa h;refine jb (bj rfl u) ?_;refine mq (nl ?_);exact jz ((),E) h []
       ·refine xa ?_;exact jz ((),()) h []
      ·refine sr (cq (nt (aA ?_)));cases h;exact ra
def dI(k:Nat)(a0:Int)(a1:Int):Option Bool:=
 (d6 (0≤a1)).bind fun _=>
 some (decide ((uO .u8 (gX .u8 a0 a1) 1)=1))
theorem gZ(k:Nat)(a0:Int)(a1:Int)(r:Bool)(h:dI k a0 a1=some r):
 bX Tryz.prog 87 [.eq (.int .u8 a0),I a1] [] (fun _:Unit=>(bq [.eq (.bool r)],[])):=by
 unfold dI at h
 replace h:=a9 h
 refine bX.of 10 Tryz.func87 rfl Tryz.ntmps87 rfl fun S w0=>?_
 refine sr ?_
 refine cq ?_
 refine nt ?_
 refine sr ?_
 iterate 2 refine mq ?_
 obtain⟨u1,c,h⟩:=aa h
 refine jb (tO rfl (aC c)) ?_
 refine jb (MV rfl) ?_
 refine jb (eS rfl) ?_
 refine aq ?_
 refine nt ?_
 refine aA ?_
 cases h
 exact ra
def d3(k:Nat)(a0:Int)(a1:Int):Option Int:=
 (d6 (0≤a1)).bind fun _=>
 some (A9 .u8 a0 (mA .u8 1 a1))
theorem iE(k:Nat)(a0:Int)(a1:Int)(r:Int)(h:d3 k a0 a1=some r):
 bX Tryz.prog 134 [.eq (.int .u8 a0),I a1] [] (fun _:Unit=>(bq [.eq (.int .u8 r)],[])):=by
 unfold d3 at h
 replace h:=a9 h
 refine bX.of 9 Tryz.func134 rfl Tryz.ntmps134 rfl fun S w0=>?_
 refine sr ?_
 refine cq ?_
 refine nt ?_
 refine sr ?_
 iterate 2 refine mq ?_
 obtain⟨u1,c,h⟩:=aa h
 refine jb (EC rfl (aC c)) ?_
 refine jb (MS rfl) ?_
 refine aq ?_
 refine nt ?_
 refine aA ?_
 cases h
 exact ra
def f7(k:Nat)(a0:bm)(a1:(List Int)):Nat→(Int×Int)→Option Int
 |0,_=>none
 |n+1,y4=>
  if y4.2 < (a1.length:Int) then((a8 a1 y4.2).bind fun x6=>
  (a8 a0.2.1 x6).bind fun x7=>
  (ck (y4.1+x7.1)).bind fun x8=>
  (ck (y4.2+1)).bind fun x9=>
  f7 k a0 a1 n (x8,x9)) else(some y4.1)
def ma(k:Nat)(a0:bm)(a1:(List Int)):Option Int:=
 ((f7 k a0 a1 k (0,0)):Option (Int)).bind fun x2=>
 some x2
theorem si(k:Nat)(a0:bm)(a1:(List Int))(r:Int)(h:ma k a0 a1=some r):
 bX Tryz.prog 135 [.rep bb a0,Ri a1] [] (fun _:Unit=>(bq [I r],[])):=by
 unfold ma at h
 replace h:=a9 h
 refine bX.of 24 Tryz.func135 rfl Tryz.ntmps135 rfl fun S w0=>?_
 refine sr ?_
 refine bx fun b1=>?_
 refine cq ?_
 refine nt ?_
 refine sr ?_
 refine cq ?_
 refine nt ?_
 refine aW (Z:=Unit) (α:=Int) (fun z3 x2=>[(5,I x2)]) (fun z3 x2=>[]) h (fun K h=>?_) (fun z3 x2 h=>?_)
 ·
  refine sr (mq ?_);refine ol eO ?_;refine eG rfl ?_;refine nt (aj (aJ (fun z5 y4=>[(2,Pt b1),(5,I y4.1),(8,Ri a1),(9,I (a1.length:Int)),(10,I y4.2)]) (fun z5 y4=>[.obj b1 25 (.rep bb a0)]) (f7 k a0 a1) k () (0,0) (fun _=>rfl) h (SE.fin [0] ⟨rfl,rfl,rfl,rfl,rfl,trivial⟩ rfl) (fun n z5 y4 h=>?_)));unfold f7 at h;refine sr (jb (bH rfl) ?_);refine nt (ah (ci h (fun h=>?_) (fun h=>?_)))
  ·refine sk (ah (aj (sr ?_)));obtain⟨x6,l,h⟩:=aa h;refine jb (aN (t:=(.int .i64)) rfl eO cR l) ?_;refine ja (ar (t:=(.int .i64)) rfl cR rfl) ?_;refine aq (nt (ab ?_));refine mq ?_;refine fl dW ?_;refine lo jY ?_;refine mq ?_;obtain⟨x7,j,h⟩:=aa h;refine jb (aN (t:=aY) rfl sb mf j) ?_;refine ja (aH 1 false rfl nZ rfl) ?_;refine ja (ar (t:=(.int .i64)) rfl cR rfl) ?_;obtain⟨x8,e,h⟩:=aa h;refine jb (bj rfl e) ?_;refine aq (ap (aI (tn (ab ?_))));obtain⟨x9,c,h⟩:=aa h;refine jb (bj rfl c) ?_;refine mq (nl ?_);exact jz ((),(x8,x9)) h [0]
  ·refine xa ?_;exact jz ((),y4.1) h []
 ·
  refine sr (mq ?_);refine aq (nt (aA ?_));cases h;exact ra
def dZ(k:Nat)(a0:bm)(x8:(List Int)):Nat→(Int×Int)→Option (Except Value Int)
 |0,_=>none
 |n+1,c=>
  if c.2 < (x8.length:Int) then((a8 x8 c.2).bind fun e=>
  (ck ((a0.2.1.length:Int) - 1)).bind fun j=>
  (dw k e 0 j).bind fun s=>
  if¬(s=true) then(some (.error (.iface 118 (.agg #[.int .i64 3])))) else((dI k c.1 e).bind fun r=>
  if r=true then(some (.error (.iface 118 (.agg #[.int .i64 4])))) else((d3 k c.1 e).bind fun l=>
  (ck (c.2+1)).bind fun h=>
  dZ k a0 x8 n (l,h)))) else(some (.ok c.1))
def fi(k:Nat)(a0:bm)(a1:(List (List Int))):Nat→(Int×Int)→Option (Except Value Int)
 |0,_=>none
 |n+1,y4=>
  if y4.2 < (a1.length:Int) then(bE (α:=Int) ((a8 a1 y4.2).bind fun x8=>
  bE (α:=Int) (dZ k a0 x8 k (y4.1,0)) (fun e=>some (.error e)) fun x9=>
  (ma k a0 x8).bind fun j=>
  (a8 a0.2.2 y4.2).bind fun h=>
  if h < j then(some (.error (.iface 118 (.agg #[.int .i64 12])))) else(some (.ok x9))) (fun e=>some (.error e)) fun x6=>
  (ck (y4.2+1)).bind fun c=>
  fi k a0 a1 n (x6,c)) else(some (.ok y4.1))
def ky(k:Nat)(a0:bm)(a1:(List (List Int))):Option Value:=
 if(a1.length:Int) < (a0.2.2.length:Int) then(some (.iface 118 (.agg #[.int .i64 7]))) else(if(a0.2.2.length:Int) < (a1.length:Int) then(some (.iface 118 (.agg #[.int .i64 6]))) else(bE (α:=Int) (fi k a0 a1 k (0,0)) (some) fun x2=>
 (d6 (0≤(a0.2.1.length:Int))).bind fun _=>
 if¬(x2=(IntKind.u8.wrap ((mA .u8 1 (a0.2.1.length:Int)) - 1))) then(some (.iface 118 (.agg #[.int .i64 7]))) else(some (.nilIface))))
theorem qg(k:Nat)(a0:bm)(a1:(List (List Int)))(r:Value)(h:ky k a0 a1=some r):
 bX Tryz.prog 94 [.rep bb a0,.rep (.slice (.slice (.int .i64))) a1] [] (fun _:Unit=>(bq [.eq r],[])):=by
 unfold ky at h
 replace h:=a9 h
 refine bX.of 80 Tryz.func94 rfl Tryz.ntmps94 rfl fun S w0=>?_
 refine sr ?_
 refine bx fun b1=>?_
 refine cq ?_
 refine nt ?_
 refine ah ?_
 refine sr ?_
 refine fl fF ?_
 refine lo cG ?_
 refine ol eO ?_
 refine aq ?_
 refine nt ?_
 refine aj ?_
 refine sr ?_
 refine mq ?_
 refine ol nu ?_
 refine mq ?_
 refine jb (bH rfl) ?_
 refine aq ?_
 refine nt ?_
 refine ci h (fun h=>?_) (fun h=>?_)
 ·
  refine sr (ja (dt [(0,.const (.int .i64 (7)),_)] rfl vb s5 sa (i7 ⟨rfl,trivial⟩) rfl) ?_);refine ja (mn rfl Dl) ?_;refine aq (nt (aA (bf (aP ?_))));cases h;exact ra
 ·
  refine sr (mq ?_);refine ol nu ?_;refine mq ?_;refine jb (jK rfl) ?_;refine aq (nt ?_);refine ci h (fun h=>?_) (fun h=>?_)
  ·refine sr (ja (dt [(0,.const (.int .i64 (6)),_)] rfl vb s5 sa (i7 ⟨rfl,trivial⟩) rfl) ?_);refine ja (mn rfl Dl) ?_;refine aq (nt (aA (bf (aP ?_))));cases h;exact ra
  ·refine aU (aI (tn (sr (cq (nt ?_)))));refine eX (Z:=Unit) (α:=Int) (fun z3 x2=>[(2,Pt b1),(6,.eq (.int .u8 x2))]) (fun z3 x2=>[.obj b1 25 (.rep bb a0)]) (fun e=>e=r) h (fun e h=>Option.some.inj h) (fun K hR h=>?_) (fun z3 x2 h=>?_)
   ·refine sr (mq ?_);refine ol nu ?_;refine eG rfl ?_;refine nt (aj (aJ (fun z5 y4=>[(2,Pt b1),(6,.eq (.int .u8 y4.1)),(28,.rep (.slice (.slice (.int .i64))) a1),(29,I (a1.length:Int)),(30,I y4.2)]) (fun z5 y4=>[.obj b1 25 (.rep bb a0)]) (fi k a0 a1) k () (0,0) (fun _=>rfl) h (SE.fin [0] ⟨rfl,rfl,rfl,rfl,rfl,trivial⟩ rfl) (fun n z5 y4 h=>?_)));unfold fi at h;refine sr (jb (bH rfl) ?_);refine nt (ah (ci h (fun h=>?_) (fun h=>?_)))
    ·refine sk (eX (Z:=Unit) (α:=Int) (fun z7 x6=>[(2,Pt b1),(6,.eq (.int .u8 x6)),(28,.rep (.slice (.slice (.int .i64))) a1),(29,I (a1.length:Int)),(30,I y4.2)]) (fun z7 x6=>[.obj b1 25 (.rep bb a0)]) (fun e=>e=r) h (fun e h=>hR e h) (fun K hR h=>?_) (fun z7 x6 h=>?_))
     ·refine aj (sr (mq ?_));obtain⟨x8,se,h⟩:=aa h;refine jb (aN (t:=(.slice (.int .i64))) rfl nu cG se) ?_;refine ja (ar (t:=(.slice (.int .i64))) rfl cG rfl) ?_;refine aq ?_;refine aq (nt ?_);refine eX (Z:=Unit) (α:=Int) (fun s x9=>[(2,Pt b1),(6,.eq (.int .u8 x9)),(7,I y4.2),(8,Ri x8),(28,.rep (.slice (.slice (.int .i64))) a1),(29,I (a1.length:Int)),(30,I y4.2)]) (fun s x9=>[.obj b1 25 (.rep bb a0)]) (fun e=>e=r) h (fun e h=>hR e h) (fun K hR h=>?_) (fun s x9 h=>?_)
      ·refine sr (mq ?_);refine ol eO ?_;refine eG rfl ?_;refine nt (aj (aJ (fun l c=>[(2,Pt b1),(6,.eq (.int .u8 c.1)),(7,I y4.2),(8,Ri x8),(28,.rep (.slice (.slice (.int .i64))) a1),(29,I (a1.length:Int)),(30,I y4.2),(35,Ri x8),(36,I (x8.length:Int)),(37,I c.2)]) (fun l c=>[.obj b1 25 (.rep bb a0)]) (dZ k a0 x8) k () (y4.1,0) (fun _=>rfl) h (SE.fin [0] ⟨rfl,rfl,rfl,rfl,rfl,rfl,rfl,rfl,rfl,rfl,trivial⟩ rfl) (fun n l c h=>?_)));unfold dZ at h;refine sr (jb (bH rfl) ?_);refine nt (ah (ci h (fun h=>?_) (fun h=>?_)))
       ·refine sk (ah (aj (sr ?_)));obtain⟨j,F,h⟩:=aa h;refine jb (aN (t:=(.int .i64)) rfl eO cR F) ?_;refine ja (ar (t:=(.int .i64)) rfl cR rfl) ?_;refine aq (nt (ah (sr ?_)));refine mq ?_;refine fl dW ?_;refine lo jY ?_;refine ol sb ?_;obtain⟨ac,E,h⟩:=aa h;refine jb (fH rfl E) ?_;obtain⟨qt,U,h⟩:=aa h;refine jc (ao [.tmp 41,.const (.int .i64 (0)),.tmp 45] rfl rfl wP rfl (dB k j 0 ac qt U)) ?_;refine ja (eR rfl) ?_;refine nt (cw h (fun h=>?_) (fun h=>?_))
        ·refine sr (ja (dt [(0,.const (.int .i64 (3)),_)] rfl vb s5 sa (i7 ⟨rfl,trivial⟩) rfl) ?_);refine ja (mn rfl Dl) ?_;refine aq (nt (rx (br (bf (aP (br (bf (aP ?_))))))));obtain rfl:=hR _ h;exact ra
        ·refine sk (ah (sr ?_));iterate 2 refine mq ?_
         obtain⟨pp,Q,h⟩:=aa h;refine jb (ao [.tmp 50,.tmp 51] rfl rfl ID rfl (gZ k c.1 j pp Q)) ?_;refine nt (cv h (fun h=>?_) (fun h=>?_))
         ·refine sr (ja (dt [(0,.const (.int .i64 (4)),_)] rfl vb s5 sa (i7 ⟨rfl,trivial⟩) rfl) ?_);refine ja (mn rfl Dl) ?_;refine aq (nt (rx (br (bf (aP (br (bf (aP ?_))))))));obtain rfl:=hR _ h;exact ra
         ·refine sk (ab ?_);iterate 2 refine mq ?_
          obtain⟨u,O,h⟩:=aa h;refine jb (ao [.tmp 55,.tmp 56] rfl rfl Bl rfl (iE k c.1 j u O)) ?_;refine aq (ap (aI (tn (ab ?_))));obtain⟨Y,D,h⟩:=aa h;refine jb (bj rfl D) ?_;refine mq (nl ?_);exact jz ((),(u,Y)) h [0]
       ·refine xa ?_;exact jz ((),c.1) h [0]
      ·refine ah (cr ?_);refine ea 0 (ak rfl ii (xk) rfl) ?_;refine dm ?_;obtain⟨mc,M,h⟩:=aa h;refine db (ao [.tmp 59,.tmp 60] rfl rfl JB rfl (si k a0 x8 mc M)) ?_;refine da (aw rfl fF) ?_;refine ea 0 (ak rfl cG my rfl) ?_;refine dm ?_;obtain⟨QQ,y,h⟩:=aa h;refine db (aN (t:=(.int .i64)) rfl eO cR y) ?_;refine da (ar (t:=(.int .i64)) rfl cR rfl) ?_;refine df eZ ?_;refine jb (jK rfl) ?_;refine nt (ci h (fun h=>?_) (fun h=>?_))
       ·refine sr (ja (dt [(0,.const (.int .i64 (12)),_)] rfl vb s5 sa (i7 ⟨rfl,trivial⟩) rfl) ?_);refine ja (mn rfl Dl) ?_;refine aq (nt (aA (br (bf (aP ?_)))));obtain rfl:=hR _ h;exact ra
       ·refine aU (bn ?_);exact jz ((),x9) h [0]
     ·refine ab ?_;obtain⟨X,x,h⟩:=aa h;refine jb (bj rfl x) ?_;refine mq (nl ?_);exact jz ((),(x6,X)) h [0]
    ·refine xa ?_;exact jz ((),y4.1) h [0]
   ·refine ah (sr (mq ?_));refine fl dW ?_;refine lo jY ?_;refine ol sb ?_;obtain⟨QR,J,h⟩:=aa h;refine jb (EC rfl (aC J)) ?_;refine jb (EB rfl) ?_;refine jb (jf rfl) ?_;refine nt (cn h (fun h=>?_) (fun h=>?_))
    ·refine sr (ja (dt [(0,.const (.int .i64 (7)),_)] rfl vb s5 sa (i7 ⟨rfl,trivial⟩) rfl) ?_);refine ja (mn rfl Dl) ?_;refine aq (nt (rx ?_));cases h;exact ra
    ·refine sk (sr (cq (nt (aA ?_))));cases h;exact ra
def cz(k:Nat)(a0:(List (List Int)))(y5:(List (List Int))×Int):Nat→((List (List Int))×Int)→Option (List (List Int))
 |0,_=>none
 |n+1,y9=>
  if y9.2 < 5 then((((d6 (0≤y5.2∧y5.2 < 3)).bind fun _=>
  (a8 y9.1 y5.2).bind fun c=>
  (d6 (0≤y9.2∧y9.2 < 5)).bind fun _=>
  ((if y5.2 < (a0.length:Int) then((a8 a0 y5.2).bind fun r=>
  some (decide (y9.2 < (r.length:Int)))) else(some false)):Option (Bool)).bind fun s=>
  if s=true then((a8 a0 y5.2).bind fun l=>
  (a8 l y9.2).bind fun j=>
  (d6 (0≤y5.2∧y5.2 < 3)).bind fun _=>
  (a8 (List.set y9.1 (Int.toNat y5.2) (List.set c (Int.toNat y9.2) (-1:Int))) y5.2).bind fun h=>
  (d6 (0≤y9.2∧y9.2 < 5)).bind fun _=>
  some (List.set (List.set y9.1 (Int.toNat y5.2) (List.set c (Int.toNat y9.2) (-1:Int))) (Int.toNat y5.2) (List.set h (Int.toNat y9.2) j))) else(some (List.set y9.1 (Int.toNat y5.2) (List.set c (Int.toNat y9.2) (-1:Int))))):Option ((List (List Int)))).bind fun u=>
  (ck (y9.2+1)).bind fun e=>
  cz k a0 y5 n (u,e)) else(some y9.1)
def cQ(k:Nat)(a0:(List (List Int))):Nat→((List (List Int))×Int)→Option (List (List Int))
 |0,_=>none
 |n+1,y5=>
  if y5.2 < 3 then(((cz k a0 y5 k (y5.1,0)):Option ((List (List Int)))).bind fun x7=>
  (ck (y5.2+1)).bind fun c=>
  cQ k a0 n (x7,c)) else(some y5.1)
def dn(k:Nat)(a0:(List (List Int))):Option (List (List Int)):=
 ((cQ k a0 k ([[0,0,0,0,0],[0,0,0,0,0],[0,0,0,0,0]],0)):Option ((List (List Int)))).bind fun x3=>
 some x3
theorem dJ(k:Nat)(a0:(List (List Int)))(r:(List (List Int)))(h:dn k a0=some r):
 bX Tryz.prog 86 [.rep (.slice (.slice (.int .i64))) a0] [] (fun _:Unit=>(bq [.rep (.arr 3 (.arr 5 (.int .i64))) r],[])):=by
 unfold dn at h
 replace h:=a9 h
 refine bX.of 43 Tryz.func86 rfl Tryz.ntmps86 rfl fun S w0=>?_
 refine sr ?_
 refine aF rfl rfl rfl (bL rfl l5 mF) trivial fun b1=>?_
 refine nt ?_
 refine sr ?_
 refine aF rfl rfl rfl (bL rfl l5 mF) trivial fun b2=>?_
 refine nt ?_
 refine aW (Z:=Unit) (α:=(List (List Int))) (fun z4 x3=>[(2,Pt b1),(3,Pt b2)]) (fun z4 x3=>[.obj b1 107 (.rep (.arr 3 (.arr 5 (.int .i64))) [[0,0,0,0,0],[0,0,0,0,0],[0,0,0,0,0]]),.obj b2 107 (.rep (.arr 3 (.arr 5 (.int .i64))) x3)]) h (fun K h=>?_) (fun z4 x3 h=>?_)
 ·
  refine sr (eG rfl ?_);refine nt (aj (aJ (fun z6 y5=>[(0,.rep (.slice (.slice (.int .i64))) a0),(2,Pt b1),(3,Pt b2),(6,I y5.2)]) (fun z6 y5=>[.obj b1 107 (.rep (.arr 3 (.arr 5 (.int .i64))) [[0,0,0,0,0],[0,0,0,0,0],[0,0,0,0,0]]),.obj b2 107 (.rep (.arr 3 (.arr 5 (.int .i64))) y5.1)]) (cQ k a0) k () ([[0,0,0,0,0],[0,0,0,0,0],[0,0,0,0,0]],0) (fun _=>rfl) h (SE.fin [1,0] ⟨rfl,rfl,rfl,rfl,trivial⟩ rfl) (fun n z6 y5 h=>?_)));unfold cQ at h;refine sr (jb (bH rfl) ?_);refine nt (ah (ci h (fun h=>?_) (fun h=>?_)))
  ·refine sk (aW (Z:=Unit) (α:=(List (List Int))) (fun z8 x7=>[(0,.rep (.slice (.slice (.int .i64))) a0),(2,Pt b1),(3,Pt b2),(6,I y5.2)]) (fun z8 x7=>[.obj b1 107 (.rep (.arr 3 (.arr 5 (.int .i64))) [[0,0,0,0,0],[0,0,0,0,0],[0,0,0,0,0]]),.obj b2 107 (.rep (.arr 3 (.arr 5 (.int .i64))) x7)]) h (fun K h=>?_) (fun z8 x7 h=>?_))
   ·refine aj (sr (mq ?_));refine aq (nt (sr ?_));refine eG rfl ?_;refine nt (aj (aJ (fun J y9=>[(0,.rep (.slice (.slice (.int .i64))) a0),(2,Pt b1),(3,Pt b2),(4,I y5.2),(6,I y5.2),(9,I y9.2)]) (fun J y9=>[.obj b1 107 (.rep (.arr 3 (.arr 5 (.int .i64))) [[0,0,0,0,0],[0,0,0,0,0],[0,0,0,0,0]]),.obj b2 107 (.rep (.arr 3 (.arr 5 (.int .i64))) y9.1)]) (cz k a0 y5) k () (y5.1,0) (fun _=>rfl) h (SE.fin [0,1] ⟨rfl,rfl,rfl,rfl,rfl,rfl,trivial⟩ rfl) (fun n J y9 h=>?_)));unfold cz at h;refine sr (jb (bH rfl) ?_);refine nt (ah (ci h (fun h=>?_) (fun h=>?_)))
    ·refine sk (aW (Z:=Unit) (α:=(List (List Int))) (fun F l=>[(0,.rep (.slice (.slice (.int .i64))) a0),(2,Pt b1),(3,Pt b2),(4,I y5.2),(6,I y5.2),(9,I y9.2)]) (fun F l=>[.obj b1 107 (.rep (.arr 3 (.arr 5 (.int .i64))) [[0,0,0,0,0],[0,0,0,0,0],[0,0,0,0,0]]),.obj b2 107 (.rep (.arr 3 (.arr 5 (.int .i64))) l)]) h (fun K h=>?_) (fun F l h=>?_))
     ·refine aj (sr (mq ?_));refine aq (nt (sr ?_));iterate 2 refine mq ?_
      obtain⟨QW,x,h⟩:=aa h;refine jb (hP rfl IY xO (aC x).1 (aC x).2) ?_;obtain⟨D,ac,h⟩:=aa h;obtain⟨QV,e,h⟩:=aa h;refine jb (hP rfl IZ cR (aC e).1 (aC e).2) ?_;refine fr 1 ?_;refine bg rfl rfl (mS (t:=(.int .i64)) (off:=0) (i:=y5.2) (j:=y9.2) (N:=3) (L:=5) rfl cR .int rfl rfl rfl rfl ac (aC e).1 (aC e).2 rfl) ⟨rfl,rfl,trivial⟩ ?_;refine nt (aW (Z:=Unit) (α:=Bool) (fun E y=>[(0,.rep (.slice (.slice (.int .i64))) a0),(2,Pt b1),(3,Pt b2),(4,I y5.2),(5,I y9.2),(6,I y5.2),(9,I y9.2),(28,.eq (.bool y))]) (fun E y=>[.obj b1 107 (.rep (.arr 3 (.arr 5 (.int .i64))) [[0,0,0,0,0],[0,0,0,0,0],[0,0,0,0,0]]),.obj b2 107 (.rep (.arr 3 (.arr 5 (.int .i64))) (List.set y9.1 (Int.toNat y5.2) (List.set D (Int.toNat y9.2) (-1:Int))))]) h (fun K h=>?_) (fun E y h=>?_))
      ·refine ab ?_;iterate 2 refine mq ?_
       refine ol nu ?_;refine jb (bH rfl) ?_;refine mq ?_;refine bZ (s:=20) rfl (fun hb=>?_) (fun hb=>?_)
       ·replace h:=cM (nq hb) h;refine gm ?_;refine gm ?_;refine gm ?_;obtain⟨QQ,Y,h⟩:=aa h;refine gb (aN (t:=(.slice (.int .i64))) rfl nu cG Y) ?_;refine ga (ar (t:=(.slice (.int .i64))) rfl cG rfl) ?_;refine ga (mm rfl rfl eO) ?_;refine gb (bH rfl) ?_;refine pt (nl ?_);exact jz ((),decide (y9.2 < (QQ.length:Int))) h [1,0]
       ·replace h:=bQ (m4 hb) h;iterate 7 refine gn ?_
        refine pf (nl ?_);exact jz ((),false) h [1,0]
      ·refine cv h (fun h=>?_) (fun h=>?_)
       ·refine cr ?_;refine dm ?_;refine dm ?_;refine dm ?_;refine dm ?_;obtain⟨QR,X,h⟩:=aa h;refine db (aN (t:=(.slice (.int .i64))) rfl nu cG X) ?_;refine da (ar (t:=(.slice (.int .i64))) rfl cG rfl) ?_;refine dm ?_;obtain⟨se,U,h⟩:=aa h;refine db (aN (t:=(.int .i64)) rfl eO cR U) ?_;refine da (ar (t:=(.int .i64)) rfl cR rfl) ?_;obtain⟨QU,u,h⟩:=aa h;refine db (hP rfl IY xO (aC u).1 (aC u).2) ?_;refine df eZ ?_;obtain⟨qt,Q,h⟩:=aa h;obtain⟨QT,c,h⟩:=aa h;refine jb (hP rfl IZ cR (aC c).1 (aC c).2) ?_;refine fr 1 ?_;refine bg rfl rfl (mS (t:=(.int .i64)) (off:=0) (i:=y5.2) (j:=y9.2) (N:=3) (L:=5) rfl cR .int rfl rfl rfl rfl Q (aC c).1 (aC c).2 rfl) ⟨rfl,rfl,trivial⟩ ?_;refine ap (bn ?_);exact jz ((),List.set (List.set y9.1 (Int.toNat y5.2) (List.set D (Int.toNat y9.2) (-1:Int))) (Int.toNat y5.2) (List.set qt (Int.toNat y9.2) se)) h [1,0]
       ·refine aU (bn ?_);exact jz ((),List.set y9.1 (Int.toNat y5.2) (List.set D (Int.toNat y9.2) (-1:Int))) h [0,1]
     ·refine ab ?_;obtain⟨pp,O,h⟩:=aa h;refine jb (bj rfl O) ?_;refine mq (nl ?_);exact jz ((),(l,pp)) h [0,1]
    ·refine dF (aM (aM (bR (bn ?_))));exact jz ((),y9.1) h [0,1]
   ·refine ab ?_;obtain⟨mc,M,h⟩:=aa h;refine jb (bj rfl M) ?_;refine mq (nl ?_);exact jz ((),(x7,mc)) h [0,1]
  ·refine xa ?_;exact jz ((),y5.1) h [0,1]
 ·
  refine sr (fr 1 ?_);refine lo cT ?_;refine fr 1 ?_;refine bg rfl rfl (ba rfl cT rfl rfl rfl) ⟨rfl,rfl,trivial⟩ ?_;refine nt (aA ?_);obtain rfl:=Option.some.inj h;exact aG () [.rep (.arr 3 (.arr 5 (.int .i64))) x3] 0 ⟨⟨_,_,_,_,_,rfl,(.head _),cT,(xk),rfl⟩,trivial⟩ rfl
def cF(k:Nat)(x5:(List Int)):Nat→((List Int)×Int)→Option (List Int)
 |0,_=>none
 |n+1,y6=>
  if y6.2 < 5 then((((a8 x5 y6.2).bind fun c=>
  if 0≤c then((d6 (bV (List.length y6.1+List.length [c]))).bind fun _=>
  some (y6.1++[c])) else(some y6.1)):Option ((List Int))).bind fun x8=>
  (ck (y6.2+1)).bind fun e=>
  cF k x5 n (x8,e)) else(some y6.1)
def dD(k:Nat)(a0:(List (List Int)))(a1:Int):Option (List Int):=
 (((d6 (0≤a1∧a1 < 3)).bind fun _=>
 (a8 a0 a1).bind fun x5=>
 cF k x5 k (([]:(List Int)),0)):Option ((List Int))).bind fun x2=>
 some x2
theorem fP(k:Nat)(a0:(List (List Int)))(a1:Int)(r:(List Int))(h:dD k a0 a1=some r):
 bX Tryz.prog 110 [.rep (.arr 3 (.arr 5 (.int .i64))) a0,I a1] [] (fun _:Unit=>(bq [Ri r],[])):=by
 unfold dD at h
 replace h:=a9 h
 refine bX.of 22 Tryz.func110 rfl Tryz.ntmps110 rfl fun S w0=>?_
 refine sr ?_
 refine bx fun b1=>?_
 refine cq ?_
 refine nt ?_
 refine sr ?_
 refine cq ?_
 refine nt ?_
 refine aW (Z:=Value) (α:=(List Int)) (fun z3 x2=>[(5,.eq z3)]) (fun z3 x2=>[.sl z3 3 (.int .i64) x2]) h (fun K h=>?_) (fun z3 x2 h=>?_)
 ·
  refine sr (mq ?_);obtain⟨u4,l,h⟩:=aa h;refine jb (hP rfl IY xO (aC l).1 (aC l).2) ?_;obtain⟨x5,y,h⟩:=aa h;refine ka (zS (t:=(.arr 5 (.int .i64))) (off:=0) (i:=a1) (N:=3) rfl xO (xk) rfl rfl rfl rfl y) ?_;refine eG rfl ?_;refine nt (aj (gd (SE.nil 3 (.int .i64)) ?_));refine aJ (fun z7 y6=>[(5,.eq z7),(10,.rep (.arr 5 (.int .i64)) x5),(11,I y6.2)]) (fun z7 y6=>[.sl z7 3 (.int .i64) y6.1]) (cF k x5) k (.slice none 0 0) (([]:(List Int)),0) (fun _=>rfl) h (SE.fin [0] ⟨rfl,rfl,rfl,trivial⟩ rfl) (fun n z7 y6 h=>?_);unfold cF at h;refine sr (jb (bH rfl) ?_);refine nt (ah (ci h (fun h=>?_) (fun h=>?_)))
  ·refine sk (aW (Z:=Value) (α:=(List Int)) (fun z9 x8=>[(5,.eq z9),(10,.rep (.arr 5 (.int .i64)) x5),(11,I y6.2)]) (fun z9 x8=>[.sl z9 3 (.int .i64) x8]) h (fun K h=>?_) (fun z9 x8 h=>?_))
   ·refine aj (sr ?_);obtain⟨c,j,h⟩:=aa h;refine jb (ye (t:=(.int .i64)) rfl IZ cR rfl rfl (fun _=>rfl) j) ?_;refine aq (nt (sr ?_));refine mq ?_;refine jb (pm rfl) ?_;refine nt (ci h (fun h=>?_) (fun h=>?_))
    ·refine ab ?_;iterate 2 refine mq ?_
     refine ja (bG (t:=(.int .i64)) [(.tmp 17,_)] [c] rfl rfl eP (.cons rfl .int .nil) rfl rfl) ?_;obtain⟨D,s,h⟩:=aa h;refine ek rfl rfl rfl (cp rfl rfl eP (aC s)) ⟨rfl,rfl,trivial⟩ fun x=>?_;refine aq (ap (bn ?_));exact jz (x,y6.1++[c]) h [0]
    ·refine aU (bn ?_);exact jz (z7,y6.1) h [0]
   ·refine ab ?_;obtain⟨u,e,h⟩:=aa h;refine jb (bj rfl e) ?_;refine mq (nl ?_);exact jz (z9,(x8,u)) h [0]
  ·refine xa ?_;exact jz (z7,y6.1) h [0]
 ·
  refine sr (mq ?_);refine aq (nt (aA ?_));refine bI (gI [4,5,21] ⟨rfl,rfl,rfl,trivial⟩) ?_;cases h;exact ra
def co{σ:Type}(k:Nat)(a1:(List Int))(Y:σ→(Int×Int)→Option (σ×Bool)):Nat→(Int×σ)→Option (σ)
 |0,_=>none
 |n+1,y2=>
  if 0≤y2.1 then((a8 a1 y2.1).bind fun x4=>
  (Y y2.2 (y2.1,x4)).bind fun r5=>
  if¬(r5.2=true) then(some r5.1) else((ck (y2.1 - 1)).bind fun x7=>
  co k a1 Y n (x7,r5.1))) else(some y2.2)
def gj{σ:Type}(k:Nat)(Y:σ→(Int×Int)→Option (σ×Bool))(a1:(List Int))(s0:σ):Option (σ):=
 (ck ((a1.length:Int) - 1)).bind fun x1=>
 co k a1 Y k (x1,s0)
theorem nm{M:Md Tryz.prog}{σ Z:Type}(E:Z→σ→List D)(l:Nat)(Y:σ→(Int×Int)→Option (σ×Bool))(k:Nat)(a1:(List Int))(c:Nat)(hY:∀z s p r,Y s p=some r→YT M l [I p.1,I p.2] (E z s) (fun z':Z=>(.eq (.bool r.2),E z' r.1))):
 ∀(z0:Z) (s0:σ) (r:σ),gj k Y a1 s0=some r→dk M 208 [.eq (.func (.yield l) #[] #[]),Pt c] ([.obj c 23 (Ri a1)]++E z0 s0) (fun z:Z=>(bq [],[.obj c 23 (Ri a1)]++E z r)):=by
 intro z0 s0 r h
 unfold gj at h
 replace h:=a9 h
 refine dk.of 19 Tryz.func208 rfl Tryz.ntmps208 rfl fun S w0=>?_
 refine sr ?_
 refine lo cG ?_
 refine ol eO ?_
 obtain⟨x1,u,h⟩:=aa h
 refine jb (fH rfl u) ?_
 refine aq ?_
 refine nt ?_
 refine aj ?_
 refine aJ (Z:=Z) (α:=Int×σ) (fun z3 y2=>[(0,.eq (.func (.yield l) #[] #[])),(1,Pt c),(3,I y2.1)]) (fun z3 y2=>[.obj c 23 (Ri a1)]++E z3 y2.2) (co k a1 Y) k z0 (x1,s0) (fun _=>rfl) h (aZ [.obj c 23 (Ri a1)] (E z0 s0) [0] ⟨rfl,rfl,rfl,trivial⟩ rfl) (fun n z3 y2 h=>?_)
 unfold co at h
 refine ah ?_
 refine sr ?_
 refine mq ?_
 refine jb (pm rfl) ?_
 refine nt ?_
 refine ci h (fun h=>?_) (fun h=>?_)
 ·
  refine sk (ah (aj (sr ?_)));iterate 2 refine mq ?_
  refine lo cG ?_;refine mq ?_;obtain⟨x4,j,h⟩:=aa h;refine jb (aN (t:=(.int .i64)) rfl eO cR j) ?_;refine ja (ar (t:=(.int .i64)) rfl cR rfl) ?_;obtain⟨r5,x,h⟩:=aa h;refine ot [.obj c 23 (Ri a1)] rfl rfl rfl (wi [.tmp 12,.tmp 16] rfl rfl rfl (hY z3 y2.2 (y2.1,x4) r5 x)) ⟨rfl,rfl,rfl,trivial⟩ fun z6=>?_;refine ja (eR rfl) ?_;refine nt (cw h (fun h=>?_) (fun h=>?_))
  ·refine aA (br (bf ?_));cases h;exact ik z6 [] trivial rfl
  ·refine aU (aI (tn (ab (mq ?_))));obtain⟨x7,e,h⟩:=aa h;refine jb (fH rfl e) ?_;refine aq (nl ?_);exact iz (z6,(x7,r5.1)) h (aZ [.obj c 23 (Ri a1)] (E z6 r5.1) [0] ⟨rfl,rfl,rfl,trivial⟩ rfl)
 ·
  refine dF (aM (aM (bR (iC ?_))));cases h;exact ik z3 [] trivial rfl
theorem o0(a0:(List Int)):bX Tryz.prog 190 [Ri a0] [] (fun z:Nat=>(bq [.eq (.func (.func 208) #[] #[(Pv z)])],[.obj z 23 (Ri a0)])):=by
 refine bX.of 4 Tryz.func190 rfl Tryz.ntmps190 rfl fun S w0=>?_;refine sr (bx fun z=>?_);refine cq (nt (sr ?_));refine ja (rH [] [.tmp 1] [] [(Pv z)] rfl rfl rfl) ?_;refine aq (nt (aA ?_));exact aG z [_] 1 ⟨rfl,trivial⟩ rfl
def nD(k:Nat)(a0:(List Int)):Option (List Int):=
 (gj k (pj (fun(y3:(List Int)) (p5:(Int×Int))=>
  some ((p5.2::y3),true))) a0 ([],false)).bind fun r6=>
 if r6.2=true then(none) else(some r6.1)
theorem xG(k:Nat)(a0:(List Int))(r:(List Int))(h:nD k a0=some r):
 bX Tryz.prog 157 [Ri a0] [] (fun _:Unit=>(bq [.rep (.lst (.int .i64)) r],[])):=by
 unfold nD at h
 replace h:=a9 h
 refine xg 15 Tryz.func157 rfl Tryz.ntmps157 rfl fun {M} S w0=>?_
 refine sr ?_
 refine cq ?_
 refine nt ?_
 refine sr ?_
 refine aF rfl rfl rfl (bL rfl LX OH) trivial fun b1=>?_
 refine nt ?_
 refine ah ?_
 refine sr ?_
 refine mq ?_
 refine aF rfl rfl rfl (ao [.tmp 6] rfl rfl N9 rfl (o0 a0)) ⟨rfl,trivial⟩ fun b2=>?_
 refine nt ?_
 refine aj ?_
 refine iD 1 rfl ?_
 refine gd (qX (a:=.eq (.pointer none)) (a':=.rep (.lst (.int .i64)) []) (AL .lnil)) ?_
 refine iD 1 rfl ?_
 obtain⟨r6,c,h⟩:=aa h
 refine m8 (Δ:=[.obj b2 23 (Ri a0),.obj b1 216 (.rep (.lst (.int .i64)) [])]) (F:=[]) (X:=Unit) (J:=fun _=>Ia r6.2) (E:=fun z4=>[.obj b2 23 (Ri a0),.obj b1 216 (.rep (.lst (.int .i64)) r6.1)]) (r0:=fun _=>.tup .any) rfl rfl N5 (fun rec hp ha hb hs hpe hN hv l=>?_) (fun dl z4=>pz (fun hj=>?_) (fun hj=>?_))
 ·
  rcases rec with⟨st0,pe0,fn0,tm0,ps0,as0,bd0,df0⟩;dsimp only at hp ha hb hs hpe hN hv;subst hp hs hpe;have vN:ul tm0 [(3,Pt b1)]:=⟨congrArg A.eq (hv 3 _ rfl).symm,trivial⟩;refine dk.pick (M:=M) [1,0,2] [1,0,2] (nm (fun(z4:Unit) (q:(List Int)×Bool)=>[.raw l (.loop (i9 ⟨.ready,none,fn0,tm0, #[8,9],as0,bd0,df0⟩ (Ia q.2))),.obj b1 216 (.rep (.lst (.int .i64)) q.1)]) l (pj (fun(y3:(List Int)) (p5:(Int×Int))=>
  some ((p5.2::y3),true))) k a0 b2 (fun z4 q p r' h=>?_) () ([],false) r6 c) rfl (fun _=>rfl) (fun _=>rfl)
  obtain⟨rq,hq,h2,rfl⟩:=pA h;obtain⟨y3,b5⟩:=q;obtain rfl:b5=false:=hq;replace h:=a9 h2;obtain⟨p5,hpv⟩:∃x,x=p:=⟨_,rfl⟩;subst hpv;refine YT.pick (R':=(fun z4:Unit=>(.eq (.bool rq.2),[.raw l (.loop (i9 ⟨.ready,none,fn0,tm0, #[8,9],as0,bd0,df0⟩ (Ia (!rq.2)))),.obj b1 216 (.rep (.lst (.int .i64)) rq.1)]))) [0,1] [0,1] (IX ha hb (N:=15) (Γ:=[(3,Pt b1)]) rfl hN (by decide) vN (fun S w=>?_)) rfl (fun _=>rfl) (fun _=>rfl);refine ab (aq (nl ?_));refine uu rfl rfl ?_;refine aj (ab (mq ?_));refine fr 1 ?_;refine lo xM ?_;refine jb (dt [(0,.tmp 10,_),(1,.tmp 11,_)] rfl MN LW Lu (i7 ⟨rfl,rfl,trivial⟩) rfl) ?_;refine aF rfl rfl rfl (mo rfl trivial) ⟨rfl,trivial⟩ fun b7=>?_;refine cS (kF (t:=D6) (x:=(p5.2,y3)) [13] (.agg (.pair .int .rep)) ⟨rfl,trivial⟩) ?_;refine bg rfl rfl (ba rfl xM trivial rfl rfl) ⟨rfl,rfl,trivial⟩ ?_;refine ap (aI (bI (qX (a:=.at D6 (p5.2,y3)) (a':=.rep (.lst (.int .i64)) (p5.2::y3)) (AL .lcons)) ?_));refine du 1 rfl ?_;cases h;exact sd () 1 rfl
 ·
  replace h:=bQ (DD hj) h;refine aI (tn (sr (fr 2 ?_)));refine lo xM ?_;refine aq (nt (aA ?_));refine du 1 rfl ?_;refine xe ?_;cases h;exact ra
 ·
  replace h:=cM (DC hj) h;cases h
def f8(k:Nat)(a1:Int):Nat→(Int×(List Int)×(List Int)×(List Int))→Option (Int×(List Int))
 |0,_=>none
 |n+1,y2=>
  if List.isEmpty y2.2.2.2=true then((d6 (bV (List.length y2.2.2.1+List.length y2.2.1))).bind fun _=>
  some (y2.1,y2.2.2.1++y2.2.1)) else((nz y2.2.2.2).bind fun x6=>
  (dI k a1 x6.1).bind fun r7=>
  if r7=true then((nz y2.2.2.2).bind fun x8=>
  (d6 (bV (List.length y2.2.1+List.length [x8.1]))).bind fun _=>
  (nz y2.2.2.2).bind fun l=>
  f8 k a1 n (y2.1,y2.2.1++[x8.1],y2.2.2.1,l.2)) else(((if 0 < (y2.2.1.length:Int) then((nz y2.2.2.2).bind fun h=>
  (d3 k y2.1 h.1).bind fun r=>
  some r) else(some y2.1)):Option (Int)).bind fun j=>
  (nz y2.2.2.2).bind fun c=>
  (d6 (bV (List.length y2.2.2.1+List.length [c.1]))).bind fun _=>
  (nz y2.2.2.2).bind fun e=>
  f8 k a1 n (j,y2.2.1,y2.2.2.1++[c.1],e.2)))
def mb(k:Nat)(a0:(List Int))(a1:Int):Option (Int×(List Int)):=
 (nD k a0).bind fun r1=>
 f8 k a1 k (0,([]:(List Int)),([]:(List Int)),r1)
theorem sj(k:Nat)(a0:(List Int))(a1:Int)(r:Int×(List Int))(h:mb k a0 a1=some r):
 bX Tryz.prog 127 [Ri a0,.eq (.int .u8 a1)] [] (fun _:Unit=>(bq [.eq (.int .u8 r.1),Ri r.2],[])):=by
 unfold mb at h
 replace h:=a9 h
 refine bX.of 54 Tryz.func127 rfl Tryz.ntmps127 rfl fun S w0=>?_
 refine sr ?_
 refine cq ?_
 refine cq ?_
 refine nt ?_
 refine Dv rfl (Bh (by kernel_rfl) (Bh (by kernel_rfl) (KX KW))) ?_
 refine sr ?_
 refine cq ?_
 refine cq ?_
 refine nt ?_
 refine sr ?_
 refine mq ?_
 obtain⟨r1,mc,h⟩:=aa h
 have pp:=xG k a0 r1 mc
 refine ja (ao [.tmp 9] rfl rfl Of rfl pp) ?_
 refine aq ?_
 refine nt ?_
 refine ah ?_
 refine G2 ?_
 refine tn ?_
 refine gd (SE.nil 3 (.int .i64)) ?_
 refine gd (SE.nil 3 (.int .i64)) ?_
 refine AK (Z:=Value×Value) (α:=Int×(List Int)×(List Int)×(List Int)) rfl (fun z3 y2=>[(1,.eq (.int .u8 a1)),(4,.eq (.int .u8 y2.1)),(6,.eq z3.1),(7,.eq z3.2),(8,.rep (.lst (.int .i64)) y2.2.2.2)]) (fun z3 y2=>[.sl z3.1 3 (.int .i64) y2.2.1,.sl z3.2 3 (.int .i64) y2.2.2.1]) (f8 k a1) k ((.slice none 0 0),(.slice none 0 0)) (0,([]:(List Int)),([]:(List Int)),r1) (fun _=>rfl) h (SE.fin [1,0] ⟨rfl,rfl,rfl,rfl,rfl,trivial⟩ rfl) (fun n z3 y2 h=>?_)
 unfold f8 at h
 refine ah ?_
 refine sr ?_
 refine mq ?_
 refine jb (EJ rfl Qm) ?_
 refine nt ?_
 refine cv h (fun h=>?_) (fun h=>?_)
 ·
  refine sr ?_;iterate 3 refine mq ?_
  refine cS (gI [6,15] ⟨rfl,rfl,trivial⟩) ?_;obtain⟨u4,Y,h⟩:=aa h;refine ek rfl rfl rfl (cp rfl rfl eP (aC Y)) ⟨rfl,rfl,trivial⟩ fun v5=>?_;refine aq ?_;refine aq (nt (rx ?_));refine G1 ?_;refine bI (gI [5,16] ⟨rfl,rfl,trivial⟩) ?_;cases h;exact rb
 ·
  refine sk (ah (sr ?_));iterate 2 refine mq ?_
  obtain⟨x6,U,h⟩:=aa h;refine ja (kC rfl U) ?_;refine ja (aH 1 false rfl sX rfl) ?_;refine ja (ar (t:=(.int .i64)) rfl cR rfl) ?_;obtain⟨r7,ac,h⟩:=aa h;refine jb (ao [.tmp 17,.tmp 21] rfl rfl ID rfl (gZ k a1 x6.1 r7 ac)) ?_;refine nt (cv h (fun h=>?_) (fun h=>?_))
  ·refine sr ?_;iterate 2 refine mq ?_
   obtain⟨x8,Q,h⟩:=aa h;refine ja (kC rfl Q) ?_;refine ja (aH 1 false rfl sX rfl) ?_;refine ja (ar (t:=(.int .i64)) rfl cR rfl) ?_;refine ja (bG (t:=(.int .i64)) [(.tmp 27,_)] [x8.1] rfl rfl eP (.cons rfl .int .nil) rfl rfl) ?_;obtain⟨u9,X,h⟩:=aa h;refine ek rfl rfl rfl (cp rfl rfl eP (aC X)) ⟨rfl,rfl,trivial⟩ fun O=>?_;refine aq (nt (sr ?_));refine mq ?_;obtain⟨J,y,h⟩:=aa h;refine ja (kC rfl y) ?_;refine ja (aH 1 false rfl Bf rfl) ?_;refine ja (ar (t:=(.lst (.int .i64))) rfl xM rfl) ?_;refine aq (nt ?_);refine BE ?_;refine Du ?_;exact BB ((O,z3.2),(y2.1,y2.2.1++[x8.1],y2.2.2.1,J.2)) h (SE.fin [0,1] ⟨rfl,rfl,rfl,rfl,rfl,trivial⟩ rfl)
  ·refine sk (aW (Z:=Unit) (α:=Int) (fun e c=>[(1,.eq (.int .u8 a1)),(4,.eq (.int .u8 c)),(6,.eq z3.1),(7,.eq z3.2),(8,.rep (.lst (.int .i64)) y2.2.2.2)]) (fun e c=>[.sl z3.1 3 (.int .i64) y2.2.1,.sl z3.2 3 (.int .i64) y2.2.2.1]) h (fun K h=>?_) (fun e c h=>?_))
   ·refine sr (mq ?_);refine ka (cO rfl rfl eO) ?_;refine jb (jK rfl) ?_;refine nt (ci h (fun h=>?_) (fun h=>?_))
    ·refine ab ?_;iterate 2 refine mq ?_
     obtain⟨I,x,h⟩:=aa h;refine ja (kC rfl x) ?_;refine ja (aH 1 false rfl sX rfl) ?_;refine ja (ar (t:=(.int .i64)) rfl cR rfl) ?_;obtain⟨l,E,h⟩:=aa h;refine jb (ao [.tmp 37,.tmp 41] rfl rfl Bl rfl (iE k y2.1 I.1 l E)) ?_;refine aq (nl ?_);exact jz ((),l) h [0,1]
    ·refine aU (ae ?_);exact jz ((),y2.1) h [0,1]
   ·refine sr ?_;iterate 2 refine mq ?_
    obtain⟨j,u,h⟩:=aa h;refine ja (kC rfl u) ?_;refine ja (aH 1 false rfl sX rfl) ?_;refine ja (ar (t:=(.int .i64)) rfl cR rfl) ?_;refine ja (bG (t:=(.int .i64)) [(.tmp 47,_)] [j.1] rfl rfl eP (.cons rfl .int .nil) rfl rfl) ?_;obtain⟨qt,D,h⟩:=aa h;refine fr 1 ?_;refine ek rfl rfl rfl (cp rfl rfl eP (aC D)) ⟨rfl,rfl,trivial⟩ fun M=>?_;refine aq (nt (sr ?_));refine mq ?_;obtain⟨F,s,h⟩:=aa h;refine ja (kC rfl s) ?_;refine ja (aH 1 false rfl Bf rfl) ?_;refine ja (ar (t:=(.lst (.int .i64))) rfl xM rfl) ?_;refine aq (nt ?_);refine BE ?_;exact BB ((z3.1,M),(c,y2.2.1,y2.2.2.1++[j.1],F.2)) h (SE.fin [1,0] ⟨rfl,rfl,rfl,rfl,rfl,trivial⟩ rfl)
def cX(k:Nat)(a0:(List Int))(a1:Int):Nat→Int→Option (Except Int Unit)
 |0,_=>none
 |n+1,y3=>
  if y3 < (a0.length:Int) then((a8 a0 y3).bind fun x5=>
  if a1=x5 then(some (.error y3)) else((ck (y3+1)).bind fun x6=>
  cX k a0 a1 n x6)) else(some (.ok ()))
def iu(k:Nat)(a0:(List Int))(a1:Int):Option Int:=
 bE (α:=Unit) (cX k a0 a1 k 0) (some) fun _=>
 some (-1:Int)
theorem rz(k:Nat)(a0:(List Int))(a1:Int)(r:Int)(h:iu k a0 a1=some r):
 bX Tryz.prog 123 [Ri a0,I a1] [] (fun _:Unit=>(bq [I r],[])):=by
 unfold iu at h
 replace h:=a9 h
 refine bX.of 19 Tryz.func123 rfl Tryz.ntmps123 rfl fun S w0=>?_
 refine sr ?_
 refine cq ?_
 refine nt ?_
 refine eX (Z:=Unit) (α:=Unit) (fun z2 x1=>[]) (fun z2 x1=>[]) (fun e=>e=r) h (fun e h=>Option.some.inj h) (fun K hR h=>?_) (fun z2 x1 h=>?_)
 ·
  refine sr (mq ?_);refine ol eO ?_;refine eG rfl ?_;refine nt (aj (aJ (fun z4 y3=>[(0,Ri a0),(1,I a1),(7,I (a0.length:Int)),(8,I y3)]) (fun z4 y3=>[]) (cX k a0 a1) k () 0 (fun _=>rfl) h (SE.fin [] ⟨rfl,rfl,rfl,rfl,trivial⟩ rfl) (fun n z4 y3 h=>?_)));unfold cX at h;refine sr (jb (bH rfl) ?_);refine nt (ah (ci h (fun h=>?_) (fun h=>?_)))
  ·refine sk (ah (aj (sr (mq ?_))));refine aq (nt (sr ?_));iterate 3 refine mq ?_
   obtain⟨x5,j,h⟩:=aa h;refine jb (aN (t:=(.int .i64)) rfl eO cR j) ?_;refine ja (ar (t:=(.int .i64)) rfl cR rfl) ?_;refine jb (eS rfl) ?_;refine nt (ci h (fun h=>?_) (fun h=>?_))
   ·refine sr (mq ?_);refine aq (nt (aA (br (bf (aP ?_)))));obtain rfl:=hR _ h;exact ra
   ·refine aU (aI (tn (ab ?_)));obtain⟨x6,c,h⟩:=aa h;refine jb (bj rfl c) ?_;refine mq (nl ?_);exact jz ((),x6) h []
  ·refine xa ?_;exact jz ((),()) h []
 ·
  refine sr (cq (nt (aA ?_)));cases h;exact ra
def fQ(k:Nat)(a0:(List Int))(a1:Int):Option Bool:=
 (iu k a0 a1).bind fun r1=>
 some (decide (0≤r1))
theorem oY(k:Nat)(a0:(List Int))(a1:Int)(r:Bool)(h:fQ k a0 a1=some r):
 bX Tryz.prog 158 [Ri a0,I a1] [] (fun _:Unit=>(bq [.eq (.bool r)],[])):=by
 unfold fQ at h
 replace h:=a9 h
 refine bX.of 9 Tryz.func158 rfl Tryz.ntmps158 rfl fun S w0=>?_
 refine sr ?_
 refine cq ?_
 refine nt ?_
 refine sr ?_
 iterate 2 refine mq ?_
 obtain⟨r1,c,h⟩:=aa h
 have e:=rz k a0 a1 r1 c
 refine jb (ao [.tmp 5,.tmp 6] rfl rfl Ot rfl e) ?_
 refine jb (pm rfl) ?_
 refine aq ?_
 refine nt ?_
 refine aA ?_
 cases h
 exact ra
def eH(k:Nat)(a0:cV)(a1:Int):Nat→(Int×Int)→Option Int
 |0,_=>none
 |n+1,y3=>
  if y3.2 < (a0.1.2.1.length:Int) then((((a8 a0.1.2.1 y3.2).bind fun x7=>
  (fQ k x7.2 a1).bind fun r9=>
  if r9=true then((d3 k y3.1 y3.2).bind fun e=>
  some e) else(some y3.1)):Option (Int)).bind fun x5=>
  (ck (y3.2+1)).bind fun c=>
  eH k a0 a1 n (x5,c)) else(some y3.1)
def gz(k:Nat)(a0:cV)(a1:Int):Option Int:=
 ((eH k a0 a1 k (0,0)):Option (Int)).bind fun x1=>
 some x1
theorem l9(k:Nat)(a0:cV)(a1:Int)(r:Int)(h:gz k a0 a1=some r):
 bX Tryz.prog 128 [.at bz a0,I a1] [] (fun _:Unit=>(bq [.eq (.int .u8 r)],[])):=by
 unfold gz at h
 replace h:=a9 h
 refine bX.of 28 Tryz.func128 rfl Tryz.ntmps128 rfl fun S w0=>?_
 refine sr ?_
 refine cq ?_
 refine nt ?_
 refine sr ?_
 refine cq ?_
 refine nt ?_
 refine aW (Z:=Unit) (α:=Int) (fun z2 x1=>[(5,.eq (.int .u8 x1))]) (fun z2 x1=>[]) h (fun K h=>?_) (fun z2 x1 h=>?_)
 ·
  refine sr (mq ?_);refine ja (dr rfl) ?_;refine ja (aH 3 true rfl jl rfl) ?_;refine ja (aH 1 false rfl dW rfl) ?_;refine ja (ar (t:=(.slice aY)) rfl jY rfl) ?_;refine ol sb ?_;refine eG rfl ?_;refine nt (aj (aJ (fun z4 y3=>[(1,I a1),(5,.eq (.int .u8 y3.1)),(12,Rs aY a0.1.2.1),(13,I (a0.1.2.1.length:Int)),(14,I y3.2)]) (fun z4 y3=>[]) (eH k a0 a1) k () (0,0) (fun _=>rfl) h (SE.fin [] ⟨rfl,rfl,rfl,rfl,rfl,trivial⟩ rfl) (fun n z4 y3 h=>?_)));unfold eH at h;refine sr (jb (bH rfl) ?_);refine nt (ah (ci h (fun h=>?_) (fun h=>?_)))
  ·refine sk (aW (Z:=Unit) (α:=Int) (fun z6 x5=>[(1,I a1),(5,.eq (.int .u8 x5)),(12,Rs aY a0.1.2.1),(13,I (a0.1.2.1.length:Int)),(14,I y3.2)]) (fun z6 x5=>[]) h (fun K h=>?_) (fun z6 x5 h=>?_))
   ·refine aj (sr (mq ?_));obtain⟨x7,s,h⟩:=aa h;refine jb (aN (t:=aY) rfl sb mf s) ?_;refine ja (ar (t:=aY) rfl mf rfl) ?_;refine aF rfl rfl rfl (bL rfl vS IS) trivial fun b8=>?_;refine aq ?_;refine bg rfl rfl (ba rfl mf rfl rfl rfl) ⟨rfl,rfl,trivial⟩ ?_;refine nt (sr (fl nY ?_));refine lo cG ?_;refine mq ?_;obtain⟨r9,u,h⟩:=aa h;refine jb (ao [.tmp 20,.tmp 21] rfl rfl Oe rfl (oY k x7.2 a1 r9 u)) ?_;refine nt (cv h (fun h=>?_) (fun h=>?_))
    ·refine ab ?_;iterate 2 refine mq ?_
     obtain⟨c,j,h⟩:=aa h;refine jb (ao [.tmp 23,.tmp 24] rfl rfl Bl rfl (iE k y3.1 y3.2 c j)) ?_;refine aq (ap (bn ?_));exact jz ((),c) h []
    ·refine aU (bn ?_);exact jz ((),y3.1) h []
   ·refine ab ?_;obtain⟨l,e,h⟩:=aa h;refine jb (bj rfl e) ?_;refine mq (nl ?_);exact jz ((),(x5,l)) h []
  ·refine xa ?_;exact jz ((),y3.1) h []
 ·
  refine sr (mq ?_);refine aq (nt (aA ?_));cases h;exact ra
def cE(k:Nat)(a0:cV)(a1:(List (List Int)))(a2:Int):Nat→(Int×(List (List Int))×Int)→Option (Int×(List (List Int)))
 |0,_=>none
 |n+1,y5=>
  if y5.2.2 < 3 then((dD k a1 y5.2.2).bind fun r7=>
  (gz k a0 a2).bind fun r8=>
  (mb k r7 r8).bind fun r9=>
  (d6 (bV (List.length y5.2.1+List.length [r9.2]))).bind fun _=>
  (ck (y5.2.2+1)).bind fun c=>
  cE k a0 a1 a2 n (A9 .u8 y5.1 r9.1,y5.2.1++[r9.2],c)) else(some (y5.1,y5.2.1))
def ig(k:Nat)(a0:cV)(a1:(List (List Int)))(a2:Int):Option (Int×(List (List Int))):=
 ((cE k a0 a1 a2 k (0,([]:(List (List Int))),0)):Option (Int×(List (List Int)))).bind fun x3=>
 (dn k x3.2).bind fun c=>
 some (x3.1,c)
theorem nc(k:Nat)(a0:cV)(a1:(List (List Int)))(a2:Int)(r:Int×(List (List Int)))(h:ig k a0 a1 a2=some r):
 bX Tryz.prog 85 [.at bz a0,.rep (.arr 3 (.arr 5 (.int .i64))) a1,I a2] [] (fun _:Unit=>(bq [.eq (.int .u8 r.1),.rep (.arr 3 (.arr 5 (.int .i64))) r.2],[])):=by
 unfold ig at h
 replace h:=a9 h
 refine bX.of 37 Tryz.func85 rfl Tryz.ntmps85 rfl fun S w0=>?_
 refine sr ?_
 refine bx fun b1=>?_
 refine cq ?_
 refine aF rfl rfl rfl (bL rfl l5 mF) trivial fun b2=>?_
 refine nt ?_
 refine sr ?_
 refine cq ?_
 refine nt ?_
 refine sr ?_
 refine cq ?_
 refine nt ?_
 refine aW (Z:=Value) (α:=Int×(List (List Int))) (fun z4 x3=>[(7,Pt b2),(8,.eq (.int .u8 x3.1)),(9,.eq z4)]) (fun z4 x3=>[.obj b2 107 (.rep (.arr 3 (.arr 5 (.int .i64))) [[0,0,0,0,0],[0,0,0,0,0],[0,0,0,0,0]]),.sl z4 23 (.slice (.int .i64)) x3.2]) h (fun K h=>?_) (fun z4 x3 h=>?_)
 ·
  refine sr (eG rfl ?_);refine nt (aj (gd (SE.nil 23 (.slice (.int .i64))) ?_));refine aJ (fun z6 y5=>[(0,.at bz a0),(2,I a2),(4,Pt b1),(7,Pt b2),(8,.eq (.int .u8 y5.1)),(9,.eq z6),(13,I y5.2.2)]) (fun z6 y5=>[.obj b1 107 (.rep (.arr 3 (.arr 5 (.int .i64))) a1),.obj b2 107 (.rep (.arr 3 (.arr 5 (.int .i64))) [[0,0,0,0,0],[0,0,0,0,0],[0,0,0,0,0]]),.sl z6 23 (.slice (.int .i64)) y5.2.1]) (cE k a0 a1 a2) k (.slice none 0 0) (0,([]:(List (List Int))),0) (fun _=>rfl) h (SE.fin [2,1,0] ⟨rfl,rfl,rfl,rfl,rfl,rfl,rfl,trivial⟩ rfl) (fun n z6 y5 h=>?_);unfold cE at h;refine sr (jb (bH rfl) ?_);refine nt (ah (ci h (fun h=>?_) (fun h=>?_)))
  ·refine sk (ah (aj (sr (mq ?_))));refine aq (nt (sr ?_));refine lo cT ?_;refine mq ?_;obtain⟨r7,D,h⟩:=aa h;refine jb (ao [.tmp 17,.tmp 18] rfl rfl Bm rfl (fP k a1 y5.2.2 r7 D)) ?_;iterate 2 refine mq ?_
   obtain⟨r8,y,h⟩:=aa h;refine jb (ao [.tmp 20,.tmp 21] rfl rfl Oo rfl (l9 k a0 a2 r8 y)) ?_;obtain⟨r9,x,h⟩:=aa h;refine jb (ao [.tmp 19,.tmp 22] rfl rfl Oq rfl (sj k r7 r8 r9 x)) ?_;refine mq ?_;refine xr ?_;refine xr ?_;refine aq ?_;refine aq (nt (sr ?_));iterate 2 refine mq ?_
   refine jb (MS rfl) ?_;refine aq (nt (ab ?_));iterate 2 refine mq ?_
   refine ja (bG (t:=(.slice (.int .i64))) [(.tmp 30,_)] [r9.2] rfl rfl tj (.cons rfl .rep .nil) rfl rfl) ?_;obtain⟨E,j,h⟩:=aa h;refine fr 2 ?_;refine ek rfl rfl rfl (cp rfl rfl tj (aC j)) ⟨rfl,rfl,trivial⟩ fun u=>?_;refine aq (ap (aI (tn (ab ?_))));obtain⟨s,e,h⟩:=aa h;refine jb (bj rfl e) ?_;refine mq (nl ?_);exact jz (u,(A9 .u8 y5.1 r9.1,y5.2.1++[r9.2],s)) h [1,2,0]
  ·refine xa ?_;exact jz (z6,(y5.1,y5.2.1)) h [1,2]
 ·
  refine sr ?_;iterate 2 refine mq ?_
  obtain⟨c,l,h⟩:=aa h;refine fr 1 ?_;refine ka (pX (N:=[(.tmp 35,.eq z4)]) (ao [.tmp 35] rfl rfl Av rfl (dJ k x3.2 c l)) (fun _ _ _ hv hn=>⟨(lend hn.1 hv),trivial⟩) (fun _=>⟨rfl,ud⟩)) ?_;refine aq ?_;refine fr 1 ?_;refine bg rfl rfl (ba rfl cT rfl rfl rfl) ⟨rfl,rfl,trivial⟩ ?_;refine nt (aA ?_);cases h;exact aG () [_,.rep (.arr 3 (.arr 5 (.int .i64))) c] 0 ⟨rfl,⟨_,_,_,_,_,rfl,(.head _),cT,(xk),rfl⟩,trivial⟩ rfl
def dQ(k:Nat)(a0:cV)(a1:(List (List Int))):Nat→((List (List Int))×Int)→Option (List (List Int))
 |0,_=>none
 |n+1,y6=>
  if y6.2 < ((List.replicate (Int.toNat (a0.1.2.2.length:Int)) ([]:(List Int))).length:Int) then((dD k a1 y6.2).bind fun r8=>
  (a8 y6.1 y6.2).bind fun x9=>
  (ck (y6.2+1)).bind fun c=>
  dQ k a0 a1 n (List.set y6.1 (Int.toNat y6.2) r8,c)) else(some y6.1)
def dH(k:Nat)(a0:cV)(a1:(List (List Int))):Option (List (List Int)):=
 (d6 (0≤(a0.1.2.2.length:Int)∧bV (Int.toNat (a0.1.2.2.length:Int)))).bind fun _=>
 ((dQ k a0 a1 k (List.replicate (Int.toNat (a0.1.2.2.length:Int)) ([]:(List Int)),0)):Option ((List (List Int)))).bind fun x4=>
 some x4
theorem gP(k:Nat)(a0:cV)(a1:(List (List Int)))(r:(List (List Int)))(h:dH k a0 a1=some r):
 bX Tryz.prog 88 [.at bz a0,.rep (.arr 3 (.arr 5 (.int .i64))) a1] [] (fun z:Value=>(bq [.eq z],[.sl z 23 (.slice (.int .i64)) r])):=by
 unfold dH at h
 replace h:=a9 h
 refine bX.of 27 Tryz.func88 rfl Tryz.ntmps88 rfl fun S w0=>?_
 refine sr ?_
 refine bx fun b1=>?_
 refine cq ?_
 refine nt ?_
 refine sr ?_
 refine mq ?_
 refine ja (dr rfl) ?_
 refine ja (aH 3 true rfl jl rfl) ?_
 refine ja (aH 1 false rfl fF rfl) ?_
 refine ja (ar (t:=(.slice (.int .i64))) rfl cG rfl) ?_
 refine ol eO ?_
 obtain⟨u2,j,h⟩:=aa h
 refine aF rfl rfl rfl (EI (t:=(.slice (.int .i64))) (d:=([]:(List Int))) rfl tj Pm (aC j).1 (aC j).2) ⟨rfl,rfl,trivial⟩ fun v3=>?_
 refine aq ?_
 refine nt ?_
 refine aW (Z:=Unit) (α:=(List (List Int))) (fun z5 x4=>[(5,.eq v3)]) (fun z5 x4=>[.sl v3 23 (.slice (.int .i64)) x4]) h (fun K h=>?_) (fun z5 x4 h=>?_)
 ·
  refine sr (mq ?_);refine ka (cO rfl rfl nu) ?_;refine eG rfl ?_;refine nt (aj (aJ (fun z7 y6=>[(3,Pt b1),(5,.eq v3),(15,I ((List.replicate (Int.toNat (a0.1.2.2.length:Int)) ([]:(List Int))).length:Int)),(16,I y6.2)]) (fun z7 y6=>[.obj b1 107 (.rep (.arr 3 (.arr 5 (.int .i64))) a1),.sl v3 23 (.slice (.int .i64)) y6.1]) (dQ k a0 a1) k () (List.replicate (Int.toNat (a0.1.2.2.length:Int)) ([]:(List Int)),0) (fun _=>rfl) h (SE.fin [1,0] ⟨rfl,rfl,rfl,rfl,trivial⟩ rfl) (fun n z7 y6 h=>?_)));unfold dQ at h;refine sr (jb (bH rfl) ?_);refine nt (ah (ci h (fun h=>?_) (fun h=>?_)))
  ·refine sk (ah (aj (sr (mq ?_))));refine aq (nt (ab ?_));iterate 2 refine mq ?_
   refine lo cT ?_;refine mq ?_;obtain⟨r8,s,h⟩:=aa h;refine jb (ao [.tmp 21,.tmp 22] rfl rfl Bm rfl (fP k a1 y6.2 r8 s)) ?_;obtain⟨x9,c,h⟩:=aa h;refine fr 1 ?_;refine kb (be (t:=(.slice (.int .i64))) rfl nu cG c) ?_;refine bg rfl rfl (dK (i:=Int.toNat y6.2) rfl cG rfl (jk c) rfl .rep rfl) ⟨rfl,rfl,trivial⟩ ?_;refine ap (aI (tn (ab ?_)));obtain⟨l,e,h⟩:=aa h;refine jb (bj rfl e) ?_;refine mq (nl ?_);exact jz ((),(List.set y6.1 (Int.toNat y6.2) r8,l)) h [1,0]
  ·refine xa ?_;exact jz ((),y6.1) h [1]
 ·
  refine sr (mq ?_);refine aq (nt (aA ?_));cases h;exact aG v3 [.eq v3] 1 ⟨rfl,trivial⟩ rfl
def dp(k:Nat)(a0:(List Int))(a1:(List Int)):Nat→Int→Option (Except Bool Unit)
 |0,_=>none
 |n+1,y3=>
  if y3 < (a0.length:Int) then((a8 a0 y3).bind fun x5=>
  (a8 a1 y3).bind fun x6=>
  if¬(x5=x6) then(some (.error false)) else((ck (y3+1)).bind fun x7=>
  dp k a0 a1 n x7)) else(some (.ok ()))
def ft(k:Nat)(a0:(List Int))(a1:(List Int)):Option Bool:=
 if¬((a0.length:Int)=(a1.length:Int)) then(some false) else(bE (α:=Unit) (dp k a0 a1 k 0) (some) fun _=>
 some true)
theorem j7(k:Nat)(a0:(List Int))(a1:(List Int))(r:Bool)(h:ft k a0 a1=some r):
 bX Tryz.prog 37 [Ri a0,Ri a1] [] (fun _:Unit=>(bq [.eq (.bool r)],[])):=by
 unfold ft at h
 replace h:=a9 h
 refine bX.of 26 Tryz.func37 rfl Tryz.ntmps37 rfl fun S w0=>?_
 refine sr ?_
 refine cq ?_
 refine nt ?_
 refine ah ?_
 refine sr ?_
 refine mq ?_
 refine ol eO ?_
 refine mq ?_
 refine ol eO ?_
 refine jb (jf rfl) ?_
 refine nt ?_
 refine cn h (fun h=>?_) (fun h=>?_)
 ·
  refine sr (cq (nt (rx ?_)));cases h;exact ra
 ·
  refine sk (eX (Z:=Unit) (α:=Unit) (fun z2 x1=>[]) (fun z2 x1=>[]) (fun e=>e=r) h (fun e h=>Option.some.inj h) (fun K hR h=>?_) (fun z2 x1 h=>?_))
  ·refine sr (cq (nt (aj ?_)));refine aJ (fun z4 y3=>[(0,Ri a0),(1,Ri a1),(5,I y3)]) (fun z4 y3=>[]) (dp k a0 a1) k () 0 (fun _=>rfl) h (SE.fin [] ⟨rfl,rfl,rfl,trivial⟩ rfl) (fun n z4 y3 h=>?_);unfold dp at h;refine ah (sr ?_);iterate 2 refine mq ?_
   refine ol eO ?_;refine jb (bH rfl) ?_;refine nt (ci h (fun h=>?_) (fun h=>?_))
   ·refine sk (ah (aj (ah (cr ?_))));refine dm ?_;refine dm ?_;obtain⟨x5,l,h⟩:=aa h;refine db (aN (t:=(.int .i64)) rfl eO cR l) ?_;refine da (ar (t:=(.int .i64)) rfl cR rfl) ?_;refine dm ?_;refine dm ?_;obtain⟨x6,j,h⟩:=aa h;refine db (aN (t:=(.int .i64)) rfl eO cR j) ?_;refine da (ar (t:=(.int .i64)) rfl cR rfl) ?_;refine df eZ ?_;refine jb (jf rfl) ?_;refine nt (cn h (fun h=>?_) (fun h=>?_))
    ·refine sr (cq (nt (aA (br (bf (aP ?_))))));obtain rfl:=hR _ h;exact ra
    ·refine aU (aI (tn (ab (mq ?_))));obtain⟨x7,c,h⟩:=aa h;refine jb (bj rfl c) ?_;refine aq (nl ?_);exact jz ((),x7) h []
   ·refine xa ?_;exact jz ((),()) h []
  ·refine sr (cq (nt (aA ?_)));cases h;exact ra
def eK(k:Nat)(a0:(List (List Int)))(a1:(List (List Int))):Nat→Int→Option (Except Bool Unit)
 |0,_=>none
 |n+1,y3=>
  if y3 < (a0.length:Int) then((a8 a0 y3).bind fun x5=>
  (a8 a1 y3).bind fun x6=>
  (ft k x5 x6).bind fun r7=>
  if¬(r7=true) then(some (.error false)) else((ck (y3+1)).bind fun x8=>
  eK k a0 a1 n x8)) else(some (.ok ()))
def eE(k:Nat)(a0:(List (List Int)))(a1:(List (List Int))):Option Bool:=
 if¬((a0.length:Int)=(a1.length:Int)) then(some false) else(bE (α:=Unit) (eK k a0 a1 k 0) (some) fun _=>
 some true)
theorem jx(k:Nat)(a0:(List (List Int)))(a1:(List (List Int)))(r:Bool)(h:eE k a0 a1=some r):
 bX Tryz.prog 38 [.rep (.slice (.slice (.int .i64))) a0,.rep (.slice (.slice (.int .i64))) a1] [] (fun _:Unit=>(bq [.eq (.bool r)],[])):=by
 unfold eE at h
 replace h:=a9 h
 refine bX.of 27 Tryz.func38 rfl Tryz.ntmps38 rfl fun S w0=>?_
 refine sr ?_
 refine cq ?_
 refine nt ?_
 refine ah ?_
 refine sr ?_
 refine mq ?_
 refine ol nu ?_
 refine mq ?_
 refine ol nu ?_
 refine jb (jf rfl) ?_
 refine nt ?_
 refine cn h (fun h=>?_) (fun h=>?_)
 ·
  refine sr (cq (nt (rx ?_)));cases h;exact ra
 ·
  refine sk (eX (Z:=Unit) (α:=Unit) (fun z2 x1=>[]) (fun z2 x1=>[]) (fun e=>e=r) h (fun e h=>Option.some.inj h) (fun K hR h=>?_) (fun z2 x1 h=>?_))
  ·refine sr (cq (nt (aj ?_)));refine aJ (fun z4 y3=>[(0,.rep (.slice (.slice (.int .i64))) a0),(1,.rep (.slice (.slice (.int .i64))) a1),(5,I y3)]) (fun z4 y3=>[]) (eK k a0 a1) k () 0 (fun _=>rfl) h (SE.fin [] ⟨rfl,rfl,rfl,trivial⟩ rfl) (fun n z4 y3 h=>?_);unfold eK at h;refine ah (sr ?_);iterate 2 refine mq ?_
   refine ol nu ?_;refine jb (bH rfl) ?_;refine nt (ci h (fun h=>?_) (fun h=>?_))
   ·refine sk (ah (aj (ah (cr ?_))));refine dm ?_;refine dm ?_;obtain⟨x5,l,h⟩:=aa h;refine db (aN (t:=(.slice (.int .i64))) rfl nu cG l) ?_;refine da (ar (t:=(.slice (.int .i64))) rfl cG rfl) ?_;refine dm ?_;refine dm ?_;obtain⟨x6,j,h⟩:=aa h;refine db (aN (t:=(.slice (.int .i64))) rfl nu cG j) ?_;refine da (ar (t:=(.slice (.int .i64))) rfl cG rfl) ?_;refine df eZ ?_;obtain⟨r7,s,h⟩:=aa h;refine jb (ao [.tmp 20,.tmp 24] rfl rfl Lc rfl (j7 k x5 x6 r7 s)) ?_;refine ja (eR rfl) ?_;refine nt (cw h (fun h=>?_) (fun h=>?_))
    ·refine sr (cq (nt (aA (br (bf (aP ?_))))));obtain rfl:=hR _ h;exact ra
    ·refine aU (aI (tn (ab (mq ?_))));obtain⟨x8,c,h⟩:=aa h;refine jb (bj rfl c) ?_;refine aq (nl ?_);exact jz ((),x8) h []
   ·refine xa ?_;exact jz ((),()) h []
  ·refine sr (cq (nt (aA ?_)));cases h;exact ra
def jG(k:Nat)(a0:List Int):Option (List Int):=
 (d6 (bV (List.length a0))).bind fun _=>some a0
theorem mi(k:Nat)(a0:List Int)(r:List Int)(h:jG k a0=some r):
 bX Tryz.prog 97 [Ri a0] [] (fun z:Value=>(bq [.eq z],[.sl z 3 (.int .i64) r])):=by
 unfold jG at h
 replace h:=a9 h
 refine bX.of 8 Tryz.func97 rfl Tryz.ntmps97 rfl fun S w0=>?_
 obtain⟨u1,c,h⟩:=aa h
 cases h
 refine sr ?_
 refine cq ?_
 refine nt ?_
 refine ah ?_
 refine sr ?_
 refine mq ?_
 refine bC (Δ:=[]) (F:=_) (fun _ _ _=>av rfl _) rfl rfl (HN rfl eO) ⟨rfl,rfl,trivial⟩ fun b=>?_
 refine nt ?_
 refine bD rfl (fun hb=>?_) (fun hb=>?_)
 ·
  refine sr (cq (nt (rx ?_)));obtain rfl:=b.2 hb;refine bI (SE.nil 3 (.int .i64)) ?_;exact aG (.slice none 0 0) [.eq (.slice none 0 0)] 1 ⟨rfl,trivial⟩ rfl
 ·
  refine sk (sr (aF rfl rfl rfl (mT (t:=(.int .i64)) [] [] rfl rfl eP .nil rfl rfl) trivial fun v1=>?_));refine mq ?_;refine ek rfl rfl rfl (cp rfl rfl eP (by simpa using aC c)) ⟨rfl,rfl,trivial⟩ fun v2=>?_;refine aq (nt (aA ?_));exact aG v2 [.eq v2] 1 ⟨rfl,trivial⟩ rfl
def dR(k:Nat)(a0:cV)(a2:Int):Nat→((List (List Int))×Int)→Option (List (List Int))
 |0,_=>none
 |n+1,y5=>
  if y5.2 < a2 then((ig k a0 y5.1 y5.2).bind fun r7=>
  (ck (y5.2+1)).bind fun x8=>
  dR k a0 a2 n (r7.2,x8)) else(some y5.1)
def fN(k:Nat)(a0:cV)(a1:(List (List Int)))(a2:Int):Option (List (List Int)):=
 ((dR k a0 a2 k (a1,0)):Option ((List (List Int)))).bind fun x3=>
 some x3
theorem lA(k:Nat)(a0:cV)(a1:(List (List Int)))(a2:Int)(r:(List (List Int)))(h:fN k a0 a1 a2=some r):
 bX Tryz.prog 103 [.at bz a0,.rep (.arr 3 (.arr 5 (.int .i64))) a1,I a2] [] (fun _:Unit=>(bq [.rep (.arr 3 (.arr 5 (.int .i64))) r],[])):=by
 unfold fN at h
 replace h:=a9 h
 refine bX.of 21 Tryz.func103 rfl Tryz.ntmps103 rfl fun S w0=>?_
 refine sr ?_
 refine bx fun b1=>?_
 refine aF rfl rfl rfl (bL rfl l5 mF) trivial fun b2=>?_
 refine nt ?_
 refine aW (Z:=Unit) (α:=(List (List Int))) (fun z4 x3=>[(4,Pt b1),(6,Pt b2)]) (fun z4 x3=>[.obj b1 107 (.rep (.arr 3 (.arr 5 (.int .i64))) x3),.obj b2 107 (.rep (.arr 3 (.arr 5 (.int .i64))) [[0,0,0,0,0],[0,0,0,0,0],[0,0,0,0,0]])]) h (fun K h=>?_) (fun z4 x3 h=>?_)
 ·
  refine sr (mq ?_);refine eG rfl ?_;refine nt (aj (aJ (fun z6 y5=>[(0,.at bz a0),(4,Pt b1),(6,Pt b2),(8,I a2),(9,I y5.2)]) (fun z6 y5=>[.obj b1 107 (.rep (.arr 3 (.arr 5 (.int .i64))) y5.1),.obj b2 107 (.rep (.arr 3 (.arr 5 (.int .i64))) [[0,0,0,0,0],[0,0,0,0,0],[0,0,0,0,0]])]) (dR k a0 a2) k () (a1,0) (fun _=>rfl) h (SE.fin [1,0] ⟨rfl,rfl,rfl,rfl,rfl,trivial⟩ rfl) (fun n z6 y5 h=>?_)));unfold dR at h;refine sr (jb (bH rfl) ?_);refine nt (ah (ci h (fun h=>?_) (fun h=>?_)))
  ·refine sk (ah (aj (sr (mq ?_))));refine aq (nt (ab ?_));refine mq ?_;refine lo cT ?_;refine mq ?_;obtain⟨r7,e,h⟩:=aa h;refine jc (ao [.tmp 13,.tmp 14,.tmp 15] rfl rfl NY rfl (nc k a0 y5.1 y5.2 r7 e)) ?_;refine mq ?_;refine xr ?_;refine xr ?_;refine bg rfl rfl (ba rfl cT rfl rfl rfl) ⟨rfl,rfl,trivial⟩ ?_;refine ap (aI (tn (ab ?_)));obtain⟨x8,c,h⟩:=aa h;refine jb (bj rfl c) ?_;refine mq (nl ?_);exact jz ((),(r7.2,x8)) h [0,1]
  ·refine xa ?_;exact jz ((),y5.1) h [0,1]
 ·
  refine sr (lo cT ?_);refine fr 1 ?_;refine bg rfl rfl (ba rfl cT rfl rfl rfl) ⟨rfl,rfl,trivial⟩ ?_;refine nt (aA ?_);obtain rfl:=Option.some.inj h;exact aG () [.rep (.arr 3 (.arr 5 (.int .i64))) x3] 0 ⟨⟨_,_,_,_,_,rfl,(.head _),cT,(xk),rfl⟩,trivial⟩ rfl
def kQ(k:Nat)(a0:List Int)(a1 a2:Int):Option (List Int):=
 (d6 (0≤a1∧a1 < a2∧a2≤(a0.length:Int))).bind fun _=>some (a0.take a1.toNat++a0.drop a2.toNat)
theorem qs(k:Nat)(a0:List Int)(v:Value)(a1 a2:Int)(r:List Int)(h:kQ k a0 a1 a2=some r):bX Tryz.prog 143 [.eq v,.eq (.int .i64 a1),.eq (.int .i64 a2)] [.sl v 3 (.int .i64) a0] (fun z:Value=>(bq [.eq z],[.sl z 3 (.int .i64) r])):=by
 unfold kQ at h
 replace h:=a9 h
 obtain⟨u1,eg,h⟩:=aa h
 obtain⟨h1,h2,h3⟩:=aC eg
 obtain rfl:=Option.some.inj h
 refine bX.of 33 Tryz.func143 rfl Tryz.ntmps143 rfl fun S w0=>?_
 refine Dw (fun e=>by rw [e] at h3;simp at h3;omega) fun b cap hv hcap=>?_
 subst hv
 have hl:(a0.take a1.toNat++a0.drop a2.toNat).length=a1.toNat+(a0.length - a2.toNat):=by simp;omega
 refine ah ?_
 refine ab ?_
 refine dA rfl ?_
 refine ap (ae ?_)
 show JC _ _ _ _ _
 refine ah ?_
 refine ab ?_
 refine ax rfl rfl ?_
 refine ax rfl rfl ?_
 refine ax rfl rfl ?_
 refine ax rfl rfl ?_
 refine bO rfl rfl rfl (cO rfl rfl eO) ⟨rfl,trivial⟩ ?_
 refine aB rfl (wj rfl eO cR h1 (by omega) h3 (by omega)) ⟨rfl,rfl,rfl,rfl,trivial⟩ ?_
 refine ap (ae ?_)
 show JC _ _ _ _ _
 refine ah ?_
 refine ah ?_
 refine ab ?_
 refine ax rfl rfl ?_
 refine ax rfl rfl ?_
 refine aB rfl (eS rfl) ⟨rfl,rfl,trivial⟩ ?_
 refine ap (ae ?_)
 show JC _ _ _ _ _
 refine bD rfl (fun hb=>absurd (of_decide_eq_true hb) (by omega)) (fun hb=>?_)
 refine aU (ae ?_)
 show JC _ _ _ _ _
 refine ah ?_
 refine ab ?_
 refine ax rfl rfl ?_
 refine bO rfl rfl rfl (cO rfl rfl eO) ⟨rfl,trivial⟩ ?_
 refine dc rfl rfl ?_
 refine ap (ae ?_)
 show JC _ _ _ _ _
 refine ah ?_
 refine cr ?_
 refine di rfl rfl rfl (aR rfl) ⟨rfl,trivial⟩ ?_
 refine di rfl rfl rfl (aR rfl) ⟨rfl,trivial⟩ ?_
 refine di rfl rfl rfl (tN rfl eO cR h1 (by omega)) ⟨rfl,rfl,trivial⟩ ?_
 refine di rfl rfl rfl (aR rfl) ⟨rfl,trivial⟩ ?_
 refine di rfl rfl rfl (aR rfl) ⟨rfl,trivial⟩ ?_
 refine di rfl rfl rfl (zQ rfl eO cR (by omega) h3) ⟨rfl,rfl,trivial⟩ ?_
 refine sf (by kernel_rfl) eZ ?_
 refine cS (qY 22 rfl fun _ _ _ h=>(AU▸h:(A.eq (.slice (some ⟨b,0,none⟩) a1.toNat cap)).holds _ _ _)) ?_
 refine bO rfl rfl rfl (wn (t:=.int .i64) (b:=b) (cap:=cap) (l:=a0) (i:=a1.toNat) (j:=a2.toNat) rfl rfl eP (by omega) (by omega) hcap) ⟨rfl,rfl,trivial⟩ ?_
 refine dc rfl rfl ?_
 refine ap (ae ?_)
 show JC _ _ _ _ _
 refine ah ?_
 refine ab ?_
 refine ax rfl rfl ?_
 refine ax rfl rfl ?_
 refine bO rfl rfl rfl (cO rfl rfl eO) ⟨rfl,trivial⟩ ?_
 refine ax rfl rfl ?_
 refine aB rfl (ya rfl eO cR (by omega) (by rw [hl];omega) (by omega)) ⟨rfl,rfl,rfl,trivial⟩ ?_
 refine bg rfl rfl (yh (t:=.int .i64) (b:=b) (cap:=cap) (l:=a0.take a1.toNat++a0.drop a2.toNat) (n:=a0.length) rfl rfl eO rfl QG rfl rfl (by rw [hl];omega) hcap) ⟨rfl,trivial⟩ ?_
 refine ap (ae ?_)
 show JC _ _ _ _ _
 refine ah ?_
 refine ab ?_
 refine ax rfl rfl ?_
 refine dc rfl rfl ?_
 refine ap (ae ?_)
 show JC _ _ _ _ _
 refine aA ?_
 exact aG _ [.eq _] 1 ⟨rfl,trivial⟩ rfl
def jE(k:Nat)(x7:Int)(h:(List (List Int))):Nat→((List (List Int))×Int)→Option (List (List Int))
 |0,_=>none
 |n+1,c=>
  if c.2 < (h.length:Int) then((a8 h c.2).bind fun e=>
  (d6 (bV (List.length [x7]+List.length e))).bind fun _=>
  (d6 (bV (List.length c.1+List.length [[x7]++e]))).bind fun _=>
  (ck (c.2+1)).bind fun j=>
  jE k x7 h n (c.1++[[x7]++e],j)) else(some c.1)
def jF(k:Nat)(a0:(List Int))(self:(List Int)→Option ((List (List Int)))):Nat→((List (List Int))×Int)→Option (List (List Int))
 |0,_=>none
 |n+1,y3=>
  if y3.2 < (a0.length:Int) then((((a8 a0 y3.2).bind fun x7=>
  (jG k a0).bind fun r8=>
  (ck (y3.2+1)).bind fun e=>
  (kQ k r8 y3.2 e).bind fun j=>
  (self j).bind fun h=>
  jE k x7 h k (y3.1,0)):Option ((List (List Int)))).bind fun x5=>
  (ck (y3.2+1)).bind fun c=>
  jF k a0 self n (x5,c)) else(some y3.1)
def kJ(k:Nat):Nat→(List Int)→Option ((List (List Int)))
 |0,_=>none
 |m0+1,a0=>
  if(a0.length:Int)=0 then(some [[]]) else(((jF k a0 (kJ k m0) k (([]:(List (List Int))),0)):Option ((List (List Int)))).bind fun x1=>
  some x1)
theorem uB(k:Nat):
 ∀(n:Nat) (a0:(List Int)) (r:(List (List Int))),kJ k n a0=some r→bX Tryz.prog 107 [Ri a0] ([]) (fun _:Unit=>(bq [.rep (.slice (.slice (.int .i64))) r],[])):=by
 intro n
 induction n with
 |zero=>intro a0 r h;cases h
 |succ m0 ih=>
  intro a0 r h;rw [kJ] at h;replace h:=a9 h;refine bX.of 41 Tryz.func107 rfl Tryz.ntmps107 rfl fun S w0=>?_;refine sr (cq (nt (ah (sr ?_))));refine mq ?_;refine ol eO ?_;refine jb (eS rfl) ?_;refine nt (ci h (fun h=>?_) (fun h=>?_))
  ·refine sr (ja (bG (t:=(.slice (.int .i64))) [(.const (.slice none 0 0),_)] [[]] rfl rfl tj (.cons rfl .nil .nil) rfl rfl) ?_);refine aq (nt (rx ?_));cases h;exact ra
  ·refine sk (sr (cq (nt ?_)));refine aW (Z:=Value) (α:=(List (List Int))) (fun z2 x1=>[(3,.eq z2)]) (fun z2 x1=>[.sl z2 23 (.slice (.int .i64)) x1]) h (fun K h=>?_) (fun z2 x1 h=>?_)
   ·refine sr (mq ?_);refine ol eO ?_;refine eG rfl ?_;refine nt (aj (gd (SE.nil 23 (.slice (.int .i64))) ?_));refine aJ (fun z4 y3=>[(0,Ri a0),(3,.eq z4),(12,Ri a0),(13,I (a0.length:Int)),(14,I y3.2)]) (fun z4 y3=>[.sl z4 23 (.slice (.int .i64)) y3.1]) (jF k a0 (kJ k m0)) k (.slice none 0 0) (([]:(List (List Int))),0) (fun _=>rfl) h (SE.fin [0] ⟨rfl,rfl,rfl,rfl,rfl,trivial⟩ rfl) (fun n z4 y3 h=>?_);unfold jF at h;refine sr (jb (bH rfl) ?_);refine nt (ah (ci h (fun h=>?_) (fun h=>?_)))
    ·refine sk (aW (Z:=Value) (α:=(List (List Int))) (fun z6 x5=>[(0,Ri a0),(3,.eq z6),(12,Ri a0),(13,I (a0.length:Int)),(14,I y3.2)]) (fun z6 x5=>[.sl z6 23 (.slice (.int .i64)) x5]) h (fun K h=>?_) (fun z6 x5 h=>?_))
     ·refine aj (sr (mq ?_));obtain⟨x7,Y,h⟩:=aa h;refine jb (aN (t:=(.int .i64)) rfl eO cR Y) ?_;refine ja (ar (t:=(.int .i64)) rfl cR rfl) ?_;refine aq ?_;refine aq (nt (sr ?_));refine mq ?_;obtain⟨r8,ac,h⟩:=aa h;refine aF rfl rfl rfl (ao [.tmp 19] rfl rfl PZ rfl (mi k a0 r8 ac)) ⟨rfl,trivial⟩ fun v9=>?_;iterate 2 refine mq ?_
      obtain⟨U,D,h⟩:=aa h;refine jb (bj rfl D) ?_;obtain⟨s,M,h⟩:=aa h;refine ek rfl rfl rfl (ao [.tmp 20,.tmp 21,.tmp 23] rfl rfl Om rfl (qs k r8 v9 y3.2 U s M)) ⟨rfl,rfl,rfl,trivial⟩ fun qt=>?_;refine cS (gI [24] ⟨rfl,trivial⟩) ?_;obtain⟨j,J,h⟩:=aa h;refine ja (ao [.tmp 24] rfl rfl JH rfl (ih s j J)) ?_;refine ol nu ?_;refine eG rfl ?_;refine nt (aj (aJ (fun e c=>[(0,Ri a0),(3,.eq e),(5,I x7),(12,Ri a0),(13,I (a0.length:Int)),(14,I y3.2),(25,.rep (.slice (.slice (.int .i64))) j),(26,I (j.length:Int)),(27,I c.2)]) (fun e c=>[.sl e 23 (.slice (.int .i64)) c.1]) (jE k x7 j) k z4 (y3.1,0) (fun _=>rfl) h (SE.fin [0] ⟨rfl,rfl,rfl,rfl,rfl,rfl,rfl,rfl,rfl,trivial⟩ rfl) (fun n e c h=>?_)));unfold jE at h;refine sr (jb (bH rfl) ?_);refine nt (ah (ci h (fun h=>?_) (fun h=>?_)))
      ·refine sk (ah (aj (sr ?_)));obtain⟨l,y,h⟩:=aa h;refine jb (aN (t:=(.slice (.int .i64))) rfl nu cG y) ?_;refine ja (ar (t:=(.slice (.int .i64))) rfl cG rfl) ?_;refine aq (nt (ab ?_));iterate 2 refine mq ?_
       refine aF rfl rfl rfl (mT (t:=(.int .i64)) [(.tmp 32,_)] [x7] rfl rfl eP (.cons rfl .int .nil) rfl rfl) ⟨rfl,trivial⟩ fun pp=>?_;refine mq ?_;obtain⟨QQ,F,h⟩:=aa h;refine ek rfl rfl rfl (cp rfl rfl eP (aC F)) ⟨rfl,rfl,trivial⟩ fun mc=>?_;refine cS (gI [35] ⟨rfl,trivial⟩) ?_;refine ja (bG (t:=(.slice (.int .i64))) [(.tmp 35,_)] [[x7]++l] rfl rfl tj (.cons rfl .rep .nil) rfl rfl) ?_;obtain⟨se,E,h⟩:=aa h;refine ek rfl rfl rfl (cp rfl rfl tj (aC E)) ⟨rfl,rfl,trivial⟩ fun X=>?_;refine aq (ap (aI (tn (ab ?_))));obtain⟨Q,x,h⟩:=aa h;refine jb (bj rfl x) ?_;refine mq (nl ?_);exact jz (X,(c.1++[[x7]++l],Q)) h [0]
      ·refine dF (aM (aM (bR (bn ?_))));exact jz (e,c.1) h [0]
     ·refine ab ?_;obtain⟨O,u,h⟩:=aa h;refine jb (bj rfl u) ?_;refine mq (nl ?_);exact jz (z6,(x5,O)) h [0]
    ·refine xa ?_;exact jz (z4,y3.1) h [0]
   ·refine sr (mq ?_);refine aq (nt (aA ?_));refine bI (gI [2,3,40] ⟨rfl,rfl,rfl,trivial⟩) ?_;cases h;exact ra
def fK{σ:Type}(k:Nat)(a1:(List Int))(Y:σ→Int→Option (σ×Bool)):Nat→(Int×σ)→Option (σ)
 |0,_=>none
 |n+1,y1=>
  if y1.1 < (a1.length:Int) then((a8 a1 y1.1).bind fun x3=>
  (Y y1.2 x3).bind fun r4=>
  if¬(r4.2=true) then(some r4.1) else((ck (y1.1+1)).bind fun x6=>
  fK k a1 Y n (x6,r4.1))) else(some y1.2)
def jr{σ:Type}(k:Nat)(Y:σ→Int→Option (σ×Bool))(a1:(List Int))(s0:σ):Option (σ):=
 fK k a1 Y k (0,s0)
theorem oW{M:Md Tryz.prog}{σ Z:Type}(E:Z→σ→List D)(l:Nat)(Y:σ→Int→Option (σ×Bool))(k:Nat)(a1:(List Int))(c:Nat)(hY:∀z s p r,Y s p=some r→YT M l [I p] (E z s) (fun z':Z=>(.eq (.bool r.2),E z' r.1))):
 ∀(z0:Z) (s0:σ) (r:σ),jr k Y a1 s0=some r→dk M 146 [.eq (.func (.yield l) #[] #[]),Pt c] ([.obj c 23 (Ri a1)]++E z0 s0) (fun z:Z=>(bq [],[.obj c 23 (Ri a1)]++E z r)):=by
 intro z0 s0 r h
 unfold jr at h
 replace h:=a9 h
 refine dk.of 16 Tryz.func146 rfl Tryz.ntmps146 rfl fun S w0=>?_
 refine sr ?_
 refine lo cG ?_
 refine ol eO ?_
 refine eG rfl ?_
 refine nt ?_
 refine aj ?_
 refine aJ (Z:=Z) (α:=Int×σ) (fun z2 y1=>[(0,.eq (.func (.yield l) #[] #[])),(5,Ri a1),(6,I (a1.length:Int)),(7,I y1.1)]) (fun z2 y1=>[.obj c 23 (Ri a1)]++E z2 y1.2) (fK k a1 Y) k z0 (0,s0) (fun _=>rfl) h (aZ [.obj c 23 (Ri a1)] (E z0 s0) [0] ⟨rfl,rfl,rfl,rfl,trivial⟩ rfl) (fun n z2 y1 h=>?_)
 unfold fK at h
 refine sr ?_
 refine jb (bH rfl) ?_
 refine nt ?_
 refine ah ?_
 refine ci h (fun h=>?_) (fun h=>?_)
 ·
  refine sk (ah (aj (sr ?_)));obtain⟨x3,j,h⟩:=aa h;refine jb (aN (t:=(.int .i64)) rfl eO cR j) ?_;refine ja (ar (t:=(.int .i64)) rfl cR rfl) ?_;refine aq (nt (sr ?_));iterate 2 refine mq ?_
  obtain⟨r4,u,h⟩:=aa h;refine ot [.obj c 23 (Ri a1)] rfl rfl rfl (wi [.tmp 12] rfl rfl rfl (hY z2 y1.2 x3 r4 u)) ⟨rfl,rfl,trivial⟩ fun z5=>?_;refine ja (eR rfl) ?_;refine nt (cw h (fun h=>?_) (fun h=>?_))
  ·refine aA (br (bf ?_));cases h;exact ik z5 [] trivial rfl
  ·refine aU (aI (tn (ab ?_)));obtain⟨x6,e,h⟩:=aa h;refine jb (bj rfl e) ?_;refine mq (nl ?_);exact iz (z5,(x6,r4.1)) h (aZ [.obj c 23 (Ri a1)] (E z5 r4.1) [0] ⟨rfl,rfl,rfl,rfl,trivial⟩ rfl)
 ·
  refine dF (aM (aM (bR (iC ?_))));cases h;exact ik z2 [] trivial rfl
def i8(k:Nat)(a1:(List Int)):Option (List Int):=
 (jr k (pj (fun(y2:(List Int)) (p4:Int)=>
  (d6 (bV (List.length y2+List.length [p4]))).bind fun _=>
  some (y2++[p4],true))) a1 (([]:(List Int)),false)).bind fun r5=>
 if r5.2=true then(none) else(some r5.1)
theorem nE(k:Nat)(a1:(List Int))(c:Nat)(r:(List Int))(h:i8 k a1=some r):
 bX Tryz.prog 183 [.eq (.slice none 0 0),.eq (.func (.func 146) #[] #[(Pv c)])] [.obj c 23 (Ri a1)] (fun z:Value=>(bq [.eq z],[.sl z 3 (.int .i64) r,.obj c 23 (Ri a1)])):=by
 unfold i8 at h
 replace h:=a9 h
 refine xg 13 Tryz.func183 rfl Tryz.ntmps183 rfl fun {M} S w0=>?_
 refine sr ?_
 refine bx fun b1=>?_
 refine cq ?_
 refine nt ?_
 refine ah ?_
 refine sr ?_
 refine mq ?_
 refine nt ?_
 refine aj ?_
 refine gd (SE.nil 3 (.int .i64)) ?_
 refine iD 1 rfl ?_
 refine iD 2 rfl ?_
 obtain⟨r5,j,h⟩:=aa h
 refine m8 (Δ:=[.obj c 23 (Ri a1),.obj b1 23 (.eq (.slice none 0 0)),.sl (.slice none 0 0) 3 (.int .i64) ([]:(List Int))]) (F:=[]) (X:=Value) (J:=fun _=>Ia r5.2) (E:=fun z3=>[.obj c 23 (Ri a1),.obj b1 23 (.eq z3),.sl z3 3 (.int .i64) r5.1]) (r0:=fun _=>.tup .any) rfl rfl Oi (fun rec hp ha hb hs hpe hN hv l=>?_) (fun dl z3=>pz (fun hj=>?_) (fun hj=>?_))
 ·
  rcases rec with⟨st0,pe0,fn0,tm0,ps0,as0,bd0,df0⟩;dsimp only at hp ha hb hs hpe hN hv;subst hp hs hpe;have vN:ul tm0 [(2,Pt b1)]:=⟨congrArg A.eq (hv 2 _ rfl).symm,trivial⟩;refine dk.pick (M:=M) [1,0,2,3] [1,0,2,3] (oW (fun(z3:Value) (q:(List Int)×Bool)=>[.raw l (.loop (i9 ⟨.ready,none,fn0,tm0, #[7],as0,bd0,df0⟩ (Ia q.2))),.obj b1 23 (.eq z3),.sl z3 3 (.int .i64) q.1]) l (pj (fun(y2:(List Int)) (p4:Int)=>
  (d6 (bV (List.length y2+List.length [p4]))).bind fun _=>
  some (y2++[p4],true))) k a1 c (fun z3 q p r' h=>?_) (.slice none 0 0) (([]:(List Int)),false) r5 j) rfl (fun _=>rfl) (fun _=>rfl)
  obtain⟨rq,hq,h2,rfl⟩:=pA h;obtain⟨y2,b5⟩:=q;obtain rfl:b5=false:=hq;replace h:=a9 h2;obtain⟨p4,hpv⟩:∃x,x=p:=⟨_,rfl⟩;subst hpv;refine YT.pick (R':=(fun z3:Value=>(.eq (.bool rq.2),[.raw l (.loop (i9 ⟨.ready,none,fn0,tm0, #[7],as0,bd0,df0⟩ (Ia (!rq.2)))),.obj b1 23 (.eq z3),.sl z3 3 (.int .i64) rq.1]))) [0,1,2] [0,1,2] (GK ha hb (N:=13) (Γ:=[(2,Pt b1)]) rfl hN (by decide) vN (fun S w=>?_)) rfl (fun _=>rfl) (fun _=>rfl);refine ab (aq (nl ?_));refine uu rfl rfl ?_;refine aj (ab (fr 1 ?_));refine lo cG ?_;refine mq ?_;refine ja (bG (t:=(.int .i64)) [(.tmp 9,_)] [p4] rfl rfl eP (.cons rfl .int .nil) rfl rfl) ?_;obtain⟨u6,e,h⟩:=aa h;refine fr 2 ?_;refine ek rfl rfl rfl (cp rfl rfl eP (aC e)) ⟨rfl,rfl,trivial⟩ fun v7=>?_;refine xc fun o8=>?_;refine fr 1 ?_;refine bg rfl rfl (ba rfl cG o8 rfl rfl) ⟨rfl,rfl,trivial⟩ ?_;refine ap (aI (du 1 rfl ?_));refine du 1 rfl ?_;refine du 2 rfl ?_;cases h;exact sd v7 2 rfl
 ·
  replace h:=bQ (DD hj) h;refine aI (tn (sr (fr 2 ?_)));refine lo cG ?_;refine aq (nt (aA ?_));refine du 1 rfl ?_;refine xe ?_;refine bI (SE.fin (Γ':=[(4,_)]) [2,1,0] ⟨rfl,trivial⟩ rfl) ?_;cases h;exact aG z3 [.eq z3] 2 ⟨rfl,trivial⟩ rfl
 ·
  replace h:=cM (DC hj) h;cases h
def jZ(k:Nat)(a0:(List Int)):Option (List Int):=
 (i8 k a0).bind fun r1=>
 some r1
theorem pD(k:Nat)(a0:(List Int))(c:Nat)(r:(List Int))(h:jZ k a0=some r):
 bX Tryz.prog 144 [.eq (.func (.func 146) #[] #[(Pv c)])] [.obj c 23 (Ri a0)] (fun z:Value=>(bq [.eq z],[.sl z 3 (.int .i64) r,.obj c 23 (Ri a0)])):=by
 unfold jZ at h
 replace h:=a9 h
 refine bX.of 5 Tryz.func144 rfl Tryz.ntmps144 rfl fun S w0=>?_
 refine sr ?_
 refine cq ?_
 refine nt ?_
 refine sr ?_
 refine mq ?_
 obtain⟨r1,e,h⟩:=aa h
 have j:=nE k a0 c r1 e
 refine bC (Δ:=[_]) (F:=_) (fun _ _ _=>av rfl _) rfl rfl (ao [.const (.slice none 0 0),.tmp 3] rfl rfl Oc rfl j) ⟨rfl,rfl,trivial⟩ fun z2=>?_
 refine aq ?_
 refine nt ?_
 refine aA ?_
 cases h
 exact aG z2 [.eq z2] 2 ⟨rfl,trivial⟩ rfl
def oR(k:Nat)(a0:Int):Option Bool:=
 some (!decide (a0=a0))
theorem qP(k:Nat)(a0:Int)(r:Bool)(h:oR k a0=some r):
 bX Tryz.prog 189 [I a0] [] (fun _:Unit=>(bq [.eq (.bool r)],[])):=by
 unfold oR at h
 replace h:=a9 h
 refine bX.of 6 Tryz.func189 rfl Tryz.ntmps189 rfl fun S w0=>?_
 refine sr ?_
 refine cq ?_
 refine nt ?_
 refine sr ?_
 iterate 2 refine mq ?_
 refine jb (jf rfl) ?_
 refine aq ?_
 refine nt ?_
 refine aA ?_
 cases h
 exact ra
def uh(k:Nat)(a0:Int)(a1:Int):Option Bool:=
 (((oR k a0).bind fun r3=>
 if r3=true then((oR k a1).bind fun r4=>
 if¬(r4=true) then(some true) else(some (decide (a0 < a1)))) else(some (decide (a0 < a1)))):Option (Bool)).bind fun x1=>
 some x1
theorem yT(k:Nat)(a0:Int)(a1:Int)(r:Bool)(h:uh k a0 a1=some r):
 bX Tryz.prog 202 [I a0,I a1] [] (fun _:Unit=>(bq [.eq (.bool r)],[])):=by
 unfold uh at h
 replace h:=a9 h
 refine bX.of 17 Tryz.func202 rfl Tryz.ntmps202 rfl fun S w0=>?_
 refine sr ?_
 refine cq ?_
 refine nt ?_
 refine aW (Z:=Unit) (α:=Bool) (fun z2 x1=>[(4,.eq (.bool x1))]) (fun z2 x1=>[]) h (fun K h=>?_) (fun z2 x1 h=>?_)
 ·
  refine ab (mq ?_);obtain⟨r3,e,h⟩:=aa h;refine ja (ao [.tmp 5] rfl rfl JA rfl (qP k a0 r3 e)) ?_;refine mq ?_;refine bZ (s:=7) rfl (fun hb=>?_) (fun hb=>?_)
  ·replace h:=cM (DC hb) h;refine gm ?_;obtain⟨r4,c,h⟩:=aa h;refine ga (ao [.tmp 8] rfl rfl JA rfl (qP k a1 r4 c)) ?_;refine ga (eR rfl) ?_;refine pt ?_;refine mq ?_;refine bZ (s:=12) rfl (fun hb=>?_) (fun hb=>?_)
   ·replace h:=cM (ES hb) h;iterate 3 refine gn ?_
    refine pt ?_;refine aq (nl ?_);exact jz ((),true) h []
   ·replace h:=bQ (yj hb) h;refine gm ?_;refine gm ?_;refine gb (bH rfl) ?_;refine pf ?_;refine aq (nl ?_);exact jz ((),decide (a0 < a1)) h []
  ·replace h:=bQ (DD hb) h;iterate 3 refine gn ?_
   refine pf ?_;refine mq ?_;refine gm ?_;refine gm ?_;refine gb (bH rfl) ?_;refine pf ?_;refine aq (nl ?_);exact jz ((),decide (a0 < a1)) h []
 ·
  refine aA ?_;cases h;exact ra
def ct(k:Nat)(a1:Int):Nat→((List Int)×Int)→Option (List Int)
 |0,_=>none
 |n+1,y6=>
  ((if a1 < y6.2 then((a8 y6.1 y6.2).bind fun u=>
  (ck (y6.2 - 1)).bind fun s=>
  (a8 y6.1 s).bind fun r=>
  (uh k u r).bind fun x=>
  some x) else(some false)):Option (Bool)).bind fun x8=>
  if x8=true then((ck (y6.2 - 1)).bind fun e=>
  (ck (y6.2 - 1)).bind fun l=>
  (a8 y6.1 l).bind fun c=>
  (a8 y6.1 y6.2).bind fun j=>
  (a8 y6.1 y6.2).bind fun D=>
  (a8 (List.set y6.1 (Int.toNat y6.2) c) e).bind fun y=>
  (ck (y6.2 - 1)).bind fun h=>
  ct k a1 n (List.set (List.set y6.1 (Int.toNat y6.2) c) (Int.toNat e) j,h)) else(some y6.1)
def cu(k:Nat)(a1:Int)(a2:Int):Nat→((List Int)×Int)→Option (List Int)
 |0,_=>none
 |n+1,y2=>
  if y2.2 < a2 then(((ct k a1 k (y2.1,y2.2)):Option ((List Int))).bind fun x4=>
  (ck (y2.2+1)).bind fun c=>
  cu k a1 a2 n (x4,c)) else(some y2.1)
def dU(k:Nat)(a0:(List Int))(a1:Int)(a2:Int):Option (List Int):=
 (ck (a1+1)).bind fun x1=>
 cu k a1 a2 k (a0,x1)
theorem jo(k:Nat)(a0:(List Int))(c:Value)(a1:Int)(a2:Int)(r:(List Int))(h:dU k a0 a1 a2=some r):
 bX Tryz.prog 196 [.eq c,I a1,I a2] [.sl c 3 (.int .i64) a0] (fun _:Unit=>(bq [],[.sl c 3 (.int .i64) r])):=by
 unfold dU at h
 replace h:=a9 h
 refine bX.of 49 Tryz.func196 rfl Tryz.ntmps196 rfl fun S w0=>?_
 refine sr ?_
 refine mq ?_
 obtain⟨x1,Q6,h⟩:=aa h
 refine jb (bj rfl Q6) ?_
 refine aq ?_
 refine nt ?_
 refine aj ?_
 refine aJ (fun z3 y2=>[(0,.eq c),(1,I a1),(2,I a2),(6,I y2.2)]) (fun z3 y2=>[.sl c 3 (.int .i64) y2.1]) (cu k a1 a2) k () (a0,x1) (fun _=>rfl) h (SE.fin [0] ⟨rfl,rfl,rfl,rfl,trivial⟩ rfl) (fun n z3 y2 h=>?_)
 unfold cu at h
 refine ah ?_
 refine sr ?_
 iterate 2 refine mq ?_
 refine jb (bH rfl) ?_
 refine nt ?_
 refine ci h (fun h=>?_) (fun h=>?_)
 ·
  refine sk (aW (Z:=Unit) (α:=(List Int)) (fun z5 x4=>[(0,.eq c),(1,I a1),(2,I a2),(6,I y2.2)]) (fun z5 x4=>[.sl c 3 (.int .i64) x4]) h (fun K h=>?_) (fun z5 x4 h=>?_))
  ·refine aj (sr (mq ?_));refine aq (nt (aj ?_));refine aJ (fun z7 y6=>[(0,.eq c),(1,I a1),(2,I a2),(6,I y2.2),(7,I y6.2)]) (fun z7 y6=>[.sl c 3 (.int .i64) y6.1]) (ct k a1) k () (y2.1,y2.2) (fun _=>rfl) h (SE.fin [0] ⟨rfl,rfl,rfl,rfl,rfl,trivial⟩ rfl) (fun n z7 y6 h=>?_);unfold ct at h;refine ah (aW (Z:=Unit) (α:=Bool) (fun z9 x8=>[(0,.eq c),(1,I a1),(2,I a2),(6,I y2.2),(7,I y6.2),(30,.eq (.bool x8))]) (fun z9 x8=>[.sl c 3 (.int .i64) y6.1]) h (fun K h=>?_) (fun z9 x8 h=>?_))
   ·refine cr ?_;refine dm ?_;refine dm ?_;refine db (jK rfl) ?_;refine s4 rfl rfl rfl (aR rfl) ⟨rfl,trivial⟩ (fun hb=>?_) (fun hb=>?_)
    ·replace h:=cM (nq hb) h;refine cd rfl rfl rfl rfl rfl (aR rfl) ⟨rfl,rfl,trivial⟩ ?_;refine cd rfl rfl rfl rfl rfl (aR rfl) ⟨rfl,rfl,trivial⟩ ?_;obtain⟨QW,x,h⟩:=aa h;refine lN 0 rfl rfl rfl rfl rfl rfl (be (t:=(.int .i64)) rfl eO cR x) ⟨rfl,rfl,rfl,trivial⟩ ?_;refine lN 0 rfl rfl rfl rfl rfl rfl (eJ (i:=Int.toNat y6.2) (off:=0) rfl cR (fun _=>rfl) rfl (cg x).2.2 rfl) ⟨rfl,rfl,trivial⟩ ?_;refine cd rfl rfl rfl rfl rfl (aR rfl) ⟨rfl,rfl,trivial⟩ ?_;refine cd rfl rfl rfl rfl rfl (aR rfl) ⟨rfl,rfl,trivial⟩ ?_;obtain⟨QV,qt,h⟩:=aa h;refine cd rfl rfl rfl rfl rfl (fH rfl qt) ⟨rfl,rfl,rfl,trivial⟩ ?_;obtain⟨QU,u,h⟩:=aa h;refine lN 0 rfl rfl rfl rfl rfl rfl (be (t:=(.int .i64)) rfl eO cR u) ⟨rfl,rfl,rfl,trivial⟩ ?_;refine lN 0 rfl rfl rfl rfl rfl rfl (eJ (i:=Int.toNat QV) (off:=0) rfl cR (fun _=>rfl) rfl (cg u).2.2 rfl) ⟨rfl,rfl,trivial⟩ ?_;refine df eZ ?_;obtain⟨F,se,h⟩:=aa h;refine gb (ao [.tmp 23,.tmp 28] rfl rfl N7 rfl (yT k QW QU F se)) ?_;refine pt (nl ?_);exact jz ((),F) h [0]
    ·replace h:=bQ (m4 hb) h;iterate 9 refine dg ?_
     refine df eZ ?_;refine gn ?_;refine pf (nl ?_);exact jz ((),false) h [0]
   ·refine cv h (fun h=>?_) (fun h=>?_)
    ·refine sk (ah (aj (jW ?_)));refine aK rfl rfl rfl (aR rfl) ⟨rfl,trivial⟩ ?_;refine aK rfl rfl rfl (aR rfl) ⟨rfl,trivial⟩ ?_;refine aK rfl rfl rfl (aR rfl) ⟨rfl,trivial⟩ ?_;refine aK rfl rfl rfl (aR rfl) ⟨rfl,trivial⟩ ?_;obtain⟨y,pp,h⟩:=aa h;refine aK rfl rfl rfl (fH rfl pp) ⟨rfl,rfl,trivial⟩ ?_;refine aK rfl rfl rfl (aR rfl) ⟨rfl,trivial⟩ ?_;refine aK rfl rfl rfl (aR rfl) ⟨rfl,trivial⟩ ?_;obtain⟨QT,mc,h⟩:=aa h;refine aK rfl rfl rfl (fH rfl mc) ⟨rfl,rfl,trivial⟩ ?_;obtain⟨E,s,h⟩:=aa h;refine dy 0 rfl rfl rfl rfl (be (t:=(.int .i64)) rfl eO cR s) ⟨rfl,rfl,trivial⟩ ?_;refine dy 0 rfl rfl rfl rfl (eJ (i:=Int.toNat QT) (off:=0) rfl cR (fun _=>rfl) rfl (cg s).2.2 rfl) ⟨rfl,trivial⟩ ?_;refine aK rfl rfl rfl (aR rfl) ⟨rfl,trivial⟩ ?_;refine aK rfl rfl rfl (aR rfl) ⟨rfl,trivial⟩ ?_;obtain⟨D,l,h⟩:=aa h;refine dy 0 rfl rfl rfl rfl (be (t:=(.int .i64)) rfl eO cR l) ⟨rfl,rfl,trivial⟩ ?_;refine dy 0 rfl rfl rfl rfl (eJ (i:=Int.toNat y6.2) (off:=0) rfl cR (fun _=>rfl) rfl (cg l).2.2 rfl) ⟨rfl,trivial⟩ ?_;obtain⟨Rj,j,h⟩:=aa h;refine dy 0 rfl rfl rfl rfl (be (t:=(.int .i64)) rfl eO cR j) ⟨rfl,rfl,trivial⟩ ?_;refine ou 15 [true,true,false,false,false,true,true,true,true,true,true,true,true,true,true] [48] [] [] rfl (by kernel_rfl) (by kernel_rfl) (by kernel_rfl) eZ (fun vs hv hB=>?_);obtain⟨w0,RA,rfl,Q5⟩:=an hv;obtain⟨w1,Rz,rfl,Q4⟩:=an Q5;obtain⟨w2,Ry,rfl,Q3⟩:=an Q4;obtain⟨w3,Rx,rfl,Q2⟩:=an Q3;obtain⟨w4,Rw,rfl,Q1⟩:=an Q2;obtain⟨w5,Ru,rfl,Q0⟩:=an Q1;obtain⟨w6,Rt,rfl,QZ⟩:=an Q0;obtain⟨w7,Rr,rfl,QY⟩:=an QZ;obtain⟨w8,Rq,rfl,QX⟩:=an QY;obtain⟨w9,Rf,rfl,X⟩:=an QX;obtain⟨Ro,Re,rfl,U⟩:=an X;obtain⟨Rn,Rb,rfl,Q⟩:=an U;obtain⟨Rm,Q9,rfl,O⟩:=an Q;obtain⟨Rl,Q8,rfl,M⟩:=an O;obtain⟨Rk,Q7,rfl,J⟩:=an M;obtain rfl:=lI J;refine⟨[0],[.sl c 3 (.int .i64) y6.1],by kernel_rfl,by decide,?_⟩;refine pY rfl rfl (dK (i:=Int.toNat y6.2) rfl cR rfl (jk j) rfl .int rfl) ⟨rfl,rfl,trivial⟩ (by kernel_rfl) ?_;obtain⟨Rh,e,h⟩:=aa h;refine GY rfl rfl rfl rfl (be (t:=(.int .i64)) rfl eO cR e) ⟨rfl,rfl,trivial⟩ (by kernel_rfl) ?_;refine pY rfl rfl (dK (i:=Int.toNat y) rfl cR rfl (jk e) rfl .int rfl) ⟨rfl,rfl,trivial⟩ (by kernel_rfl) ?_;refine sc ?_;refine bI (SE.fin (Γ':=[(0,.eq c),(1,I a1),(2,I a2),(6,I y2.2),(7,I y6.2)]) (Δ':=[.sl c 3 (.int .i64) (List.set (List.set y6.1 (Int.toNat y6.2) E) (Int.toNat y) D)]) [0] ⟨rfl,rfl,rfl,rfl,rfl,trivial⟩ rfl) ?_;refine aI (tn (ab (mq ?_)));obtain⟨QR,ac,h⟩:=aa h;refine jb (fH rfl ac) ?_;refine aq (nl ?_);exact jz ((),(List.set (List.set y6.1 (Int.toNat y6.2) E) (Int.toNat y) D,QR)) h [0]
    ·refine dF (aM (aM (bR (bn ?_))));exact jz ((),y6.1) h [0]
  ·refine ab (mq ?_);obtain⟨QQ,Y,h⟩:=aa h;refine jb (bj rfl Y) ?_;refine aq (nl ?_);exact jz ((),(x4,QQ)) h [0]
 ·
  refine dF (aM (aM (bR (iC ?_))));cases h;exact aG () [] 1 trivial rfl
def j0(k:Nat)(a0:Int):Option Int:=
 ((if 4294967296≤a0 then(some (gX .u64 a0 32,32)) else(some (a0,0))):Option (Int×Int)).bind fun x1=>
 ((if 65536≤x1.1 then((ck (x1.2+16)).bind fun x5=>
 some (gX .u64 x1.1 16,x5)) else(some (x1.1,x1.2))):Option (Int×Int)).bind fun x3=>
 ((if 256≤x3.1 then((ck (x3.2+8)).bind fun x8=>
 some (gX .u64 x3.1 8,x8)) else(some (x3.1,x3.2))):Option (Int×Int)).bind fun x6=>
 (Ah H7 (IntKind.u8.wrap x6.1)).bind fun x9=>
 (ck (x9.toNat:Int)).bind fun e=>
 (ck (x6.2+e)).bind fun c=>
 some c
theorem pQ(k:Nat)(a0:Int)(r:Int)(h:j0 k a0=some r):
 bX Tryz.prog 206 [.eq (.int .u64 a0)] [] (fun _:Unit=>(bq [I r],[])):=by
 unfold j0 at h
 replace h:=a9 h
 refine bX.of 25 Tryz.func206 rfl Tryz.ntmps206 rfl fun S w0=>?_
 refine sr ?_
 refine cq ?_
 refine nt ?_
 refine aW (Z:=Unit) (α:=Int×Int) (fun z2 x1=>[(0,.eq (.int .u64 x1.1)),(2,I x1.2)]) (fun z2 x1=>[]) h (fun K h=>?_) (fun z2 x1 h=>?_)
 ·
  refine sr (mq ?_);refine jb (pm rfl) ?_;refine nt (ci h (fun h=>?_) (fun h=>?_))
  ·refine sr (mq ?_);refine aB rfl (tO rfl (by decide)) ⟨rfl,rfl,trivial⟩ ?_;refine aq (nt (ab ?_));refine cq (nl ?_);exact jz ((),(gX .u64 a0 32,32)) h []
  ·refine aU (ae ?_);exact jz ((),(a0,0)) h []
 ·
  refine aW (Z:=Unit) (α:=Int×Int) (fun z4 x3=>[(0,.eq (.int .u64 x3.1)),(2,I x3.2)]) (fun z4 x3=>[]) h (fun K h=>?_) (fun z4 x3 h=>?_)
  ·refine sr (mq ?_);refine jb (pm rfl) ?_;refine nt (ci h (fun h=>?_) (fun h=>?_))
   ·refine sr (mq ?_);refine aB rfl (tO rfl (by decide)) ⟨rfl,rfl,trivial⟩ ?_;refine aq (nt (ab ?_));refine mq ?_;obtain⟨x5,n,h⟩:=aa h;refine jb (bj rfl n) ?_;refine aq (nl ?_);exact jz ((),(gX .u64 x1.1 16,x5)) h []
   ·refine aU (ae ?_);exact jz ((),(x1.1,x1.2)) h []
  ·refine aW (Z:=Unit) (α:=Int×Int) (fun z7 x6=>[(0,.eq (.int .u64 x6.1)),(2,I x6.2)]) (fun z7 x6=>[]) h (fun K h=>?_) (fun z7 x6 h=>?_)
   ·refine sr (mq ?_);refine jb (pm rfl) ?_;refine nt (ci h (fun h=>?_) (fun h=>?_))
    ·refine sr (mq ?_);refine aB rfl (tO rfl (by decide)) ⟨rfl,rfl,trivial⟩ ?_;refine aq (nt (ab ?_));refine mq ?_;obtain⟨x8,l,h⟩:=aa h;refine jb (bj rfl l) ?_;refine aq (nl ?_);exact jz ((),(gX .u64 x3.1 8,x8)) h []
    ·refine aU (ae ?_);exact jz ((),(x3.1,x3.2)) h []
   ·refine sr ?_;iterate 2 refine mq ?_
    refine ja (nJ rfl O9 U5) ?_;obtain⟨x9,j,h⟩:=aa h;refine ja (yf rfl U9 j) ?_;obtain⟨u,e,h⟩:=aa h;refine ja (yg rfl U5 U3 e) ?_;obtain⟨s,c,h⟩:=aa h;refine jb (bj rfl c) ?_;refine aq (nt (aA ?_));cases h;exact ra
def wU(k:Nat)(a0:Int):Option Int:=
 (j0 k a0).bind fun r1=>
 some r1
theorem AA(k:Nat)(a0:Int)(r:Int)(h:wU k a0=some r):
 bX Tryz.prog 185 [.eq (.int .u64 a0)] [] (fun _:Unit=>(bq [I r],[])):=by
 unfold wU at h
 replace h:=a9 h
 refine bX.of 8 Tryz.func185 rfl Tryz.ntmps185 rfl fun S w0=>?_
 refine sr ?_
 refine cq ?_
 refine nt ?_
 refine ah ?_
 refine G6 (fun hb=>(by cases hb)) (fun hb=>?_)
 refine sk ?_
 refine sr ?_
 refine mq ?_
 obtain⟨r1,c,h⟩:=aa h
 have e:=pQ k a0 r1 c
 refine ja (ao [.tmp 6] rfl rfl N6 rfl e) ?_
 refine aq ?_
 refine nt ?_
 refine aA ?_
 cases h
 exact ra
def ff(k:Nat)(a0:(List Int))(a1:Int)(a2:Int)(a3:Int):Nat→Unit→Option (List Int)
 |0,_=>none
 |n+1,y1=>
  (ck (a2 - a1)).bind fun x3=>
  if x3≤12 then((dU k a0 a1 a2).bind fun r4=>
  some r4) else(if a3=0 then(none) else(none))
def gi(k:Nat)(a0:(List Int))(a1:Int)(a2:Int)(a3:Int):Option (List Int):=
 ff k a0 a1 a2 a3 k ()
theorem lr(k:Nat)(a0:(List Int))(c:Value)(a1:Int)(a2:Int)(a3:Int)(r:(List Int))(h:gi k a0 a1 a2 a3=some r):
 bX Tryz.prog 184 [.eq c,I a1,I a2,I a3] [.sl c 3 (.int .i64) a0] (fun _:Unit=>(bq [],[.sl c 3 (.int .i64) r])):=by
 unfold gi at h
 replace h:=a9 h
 refine bX.of 134 Tryz.func184 rfl Tryz.ntmps184 rfl fun S w0=>?_
 refine sr ?_
 refine cq ?_
 refine nt ?_
 refine sr ?_
 refine cq ?_
 refine nt ?_
 refine aj ?_
 refine aJ (fun z2 y1=>[(0,.eq c),(1,I a1),(2,I a2),(3,I a3),(8,.eq (.bool true)),(9,.eq (.bool true))]) (fun z2 y1=>[.sl c 3 (.int .i64) a0]) (ff k a0 a1 a2 a3) k () () (fun _=>rfl) h (SE.fin [0] ⟨rfl,rfl,rfl,rfl,rfl,rfl,trivial⟩ rfl) (fun n z2 y1 h=>?_)
 unfold ff at h
 refine aj ?_
 refine sr ?_
 iterate 2 refine mq ?_
 obtain⟨x3,e,h⟩:=aa h
 refine jb (fH rfl e) ?_
 refine aq ?_
 refine nt ?_
 refine ah ?_
 refine sr ?_
 refine mq ?_
 refine jb (tR rfl) ?_
 refine nt ?_
 refine ci h (fun h=>?_) (fun h=>?_)
 ·
  refine sr ?_;iterate 3 refine mq ?_
  obtain⟨r4,j,h⟩:=aa h;refine kc (ao [.tmp 24,.tmp 25,.tmp 26] rfl rfl N8 rfl (jo k a0 c a1 a2 r4 j)) ?_;refine nt (rx (bf (aP (bf ?_))));cases h;exact aG () [] 1 trivial rfl
 ·
  refine sk (ah (sr (mq ?_)));refine jb (eS rfl) ?_;refine nt (ci h (fun h=>?_) (fun h=>?_))
  ·refine sr ?_;iterate 3 refine mq ?_
   cases h
  ·refine sk (ah (sr (mq ?_)));refine ja (eR rfl) ?_;refine nt (bD rfl (fun hb=>(by cases hb)) (fun hb=>?_));refine sk (sr ?_);iterate 3 refine mq ?_
   cases h
def mO(k:Nat)(a0:(List Int)):Option (List Int):=
 (wU k (IntKind.u64.wrap (a0.length:Int))).bind fun r1=>
 (gi k a0 0 (a0.length:Int) r1).bind fun r2=>
 some r2
theorem sH(k:Nat)(a0:(List Int))(c:Value)(r:(List Int))(h:mO k a0=some r):
 bX Tryz.prog 145 [.eq c] [.sl c 3 (.int .i64) a0] (fun _:Unit=>(bq [],[.sl c 3 (.int .i64) r])):=by
 unfold mO at h
 replace h:=a9 h
 refine bX.of 11 Tryz.func145 rfl Tryz.ntmps145 rfl fun S w0=>?_
 refine sr ?_
 refine mq ?_
 refine ka (cO rfl rfl eO) ?_
 refine aq ?_
 refine nt ?_
 refine ab ?_
 iterate 3 refine mq ?_
 refine ja (nJ rfl U3 Qn) ?_
 obtain⟨r1,j,h⟩:=aa h
 have n:=AA k (IntKind.u64.wrap (a0.length:Int)) r1 j
 refine ja (ao [.tmp 8] rfl rfl Oa rfl n) ?_
 obtain⟨r2,e,h⟩:=aa h
 have l:=lr k a0 c 0 (a0.length:Int) r1 r2 e
 refine bO rfl rfl rfl (ao [.tmp 5,.const (.int .i64 (0)),.tmp 6,.tmp 9] rfl rfl Ob rfl l) ⟨rfl,rfl,rfl,rfl,trivial⟩ ?_
 refine ap ?_
 refine iC ?_
 cases h
 exact aG () [] 1 trivial rfl
def kP(k:Nat)(a0:(List Int)):Option (List Int):=
 (jZ k a0).bind fun r1=>
 (mO k r1).bind fun r3=>
 some r3
theorem qq(k:Nat)(a0:(List Int))(c:Nat)(r:(List Int))(h:kP k a0=some r):
 bX Tryz.prog 108 [.eq (.func (.func 146) #[] #[(Pv c)])] [.obj c 23 (Ri a0)] (fun _:Unit=>(bq [Ri r],[.obj c 23 (Ri a0)])):=by
 unfold kP at h
 replace h:=a9 h
 refine bX.of 9 Tryz.func108 rfl Tryz.ntmps108 rfl fun S w0=>?_
 refine sr ?_
 refine cq ?_
 refine nt ?_
 refine sr ?_
 refine mq ?_
 obtain⟨r1,j,h⟩:=aa h
 have n:=pD k a0 c r1 j
 refine bC (Δ:=[_]) (F:=_) (fun _ _ _=>av rfl _) rfl rfl (ao [.tmp 4] rfl rfl Ol rfl n) ⟨rfl,trivial⟩ fun z2=>?_
 refine aq ?_
 refine nt ?_
 refine sr ?_
 refine mq ?_
 obtain⟨r3,e,h⟩:=aa h
 have l:=sH k r1 z2 r3 e
 refine ka (ao [.tmp 6] rfl rfl Oj rfl l) ?_
 refine nt ?_
 refine sr ?_
 refine mq ?_
 refine aq ?_
 refine nt ?_
 refine aA ?_
 refine bI (gI [2,3,5,6,8] ⟨rfl,rfl,rfl,rfl,rfl,trivial⟩) ?_
 cases h
 exact aG () [_] 1 ⟨rfl,trivial⟩ rfl
theorem qo(a0:(List Int)):bX Tryz.prog 109 [Ri a0] [] (fun z:Nat=>(bq [.eq (.func (.func 146) #[] #[(Pv z)])],[.obj z 23 (Ri a0)])):=by
 refine bX.of 4 Tryz.func109 rfl Tryz.ntmps109 rfl fun S w0=>?_;refine sr (bx fun z=>?_);refine cq (nt (sr ?_));refine ja (rH [] [.tmp 1] [] [(Pv z)] rfl rfl rfl) ?_;refine aq (nt (aA ?_));exact aG z [_] 1 ⟨rfl,trivial⟩ rfl
def dC{σ:Type}(k:Nat)(a0:(List (List Int)))(a1:Int)(a2:Int)(a3:cV)(self:(List (List Int))→Int→Int→σ→Option (Bool×σ))(h:(List Int)):Nat→(Int×σ)→Option (Except (Bool×σ) (σ))
 |0,_=>none
 |n+1,c=>
  if c.1 < (a3.1.2.1.length:Int) then(bE (α:=σ) ((a8 a3.1.2.1 c.1).bind fun y=>
  (((dI k a2 c.1).bind fun I=>
  if I=true then(some (true,c.2)) else((ma k a3.1 h).bind fun F=>
  (ck (F+y.1)).bind fun x=>
  (a8 a3.1.2.2 a1).bind fun u=>
  some (decide (u < x),c.2))):Option (Bool×σ)).bind fun j=>
  if j.1=true then(some (.ok j.2)) else((d6 (0≤a1∧a1 < 3)).bind fun _=>
  (a8 a0 a1).bind fun s=>
  (d6 (0≤(h.length:Int)∧(h.length:Int) < 5)).bind fun _=>
  (d3 k a2 c.1).bind fun E=>
  (self (List.set a0 (Int.toNat a1) (List.set s (Int.toNat (h.length:Int)) c.1)) a1 E j.2).bind fun l=>
  if¬(l.1=true) then(some (.error (false,l.2))) else(some (.ok l.2)))) (fun e=>some (.error e)) fun D=>
  (ck (c.1+1)).bind fun r=>
  dC k a0 a1 a2 a3 self h n (r,D)) else(some (.ok c.2))
def cN{σ:Type}(k:Nat)(Y:σ→(List (List Int))→Option (σ×Bool))(a3:cV):Nat→(List (List Int))→Int→Int→σ→Option (Bool×σ)
 |0,_,_,_,_=>none
 |m0+1,a0,a1,a2,s0=>
  if a1=(a3.1.2.2.length:Int) then((((d6 (0≤(a3.1.2.1.length:Int))).bind fun _=>
  if¬(a2=(IntKind.u8.wrap ((mA .u8 1 (a3.1.2.1.length:Int)) - 1))) then(some (true,s0)) else((Y s0 a0).bind fun r5=>
  some (r5.2,r5.1))):Option (Bool×σ)).bind fun x2=>
  some (x2.1,x2.2)) else((ck (a1+1)).bind fun x7=>
  ((cN k Y a3 m0) a0 x7 a2 s0).bind fun r8=>
  if¬(r8.1=true) then(some (false,r8.2)) else((dD k a0 a1).bind fun e=>
  bE (α:=σ) (dC k a0 a1 a2 a3 (cN k Y a3 m0) e k (0,r8.2)) (some) fun c=>
  some (true,c)))
theorem lT{M:Md Tryz.prog}{σ Z:Type}(E:Z→σ→List D)(l:Nat)(Y:σ→(List (List Int))→Option (σ×Bool))(k:Nat)(a3:cV)(u:Nat)(x:Nat)(c:Nat)(hY:∀z s p r,Y s p=some r→YT M l [.rep (.arr 3 (.arr 5 (.int .i64))) p] (E z s) (fun z':Z=>(.eq (.bool r.2),E z' r.1))):
 ∀(n:Nat) (a0:(List (List Int))) (a1:Int) (a2:Int) (z0:Z) (s0:σ) (r:Bool×σ),cN k Y a3 n a0 a1 a2 s0=some r→dk M 149 [.rep (.arr 3 (.arr 5 (.int .i64))) a0,I a1,.eq (.int .u8 a2),Pt u,Pt x,Pt c] ([.obj u 102 (.at bz a3),.obj x 210 (.eq (.func (.yield l) #[] #[])),.obj c 211 (.eq (.func (.func 149) #[] #[(Pv u),(Pv x),(Pv c)]))]++E z0 s0) (fun z:Z=>(bq [.eq (.bool r.1)],[.obj u 102 (.at bz a3),.obj x 210 (.eq (.func (.yield l) #[] #[])),.obj c 211 (.eq (.func (.func 149) #[] #[(Pv u),(Pv x),(Pv c)]))]++E z r.2)):=by
 intro n
 induction n with
 |zero=>intro a0 a1 a2 z0 s0 r h;cases h
 |succ m0 ih=>
  intro a0 a1 a2 z0 s0 r h;rw [cN] at h;replace h:=a9 h;refine dk.of 97 Tryz.func149 rfl Tryz.ntmps149 rfl fun S w0=>?_;refine sr (bx fun b1=>?_);refine cq (nt (ah (sr ?_)));refine mq ?_;refine fr 1 ?_;refine lo qm ?_;refine ja (dr rfl) ?_;refine ja (aH 3 true rfl jl rfl) ?_;refine ja (aH 1 false rfl fF rfl) ?_;refine ja (ar (t:=(.slice (.int .i64))) rfl cG rfl) ?_;refine ol eO ?_;refine jb (eS rfl) ?_;refine nt (ci h (fun h=>?_) (fun h=>?_))
  ·refine aW (Z:=Z) (α:=Bool×σ) (fun z3 x2=>[(9,.eq (.bool x2.1))]) (fun z3 x2=>[.obj u 102 (.at bz a3),.obj x 210 (.eq (.func (.yield l) #[] #[])),.obj c 211 (.eq (.func (.func 149) #[] #[(Pv u),(Pv x),(Pv c)]))]++E z3 x2.2) h (fun K h=>?_) (fun z3 x2 h=>?_)
   ·refine ab (mq ?_);refine lo qm ?_;refine ja (dr rfl) ?_;refine ja (aH 3 true rfl jl rfl) ?_;refine ja (aH 1 false rfl dW rfl) ?_;refine ja (ar (t:=(.slice aY)) rfl jY rfl) ?_;refine ol sb ?_;obtain⟨u4,Rh,h⟩:=aa h;refine jb (EC rfl (aC Rh)) ?_;refine jb (EB rfl) ?_;refine jb (jf rfl) ?_;refine mq ?_;refine bZ (s:=32) rfl (fun hb=>?_) (fun hb=>?_)
    ·replace h:=cM (MX hb) h;iterate 3 refine gn ?_
     refine pt ?_;refine aq (nl ?_);exact iz (z0,(true,s0)) h (aZ [.obj u 102 (.at bz a3),.obj b1 107 (.rep (.arr 3 (.arr 5 (.int .i64))) a0),.obj x 210 (.eq (.func (.yield l) #[] #[])),.obj c 211 (.eq (.func (.func 149) #[] #[(Pv u),(Pv x),(Pv c)]))] (E z0 s0) [0,2,3] ⟨rfl,trivial⟩ rfl)
    ·replace h:=bQ (Fb hb) h;refine fr 2 ?_;refine lW rfl rfl rfl rfl rfl rfl (ak rfl MK my rfl) ⟨rfl,trivial⟩ ?_;refine fr 2 ?_;refine lW rfl rfl rfl rfl rfl rfl (ak rfl cT (xk) rfl) ⟨rfl,trivial⟩ ?_;obtain⟨r5,Rk,h⟩:=aa h;refine fr 3 ?_;refine fr 3 ?_;refine fr 3 ?_;refine fr 3 ?_;refine Ds [.obj b1 107 (.rep (.arr 3 (.arr 5 (.int .i64))) a0),.obj x 210 (.eq (.func (.yield l) #[] #[])),.obj u 102 (.at bz a3),.obj c 211 (.eq (.func (.func 149) #[] #[(Pv u),(Pv x),(Pv c)]))] rfl rfl rfl rfl rfl rfl (wi [.tmp 34] rfl rfl rfl (hY z0 s0 a0 r5 Rk)) ⟨rfl,rfl,trivial⟩ fun z6=>?_;refine pf ?_;refine aq (nl ?_);exact iz (z6,(r5.2,r5.1)) h (aZ [.obj b1 107 (.rep (.arr 3 (.arr 5 (.int .i64))) a0),.obj x 210 (.eq (.func (.yield l) #[] #[])),.obj u 102 (.at bz a3),.obj c 211 (.eq (.func (.func 149) #[] #[(Pv u),(Pv x),(Pv c)]))] (E z6 r5.1) [2,1,3] ⟨rfl,trivial⟩ rfl)
   ·refine rx ?_;cases h;exact ik z3 [_] ⟨rfl,trivial⟩ rfl
  ·refine sk (ah (sr (fr 3 ?_)));refine lo AT ?_;refine fr 2 ?_;refine lo cT ?_;refine mq ?_;obtain⟨x7,Rf,h⟩:=aa h;refine jb (bj rfl Rf) ?_;refine mq ?_;obtain⟨r8,Rj,h⟩:=aa h;refine fr 1 ?_;refine fr 3 ?_;refine fr 3 ?_;refine fr 3 ?_;refine ot [.obj b1 107 (.rep (.arr 3 (.arr 5 (.int .i64))) a0)] rfl rfl rfl (nK (fs:=[]) (cs:=[(Pv u),(Pv x),(Pv c)]) (ags:=[.rep (.arr 3 (.arr 5 (.int .i64))) a0,I x7,.eq (.int .u8 a2)]) [.tmp 38,.tmp 40,.tmp 41] rfl rfl Gm rfl (ih a0 x7 a2 z0 s0 r8 Rj)) ⟨rfl,rfl,rfl,rfl,trivial⟩ fun z9=>?_;refine ja (eR rfl) ?_;refine nt (cw h (fun h=>?_) (fun h=>?_))
   ·refine sr (cq (nt (rx ?_)));refine bI (aZ (Γ':=[(9,_)]) [.obj b1 107 (.rep (.arr 3 (.arr 5 (.int .i64))) a0),.obj u 102 (.at bz a3),.obj x 210 (.eq (.func (.yield l) #[] #[])),.obj c 211 (.eq (.func (.func 149) #[] #[(Pv u),(Pv x),(Pv c)]))] (E z9 r8.2) [1,2,3] ⟨rfl,trivial⟩ rfl) ?_;cases h;exact ik z9 [_] ⟨rfl,trivial⟩ rfl
   ·refine sk (sr (lo cT ?_));refine mq ?_;obtain⟨F,Q5,h⟩:=aa h;refine jb (ao [.tmp 44,.tmp 45] rfl rfl Bm rfl (fP k a0 a1 F Q5)) ?_;refine aq (nt ?_);refine eX (Z:=Z) (α:=σ) (fun qt QR=>[]) (fun qt QR=>[.obj u 102 (.at bz a3),.obj x 210 (.eq (.func (.yield l) #[] #[])),.obj c 211 (.eq (.func (.func 149) #[] #[(Pv u),(Pv x),(Pv c)]))]++E qt QR) (fun e=>e=r) h (fun e h=>Option.some.inj h) (fun K hR h=>?_) (fun qt QR h=>?_)
    ·refine sr (fr 1 ?_);refine lo qm ?_;refine ja (dr rfl) ?_;refine ja (aH 3 true rfl jl rfl) ?_;refine ja (aH 1 false rfl dW rfl) ?_;refine ja (ar (t:=(.slice aY)) rfl jY rfl) ?_;refine ol sb ?_;refine eG rfl ?_;refine nt (aj (aJ (Z:=Z) (α:=Int×σ) (fun J y=>[(1,I a1),(2,.eq (.int .u8 a2)),(3,Pt u),(5,Pt c),(6,Pt b1),(10,Ri F),(51,Rs aY a3.1.2.1),(52,I (a3.1.2.1.length:Int)),(53,I y.1)]) (fun J y=>[.obj u 102 (.at bz a3),.obj c 211 (.eq (.func (.func 149) #[] #[(Pv u),(Pv x),(Pv c)])),.obj x 210 (.eq (.func (.yield l) #[] #[])),.obj b1 107 (.rep (.arr 3 (.arr 5 (.int .i64))) a0)]++E J y.2) (dC k a0 a1 a2 a3 (cN k Y a3 m0) F) k z9 (0,r8.2) (fun _=>rfl) h (aZ [.obj u 102 (.at bz a3),.obj b1 107 (.rep (.arr 3 (.arr 5 (.int .i64))) a0),.obj x 210 (.eq (.func (.yield l) #[] #[])),.obj c 211 (.eq (.func (.func 149) #[] #[(Pv u),(Pv x),(Pv c)]))] (E z9 r8.2) [0,3,2,1] ⟨rfl,rfl,rfl,rfl,rfl,rfl,rfl,rfl,rfl,trivial⟩ rfl) (fun n J y h=>?_)));unfold dC at h;refine sr (jb (bH rfl) ?_);refine nt (ah (ci h (fun h=>?_) (fun h=>?_)))
     ·refine sk (eX (Z:=Z) (α:=σ) (fun X mc=>[(1,I a1),(2,.eq (.int .u8 a2)),(3,Pt u),(5,Pt c),(6,Pt b1),(10,Ri F),(51,Rs aY a3.1.2.1),(52,I (a3.1.2.1.length:Int)),(53,I y.1)]) (fun X mc=>[.obj u 102 (.at bz a3),.obj c 211 (.eq (.func (.func 149) #[] #[(Pv u),(Pv x),(Pv c)])),.obj x 210 (.eq (.func (.yield l) #[] #[])),.obj b1 107 (.rep (.arr 3 (.arr 5 (.int .i64))) a0)]++E X mc) (fun e=>e=r) h (fun e h=>hR e h) (fun K hR h=>?_) (fun X mc h=>?_))
      ·refine aj (sr (mq ?_));obtain⟨QV,Q0,h⟩:=aa h;refine jb (aN (t:=aY) rfl sb mf Q0) ?_;refine ja (ar (t:=aY) rfl mf rfl) ?_;refine aF rfl rfl rfl (bL rfl vS IS) trivial fun Q6=>?_;refine aq ?_;refine bg rfl rfl (ba rfl mf rfl rfl rfl) ⟨rfl,rfl,trivial⟩ ?_;refine nt (ah (aW (Z:=Z) (α:=Bool×σ) (fun U O=>[(1,I a1),(2,.eq (.int .u8 a2)),(3,Pt u),(5,Pt c),(6,Pt b1),(10,Ri F),(11,I y.1),(51,Rs aY a3.1.2.1),(52,I (a3.1.2.1.length:Int)),(53,I y.1),(80,.eq (.bool O.1))]) (fun U O=>[.obj u 102 (.at bz a3),.obj c 211 (.eq (.func (.func 149) #[] #[(Pv u),(Pv x),(Pv c)])),.obj x 210 (.eq (.func (.yield l) #[] #[])),.obj b1 107 (.rep (.arr 3 (.arr 5 (.int .i64))) a0)]++E U O.2) h (fun K h=>?_) (fun U O h=>?_)))
       ·refine cr ?_;refine dm ?_;refine dm ?_;obtain⟨Re,Q4,h⟩:=aa h;refine db (ao [.tmp 58,.tmp 59] rfl rfl ID rfl (gZ k a2 y.1 Re Q4)) ?_;refine s4 rfl rfl rfl (aR rfl) ⟨rfl,trivial⟩ (fun hb=>?_) (fun hb=>?_)
        ·replace h:=cM (DC hb) h;iterate 17 refine dg ?_
         refine df eZ ?_;refine gn ?_;refine pt (nl ?_);exact iz (J,(true,y.2)) h (aZ [.obj Q6 27 (.rep aY QV),.obj u 102 (.at bz a3),.obj c 211 (.eq (.func (.func 149) #[] #[(Pv u),(Pv x),(Pv c)])),.obj x 210 (.eq (.func (.yield l) #[] #[])),.obj b1 107 (.rep (.arr 3 (.arr 5 (.int .i64))) a0)] (E J y.2) [1,2,3,4] ⟨rfl,rfl,rfl,rfl,rfl,rfl,rfl,rfl,rfl,rfl,rfl,trivial⟩ rfl)
        ·replace h:=bQ (DD hb) h;refine lN 1 rfl rfl rfl rfl rfl rfl (ak rfl qm my rfl) ⟨rfl,rfl,trivial⟩ ?_;refine cd rfl rfl rfl rfl rfl (dr rfl) ⟨rfl,rfl,trivial⟩ ?_;refine cd rfl rfl rfl rfl rfl (aH 3 true rfl jl rfl) ⟨rfl,rfl,trivial⟩ ?_;refine cd rfl rfl rfl rfl rfl (ar (t:=bb) rfl ii rfl) ⟨rfl,rfl,trivial⟩ ?_;refine cd rfl rfl rfl rfl rfl (aR rfl) ⟨rfl,rfl,trivial⟩ ?_;obtain⟨Rb,Q3,h⟩:=aa h;refine cd rfl rfl rfl rfl rfl (ao [.tmp 65,.tmp 66] rfl rfl JB rfl (si k a3.1 F Rb Q3)) ⟨rfl,rfl,rfl,trivial⟩ ?_;refine cd rfl rfl rfl rfl rfl (aw rfl nZ) ⟨rfl,rfl,trivial⟩ ?_;refine lN 0 rfl rfl rfl rfl rfl rfl (ak rfl cR my rfl) ⟨rfl,rfl,trivial⟩ ?_;obtain⟨Q9,QZ,h⟩:=aa h;refine cd rfl rfl rfl rfl rfl (bj rfl QZ) ⟨rfl,rfl,rfl,trivial⟩ ?_;refine lN 1 rfl rfl rfl rfl rfl rfl (ak rfl qm my rfl) ⟨rfl,rfl,trivial⟩ ?_;refine cd rfl rfl rfl rfl rfl (dr rfl) ⟨rfl,rfl,trivial⟩ ?_;refine cd rfl rfl rfl rfl rfl (aH 3 true rfl jl rfl) ⟨rfl,rfl,trivial⟩ ?_;refine cd rfl rfl rfl rfl rfl (aH 1 false rfl fF rfl) ⟨rfl,rfl,trivial⟩ ?_;refine cd rfl rfl rfl rfl rfl (ar (t:=(.slice (.int .i64))) rfl cG rfl) ⟨rfl,rfl,trivial⟩ ?_;refine cd rfl rfl rfl rfl rfl (aR rfl) ⟨rfl,rfl,trivial⟩ ?_;obtain⟨Q8,QY,h⟩:=aa h;refine cd rfl rfl rfl rfl rfl (aN (t:=(.int .i64)) rfl eO cR QY) ⟨rfl,rfl,rfl,trivial⟩ ?_;refine cd rfl rfl rfl rfl rfl (ar (t:=(.int .i64)) rfl cR rfl) ⟨rfl,rfl,trivial⟩ ?_;refine df eZ ?_;refine gb (jK rfl) ?_;refine pf (nl ?_);exact iz (J,(decide (Q8 < Q9),y.2)) h (aZ [.obj Q6 27 (.rep aY QV),.obj u 102 (.at bz a3),.obj c 211 (.eq (.func (.func 149) #[] #[(Pv u),(Pv x),(Pv c)])),.obj x 210 (.eq (.func (.yield l) #[] #[])),.obj b1 107 (.rep (.arr 3 (.arr 5 (.int .i64))) a0)] (E J y.2) [1,2,3,4] ⟨rfl,rfl,rfl,rfl,rfl,rfl,rfl,rfl,rfl,rfl,rfl,trivial⟩ rfl)
       ·refine cv h (fun h=>?_) (fun h=>?_)
        ·refine dF (aM (bR (ae ?_)));exact iz (U,O.2) h (aZ [.obj u 102 (.at bz a3),.obj c 211 (.eq (.func (.func 149) #[] #[(Pv u),(Pv x),(Pv c)])),.obj x 210 (.eq (.func (.yield l) #[] #[])),.obj b1 107 (.rep (.arr 3 (.arr 5 (.int .i64))) a0)] (E U O.2) [0,1,2,3] ⟨rfl,rfl,rfl,rfl,rfl,rfl,rfl,rfl,rfl,trivial⟩ rfl)
        ·refine sk (sr (fr 3 ?_));refine lo cT ?_;refine aF rfl rfl rfl (bL rfl l5 mF) trivial fun QU=>?_;refine bg rfl rfl (ba rfl cT rfl rfl rfl) ⟨rfl,rfl,trivial⟩ ?_;refine nt (sr ?_);iterate 2 refine mq ?_
         refine ol eO ?_;refine mq ?_;obtain⟨Rm,QQ,h⟩:=aa h;refine jb (hP rfl IY xO (aC QQ).1 (aC QQ).2) ?_;obtain⟨ac,QX,h⟩:=aa h;obtain⟨Rl,Q,h⟩:=aa h;refine jb (hP rfl IZ cR (aC Q).1 (aC Q).2) ?_;refine bg rfl rfl (mS (t:=(.int .i64)) (off:=0) (i:=a1) (j:=(F.length:Int)) (N:=3) (L:=5) rfl cR .int rfl rfl rfl rfl QX (aC Q).1 (aC Q).2 rfl) ⟨rfl,rfl,trivial⟩ ?_;refine nt (ah (cr ?_));refine ea 3 (ak rfl AT my rfl) ?_;refine ea 0 (ak rfl cT (xk) rfl) ?_;refine dm ?_;refine dm ?_;refine dm ?_;obtain⟨QT,Q2,h⟩:=aa h;refine db (ao [.tmp 91,.tmp 92] rfl rfl Bl rfl (iE k a2 y.1 QT Q2)) ?_;refine df eZ ?_;obtain⟨se,Q1,h⟩:=aa h;refine fr 3 ?_;refine fr 4 ?_;refine fr 4 ?_;refine fr 4 ?_;refine fr 4 ?_;refine ot [.obj QU 107 (.rep (.arr 3 (.arr 5 (.int .i64))) (List.set a0 (Int.toNat a1) (List.set ac (Int.toNat (F.length:Int)) y.1))),.obj b1 107 (.rep (.arr 3 (.arr 5 (.int .i64))) a0)] rfl rfl rfl (nK (fs:=[]) (cs:=[(Pv u),(Pv x),(Pv c)]) (ags:=[.rep (.arr 3 (.arr 5 (.int .i64))) (List.set a0 (Int.toNat a1) (List.set ac (Int.toNat (F.length:Int)) y.1)),I a1,.eq (.int .u8 QT)]) [.tmp 89,.tmp 90,.tmp 93] rfl rfl Gm rfl (ih (List.set a0 (Int.toNat a1) (List.set ac (Int.toNat (F.length:Int)) y.1)) a1 QT U O.2 se Q1)) ⟨rfl,rfl,rfl,rfl,trivial⟩ fun pp=>?_;refine ja (eR rfl) ?_;refine nt (cw h (fun h=>?_) (fun h=>?_))
         ·refine sr (cq (nt (aA (br (bf (aP ?_))))));refine bI (aZ (Γ':=[(9,_)]) [.obj QU 107 (.rep (.arr 3 (.arr 5 (.int .i64))) (List.set a0 (Int.toNat a1) (List.set ac (Int.toNat (F.length:Int)) y.1))),.obj b1 107 (.rep (.arr 3 (.arr 5 (.int .i64))) a0),.obj u 102 (.at bz a3),.obj x 210 (.eq (.func (.yield l) #[] #[])),.obj c 211 (.eq (.func (.func 149) #[] #[(Pv u),(Pv x),(Pv c)]))] (E pp se.2) [2,3,4] ⟨rfl,trivial⟩ rfl) ?_;obtain rfl:=hR _ h;exact ik pp [_] ⟨rfl,trivial⟩ rfl
         ·refine aU (bn ?_);exact iz (pp,se.2) h (aZ [.obj QU 107 (.rep (.arr 3 (.arr 5 (.int .i64))) (List.set a0 (Int.toNat a1) (List.set ac (Int.toNat (F.length:Int)) y.1))),.obj b1 107 (.rep (.arr 3 (.arr 5 (.int .i64))) a0),.obj u 102 (.at bz a3),.obj x 210 (.eq (.func (.yield l) #[] #[])),.obj c 211 (.eq (.func (.func 149) #[] #[(Pv u),(Pv x),(Pv c)]))] (E pp se.2) [2,4,3,1] ⟨rfl,rfl,rfl,rfl,rfl,rfl,rfl,rfl,rfl,trivial⟩ rfl)
      ·refine ab ?_;obtain⟨Q7,QW,h⟩:=aa h;refine jb (bj rfl QW) ?_;refine mq (nl ?_);exact iz (X,(Q7,mc)) h (aZ [.obj u 102 (.at bz a3),.obj c 211 (.eq (.func (.func 149) #[] #[(Pv u),(Pv x),(Pv c)])),.obj x 210 (.eq (.func (.yield l) #[] #[])),.obj b1 107 (.rep (.arr 3 (.arr 5 (.int .i64))) a0)] (E X mc) [0,1,2,3] ⟨rfl,rfl,rfl,rfl,rfl,rfl,rfl,rfl,rfl,trivial⟩ rfl)
     ·refine xa ?_;exact iz (J,y.2) h (aZ [.obj u 102 (.at bz a3),.obj c 211 (.eq (.func (.func 149) #[] #[(Pv u),(Pv x),(Pv c)])),.obj x 210 (.eq (.func (.yield l) #[] #[])),.obj b1 107 (.rep (.arr 3 (.arr 5 (.int .i64))) a0)] (E J y.2) [0,2,1] trivial rfl)
    ·refine sr (cq (nt (aA ?_)));cases h;exact ik qt [_] ⟨rfl,trivial⟩ rfl
def io{σ:Type}(k:Nat)(Y:σ→(List (List Int))→Option (σ×Bool))(a1:cV)(s0:σ):Option (σ):=
 (dn k ([]:(List (List Int)))).bind fun r2=>
 (cN k Y a1 k r2 0 0 s0).bind fun r5=>
 some r5.2
theorem mJ{M:Md Tryz.prog}{σ Z:Type}(E:Z→σ→List D)(l:Nat)(Y:σ→(List (List Int))→Option (σ×Bool))(k:Nat)(a1:cV)(c:Nat)(hY:∀z s p r,Y s p=some r→YT M l [.rep (.arr 3 (.arr 5 (.int .i64))) p] (E z s) (fun z':Z=>(.eq (.bool r.2),E z' r.1))):
 ∀(z0:Z) (s0:σ) (r:σ),io k Y a1 s0=some r→dk M 148 [.eq (.func (.yield l) #[] #[]),Pt c] ([.obj c 102 (.at bz a1)]++E z0 s0) (fun z:Z=>(bq [],[.obj c 102 (.at bz a1)]++E z r)):=by
 intro z0 s0 r h
 unfold io at h
 replace h:=a9 h
 refine dk.of 10 Tryz.func148 rfl Tryz.ntmps148 rfl fun S w0=>?_
 refine sr ?_
 refine bx fun b1=>?_
 refine nt ?_
 refine sr ?_
 obtain⟨r2,j,h⟩:=aa h
 have u:=dJ k ([]:(List (List Int))) r2 j
 refine ja (cI (N:=[(.const (.slice none 0 0),.eq (.slice none 0 0))]) (ao [.const (.slice none 0 0)] rfl rfl Av rfl u) fun _ _ _ hn=>⟨(fX (t:=(.slice (.slice (.int .i64)))) (x:=([]:(List (List Int)))) .nil rfl rfl hn.1),trivial⟩) ?_
 refine aF rfl rfl rfl (bL rfl l5 mF) trivial fun b3=>?_
 refine bg rfl rfl (ba rfl cT rfl rfl rfl) ⟨rfl,rfl,trivial⟩ ?_
 refine nt ?_
 refine sr ?_
 refine aF rfl rfl rfl (bL rfl LY OI) trivial fun b4=>?_
 refine nt ?_
 refine sr ?_
 refine jc (rH [] [.tmp 1,.tmp 2,.tmp 4] [] [(Pv c),(Pv b1),(Pv b4)] rfl rfl rfl) ?_
 refine bg rfl rfl (ba rfl AT rfl rfl rfl) ⟨rfl,rfl,trivial⟩ ?_
 refine nt ?_
 refine ab ?_
 refine lo AT ?_
 refine fr 1 ?_
 refine lo cT ?_
 obtain⟨r5,e,h⟩:=aa h
 have n:=lT E l Y k a1 c b1 b4 hY k r2 0 0 z0 s0 r5 e
 refine fr 1 ?_
 refine fr 2 ?_
 refine fr 3 ?_
 refine fr 3 ?_
 refine ot [.obj b3 107 (.rep (.arr 3 (.arr 5 (.int .i64))) r2)] rfl rfl rfl (nK (fs:=[]) (cs:=[(Pv c),(Pv b1),(Pv b4)]) (ags:=[.rep (.arr 3 (.arr 5 (.int .i64))) r2,I 0,.eq (.int .u8 0)]) [.tmp 8,.const (.int .i64 (0)),.const (.int .u8 (0))] rfl rfl Gm rfl n) ⟨rfl,rfl,rfl,rfl,trivial⟩ fun z6=>?_
 refine ap ?_
 refine iC ?_
 refine bI (aZ (Γ':=[]) [.obj b3 107 (.rep (.arr 3 (.arr 5 (.int .i64))) r2),.obj c 102 (.at bz a1),.obj b1 210 (.eq (.func (.yield l) #[] #[])),.obj b4 211 (.eq (.func (.func 149) #[] #[(Pv c),(Pv b1),(Pv b4)]))] (E z6 r5.2) [1] trivial rfl) ?_
 cases h
 exact ik z6 [] trivial rfl
def iL(k:Nat)(a1:cV):Option (List (List (List Int))):=
 (io k (pj (fun(y2:(List (List (List Int)))) (p4:(List (List Int)))=>
  (d6 (bV (List.length y2+List.length [p4]))).bind fun _=>
  some (y2++[p4],true))) a1 (([]:(List (List (List Int)))),false)).bind fun r5=>
 if r5.2=true then(none) else(some r5.1)
theorem nn(k:Nat)(a1:cV)(c:Nat)(r:(List (List (List Int))))(h:iL k a1=some r):
 bX Tryz.prog 147 [.eq (.slice none 0 0),.eq (.func (.func 148) #[] #[(Pv c)])] [.obj c 102 (.at bz a1)] (fun z:Value=>(bq [.eq z],[.sl z 107 (.arr 3 (.arr 5 (.int .i64))) r,.obj c 102 (.at bz a1)])):=by
 unfold iL at h
 replace h:=a9 h
 refine xg 13 Tryz.func147 rfl Tryz.ntmps147 rfl fun {M} S w0=>?_
 refine sr ?_
 refine bx fun b1=>?_
 refine cq ?_
 refine nt ?_
 refine ah ?_
 refine sr ?_
 refine mq ?_
 refine nt ?_
 refine aj ?_
 refine gd (SE.nil 107 (.arr 3 (.arr 5 (.int .i64)))) ?_
 refine iD 1 rfl ?_
 refine iD 2 rfl ?_
 obtain⟨r5,j,h⟩:=aa h
 refine m8 (Δ:=[.obj c 102 (.at bz a1),.obj b1 152 (.eq (.slice none 0 0)),.sl (.slice none 0 0) 107 (.arr 3 (.arr 5 (.int .i64))) ([]:(List (List (List Int))))]) (F:=[]) (X:=Value) (J:=fun _=>Ia r5.2) (E:=fun z3=>[.obj c 102 (.at bz a1),.obj b1 152 (.eq z3),.sl z3 107 (.arr 3 (.arr 5 (.int .i64))) r5.1]) (r0:=fun _=>.tup .any) rfl rfl Og (fun rec hp ha hb hs hpe hN hv l=>?_) (fun dl z3=>pz (fun hj=>?_) (fun hj=>?_))
 ·
  rcases rec with⟨st0,pe0,fn0,tm0,ps0,as0,bd0,df0⟩;dsimp only at hp ha hb hs hpe hN hv;subst hp hs hpe;have vN:ul tm0 [(2,Pt b1)]:=⟨congrArg A.eq (hv 2 _ rfl).symm,trivial⟩;refine dk.pick (M:=M) [1,0,2,3] [1,0,2,3] (mJ (fun(z3:Value) (q:(List (List (List Int)))×Bool)=>[.raw l (.loop (i9 ⟨.ready,none,fn0,tm0, #[7],as0,bd0,df0⟩ (Ia q.2))),.obj b1 152 (.eq z3),.sl z3 107 (.arr 3 (.arr 5 (.int .i64))) q.1]) l (pj (fun(y2:(List (List (List Int)))) (p4:(List (List Int)))=>
  (d6 (bV (List.length y2+List.length [p4]))).bind fun _=>
  some (y2++[p4],true))) k a1 c (fun z3 q p r' h=>?_) (.slice none 0 0) (([]:(List (List (List Int)))),false) r5 j) rfl (fun _=>rfl) (fun _=>rfl)
  obtain⟨rq,hq,h2,rfl⟩:=pA h;obtain⟨y2,b5⟩:=q;obtain rfl:b5=false:=hq;replace h:=a9 h2;obtain⟨p4,hpv⟩:∃x,x=p:=⟨_,rfl⟩;subst hpv;refine YT.pick (R':=(fun z3:Value=>(.eq (.bool rq.2),[.raw l (.loop (i9 ⟨.ready,none,fn0,tm0, #[7],as0,bd0,df0⟩ (Ia (!rq.2)))),.obj b1 152 (.eq z3),.sl z3 107 (.arr 3 (.arr 5 (.int .i64))) rq.1]))) [0,1,2] [0,1,2] (GK ha hb (N:=13) (Γ:=[(2,Pt b1)]) rfl hN (by decide) vN (fun S w=>?_)) rfl (fun _=>rfl) (fun _=>rfl);refine ab (aF rfl rfl rfl (bL rfl l5 mF) trivial fun b6=>?_);refine bg rfl rfl (ba rfl cT rfl rfl rfl) ⟨rfl,rfl,trivial⟩ ?_;refine nl (du 1 rfl ?_);refine uu rfl rfl ?_;refine aj (ab (fr 2 ?_));refine lo Ea ?_;refine fr 2 ?_;refine lo cT ?_;refine ja (bG (t:=(.arr 3 (.arr 5 (.int .i64)))) [(.tmp 9,_)] [p4] rfl rfl Jo (.cons rfl .rep .nil) rfl rfl) ?_;obtain⟨u7,e,h⟩:=aa h;refine fr 3 ?_;refine ek rfl rfl rfl (cp rfl rfl Jo (aC e)) ⟨rfl,rfl,trivial⟩ fun v8=>?_;refine xc fun o9=>?_;refine fr 2 ?_;refine bg rfl rfl (ba rfl Ea o9 rfl rfl) ⟨rfl,rfl,trivial⟩ ?_;refine ap (aI (du 1 rfl ?_));refine du 1 rfl ?_;refine du 3 rfl ?_;cases h;exact sd v8 2 rfl
 ·
  replace h:=bQ (DD hj) h;refine aI (tn (sr (fr 2 ?_)));refine lo Ea ?_;refine aq (nt (aA ?_));refine du 1 rfl ?_;refine xe ?_;refine bI (SE.fin (Γ':=[(4,_)]) [2,1,0] ⟨rfl,trivial⟩ rfl) ?_;cases h;exact aG z3 [.eq z3] 2 ⟨rfl,trivial⟩ rfl
 ·
  replace h:=cM (DC hj) h;cases h
def jt(k:Nat)(a0:cV):Option (List (List (List Int))):=
 (iL k a0).bind fun r1=>
 some r1
theorem oZ(k:Nat)(a0:cV)(c:Nat)(r:(List (List (List Int))))(h:jt k a0=some r):
 bX Tryz.prog 115 [.eq (.func (.func 148) #[] #[(Pv c)])] [.obj c 102 (.at bz a0)] (fun _:Unit=>(bq [.rep (.slice (.arr 3 (.arr 5 (.int .i64)))) r],[.obj c 102 (.at bz a0)])):=by
 unfold jt at h
 replace h:=a9 h
 refine bX.of 5 Tryz.func115 rfl Tryz.ntmps115 rfl fun S w0=>?_
 refine sr ?_
 refine cq ?_
 refine nt ?_
 refine sr ?_
 refine mq ?_
 obtain⟨r1,e,h⟩:=aa h
 have j:=nn k a0 c r1 e
 refine bC (Δ:=[_]) (F:=_) (fun _ _ _=>av rfl _) rfl rfl (ao [.const (.slice none 0 0),.tmp 3] rfl rfl Oh rfl j) ⟨rfl,rfl,trivial⟩ fun z2=>?_
 refine aq ?_
 refine nt ?_
 refine aA ?_
 refine bI (gI [2,4] ⟨rfl,rfl,trivial⟩) ?_
 cases h
 exact aG () [_] 1 ⟨rfl,trivial⟩ rfl
theorem nC(a0:cV):bX Tryz.prog 116 [.at bz a0] [] (fun z:Nat=>(bq [.eq (.func (.func 148) #[] #[(Pv z)])],[.obj z 102 (.at bz a0)])):=by
 refine bX.of 4 Tryz.func116 rfl Tryz.ntmps116 rfl fun S w0=>?_;refine sr (aF rfl rfl rfl (mo rfl trivial) ⟨rfl,trivial⟩ fun z=>?_);refine cq (nt (sr ?_));refine ja (rH [] [.tmp 1] [] [(Pv z)] rfl rfl rfl) ?_;refine aq (nt (aA ?_));exact aG z [_] 1 ⟨rfl,trivial⟩ rfl
def jN(k:Nat)(a0:(List Int)):Option bm:=
 ((if(a0.length:Int)=0 then(some [3,2]) else(some a0)):Option ((List Int))).bind fun x2=>
 some (3,[(1,[0,2]),(1,[1]),(2,[2]),(1,[0,1])],x2)
theorem iR(k:Nat)(a0:(List Int))(r:bm)(h:jN k a0=some r):
 bX Tryz.prog 78 [Ri a0] [] (fun _:Unit=>(bq [.rep bb r],[])):=by
 unfold jN at h
 replace h:=a9 h
 refine bX.of 18 Tryz.func78 rfl Tryz.ntmps78 rfl fun S w0=>?_
 refine sr ?_
 refine aF rfl rfl rfl (bL rfl xo Dj) trivial fun b1=>?_
 refine nt ?_
 refine aW (Z:=Unit) (α:=(List Int)) (fun z3 x2=>[(0,Ri x2),(2,Pt b1)]) (fun z3 x2=>[.obj b1 25 (.agg (.pair (I 0) (.pair (.eq (.slice none 0 0)) (.eq (.slice none 0 0)))))]) h (fun K h=>?_) (fun z3 x2 h=>?_)
 ·
  refine sr (mq ?_);refine ol eO ?_;refine jb (eS rfl) ?_;refine nt (ci h (fun h=>?_) (fun h=>?_))
  ·refine ab (jb (bG (t:=(.int .i64)) [(.const (.int .i64 (3)),_),(.const (.int .i64 (2)),_)] [3,2] rfl rfl eP (.cons rfl .int (.cons rfl .int .nil)) rfl rfl) ?_);refine aq (nl ?_);exact jz ((),[3,2]) h [0]
  ·refine aU (ae ?_);exact jz ((),a0) h [0]
 ·
  refine sr (jb (bG (t:=(.int .i64)) [(.const (.int .i64 (0)),_),(.const (.int .i64 (2)),_)] [0,2] rfl rfl eP (.cons rfl .int (.cons rfl .int .nil)) rfl rfl) ?_);refine jb (dt [(0,.const (.int .i64 (1)),_),(1,.tmp 7,_)] rfl Es vS yX (i7 ⟨rfl,rfl,trivial⟩) rfl) ?_;refine ja (bG (t:=(.int .i64)) [(.const (.int .i64 (1)),_)] [1] rfl rfl eP (.cons rfl .int .nil) rfl rfl) ?_;refine jb (dt [(0,.const (.int .i64 (1)),_),(1,.tmp 9,_)] rfl Es vS yX (i7 ⟨rfl,rfl,trivial⟩) rfl) ?_;refine ja (bG (t:=(.int .i64)) [(.const (.int .i64 (2)),_)] [2] rfl rfl eP (.cons rfl .int .nil) rfl rfl) ?_;refine jb (dt [(0,.const (.int .i64 (2)),_),(1,.tmp 11,_)] rfl Es vS yX (i7 ⟨rfl,rfl,trivial⟩) rfl) ?_;refine jb (bG (t:=(.int .i64)) [(.const (.int .i64 (0)),_),(.const (.int .i64 (1)),_)] [0,1] rfl rfl eP (.cons rfl .int (.cons rfl .int .nil)) rfl rfl) ?_;refine jb (dt [(0,.const (.int .i64 (1)),_),(1,.tmp 13,_)] rfl Es vS yX (i7 ⟨rfl,rfl,trivial⟩) rfl) ?_;refine aB rfl (bG (t:=aY) [(.tmp 8,_),(.tmp 10,_),(.tmp 12,_),(.tmp 14,_)] [(1,[0,2]),(1,[1]),(2,[2]),(1,[0,1])] rfl rfl J1 (.cons trivial (.agg (.pair .int .rep)) (.cons trivial (.agg (.pair .int .rep)) (.cons trivial (.agg (.pair .int .rep)) (.cons trivial (.agg (.pair .int .rep)) .nil)))) rfl rfl) ⟨rfl,rfl,rfl,rfl,trivial⟩ ?_;refine mq ?_;refine jc (dt [(0,.const (.int .i64 (3)),_),(1,.tmp 15,_),(2,.tmp 16,_)] rfl MM xo JL (i7 ⟨rfl,rfl,rfl,trivial⟩) rfl) ?_;refine bg rfl rfl (ba rfl ii trivial rfl rfl) ⟨rfl,rfl,trivial⟩ ?_;refine nt (aA (bI (qX (a:=.agg (.pair (I 3) (.pair (Rs aY [(1,[0,2]),(1,[1]),(2,[2]),(1,[0,1])]) (Ri x2)))) (a':=.rep bb (3,[(1,[0,2]),(1,[1]),(2,[2]),(1,[0,1])],x2)) (AL (.agg (.pair .int (.pair .rep .rep))))) ?_));cases h;exact aG () [.rep bb (3,[(1,[0,2]),(1,[1]),(2,[2]),(1,[0,1])],x2)] 0 ⟨⟨_,_,_,_,_,rfl,(.head _),ii,(xk),rfl⟩,trivial⟩ rfl
def vt(k:Nat):Option (List (List Int)):=
 some [[1,0,3],[2]]
theorem qH(k:Nat)(r:(List (List Int)))(h:vt k=some r):
 bX Tryz.prog 79 [] [] (fun _:Unit=>(bq [.rep (.slice (.slice (.int .i64))) r],[])):=by
 unfold vt at h
 replace h:=a9 h
 refine bX.of 4 Tryz.func79 rfl Tryz.ntmps79 rfl fun S w0=>?_
 refine sr ?_
 refine cq ?_
 refine nt ?_
 refine sr ?_
 refine jc (bG (t:=(.int .i64)) [(.const (.int .i64 (1)),_),(.const (.int .i64 (0)),_),(.const (.int .i64 (3)),_)] [1,0,3] rfl rfl eP (.cons rfl .int (.cons rfl .int (.cons rfl .int .nil))) rfl rfl) ?_
 refine ja (bG (t:=(.int .i64)) [(.const (.int .i64 (2)),_)] [2] rfl rfl eP (.cons rfl .int .nil) rfl rfl) ?_
 refine jb (bG (t:=(.slice (.int .i64))) [(.tmp 1,_),(.tmp 2,_)] [[1,0,3],[2]] rfl rfl tj (.cons rfl .rep (.cons rfl .rep .nil)) rfl rfl) ?_
 refine aq ?_
 refine nt ?_
 refine aA ?_
 cases h
 exact ra
def FA(k:Nat):Option (List (List Int)):=
 some [[0,2],[3,1]]
theorem Fz(k:Nat)(r:(List (List Int)))(h:FA k=some r):
 bX Tryz.prog 80 [] [] (fun _:Unit=>(bq [.rep (.slice (.slice (.int .i64))) r],[])):=by
 unfold FA at h
 replace h:=a9 h
 refine bX.of 4 Tryz.func80 rfl Tryz.ntmps80 rfl fun S w0=>?_
 refine sr ?_
 refine cq ?_
 refine nt ?_
 refine sr ?_
 refine jb (bG (t:=(.int .i64)) [(.const (.int .i64 (0)),_),(.const (.int .i64 (2)),_)] [0,2] rfl rfl eP (.cons rfl .int (.cons rfl .int .nil)) rfl rfl) ?_
 refine jb (bG (t:=(.int .i64)) [(.const (.int .i64 (3)),_),(.const (.int .i64 (1)),_)] [3,1] rfl rfl eP (.cons rfl .int (.cons rfl .int .nil)) rfl rfl) ?_
 refine jb (bG (t:=(.slice (.int .i64))) [(.tmp 1,_),(.tmp 2,_)] [[0,2],[3,1]] rfl rfl tj (.cons rfl .rep (.cons rfl .rep .nil)) rfl rfl) ?_
 refine aq ?_
 refine nt ?_
 refine aA ?_
 cases h
 exact ra
def lJ(k:Nat)(a0:(List Int)):Option bM:=
 some (a0,0,1)
theorem t4(k:Nat)(a0:(List Int))(r:bM)(h:lJ k a0=some r):
 bX Tryz.prog 26 [Ri a0] [] (fun z:Nat=>(bq [Pt z],[.obj z 98 (.agg (.pair (Ri r.1) (.pair (I r.2.1) (.eq (.int .u64 r.2.2)))))])):=by
 unfold lJ at h
 replace h:=a9 h
 refine bX.of 6 Tryz.func26 rfl Tryz.ntmps26 rfl fun S w0=>?_
 refine sr ?_
 refine cq ?_
 refine nt ?_
 refine sr ?_
 refine mq ?_
 refine jb (dt [(0,.tmp 3,_),(2,.const (.int .u64 (1)),_)] rfl PD Pn OG (i7 ⟨rfl,rfl,trivial⟩) rfl) ?_
 refine aF rfl rfl rfl (mo rfl trivial) ⟨rfl,trivial⟩ fun b1=>?_
 refine aq ?_
 refine nt ?_
 refine aA ?_
 cases h
 exact aG b1 [Pt b1] 1 ⟨rfl,trivial⟩ rfl
def ji(k:Nat)(a0:(List Int)):Option (List Int):=
 (d6 (bV (List.length ([]:(List Int))+List.length a0))).bind fun _=>
 some (([]:(List Int))++a0)
theorem sL(k:Nat)(a0:(List Int))(r:(List Int))(h:ji k a0=some r):
 bX Tryz.prog 55 [Ri a0] [] (fun z:Value=>(bq [.eq z],[.sl z 3 (.int .i64) r])):=by
 unfold ji at h
 replace h:=a9 h
 refine bX.of 6 Tryz.func55 rfl Tryz.ntmps55 rfl fun S w0=>?_
 refine sr ?_
 refine cq ?_
 refine nt ?_
 refine sr ?_
 refine aF rfl rfl rfl (mT (t:=(.int .i64)) [] ([]:(List Int)) rfl rfl eP .nil rfl rfl) trivial fun v1=>?_
 refine mq ?_
 obtain⟨u2,c,h⟩:=aa h
 refine ek rfl rfl rfl (cp rfl rfl eP (aC c)) ⟨rfl,rfl,trivial⟩ fun v3=>?_
 refine aq ?_
 refine nt ?_
 refine aA ?_
 cases h
 exact aG v3 [.eq v3] 1 ⟨rfl,trivial⟩ rfl
def ix(k:Nat)(a0:bM):Option (Int×bM):=
 ((if a0.2.1 < (a0.1.length:Int) then((a8 a0.1 a0.2.1).bind fun x3=>
 some (IntKind.u64.wrap ((IntKind.u64.wrap ((IntKind.u64.wrap (a0.2.2 * 6364136223846793005))+1442695040888963407))+(IntKind.u64.wrap ((IntKind.u64.wrap x3) * 2862933555777941757))))) else(some (IntKind.u64.wrap ((IntKind.u64.wrap (a0.2.2 * 6364136223846793005))+1442695040888963407)))):Option (Int)).bind fun x1=>
 (ck (a0.2.1+1)).bind fun x4=>
 some (gX .u64 (pR .u64 (IntKind.u64.wrap ((pR .u64 x1 (gX .u64 x1 29)) * 2685821657736338717)) (gX .u64 (IntKind.u64.wrap ((pR .u64 x1 (gX .u64 x1 29)) * 2685821657736338717)) 32)) 8,(a0.1,x4,x1))
theorem rR(k:Nat)(a0:bM)(c:Nat)(r:Int×bM)(h:ix k a0=some r):
 bX Tryz.prog 82 [Pt c] [.obj c 98 (.agg (.pair (Ri a0.1) (.pair (I a0.2.1) (.eq (.int .u64 a0.2.2)))))] (fun _:Unit=>(bq [.eq (.int .u64 r.1)],[.obj c 98 (.agg (.pair (Ri r.2.1) (.pair (I r.2.2.1) (.eq (.int .u64 r.2.2.2)))))])):=by
 unfold ix at h
 replace h:=a9 h
 refine bX.of 67 Tryz.func82 rfl Tryz.ntmps82 rfl fun S w0=>?_
 refine sr ?_
 refine cq ?_
 refine nt ?_
 refine sr ?_
 iterate 2 refine mq ?_
 refine ja (aQ rfl) ?_
 refine fl rT ?_
 refine lo BU ?_
 refine jb (zR rfl) ?_
 refine jb (zT rfl) ?_
 refine ja (aQ rfl) ?_
 refine fl rT ?_
 refine bg rfl rfl (ba rfl BU rfl rfl rfl) ⟨rfl,rfl,trivial⟩ ?_
 refine nt ?_
 refine aW (Z:=Unit) (α:=Int) (fun z2 x1=>[(0,Pt c)]) (fun z2 x1=>[.obj c 98 (.agg (.pair (Ri a0.1) (.pair (I a0.2.1) (.eq (.int .u64 x1)))))]) h (fun K h=>?_) (fun z2 x1 h=>?_)
 ·
  refine ah (cr ?_);refine dm ?_;refine da (aQ rfl) ?_;refine da (aw rfl wM) ?_;refine ea 0 (ak rfl cR my rfl) ?_;refine dm ?_;refine da (aQ rfl) ?_;refine da (aw rfl F5) ?_;refine ea 0 (ak rfl cG my rfl) ?_;refine da (mm rfl rfl eO) ?_;refine df eZ ?_;refine jb (bH rfl) ?_;refine nt (ci h (fun h=>?_) (fun h=>?_))
  ·refine cr ?_;refine dm ?_;refine dm ?_;refine da (aQ rfl) ?_;refine da (aw rfl rT) ?_;refine ea 0 (ak rfl BU my rfl) ?_;refine dm ?_;refine da (aQ rfl) ?_;refine da (aw rfl F5) ?_;refine ea 0 (ak rfl cG my rfl) ?_;refine dm ?_;refine da (aQ rfl) ?_;refine da (aw rfl wM) ?_;refine ea 0 (ak rfl cR my rfl) ?_;obtain⟨x3,j,h⟩:=aa h;refine db (aN (t:=(.int .i64)) rfl eO cR j) ?_;refine da (ar (t:=(.int .i64)) rfl cR rfl) ?_;refine da (nJ rfl U3 O9) ?_;refine db (zR rfl) ?_;refine db (zT rfl) ?_;refine df eZ ?_;refine ja (aQ rfl) ?_;refine fl rT ?_;refine bg rfl rfl (ba rfl BU rfl rfl rfl) ⟨rfl,rfl,trivial⟩ ?_;refine nl ?_;exact jz ((),IntKind.u64.wrap ((IntKind.u64.wrap ((IntKind.u64.wrap (a0.2.2 * 6364136223846793005))+1442695040888963407))+(IntKind.u64.wrap ((IntKind.u64.wrap x3) * 2862933555777941757)))) h [0]
  ·refine aU (ae ?_);exact jz ((),IntKind.u64.wrap ((IntKind.u64.wrap (a0.2.2 * 6364136223846793005))+1442695040888963407)) h [0]
 ·
  refine sr (mq ?_);refine ja (aQ rfl) ?_;refine fl wM ?_;refine lo cR ?_;obtain⟨x4,e,h⟩:=aa h;refine jb (bj rfl e) ?_;refine ja (aQ rfl) ?_;refine fl wM ?_;refine bg rfl rfl (ba rfl cR rfl rfl rfl) ⟨rfl,rfl,trivial⟩ ?_;refine nt (ah (cr ?_));refine dm ?_;refine da (aQ rfl) ?_;refine da (aw rfl rT) ?_;refine ea 0 (ak rfl BU my rfl) ?_;refine dm ?_;refine da (aQ rfl) ?_;refine da (aw rfl rT) ?_;refine ea 0 (ak rfl BU my rfl) ?_;refine di rfl rfl rfl (tO rfl (by decide)) ⟨rfl,rfl,trivial⟩ ?_;refine df eZ ?_;refine jb (Jr rfl) ?_;refine aq (nt (sr ?_));refine mq ?_;refine jb (zR rfl) ?_;refine aq (nt (sr ?_));iterate 2 refine mq ?_
  refine aB rfl (tO rfl (by decide)) ⟨rfl,rfl,trivial⟩ ?_;refine jb (Jr rfl) ?_;refine aB rfl (tO rfl (by decide)) ⟨rfl,rfl,trivial⟩ ?_;refine aq (nt (aA ?_));cases h;exact aG () [_] 1 ⟨rfl,trivial⟩ rfl
def dE(k:Nat)(a0:bM)(a1:Int):Option (Int×bM):=
 if a1 < 1 then(some (0,(a0.1,a0.2.1,a0.2.2))) else((ix k (a0.1,a0.2.1,a0.2.2)).bind fun r1=>
 (ck (a1+1)).bind fun x2=>
 (d6 ((IntKind.u64.wrap x2)≠0)).bind fun _=>
 (ck (Int.tmod r1.1 (IntKind.u64.wrap x2))).bind fun x4=>
 some (x4,(r1.2.1,r1.2.2.1,r1.2.2.2)))
theorem fV(k:Nat)(a0:bM)(c:Nat)(a1:Int)(r:Int×bM)(h:dE k a0 a1=some r):
 bX Tryz.prog 28 [Pt c,I a1] [.obj c 98 (.agg (.pair (Ri a0.1) (.pair (I a0.2.1) (.eq (.int .u64 a0.2.2)))))] (fun _:Unit=>(bq [I r.1],[.obj c 98 (.agg (.pair (Ri r.2.1) (.pair (I r.2.2.1) (.eq (.int .u64 r.2.2.2)))))])):=by
 unfold dE at h
 replace h:=a9 h
 refine bX.of 14 Tryz.func28 rfl Tryz.ntmps28 rfl fun S w0=>?_
 refine sr ?_
 refine cq ?_
 refine nt ?_
 refine ah ?_
 refine sr ?_
 refine mq ?_
 refine jb (bH rfl) ?_
 refine nt ?_
 refine ci h (fun h=>?_) (fun h=>?_)
 ·
  refine sr (cq (nt (rx ?_)));cases h;exact aG () [_] 1 ⟨rfl,trivial⟩ rfl
 ·
  refine sk (sr (mq ?_));obtain⟨r1,n,h⟩:=aa h;refine ka (ao [.tmp 7] rfl rfl P4 rfl (rR k (a0.1,a0.2.1,a0.2.2) c r1 n)) ?_;refine mq ?_;obtain⟨x2,j,h⟩:=aa h;refine jb (bj rfl j) ?_;refine ja (nJ rfl U3 O9) ?_;obtain⟨u3,l,h⟩:=aa h;refine jb (EE rfl (aC l)) ?_;obtain⟨x4,e,h⟩:=aa h;refine ja (yg rfl O9 U3 e) ?_;refine aq (nt (aA ?_));cases h;exact aG () [_] 1 ⟨rfl,trivial⟩ rfl
def eF(k:Nat)(a0:bM)(a1:Int)(a2:Int):Option (Int×bM):=
 (ck (a2 - a1)).bind fun x1=>
 (dE k (a0.1,a0.2.1,a0.2.2) x1).bind fun r2=>
 (ck (a1+r2.1)).bind fun x3=>
 some (x3,(r2.2.1,r2.2.2.1,r2.2.2.2))
theorem k9(k:Nat)(a0:bM)(c:Nat)(a1:Int)(a2:Int)(r:Int×bM)(h:eF k a0 a1 a2=some r):
 bX Tryz.prog 51 [Pt c,I a1,I a2] [.obj c 98 (.agg (.pair (Ri a0.1) (.pair (I a0.2.1) (.eq (.int .u64 a0.2.2)))))] (fun _:Unit=>(bq [I r.1],[.obj c 98 (.agg (.pair (Ri r.2.1) (.pair (I r.2.2.1) (.eq (.int .u64 r.2.2.2)))))])):=by
 unfold eF at h
 replace h:=a9 h
 refine bX.of 14 Tryz.func51 rfl Tryz.ntmps51 rfl fun S w0=>?_
 refine sr ?_
 refine cq ?_
 refine nt ?_
 refine sr ?_
 iterate 4 refine mq ?_
 obtain⟨x1,j,h⟩:=aa h
 refine jb (fH rfl j) ?_
 obtain⟨r2,l,h⟩:=aa h
 have n:=fV k (a0.1,a0.2.1,a0.2.2) c x1 r2 l
 refine kb (ao [.tmp 8,.tmp 11] rfl rfl Gk rfl n) ?_
 obtain⟨x3,e,h⟩:=aa h
 refine jb (bj rfl e) ?_
 refine aq ?_
 refine nt ?_
 refine aA ?_
 cases h
 exact aG () [_] 1 ⟨rfl,trivial⟩ rfl
def iS(k:Nat)(a0:bM)(a1:(List Int)):Option (Int×bM):=
 (ck ((a1.length:Int) - 1)).bind fun x1=>
 (dE k (a0.1,a0.2.1,a0.2.2) x1).bind fun r2=>
 (a8 a1 r2.1).bind fun x3=>
 some (x3,(r2.2.1,r2.2.2.1,r2.2.2.2))
theorem nR(k:Nat)(a0:bM)(c:Nat)(a1:(List Int))(r:Int×bM)(h:iS k a0 a1=some r):
 bX Tryz.prog 112 [Pt c,Ri a1] [.obj c 98 (.agg (.pair (Ri a0.1) (.pair (I a0.2.1) (.eq (.int .u64 a0.2.2)))))] (fun _:Unit=>(bq [I r.1],[.obj c 98 (.agg (.pair (Ri r.2.1) (.pair (I r.2.2.1) (.eq (.int .u64 r.2.2.2)))))])):=by
 unfold iS at h
 replace h:=a9 h
 refine bX.of 13 Tryz.func112 rfl Tryz.ntmps112 rfl fun S w0=>?_
 refine sr ?_
 refine cq ?_
 refine nt ?_
 refine sr ?_
 iterate 3 refine mq ?_
 refine ol eO ?_
 obtain⟨x1,j,h⟩:=aa h
 refine jb (fH rfl j) ?_
 obtain⟨r2,l,h⟩:=aa h
 have n:=fV k (a0.1,a0.2.1,a0.2.2) c x1 r2 l
 refine kb (ao [.tmp 6,.tmp 9] rfl rfl Gk rfl n) ?_
 obtain⟨x3,e,h⟩:=aa h
 refine jb (aN (t:=(.int .i64)) rfl eO cR e) ?_
 refine ja (ar (t:=(.int .i64)) rfl cR rfl) ?_
 refine aq ?_
 refine nt ?_
 refine aA ?_
 cases h
 exact aG () [_] 1 ⟨rfl,trivial⟩ rfl
def fE(k:Nat)(a0:bM)(a1:Int):Option (Bool×bM):=
 (ck (a1 - 1)).bind fun x1=>
 (dE k (a0.1,a0.2.1,a0.2.2) x1).bind fun r2=>
 some (decide (r2.1=0),(r2.2.1,r2.2.2.1,r2.2.2.2))
theorem mz(k:Nat)(a0:bM)(c:Nat)(a1:Int)(r:Bool×bM)(h:fE k a0 a1=some r):
 bX Tryz.prog 113 [Pt c,I a1] [.obj c 98 (.agg (.pair (Ri a0.1) (.pair (I a0.2.1) (.eq (.int .u64 a0.2.2)))))] (fun _:Unit=>(bq [.eq (.bool r.1)],[.obj c 98 (.agg (.pair (Ri r.2.1) (.pair (I r.2.2.1) (.eq (.int .u64 r.2.2.2)))))])):=by
 unfold fE at h
 replace h:=a9 h
 refine bX.of 10 Tryz.func113 rfl Tryz.ntmps113 rfl fun S w0=>?_
 refine sr ?_
 refine cq ?_
 refine nt ?_
 refine sr ?_
 iterate 2 refine mq ?_
 obtain⟨x1,e,h⟩:=aa h
 refine jb (fH rfl e) ?_
 obtain⟨r2,j,h⟩:=aa h
 have l:=fV k (a0.1,a0.2.1,a0.2.2) c x1 r2 j
 refine kb (ao [.tmp 5,.tmp 7] rfl rfl Gk rfl l) ?_
 refine jb (eS rfl) ?_
 refine aq ?_
 refine nt ?_
 refine aA ?_
 cases h
 exact aG () [_] 1 ⟨rfl,trivial⟩ rfl
def eC(k:Nat)(r2:Int×bM):Nat→((List Int)×Int×Int×(List Int)×Int)→Option ((List Int)×Int×Int×(List Int))
 |0,_=>none
 |n+1,c=>
  if c.2.2.2.2 < r2.1 then((((fE k (c.1,c.2.1,c.2.2.1) 2).bind fun e=>
  if e.1=true then((d6 (bV (List.length c.2.2.2.1+List.length [c.2.2.2.2]))).bind fun _=>
  some (e.2.1,e.2.2.1,e.2.2.2,c.2.2.2.1++[c.2.2.2.2])) else(some (e.2.1,e.2.2.1,e.2.2.2,c.2.2.2.1))):Option ((List Int)×Int×Int×(List Int))).bind fun h=>
  (ck (c.2.2.2.2+1)).bind fun j=>
  eC k r2 n (h.1,h.2.1,h.2.2.1,h.2.2.2,j)) else(some (c.1,c.2.1,c.2.2.1,c.2.2.2.1))
def eD(k:Nat)(r2:Int×bM):Nat→((List Int)×Int×Int×(List ic)×Int×Int)→Option ((List Int)×Int×Int×(List ic)×Int)
 |0,_=>none
 |n+1,y7=>
  if 0 < y7.2.2.2.2.2 then((((iS k (y7.1,y7.2.1,y7.2.2.1) [1,1,1,2,3]).bind fun c=>
  ((eC k r2 k (c.2.1,c.2.2.1,c.2.2.2,([]:(List Int)),0)):Option ((List Int)×Int×Int×(List Int))).bind fun e=>
  (d6 (bV (List.length y7.2.2.2.1+List.length [(c.1,e.2.2.2)]))).bind fun _=>
  (ck (y7.2.2.2.2.1+c.1)).bind fun j=>
  some (e.1,e.2.1,e.2.2.1,y7.2.2.2.1++[(c.1,e.2.2.2)],j)):Option ((List Int)×Int×Int×(List ic)×Int)).bind fun x9=>
  (ck (y7.2.2.2.2.2 - 1)).bind fun h=>
  eD k r2 n (x9.1,x9.2.1,x9.2.2.1,x9.2.2.2.1,x9.2.2.2.2,h)) else(some (y7.1,y7.2.1,y7.2.2.1,y7.2.2.2.1,y7.2.2.2.2.1))
def eB(k:Nat)(x4:(List Int)×Int×Int×(List ic)×Int):Nat→((List Int)×Int×Int×(List Int)×Int)→Option ((List Int)×Int×Int×(List Int))
 |0,_=>none
 |n+1,c=>
  if 0 < c.2.2.2.2 then((ck (x4.2.2.2.2+1)).bind fun j=>
  (iS k (c.1,c.2.1,c.2.2.1) [1,2,3,o7 9 x4.2.2.2.2,o7 9 j]).bind fun e=>
  (d6 (bV (List.length c.2.2.2.1+List.length [e.1]))).bind fun _=>
  (ck (c.2.2.2.2 - 1)).bind fun h=>
  eB k x4 n (e.2.1,e.2.2.1,e.2.2.2,c.2.2.2.1++[e.1],h)) else(some (c.1,c.2.1,c.2.2.1,c.2.2.2.1))
def iO(k:Nat)(a0:bM)(a1:Int)(a2:Int):Option (bm×bM):=
 (eF k (a0.1,a0.2.1,a0.2.2) 1 4).bind fun r2=>
 (((eF k (r2.2.1,r2.2.2.1,r2.2.2.2) 0 a1).bind fun r6=>
 eD k r2 k (r6.2.1,r6.2.2.1,r6.2.2.2,([]:(List ic)),0,r6.1)):Option ((List Int)×Int×Int×(List ic)×Int)).bind fun x4=>
 (((eF k (x4.1,x4.2.1,x4.2.2.1) 1 a2).bind fun j=>
 eB k x4 k (j.2.1,j.2.2.1,j.2.2.2,([]:(List Int)),j.1)):Option ((List Int)×Int×Int×(List Int))).bind fun e=>
 (((fE k (e.1,e.2.1,e.2.2.1) 2).bind fun c=>
 if c.1=true then((a8 e.2.2.2 0).bind fun l=>
 some (List.set e.2.2.2 (Int.toNat 0) (o7 9 x4.2.2.2.2),c.2.1,c.2.2.1,c.2.2.2)) else(some (e.2.2.2,c.2.1,c.2.2.1,c.2.2.2))):Option ((List Int)×(List Int)×Int×Int)).bind fun h=>
 some ((r2.1,x4.2.2.2.1,h.1),(h.2.1,h.2.2.1,h.2.2.2))
theorem t3(k:Nat)(a0:bM)(c:Nat)(a1:Int)(a2:Int)(r:bm×bM)(h:iO k a0 a1 a2=some r):
 bX Tryz.prog 49 [Pt c,I a1,I a2] [.obj c 98 (.agg (.pair (Ri a0.1) (.pair (I a0.2.1) (.eq (.int .u64 a0.2.2)))))] (fun z:Value=>(bq [.agg (.pair (I r.1.1) (.pair (.eq z) (Ri r.1.2.2)))],[.sl z 27 aY r.1.2.1,.obj c 98 (.agg (.pair (Ri r.2.1) (.pair (I r.2.2.1) (.eq (.int .u64 r.2.2.2)))))])):=by
 unfold iO at h
 replace h:=a9 h
 refine bX.of 79 Tryz.func49 rfl Tryz.ntmps49 rfl fun S w0=>?_
 refine sr ?_
 refine aF rfl rfl rfl (bL rfl xo Dj) trivial fun b1=>?_
 refine nt ?_
 refine sr ?_
 refine mq ?_
 obtain⟨r2,Rr,h⟩:=aa h
 have Rt:=k9 k (a0.1,a0.2.1,a0.2.2) c 1 4 r2 Rr
 refine fr 1 ?_
 refine kc (ao [.tmp 13,.const (.int .i64 (1)),.const (.int .i64 (4))] rfl rfl K9 rfl Rt) ?_
 refine ja (dt [(0,.tmp 14,_)] rfl MM xo JL (i7 ⟨rfl,trivial⟩) rfl) ?_
 refine aF rfl rfl rfl (bL rfl xo Dj) trivial fun b3=>?_
 refine bg rfl rfl (ba rfl ii trivial rfl rfl) ⟨rfl,rfl,trivial⟩ ?_
 refine nt ?_
 refine sr ?_
 refine cq ?_
 refine nt ?_
 refine aW (Z:=Value) (α:=(List Int)×Int×Int×(List ic)×Int) (fun z5 x4=>[(0,Pt c),(2,I a2),(6,Pt b1),(7,Pt b3),(8,I x4.2.2.2.2)]) (fun z5 x4=>[.obj c 98 (.agg (.pair (Ri x4.1) (.pair (I x4.2.1) (.eq (.int .u64 x4.2.2.1))))),.obj b1 25 (.agg (.pair (I 0) (.pair (.eq (.slice none 0 0)) (.eq (.slice none 0 0))))),.obj b3 25 (.agg (.pair (I r2.1) (.pair (.eq z5) (.eq (.slice none 0 0))))),.sl z5 27 aY x4.2.2.2.1]) h (fun K h=>?_) (fun z5 x4 h=>?_)
 ·
  refine sr ?_;iterate 2 refine mq ?_
  obtain⟨r6,Rq,h⟩:=aa h;refine fr 1 ?_;refine kc (ao [.tmp 16,.const (.int .i64 (0)),.tmp 17] rfl rfl K9 rfl (k9 k (r2.2.1,r2.2.2.1,r2.2.2.2) c 0 a1 r6 Rq)) ?_;refine aq (nt (aj ?_));refine gd (SE.nil 27 aY) ?_;refine aJ (fun z8 y7=>[(0,Pt c),(2,I a2),(6,Pt b1),(7,Pt b3),(8,I y7.2.2.2.2.1),(9,I y7.2.2.2.2.2)]) (fun z8 y7=>[.obj c 98 (.agg (.pair (Ri y7.1) (.pair (I y7.2.1) (.eq (.int .u64 y7.2.2.1))))),.obj b1 25 (.agg (.pair (I 0) (.pair (.eq (.slice none 0 0)) (.eq (.slice none 0 0))))),.obj b3 25 (.agg (.pair (I r2.1) (.pair (.eq z8) (.eq (.slice none 0 0))))),.sl z8 27 aY y7.2.2.2.1]) (eD k r2) k (.slice none 0 0) (r6.2.1,r6.2.2.1,r6.2.2.2,([]:(List ic)),0,r6.1) (fun _=>rfl) h (SE.fin [1,3,2,0] ⟨rfl,rfl,rfl,rfl,rfl,rfl,trivial⟩ rfl) (fun n z8 y7 h=>?_);unfold eD at h;refine ah (sr (mq ?_));refine jb (jK rfl) ?_;refine nt (ci h (fun h=>?_) (fun h=>?_))
  ·refine sk (aW (Z:=Value) (α:=(List Int)×Int×Int×(List ic)×Int) (fun X x9=>[(0,Pt c),(2,I a2),(6,Pt b1),(7,Pt b3),(8,I x9.2.2.2.2),(9,I y7.2.2.2.2.2)]) (fun X x9=>[.obj c 98 (.agg (.pair (Ri x9.1) (.pair (I x9.2.1) (.eq (.int .u64 x9.2.2.1))))),.obj b1 25 (.agg (.pair (I 0) (.pair (.eq (.slice none 0 0)) (.eq (.slice none 0 0))))),.obj b3 25 (.agg (.pair (I r2.1) (.pair (.eq X) (.eq (.slice none 0 0))))),.sl X 27 aY x9.2.2.2.1]) h (fun K h=>?_) (fun X x9 h=>?_))
   ·refine aj (sr (mq ?_));refine aB rfl (bG (t:=(.int .i64)) [(.const (.int .i64 (1)),_),(.const (.int .i64 (1)),_),(.const (.int .i64 (1)),_),(.const (.int .i64 (2)),_),(.const (.int .i64 (3)),_)] [1,1,1,2,3] rfl rfl eP (.cons rfl .int (.cons rfl .int (.cons rfl .int (.cons rfl .int (.cons rfl .int .nil))))) rfl rfl) ⟨rfl,rfl,rfl,rfl,rfl,trivial⟩ ?_;obtain⟨s,Q4,h⟩:=aa h;refine kb (ao [.tmp 23,.tmp 24] rfl rfl JF rfl (nR k (y7.1,y7.2.1,y7.2.2.1) c [1,1,1,2,3] s Q4)) ?_;refine ja (dt [(0,.tmp 25,_)] rfl Es vS yX (i7 ⟨rfl,trivial⟩) rfl) ?_;refine aF rfl rfl rfl (bL rfl vS IS) trivial fun M=>?_;refine bg rfl rfl (ba rfl mf trivial rfl rfl) ⟨rfl,rfl,trivial⟩ ?_;refine nt (aW (Z:=Value) (α:=(List Int)×Int×Int×(List Int)) (fun ac j=>[(0,Pt c),(2,I a2),(6,Pt b1),(7,Pt b3),(8,I y7.2.2.2.2.1),(9,I y7.2.2.2.2.2),(10,Pt M)]) (fun ac j=>[.obj c 98 (.agg (.pair (Ri j.1) (.pair (I j.2.1) (.eq (.int .u64 j.2.2.1))))),.obj b1 25 (.agg (.pair (I 0) (.pair (.eq (.slice none 0 0)) (.eq (.slice none 0 0))))),.obj b3 25 (.agg (.pair (I r2.1) (.pair (.eq z8) (.eq (.slice none 0 0))))),.sl z8 27 aY y7.2.2.2.1,.obj M 27 (.agg (.pair (I s.1) (.eq ac))),.sl ac 3 (.int .i64) j.2.2.2]) h (fun K h=>?_) (fun ac j h=>?_))
    ·refine sr (cq (nt (aj ?_)));refine gd (SE.nil 3 (.int .i64)) ?_;refine aJ (fun Q e=>[(0,Pt c),(2,I a2),(6,Pt b1),(7,Pt b3),(8,I y7.2.2.2.2.1),(9,I y7.2.2.2.2.2),(10,Pt M),(11,I e.2.2.2.2)]) (fun Q e=>[.obj c 98 (.agg (.pair (Ri e.1) (.pair (I e.2.1) (.eq (.int .u64 e.2.2.1))))),.obj b1 25 (.agg (.pair (I 0) (.pair (.eq (.slice none 0 0)) (.eq (.slice none 0 0))))),.obj b3 25 (.agg (.pair (I r2.1) (.pair (.eq z8) (.eq (.slice none 0 0))))),.sl z8 27 aY y7.2.2.2.1,.obj M 27 (.agg (.pair (I s.1) (.eq Q))),.sl Q 3 (.int .i64) e.2.2.2.1]) (eC k r2) k (.slice none 0 0) (s.2.1,s.2.2.1,s.2.2.2,([]:(List Int)),0) (fun _=>rfl) h (SE.fin [2,3,4,5,1,0] ⟨rfl,rfl,rfl,rfl,rfl,rfl,rfl,rfl,trivial⟩ rfl) (fun n Q e h=>?_);unfold eC at h;refine ah (sr (mq ?_));refine fl lg ?_;refine fr 2 ?_;refine lo cR ?_;refine jb (bH rfl) ?_;refine nt (ci h (fun h=>?_) (fun h=>?_))
     ·refine sk (aW (Z:=Value) (α:=(List Int)×Int×Int×(List Int)) (fun U x=>[(0,Pt c),(2,I a2),(6,Pt b1),(7,Pt b3),(8,I y7.2.2.2.2.1),(9,I y7.2.2.2.2.2),(10,Pt M),(11,I e.2.2.2.2)]) (fun U x=>[.obj c 98 (.agg (.pair (Ri x.1) (.pair (I x.2.1) (.eq (.int .u64 x.2.2.1))))),.obj b1 25 (.agg (.pair (I 0) (.pair (.eq (.slice none 0 0)) (.eq (.slice none 0 0))))),.obj b3 25 (.agg (.pair (I r2.1) (.pair (.eq z8) (.eq (.slice none 0 0))))),.sl z8 27 aY y7.2.2.2.1,.obj M 27 (.agg (.pair (I s.1) (.eq U))),.sl U 3 (.int .i64) x.2.2.2]) h (fun K h=>?_) (fun U x h=>?_))
      ·refine aj (sr (mq ?_));obtain⟨J,Q3,h⟩:=aa h;refine fr 1 ?_;refine kb (ao [.tmp 33,.const (.int .i64 (2))] rfl rfl JE rfl (mz k (e.1,e.2.1,e.2.2.1) c 2 J Q3)) ?_;refine nt (cv h (fun h=>?_) (fun h=>?_))
       ·refine ab (fl nY ?_);refine fr 4 ?_;refine lo cG ?_;refine mq ?_;refine ja (bG (t:=(.int .i64)) [(.tmp 37,_)] [e.2.2.2.2] rfl rfl eP (.cons rfl .int .nil) rfl rfl) ?_;obtain⟨RJ,QZ,h⟩:=aa h;refine fr 5 ?_;refine ek rfl rfl rfl (cp rfl rfl eP (aC QZ)) ⟨rfl,rfl,trivial⟩ fun Rb=>?_;refine fl nY ?_;refine xc fun o22=>?_;refine fr 1 ?_;refine bg rfl rfl (ba rfl cG o22 rfl rfl) ⟨rfl,rfl,trivial⟩ ?_;refine ap (bn ?_);exact jz (Rb,(J.2.1,J.2.2.1,J.2.2.2,e.2.2.2.1++[e.2.2.2.2])) h [2,4,3,5,0,1]
       ·refine aU (bn ?_);exact jz (Q,(J.2.1,J.2.2.1,J.2.2.2,e.2.2.2.1)) h [0,2,1,3,4,5]
      ·refine ab (mq ?_);obtain⟨Q8,QW,h⟩:=aa h;refine jb (bj rfl QW) ?_;refine aq (nl ?_);exact jz (U,(x.1,x.2.1,x.2.2.1,x.2.2.2,Q8)) h [0,1,2,3,4,5]
     ·refine xa ?_;exact jz (Q,(e.1,e.2.1,e.2.2.1,e.2.2.2.1)) h [1,2,0,3,4,5]
    ·refine iD 4 rfl ?_;refine iD 5 rfl ?_;refine gd (m6 (off:=1) [] trivial rfl rfl) ?_;refine jW ?_;refine aK rfl rfl rfl (aw rfl dW) ⟨rfl,trivial⟩ ?_;refine dy 3 rfl rfl rfl rfl (ak rfl jY my rfl) ⟨rfl,trivial⟩ ?_;refine dy 0 rfl rfl rfl rfl (ak rfl mf (xk) rfl) ⟨rfl,trivial⟩ ?_;refine aK rfl rfl rfl (bG (t:=aY) [(.tmp 43,_)] [(s.1,j.2.2.2)] rfl rfl J1 (.cons trivial (.agg (.pair .int .rep)) .nil) rfl rfl) ⟨rfl,trivial⟩ ?_;obtain⟨RI,QY,h⟩:=aa h;refine ux 4 rfl (fun v=>[.sl v 27 aY (y7.2.2.2.1++[(s.1,j.2.2.2)])]) (fun _=>rfl) rfl rfl rfl (cp rfl rfl J1 (aC QY)) ⟨rfl,rfl,trivial⟩ ?_;refine aK rfl rfl rfl (aR rfl) ⟨rfl,trivial⟩ ?_;refine aK rfl rfl rfl (aw rfl nZ) ⟨rfl,trivial⟩ ?_;refine dy 0 rfl rfl rfl rfl (ak rfl cR my rfl) ⟨rfl,trivial⟩ ?_;obtain⟨Q7,QV,h⟩:=aa h;refine aK rfl rfl rfl (bj rfl QV) ⟨rfl,rfl,trivial⟩ ?_;refine aK rfl rfl rfl (aw rfl dW) ⟨rfl,trivial⟩ ?_;refine ou 10 [true,true,true,true,true,false,false,false,false,true] [] [0] [.obj M 27 (.agg (.pair (I s.1) (Ri j.2.2.2)))] rfl (by kernel_rfl) (by kernel_rfl) (by kernel_rfl) eZ (fun vs hv hB=>?_);obtain⟨w0,RG,rfl,Ro⟩:=an hv;obtain⟨w1,RF,rfl,Rn⟩:=an Ro;obtain⟨w2,RE,rfl,Rm⟩:=an Rn;obtain⟨w3,RD,rfl,Rl⟩:=an Rm;obtain⟨se,RB,rfl,Rk⟩:=an Rl;obtain⟨w5,RA,rfl,Rj⟩:=an Rk;obtain⟨w6,Rz,rfl,Rh⟩:=an Rj;obtain⟨w7,Ry,rfl,Rf⟩:=an Rh;obtain⟨w8,Rx,rfl,Re⟩:=an Rf;obtain⟨w9,Ru,rfl,QQ⟩:=an Re;obtain rfl:=lI QQ;refine⟨[0,1,2,3,4],[.obj c 98 (.agg (.pair (Ri j.1) (.pair (I j.2.1) (.eq (.int .u64 j.2.2.1))))),.obj b1 25 (.agg (.pair (I 0) (.pair (.eq (.slice none 0 0)) (.eq (.slice none 0 0))))),.obj b3 25 (.agg (.pair (I r2.1) (.pair (.eq z8) (.eq (.slice none 0 0))))),.sl se 27 aY (y7.2.2.2.1++[(s.1,j.2.2.2)])],by kernel_rfl,by decide,?_⟩;refine lm 3 rfl ?_;refine GZ fun o27=>?_;refine lm 3 rfl ?_;refine pY rfl rfl (ba rfl jY o27 rfl rfl) ⟨rfl,rfl,trivial⟩ (by kernel_rfl) ?_;refine G0 (by kernel_rfl) ?_;refine aq (ap (bn ?_));exact jz (se,(j.1,j.2.1,j.2.2.1,y7.2.2.2.1++[(s.1,j.2.2.2)],Q7)) h [3,4,1,2]
   ·refine ab (mq ?_);obtain⟨Q6,QU,h⟩:=aa h;refine jb (fH rfl QU) ?_;refine aq (nl ?_);exact jz (X,(x9.1,x9.2.1,x9.2.2.1,x9.2.2.2.1,x9.2.2.2.2,Q6)) h [0,1,2,3]
  ·refine xa ?_;exact jz (z8,(y7.1,y7.2.1,y7.2.2.1,y7.2.2.2.1,y7.2.2.2.2.1)) h [0,1,2,3]
 ·
  refine aW (Z:=Value) (α:=(List Int)×Int×Int×(List Int)) (fun O u=>[(0,Pt c),(6,Pt b1),(7,Pt b3),(8,I x4.2.2.2.2)]) (fun O u=>[.obj c 98 (.agg (.pair (Ri u.1) (.pair (I u.2.1) (.eq (.int .u64 u.2.2.1))))),.obj b1 25 (.agg (.pair (I 0) (.pair (.eq (.slice none 0 0)) (.eq (.slice none 0 0))))),.obj b3 25 (.agg (.pair (I r2.1) (.pair (.eq z5) (.eq O)))),.sl z5 27 aY x4.2.2.2.1,.sl O 3 (.int .i64) u.2.2.2]) h (fun K h=>?_) (fun O u h=>?_)
  ·refine sr ?_;iterate 2 refine mq ?_
   obtain⟨Y,Q2,h⟩:=aa h;refine kc (ao [.tmp 51,.const (.int .i64 (1)),.tmp 52] rfl rfl K9 rfl (k9 k (x4.1,x4.2.1,x4.2.2.1) c 1 a2 Y Q2)) ?_;refine aq (nt (aj ?_));refine gd (SE.nil 3 (.int .i64)) ?_;refine aJ (fun D l=>[(0,Pt c),(6,Pt b1),(7,Pt b3),(8,I x4.2.2.2.2),(12,I l.2.2.2.2)]) (fun D l=>[.obj c 98 (.agg (.pair (Ri l.1) (.pair (I l.2.1) (.eq (.int .u64 l.2.2.1))))),.obj b1 25 (.agg (.pair (I 0) (.pair (.eq (.slice none 0 0)) (.eq (.slice none 0 0))))),.obj b3 25 (.agg (.pair (I r2.1) (.pair (.eq z5) (.eq D)))),.sl z5 27 aY x4.2.2.2.1,.sl D 3 (.int .i64) l.2.2.2.1]) (eB k x4) k (.slice none 0 0) (Y.2.1,Y.2.2.1,Y.2.2.2,([]:(List Int)),Y.1) (fun _=>rfl) h (SE.fin [1,2,3,4,0] ⟨rfl,rfl,rfl,rfl,rfl,trivial⟩ rfl) (fun n D l h=>?_);unfold eB at h;refine ah (sr (mq ?_));refine jb (jK rfl) ?_;refine nt (ci h (fun h=>?_) (fun h=>?_))
   ·refine sk (ah (aj (cr ?_)));refine da (aw rfl fF) ?_;refine ea 2 (ak rfl cG my rfl) ?_;refine dm ?_;refine dm ?_;refine db (EH rfl rfl) ?_;refine dm ?_;obtain⟨qt,QT,h⟩:=aa h;refine db (bj rfl QT) ?_;refine db (EH rfl rfl) ?_;refine di rfl rfl rfl (bG (t:=(.int .i64)) [(.const (.int .i64 (1)),_),(.const (.int .i64 (2)),_),(.const (.int .i64 (3)),_),(.tmp 62,_),(.tmp 65,_)] [1,2,3,o7 9 x4.2.2.2.2,o7 9 qt] rfl rfl eP (.cons rfl .int (.cons rfl .int (.cons rfl .int (.cons rfl .int (.cons rfl .int .nil))))) rfl rfl) ⟨rfl,rfl,rfl,rfl,rfl,trivial⟩ ?_;obtain⟨y,Q1,h⟩:=aa h;refine Jb 0 rfl rfl rfl rfl (ao [.tmp 60,.tmp 66] rfl rfl JF rfl (nR k (l.1,l.2.1,l.2.2.1) c [1,2,3,o7 9 x4.2.2.2.2,o7 9 qt] y Q1)) ⟨rfl,rfl,trivial⟩ ?_;refine da (bG (t:=(.int .i64)) [(.tmp 67,_)] [y.1] rfl rfl eP (.cons rfl .int .nil) rfl rfl) ?_;refine Jd (Δ':=[.obj b1 25 (.agg (.pair (I 0) (.pair (.eq (.slice none 0 0)) (.eq (.slice none 0 0))))),.obj b3 25 (.agg (.pair (I r2.1) (.pair (.eq z5) (.eq D)))),.sl z5 27 aY x4.2.2.2.1,.sl D 3 (.int .i64) l.2.2.2.1,.obj c 98 (.agg (.pair (Ri y.2.1) (.pair (I y.2.2.1) (.eq (.int .u64 y.2.2.2)))))]) (by kernel_rfl) eZ (by kernel_rfl) ?_;obtain⟨RH,QX,h⟩:=aa h;refine fr 3 ?_;refine ek rfl rfl rfl (cp rfl rfl eP (aC QX)) ⟨rfl,rfl,trivial⟩ fun Q9=>?_;refine fl fF ?_;refine xc fun o38=>?_;refine fr 2 ?_;refine bg rfl rfl (ba rfl cG o38 rfl rfl) ⟨rfl,rfl,trivial⟩ ?_;refine ap (aI (tn (ab (mq ?_))));obtain⟨Q5,QR,h⟩:=aa h;refine jb (fH rfl QR) ?_;refine aq (nl ?_);exact jz (Q9,(y.2.1,y.2.2.1,y.2.2.2,l.2.2.2.1++[y.1],Q5)) h [4,2,0,3,1]
   ·refine xa ?_;exact jz (D,(l.1,l.2.1,l.2.2.1,l.2.2.2.1)) h [0,1,2,3,4]
  ·refine aW (Z:=Unit) (α:=(List Int)×(List Int)×Int×Int) (fun pp E=>[(6,Pt b1),(7,Pt b3)]) (fun pp E=>[.obj b1 25 (.agg (.pair (I 0) (.pair (.eq (.slice none 0 0)) (.eq (.slice none 0 0))))),.obj b3 25 (.agg (.pair (I r2.1) (.pair (.eq z5) (.eq O)))),.sl z5 27 aY x4.2.2.2.1,.sl O 3 (.int .i64) E.1,.obj c 98 (.agg (.pair (Ri E.2.1) (.pair (I E.2.2.1) (.eq (.int .u64 E.2.2.2)))))]) h (fun K h=>?_) (fun pp E h=>?_)
   ·refine sr (mq ?_);obtain⟨F,Q0,h⟩:=aa h;refine kb (ao [.tmp 71,.const (.int .i64 (2))] rfl rfl JE rfl (mz k (u.1,u.2.1,u.2.2.1) c 2 F Q0)) ?_;refine nt (cv h (fun h=>?_) (fun h=>?_))
    ·refine ab (fl fF ?_);refine fr 2 ?_;refine lo cG ?_;refine mq ?_;refine jb (EH rfl rfl) ?_;obtain⟨Rw,mc,h⟩:=aa h;refine fr 4 ?_;refine kb (be (t:=(.int .i64)) rfl eO cR mc) ?_;refine bg rfl rfl (dK (i:=Int.toNat 0) rfl cR rfl (jk mc) rfl .int rfl) ⟨rfl,rfl,trivial⟩ ?_;refine nl ?_;exact jz ((),(List.set u.2.2.2 (Int.toNat 0) (o7 9 x4.2.2.2.2),F.2.1,F.2.2.1,F.2.2.2)) h [3,1,4,0,2]
    ·refine aU (ae ?_);exact jz ((),(u.2.2.2,F.2.1,F.2.2.1,F.2.2.2)) h [1,2,3,4,0]
   ·refine sr (fr 1 ?_);refine lo ii ?_;refine fr 1 ?_;refine bg rfl rfl (ba rfl ii trivial rfl rfl) ⟨rfl,rfl,trivial⟩ ?_;refine nt (aA (du 3 rfl ?_));refine bI (m6 (off:=2) [] trivial rfl rfl) ?_;refine bI (SE.fin (Γ':=[(6,_)]) [2,3,0,1] ⟨rfl,trivial⟩ rfl) ?_;cases h;exact aG z5 [.agg (.pair (I r2.1) (.pair (.eq z5) (Ri E.1)))] 2 ⟨⟨_,_,_,_,_,rfl,(.tail _ (.tail _ (.head _))),ii,(xk),rfl⟩,trivial⟩ rfl
def dS(k:Nat)(a1:Int):Nat→((List Int)×Int×Int×(List Int)×Int)→Option ((List Int)×(List Int)×Int×Int)
 |0,_=>none
 |n+1,y3=>
  if y3.2.2.2.2 < a1 then((dE k (y3.1,y3.2.1,y3.2.2.1) y3.2.2.2.2).bind fun r5=>
  (d6 (bV (List.length y3.2.2.2.1+List.length [y3.2.2.2.2]))).bind fun _=>
  (a8 (y3.2.2.2.1++[y3.2.2.2.2]) r5.1).bind fun x8=>
  (a8 (y3.2.2.2.1++[y3.2.2.2.2]) y3.2.2.2.2).bind fun x9=>
  (a8 (List.set (y3.2.2.2.1++[y3.2.2.2.2]) (Int.toNat y3.2.2.2.2) x8) r5.1).bind fun e=>
  (ck (y3.2.2.2.2+1)).bind fun c=>
  dS k a1 n (r5.2.1,r5.2.2.1,r5.2.2.2,List.set (List.set (y3.2.2.2.1++[y3.2.2.2.2]) (Int.toNat y3.2.2.2.2) x8) (Int.toNat r5.1) y3.2.2.2.2,c)) else(some (y3.2.2.2.1,y3.1,y3.2.1,y3.2.2.1))
def fW(k:Nat)(a0:bM)(a1:Int):Option ((List Int)×bM):=
 ((dS k a1 k (a0.1,a0.2.1,a0.2.2,([]:(List Int)),0)):Option ((List Int)×(List Int)×Int×Int)).bind fun x1=>
 some (x1.1,(x1.2.1,x1.2.2.1,x1.2.2.2))
theorem qK(k:Nat)(a0:bM)(c:Nat)(a1:Int)(r:(List Int)×bM)(h:fW k a0 a1=some r):
 bX Tryz.prog 63 [Pt c,I a1] [.obj c 98 (.agg (.pair (Ri a0.1) (.pair (I a0.2.1) (.eq (.int .u64 a0.2.2)))))] (fun _:Unit=>(bq [Ri r.1],[.obj c 98 (.agg (.pair (Ri r.2.1) (.pair (I r.2.2.1) (.eq (.int .u64 r.2.2.2)))))])):=by
 unfold fW at h
 replace h:=a9 h
 refine bX.of 32 Tryz.func63 rfl Tryz.ntmps63 rfl fun S w0=>?_
 refine sr ?_
 refine cq ?_
 refine nt ?_
 refine sr ?_
 refine cq ?_
 refine nt ?_
 refine aW (Z:=Value) (α:=(List Int)×(List Int)×Int×Int) (fun z2 x1=>[(5,.eq z2)]) (fun z2 x1=>[.sl z2 3 (.int .i64) x1.1,.obj c 98 (.agg (.pair (Ri x1.2.1) (.pair (I x1.2.2.1) (.eq (.int .u64 x1.2.2.2)))))]) h (fun K h=>?_) (fun z2 x1 h=>?_)
 ·
  refine sr (cq (nt (aj ?_)));refine gd (SE.nil 3 (.int .i64)) ?_;refine aJ (fun z4 y3=>[(0,Pt c),(1,I a1),(5,.eq z4),(6,I y3.2.2.2.2)]) (fun z4 y3=>[.obj c 98 (.agg (.pair (Ri y3.1) (.pair (I y3.2.1) (.eq (.int .u64 y3.2.2.1))))),.sl z4 3 (.int .i64) y3.2.2.2.1]) (dS k a1) k (.slice none 0 0) (a0.1,a0.2.1,a0.2.2,([]:(List Int)),0) (fun _=>rfl) h (SE.fin [1,0] ⟨rfl,rfl,rfl,rfl,trivial⟩ rfl) (fun n z4 y3 h=>?_);unfold dS at h;refine ah (sr ?_);iterate 2 refine mq ?_
  refine jb (bH rfl) ?_;refine nt (ci h (fun h=>?_) (fun h=>?_))
  ·refine sk (ah (aj (sr ?_)));iterate 2 refine mq ?_
   obtain⟨r5,y,h⟩:=aa h;refine kb (ao [.tmp 13,.tmp 14] rfl rfl Gk rfl (fV k (y3.1,y3.2.1,y3.2.2.1) c y3.2.2.2.2 r5 y)) ?_;refine aq (nt (sr ?_));iterate 2 refine mq ?_
   refine ja (bG (t:=(.int .i64)) [(.tmp 17,_)] [y3.2.2.2.2] rfl rfl eP (.cons rfl .int .nil) rfl rfl) ?_;obtain⟨u6,x,h⟩:=aa h;refine fr 1 ?_;refine ek rfl rfl rfl (cp rfl rfl eP (aC x)) ⟨rfl,rfl,trivial⟩ fun v7=>?_;refine aq (nt (ab ?_));iterate 6 refine mq ?_
   obtain⟨x8,l,h⟩:=aa h;refine kb (be (t:=(.int .i64)) rfl eO cR l) ?_;refine ka (eJ (i:=Int.toNat r5.1) (off:=0) rfl cR (fun _=>rfl) rfl (cg l).2.2 rfl) ?_;refine mq ?_;obtain⟨x9,j,h⟩:=aa h;refine kb (be (t:=(.int .i64)) rfl eO cR j) ?_;refine bg rfl rfl (dK (i:=Int.toNat y3.2.2.2.2) rfl cR rfl (jk j) rfl .int rfl) ⟨rfl,rfl,trivial⟩ ?_;obtain⟨D,e,h⟩:=aa h;refine kb (be (t:=(.int .i64)) rfl eO cR e) ?_;refine bg rfl rfl (dK (i:=Int.toNat r5.1) rfl cR rfl (jk e) rfl .int rfl) ⟨rfl,rfl,trivial⟩ ?_;refine ap (aI (tn (ab (mq ?_))));obtain⟨u,s,h⟩:=aa h;refine jb (bj rfl s) ?_;refine aq (nl ?_);exact jz (v7,(r5.2.1,r5.2.2.1,r5.2.2.2,List.set (List.set (y3.2.2.2.1++[y3.2.2.2.2]) (Int.toNat y3.2.2.2.2) x8) (Int.toNat r5.1) y3.2.2.2.2,u)) h [1,0]
  ·refine xa ?_;exact jz (z4,(y3.2.2.2.1,y3.1,y3.2.1,y3.2.2.1)) h [1,0]
 ·
  refine sr (mq ?_);refine aq (nt (aA ?_));refine bI (gI [4,5,31] ⟨rfl,rfl,rfl,trivial⟩) ?_;cases h;exact aG () [_] 1 ⟨rfl,trivial⟩ rfl
def nQ(k:Nat)(a0:Int)(a1:Int):Option Int:=
 (d6 (a1≠0)).bind fun _=>
 (ck ((Int.tmod a0 a1)+a1)).bind fun x2=>
 (d6 (a1≠0)).bind fun _=>
 some (Int.tmod x2 a1)
theorem yF(k:Nat)(a0:Int)(a1:Int)(r:Int)(h:nQ k a0 a1=some r):
 bX Tryz.prog 122 [I a0,I a1] [] (fun _:Unit=>(bq [I r],[])):=by
 unfold nQ at h
 replace h:=a9 h
 refine bX.of 12 Tryz.func122 rfl Tryz.ntmps122 rfl fun S w0=>?_
 refine sr ?_
 refine cq ?_
 refine nt ?_
 refine sr ?_
 iterate 2 refine mq ?_
 obtain⟨u1,j,h⟩:=aa h
 refine jb (EE rfl (aC j)) ?_
 refine mq ?_
 obtain⟨x2,c,h⟩:=aa h
 refine jb (bj rfl c) ?_
 refine mq ?_
 obtain⟨u3,e,h⟩:=aa h
 refine jb (EE rfl (aC e)) ?_
 refine aq ?_
 refine nt ?_
 refine aA ?_
 cases h
 exact ra
def cZ(k:Nat)(a1:bm)(r7:(List Int)×bM)(c:(List Int)×Int×Int×(List Int)×Int×(List (List Int)))(e:Int×bM):Nat→(Int×(List (List Int)))→Option ((List Int)×Int×Int×(List Int)×(List (List Int)))
 |0,_=>none
 |n+1,h=>
  if h.1 < (c.2.2.2.1.length:Int) then((ck (e.1+h.1)).bind fun O=>
  (nQ k O (c.2.2.2.1.length:Int)).bind fun j=>
  (((a8 c.2.2.2.1 j).bind fun M=>
  (a8 r7.1 c.2.2.2.2.1).bind fun J=>
  (a8 a1.2.1 J).bind fun I=>
  if I.1≤M then(some (true,h.2)) else((ck ((c.2.2.2.1.length:Int) - 1)).bind fun F=>
  some (decide (h.1=F),h.2))):Option (Bool×(List (List Int)))).bind fun l=>
  if l.1=true then((a8 l.2 j).bind fun s=>
  (a8 r7.1 c.2.2.2.2.1).bind fun r=>
  (d6 (bV (List.length s+List.length [r]))).bind fun _=>
  (a8 c.2.2.2.1 j).bind fun E=>
  (a8 r7.1 c.2.2.2.2.1).bind fun D=>
  (a8 a1.2.1 D).bind fun y=>
  (ck (E - y.1)).bind fun x=>
  (a8 c.2.2.2.1 j).bind fun Q=>
  some (e.2.1,e.2.2.1,e.2.2.2,List.set c.2.2.2.1 (Int.toNat j) x,List.set l.2 (Int.toNat j) (s++[r]))) else((ck (h.1+1)).bind fun u=>
  cZ k a1 r7 c e n (u,l.2))) else(some (e.2.1,e.2.2.1,e.2.2.2,c.2.2.2.1,h.2))
def eM(k:Nat)(a1:bm)(r7:(List Int)×bM):Nat→((List Int)×Int×Int×(List Int)×Int×(List (List Int)))→Option ((List Int)×Int×Int×(List (List Int)))
 |0,_=>none
 |n+1,c=>
  if c.2.2.2.2.1 < (r7.1.length:Int) then((((ck ((c.2.2.2.1.length:Int) - 1)).bind fun j=>
  (dE k (c.1,c.2.1,c.2.2.1) j).bind fun l=>
  cZ k a1 r7 c l k (0,c.2.2.2.2.2)):Option ((List Int)×Int×Int×(List Int)×(List (List Int)))).bind fun e=>
  (ck (c.2.2.2.2.1+1)).bind fun h=>
  eM k a1 r7 n (e.1,e.2.1,e.2.2.1,e.2.2.2.1,h,e.2.2.2.2)) else(some (c.1,c.2.1,c.2.2.1,c.2.2.2.2.2))
def fD(k:Nat)(a0:bM)(a1:bm):Option ((List (List Int))×bM):=
 (d6 (0≤(a1.2.2.length:Int)∧bV (Int.toNat (a1.2.2.length:Int)))).bind fun _=>
 (d6 (bV (List.length ([]:(List Int))+List.length a1.2.2))).bind fun _=>
 (fW k (a0.1,a0.2.1,a0.2.2) (a1.2.1.length:Int)).bind fun r7=>
 ((eM k a1 r7 k (r7.2.1,r7.2.2.1,r7.2.2.2,([]:(List Int))++a1.2.2,0,List.replicate (Int.toNat (a1.2.2.length:Int)) ([]:(List Int)))):Option ((List Int)×Int×Int×(List (List Int)))).bind fun x8=>
 some (x8.2.2.2,(x8.1,x8.2.1,x8.2.2.1))
theorem qJ(k:Nat)(a0:bM)(e:Nat)(a1:bm)(v1_a1:Value)(r:(List (List Int))×bM)(h:fD k a0 a1=some r):
 bX Tryz.prog 81 [Pt e,.agg (.pair (I a1.1) (.pair (.eq v1_a1) (Ri a1.2.2)))] [.obj e 98 (.agg (.pair (Ri a0.1) (.pair (I a0.2.1) (.eq (.int .u64 a0.2.2))))),.sl v1_a1 27 aY a1.2.1] (fun _:Unit=>(bq [.rep (.slice (.slice (.int .i64))) r.1],[.obj e 98 (.agg (.pair (Ri r.2.1) (.pair (I r.2.2.1) (.eq (.int .u64 r.2.2.2))))),.sl v1_a1 27 aY a1.2.1])):=by
 unfold fD at h
 replace h:=a9 h
 refine bX.of 100 Tryz.func81 rfl Tryz.ntmps81 rfl fun S w0=>?_
 refine sr ?_
 refine aF rfl rfl rfl (mo rfl trivial) ⟨rfl,trivial⟩ fun b1=>?_
 refine cq ?_
 refine nt ?_
 refine sr ?_
 refine fl fF ?_
 refine lo cG ?_
 refine ol eO ?_
 obtain⟨u2,Rq,h⟩:=aa h
 refine aF rfl rfl rfl (EI (t:=.val) (d:=.slice none 0 0) rfl tj LV (aC Rq).1 (aC Rq).2) ⟨rfl,rfl,trivial⟩ fun v3=>?_
 refine cS (GQ (F:=[.obj b1 25 (.agg (.pair (I a1.1) (.pair (.eq v1_a1) (Ri a1.2.2)))),.obj e 98 (.agg (.pair (Ri a0.1) (.pair (I a0.2.1) (.eq (.int .u64 a0.2.2))))),.sl v1_a1 27 aY a1.2.1])) ?_
 refine aq ?_
 refine nt ?_
 refine sr ?_
 refine aF rfl rfl rfl (mT (t:=(.int .i64)) [] ([]:(List Int)) rfl rfl eP .nil rfl rfl) trivial fun v4=>?_
 refine fl fF ?_
 refine fr 1 ?_
 refine lo cG ?_
 obtain⟨u5,RO,h⟩:=aa h
 refine fr 1 ?_
 refine ek rfl rfl rfl (cp rfl rfl eP (aC RO)) ⟨rfl,rfl,trivial⟩ fun v6=>?_
 refine aq ?_
 refine nt ?_
 refine sr ?_
 refine mq ?_
 refine fl dW ?_
 refine fr 1 ?_
 refine lo jY ?_
 refine fr 3 ?_
 refine ka (cO rfl rfl sb) ?_
 obtain⟨r7,RP,h⟩:=aa h
 have RQ:=qK k (a0.1,a0.2.1,a0.2.2) e (a1.2.1.length:Int) r7 RP
 refine fr 3 ?_
 refine kb (ao [.tmp 20,.tmp 23] rfl rfl P8 rfl RQ) ?_
 refine aq ?_
 refine nt ?_
 refine aW (Z:=(Value×(Nat→Value))) (α:=(List Int)×Int×Int×(List (List Int))) (fun z9 x8=>[(5,.eq z9.1)]) (fun z9 x8=>[.obj e 98 (.agg (.pair (Ri x8.1) (.pair (I x8.2.1) (.eq (.int .u64 x8.2.2.1))))),.sl v1_a1 27 aY a1.2.1]++f5 23 z9 x8.2.2.2) h (fun K h=>?_) (fun z9 x8 h=>?_)
 ·
  refine sr (cq (nt (aj ?_)));refine aJ (Z:=(Value×(Nat→Value))) (α:=(List Int)×Int×Int×(List Int)×Int×(List (List Int))) (fun Q j=>[(0,Pt e),(3,Pt b1),(5,.eq Q.1),(6,.eq v6),(7,Ri r7.1),(8,I j.2.2.2.2.1)]) (fun Q j=>[.obj e 98 (.agg (.pair (Ri j.1) (.pair (I j.2.1) (.eq (.int .u64 j.2.2.1))))),.obj b1 25 (.agg (.pair (I a1.1) (.pair (.eq v1_a1) (Ri a1.2.2)))),.sl v1_a1 27 aY a1.2.1,.sl v6 3 (.int .i64) j.2.2.2.1]++f5 23 Q j.2.2.2.2.2) (eM k a1 r7) k (v3,fun _=>.slice none 0 0) (r7.2.1,r7.2.2.1,r7.2.2.2,([]:(List Int))++a1.2.2,0,List.replicate (Int.toNat (a1.2.2.length:Int)) ([]:(List Int))) (fun _=>rfl) h (aZ [.obj e 98 (.agg (.pair (Ri r7.2.1) (.pair (I r7.2.2.1) (.eq (.int .u64 r7.2.2.2))))),.sl v1_a1 27 aY a1.2.1,.obj b1 25 (.agg (.pair (I a1.1) (.pair (.eq v1_a1) (Ri a1.2.2)))),.sl v6 3 (.int .i64) (([]:(List Int))++a1.2.2)] (f5 23 (v3,fun _=>.slice none 0 0) (List.replicate (Int.toNat (a1.2.2.length:Int)) ([]:(List Int)))) [0,2,1,3] ⟨rfl,rfl,rfl,rfl,rfl,rfl,trivial⟩ rfl) (fun n Q j h=>?_);unfold eM at h;refine ah (sr ?_);iterate 2 refine mq ?_
  refine ol eO ?_;refine jb (bH rfl) ?_;refine nt (ci h (fun h=>?_) (fun h=>?_))
  ·refine sk (aW (Z:=(Value×(Nat→Value))) (α:=(List Int)×Int×Int×(List Int)×(List (List Int))) (fun X u=>[(0,Pt e),(3,Pt b1),(5,.eq X.1),(6,.eq v6),(7,Ri r7.1),(8,I j.2.2.2.2.1)]) (fun X u=>[.obj e 98 (.agg (.pair (Ri u.1) (.pair (I u.2.1) (.eq (.int .u64 u.2.2.1))))),.obj b1 25 (.agg (.pair (I a1.1) (.pair (.eq v1_a1) (Ri a1.2.2)))),.sl v1_a1 27 aY a1.2.1,.sl v6 3 (.int .i64) u.2.2.2.1]++f5 23 X u.2.2.2.2) h (fun K h=>?_) (fun X u h=>?_))
   ·refine aj (sr ?_);iterate 2 refine mq ?_
    refine fr 3 ?_;refine ka (cO rfl rfl eO) ?_;obtain⟨RB,Rn,h⟩:=aa h;refine jb (fH rfl Rn) ?_;obtain⟨c,Rt,h⟩:=aa h;refine fr 1 ?_;refine kb (ao [.tmp 31,.tmp 34] rfl rfl Gk rfl (fV k (j.1,j.2.1,j.2.2.1) e RB c Rt)) ?_;refine aq (nt (sr ?_));refine cq (nt (aj ?_));refine aJ (Z:=(Value×(Nat→Value))) (α:=Int×(List (List Int))) (fun E y=>[(0,Pt e),(3,Pt b1),(5,.eq E.1),(6,.eq v6),(7,Ri r7.1),(8,I j.2.2.2.2.1),(9,I c.1),(10,I y.1)]) (fun E y=>[.obj e 98 (.agg (.pair (Ri c.2.1) (.pair (I c.2.2.1) (.eq (.int .u64 c.2.2.2))))),.obj b1 25 (.agg (.pair (I a1.1) (.pair (.eq v1_a1) (Ri a1.2.2)))),.sl v1_a1 27 aY a1.2.1,.sl v6 3 (.int .i64) j.2.2.2.1]++f5 23 E y.2) (cZ k a1 r7 j c) k Q (0,j.2.2.2.2.2) (fun _=>rfl) h (aZ [.obj e 98 (.agg (.pair (Ri c.2.1) (.pair (I c.2.2.1) (.eq (.int .u64 c.2.2.2))))),.sl v6 3 (.int .i64) j.2.2.2.1,.obj b1 25 (.agg (.pair (I a1.1) (.pair (.eq v1_a1) (Ri a1.2.2)))),.sl v1_a1 27 aY a1.2.1] (f5 23 Q j.2.2.2.2.2) [0,2,3,1] ⟨rfl,rfl,rfl,rfl,rfl,rfl,rfl,rfl,trivial⟩ rfl) (fun n E y h=>?_);unfold cZ at h;refine ah (sr ?_);iterate 2 refine mq ?_
    refine fr 3 ?_;refine ka (cO rfl rfl eO) ?_;refine jb (bH rfl) ?_;refine nt (ci h (fun h=>?_) (fun h=>?_))
    ·refine sk (ah (aj (sr ?_)));iterate 2 refine mq ?_
     obtain⟨RA,Rm,h⟩:=aa h;refine jb (bj rfl Rm) ?_;refine mq ?_;refine ka (cO rfl rfl eO) ?_;obtain⟨s,Rr,h⟩:=aa h;refine jb (ao [.tmp 44,.tmp 46] rfl rfl Ou rfl (yF k RA (j.2.2.2.1.length:Int) s Rr)) ?_;refine aq (nt ?_);refine aW (Z:=(Value×(Nat→Value))) (α:=Bool×(List (List Int))) (fun l x=>[(0,Pt e),(3,Pt b1),(5,.eq l.1),(6,.eq v6),(7,Ri r7.1),(8,I j.2.2.2.2.1),(9,I c.1),(10,I y.1),(11,I s),(68,.eq (.bool x.1))]) (fun l x=>[.obj e 98 (.agg (.pair (Ri c.2.1) (.pair (I c.2.2.1) (.eq (.int .u64 c.2.2.2))))),.obj b1 25 (.agg (.pair (I a1.1) (.pair (.eq v1_a1) (Ri a1.2.2)))),.sl v1_a1 27 aY a1.2.1,.sl v6 3 (.int .i64) j.2.2.2.1]++f5 23 l x.2) h (fun K h=>?_) (fun l x h=>?_)
     ·refine cr ?_;refine dm ?_;refine dm ?_;obtain⟨SH,qt,h⟩:=aa h;refine eb 0 (be (t:=(.int .i64)) rfl eO cR qt) ?_;refine ea 0 (eJ (i:=Int.toNat s) (off:=0) rfl cR (fun _=>rfl) rfl (cg qt).2.2 rfl) ?_;refine da (aw rfl dW) ?_;refine ea 2 (ak rfl jY my rfl) ?_;refine dm ?_;refine dm ?_;obtain⟨Rz,Rl,h⟩:=aa h;refine db (aN (t:=(.int .i64)) rfl eO cR Rl) ?_;refine da (ar (t:=(.int .i64)) rfl cR rfl) ?_;obtain⟨SG,ac,h⟩:=aa h;refine eb 3 (be (t:=aY) rfl sb mf ac) ?_;refine ea 3 (mU rfl nZ (sW ac)) ?_;refine ea 3 (eJ (i:=Int.toNat Rz) (off:=0) rfl cR (fun _=>rfl) rfl (cg ac).2.2 rfl) ?_;refine db (pm rfl) ?_;refine s4 rfl rfl rfl (aR rfl) ⟨rfl,trivial⟩ (fun hb=>?_) (fun hb=>?_)
      ·replace h:=cM (nq hb) h;iterate 4 refine dg ?_
       refine df eZ ?_;refine gn ?_;refine pt (nl ?_);exact iz (E,(true,y.2)) h (aZ [.sl v6 3 (.int .i64) j.2.2.2.1,.obj e 98 (.agg (.pair (Ri c.2.1) (.pair (I c.2.2.1) (.eq (.int .u64 c.2.2.2))))),.obj b1 25 (.agg (.pair (I a1.1) (.pair (.eq v1_a1) (Ri a1.2.2)))),.sl v1_a1 27 aY a1.2.1] (f5 23 E y.2) [1,2,3,0] ⟨rfl,rfl,rfl,rfl,rfl,rfl,rfl,rfl,rfl,rfl,trivial⟩ rfl)
      ·replace h:=bQ (m4 hb) h;refine cd rfl rfl rfl rfl rfl (aR rfl) ⟨rfl,rfl,trivial⟩ ?_;refine cd rfl rfl rfl rfl rfl (aR rfl) ⟨rfl,rfl,trivial⟩ ?_;refine lN 0 rfl rfl rfl rfl rfl rfl (cO rfl rfl eO) ⟨rfl,rfl,trivial⟩ ?_;obtain⟨Ry,Rk,h⟩:=aa h;refine cd rfl rfl rfl rfl rfl (fH rfl Rk) ⟨rfl,rfl,rfl,trivial⟩ ?_;refine df eZ ?_;refine gb (eS rfl) ?_;refine pf (nl ?_);exact iz (E,(decide (y.1=Ry),y.2)) h (aZ [.sl v6 3 (.int .i64) j.2.2.2.1,.obj e 98 (.agg (.pair (Ri c.2.1) (.pair (I c.2.2.1) (.eq (.int .u64 c.2.2.2))))),.obj b1 25 (.agg (.pair (I a1.1) (.pair (.eq v1_a1) (Ri a1.2.2)))),.sl v1_a1 27 aY a1.2.1] (f5 23 E y.2) [1,2,3,0] ⟨rfl,rfl,rfl,rfl,rfl,rfl,rfl,rfl,rfl,rfl,trivial⟩ rfl)
     ·refine cv h (fun h=>?_) (fun h=>?_)
      ·refine ah ?_;obtain⟨O,J,h⟩:=aa h;refine gd (vO (pre:=[.obj e 98 (.agg (.pair (Ri c.2.1) (.pair (I c.2.2.1) (.eq (.int .u64 c.2.2.2))))),.obj b1 25 (.agg (.pair (I a1.1) (.pair (.eq v1_a1) (Ri a1.2.2)))),.sl v1_a1 27 aY a1.2.1,.sl v6 3 (.int .i64) j.2.2.2.1]) (sV J).2) ?_;obtain⟨M,Rj,h⟩:=aa h;obtain⟨Tu,Ro,h⟩:=aa h;obtain⟨SD,pp,h⟩:=aa h;obtain⟨Rx,Rh,h⟩:=aa h;obtain⟨SC,Y,h⟩:=aa h;obtain⟨U,Rf,h⟩:=aa h;obtain⟨SB,mc,h⟩:=aa h;refine uw (Δ:=[.sl (l.2 (Int.toNat s)) 3 (.int .i64) O,.sl l.1 23 .val (fa l.2 0 x.2),.obj e 98 (.agg (.pair (Ri c.2.1) (.pair (I c.2.2.1) (.eq (.int .u64 c.2.2.2))))),.obj b1 25 (.agg (.pair (I a1.1) (.pair (.eq v1_a1) (Ri a1.2.2)))),.sl v1_a1 27 aY a1.2.1,.sl v6 3 (.int .i64) j.2.2.2.1]) (F:=(kB l.2 0 x.2).eraseIdx (Int.toNat s)) (Z:=Value) (fun i=>[(0,Pt e),(3,Pt b1),(5,.eq l.1),(6,.eq v6),(7,Ri r7.1),(8,I j.2.2.2.2.1)]) (fun i=>[.sl v6 3 (.int .i64) (List.set j.2.2.2.1 (Int.toNat s) U),.sl l.1 23 .val (List.set (fa l.2 0 x.2) (Int.toNat s) i),.sl i 3 (.int .i64) (O++[M]),.obj e 98 (.agg (.pair (Ri c.2.1) (.pair (I c.2.2.1) (.eq (.int .u64 c.2.2.2))))),.obj b1 25 (.agg (.pair (I a1.1) (.pair (.eq v1_a1) (Ri a1.2.2)))),.sl v1_a1 27 aY a1.2.1]) (fun S w=>?_) (fun D=>?_)
       ·refine jW ?_;refine aK rfl rfl rfl (aR rfl) ⟨rfl,trivial⟩ ?_;refine aK rfl rfl rfl (aR rfl) ⟨rfl,trivial⟩ ?_;refine aK rfl rfl rfl (aR rfl) ⟨rfl,trivial⟩ ?_;refine aK rfl rfl rfl (aR rfl) ⟨rfl,trivial⟩ ?_;refine aK rfl rfl rfl (aR rfl) ⟨rfl,trivial⟩ ?_;refine aK rfl rfl rfl (aR rfl) ⟨rfl,trivial⟩ ?_;refine dy 1 rfl rfl rfl rfl (be (t:=.val) rfl nu cG (oz J)) ⟨rfl,rfl,trivial⟩ ?_;refine dy 1 rfl rfl rfl rfl (eJ (i:=Int.toNat s) (off:=0) rfl cG (fun _=>rfl) rfl (cg (oz J)).2.2 rfl) ⟨rfl,trivial⟩ ?_;refine aK rfl rfl rfl (aR rfl) ⟨rfl,trivial⟩ ?_;refine aK rfl rfl rfl (aR rfl) ⟨rfl,trivial⟩ ?_;refine aK rfl rfl rfl (aN (t:=(.int .i64)) rfl eO cR Rj) ⟨rfl,rfl,trivial⟩ ?_;refine aK rfl rfl rfl (ar (t:=(.int .i64)) rfl cR rfl) ⟨rfl,trivial⟩ ?_;refine aK rfl rfl rfl (bG (t:=(.int .i64)) [(.tmp 80,_)] [M] rfl rfl eP (.cons rfl .int .nil) rfl rfl) ⟨rfl,trivial⟩ ?_;refine ux 0 rfl (fun v=>[.sl v 3 (.int .i64) (O++[M])]) (fun _=>rfl) rfl rfl rfl (cp rfl rfl eP (aC Ro)) ⟨rfl,rfl,trivial⟩ ?_;refine aK rfl rfl rfl (aR rfl) ⟨rfl,trivial⟩ ?_;refine aK rfl rfl rfl (aR rfl) ⟨rfl,trivial⟩ ?_;refine dy 5 rfl rfl rfl rfl (be (t:=(.int .i64)) rfl eO cR pp) ⟨rfl,rfl,trivial⟩ ?_;refine dy 5 rfl rfl rfl rfl (eJ (i:=Int.toNat s) (off:=0) rfl cR (fun _=>rfl) rfl (cg pp).2.2 rfl) ⟨rfl,trivial⟩ ?_;refine aK rfl rfl rfl (aw rfl dW) ⟨rfl,trivial⟩ ?_;refine dy 3 rfl rfl rfl rfl (ak rfl jY my rfl) ⟨rfl,trivial⟩ ?_;refine aK rfl rfl rfl (aR rfl) ⟨rfl,trivial⟩ ?_;refine aK rfl rfl rfl (aR rfl) ⟨rfl,trivial⟩ ?_;refine aK rfl rfl rfl (aN (t:=(.int .i64)) rfl eO cR Rh) ⟨rfl,rfl,trivial⟩ ?_;refine aK rfl rfl rfl (ar (t:=(.int .i64)) rfl cR rfl) ⟨rfl,trivial⟩ ?_;refine dy 4 rfl rfl rfl rfl (be (t:=aY) rfl sb mf Y) ⟨rfl,rfl,trivial⟩ ?_;refine dy 4 rfl rfl rfl rfl (mU rfl nZ (sW Y)) ⟨rfl,trivial⟩ ?_;refine dy 4 rfl rfl rfl rfl (eJ (i:=Int.toNat Rx) (off:=0) rfl cR (fun _=>rfl) rfl (cg Y).2.2 rfl) ⟨rfl,trivial⟩ ?_;refine aK rfl rfl rfl (fH rfl Rf) ⟨rfl,rfl,trivial⟩ ?_;refine dy 1 rfl rfl rfl rfl (be (t:=.val) rfl nu cG (oz J)) ⟨rfl,rfl,trivial⟩ ?_;refine ou 29 [true,true,false,false,true,true,true,true,true,true,true,true,true,true,true,true,true,true,true,true,true,true,true,true,true,true,true,false,true] [98] [] [] rfl (by kernel_rfl) (by kernel_rfl) (by kernel_rfl) eZ (fun vs hv hB=>?_);obtain⟨w0,Tt,rfl,RN⟩:=an hv;obtain⟨w1,To,rfl,RL⟩:=an RN;obtain⟨w2,Tn,rfl,RJ⟩:=an RL;obtain⟨w3,Tm,rfl,RI⟩:=an RJ;obtain⟨w4,Tj,rfl,RH⟩:=an RI;obtain⟨w5,Ti,rfl,RG⟩:=an RH;obtain⟨w6,Tf,rfl,RF⟩:=an RG;obtain⟨w7,Td,rfl,RE⟩:=an RF;obtain⟨w8,Ta,rfl,RD⟩:=an RE;obtain⟨w9,SA,rfl,Q9⟩:=an RD;obtain⟨S9,Sz,rfl,Q8⟩:=an Q9;obtain⟨S8,Sv,rfl,Q7⟩:=an Q8;obtain⟨S7,Su,rfl,Q6⟩:=an Q7;obtain⟨D,Ss,rfl,Q5⟩:=an Q6;obtain⟨S5,Sr,rfl,Q4⟩:=an Q5;obtain⟨SZ,Sm,rfl,Q3⟩:=an Q4;obtain⟨SY,Sl,rfl,Q2⟩:=an Q3;obtain⟨SX,Sj,rfl,Q1⟩:=an Q2;obtain⟨SV,Si,rfl,Q0⟩:=an Q1;obtain⟨SU,R9,rfl,QZ⟩:=an Q0;obtain⟨SS,R7,rfl,QY⟩:=an QZ;obtain⟨SR,R2,rfl,QX⟩:=an QY;obtain⟨SQ,RZ,rfl,QW⟩:=an QX;obtain⟨SO,RY,rfl,QV⟩:=an QW;obtain⟨SN,RX,rfl,QU⟩:=an QV
        obtain⟨SL,RV,rfl,QT⟩:=an QU;obtain⟨SK,RU,rfl,QR⟩:=an QT;obtain⟨SJ,RS,rfl,QQ⟩:=an QR;obtain⟨SI,RR,rfl,se⟩:=an QQ;obtain rfl:=lI se;refine⟨[0,1,2,3,4,5],[.sl l.1 23 .val (fa l.2 0 x.2),.obj e 98 (.agg (.pair (Ri c.2.1) (.pair (I c.2.2.1) (.eq (.int .u64 c.2.2.2))))),.obj b1 25 (.agg (.pair (I a1.1) (.pair (.eq v1_a1) (Ri a1.2.2)))),.sl v1_a1 27 aY a1.2.1,.sl v6 3 (.int .i64) j.2.2.2.1,.sl D 3 (.int .i64) (O++[M])],by kernel_rfl,by decide,?_⟩;refine lm 5 rfl ?_;refine GZ fun o34=>?_;refine lm 1 rfl ?_;refine pY rfl rfl (dK (i:=Int.toNat s) rfl cG rfl (jk (oz J)) rfl (.val o34) o34) ⟨rfl,rfl,trivial⟩ (by kernel_rfl) ?_;refine lm 5 rfl ?_;refine GY rfl rfl rfl rfl (be (t:=(.int .i64)) rfl eO cR mc) ⟨rfl,rfl,trivial⟩ (by kernel_rfl) ?_;refine pY rfl rfl (dK (i:=Int.toNat s) rfl cR rfl (jk mc) rfl .int rfl) ⟨rfl,rfl,trivial⟩ (by kernel_rfl) ?_;refine sc ?_;refine bI (SE.fin (Γ':=[(0,Pt e),(3,Pt b1),(5,.eq l.1),(6,.eq v6),(7,Ri r7.1),(8,I j.2.2.2.2.1)]) (Δ':=[.sl v6 3 (.int .i64) (List.set j.2.2.2.1 (Int.toNat s) U),.sl l.1 23 .val (List.set (fa l.2 0 x.2) (Int.toNat s) D),.sl D 3 (.int .i64) (O++[M]),.obj e 98 (.agg (.pair (Ri c.2.1) (.pair (I c.2.2.1) (.eq (.int .u64 c.2.2.2))))),.obj b1 25 (.agg (.pair (I a1.1) (.pair (.eq v1_a1) (Ri a1.2.2)))),.sl v1_a1 27 aY a1.2.1]) [0,1,2,3,4,5] ⟨rfl,rfl,rfl,rfl,rfl,rfl,trivial⟩ rfl) ?_;exact fun a w st=>⟨rfl,(D),(SE.fin (Γ':=[(0,Pt e),(3,Pt b1),(5,.eq l.1),(6,.eq v6),(7,Ri r7.1),(8,I j.2.2.2.2.1)]) (Δ':=[.sl v6 3 (.int .i64) (List.set j.2.2.2.1 (Int.toNat s) U),.sl l.1 23 .val (List.set (fa l.2 0 x.2) (Int.toNat s) D),.sl D 3 (.int .i64) (O++[M]),.obj e 98 (.agg (.pair (Ri c.2.1) (.pair (I c.2.2.1) (.eq (.int .u64 c.2.2.2))))),.obj b1 25 (.agg (.pair (I a1.1) (.pair (.eq v1_a1) (Ri a1.2.2)))),.sl v1_a1 27 aY a1.2.1]) [0,1,2,3,4,5] ⟨rfl,rfl,rfl,rfl,rfl,rfl,trivial⟩ rfl) a w st⟩
       ·show JN _ _ [(0,Pt e),(3,Pt b1),(5,.eq l.1),(6,.eq v6),(7,Ri r7.1),(8,I j.2.2.2.2.1)] ([.sl v6 3 (.int .i64) (List.set j.2.2.2.1 (Int.toNat s) U),.sl l.1 23 .val (List.set (fa l.2 0 x.2) (Int.toNat s) D),.sl D 3 (.int .i64) (O++[M]),.obj e 98 (.agg (.pair (Ri c.2.1) (.pair (I c.2.2.1) (.eq (.int .u64 c.2.2.2))))),.obj b1 25 (.agg (.pair (I a1.1) (.pair (.eq v1_a1) (Ri a1.2.2)))),.sl v1_a1 27 aY a1.2.1]++(kB l.2 0 x.2).eraseIdx (Int.toNat s));refine du 1 rfl ?_;refine du 2 rfl ?_;refine bI (AD (pre:=[.sl v6 3 (.int .i64) (List.set j.2.2.2.1 (Int.toNat s) U),.obj e 98 (.agg (.pair (Ri c.2.1) (.pair (I c.2.2.1) (.eq (.int .u64 c.2.2.2))))),.obj b1 25 (.agg (.pair (I a1.1) (.pair (.eq v1_a1) (Ri a1.2.2)))),.sl v1_a1 27 aY a1.2.1]) (z:=l) (i:=Int.toNat s) (sV J).2) ?_;refine tn (dF (zg (eq_false (by decide)) ?_));refine aM (aM (bR (bn ?_)));exact iz ((l.1,np l.2 (Int.toNat s) D),(c.2.1,c.2.2.1,c.2.2.2,List.set j.2.2.2.1 (Int.toNat s) U,List.set x.2 (Int.toNat s) (O++[M]))) h (aZ [.sl v6 3 (.int .i64) (List.set j.2.2.2.1 (Int.toNat s) U),.obj e 98 (.agg (.pair (Ri c.2.1) (.pair (I c.2.2.1) (.eq (.int .u64 c.2.2.2))))),.obj b1 25 (.agg (.pair (I a1.1) (.pair (.eq v1_a1) (Ri a1.2.2)))),.sl v1_a1 27 aY a1.2.1] (f5 23 (l.1,np l.2 (Int.toNat s) D) (List.set x.2 (Int.toNat s) (O++[M]))) [1,2,3,0] ⟨rfl,rfl,rfl,rfl,rfl,rfl,trivial⟩ rfl)
      ·refine aU (aI (tn (ab (mq ?_))));obtain⟨Rw,Re,h⟩:=aa h;refine jb (bj rfl Re) ?_;refine aq (nl ?_);exact iz (l,(Rw,x.2)) h (aZ [.obj e 98 (.agg (.pair (Ri c.2.1) (.pair (I c.2.2.1) (.eq (.int .u64 c.2.2.2))))),.obj b1 25 (.agg (.pair (I a1.1) (.pair (.eq v1_a1) (Ri a1.2.2)))),.sl v1_a1 27 aY a1.2.1,.sl v6 3 (.int .i64) j.2.2.2.1] (f5 23 l x.2) [0,1,2,3] ⟨rfl,rfl,rfl,rfl,rfl,rfl,rfl,rfl,trivial⟩ rfl)
    ·refine dF (aM (aM (bR (bn ?_))));exact iz (E,(c.2.1,c.2.2.1,c.2.2.2,j.2.2.2.1,y.2)) h (aZ [.sl v6 3 (.int .i64) j.2.2.2.1,.obj e 98 (.agg (.pair (Ri c.2.1) (.pair (I c.2.2.1) (.eq (.int .u64 c.2.2.2))))),.obj b1 25 (.agg (.pair (I a1.1) (.pair (.eq v1_a1) (Ri a1.2.2)))),.sl v1_a1 27 aY a1.2.1] (f5 23 E y.2) [1,2,3,0] ⟨rfl,rfl,rfl,rfl,rfl,rfl,trivial⟩ rfl)
   ·refine ab (mq ?_);obtain⟨Ru,Rb,h⟩:=aa h;refine jb (bj rfl Rb) ?_;refine aq (nl ?_);exact iz (X,(u.1,u.2.1,u.2.2.1,u.2.2.2.1,Ru,u.2.2.2.2)) h (aZ [.obj e 98 (.agg (.pair (Ri u.1) (.pair (I u.2.1) (.eq (.int .u64 u.2.2.1))))),.obj b1 25 (.agg (.pair (I a1.1) (.pair (.eq v1_a1) (Ri a1.2.2)))),.sl v1_a1 27 aY a1.2.1,.sl v6 3 (.int .i64) u.2.2.2.1] (f5 23 X u.2.2.2.2) [0,1,2,3] ⟨rfl,rfl,rfl,rfl,rfl,rfl,trivial⟩ rfl)
  ·refine xa ?_;exact iz (Q,(j.1,j.2.1,j.2.2.1,j.2.2.2.2.2)) h (aZ [.obj e 98 (.agg (.pair (Ri j.1) (.pair (I j.2.1) (.eq (.int .u64 j.2.2.1))))),.obj b1 25 (.agg (.pair (I a1.1) (.pair (.eq v1_a1) (Ri a1.2.2)))),.sl v1_a1 27 aY a1.2.1,.sl v6 3 (.int .i64) j.2.2.2.1] (f5 23 Q j.2.2.2.2.2) [0,2] ⟨rfl,trivial⟩ rfl)
 ·
  refine sr (mq ?_);refine aq (nt (aA ?_));refine bI (GR (pre:=[.obj e 98 (.agg (.pair (Ri x8.1) (.pair (I x8.2.1) (.eq (.int .u64 x8.2.2.1))))),.sl v1_a1 27 aY a1.2.1])) ?_;refine bI (gI [4,5,99] ⟨rfl,rfl,rfl,trivial⟩) ?_;cases h;exact aG () [_] 2 ⟨rfl,trivial⟩ rfl
def gl(k:Nat)(a0:Int)(a1:Int)(a2:Int):Option Bool:=
 ((if a1≤a0 then(some (decide (a0≤a2))) else(some false)):Option (Bool)).bind fun x1=>
 some x1
theorem iw(k:Nat)(a0:Int)(a1:Int)(a2:Int)(r:Bool)(h:gl k a0 a1 a2=some r):
 bX Tryz.prog 90 [I a0,I a1,I a2] [] (fun _:Unit=>(bq [.eq (.bool r)],[])):=by
 unfold gl at h
 replace h:=a9 h
 refine bX.of 15 Tryz.func90 rfl Tryz.ntmps90 rfl fun S w0=>?_
 refine sr ?_
 refine cq ?_
 refine nt ?_
 refine aW (Z:=Unit) (α:=Bool) (fun z2 x1=>[(6,.eq (.bool x1))]) (fun z2 x1=>[]) h (fun K h=>?_) (fun z2 x1 h=>?_)
 ·
  refine ab ?_;iterate 2 refine mq ?_
  refine jb (pm rfl) ?_;refine mq ?_;refine bZ (s:=10) rfl (fun hb=>?_) (fun hb=>?_)
  ·replace h:=cM (nq hb) h;refine gm ?_;refine gm ?_;refine gb (tR rfl) ?_;refine pt ?_;refine aq (nl ?_);exact jz ((),decide (a0≤a2)) h []
  ·replace h:=bQ (m4 hb) h;iterate 3 refine gn ?_
   refine pf ?_;refine aq (nl ?_);exact jz ((),false) h []
 ·
  refine aA ?_;cases h;exact ra
def fp(k:Nat)(a0:bm)(e:ic):Nat→Int→Option (Except Int Unit)
 |0,_=>none
 |n+1,c=>
  if c < (e.2.length:Int) then((a8 e.2 c).bind fun x=>
  (ck (a0.1 - 1)).bind fun u=>
  (gl k x 0 u).bind fun y=>
  if¬(y=true) then(some (.error 1)) else(((if 0 < c then((a8 e.2 c).bind fun r=>
  (ck (c - 1)).bind fun l=>
  (a8 e.2 l).bind fun j=>
  some (decide (r≤j))) else(some false)):Option (Bool)).bind fun s=>
  if s=true then(some (.error 5)) else((ck (c+1)).bind fun h=>
  fp k a0 e n h))) else(some (.ok ()))
def fq(k:Nat)(a0:bm):Nat→Int→Option (Except Int Unit)
 |0,_=>none
 |n+1,y5=>
  if y5 < (a0.2.1.length:Int) then(bE (α:=Unit) ((a8 a0.2.1 y5).bind fun x9=>
  (gl k x9.1 1 3).bind fun j=>
  if¬(j=true) then(some (.error 1)) else((a8 a0.2.1 y5).bind fun h=>
  fp k a0 h k 0)) (fun e=>some (.error e)) fun _=>
  (ck (y5+1)).bind fun c=>
  fq k a0 n c) else(some (.ok ()))
def fo(k:Nat)(a0:bm):Nat→Int→Option (Except Int Unit)
 |0,_=>none
 |n+1,c=>
  if c < (a0.2.2.length:Int) then((a8 a0.2.2 c).bind fun h=>
  (gl k h 0 9).bind fun j=>
  if¬(j=true) then(some (.error 1)) else((ck (c+1)).bind fun e=>
  fo k a0 n e)) else(some (.ok ()))
def mj(k:Nat)(a0:bm):Option Int:=
 (gl k a0.1 1 6).bind fun r2=>
 if¬(r2=true) then(some 1) else(if 5 < (a0.2.1.length:Int) then(some 6) else(bE (α:=Unit) (fq k a0 k 0) (some) fun _=>
 if(a0.2.2.length:Int)=0 then(some 7) else(if 3 < (a0.2.2.length:Int) then(some 6) else(bE (α:=Unit) (fo k a0 k 0) (some) fun _=>
 some 0))))
theorem wd(k:Nat)(a0:bm)(r:Int)(h:mj k a0=some r):
 bX Tryz.prog 34 [.rep bb a0] [] (fun _:Unit=>(bq [I r],[])):=by
 unfold mj at h
 replace h:=a9 h
 refine bX.of 87 Tryz.func34 rfl Tryz.ntmps34 rfl fun S w0=>?_
 refine sr ?_
 refine bx fun b1=>?_
 refine cq ?_
 refine nt ?_
 refine ah ?_
 refine sr ?_
 refine fl lg ?_
 refine lo cR ?_
 obtain⟨r2,Q3,h⟩:=aa h
 have Q4:=iw k a0.1 1 6 r2 Q3
 refine jc (ao [.tmp 8,.const (.int .i64 (1)),.const (.int .i64 (6))] rfl rfl Gh rfl Q4) ?_
 refine ja (eR rfl) ?_
 refine nt ?_
 refine cw h (fun h=>?_) (fun h=>?_)
 ·
  refine sr (cq (nt (rx ?_)));cases h;exact ra
 ·
  refine sk (ah (sr (fl dW ?_)));refine lo jY ?_;refine ol sb ?_;refine jb (jK rfl) ?_;refine nt (ci h (fun h=>?_) (fun h=>?_))
  ·refine sr (cq (nt (rx ?_)));cases h;exact ra
  ·refine sk (eX (Z:=Unit) (α:=Unit) (fun z4 x3=>[(1,Pt b1)]) (fun z4 x3=>[.obj b1 25 (.rep bb a0)]) (fun e=>e=r) h (fun e h=>Option.some.inj h) (fun K hR h=>?_) (fun z4 x3 h=>?_))
   ·refine sr (cq (nt (aj ?_)));refine aJ (fun z6 y5=>[(1,Pt b1),(3,I y5)]) (fun z6 y5=>[.obj b1 25 (.rep bb a0)]) (fq k a0) k () 0 (fun _=>rfl) h (SE.fin [0] ⟨rfl,rfl,trivial⟩ rfl) (fun n z6 y5 h=>?_);unfold fq at h;refine ah (sr (mq ?_));refine fl dW ?_;refine lo jY ?_;refine ol sb ?_;refine jb (bH rfl) ?_;refine nt (ci h (fun h=>?_) (fun h=>?_))
    ·refine sk (eX (Z:=Unit) (α:=Unit) (fun z8 x7=>[(1,Pt b1),(3,I y5)]) (fun z8 x7=>[.obj b1 25 (.rep bb a0)]) (fun e=>e=r) h (fun e h=>hR e h) (fun K hR h=>?_) (fun z8 x7 h=>?_))
     ·refine aj (ah (sr (fl dW ?_)));refine lo jY ?_;refine mq ?_;obtain⟨x9,Q2,h⟩:=aa h;refine jb (aN (t:=aY) rfl sb mf Q2) ?_;refine ja (aH 1 false rfl nZ rfl) ?_;refine ja (ar (t:=(.int .i64)) rfl cR rfl) ?_;obtain⟨Q1,se,h⟩:=aa h;refine jc (ao [.tmp 27,.const (.int .i64 (1)),.const (.int .i64 (3))] rfl rfl Gh rfl (iw k x9.1 1 3 Q1 se)) ?_;refine ja (eR rfl) ?_;refine nt (cw h (fun h=>?_) (fun h=>?_))
      ·refine sr (cq (nt (rx (br (bf (aP ?_))))));obtain rfl:=hR _ h;exact ra
      ·refine sk (sr (fl dW ?_));refine lo jY ?_;refine mq ?_;obtain⟨s,mc,h⟩:=aa h;refine jb (aN (t:=aY) rfl sb mf mc) ?_;refine ja (aH 1 false rfl nY rfl) ?_;refine ja (ar (t:=(.slice (.int .i64))) rfl cG rfl) ?_;refine aq (nt (sr ?_));refine cq (nt (aj ?_));refine aJ (fun D c=>[(1,Pt b1),(3,I y5),(4,Ri s.2),(5,I c)]) (fun D c=>[.obj b1 25 (.rep bb a0)]) (fp k a0 s) k () 0 (fun _=>rfl) h (SE.fin [0] ⟨rfl,rfl,rfl,rfl,trivial⟩ rfl) (fun n D c h=>?_);unfold fp at h;refine ah (sr ?_);iterate 2 refine mq ?_
       refine ol eO ?_;refine jb (bH rfl) ?_;refine nt (ci h (fun h=>?_) (fun h=>?_))
       ·refine sk (ah (aj (ah (ah (cr ?_)))));refine dm ?_;refine dm ?_;obtain⟨QY,ac,h⟩:=aa h;refine db (aN (t:=(.int .i64)) rfl eO cR ac) ?_;refine da (ar (t:=(.int .i64)) rfl cR rfl) ?_;refine da (aw rfl lg) ?_;refine ea 0 (ak rfl cR my rfl) ?_;obtain⟨QX,Y,h⟩:=aa h;refine db (fH rfl Y) ?_;refine df eZ ?_;obtain⟨Q0,qt,h⟩:=aa h;refine jc (ao [.tmp 45,.const (.int .i64 (0)),.tmp 48] rfl rfl Gh rfl (iw k QY 0 QX Q0 qt)) ?_;refine ja (eR rfl) ?_;refine nt (cw h (fun h=>?_) (fun h=>?_))
        ·refine sr (cq (nt (rx (br (bf (br (bf (aP ?_))))))));obtain rfl:=hR _ h;exact ra
        ·refine sk (aW (Z:=Unit) (α:=Bool) (fun y l=>[(1,Pt b1),(3,I y5),(4,Ri s.2),(5,I c),(64,.eq (.bool l))]) (fun y l=>[.obj b1 25 (.rep bb a0)]) h (fun K h=>?_) (fun y l h=>?_))
         ·refine cr ?_;refine dm ?_;refine db (jK rfl) ?_;refine s4 rfl rfl rfl (aR rfl) ⟨rfl,trivial⟩ (fun hb=>?_) (fun hb=>?_)
          ·replace h:=cM (nq hb) h;refine cd rfl rfl rfl rfl rfl (aR rfl) ⟨rfl,rfl,trivial⟩ ?_;refine cd rfl rfl rfl rfl rfl (aR rfl) ⟨rfl,rfl,trivial⟩ ?_;obtain⟨QW,X,h⟩:=aa h;refine cd rfl rfl rfl rfl rfl (aN (t:=(.int .i64)) rfl eO cR X) ⟨rfl,rfl,rfl,trivial⟩ ?_;refine cd rfl rfl rfl rfl rfl (ar (t:=(.int .i64)) rfl cR rfl) ⟨rfl,rfl,trivial⟩ ?_;refine cd rfl rfl rfl rfl rfl (aR rfl) ⟨rfl,rfl,trivial⟩ ?_;refine cd rfl rfl rfl rfl rfl (aR rfl) ⟨rfl,rfl,trivial⟩ ?_;obtain⟨Q5,U,h⟩:=aa h;refine cd rfl rfl rfl rfl rfl (fH rfl U) ⟨rfl,rfl,rfl,trivial⟩ ?_;obtain⟨QV,Q,h⟩:=aa h;refine cd rfl rfl rfl rfl rfl (aN (t:=(.int .i64)) rfl eO cR Q) ⟨rfl,rfl,rfl,trivial⟩ ?_;refine cd rfl rfl rfl rfl rfl (ar (t:=(.int .i64)) rfl cR rfl) ⟨rfl,rfl,trivial⟩ ?_;refine df eZ ?_;refine gb (tR rfl) ?_;refine pt (nl ?_);exact jz ((),decide (QW≤QV)) h [0]
          ·replace h:=bQ (m4 hb) h;iterate 9 refine dg ?_
           refine df eZ ?_;refine gn ?_;refine pf (nl ?_);exact jz ((),false) h [0]
         ·refine cv h (fun h=>?_) (fun h=>?_)
          ·refine sr (cq (nt (aA (br (bf (br (bf (aP ?_))))))));obtain rfl:=hR _ h;exact ra
          ·refine aU (aI (tn (ab (mq ?_))));obtain⟨QU,O,h⟩:=aa h;refine jb (bj rfl O) ?_;refine aq (nl ?_);exact jz ((),QU) h [0]
       ·refine dF (aM (aM (bR (bn ?_))));exact jz ((),()) h [0]
     ·refine ab (mq ?_);obtain⟨QT,M,h⟩:=aa h;refine jb (bj rfl M) ?_;refine aq (nl ?_);exact jz ((),QT) h [0]
    ·refine xa ?_;exact jz ((),()) h [0]
   ·refine ah (sr (fl fF ?_));refine lo cG ?_;refine ol eO ?_;refine jb (eS rfl) ?_;refine nt (ci h (fun h=>?_) (fun h=>?_))
    ·refine sr (cq (nt (rx ?_)));cases h;exact ra
    ·refine sk (ah (sr (fl fF ?_)));refine lo cG ?_;refine ol eO ?_;refine jb (jK rfl) ?_;refine nt (ci h (fun h=>?_) (fun h=>?_))
     ·refine sr (cq (nt (rx ?_)));cases h;exact ra
     ·refine sk (eX (Z:=Unit) (α:=Unit) (fun x E=>[]) (fun x E=>[]) (fun e=>e=r) h (fun e h=>Option.some.inj h) (fun K hR h=>?_) (fun x E h=>?_))
      ·refine sr (cq (nt (aj ?_)));refine aJ (fun u j=>[(1,Pt b1),(6,I j)]) (fun u j=>[.obj b1 25 (.rep bb a0)]) (fo k a0) k () 0 (fun _=>rfl) h (SE.fin [0] ⟨rfl,rfl,trivial⟩ rfl) (fun n u j h=>?_);unfold fo at h;refine ah (sr (mq ?_));refine fl fF ?_;refine lo cG ?_;refine ol eO ?_;refine jb (bH rfl) ?_;refine nt (ci h (fun h=>?_) (fun h=>?_))
       ·refine sk (ah (aj (sr (fl fF ?_))));refine lo cG ?_;refine mq ?_;obtain⟨QR,J,h⟩:=aa h;refine jb (aN (t:=(.int .i64)) rfl eO cR J) ?_;refine ja (ar (t:=(.int .i64)) rfl cR rfl) ?_;obtain⟨QZ,pp,h⟩:=aa h;refine jc (ao [.tmp 84,.const (.int .i64 (0)),.const (.int .i64 (9))] rfl rfl Gh rfl (iw k QR 0 9 QZ pp)) ?_;refine ja (eR rfl) ?_;refine nt (cw h (fun h=>?_) (fun h=>?_))
        ·refine sr (cq (nt (aA (br (bf (aP ?_))))));obtain rfl:=hR _ h;exact ra
        ·refine aU (aI (tn (ab (mq ?_))));obtain⟨QQ,F,h⟩:=aa h;refine jb (bj rfl F) ?_;refine aq (nl ?_);exact jz ((),QQ) h [0]
       ·refine xa ?_;exact jz ((),()) h []
      ·refine sr (cq (nt (aA ?_)));cases h;exact ra
def jJ(k:Nat)(a0:bm)(a1:Int):Option Bool:=
 (ck ((a0.2.1.length:Int) - 1)).bind fun x2=>
 (gl k a1 0 x2).bind fun r3=>
 some r3
theorem tA(k:Nat)(a0:bm)(a1:Int)(r:Bool)(h:jJ k a0 a1=some r):
 bX Tryz.prog 95 [.rep bb a0,I a1] [] (fun _:Unit=>(bq [.eq (.bool r)],[])):=by
 unfold jJ at h
 replace h:=a9 h
 refine bX.of 11 Tryz.func95 rfl Tryz.ntmps95 rfl fun S w0=>?_
 refine sr ?_
 refine bx fun b1=>?_
 refine cq ?_
 refine nt ?_
 refine sr ?_
 refine mq ?_
 refine fl dW ?_
 refine lo jY ?_
 refine ol sb ?_
 obtain⟨x2,c,h⟩:=aa h
 refine jb (fH rfl c) ?_
 obtain⟨r3,e,h⟩:=aa h
 have j:=iw k a1 0 x2 r3 e
 refine jc (ao [.tmp 5,.const (.int .i64 (0)),.tmp 9] rfl rfl Gh rfl j) ?_
 refine aq ?_
 refine nt ?_
 refine aA ?_
 cases h
 exact ra
def hC(k:Nat)(a0:(List Int))(a1:Int):Nat→Int→Option (Except Bool Unit)
 |0,_=>none
 |n+1,y3=>
  if y3 < (a0.length:Int) then((a8 a0 y3).bind fun x5=>
  if x5=a1 then(some (.error true)) else((ck (y3+1)).bind fun x6=>
  hC k a0 a1 n x6)) else(some (.ok ()))
def qu(k:Nat)(a0:(List Int))(a1:Int):Option Bool:=
 bE (α:=Unit) (hC k a0 a1 k 0) (some) fun _=>
 some false
theorem zH(k:Nat)(a0:(List Int))(a1:Int)(r:Bool)(h:qu k a0 a1=some r):
 bX Tryz.prog 96 [Ri a0,I a1] [] (fun _:Unit=>(bq [.eq (.bool r)],[])):=by
 unfold qu at h
 replace h:=a9 h
 refine bX.of 18 Tryz.func96 rfl Tryz.ntmps96 rfl fun S w0=>?_
 refine sr ?_
 refine cq ?_
 refine nt ?_
 refine eX (Z:=Unit) (α:=Unit) (fun z2 x1=>[]) (fun z2 x1=>[]) (fun e=>e=r) h (fun e h=>Option.some.inj h) (fun K hR h=>?_) (fun z2 x1 h=>?_)
 ·
  refine sr (cq (nt (aj ?_)));refine aJ (fun z4 y3=>[(0,Ri a0),(1,I a1),(5,I y3)]) (fun z4 y3=>[]) (hC k a0 a1) k () 0 (fun _=>rfl) h (SE.fin [] ⟨rfl,rfl,rfl,trivial⟩ rfl) (fun n z4 y3 h=>?_);unfold hC at h;refine ah (sr ?_);iterate 2 refine mq ?_
  refine ol eO ?_;refine jb (bH rfl) ?_;refine nt (ci h (fun h=>?_) (fun h=>?_))
  ·refine sk (ah (aj (sr ?_)));iterate 2 refine mq ?_
   obtain⟨x5,j,h⟩:=aa h;refine jb (aN (t:=(.int .i64)) rfl eO cR j) ?_;refine ja (ar (t:=(.int .i64)) rfl cR rfl) ?_;refine mq ?_;refine jb (eS rfl) ?_;refine nt (ci h (fun h=>?_) (fun h=>?_))
   ·refine sr (cq (nt (aA (br (bf (aP ?_))))));obtain rfl:=hR _ h;exact ra
   ·refine aU (aI (tn (ab (mq ?_))));obtain⟨x6,c,h⟩:=aa h;refine jb (bj rfl c) ?_;refine aq (nl ?_);exact jz ((),x6) h []
  ·refine xa ?_;exact jz ((),()) h []
 ·
  refine sr (cq (nt (aA ?_)));cases h;exact ra
def bT(k:Nat)(a0:bm)(a1:(List (List Int)))(y5:(List Int)×Int):Nat→((List Int)×Int×Int)→Option (Except Int ((List Int)×Int))
 |0,_=>none
 |n+1,c=>
  (a8 a1 y5.2).bind fun F=>
  if c.2.2 < (F.length:Int) then((a8 a1 y5.2).bind fun E=>
  (a8 E c.2.2).bind fun D=>
  (jJ k a0 D).bind fun J=>
  if¬(J=true) then(some (.error 3)) else((a8 a1 y5.2).bind fun y=>
  (a8 y c.2.2).bind fun x=>
  (qu k c.1 x).bind fun I=>
  if I=true then(some (.error 4)) else((a8 a1 y5.2).bind fun u=>
  (a8 u c.2.2).bind fun e=>
  (d6 (bV (List.length c.1+List.length [e]))).bind fun _=>
  (a8 a1 y5.2).bind fun s=>
  (a8 s c.2.2).bind fun r=>
  (a8 a0.2.1 r).bind fun l=>
  (ck (c.2.1+l.1)).bind fun j=>
  (ck (c.2.2+1)).bind fun h=>
  bT k a0 a1 y5 n (c.1++[e],j,h)))) else(some (.ok (c.1,c.2.1)))
def cm(k:Nat)(a0:bm)(a1:(List (List Int))):Nat→((List Int)×Int)→Option (Except Int (List Int))
 |0,_=>none
 |n+1,y5=>
  if y5.2 < (a1.length:Int) then(bE (α:=(List Int)) (bE (α:=(List Int)×Int) (bT k a0 a1 y5 k (y5.1,0,0)) (fun e=>some (.error e)) fun x9=>
  (a8 a0.2.2 y5.2).bind fun h=>
  if h < x9.2 then(some (.error 12)) else(some (.ok x9.1))) (fun e=>some (.error e)) fun x7=>
  (ck (y5.2+1)).bind fun c=>
  cm k a0 a1 n (x7,c)) else(some (.ok y5.1))
def eI(k:Nat)(a0:bm)(a1:(List (List Int))):Option Int:=
 (mj k a0).bind fun r2=>
 if¬(r2=0) then(some r2) else(if(a1.length:Int) < (a0.2.2.length:Int) then(some 7) else(if(a0.2.2.length:Int) < (a1.length:Int) then(some 6) else(bE (α:=(List Int)) (cm k a0 a1 k (([]:(List Int)),0)) (some) fun x3=>
 if(x3.length:Int) < (a0.2.1.length:Int) then(some 7) else(some 0))))
theorem o4(k:Nat)(a0:bm)(a1:(List (List Int)))(r:Int)(h:eI k a0 a1=some r):
 bX Tryz.prog 36 [.rep bb a0,.rep (.slice (.slice (.int .i64))) a1] [] (fun _:Unit=>(bq [I r],[])):=by
 unfold eI at h
 replace h:=a9 h
 refine bX.of 98 Tryz.func36 rfl Tryz.ntmps36 rfl fun S w0=>?_
 refine sr ?_
 refine bx fun b1=>?_
 refine cq ?_
 refine nt ?_
 refine ah ?_
 refine sr ?_
 refine lo ii ?_
 obtain⟨r2,Rt,h⟩:=aa h
 have Ru:=wd k a0 r2 Rt
 refine ja (ao [.tmp 10] rfl rfl Qh rfl Ru) ?_
 refine aq ?_
 refine nt ?_
 refine sr ?_
 refine mq ?_
 refine jb (jf rfl) ?_
 refine nt ?_
 refine cn h (fun h=>?_) (fun h=>?_)
 ·
  refine sr (mq ?_);refine aq (nt (rx ?_));cases h;exact ra
 ·
  refine sk (ah (sr (mq ?_)));refine ol nu ?_;refine fl fF ?_;refine lo cG ?_;refine ol eO ?_;refine jb (bH rfl) ?_;refine nt (ci h (fun h=>?_) (fun h=>?_))
  ·refine sr (cq (nt (rx ?_)));cases h;exact ra
  ·refine sk (ah (sr (mq ?_)));refine ol nu ?_;refine fl fF ?_;refine lo cG ?_;refine ol eO ?_;refine jb (jK rfl) ?_;refine nt (ci h (fun h=>?_) (fun h=>?_))
   ·refine sr (cq (nt (rx ?_)));cases h;exact ra
   ·refine sk (sr (cq (nt ?_)));refine eX (Z:=Value) (α:=(List Int)) (fun z4 x3=>[(2,Pt b1),(6,.eq z4)]) (fun z4 x3=>[.obj b1 25 (.rep bb a0),.sl z4 3 (.int .i64) x3]) (fun e=>e=r) h (fun e h=>Option.some.inj h) (fun K hR h=>?_) (fun z4 x3 h=>?_)
    ·refine sr (cq (nt (aj ?_)));refine gd (SE.nil 3 (.int .i64)) ?_;refine aJ (fun z6 y5=>[(1,.rep (.slice (.slice (.int .i64))) a1),(2,Pt b1),(6,.eq z6),(7,I y5.2)]) (fun z6 y5=>[.obj b1 25 (.rep bb a0),.sl z6 3 (.int .i64) y5.1]) (cm k a0 a1) k (.slice none 0 0) (([]:(List Int)),0) (fun _=>rfl) h (SE.fin [1,0] ⟨rfl,rfl,rfl,rfl,trivial⟩ rfl) (fun n z6 y5 h=>?_);unfold cm at h;refine ah (sr ?_);iterate 2 refine mq ?_
     refine ol nu ?_;refine jb (bH rfl) ?_;refine nt (ci h (fun h=>?_) (fun h=>?_))
     ·refine sk (eX (Z:=Value) (α:=(List Int)) (fun z8 x7=>[(1,.rep (.slice (.slice (.int .i64))) a1),(2,Pt b1),(6,.eq z8),(7,I y5.2)]) (fun z8 x7=>[.obj b1 25 (.rep bb a0),.sl z8 3 (.int .i64) x7]) (fun e=>e=r) h (fun e h=>hR e h) (fun K hR h=>?_) (fun z8 x7 h=>?_))
      ·refine aj (sr (cq (nt ?_)));refine eX (Z:=Value) (α:=(List Int)×Int) (fun l x9=>[(1,.rep (.slice (.slice (.int .i64))) a1),(2,Pt b1),(6,.eq l),(7,I y5.2),(8,I x9.2)]) (fun l x9=>[.obj b1 25 (.rep bb a0),.sl l 3 (.int .i64) x9.1]) (fun e=>e=r) h (fun e h=>hR e h) (fun K hR h=>?_) (fun l x9 h=>?_)
       ·refine sr (cq (nt (aj ?_)));refine aJ (fun j c=>[(1,.rep (.slice (.slice (.int .i64))) a1),(2,Pt b1),(6,.eq j),(7,I y5.2),(8,I c.2.1),(9,I c.2.2)]) (fun j c=>[.obj b1 25 (.rep bb a0),.sl j 3 (.int .i64) c.1]) (bT k a0 a1 y5) k z6 (y5.1,0,0) (fun _=>rfl) h (SE.fin [0,1] ⟨rfl,rfl,rfl,rfl,rfl,rfl,trivial⟩ rfl) (fun n j c h=>?_);unfold bT at h;refine ah (sr ?_);iterate 3 refine mq ?_
        obtain⟨RX,Q3,h⟩:=aa h;refine jb (aN (t:=(.slice (.int .i64))) rfl nu cG Q3) ?_;refine ja (ar (t:=(.slice (.int .i64))) rfl cG rfl) ?_;refine ol eO ?_;refine jb (bH rfl) ?_;refine nt (ci h (fun h=>?_) (fun h=>?_))
        ·refine sk (ah (aj (ah (ah (cr ?_)))));refine ea 0 (ak rfl ii (xk) rfl) ?_;refine dm ?_;refine dm ?_;obtain⟨RV,Q2,h⟩:=aa h;refine db (aN (t:=(.slice (.int .i64))) rfl nu cG Q2) ?_;refine da (ar (t:=(.slice (.int .i64))) rfl cG rfl) ?_;refine dm ?_;obtain⟨Rb,Q1,h⟩:=aa h;refine db (aN (t:=(.int .i64)) rfl eO cR Q1) ?_;refine da (ar (t:=(.int .i64)) rfl cR rfl) ?_;refine df eZ ?_;obtain⟨Rf,Q6,h⟩:=aa h;refine jb (ao [.tmp 42,.tmp 49] rfl rfl P1 rfl (tA k a0 Rb Rf Q6)) ?_;refine ja (eR rfl) ?_;refine nt (cw h (fun h=>?_) (fun h=>?_))
         ·refine sr (cq (nt (rx (br (bf (aP (br (bf (aP ?_)))))))));obtain rfl:=hR _ h;exact ra
         ·refine sk (ah (sr ?_));iterate 3 refine mq ?_
          obtain⟨RU,Q0,h⟩:=aa h;refine jb (aN (t:=(.slice (.int .i64))) rfl nu cG Q0) ?_;refine ja (ar (t:=(.slice (.int .i64))) rfl cG rfl) ?_;refine mq ?_;obtain⟨u,QZ,h⟩:=aa h;refine jb (aN (t:=(.int .i64)) rfl eO cR QZ) ?_;refine ja (ar (t:=(.int .i64)) rfl cR rfl) ?_;obtain⟨Re,Q5,h⟩:=aa h;refine fr 1 ?_;refine kb (pX (N:=[(.tmp 52,.eq j),(.tmp 59,I u)]) (ao [.tmp 52,.tmp 59] rfl rfl P0 rfl (zH k c.1 u Re Q5)) (fun _ _ _ hv hn=>⟨(lend hn.1 hv),hn.2.1,trivial⟩) (fun _=>⟨rfl,ud⟩)) ?_;refine nt (cv h (fun h=>?_) (fun h=>?_))
          ·refine sr (cq (nt (rx (br (bf (aP (br (bf (aP ?_)))))))));obtain rfl:=hR _ h;exact ra
          ·refine sk (jW ?_);refine aK rfl rfl rfl (aR rfl) ⟨rfl,trivial⟩ ?_;refine aK rfl rfl rfl (aR rfl) ⟨rfl,trivial⟩ ?_;refine aK rfl rfl rfl (aR rfl) ⟨rfl,trivial⟩ ?_;obtain⟨RS,QY,h⟩:=aa h;refine aK rfl rfl rfl (aN (t:=(.slice (.int .i64))) rfl nu cG QY) ⟨rfl,rfl,trivial⟩ ?_;refine aK rfl rfl rfl (ar (t:=(.slice (.int .i64))) rfl cG rfl) ⟨rfl,trivial⟩ ?_;refine aK rfl rfl rfl (aR rfl) ⟨rfl,trivial⟩ ?_;obtain⟨s,QX,h⟩:=aa h;refine aK rfl rfl rfl (aN (t:=(.int .i64)) rfl eO cR QX) ⟨rfl,rfl,trivial⟩ ?_;refine aK rfl rfl rfl (ar (t:=(.int .i64)) rfl cR rfl) ⟨rfl,trivial⟩ ?_;refine aK rfl rfl rfl (bG (t:=(.int .i64)) [(.tmp 68,_)] [s] rfl rfl eP (.cons rfl .int .nil) rfl rfl) ⟨rfl,trivial⟩ ?_;obtain⟨SL,Q4,h⟩:=aa h;refine ux 0 rfl (fun v=>[.sl v 3 (.int .i64) (c.1++[s])]) (fun _=>rfl) rfl rfl rfl (cp rfl rfl eP (aC Q4)) ⟨rfl,rfl,trivial⟩ ?_;refine aK rfl rfl rfl (aR rfl) ⟨rfl,trivial⟩ ?_;refine aK rfl rfl rfl (aw rfl dW) ⟨rfl,trivial⟩ ?_;refine dy 1 rfl rfl rfl rfl (ak rfl jY my rfl) ⟨rfl,trivial⟩ ?_;refine aK rfl rfl rfl (aR rfl) ⟨rfl,trivial⟩ ?_;refine aK rfl rfl rfl (aR rfl) ⟨rfl,trivial⟩ ?_;obtain⟨RR,QW,h⟩:=aa h;refine aK rfl rfl rfl (aN (t:=(.slice (.int .i64))) rfl nu cG QW) ⟨rfl,rfl,trivial⟩ ?_;refine aK rfl rfl rfl (ar (t:=(.slice (.int .i64))) rfl cG rfl) ⟨rfl,trivial⟩ ?_;refine aK rfl rfl rfl (aR rfl) ⟨rfl,trivial⟩ ?_;obtain⟨RQ,QV,h⟩:=aa h;refine aK rfl rfl rfl (aN (t:=(.int .i64)) rfl eO cR QV) ⟨rfl,rfl,trivial⟩ ?_;refine aK rfl rfl rfl (ar (t:=(.int .i64)) rfl cR rfl) ⟨rfl,trivial⟩ ?_;obtain⟨RP,QU,h⟩:=aa h;refine aK rfl rfl rfl (aN (t:=aY) rfl sb mf QU) ⟨rfl,rfl,trivial⟩ ?_;refine aK rfl rfl rfl (aH 1 false rfl nZ rfl) ⟨rfl,trivial⟩ ?_;refine aK rfl rfl rfl (ar (t:=(.int .i64)) rfl cR rfl) ⟨rfl,trivial⟩ ?_;obtain⟨Q9,QT,h⟩:=aa h;refine aK rfl rfl rfl (bj rfl QT) ⟨rfl,rfl,trivial⟩ ?_;refine ou 24 [true,true,true,true,true,true,true,true,true,true,false,false,false,false,false,false,false,false,false,false,false,false,false,false] [6] [1] [.obj b1 25 (.rep bb a0)] rfl (by kernel_rfl) (by kernel_rfl) (by kernel_rfl) eZ (fun vs hv hB=>?_);obtain⟨w0,SK,rfl,Rr⟩:=an hv;obtain⟨w1,SJ,rfl,Rq⟩:=an Rr;obtain⟨w2,SI,rfl,Ro⟩:=an Rq;obtain⟨w3,SH,rfl,Rn⟩:=an Ro;obtain⟨w4,SG,rfl,Rm⟩:=an Rn;obtain⟨w5,SD,rfl,Rl⟩:=an Rm;obtain⟨w6,SC,rfl,Rk⟩:=an Rl;obtain⟨w7,SB,rfl,Rj⟩:=an Rk;obtain⟨w8,SA,rfl,Rh⟩:=an Rj;obtain⟨x,RN,rfl,qt⟩:=an Rh;obtain⟨Sz,RL,rfl,pp⟩:=an qt;obtain⟨Sv,RJ,rfl,mc⟩:=an pp;obtain⟨Su,RI,rfl,ac⟩:=an mc;obtain⟨Ss,RH,rfl,Y⟩:=an ac;obtain⟨Sr,RG,rfl,X⟩:=an Y;obtain⟨Sm,RF,rfl,U⟩:=an X;obtain⟨Sl,RE,rfl,Q⟩:=an U;obtain⟨Sj,RD,rfl,O⟩:=an Q;obtain⟨Si,RB,rfl,M⟩:=an O;obtain⟨R9,RA,rfl,J⟩:=an M;obtain⟨R7,Rz,rfl,F⟩:=an J;obtain⟨R2,Ry,rfl,E⟩:=an F;obtain⟨RZ,Rx,rfl,D⟩:=an E;obtain⟨RY,Rw,rfl,y⟩:=an D;obtain rfl:=lI y;refine⟨[0,1],[.sl x 3 (.int .i64) (c.1++[s])],by kernel_rfl,by decide,?_⟩;refine m7 rfl rfl rfl rfl (ia rfl) ⟨rfl,trivial⟩ (by kernel_rfl) ?_;refine G0 (by kernel_rfl) ?_;refine aq (ap (aI (tn (ab ?_))));refine mq ?_;obtain⟨Q8,QR,h⟩:=aa h
           refine jb (bj rfl QR) ?_;refine aq (nl ?_);exact jz (x,(c.1++[s],Q9,Q8)) h [0,1]
        ·refine xa ?_;exact jz (j,(c.1,c.2.1)) h [0,1]
       ·refine sr (mq ?_);refine fl fF ?_;refine lo cG ?_;refine mq ?_;obtain⟨RO,QQ,h⟩:=aa h;refine jb (aN (t:=(.int .i64)) rfl eO cR QQ) ?_;refine ja (ar (t:=(.int .i64)) rfl cR rfl) ?_;refine jb (jK rfl) ?_;refine nt (ci h (fun h=>?_) (fun h=>?_))
        ·refine sr (cq (nt (aA (br (bf (aP ?_))))));obtain rfl:=hR _ h;exact ra
        ·refine aU (bn ?_);exact jz (l,x9.1) h [0,1]
      ·refine ab (mq ?_);obtain⟨Q7,se,h⟩:=aa h;refine jb (bj rfl se) ?_;refine aq (nl ?_);exact jz (z8,(x7,Q7)) h [0,1]
     ·refine xa ?_;exact jz (z6,y5.1) h [0,1]
    ·refine ah (sr (mq ?_));refine fr 1 ?_;refine ka (cO rfl rfl eO) ?_;refine fl dW ?_;refine fr 1 ?_;refine lo jY ?_;refine ol sb ?_;refine jb (bH rfl) ?_;refine nt (ci h (fun h=>?_) (fun h=>?_))
     ·refine sr (cq (nt (rx ?_)));cases h;exact ra
     ·refine sk (sr (cq (nt (aA ?_))));cases h;exact ra
def yC(k:Nat)(a0:bM)(a1:Int):Option (bm×(List (List Int))×Bool×bM):=
 (iO k (a0.1,a0.2.1,a0.2.2) a1 3).bind fun r2=>
 (fD k (r2.2.1,r2.2.2.1,r2.2.2.2) r2.1).bind fun r4=>
 (eI k r2.1 r4.1).bind fun r5=>
 some (r2.1,r4.1,decide (r5=0),(r4.2.1,r4.2.2.1,r4.2.2.2))
def oM(k:Nat)(a0:bM)(a1:Int):Option (bm×(List (List Int))×Bool×bM):=
 (iO k (a0.1,a0.2.1,a0.2.2) a1 3).bind fun r2=>
 (fD k (r2.2.1,r2.2.2.1,r2.2.2.2) (r2.1.1,r2.1.2.1,r2.1.2.2)).bind fun r5=>
 (eI k (r2.1.1,r2.1.2.1,r2.1.2.2) r5.1).bind fun r6=>
 some ((r2.1.1,r2.1.2.1,r2.1.2.2),r5.1,decide (r6=0),(r5.2.1,r5.2.2.1,r5.2.2.2))
theorem wC(k:Nat)(a0:bM)(c:Nat)(a1:Int)(r:bm×(List (List Int))×Bool×bM)(h:oM k a0 a1=some r):
 bX Tryz.prog 44 [Pt c,I a1] [.obj c 98 (.agg (.pair (Ri a0.1) (.pair (I a0.2.1) (.eq (.int .u64 a0.2.2)))))] (fun z:Value=>(bq [.agg (.pair (I r.1.1) (.pair (.eq z) (Ri r.1.2.2))),.rep (.slice (.slice (.int .i64))) r.2.1,.eq (.bool r.2.2.1)],[.sl z 27 aY r.1.2.1,.obj c 98 (.agg (.pair (Ri r.2.2.2.1) (.pair (I r.2.2.2.2.1) (.eq (.int .u64 r.2.2.2.2.2)))))])):=by
 unfold oM at h
 replace h:=a9 h
 refine bX.of 21 Tryz.func44 rfl Tryz.ntmps44 rfl fun S w0=>?_
 refine sr ?_
 refine aF rfl rfl rfl (bL rfl xo Dj) trivial fun b1=>?_
 refine cq ?_
 refine cq ?_
 refine nt ?_
 refine sr ?_
 iterate 2 refine mq ?_
 obtain⟨r2,E,h⟩:=aa h
 have O:=t3 k (a0.1,a0.2.1,a0.2.2) c a1 3 r2 E
 refine fr 1 ?_
 refine bC (Δ:=[_]) (F:=_) (fun _ _ _=>av rfl _) rfl rfl (ao [.tmp 9,.tmp 10,.const (.int .i64 (3))] rfl rfl Qc rfl O) ⟨rfl,rfl,rfl,trivial⟩ fun z3=>?_
 refine aF rfl rfl rfl (bL rfl xo Dj) trivial fun b4=>?_
 refine bg rfl rfl (ba rfl ii trivial rfl rfl) ⟨rfl,rfl,trivial⟩ ?_
 refine nt ?_
 refine sr ?_
 refine mq ?_
 refine lo ii ?_
 obtain⟨r5,D,h⟩:=aa h
 have M:=qJ k (r2.2.1,r2.2.2.1,r2.2.2.2) c (r2.1.1,r2.1.2.1,r2.1.2.2) z3 r5 D
 refine fr 1 ?_
 refine fr 2 ?_
 refine bC (Δ:=[_,_]) (F:=_) (fun _ _ _=>av rfl _) rfl rfl (ao [.tmp 12,.tmp 13] rfl rfl P5 rfl M) ⟨rfl,rfl,trivial⟩ fun _=>?_
 refine aq ?_
 refine nt ?_
 refine ah ?_
 refine jW ?_
 refine dy 2 rfl rfl rfl rfl (ak rfl ii (xk) rfl) ⟨rfl,trivial⟩ ?_
 refine aK rfl rfl rfl (aR rfl) ⟨rfl,trivial⟩ ?_
 refine dy 2 rfl rfl rfl rfl (ak rfl ii (xk) rfl) ⟨rfl,trivial⟩ ?_
 refine aK rfl rfl rfl (aR rfl) ⟨rfl,trivial⟩ ?_
 obtain⟨r6,y,h⟩:=aa h
 have J:=o4 k (r2.1.1,r2.1.2.1,r2.1.2.2) r5.1 r6 y
 refine dy 1 rfl rfl rfl rfl (pX (N:=[(.tmp 17,.agg (.pair (I r2.1.1) (.pair (.eq z3) (Ri r2.1.2.2)))),(.tmp 18,.rep (.slice (.slice (.int .i64))) r5.1)]) (ao [.tmp 17,.tmp 18] rfl rfl Qg rfl J) (fun _ _ _ hv hn=>⟨(fX (t:=bb) (x:=(r2.1.1,r2.1.2.1,r2.1.2.2)) (.agg (.pair .int (.pair .rep .rep))) trivial rfl (Dk hv hn.1)),hn.2.1,trivial⟩) (fun _=>⟨rfl,ud⟩)) ⟨rfl,rfl,trivial⟩ ?_
 refine aK rfl rfl rfl (eS rfl) ⟨rfl,rfl,trivial⟩ ?_
 refine ou 6 [true,false,true,true,true,false] [5,6] [] [] rfl (by kernel_rfl) (by kernel_rfl) (by kernel_rfl) eZ (fun vs hv hB=>?_)
 obtain⟨w0,ac,rfl,u⟩:=an hv
 obtain⟨w1,Z,rfl,s⟩:=an u
 obtain⟨w2,Y,rfl,n⟩:=an s
 obtain⟨w3,X,rfl,l⟩:=an n
 obtain⟨w4,U,rfl,j⟩:=an l
 obtain⟨w5,Q,rfl,e⟩:=an j
 obtain rfl:=lI e
 refine⟨[0,1,2,3],[.obj c 98 (.agg (.pair (Ri r5.2.1) (.pair (I r5.2.2.1) (.eq (.int .u64 r5.2.2.2))))),.sl z3 27 aY r2.1.2.1,.obj b4 25 (.agg (.pair (I r2.1.1) (.pair (.eq z3) (Ri r2.1.2.2)))),.obj b1 25 (.agg (.pair (I 0) (.pair (.eq (.slice none 0 0)) (.eq (.slice none 0 0)))))],by kernel_rfl,by decide,?_⟩
 refine lm 3 rfl ?_
 refine pY rfl rfl (ba rfl ii trivial rfl rfl) ⟨rfl,rfl,trivial⟩ (by kernel_rfl) ?_
 refine m7 rfl rfl rfl rfl (ia rfl) ⟨rfl,trivial⟩ (by kernel_rfl) ?_
 refine m7 rfl rfl rfl rfl (ia rfl) ⟨rfl,trivial⟩ (by kernel_rfl) ?_
 refine sc ?_
 refine bI (SE.fin (Γ':=[(4,Pt b1),(5,.rep (.slice (.slice (.int .i64))) r5.1),(6,.eq (.bool (decide (r6=0))))]) (Δ':=[.obj b1 25 (.agg (.pair (I r2.1.1) (.pair (.eq z3) (Ri r2.1.2.2)))),.obj c 98 (.agg (.pair (Ri r5.2.1) (.pair (I r5.2.2.1) (.eq (.int .u64 r5.2.2.2))))),.sl z3 27 aY r2.1.2.1,.obj b4 25 (.agg (.pair (I r2.1.1) (.pair (.eq z3) (Ri r2.1.2.2))))]) [0,1,2,3] ⟨rfl,rfl,rfl,trivial⟩ rfl) ?_
 refine tn ?_
 refine aA ?_
 refine bI (SE.fin (Γ':=[(4,_),(5,_),(6,_)]) [2,1,0,3] ⟨rfl,rfl,rfl,trivial⟩ rfl) ?_
 cases h
 exact aG z3 [.agg (.pair (I r2.1.1) (.pair (.eq z3) (Ri r2.1.2.2))),_,_] 2 ⟨⟨_,_,_,_,_,rfl,(.tail _ (.tail _ (.head _))),ii,(xk),rfl⟩,rfl,rfl,trivial⟩ rfl
end Go.Proofs.YtcnpijmfgfnpiaaGreatDoor
