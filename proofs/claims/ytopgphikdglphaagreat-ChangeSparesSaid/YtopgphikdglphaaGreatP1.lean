import Derived.Test.YtopgphikdglphaaGreatFacts
import Derived.Test.YtopgphikdglphaaGreatB5
set_option linter.unusedVariables false
set_option maxRecDepth 4000
namespace Go.Proofs.YtopgphikdglphaaGreat
open K Go Go.Proofs
def jC(k:Nat)(a0:ae):Nat→Int→Option (Except Bool Unit)
 |0,_=>none
 |n+1,y6=>
  if y6 < (a0.1.length:Int) then((aL a0.1 y6).bind fun x8=>
  if 20 < (x8.1.length:Int) then(some (.error true)) else((ck (y6+1)).bind fun x9=>
  jC k a0 n x9)) else(some (.ok ()))
def jB(k:Nat)(a0:ae):Nat→Int→Option (Except Bool Unit)
 |0,_=>none
 |n+1,c=>
  if c < (a0.2.1.length:Int) then((aL a0.2.1 c).bind fun h=>
  if 20 < (h.1.length:Int) then(some (.error true)) else((ck (c+1)).bind fun e=>
  jB k a0 n e)) else(some (.ok ()))
def qq(k:Nat)(a0:ae):Option Bool:=
 ((if 20 < (a0.1.length:Int) then(some true) else(if 20 < (a0.2.1.length:Int) then(some true) else(if 20 < (a0.2.2.1.length:Int) then(some true) else(some (decide (20 < (a0.2.2.2.length:Int))))))):Option (Bool)).bind fun x2=>
 if x2=true then(some true) else(bE (α:=Unit) (jC k a0 k 0) (some) fun _=>
 bE (α:=Unit) (jB k a0 k 0) (some) fun _=>
 some false)
theorem Bd(k:Nat)(a0:ae)(r:Bool)(h:qq k a0=some r):
 bQ Tryz.prog 4 [.rep ag a0] [] (fun _:Unit=>(bG [.eq (.bool r)],[])):=by
 unfold qq at h
 replace h:=bi h
 refine bQ.of 57 Tryz.func4 rfl Tryz.ntmps4 rfl fun S w0=>?_
 refine sr ?_
 refine bx fun b1=>?_
 refine cq ?_
 refine nt ?_
 refine aj ?_
 refine ay (Z:=Unit) (α:=Bool) (fun z3 x2=>[(1,Pt b1),(26,.eq (.bool x2))]) (fun z3 x2=>[.obj b1 26 (.rep ag a0)]) h (fun K h=>?_) (fun z3 x2 h=>?_)
 ·
  refine ah (fl bu ?_);refine lo dM ?_;refine ol kU ?_;refine jb (ik rfl) ?_;refine mq ?_;refine aM (s:=9) rfl (fun hb=>?_) (fun hb=>?_)
  ·replace h:=bY (oQ hb) h;iterate 4 refine gn ?_
   refine pt ?_;refine mq ?_;iterate 4 refine gn ?_
   refine pt ?_;refine mq ?_;iterate 4 refine gn ?_
   refine pt (nl ?_);exact jz ((),true) h [0]
  ·replace h:=bj (oR hb) h;refine ga (am rfl bA) ?_;refine bO rfl rfl rfl rfl rfl rfl (ai rfl eu dF rfl) ⟨rfl,trivial⟩ ?_;refine ga (mD rfl rfl l8) ?_;refine gb (ik rfl) ?_;refine pf ?_;refine mq ?_;refine aM (s:=15) rfl (fun hb=>?_) (fun hb=>?_)
   ·replace h:=bY (oQ hb) h;iterate 4 refine gn ?_
    refine pt ?_;refine mq ?_;iterate 4 refine gn ?_
    refine pt (nl ?_);exact jz ((),true) h [0]
   ·replace h:=bj (oR hb) h;refine ga (am rfl fQ) ?_;refine bO rfl rfl rfl rfl rfl rfl (ai rfl bR dF rfl) ⟨rfl,trivial⟩ ?_;refine ga (mD rfl rfl jt) ?_;refine gb (ik rfl) ?_;refine pf ?_;refine mq ?_;refine aM (s:=21) rfl (fun hb=>?_) (fun hb=>?_)
    ·replace h:=bY (oQ hb) h;iterate 4 refine gn ?_
     refine pt (nl ?_);exact jz ((),true) h [0]
    ·replace h:=bj (oR hb) h;refine ga (am rfl eV) ?_;refine bO rfl rfl rfl rfl rfl rfl (ai rfl bR dF rfl) ⟨rfl,trivial⟩ ?_;refine ga (mD rfl rfl jt) ?_;refine gb (ik rfl) ?_;refine pf (nl ?_);exact jz ((),decide (20 < (a0.2.2.2.length:Int))) h [0]
 ·
  refine cv h (fun h=>?_) (fun h=>?_)
  ·refine sr (cq (nt (rx ?_)));cases h;exact ra
  ·refine sk (cE (Z:=Unit) (α:=Unit) (fun z5 x4=>[(1,Pt b1)]) (fun z5 x4=>[.obj b1 26 (.rep ag a0)]) (fun e=>e=r) h (fun e h=>Option.some.inj h) (fun K hR h=>?_) (fun z5 x4 h=>?_))
   ·refine sr (cq (nt (al ?_)));refine aD (fun z7 y6=>[(1,Pt b1),(3,I y6)]) (fun z7 y6=>[.obj b1 26 (.rep ag a0)]) (jC k a0) k () 0 (fun _=>rfl) h (SE.fin [0] ⟨rfl,rfl,trivial⟩ rfl) (fun n z7 y6 h=>?_);unfold jC at h;refine aj (sr (mq ?_));refine fl bu ?_;refine lo dM ?_;refine ol kU ?_;refine jb (ba rfl) ?_;refine nt (ci h (fun h=>?_) (fun h=>?_))
    ·refine sk (aj (al (sr (fl bu ?_))));refine lo dM ?_;refine mq ?_;obtain⟨x8,F,h⟩:=aa h;refine jb (aC (t:=aJ) rfl kU eY F) ?_;refine ja (a8 1 false rfl iq rfl) ?_;refine ja (ao (t:=(.slice (.int .i64))) rfl bR rfl) ?_;refine ol jt ?_;refine jb (ik rfl) ?_;refine nt (ci h (fun h=>?_) (fun h=>?_))
     ·refine sr (cq (nt (aG (br (aV (aR ?_))))));obtain rfl:=hR _ h;exact ra
     ·refine aU (aO (tn (ah (mq ?_))));obtain⟨x9,E,h⟩:=aa h;refine jb (bh rfl E) ?_;refine aq (nl ?_);exact jz ((),x9) h [0]
    ·refine xa ?_;exact jz ((),()) h [0]
   ·refine cE (Z:=Unit) (α:=Unit) (fun l u=>[]) (fun l u=>[]) (fun e=>e=r) h (fun e h=>Option.some.inj h) (fun K hR h=>?_) (fun l u h=>?_)
    ·refine sr (cq (nt (al ?_)));refine aD (fun j c=>[(1,Pt b1),(4,I c)]) (fun j c=>[.obj b1 26 (.rep ag a0)]) (jB k a0) k () 0 (fun _=>rfl) h (SE.fin [0] ⟨rfl,rfl,trivial⟩ rfl) (fun n j c h=>?_);unfold jB at h;refine aj (sr (mq ?_));refine fl bA ?_;refine lo eu ?_;refine ol l8 ?_;refine jb (ba rfl) ?_;refine nt (ci h (fun h=>?_) (fun h=>?_))
     ·refine sk (aj (al (sr (fl bA ?_))));refine lo eu ?_;refine mq ?_;obtain⟨J,y,h⟩:=aa h;refine jb (aC (t:=aw) rfl l8 eI y) ?_;refine ja (a8 1 false rfl eU rfl) ?_;refine ja (ao (t:=(.slice (.int .i64))) rfl bR rfl) ?_;refine ol jt ?_;refine jb (ik rfl) ?_;refine nt (ci h (fun h=>?_) (fun h=>?_))
      ·refine sr (cq (nt (aG (br (aV (aR ?_))))));obtain rfl:=hR _ h;exact ra
      ·refine aU (aO (tn (ah (mq ?_))));obtain⟨D,x,h⟩:=aa h;refine jb (bh rfl x) ?_;refine aq (nl ?_);exact jz ((),D) h [0]
     ·refine xa ?_;exact jz ((),()) h []
    ·refine sr (cq (nt (aG ?_)));cases h;exact ra
def eG(k:Nat)(a0:(List Int))(a1:(List Int)):Nat→Int→Option (Except Bool Unit)
 |0,_=>none
 |n+1,y3=>
  if y3 < (a0.length:Int) then((aL a0 y3).bind fun x5=>
  (aL a1 y3).bind fun x6=>
  if¬(x5=x6) then(some (.error false)) else((ck (y3+1)).bind fun x7=>
  eG k a0 a1 n x7)) else(some (.ok ()))
def dG(k:Nat)(a0:(List Int))(a1:(List Int)):Option Bool:=
 if¬((a0.length:Int)=(a1.length:Int)) then(some false) else(bE (α:=Unit) (eG k a0 a1 k 0) (some) fun _=>
 some true)
theorem eF(k:Nat)(a0:(List Int))(a1:(List Int))(r:Bool)(h:dG k a0 a1=some r):
 bQ Tryz.prog 11 [Ri a0,Ri a1] [] (fun _:Unit=>(bG [.eq (.bool r)],[])):=by
 unfold dG at h
 replace h:=bi h
 refine bQ.of 26 Tryz.func11 rfl Tryz.ntmps11 rfl fun S w0=>?_
 refine sr ?_
 refine cq ?_
 refine nt ?_
 refine aj ?_
 refine sr ?_
 refine mq ?_
 refine ol jt ?_
 refine mq ?_
 refine ol jt ?_
 refine jb (bT rfl) ?_
 refine nt ?_
 refine cn h (fun h=>?_) (fun h=>?_)
 ·
  refine sr (cq (nt (rx ?_)));cases h;exact ra
 ·
  refine sk (cE (Z:=Unit) (α:=Unit) (fun z2 x1=>[]) (fun z2 x1=>[]) (fun e=>e=r) h (fun e h=>Option.some.inj h) (fun K hR h=>?_) (fun z2 x1 h=>?_))
  ·refine sr (cq (nt (al ?_)));refine aD (fun z4 y3=>[(0,Ri a0),(1,Ri a1),(5,I y3)]) (fun z4 y3=>[]) (eG k a0 a1) k () 0 (fun _=>rfl) h (SE.fin [] ⟨rfl,rfl,rfl,trivial⟩ rfl) (fun n z4 y3 h=>?_);unfold eG at h;refine aj (sr ?_);iterate 2 refine mq ?_
   refine ol jt ?_;refine jb (ba rfl) ?_;refine nt (ci h (fun h=>?_) (fun h=>?_))
   ·refine sk (aj (al (aj (a6 ?_))));refine dm ?_;refine dm ?_;obtain⟨x5,l,h⟩:=aa h;refine db (aC (t:=(.int .i64)) rfl jt cj l) ?_;refine da (ao (t:=(.int .i64)) rfl cj rfl) ?_;refine dm ?_;refine dm ?_;obtain⟨x6,j,h⟩:=aa h;refine db (aC (t:=(.int .i64)) rfl jt cj j) ?_;refine da (ao (t:=(.int .i64)) rfl cj rfl) ?_;refine df bw ?_;refine jb (bT rfl) ?_;refine nt (cn h (fun h=>?_) (fun h=>?_))
    ·refine sr (cq (nt (aG (br (aV (aR ?_))))));obtain rfl:=hR _ h;exact ra
    ·refine aU (aO (tn (ah (mq ?_))));obtain⟨x7,c,h⟩:=aa h;refine jb (bh rfl c) ?_;refine aq (nl ?_);exact jz ((),x7) h []
   ·refine xa ?_;exact jz ((),()) h []
  ·refine sr (cq (nt (aG ?_)));cases h;exact ra
def mX(k:Nat)(a0:(List Int)):Nat→(Int×Int)→Option Int
 |0,_=>none
 |n+1,y3=>
  if y3.2 < (a0.length:Int) then((aL a0 y3.2).bind fun x5=>
  (cF (0≤x5)).bind fun _=>
  (ck (y3.2+1)).bind fun x7=>
  mX k a0 n (nF .u8 y3.1 (zJ .u8 1 x5),x7)) else(some y3.1)
def eK(k:Nat)(a0:(List Int)):Option Int:=
 ((mX k a0 k (0,0)):Option (Int)).bind fun x1=>
 some x1
theorem fJ(k:Nat)(a0:(List Int))(r:Int)(h:eK k a0=some r):
 bQ Tryz.prog 34 [Ri a0] [] (fun _:Unit=>(bG [.eq (.int .u8 r)],[])):=by
 unfold eK at h
 replace h:=bi h
 refine bQ.of 18 Tryz.func34 rfl Tryz.ntmps34 rfl fun S w0=>?_
 refine sr ?_
 refine cq ?_
 refine nt ?_
 refine sr ?_
 refine cq ?_
 refine nt ?_
 refine ay (Z:=Unit) (α:=Int) (fun z2 x1=>[(3,.eq (.int .u8 x1))]) (fun z2 x1=>[]) h (fun K h=>?_) (fun z2 x1 h=>?_)
 ·
  refine sr (mq ?_);refine ol jt ?_;refine fg rfl ?_;refine nt (al (aD (fun z4 y3=>[(3,.eq (.int .u8 y3.1)),(6,Ri a0),(7,I (a0.length:Int)),(8,I y3.2)]) (fun z4 y3=>[]) (mX k a0) k () (0,0) (fun _=>rfl) h (SE.fin [] ⟨rfl,rfl,rfl,rfl,trivial⟩ rfl) (fun n z4 y3 h=>?_)));unfold mX at h;refine sr (jb (ba rfl) ?_);refine nt (aj (ci h (fun h=>?_) (fun h=>?_)))
  ·refine sk (aj (al (sr ?_)));obtain⟨x5,e,h⟩:=aa h;refine jb (aC (t:=(.int .i64)) rfl jt cj e) ?_;refine ja (ao (t:=(.int .i64)) rfl cj rfl) ?_;refine aq (nt (ah ?_));iterate 2 refine mq ?_
   obtain⟨u6,j,h⟩:=aa h;refine jb (N5 rfl (av j)) ?_;refine jb (xU rfl) ?_;refine aq (aT (aO (tn (ah ?_))));obtain⟨x7,c,h⟩:=aa h;refine jb (bh rfl c) ?_;refine mq (nl ?_);exact jz ((),(nF .u8 y3.1 (zJ .u8 1 x5),x7)) h []
  ·refine xa ?_;exact jz ((),y3.1) h []
 ·
  refine sr (mq ?_);refine aq (nt (aG ?_));cases h;exact ra
def fF(k:Nat)(a0:Int)(a1:Int):Option Bool:=
 (cF (0≤a1)).bind fun _=>
 some (decide ((nj .u8 (kT .u8 a0 a1) 1)=1))
theorem ix(k:Nat)(a0:Int)(a1:Int)(r:Bool)(h:fF k a0 a1=some r):
 bQ Tryz.prog 63 [.eq (.int .u8 a0),I a1] [] (fun _:Unit=>(bG [.eq (.bool r)],[])):=by
 unfold fF at h
 replace h:=bi h
 refine bQ.of 10 Tryz.func63 rfl Tryz.ntmps63 rfl fun S w0=>?_
 refine sr ?_
 refine cq ?_
 refine nt ?_
 refine sr ?_
 iterate 2 refine mq ?_
 obtain⟨u1,c,h⟩:=aa h
 refine jb (wx rfl (av c)) ?_
 refine jb (AU rfl) ?_
 refine jb (cM rfl) ?_
 refine aq ?_
 refine nt ?_
 refine aG ?_
 cases h
 exact ra
def fq(k:Nat)(a0:Int):Nat→((List Int)×Int)→Option (List Int)
 |0,_=>none
 |n+1,y3=>
  if y3.2 < 8 then((((fF k a0 y3.2).bind fun r7=>
  if r7=true then((cF (cx (List.length y3.1+List.length [y3.2]))).bind fun _=>
  some (y3.1++[y3.2])) else(some y3.1)):Option ((List Int))).bind fun x5=>
  (ck (y3.2+1)).bind fun c=>
  fq k a0 n (x5,c)) else(some y3.1)
def eN(k:Nat)(a0:Int):Option (List Int):=
 ((fq k a0 k (([]:(List Int)),0)):Option ((List Int))).bind fun x1=>
 some x1
theorem iY(k:Nat)(a0:Int)(r:(List Int))(h:eN k a0=some r):
 bQ Tryz.prog 35 [.eq (.int .u8 a0)] [] (fun _:Unit=>(bG [Ri r],[])):=by
 unfold eN at h
 replace h:=bi h
 refine bQ.of 17 Tryz.func35 rfl Tryz.ntmps35 rfl fun S w0=>?_
 refine sr ?_
 refine cq ?_
 refine nt ?_
 refine sr ?_
 refine cq ?_
 refine nt ?_
 refine ay (Z:=Value) (α:=(List Int)) (fun z2 x1=>[(3,.eq z2)]) (fun z2 x1=>[.sl z2 3 (.int .i64) x1]) h (fun K h=>?_) (fun z2 x1 h=>?_)
 ·
  refine sr (fg rfl ?_);refine nt (al (eL (SE.nil 3 (.int .i64)) ?_));refine aD (fun z4 y3=>[(0,.eq (.int .u8 a0)),(3,.eq z4),(5,I y3.2)]) (fun z4 y3=>[.sl z4 3 (.int .i64) y3.1]) (fq k a0) k (.slice none 0 0) (([]:(List Int)),0) (fun _=>rfl) h (SE.fin [0] ⟨rfl,rfl,rfl,trivial⟩ rfl) (fun n z4 y3 h=>?_);unfold fq at h;refine sr (jb (ba rfl) ?_);refine nt (aj (ci h (fun h=>?_) (fun h=>?_)))
  ·refine sk (ay (Z:=Value) (α:=(List Int)) (fun z6 x5=>[(0,.eq (.int .u8 a0)),(3,.eq z6),(5,I y3.2)]) (fun z6 x5=>[.sl z6 3 (.int .i64) x5]) h (fun K h=>?_) (fun z6 x5 h=>?_))
   ·refine al (sr (mq ?_));refine aq (nt (sr ?_));iterate 2 refine mq ?_
    obtain⟨r7,l,h⟩:=aa h;refine jb (ak [.tmp 8,.tmp 9] rfl rfl FQ rfl (ix k a0 y3.2 r7 l)) ?_;refine nt (cv h (fun h=>?_) (fun h=>?_))
    ·refine ah ?_;iterate 2 refine mq ?_
     refine ja (bv (t:=(.int .i64)) [(.tmp 12,_)] [y3.2] rfl rfl eo (.cons rfl .int .nil) rfl rfl) ?_;obtain⟨u8,j,h⟩:=aa h;refine dE rfl rfl rfl (bI rfl rfl eo (av j)) ⟨rfl,rfl,trivial⟩ fun v9=>?_;refine aq (aT (bn ?_));exact jz (v9,y3.1++[y3.2]) h [0]
    ·refine aU (bn ?_);exact jz (z4,y3.1) h [0]
   ·refine ah ?_;obtain⟨e,c,h⟩:=aa h;refine jb (bh rfl c) ?_;refine mq (nl ?_);exact jz (z6,(x5,e)) h [0]
  ·refine xa ?_;exact jz (z4,y3.1) h [0]
 ·
  refine sr (mq ?_);refine aq (nt (aG ?_));refine bC (nu [2,3,16] ⟨rfl,rfl,rfl,trivial⟩) ?_;cases h;exact ra
def bD(k:Nat)(a0:Int)(a1:Int)(a2:Int):Option Bool:=
 ((if a0 < a1 then(some true) else(some (decide (a2 < a0)))):Option (Bool)).bind fun x1=>
 some x1
theorem dk(k:Nat)(a0:Int)(a1:Int)(a2:Int)(r:Bool)(h:bD k a0 a1 a2=some r):
 bQ Tryz.prog 39 [I a0,I a1,I a2] [] (fun _:Unit=>(bG [.eq (.bool r)],[])):=by
 unfold bD at h
 replace h:=bi h
 refine bQ.of 15 Tryz.func39 rfl Tryz.ntmps39 rfl fun S w0=>?_
 refine sr ?_
 refine cq ?_
 refine nt ?_
 refine ay (Z:=Unit) (α:=Bool) (fun z2 x1=>[(6,.eq (.bool x1))]) (fun z2 x1=>[]) h (fun K h=>?_) (fun z2 x1 h=>?_)
 ·
  refine ah ?_;iterate 2 refine mq ?_
  refine jb (ba rfl) ?_;refine mq ?_;refine aM (s:=10) rfl (fun hb=>?_) (fun hb=>?_)
  ·replace h:=bY (oQ hb) h;iterate 3 refine gn ?_
   refine pt ?_;refine aq (nl ?_);exact jz ((),true) h []
  ·replace h:=bj (oR hb) h;refine gm ?_;refine gm ?_;refine gb (ik rfl) ?_;refine pf ?_;refine aq (nl ?_);exact jz ((),decide (a2 < a0)) h []
 ·
  refine aG ?_;cases h;exact ra
def iw(k:Nat)(a0:Int)(a1:Int):Option Int:=
 if a0=0 then(some 7) else(if a1 < a0 then(some 6) else(some 0))
theorem pA(k:Nat)(a0:Int)(a1:Int)(r:Int)(h:iw k a0 a1=some r):
 bQ Tryz.prog 51 [I a0,I a1] [] (fun _:Unit=>(bG [I r],[])):=by
 unfold iw at h
 replace h:=bi h
 refine bQ.of 12 Tryz.func51 rfl Tryz.ntmps51 rfl fun S w0=>?_
 refine sr ?_
 refine cq ?_
 refine nt ?_
 refine aj ?_
 refine al ?_
 refine sr ?_
 refine mq ?_
 refine jb (cM rfl) ?_
 refine aq ?_
 refine nt ?_
 refine ci h (fun h=>?_) (fun h=>?_)
 ·
  refine sr (cq (nt (aG (aV (aR ?_)))));cases h;exact ra
 ·
  refine sr ?_;iterate 2 refine mq ?_
  refine jb (ik rfl) ?_;refine aq (nt ?_);refine ci h (fun h=>?_) (fun h=>?_)
  ·refine sr (cq (nt (aG (aV (aR ?_)))));cases h;exact ra
  ·refine aU (aO (tn (sr (cq (nt (aG ?_))))));cases h;exact ra
def cX(k:Nat)(a0:(List Int))(a1:Int)(a2:Int):Nat→Int→Option (Except Int Unit)
 |0,_=>none
 |n+1,y3=>
  if y3 < (a0.length:Int) then((aL a0 y3).bind fun x5=>
  (((ck (a1 - 1)).bind fun x8=>
  (bD k x5 0 x8).bind fun r9=>
  if r9=true then(some true) else(some (decide (x5=a2)))):Option (Bool)).bind fun x6=>
  if x6=true then(some (.error 3)) else(((if 0 < y3 then((ck (y3 - 1)).bind fun h=>
  (aL a0 h).bind fun e=>
  some (decide (x5≤e))) else(some false)):Option (Bool)).bind fun j=>
  if j=true then(some (.error 5)) else((ck (y3+1)).bind fun c=>
  cX k a0 a1 a2 n c))) else(some (.ok ()))
def cK(k:Nat)(a0:(List Int))(a1:Int)(a2:Int):Option Int:=
 bE (α:=Unit) (cX k a0 a1 a2 k 0) (some) fun _=>
 some 0
theorem jN(k:Nat)(a0:(List Int))(a1:Int)(a2:Int)(r:Int)(h:cK k a0 a1 a2=some r):
 bQ Tryz.prog 78 [Ri a0,I a1,I a2] [] (fun _:Unit=>(bG [I r],[])):=by
 unfold cK at h
 replace h:=bi h
 refine bQ.of 37 Tryz.func78 rfl Tryz.ntmps78 rfl fun S w0=>?_
 refine sr ?_
 refine cq ?_
 refine nt ?_
 refine cE (Z:=Unit) (α:=Unit) (fun z2 x1=>[]) (fun z2 x1=>[]) (fun e=>e=r) h (fun e h=>Option.some.inj h) (fun K hR h=>?_) (fun z2 x1 h=>?_)
 ·
  refine sr (mq ?_);refine ol jt ?_;refine fg rfl ?_;refine nt (al (aD (fun z4 y3=>[(0,Ri a0),(1,I a1),(2,I a2),(9,Ri a0),(10,I (a0.length:Int)),(11,I y3)]) (fun z4 y3=>[]) (cX k a0 a1 a2) k () 0 (fun _=>rfl) h (SE.fin [] ⟨rfl,rfl,rfl,rfl,rfl,rfl,trivial⟩ rfl) (fun n z4 y3 h=>?_)));unfold cX at h;refine sr (jb (ba rfl) ?_);refine nt (aj (ci h (fun h=>?_) (fun h=>?_)))
  ·refine sk (aj (al (sr (mq ?_))));obtain⟨x5,F,h⟩:=aa h;refine jb (aC (t:=(.int .i64)) rfl jt cj F) ?_;refine ja (ao (t:=(.int .i64)) rfl cj rfl) ?_;refine aq ?_;refine aq (nt (aj ?_));refine ay (Z:=Unit) (α:=Bool) (fun z7 x6=>[(0,Ri a0),(1,I a1),(2,I a2),(7,I y3),(8,I x5),(9,Ri a0),(10,I (a0.length:Int)),(11,I y3),(24,.eq (.bool x6))]) (fun z7 x6=>[]) h (fun K h=>?_) (fun z7 x6 h=>?_)
   ·refine ah ?_;iterate 2 refine mq ?_
    obtain⟨x8,E,h⟩:=aa h;refine jb (g7 rfl E) ?_;obtain⟨r9,J,h⟩:=aa h;refine jc (ak [.tmp 16,.const (.int .i64 (0)),.tmp 18] rfl rfl xd rfl (dk k x5 0 x8 r9 J)) ?_;refine mq ?_;refine aM (s:=20) rfl (fun hb=>?_) (fun hb=>?_)
    ·replace h:=bY (uc hb) h;iterate 3 refine gn ?_
     refine pt (nl ?_);exact jz ((),true) h []
    ·replace h:=bj (ud hb) h;refine gm ?_;refine gm ?_;refine gb (cM rfl) ?_;refine pf (nl ?_);exact jz ((),decide (x5=a2)) h []
   ·refine cv h (fun h=>?_) (fun h=>?_)
    ·refine sr (cq (nt (rx (br (aV (aR ?_))))));obtain rfl:=hR _ h;exact ra
    ·refine sk (ay (Z:=Unit) (α:=Bool) (fun j c=>[(0,Ri a0),(1,I a1),(2,I a2),(9,Ri a0),(10,I (a0.length:Int)),(11,I y3),(35,.eq (.bool c))]) (fun j c=>[]) h (fun K h=>?_) (fun j c h=>?_))
     ·refine ah (mq ?_);refine jb (ik rfl) ?_;refine mq ?_;refine aM (s:=27) rfl (fun hb=>?_) (fun hb=>?_)
      ·replace h:=bY (oQ hb) h;refine gm ?_;refine gm ?_;refine gm ?_;obtain⟨M,x,h⟩:=aa h;refine gb (g7 rfl x) ?_;obtain⟨D,u,h⟩:=aa h;refine gb (aC (t:=(.int .i64)) rfl jt cj u) ?_;refine ga (ao (t:=(.int .i64)) rfl cj rfl) ?_;refine gb (qj rfl) ?_;refine pt (nl ?_);exact jz ((),decide (x5≤D)) h []
      ·replace h:=bj (oR hb) h;iterate 7 refine gn ?_
       refine pf (nl ?_);exact jz ((),false) h []
     ·refine cv h (fun h=>?_) (fun h=>?_)
      ·refine sr (cq (nt (aG (br (aV (aR ?_))))));obtain rfl:=hR _ h;exact ra
      ·refine aU (aO (tn (ah ?_)));obtain⟨y,l,h⟩:=aa h;refine jb (bh rfl l) ?_;refine mq (nl ?_);exact jz ((),y) h []
  ·refine xa ?_;exact jz ((),()) h []
 ·
  refine sr (cq (nt (aG ?_)));cases h;exact ra
def ce(k:Nat)(a0:ae):Nat→Int→Option (Except Int Unit)
 |0,_=>none
 |n+1,y5=>
  if y5 < (a0.1.length:Int) then((aL a0.1 y5).bind fun x7=>
  (cK k x7.1 (a0.1.length:Int) y5).bind fun r9=>
  if¬(r9=0) then(some (.error r9)) else((((bD k x7.2.1 1 4).bind fun r=>
  if r=true then(some true) else((bD k x7.2.2.1 1 4).bind fun l=>
  some l)):Option (Bool)).bind fun e=>
  if e=true then(some (.error 1)) else((bD k x7.2.2.2.1 0 2).bind fun j=>
  if j=true then(some (.error 8)) else((bD k x7.2.2.2.2 0 30).bind fun h=>
  if h=true then(some (.error 1)) else((ck (y5+1)).bind fun c=>
  ce k a0 n c))))) else(some (.ok ()))
def cz(k:Nat)(e:(List Int)×Int)(j:bp):Nat→((List Int)×Int)→Option (List Int)
 |0,_=>none
 |n+1,c=>
  if c.2 < (j.1.length:Int) then((aL j.1 c.2).bind fun h=>
  (cF (0≤e.2∧e.2 < 4)).bind fun _=>
  (aL c.1 e.2).bind fun s=>
  (cF (0≤h∧h < 4)).bind fun _=>
  (aL c.1 h).bind fun r=>
  (eK k [h]).bind fun u=>
  (cF (0≤e.2∧e.2 < 4)).bind fun _=>
  (ck (c.2+1)).bind fun l=>
  cz k e j n (List.set c.1 (Int.toNat e.2) (nF .u8 s (nF .u8 r u)),l)) else(some c.1)
def cC(k:Nat)(a0:ae):Nat→((List Int)×Int)→Option (List Int)
 |0,_=>none
 |n+1,c=>
  if c.2 < (a0.1.length:Int) then((((aL a0.1 c.2).bind fun h=>
  cz k c h k (c.1,0)):Option ((List Int))).bind fun j=>
  (ck (c.2+1)).bind fun e=>
  cC k a0 n (j,e)) else(some c.1)
def cd(k:Nat)(a0:ae):Nat→((List Int)×Int)→Option (List Int)
 |0,_=>none
 |n+1,c=>
  if c.2 < (a0.1.length:Int) then(((cC k a0 k (c.1,0)):Option ((List Int))).bind fun h=>
  (ck (c.2+1)).bind fun e=>
  cd k a0 n (h,e)) else(some c.1)
def bq(k:Nat)(a0:ae)(e:(List Int)):Nat→Int→Option (Except Int Unit)
 |0,_=>none
 |n+1,c=>
  if c < (a0.1.length:Int) then((cF (0≤c∧c < 4)).bind fun _=>
  (aL e c).bind fun j=>
  (fF k j c).bind fun l=>
  if l=true then(some (.error 9)) else((ck (c+1)).bind fun h=>
  bq k a0 e n h)) else(some (.ok ()))
def f7(k:Nat)(a0:ae):Option Int:=
 (iw k (a0.1.length:Int) 4).bind fun r2=>
 if¬(r2=0) then(some r2) else(bE (α:=Unit) (ce k a0 k 0) (some) fun _=>
 ((cd k a0 k ([0,0,0,0],0)):Option ((List Int))).bind fun c=>
 bE (α:=Unit) (bq k a0 c k 0) (some) fun _=>
 some 0)
theorem sF(k:Nat)(a0:ae)(r:Int)(h:f7 k a0=some r):
 bQ Tryz.prog 77 [.rep ag a0] [] (fun _:Unit=>(bG [I r],[])):=by
 unfold f7 at h
 replace h:=bi h
 refine bQ.of 103 Tryz.func77 rfl Tryz.ntmps77 rfl fun S w0=>?_
 refine sr ?_
 refine bx fun b1=>?_
 refine cq ?_
 refine nt ?_
 refine aj ?_
 refine sr ?_
 refine fl bu ?_
 refine lo dM ?_
 refine ol kU ?_
 obtain⟨r2,Rj,h⟩:=aa h
 have Rk:=pA k (a0.1.length:Int) 4 r2 Rj
 refine jb (ak [.tmp 15,.const (.int .i64 (4))] rfl rfl M9 rfl Rk) ?_
 refine aq ?_
 refine nt ?_
 refine sr ?_
 refine mq ?_
 refine jb (bT rfl) ?_
 refine nt ?_
 refine cn h (fun h=>?_) (fun h=>?_)
 ·
  refine sr (mq ?_);refine aq (nt (rx ?_));cases h;exact ra
 ·
  refine sk (cE (Z:=Unit) (α:=Unit) (fun z4 x3=>[(1,Pt b1)]) (fun z4 x3=>[.obj b1 26 (.rep ag a0)]) (fun e=>e=r) h (fun e h=>Option.some.inj h) (fun K hR h=>?_) (fun z4 x3 h=>?_))
  ·refine sr (fl bu ?_);refine lo dM ?_;refine ol kU ?_;refine fg rfl ?_;refine nt (al (aD (fun z6 y5=>[(1,Pt b1),(21,Rs aJ a0.1),(22,I (a0.1.length:Int)),(23,I y5)]) (fun z6 y5=>[.obj b1 26 (.rep ag a0)]) (ce k a0) k () 0 (fun _=>rfl) h (SE.fin [0] ⟨rfl,rfl,rfl,rfl,trivial⟩ rfl) (fun n z6 y5 h=>?_)));unfold ce at h;refine sr (jb (ba rfl) ?_);refine nt (aj (ci h (fun h=>?_) (fun h=>?_)))
   ·refine sk (aj (al (sr (mq ?_))));obtain⟨x7,Rf,h⟩:=aa h;refine jb (aC (t:=aJ) rfl kU eY Rf) ?_;refine ja (ao (t:=aJ) rfl eY rfl) ?_;refine aA rfl rfl rfl (aF rfl pU vB) trivial fun b8=>?_;refine aq ?_;refine aK rfl rfl (aE rfl eY rfl rfl rfl) ⟨rfl,rfl,trivial⟩ ?_;refine nt (aj (sr (fl iq ?_)));refine lo bR ?_;refine fl bu ?_;refine fr 1 ?_;refine lo dM ?_;refine ol kU ?_;refine mq ?_;obtain⟨r9,Rh,h⟩:=aa h;refine jc (ak [.tmp 29,.tmp 32,.tmp 33] rfl rfl KR rfl (jN k x7.1 (a0.1.length:Int) y5 r9 Rh)) ?_;refine aq (nt (sr ?_));refine mq ?_;refine jb (bT rfl) ?_;refine nt (cn h (fun h=>?_) (fun h=>?_))
    ·refine sr (mq ?_);refine aq (nt (rx (br (aV (aR ?_)))));obtain rfl:=hR _ h;exact ra
    ·refine sk (al (ay (Z:=Unit) (α:=Bool) (fun QE X=>[(1,Pt b1),(5,Pt b8),(21,Rs aJ a0.1),(22,I (a0.1.length:Int)),(23,I y5),(38,.eq (.bool X))]) (fun QE X=>[.obj b1 26 (.rep ag a0),.obj b8 45 (.rep aJ x7)]) h (fun K h=>?_) (fun QE X h=>?_)))
     ·refine ah (fl uN ?_);refine fr 1 ?_;refine lo cj ?_;obtain⟨Re,QZ,h⟩:=aa h;refine jc (ak [.tmp 40,.const (.int .i64 (1)),.const (.int .i64 (4))] rfl rfl xd rfl (dk k x7.2.1 1 4 Re QZ)) ?_;refine mq ?_;refine aM (s:=42) rfl (fun hb=>?_) (fun hb=>?_)
      ·replace h:=bY (uc hb) h;iterate 3 refine gn ?_
       refine pt ?_;refine aq (nl ?_);exact jz ((),true) h [1,0]
      ·replace h:=bj (ud hb) h;refine ga (am rfl uM) ?_;refine bO rfl rfl rfl rfl rfl rfl (ai rfl cj dF rfl) ⟨rfl,trivial⟩ ?_;obtain⟨QH,QY,h⟩:=aa h;refine gc (ak [.tmp 44,.const (.int .i64 (1)),.const (.int .i64 (4))] rfl rfl xd rfl (dk k x7.2.2.1 1 4 QH QY)) ?_;refine pf ?_;refine aq (nl ?_);exact jz ((),QH) h [1,0]
     ·refine cv h (fun h=>?_) (fun h=>?_)
      ·refine sr (cq (nt (aG (aV (br (aV (aR ?_)))))));obtain rfl:=hR _ h;exact ra
      ·refine sr (fl sx ?_);refine fr 1 ?_;refine lo cj ?_;obtain⟨Rb,QX,h⟩:=aa h;refine jc (ak [.tmp 49,.const (.int .i64 (0)),.const (.int .i64 (2))] rfl rfl xd rfl (dk k x7.2.2.2.1 0 2 Rb QX)) ?_;refine aq (nt ?_);refine cv h (fun h=>?_) (fun h=>?_)
       ·refine sr (cq (nt (aG (aV (br (aV (aR ?_)))))));obtain rfl:=hR _ h;exact ra
       ·refine sr (fl wW ?_);refine lo cj ?_;obtain⟨Q9,QW,h⟩:=aa h;refine jc (ak [.tmp 53,.const (.int .i64 (0)),.const (.int .i64 (30))] rfl rfl xd rfl (dk k x7.2.2.2.2 0 30 Q9 QW)) ?_;refine aq (nt ?_);refine cv h (fun h=>?_) (fun h=>?_)
        ·refine sr (cq (nt (aG (aV (br (aV (aR ?_)))))));obtain rfl:=hR _ h;exact ra
        ·refine aU (aO (aO (tn (ah ?_))));obtain⟨Q7,QS,h⟩:=aa h;refine jb (bh rfl QS) ?_;refine mq (nl ?_);exact jz ((),Q7) h [1]
   ·refine xa ?_;exact jz ((),()) h [0]
  ·refine sr (aA rfl rfl rfl (aF rfl NP OB) trivial fun c=>?_);refine nt (ay (Z:=Unit) (α:=(List Int)) (fun QD D=>[(1,Pt b1),(7,Pt c)]) (fun QD D=>[.obj b1 26 (.rep ag a0),.obj c 160 (.rep (.arr 4 (.int .u8)) D)]) h (fun K h=>?_) (fun QD D h=>?_))
   ·refine sr (fl bu ?_);refine fr 1 ?_;refine lo dM ?_;refine ol kU ?_;refine fg rfl ?_;refine nt (al (aD (fun QC l=>[(1,Pt b1),(7,Pt c),(58,I (a0.1.length:Int)),(59,I l.2)]) (fun QC l=>[.obj b1 26 (.rep ag a0),.obj c 160 (.rep (.arr 4 (.int .u8)) l.1)]) (cd k a0) k () ([0,0,0,0],0) (fun _=>rfl) h (SE.fin [0,1] ⟨rfl,rfl,rfl,rfl,trivial⟩ rfl) (fun n QC l h=>?_)));unfold cd at h;refine sr (jb (ba rfl) ?_);refine nt (aj (ci h (fun h=>?_) (fun h=>?_)))
    ·refine sk (ay (Z:=Unit) (α:=(List Int)) (fun QB F=>[(1,Pt b1),(7,Pt c),(58,I (a0.1.length:Int)),(59,I l.2)]) (fun QB F=>[.obj b1 26 (.rep ag a0),.obj c 160 (.rep (.arr 4 (.int .u8)) F)]) h (fun K h=>?_) (fun QB F h=>?_))
     ·refine al (sr (fl bu ?_));refine lo dM ?_;refine ol kU ?_;refine fg rfl ?_;refine nt (al (aD (fun QA j=>[(1,Pt b1),(7,Pt c),(58,I (a0.1.length:Int)),(59,I l.2),(62,Rs aJ a0.1),(63,I (a0.1.length:Int)),(64,I j.2)]) (fun QA j=>[.obj b1 26 (.rep ag a0),.obj c 160 (.rep (.arr 4 (.int .u8)) j.1)]) (cC k a0) k () (l.1,0) (fun _=>rfl) h (SE.fin [0,1] ⟨rfl,rfl,rfl,rfl,rfl,rfl,rfl,trivial⟩ rfl) (fun n QA j h=>?_)));unfold cC at h;refine sr (jb (ba rfl) ?_);refine nt (aj (ci h (fun h=>?_) (fun h=>?_)))
      ·refine sk (ay (Z:=Unit) (α:=(List Int)) (fun se E=>[(1,Pt b1),(7,Pt c),(58,I (a0.1.length:Int)),(59,I l.2),(62,Rs aJ a0.1),(63,I (a0.1.length:Int)),(64,I j.2)]) (fun se E=>[.obj b1 26 (.rep ag a0),.obj c 160 (.rep (.arr 4 (.int .u8)) E)]) h (fun K h=>?_) (fun se E h=>?_))
       ·refine al (sr (mq ?_));obtain⟨U,QR,h⟩:=aa h;refine jb (aC (t:=aJ) rfl kU eY QR) ?_;refine ja (ao (t:=aJ) rfl eY rfl) ?_;refine aA rfl rfl rfl (aF rfl pU vB) trivial fun Rq=>?_;refine aq ?_;refine aK rfl rfl (aE rfl eY rfl rfl rfl) ⟨rfl,rfl,trivial⟩ ?_;refine nt (sr (fl iq ?_));refine lo bR ?_;refine ol jt ?_;refine fg rfl ?_;refine nt (al (aD (fun mc x=>[(1,Pt b1),(7,Pt c),(8,I j.2),(58,I (a0.1.length:Int)),(59,I l.2),(62,Rs aJ a0.1),(63,I (a0.1.length:Int)),(64,I j.2),(70,Ri U.1),(71,I (U.1.length:Int)),(72,I x.2)]) (fun mc x=>[.obj b1 26 (.rep ag a0),.obj c 160 (.rep (.arr 4 (.int .u8)) x.1)]) (cz k j U) k () (j.1,0) (fun _=>rfl) h (SE.fin [1,2] ⟨rfl,rfl,rfl,rfl,rfl,rfl,rfl,rfl,rfl,rfl,rfl,trivial⟩ rfl) (fun n mc x h=>?_)));unfold cz at h;refine sr (jb (ba rfl) ?_);refine nt (aj (ci h (fun h=>?_) (fun h=>?_)))
        ·refine sk (aj (al (sr ?_)));obtain⟨Q,QQ,h⟩:=aa h;refine jb (aC (t:=(.int .i64)) rfl jt cj QQ) ?_;refine ja (ao (t:=(.int .i64)) rfl cj rfl) ?_;refine aq (nt ?_);refine a6 ?_;refine dm ?_;obtain⟨Ro,O,h⟩:=aa h;refine db (cL rfl Lh pS (av O).1 (av O).2) ?_;obtain⟨Q6,QP,h⟩:=aa h;refine ea 1 (fN (t:=(.int .u8)) (off:=0) (i:=j.2) (N:=4) rfl pS (fun _=>rfl) rfl rfl rfl rfl QP) ?_;refine dm ?_;obtain⟨Rn,M,h⟩:=aa h;refine db (cL rfl Lh pS (av M).1 (av M).2) ?_;obtain⟨Q5,QO,h⟩:=aa h;refine ea 1 (fN (t:=(.int .u8)) (off:=0) (i:=Q) (N:=4) rfl pS (fun _=>rfl) rfl rfl rfl rfl QO) ?_;refine dm ?_;refine da (bv (t:=(.int .i64)) [(.tmp 82,_)] [Q] rfl rfl eo (.cons rfl .int .nil) rfl rfl) ?_;obtain⟨QG,QU,h⟩:=aa h;refine da (ak [.tmp 83] rfl rfl uP rfl (fJ k [Q] QG QU)) ?_;refine db (xU rfl) ?_;refine df bw ?_;refine jb (xU rfl) ?_;obtain⟨Rm,u,h⟩:=aa h;refine jb (cL rfl Lh pS (av u).1 (av u).2) ?_;refine fr 1 ?_;refine aK rfl rfl (kH (t:=(.int .u8)) (off:=0) (i:=j.2) (N:=4) rfl pS .int rfl rfl rfl rfl (av u).1 (av u).2 rfl) ⟨rfl,rfl,trivial⟩ ?_;refine aT (aO (tn (ah ?_)));obtain⟨Q4,QN,h⟩:=aa h;refine jb (bh rfl QN) ?_;refine mq (nl ?_);exact jz ((),(List.set x.1 (Int.toNat j.2) (nF .u8 Q6 (nF .u8 Q5 QG)),Q4)) h [1,0]
        ·refine eD (bf (bf (cg (bn ?_))));exact jz ((),x.1) h [0,1]
       ·refine ah ?_;obtain⟨Q3,QM,h⟩:=aa h;refine jb (bh rfl QM) ?_;refine mq (nl ?_);exact jz ((),(E,Q3)) h [0,1]
      ·refine eD (bf (bf (cg (bn ?_))));exact jz ((),j.1) h [0,1]
     ·refine ah ?_;obtain⟨Q2,QL,h⟩:=aa h;refine jb (bh rfl QL) ?_;refine mq (nl ?_);exact jz ((),(F,Q2)) h [0,1]
    ·refine xa ?_;exact jz ((),l.1) h [0,1]
   ·refine cE (Z:=Unit) (α:=Unit) (fun ac QF=>[]) (fun ac QF=>[]) (fun e=>e=r) h (fun e h=>Option.some.inj h) (fun K hR h=>?_) (fun ac QF h=>?_)
    ·refine sr (fl bu ?_);refine lo dM ?_;refine ol kU ?_;refine fg rfl ?_;refine nt (al (aD (fun Y y=>[(7,Pt c),(93,I (a0.1.length:Int)),(94,I y)]) (fun Y y=>[.obj c 160 (.rep (.arr 4 (.int .u8)) D)]) (bq k a0 D) k () 0 (fun _=>rfl) h (SE.fin [1] ⟨rfl,rfl,rfl,trivial⟩ rfl) (fun n Y y h=>?_)));unfold bq at h;refine sr (jb (ba rfl) ?_);refine nt (aj (ci h (fun h=>?_) (fun h=>?_)))
     ·refine sk (aj (al (sr (mq ?_))));refine aq (nt (sr ?_));refine mq ?_;obtain⟨Rl,J,h⟩:=aa h;refine jb (cL rfl Lh pS (av J).1 (av J).2) ?_;obtain⟨Q1,QK,h⟩:=aa h;refine ka (fN (t:=(.int .u8)) (off:=0) (i:=y) (N:=4) rfl pS (fun _=>rfl) rfl rfl rfl rfl QK) ?_;refine mq ?_;obtain⟨Q8,QT,h⟩:=aa h;refine jb (ak [.tmp 99,.tmp 100] rfl rfl FQ rfl (ix k Q1 y Q8 QT)) ?_;refine nt (cv h (fun h=>?_) (fun h=>?_))
      ·refine sr (cq (nt (aG (br (aV (aR ?_))))));obtain rfl:=hR _ h;exact ra
      ·refine aU (aO (tn (ah ?_)));obtain⟨Q0,QJ,h⟩:=aa h;refine jb (bh rfl QJ) ?_;refine mq (nl ?_);exact jz ((),Q0) h [0]
     ·refine xa ?_;exact jz ((),()) h []
    ·refine sr (cq (nt (aG ?_)));cases h;exact ra
def eO(k:Nat)(a0:ae):Nat→Int→Option (Except Int Unit)
 |0,_=>none
 |n+1,y6=>
  if y6 < (a0.2.1.length:Int) then((aL a0.2.1 y6).bind fun x8=>
  (cK k x8.1 (a0.1.length:Int) (-1:Int)).bind fun c=>
  if¬(c=0) then(some (.error c)) else((bD k x8.2.1 0 2).bind fun j=>
  if j=true then(some (.error 8)) else((bD k x8.2.2 0 9).bind fun h=>
  if h=true then(some (.error 1)) else((ck (y6+1)).bind fun e=>
  eO k a0 n e)))) else(some (.ok ()))
def jQ(k:Nat)(a0:ae):Option Int:=
 (f7 k a0).bind fun r2=>
 if¬(r2=0) then(some r2) else((iw k (a0.2.1.length:Int) 3).bind fun r3=>
 if¬(r3=0) then(some r3) else(bE (α:=Unit) (eO k a0 k 0) (some) fun _=>
 (cK k a0.2.2.1 (a0.1.length:Int) (-1:Int)).bind fun c=>
 if¬(c=0) then(some c) else((cK k a0.2.2.2 (a0.1.length:Int) (-1:Int)).bind fun e=>
 some e)))
theorem zX(k:Nat)(a0:ae)(r:Int)(h:jQ k a0=some r):
 bQ Tryz.prog 57 [.rep ag a0] [] (fun _:Unit=>(bG [I r],[])):=by
 unfold jQ at h
 replace h:=bi h
 refine bQ.of 59 Tryz.func57 rfl Tryz.ntmps57 rfl fun S w0=>?_
 refine sr ?_
 refine bx fun b1=>?_
 refine cq ?_
 refine nt ?_
 refine aj ?_
 refine sr ?_
 refine lo bL ?_
 obtain⟨r2,U,h⟩:=aa h
 have X:=sF k a0 r2 U
 refine ja (ak [.tmp 9] rfl rfl Py rfl X) ?_
 refine aq ?_
 refine nt ?_
 refine sr ?_
 refine mq ?_
 refine jb (bT rfl) ?_
 refine nt ?_
 refine cn h (fun h=>?_) (fun h=>?_)
 ·
  refine sr (mq ?_);refine aq (nt (rx ?_));cases h;exact ra
 ·
  refine sk (aj (sr (fl bA ?_)));refine lo eu ?_;refine ol l8 ?_;obtain⟨r3,Q,h⟩:=aa h;refine jb (ak [.tmp 16,.const (.int .i64 (3))] rfl rfl M9 rfl (pA k (a0.2.1.length:Int) 3 r3 Q)) ?_;refine aq (nt (sr ?_));refine mq ?_;refine jb (bT rfl) ?_;refine nt (cn h (fun h=>?_) (fun h=>?_))
  ·refine sr (mq ?_);refine aq (nt (rx ?_));cases h;exact ra
  ·refine sk (cE (Z:=Unit) (α:=Unit) (fun z5 x4=>[(1,Pt b1)]) (fun z5 x4=>[.obj b1 26 (.rep ag a0)]) (fun e=>e=r) h (fun e h=>Option.some.inj h) (fun K hR h=>?_) (fun z5 x4 h=>?_))
   ·refine sr (fl bA ?_);refine lo eu ?_;refine ol l8 ?_;refine fg rfl ?_;refine nt (al (aD (fun z7 y6=>[(1,Pt b1),(22,Rs aw a0.2.1),(23,I (a0.2.1.length:Int)),(24,I y6)]) (fun z7 y6=>[.obj b1 26 (.rep ag a0)]) (eO k a0) k () 0 (fun _=>rfl) h (SE.fin [0] ⟨rfl,rfl,rfl,rfl,trivial⟩ rfl) (fun n z7 y6 h=>?_)));unfold eO at h;refine sr (jb (ba rfl) ?_);refine nt (aj (ci h (fun h=>?_) (fun h=>?_)))
    ·refine sk (aj (al (sr ?_)));obtain⟨x8,O,h⟩:=aa h;refine jb (aC (t:=aw) rfl l8 eI O) ?_;refine ja (ao (t:=aw) rfl eI rfl) ?_;refine aA rfl rfl rfl (aF rfl rS xz) trivial fun b9=>?_;refine aK rfl rfl (aE rfl eI rfl rfl rfl) ⟨rfl,rfl,trivial⟩ ?_;refine nt (aj (sr (fl eU ?_)));refine lo bR ?_;refine fl bu ?_;refine fr 1 ?_;refine lo dM ?_;refine ol kU ?_;obtain⟨M,x,h⟩:=aa h;refine jc (ak [.tmp 29,.tmp 32,.const (.int .i64 (-1))] rfl rfl KR rfl (jN k x8.1 (a0.1.length:Int) (-1:Int) M x)) ?_;refine aq (nt (sr ?_));refine mq ?_;refine jb (bT rfl) ?_;refine nt (cn h (fun h=>?_) (fun h=>?_))
     ·refine sr (mq ?_);refine aq (nt (rx (br (aV (aR ?_)))));obtain rfl:=hR _ h;exact ra
     ·refine sk (aj (sr (fl qA ?_)));refine fr 1 ?_;refine lo cj ?_;obtain⟨J,u,h⟩:=aa h;refine jc (ak [.tmp 38,.const (.int .i64 (0)),.const (.int .i64 (2))] rfl rfl xd rfl (dk k x8.2.1 0 2 J u)) ?_;refine nt (cv h (fun h=>?_) (fun h=>?_))
      ·refine sr (cq (nt (rx (br (aV (aR ?_))))));obtain rfl:=hR _ h;exact ra
      ·refine sk (sr (fl od ?_));refine lo cj ?_;obtain⟨F,s,h⟩:=aa h;refine jc (ak [.tmp 41,.const (.int .i64 (0)),.const (.int .i64 (9))] rfl rfl xd rfl (dk k x8.2.2 0 9 F s)) ?_;refine nt (cv h (fun h=>?_) (fun h=>?_))
       ·refine sr (cq (nt (aG (br (aV (aR ?_))))));obtain rfl:=hR _ h;exact ra
       ·refine aU (aO (tn (ah ?_)));obtain⟨y,c,h⟩:=aa h;refine jb (bh rfl c) ?_;refine mq (nl ?_);exact jz ((),y) h [1]
    ·refine xa ?_;exact jz ((),()) h [0]
   ·refine aj (sr (fl fQ ?_));refine lo bR ?_;refine fl bu ?_;refine lo dM ?_;refine ol kU ?_;obtain⟨E,l,h⟩:=aa h;refine jc (ak [.tmp 45,.tmp 48,.const (.int .i64 (-1))] rfl rfl KR rfl (jN k a0.2.2.1 (a0.1.length:Int) (-1:Int) E l)) ?_;refine aq (nt (sr ?_));refine mq ?_;refine jb (bT rfl) ?_;refine nt (cn h (fun h=>?_) (fun h=>?_))
    ·refine sr (mq ?_);refine aq (nt (rx ?_));cases h;exact ra
    ·refine sk (sr (fl eV ?_));refine lo bR ?_;refine fl bu ?_;refine lo dM ?_;refine ol kU ?_;obtain⟨D,j,h⟩:=aa h;refine jc (ak [.tmp 54,.tmp 57,.const (.int .i64 (-1))] rfl rfl KR rfl (jN k a0.2.2.2 (a0.1.length:Int) (-1:Int) D j)) ?_;refine aq (nt (aG ?_));cases h;exact ra
def fR(k:Nat)(a0:ae)(r2:Int)(r3:Int):Nat→(Int×Int)→Option Int
 |0,_=>none
 |n+1,c=>
  if c.2 < (a0.1.length:Int) then((((aL a0.1 c.2).bind fun h=>
  (fF k c.1 c.2).bind fun r=>
  if r=true then((eK k h.1).bind fun l=>
  some (nF .u8 c.1 (nj .u8 (nj .u8 l r2) r3))) else(some c.1)):Option (Int)).bind fun j=>
  (ck (c.2+1)).bind fun e=>
  fR k a0 r2 r3 n (j,e)) else(some c.1)
def iz(k:Nat)(a0:ae)(r2:Int)(r3:Int):Nat→(Int×Int)→Option Int
 |0,_=>none
 |n+1,y6=>
  if y6.2 < (a0.1.length:Int) then(((fR k a0 r2 r3 k (y6.1,0)):Option (Int)).bind fun x8=>
  (ck (y6.2+1)).bind fun c=>
  iz k a0 r2 r3 n (x8,c)) else(some y6.1)
def mn(k:Nat)(a0:ae):Option Int:=
 (eK k a0.2.2.1).bind fun r2=>
 (eK k a0.2.2.2).bind fun r3=>
 ((iz k a0 r2 r3 k (mf .u8 r2 r3,0)):Option (Int)).bind fun x4=>
 some x4
theorem xm(k:Nat)(a0:ae)(r:Int)(h:mn k a0=some r):
 bQ Tryz.prog 58 [.rep ag a0] [] (fun _:Unit=>(bG [.eq (.int .u8 r)],[])):=by
 unfold mn at h
 replace h:=bi h
 refine bQ.of 45 Tryz.func58 rfl Tryz.ntmps58 rfl fun S w0=>?_
 refine sr ?_
 refine bx fun b1=>?_
 refine cq ?_
 refine nt ?_
 refine aj ?_
 refine a6 ?_
 refine da (am rfl fQ) ?_
 refine ea 0 (ai rfl bR dF rfl) ?_
 obtain⟨r2,U,h⟩:=aa h
 have Y:=fJ k a0.2.2.1 r2 U
 refine da (ak [.tmp 9] rfl rfl uP rfl Y) ?_
 refine da (am rfl eV) ?_
 refine ea 0 (ai rfl bR dF rfl) ?_
 refine df bw ?_
 obtain⟨r3,Q,h⟩:=aa h
 have X:=fJ k a0.2.2.2 r3 Q
 refine ja (ak [.tmp 12] rfl rfl uP rfl X) ?_
 refine aq ?_
 refine aq ?_
 refine nt ?_
 refine sr ?_
 iterate 2 refine mq ?_
 refine jb (Hk rfl) ?_
 refine aq ?_
 refine nt ?_
 refine ay (Z:=Unit) (α:=Int) (fun z5 x4=>[(5,.eq (.int .u8 x4))]) (fun z5 x4=>[]) h (fun K h=>?_) (fun z5 x4 h=>?_)
 ·
  refine sr (fl bu ?_);refine lo dM ?_;refine ol kU ?_;refine fg rfl ?_;refine nt (al (aD (fun z7 y6=>[(1,Pt b1),(3,.eq (.int .u8 r2)),(4,.eq (.int .u8 r3)),(5,.eq (.int .u8 y6.1)),(19,I (a0.1.length:Int)),(20,I y6.2)]) (fun z7 y6=>[.obj b1 26 (.rep ag a0)]) (iz k a0 r2 r3) k () (mf .u8 r2 r3,0) (fun _=>rfl) h (SE.fin [0] ⟨rfl,rfl,rfl,rfl,rfl,rfl,trivial⟩ rfl) (fun n z7 y6 h=>?_)));unfold iz at h;refine sr (jb (ba rfl) ?_);refine nt (aj (ci h (fun h=>?_) (fun h=>?_)))
  ·refine sk (ay (Z:=Unit) (α:=Int) (fun z9 x8=>[(1,Pt b1),(3,.eq (.int .u8 r2)),(4,.eq (.int .u8 r3)),(5,.eq (.int .u8 x8)),(19,I (a0.1.length:Int)),(20,I y6.2)]) (fun z9 x8=>[.obj b1 26 (.rep ag a0)]) h (fun K h=>?_) (fun z9 x8 h=>?_))
   ·refine al (sr (fl bu ?_));refine lo dM ?_;refine ol kU ?_;refine fg rfl ?_;refine nt (al (aD (fun l c=>[(1,Pt b1),(3,.eq (.int .u8 r2)),(4,.eq (.int .u8 r3)),(5,.eq (.int .u8 c.1)),(19,I (a0.1.length:Int)),(20,I y6.2),(23,Rs aJ a0.1),(24,I (a0.1.length:Int)),(25,I c.2)]) (fun l c=>[.obj b1 26 (.rep ag a0)]) (fR k a0 r2 r3) k () (y6.1,0) (fun _=>rfl) h (SE.fin [0] ⟨rfl,rfl,rfl,rfl,rfl,rfl,rfl,rfl,rfl,trivial⟩ rfl) (fun n l c h=>?_)));unfold fR at h;refine sr (jb (ba rfl) ?_);refine nt (aj (ci h (fun h=>?_) (fun h=>?_)))
    ·refine sk (ay (Z:=Unit) (α:=Int) (fun j e=>[(1,Pt b1),(3,.eq (.int .u8 r2)),(4,.eq (.int .u8 r3)),(5,.eq (.int .u8 e)),(19,I (a0.1.length:Int)),(20,I y6.2),(23,Rs aJ a0.1),(24,I (a0.1.length:Int)),(25,I c.2)]) (fun j e=>[.obj b1 26 (.rep ag a0)]) h (fun K h=>?_) (fun j e h=>?_))
     ·refine al (sr (mq ?_));obtain⟨M,y,h⟩:=aa h;refine jb (aC (t:=aJ) rfl kU eY y) ?_;refine ja (ao (t:=aJ) rfl eY rfl) ?_;refine aA rfl rfl rfl (aF rfl pU vB) trivial fun ac=>?_;refine aq ?_;refine aK rfl rfl (aE rfl eY rfl rfl rfl) ⟨rfl,rfl,trivial⟩ ?_;refine nt (sr ?_);iterate 2 refine mq ?_
      obtain⟨O,E,h⟩:=aa h;refine jb (ak [.tmp 30,.tmp 31] rfl rfl FQ rfl (ix k c.1 c.2 O E)) ?_;refine nt (cv h (fun h=>?_) (fun h=>?_))
      ·refine ah (mq ?_);refine fl iq ?_;refine lo bR ?_;obtain⟨s,D,h⟩:=aa h;refine ja (ak [.tmp 35] rfl rfl uP rfl (fJ k M.1 s D)) ?_;refine mq ?_;refine jb (AU rfl) ?_;refine mq ?_;refine jb (AU rfl) ?_;refine jb (xU rfl) ?_;refine aq (aT (bn ?_));exact jz ((),nF .u8 c.1 (nj .u8 (nj .u8 s r2) r3)) h [1]
      ·refine aU (bn ?_);exact jz ((),c.1) h [1]
     ·refine ah ?_;obtain⟨J,x,h⟩:=aa h;refine jb (bh rfl x) ?_;refine mq (nl ?_);exact jz ((),(e,J)) h [0]
    ·refine eD (bf (bf (cg (bn ?_))));exact jz ((),c.1) h [0]
   ·refine ah ?_;obtain⟨F,u,h⟩:=aa h;refine jb (bh rfl u) ?_;refine mq (nl ?_);exact jz ((),(x8,F)) h [0]
  ·refine xa ?_;exact jz ((),y6.1) h []
 ·
  refine sr (mq ?_);refine aq (nt (aG ?_));cases h;exact ra
def c8(k:Nat)(a0:Int)(a1:Int)(a2:(ae×(List (Bool×Int))×(List Int))):Option (ae×(List (Bool×Int))×(List Int)):=
 ((if 0≤a0 then(some (decide (0≤a1))) else(some false)):Option (Bool)).bind fun x1=>
 if x1=true then((cF (0≤a1∧a1 < 8)).bind fun _=>
 (aL a2.2.2 a1).bind fun x4=>
 (eK k [a0]).bind fun r5=>
 (cF (0≤a1∧a1 < 8)).bind fun _=>
 some ((a2.1.1,a2.1.2.1,a2.1.2.2.1,a2.1.2.2.2),a2.2.1,List.set a2.2.2 (Int.toNat a1) (nF .u8 x4 r5))) else(some ((a2.1.1,a2.1.2.1,a2.1.2.2.1,a2.1.2.2.2),a2.2.1,a2.2.2))
theorem eW(k:Nat)(a0:Int)(a1:Int)(a2:(ae×(List (Bool×Int))×(List Int)))(c:Nat)(j:Value)(e:Nat)(r:(ae×(List (Bool×Int))×(List Int)))(h:c8 k a0 a1 a2=some r):
 bQ Tryz.prog 79 [I a0,I a1,Pt e] [.obj c 80 (Qq a2 (.eq j)),.obj e 65 (Pt c)] (fun _:Unit=>(bG [],[.obj c 80 (Qq r (.eq j)),.obj e 65 (Pt c)])):=by
 unfold c8 at h
 replace h:=bi h
 refine bQ.of 24 Tryz.func79 rfl Tryz.ntmps79 rfl fun S w0=>?_
 refine ay (Z:=Unit) (α:=Bool) (fun z2 x1=>[(0,I a0),(1,I a1),(2,Pt e),(10,.eq (.bool x1))]) (fun z2 x1=>[.obj e 65 (Pt c),.obj c 80 (Qq a2 (.eq j))]) h (fun K h=>?_) (fun z2 x1 h=>?_)
 ·
  refine ah (mq ?_);refine jb (mE rfl) ?_;refine mq ?_;refine aM (s:=7) rfl (fun hb=>?_) (fun hb=>?_)
  ·replace h:=bY (oQ hb) h;refine gm ?_;refine gb (mE rfl) ?_;refine pt (nl ?_);exact jz ((),decide (0≤a1)) h [1,0]
  ·replace h:=bj (oR hb) h;iterate 2 refine gn ?_
   refine pf (nl ?_);exact jz ((),false) h [1,0]
 ·
  refine cv h (fun h=>?_) (fun h=>?_)
  ·refine a6 ?_;refine ea 0 (ai rfl ie dF rfl) ?_;refine dm ?_;refine da (aN rfl) ?_;refine da (am rfl uK) ?_;obtain⟨u3,n,h⟩:=aa h;refine db (cL rfl OG pS (av n).1 (av n).2) ?_;obtain⟨x4,u,h⟩:=aa h;refine ea 1 (fN (t:=(.int .u8)) (off:=5) (i:=a1) (N:=8) rfl pS (fun _=>rfl) rfl rfl rfl rfl u) ?_;refine dm ?_;refine da (bv (t:=(.int .i64)) [(.tmp 17,_)] [a0] rfl rfl eo (.cons rfl .int .nil) rfl rfl) ?_;obtain⟨r5,x,h⟩:=aa h;refine da (ak [.tmp 18] rfl rfl uP rfl (fJ k [a0] r5 x)) ?_;refine db (xU rfl) ?_;refine da (aN rfl) ?_;refine da (am rfl uK) ?_;refine df bw ?_;obtain⟨u6,l,h⟩:=aa h;refine jb (cL rfl OG pS (av l).1 (av l).2) ?_;refine fr 1 ?_;refine aK rfl rfl (kH (t:=(.int .u8)) (off:=5) (i:=a1) (N:=8) rfl pS .int rfl rfl rfl rfl (av l).1 (av l).2 rfl) ⟨rfl,rfl,trivial⟩ ?_;refine aT (mp ?_);cases h;exact aZ () [] 2 trivial rfl
  ·refine aU (mp ?_);refine bC (SE.fin (Γ':=[]) [1,0] trivial rfl) ?_;cases h;exact aZ () [] 2 trivial rfl
def cV(k:Nat)(a0:Int):Option Int:=
 some a0
theorem dt(k:Nat)(a0:Int)(r:Int)(h:cV k a0=some r):
 bQ Tryz.prog 127 [I a0] [] (fun _:Unit=>(bG [I r],[])):=by
 unfold cV at h
 replace h:=bi h
 refine bQ.of 4 Tryz.func127 rfl Tryz.ntmps127 rfl fun S w0=>?_
 refine sr ?_
 refine cq ?_
 refine nt ?_
 refine sr ?_
 refine mq ?_
 refine aq ?_
 refine nt ?_
 refine aG ?_
 cases h
 exact ra
def dr(k:Nat)(a0:Int):Option Int:=
 some a0
theorem dJ(k:Nat)(a0:Int)(r:Int)(h:dr k a0=some r):
 bQ Tryz.prog 128 [I a0] [] (fun _:Unit=>(bG [I r],[])):=by
 unfold dr at h
 replace h:=bi h
 refine bQ.of 4 Tryz.func128 rfl Tryz.ntmps128 rfl fun S w0=>?_
 refine sr ?_
 refine cq ?_
 refine nt ?_
 refine sr ?_
 refine mq ?_
 refine aq ?_
 refine nt ?_
 refine aG ?_
 cases h
 exact ra
def c6(k:Nat)(a0:(ae×(List (Bool×Int))×(List Int)))(a1:Int)(a2:Bool):Nat→Int→Option (Except Int Unit)
 |0,_=>none
 |n+1,y3=>
  if y3 < (a0.2.1.length:Int) then(bE (α:=Unit) ((aL a0.2.1 y3).bind fun x7=>
  if¬(x7.1=true) then(((if¬(a2=true) then((cond x7.1 (dr k x7.2) (cV k x7.2)).bind fun l=>
  some (decide (l=a1))) else(some false)):Option (Bool)).bind fun x8=>
  if x8=true then(some (.error y3)) else(some (.ok ()))) else(if x7.1=true then(((if a2=true then((cond x7.1 (dr k x7.2) (cV k x7.2)).bind fun j=>
  some (decide (j=a1))) else(some false)):Option (Bool)).bind fun h=>
  if h=true then(some (.error y3)) else(some (.ok ()))) else(some (.ok ())))) (fun e=>some (.error e)) fun _=>
  (ck (y3+1)).bind fun c=>
  c6 k a0 a1 a2 n c) else(some (.ok ()))
def bz(k:Nat)(a0:(ae×(List (Bool×Int))×(List Int)))(a1:Int)(a2:Bool):Option Int:=
 bE (α:=Unit) (c6 k a0 a1 a2 k 0) (some) fun _=>
 some (-1:Int)
theorem co(k:Nat)(a0:(ae×(List (Bool×Int))×(List Int)))(c:Nat)(j:Value)(a1:Int)(a2:Bool)(r:Int)(h:bz k a0 a1 a2=some r):
 bQ Tryz.prog 80 [Pt c,I a1,.eq (.bool a2)] [.obj c 80 (Qq a0 (.eq j))] (fun _:Unit=>(bG [I r],[.obj c 80 (Qq a0 (.eq j))])):=by
 unfold bz at h
 replace h:=bi h
 refine bQ.of 44 Tryz.func80 rfl Tryz.ntmps80 rfl fun S w0=>?_
 refine sr ?_
 refine cq ?_
 refine nt ?_
 refine cE (Z:=Unit) (α:=Unit) (fun z2 x1=>[]) (fun z2 x1=>[.obj c 80 (Qq a0 (.eq j))]) (fun e=>e=r) h (fun e h=>Option.some.inj h) (fun K hR h=>?_) (fun z2 x1 h=>?_)
 ·
  refine sr (mq ?_);refine ja (aN rfl) ?_;refine fl jX ?_;refine lo rF ?_;refine ol Gi ?_;refine fg rfl ?_;refine nt (al (aD (fun z4 y3=>[(1,I a1),(2,.eq (.bool a2)),(12,.rep (.slice (.tag 104 115)) a0.2.1),(13,I (a0.2.1.length:Int)),(14,I y3)]) (fun z4 y3=>[.obj c 80 (Qq a0 (.eq j))]) (c6 k a0 a1 a2) k () 0 (fun _=>rfl) h (SE.fin [0] ⟨rfl,rfl,rfl,rfl,rfl,trivial⟩ rfl) (fun n z4 y3 h=>?_)));unfold c6 at h;refine sr (jb (ba rfl) ?_);refine nt (aj (ci h (fun h=>?_) (fun h=>?_)))
  ·refine sk (cE (Z:=Unit) (α:=Unit) (fun z6 x5=>[(1,I a1),(2,.eq (.bool a2)),(12,.rep (.slice (.tag 104 115)) a0.2.1),(13,I (a0.2.1.length:Int)),(14,I y3)]) (fun z6 x5=>[.obj c 80 (Qq a0 (.eq j))]) (fun e=>e=r) h (fun e h=>hR e h) (fun K hR h=>?_) (fun z6 x5 h=>?_))
   ·refine al (sr (mq ?_));obtain⟨x7,M,h⟩:=aa h;refine jb (aC (t:=(.tag 104 115)) rfl Gi pM M) ?_;refine ja (ao (t:=(.tag 104 115)) rfl pM rfl) ?_;refine aq ?_;refine aq (nt (sr ?_));refine mq (nt (al (sr ?_)));refine dx rfl (LN rfl LJ (by decide)) ⟨rfl,trivial⟩ ?_;refine xr ?_;refine xr ?_;refine nt (cw h (fun h=>?_) (fun h=>?_))
    ·refine ay (Z:=Unit) (α:=Bool) (fun z9 x8=>[(1,I a1),(2,.eq (.bool a2)),(7,I y3),(12,.rep (.slice (.tag 104 115)) a0.2.1),(13,I (a0.2.1.length:Int)),(14,I y3),(30,.eq (.bool x8))]) (fun z9 x8=>[.obj c 80 (Qq a0 (.eq j))]) h (fun K h=>?_) (fun z9 x8 h=>?_)
     ·refine ah (mq ?_);refine ja (eE rfl) ?_;refine mq ?_;refine aM (s:=25) rfl (fun hb=>?_) (fun hb=>?_)
      ·replace h:=bY (uu hb) h;refine gm ?_;obtain⟨D,u,h⟩:=aa h;refine mz rfl rfl rfl rfl rfl rfl (lb rfl rfl gw gr (lu (fun hb=>dt k x7.2 D (by simpa [hb] using u)) (fun hb=>dJ k x7.2 D (by simpa [hb] using u)))) ⟨rfl,trivial⟩ ?_;refine gm ?_;refine gb (cM rfl) ?_;refine pt (nl ?_);exact jz ((),decide (D=a1)) h [0]
      ·replace h:=bj (ox hb) h;iterate 4 refine gn ?_
       refine pf (nl ?_);exact jz ((),false) h [0]
     ·refine cv h (fun h=>?_) (fun h=>?_)
      ·refine sr (mq ?_);refine aq (nt (aG (aV (br (aV (aR ?_))))));obtain rfl:=hR _ h;exact aZ () [_] 1 ⟨rfl,trivial⟩ rfl
      ·refine aU (aO (bn ?_));exact jz ((),()) h [0]
    ·refine sr (dx rfl (Hm rfl GL (by decide)) ⟨rfl,trivial⟩ ?_);refine xr ?_;refine xr ?_;refine nt (cv h (fun h=>?_) (fun h=>?_))
     ·refine ay (Z:=Unit) (α:=Bool) (fun E x=>[(1,I a1),(2,.eq (.bool a2)),(7,I y3),(12,.rep (.slice (.tag 104 115)) a0.2.1),(13,I (a0.2.1.length:Int)),(14,I y3),(41,.eq (.bool x))]) (fun E x=>[.obj c 80 (Qq a0 (.eq j))]) h (fun K h=>?_) (fun E x h=>?_)
      ·refine ah ?_;iterate 2 refine mq ?_
       refine aM (s:=36) rfl (fun hb=>?_) (fun hb=>?_)
       ·replace h:=bY (uc hb) h;refine gm ?_;obtain⟨y,l,h⟩:=aa h;refine mz rfl rfl rfl rfl rfl rfl (lb rfl rfl gw gr (lu (fun hb=>dt k x7.2 y (by simpa [hb] using l)) (fun hb=>dJ k x7.2 y (by simpa [hb] using l)))) ⟨rfl,trivial⟩ ?_;refine gm ?_;refine gb (cM rfl) ?_;refine pt (nl ?_);exact jz ((),decide (y=a1)) h [0]
       ·replace h:=bj (ud hb) h;iterate 4 refine gn ?_
        refine pf (nl ?_);exact jz ((),false) h [0]
      ·refine cv h (fun h=>?_) (fun h=>?_)
       ·refine sr (mq ?_);refine aq (nt (aG (aV (br (aV (aR ?_))))));obtain rfl:=hR _ h;exact aZ () [_] 1 ⟨rfl,trivial⟩ rfl
       ·refine aU (aO (bn ?_));exact jz ((),()) h [0]
     ·refine aU (aO (bn ?_));exact jz ((),()) h [0]
   ·refine ah ?_;obtain⟨J,F,h⟩:=aa h;refine jb (bh rfl F) ?_;refine mq (nl ?_);exact jz ((),J) h [0]
  ·refine xa ?_;exact jz ((),()) h [0]
 ·
  refine sr (cq (nt (aG ?_)));cases h;exact aZ () [_] 1 ⟨rfl,trivial⟩ rfl
def dR(k:Nat)(y2:(List bp)×(List ax)×(List Int)×(List Int)×(List (Bool×Int))×(List Int)×Int)(x6:bp):Nat→((List bp)×(List ax)×(List Int)×(List Int)×(List (Bool×Int))×(List Int)×Int)→Option ((List bp)×(List ax)×(List Int)×(List Int)×(List (Bool×Int))×(List Int))
 |0,_=>none
 |n+1,c=>
  if c.2.2.2.2.2.2 < (x6.1.length:Int) then((aL x6.1 c.2.2.2.2.2.2).bind fun r=>
  (bz k ((c.1,c.2.1,c.2.2.1,c.2.2.2.1),c.2.2.2.2.1,c.2.2.2.2.2.1) r false).bind fun J=>
  (bz k ((c.1,c.2.1,c.2.2.1,c.2.2.2.1),c.2.2.2.2.1,c.2.2.2.2.2.1) y2.2.2.2.2.2.2 false).bind fun I=>
  (c8 k J I ((c.1,c.2.1,c.2.2.1,c.2.2.2.1),c.2.2.2.2.1,c.2.2.2.2.2.1)).bind fun j=>
  (bz k ((j.1.1,j.1.2.1,j.1.2.2.1,j.1.2.2.2),j.2.1,j.2.2) r false).bind fun F=>
  (bz k ((j.1.1,j.1.2.1,j.1.2.2.1,j.1.2.2.2),j.2.1,j.2.2) y2.2.2.2.2.2.2 true).bind fun E=>
  (c8 k F E ((j.1.1,j.1.2.1,j.1.2.2.1,j.1.2.2.2),j.2.1,j.2.2)).bind fun h=>
  (bz k ((h.1.1,h.1.2.1,h.1.2.2.1,h.1.2.2.2),h.2.1,h.2.2) y2.2.2.2.2.2.2 false).bind fun D=>
  (bz k ((h.1.1,h.1.2.1,h.1.2.2.1,h.1.2.2.2),h.2.1,h.2.2) r true).bind fun y=>
  (c8 k D y ((h.1.1,h.1.2.1,h.1.2.2.1,h.1.2.2.2),h.2.1,h.2.2)).bind fun e=>
  (bz k ((e.1.1,e.1.2.1,e.1.2.2.1,e.1.2.2.2),e.2.1,e.2.2) y2.2.2.2.2.2.2 true).bind fun x=>
  (bz k ((e.1.1,e.1.2.1,e.1.2.2.1,e.1.2.2.2),e.2.1,e.2.2) r true).bind fun u=>
  (c8 k x u ((e.1.1,e.1.2.1,e.1.2.2.1,e.1.2.2.2),e.2.1,e.2.2)).bind fun l=>
  (ck (c.2.2.2.2.2.2+1)).bind fun s=>
  dR k y2 x6 n (l.1.1,l.1.2.1,l.1.2.2.1,l.1.2.2.2,l.2.1,l.2.2,s)) else(some (c.1,c.2.1,c.2.2.1,c.2.2.2.1,c.2.2.2.2.1,c.2.2.2.2.2.1))
def eJ(k:Nat)(a0:(ae×(List (Bool×Int))×(List Int))):Nat→((List bp)×(List ax)×(List Int)×(List Int)×(List (Bool×Int))×(List Int)×Int)→Option (ae×(List (Bool×Int))×(List Int))
 |0,_=>none
 |n+1,y2=>
  if y2.2.2.2.2.2.2 < (a0.1.1.length:Int) then((((aL a0.1.1 y2.2.2.2.2.2.2).bind fun x6=>
  (bz k ((y2.1,y2.2.1,y2.2.2.1,y2.2.2.2.1),y2.2.2.2.2.1,y2.2.2.2.2.2.1) y2.2.2.2.2.2.2 false).bind fun r8=>
  (bz k ((y2.1,y2.2.1,y2.2.2.1,y2.2.2.2.1),y2.2.2.2.2.1,y2.2.2.2.2.2.1) y2.2.2.2.2.2.2 true).bind fun r9=>
  (c8 k r8 r9 ((y2.1,y2.2.1,y2.2.2.1,y2.2.2.2.1),y2.2.2.2.2.1,y2.2.2.2.2.2.1)).bind fun c=>
  dR k y2 x6 k (c.1.1,c.1.2.1,c.1.2.2.1,c.1.2.2.2,c.2.1,c.2.2,0)):Option ((List bp)×(List ax)×(List Int)×(List Int)×(List (Bool×Int))×(List Int))).bind fun x4=>
  (ck (y2.2.2.2.2.2.2+1)).bind fun e=>
  eJ k a0 n (x4.1,x4.2.1,x4.2.2.1,x4.2.2.2.1,x4.2.2.2.2.1,x4.2.2.2.2.2,e)) else(some ((y2.1,y2.2.1,y2.2.2.1,y2.2.2.2.1),y2.2.2.2.2.1,y2.2.2.2.2.2.1))
def f5(k:Nat)(a0:(ae×(List (Bool×Int))×(List Int))):Option (ae×(List (Bool×Int))×(List Int)):=
 eJ k a0 k (a0.1.1,a0.1.2.1,a0.1.2.2.1,a0.1.2.2.2,a0.2.1,a0.2.2,0)
theorem sE(k:Nat)(a0:(ae×(List (Bool×Int))×(List Int)))(c:Nat)(j:Value)(r:(ae×(List (Bool×Int))×(List Int)))(h:f5 k a0=some r):
 bQ Tryz.prog 59 [Pt c] [.obj c 80 (Qq a0 (.eq j))] (fun _:Unit=>(bG [],[.obj c 80 (Qq r (.eq j))])):=by
 unfold f5 at h
 replace h:=bi h
 refine bQ.of 68 Tryz.func59 rfl Tryz.ntmps59 rfl fun S w0=>?_
 refine sr ?_
 refine bx fun b1=>?_
 refine nt ?_
 refine sr ?_
 refine ja (jU [] [.tmp 1] [] [(Pv b1)] rfl rfl rfl) ?_
 refine aq ?_
 refine nt ?_
 refine sr ?_
 refine lo ie ?_
 refine ja (aN rfl) ?_
 refine fl eT ?_
 refine fl bu ?_
 refine fr 1 ?_
 refine lo dM ?_
 refine ol kU ?_
 refine fg rfl ?_
 refine nt ?_
 refine al ?_
 refine aD (fun z3 y2=>[(1,Pt b1),(2,.eq (.func (.func 79) #[] #[(Pv b1)])),(12,Rs aJ a0.1.1),(13,I (a0.1.1.length:Int)),(14,I y2.2.2.2.2.2.2)]) (fun z3 y2=>[.obj b1 65 (Pt c),.obj c 80 (.agg (.pair (.agg (.pair (Rs aJ y2.1) (.pair (Rs aw y2.2.1) (.pair (Ri y2.2.2.1) (Ri y2.2.2.2.1))))) (.pair (.rep (.slice (.tag 104 115)) y2.2.2.2.2.1) (.pair (.rep (.arr 8 (.int .u8)) y2.2.2.2.2.2.1) (.eq j)))))]) (eJ k a0) k () (a0.1.1,a0.1.2.1,a0.1.2.2.1,a0.1.2.2.2,a0.2.1,a0.2.2,0) (fun _=>rfl) h (SE.fin [1,0] ⟨rfl,rfl,rfl,rfl,rfl,trivial⟩ rfl) (fun n z3 y2 h=>?_)
 unfold eJ at h
 refine sr ?_
 refine jb (ba rfl) ?_
 refine nt ?_
 refine aj ?_
 refine ci h (fun h=>?_) (fun h=>?_)
 ·
  refine sk (ay (Z:=Unit) (α:=(List bp)×(List ax)×(List Int)×(List Int)×(List (Bool×Int))×(List Int)) (fun z5 x4=>[(1,Pt b1),(2,.eq (.func (.func 79) #[] #[(Pv b1)])),(12,Rs aJ a0.1.1),(13,I (a0.1.1.length:Int)),(14,I y2.2.2.2.2.2.2)]) (fun z5 x4=>[.obj b1 65 (Pt c),.obj c 80 (.agg (.pair (.agg (.pair (Rs aJ x4.1) (.pair (Rs aw x4.2.1) (.pair (Ri x4.2.2.1) (Ri x4.2.2.2.1))))) (.pair (.rep (.slice (.tag 104 115)) x4.2.2.2.2.1) (.pair (.rep (.arr 8 (.int .u8)) x4.2.2.2.2.2) (.eq j)))))]) h (fun K h=>?_) (fun z5 x4 h=>?_))
  ·refine al (sr (mq ?_));obtain⟨x6,QS,h⟩:=aa h;refine jb (aC (t:=aJ) rfl kU eY QS) ?_;refine ja (ao (t:=aJ) rfl eY rfl) ?_;refine aA rfl rfl rfl (aF rfl pU vB) trivial fun b7=>?_;refine aq ?_;refine aK rfl rfl (aE rfl eY rfl rfl rfl) ⟨rfl,rfl,trivial⟩ ?_;refine nt (aj (a6 ?_));refine dm ?_;refine ea 1 (ai rfl ie dF rfl) ?_;refine dm ?_;obtain⟨r8,QU,h⟩:=aa h;refine ec 2 (ak [.tmp 20,.tmp 21,.const (.bool false)] rfl rfl yf rfl (co k ((y2.1,y2.2.1,y2.2.2.1,y2.2.2.2.1),y2.2.2.2.2.1,y2.2.2.2.2.2.1) c j y2.2.2.2.2.2.2 false r8 QU)) ?_;refine ea 1 (ai rfl ie dF rfl) ?_;refine dm ?_;obtain⟨r9,QT,h⟩:=aa h;refine ec 2 (ak [.tmp 23,.tmp 24,.const (.bool true)] rfl rfl yf rfl (co k ((y2.1,y2.2.1,y2.2.2.1,y2.2.2.2.1),y2.2.2.2.2.1,y2.2.2.2.2.2.1) c j y2.2.2.2.2.2.2 true r9 QT)) ?_;refine df bw ?_;obtain⟨y,QO,h⟩:=aa h;refine fr 1 ?_;refine fr 2 ?_;refine be (Δ:=[_,_]) (F:=_) (fun _ _ _=>az rfl _) rfl rfl (q7 (fs:=[]) (cs:=[(Pv b1)]) (ags:=[I r8,I r9]) [.tmp 22,.tmp 25] rfl rfl Ip rfl (eW k r8 r9 ((y2.1,y2.2.1,y2.2.2.1,y2.2.2.2.1),y2.2.2.2.2.1,y2.2.2.2.2.2.1) c j b1 y QO)) ⟨rfl,rfl,rfl,trivial⟩ fun _=>?_;refine nt (sr (fl iq ?_));refine fr 2 ?_;refine lo bR ?_;refine ol jt ?_;refine fg rfl ?_;refine nt (al (aD (fun ac e=>[(1,Pt b1),(2,.eq (.func (.func 79) #[] #[(Pv b1)])),(3,I y2.2.2.2.2.2.2),(12,Rs aJ a0.1.1),(13,I (a0.1.1.length:Int)),(14,I y2.2.2.2.2.2.2),(28,Ri x6.1),(29,I (x6.1.length:Int)),(30,I e.2.2.2.2.2.2)]) (fun ac e=>[.obj b1 65 (Pt c),.obj c 80 (.agg (.pair (.agg (.pair (Rs aJ e.1) (.pair (Rs aw e.2.1) (.pair (Ri e.2.2.1) (Ri e.2.2.2.1))))) (.pair (.rep (.slice (.tag 104 115)) e.2.2.2.2.1) (.pair (.rep (.arr 8 (.int .u8)) e.2.2.2.2.2.1) (.eq j)))))]) (dR k y2 x6) k () (y.1.1,y.1.2.1,y.1.2.2.1,y.1.2.2.2,y.2.1,y.2.2,0) (fun _=>rfl) h (SE.fin [2,1] ⟨rfl,rfl,rfl,rfl,rfl,rfl,rfl,rfl,rfl,trivial⟩ rfl) (fun n ac e h=>?_)));unfold dR at h;refine sr (jb (ba rfl) ?_);refine nt (aj (ci h (fun h=>?_) (fun h=>?_)))
   ·refine sk (aj (al (sr ?_)));obtain⟨D,QA,h⟩:=aa h;refine jb (aC (t:=(.int .i64)) rfl jt cj QA) ?_;refine ja (ao (t:=(.int .i64)) rfl cj rfl) ?_;refine aq (nt (aj ?_));refine a6 ?_;refine dm ?_;refine ea 0 (ai rfl ie dF rfl) ?_;refine dm ?_;obtain⟨Y,QN,h⟩:=aa h;refine ec 1 (ak [.tmp 35,.tmp 36,.const (.bool false)] rfl rfl yf rfl (co k ((e.1,e.2.1,e.2.2.1,e.2.2.2.1),e.2.2.2.2.1,e.2.2.2.2.2.1) c j D false Y QN)) ?_;refine ea 0 (ai rfl ie dF rfl) ?_;refine dm ?_;obtain⟨X,QM,h⟩:=aa h;refine ec 1 (ak [.tmp 38,.tmp 39,.const (.bool false)] rfl rfl yf rfl (co k ((e.1,e.2.1,e.2.2.1,e.2.2.2.1),e.2.2.2.2.1,e.2.2.2.2.2.1) c j y2.2.2.2.2.2.2 false X QM)) ?_;refine df bw ?_;obtain⟨u,QL,h⟩:=aa h;refine fr 1 ?_;refine be (Δ:=[_,_]) (F:=_) (fun _ _ _=>az rfl _) rfl rfl (q7 (fs:=[]) (cs:=[(Pv b1)]) (ags:=[I Y,I X]) [.tmp 37,.tmp 40] rfl rfl Ip rfl (eW k Y X ((e.1,e.2.1,e.2.2.1,e.2.2.2.1),e.2.2.2.2.1,e.2.2.2.2.2.1) c j b1 u QL)) ⟨rfl,rfl,rfl,trivial⟩ fun _=>?_;refine nt (aj (a6 ?_));refine dm ?_;refine ea 1 (ai rfl ie dF rfl) ?_;refine dm ?_;obtain⟨U,QK,h⟩:=aa h;refine ec 0 (ak [.tmp 43,.tmp 44,.const (.bool false)] rfl rfl yf rfl (co k ((u.1.1,u.1.2.1,u.1.2.2.1,u.1.2.2.2),u.2.1,u.2.2) c j D false U QK)) ?_;refine ea 1 (ai rfl ie dF rfl) ?_;refine dm ?_;obtain⟨Q,QJ,h⟩:=aa h;refine ec 0 (ak [.tmp 46,.tmp 47,.const (.bool true)] rfl rfl yf rfl (co k ((u.1.1,u.1.2.1,u.1.2.2.1,u.1.2.2.2),u.2.1,u.2.2) c j y2.2.2.2.2.2.2 true Q QJ)) ?_;refine df bw ?_;obtain⟨s,QH,h⟩:=aa h;refine fr 1 ?_;refine fr 1 ?_;refine be (Δ:=[_,_]) (F:=_) (fun _ _ _=>az rfl _) rfl rfl (q7 (fs:=[]) (cs:=[(Pv b1)]) (ags:=[I U,I Q]) [.tmp 45,.tmp 48] rfl rfl Ip rfl (eW k U Q ((u.1.1,u.1.2.1,u.1.2.2.1,u.1.2.2.2),u.2.1,u.2.2) c j b1 s QH)) ⟨rfl,rfl,rfl,trivial⟩ fun _=>?_;refine nt (aj (a6 ?_));refine dm ?_;refine ea 1 (ai rfl ie dF rfl) ?_;refine dm ?_;obtain⟨O,QG,h⟩:=aa h;refine ec 0 (ak [.tmp 51,.tmp 52,.const (.bool false)] rfl rfl yf rfl (co k ((s.1.1,s.1.2.1,s.1.2.2.1,s.1.2.2.2),s.2.1,s.2.2) c j y2.2.2.2.2.2.2 false O QG)) ?_;refine ea 1 (ai rfl ie dF rfl) ?_;refine dm ?_;obtain⟨M,QF,h⟩:=aa h;refine ec 0 (ak [.tmp 54,.tmp 55,.const (.bool true)] rfl rfl yf rfl (co k ((s.1.1,s.1.2.1,s.1.2.2.1,s.1.2.2.2),s.2.1,s.2.2) c j D true M QF)) ?_;refine df bw ?_;obtain⟨l,QE,h⟩:=aa h;refine fr 1 ?_;refine fr 1 ?_;refine be (Δ:=[_,_]) (F:=_) (fun _ _ _=>az rfl _) rfl rfl (q7 (fs:=[]) (cs:=[(Pv b1)]) (ags:=[I O,I M]) [.tmp 53,.tmp 56] rfl rfl Ip rfl (eW k O M ((s.1.1,s.1.2.1,s.1.2.2.1,s.1.2.2.2),s.2.1,s.2.2) c j b1 l QE)) ⟨rfl,rfl,rfl,trivial⟩ fun _=>?_;refine nt (a6 ?_);refine dm ?_;refine ea 1 (ai rfl ie dF rfl) ?_;refine dm ?_;obtain⟨J,QD,h⟩:=aa h;have QP:=co k ((l.1.1,l.1.2.1,l.1.2.2.1,l.1.2.2.2),l.2.1,l.2.2) c j y2.2.2.2.2.2.2 true J QD
    refine ec 0 (ak [.tmp 59,.tmp 60,.const (.bool true)] rfl rfl yf rfl QP) ?_;refine ea 1 (ai rfl ie dF rfl) ?_;refine dm ?_;obtain⟨E,QC,h⟩:=aa h;refine ec 0 (ak [.tmp 62,.tmp 63,.const (.bool true)] rfl rfl yf rfl (co k ((l.1.1,l.1.2.1,l.1.2.2.1,l.1.2.2.2),l.2.1,l.2.2) c j D true E QC)) ?_;refine df bw ?_;obtain⟨x,QB,h⟩:=aa h;refine fr 1 ?_;refine fr 1 ?_;refine be (Δ:=[_,_]) (F:=_) (fun _ _ _=>az rfl _) rfl rfl (q7 (fs:=[]) (cs:=[(Pv b1)]) (ags:=[I J,I E]) [.tmp 61,.tmp 64] rfl rfl Ip rfl (eW k J E ((l.1.1,l.1.2.1,l.1.2.2.1,l.1.2.2.2),l.2.1,l.2.2) c j b1 x QB)) ⟨rfl,rfl,rfl,trivial⟩ fun _=>?_;refine aT (aO (tn (ah ?_)));obtain⟨QR,se,h⟩:=aa h;refine jb (bh rfl se) ?_;refine mq (nl ?_);exact jz ((),(x.1.1,x.1.2.1,x.1.2.2.1,x.1.2.2.2,x.2.1,x.2.2,QR)) h [1,0]
   ·refine eD (bf (bf (cg (bn ?_))));exact jz ((),(e.1,e.2.1,e.2.2.1,e.2.2.2.1,e.2.2.2.2.1,e.2.2.2.2.2.1)) h [0,1]
  ·refine ah ?_;obtain⟨QQ,mc,h⟩:=aa h;refine jb (bh rfl mc) ?_;refine mq (nl ?_);exact jz ((),(x4.1,x4.2.1,x4.2.2.1,x4.2.2.2.1,x4.2.2.2.2.1,x4.2.2.2.2.2,QQ)) h [0,1]
 ·
  refine eD (bf (bf (cg (mp ?_))));refine bC (SE.fin (Γ':=[]) [1,0] trivial rfl) ?_;cases h;exact aZ () [] 1 trivial rfl
def gB(k:Nat)(r9:(List Int)):Nat→((List (Bool×Int))×Int)→Option (List (Bool×Int))
 |0,_=>none
 |n+1,c=>
  if c.2 < (r9.length:Int) then((aL r9 c.2).bind fun e=>
  (cF (cx (List.length c.1+List.length [(false,e)]))).bind fun _=>
  (ck (c.2+1)).bind fun h=>
  gB k r9 n (c.1++[(false,e)],h)) else(some c.1)
def gA(k:Nat)(e:(List Int)):Nat→((List (Bool×Int))×Int)→Option (List (Bool×Int))
 |0,_=>none
 |n+1,c=>
  if c.2 < (e.length:Int) then((aL e c.2).bind fun h=>
  (cF (cx (List.length c.1+List.length [(true,h)]))).bind fun _=>
  (ck (c.2+1)).bind fun j=>
  gA k e n (c.1++[(true,h)],j)) else(some c.1)
def bM(k:Nat)(a0:ae):Option ((Option (ae×(List (Bool×Int))×(List Int)))×Int):=
 (jQ k a0).bind fun r2=>
 if¬(r2=0) then(some (none,r2)) else((mn k a0).bind fun r5=>
 (((eK k a0.2.2.1).bind fun r8=>
 (eN k (nj .u8 r5 r8)).bind fun r9=>
 gB k r9 k (([]:(List (Bool×Int))),0)):Option ((List (Bool×Int)))).bind fun x6=>
 (((eK k a0.2.2.2).bind fun j=>
 (eN k (nj .u8 r5 j)).bind fun h=>
 gA k h k (x6,0)):Option ((List (Bool×Int)))).bind fun e=>
 if 4 < (e.length:Int) then(some (none,6)) else((f5 k (a0,e,[0,0,0,0,0,0,0,0])).bind fun c=>
 some (some ((c.1.1,c.1.2.1,c.1.2.2.1,c.1.2.2.2),c.2.1,c.2.2),0)))
theorem gz(k:Nat)(a0:ae)(r:(Option (ae×(List (Bool×Int))×(List Int)))×Int)(h:bM k a0=some r):
 bQ Tryz.prog 28 [.rep ag a0] [] (fun z:Nat×Nat=>(bG [N3 r.1 z.1,I r.2],NZ r.1 fun q=>[.obj z.1 80 (Qq q (.eq (.map (some z.2)))),.raw z.2 (.map #[] 0)])):=by
 unfold bM at h
 replace h:=bi h
 refine bQ.of 77 Tryz.func28 rfl Tryz.ntmps28 rfl fun S w0=>?_
 refine sr ?_
 refine bx fun b1=>?_
 refine cq ?_
 refine cq ?_
 refine nt ?_
 refine aj ?_
 refine sr ?_
 refine lo bL ?_
 obtain⟨r2,QG,h⟩:=aa h
 have QH:=zX k a0 r2 QG
 refine ja (ak [.tmp 11] rfl rfl PP rfl QH) ?_
 refine aq ?_
 refine nt ?_
 refine sr ?_
 refine mq ?_
 refine jb (bT rfl) ?_
 refine nt ?_
 refine cn h (fun h=>?_) (fun h=>?_)
 ·
  refine sr (mq ?_);refine cq ?_;refine aq (nt (rx ?_));cases h;exact aZ (0,0) [.eq (.pointer none),_] 0 ⟨rfl,rfl,trivial⟩ rfl
 ·
  refine sk (sr (lo bL ?_));refine aA rfl rfl rfl (yx rfl) trivial fun z3=>?_;refine jb (cR [(0,.tmp 16,_),(3,.tmp 17,_)] rfl NX NK LV (iF ⟨rfl,rfl,trivial⟩) rfl) ?_;refine aA rfl rfl rfl (D8 rfl trivial) ⟨rfl,trivial⟩ fun b4=>?_;refine aq (nt (sr ?_));refine fr 2 ?_;refine lo bL ?_;obtain⟨r5,QF,h⟩:=aa h;refine ja (ak [.tmp 20] rfl rfl PO rfl (xm k a0 r5 QF)) ?_;refine aq (nt ?_);refine ay (Z:=Value) (α:=(List (Bool×Int))) (fun z7 x6=>[(1,Pt b1),(5,Pt b4),(6,.eq (.int .u8 r5))]) (fun z7 x6=>[.obj b1 26 (.rep ag a0),.obj b4 80 (.agg (.pair (.rep ag a0) (.pair (.eq z7) (.pair (.rep (.arr 8 (.int .u8)) [0,0,0,0,0,0,0,0]) (.eq (.map (some z3))))))),.sl z7 103 (.tag 104 115) x6,.raw z3 (.map #[] 0)]) h (fun K h=>?_) (fun z7 x6 h=>?_)
  ·refine sr (mq ?_);refine fl fQ ?_;refine lo bR ?_;obtain⟨r8,QE,h⟩:=aa h;refine ja (ak [.tmp 24] rfl rfl uP rfl (fJ k a0.2.2.1 r8 QE)) ?_;refine jb (AU rfl) ?_;obtain⟨r9,QD,h⟩:=aa h;refine ja (ak [.tmp 26] rfl rfl Ir rfl (iY k (nj .u8 r5 r8) r9 QD)) ?_;refine ol jt ?_;refine fg rfl ?_;refine nt (al (eL (SE.nil 103 (.tag 104 115)) ?_));refine aD (fun s e=>[(1,Pt b1),(5,Pt b4),(6,.eq (.int .u8 r5)),(27,Ri r9),(28,I (r9.length:Int)),(29,I e.2)]) (fun s e=>[.obj b1 26 (.rep ag a0),.obj b4 80 (.agg (.pair (.rep ag a0) (.pair (.eq s) (.pair (.rep (.arr 8 (.int .u8)) [0,0,0,0,0,0,0,0]) (.eq (.map (some z3))))))),.sl s 103 (.tag 104 115) e.1,.raw z3 (.map #[] 0)]) (gB k r9) k (.slice none 0 0) (([]:(List (Bool×Int))),0) (fun _=>rfl) h (SE.fin [1,2,0,3] ⟨rfl,rfl,rfl,rfl,rfl,rfl,trivial⟩ rfl) (fun n s e h=>?_);unfold gB at h;refine sr (jb (ba rfl) ?_);refine nt (aj (ci h (fun h=>?_) (fun h=>?_)))
   ·refine sk (aj (al (sr ?_)));obtain⟨D,O,h⟩:=aa h;refine jb (aC (t:=(.int .i64)) rfl jt cj O) ?_;refine ja (ao (t:=(.int .i64)) rfl cj rfl) ?_;refine aq (nt (ah ?_));iterate 2 refine mq ?_
    refine ja (aN rfl) ?_;refine fl jX ?_;refine fr 1 ?_;refine lo rF ?_;refine mq ?_;refine ja (mH rfl Qe) ?_;refine ja (bv (t:=(.tag 104 115)) [(.tmp 39,_)] [(false,D)] rfl rfl JF (.cons rfl .tag0 .nil) rfl rfl) ?_;obtain⟨QK,U,h⟩:=aa h;refine fr 2 ?_;refine dE rfl rfl rfl (bI rfl rfl JF (av U)) ⟨rfl,rfl,trivial⟩ fun QB=>?_;refine ja (aN rfl) ?_;refine fl jX ?_;refine fV fun o15=>?_;refine fr 1 ?_;refine aK rfl rfl (aE rfl rF o15 rfl rfl) ⟨rfl,rfl,trivial⟩ ?_;refine aT (aO (tn (ah ?_)));obtain⟨se,M,h⟩:=aa h;refine jb (bh rfl M) ?_;refine mq (nl ?_);exact jz (QB,(e.1++[(false,D)],se)) h [2,0,1,3]
   ·refine xa ?_;exact jz (s,e.1) h [0,1,2,3]
  ·refine ay (Z:=Value) (α:=(List (Bool×Int))) (fun u j=>[(5,Pt b4)]) (fun u j=>[.obj b4 80 (.agg (.pair (.rep ag a0) (.pair (.eq u) (.pair (.rep (.arr 8 (.int .u8)) [0,0,0,0,0,0,0,0]) (.eq (.map (some z3))))))),.sl u 103 (.tag 104 115) j,.raw z3 (.map #[] 0)]) h (fun K h=>?_) (fun u j h=>?_)
   ·refine sr (mq ?_);refine fl eV ?_;refine lo bR ?_;obtain⟨E,ac,h⟩:=aa h;refine ja (ak [.tmp 47] rfl rfl uP rfl (fJ k a0.2.2.2 E ac)) ?_;refine jb (AU rfl) ?_;obtain⟨x,Y,h⟩:=aa h;refine ja (ak [.tmp 49] rfl rfl Ir rfl (iY k (nj .u8 r5 E) x Y)) ?_;refine ol jt ?_;refine fg rfl ?_;refine nt (al (aD (fun l c=>[(5,Pt b4),(50,Ri x),(51,I (x.length:Int)),(52,I c.2)]) (fun l c=>[.obj b4 80 (.agg (.pair (.rep ag a0) (.pair (.eq l) (.pair (.rep (.arr 8 (.int .u8)) [0,0,0,0,0,0,0,0]) (.eq (.map (some z3))))))),.sl l 103 (.tag 104 115) c.1,.raw z3 (.map #[] 0)]) (gA k x) k z7 (x6,0) (fun _=>rfl) h (SE.fin [1,2,3] ⟨rfl,rfl,rfl,rfl,trivial⟩ rfl) (fun n l c h=>?_)));unfold gA at h;refine sr (jb (ba rfl) ?_);refine nt (aj (ci h (fun h=>?_) (fun h=>?_)))
    ·refine sk (aj (al (sr ?_)));obtain⟨y,J,h⟩:=aa h;refine jb (aC (t:=(.int .i64)) rfl jt cj J) ?_;refine ja (ao (t:=(.int .i64)) rfl cj rfl) ?_;refine aq (nt (ah ?_));iterate 2 refine mq ?_
     refine ja (aN rfl) ?_;refine fl jX ?_;refine lo rF ?_;refine mq ?_;refine ja (mH rfl Qd) ?_;refine ja (bv (t:=(.tag 104 115)) [(.tmp 62,_)] [(true,y)] rfl rfl JF (.cons rfl .tag1 .nil) rfl rfl) ?_;obtain⟨QJ,Q,h⟩:=aa h;refine fr 1 ?_;refine dE rfl rfl rfl (bI rfl rfl JF (av Q)) ⟨rfl,rfl,trivial⟩ fun QA=>?_;refine ja (aN rfl) ?_;refine fl jX ?_;refine fV fun o26=>?_;refine fr 1 ?_;refine aK rfl rfl (aE rfl rF o26 rfl rfl) ⟨rfl,rfl,trivial⟩ ?_;refine aT (aO (tn (ah ?_)));obtain⟨mc,F,h⟩:=aa h;refine jb (bh rfl F) ?_;refine mq (nl ?_);exact jz (QA,(c.1++[(true,y)],mc)) h [0,1,2]
    ·refine xa ?_;exact jz (l,c.1) h [0,1,2]
   ·refine aj (sr (mq ?_));refine ja (aN rfl) ?_;refine fl jX ?_;refine lo rF ?_;refine fr 1 ?_;refine ka (je rfl rfl Gi) ?_;refine jb (ik rfl) ?_;refine nt (ci h (fun h=>?_) (fun h=>?_))
    ·refine sr (cq ?_);refine cq (nt (rx ?_));cases h;exact aZ (0,0) [.eq (.pointer none),_] 0 ⟨rfl,rfl,trivial⟩ rfl
    ·refine sk (sr (mq ?_));refine fr 1 ?_;refine fr 1 ?_;refine eX (cD (off:=4) [71] ⟨rfl,trivial⟩ rfl rfl) ?_;refine eX (mO (a:=.agg (.pair (.rep ag a0) (.pair (.rep (.slice (.tag 104 115)) j) (.pair (.rep (.arr 8 (.int .u8)) [0,0,0,0,0,0,0,0]) (.eq (.map (some z3))))))) (a':=.agg (.pair (Qc a0) (.pair (.rep (.slice (.tag 104 115)) j) (.pair (.rep (.arr 8 (.int .u8)) [0,0,0,0,0,0,0,0]) (.eq (.map (some z3))))))) (AE.agg (AE.pair (AE.trans LH (AE.agg (AE.trans ua (AE.pair AE.rfl (AE.trans ua (AE.pair AE.rfl ua)))))) AE.rfl))) ?_;obtain⟨QC,X,h⟩:=aa h;refine ka (ak [.tmp 74] rfl rfl PN rfl (sE k (a0,j,[0,0,0,0,0,0,0,0]) b4 (.map (some z3)) QC X)) ?_;refine nt (sr (mq ?_));refine aq ?_;refine cq (nt (aG ?_));cases h;exact aZ (b4,z3) [Pt b4,_] 2 ⟨rfl,rfl,trivial⟩ rfl
def kX(k:Nat)(a0:List ap):Option (List ap):=
 (cF (cx (List.length a0))).bind fun _=>some a0
theorem sX(k:Nat)(a0:List ap)(r:List ap)(h:kX k a0=some r):
 bQ Tryz.prog 62 [Rs aB a0] [] (fun z:Value=>(bG [.eq z],[.sl z 99 aB r])):=by
 unfold kX at h
 replace h:=bi h
 refine bQ.of 8 Tryz.func62 rfl Tryz.ntmps62 rfl fun S w0=>?_
 obtain⟨u1,c,h⟩:=aa h
 cases h
 refine sr ?_
 refine cq ?_
 refine nt ?_
 refine aj ?_
 refine sr ?_
 refine mq ?_
 refine be (Δ:=[]) (F:=_) (fun _ _ _=>az rfl _) rfl rfl (zz rfl rR) ⟨rfl,rfl,trivial⟩ fun b=>?_
 refine nt ?_
 refine ku rfl (fun hb=>?_) (fun hb=>?_)
 ·
  refine sr (cq (nt (rx ?_)));obtain rfl:=b.2 hb;refine bC (SE.nil 99 aB) ?_;exact aZ (.slice none 0 0) [.eq (.slice none 0 0)] 1 ⟨rfl,trivial⟩ rfl
 ·
  refine sk (sr (aA rfl rfl rfl (lO (t:=aB) [] [] rfl rfl zh .nil rfl rfl) trivial fun v1=>?_));refine mq ?_;refine dE rfl rfl rfl (bI rfl rfl zh (by simpa using av c)) ⟨rfl,rfl,trivial⟩ fun v2=>?_;refine aq (nt (aG ?_));exact aZ v2 [.eq v2] 1 ⟨rfl,trivial⟩ rfl
def dS(k:Nat)(a0:(List Int))(a1:Int):Nat→Int→Option (Except Int Unit)
 |0,_=>none
 |n+1,y3=>
  if y3 < (a0.length:Int) then((aL a0 y3).bind fun x5=>
  if a1=x5 then(some (.error y3)) else((ck (y3+1)).bind fun x6=>
  dS k a0 a1 n x6)) else(some (.ok ()))
def lY(k:Nat)(a0:(List Int))(a1:Int):Option Int:=
 bE (α:=Unit) (dS k a0 a1 k 0) (some) fun _=>
 some (-1:Int)
theorem ui(k:Nat)(a0:(List Int))(a1:Int)(r:Int)(h:lY k a0 a1=some r):
 bQ Tryz.prog 71 [Ri a0,I a1] [] (fun _:Unit=>(bG [I r],[])):=by
 unfold lY at h
 replace h:=bi h
 refine bQ.of 19 Tryz.func71 rfl Tryz.ntmps71 rfl fun S w0=>?_
 refine sr ?_
 refine cq ?_
 refine nt ?_
 refine cE (Z:=Unit) (α:=Unit) (fun z2 x1=>[]) (fun z2 x1=>[]) (fun e=>e=r) h (fun e h=>Option.some.inj h) (fun K hR h=>?_) (fun z2 x1 h=>?_)
 ·
  refine sr (mq ?_);refine ol jt ?_;refine fg rfl ?_;refine nt (al (aD (fun z4 y3=>[(0,Ri a0),(1,I a1),(7,I (a0.length:Int)),(8,I y3)]) (fun z4 y3=>[]) (dS k a0 a1) k () 0 (fun _=>rfl) h (SE.fin [] ⟨rfl,rfl,rfl,rfl,trivial⟩ rfl) (fun n z4 y3 h=>?_)));unfold dS at h;refine sr (jb (ba rfl) ?_);refine nt (aj (ci h (fun h=>?_) (fun h=>?_)))
  ·refine sk (aj (al (sr (mq ?_))));refine aq (nt (sr ?_));iterate 3 refine mq ?_
   obtain⟨x5,j,h⟩:=aa h;refine jb (aC (t:=(.int .i64)) rfl jt cj j) ?_;refine ja (ao (t:=(.int .i64)) rfl cj rfl) ?_;refine jb (cM rfl) ?_;refine nt (ci h (fun h=>?_) (fun h=>?_))
   ·refine sr (mq ?_);refine aq (nt (aG (br (aV (aR ?_)))));obtain rfl:=hR _ h;exact ra
   ·refine aU (aO (tn (ah ?_)));obtain⟨x6,c,h⟩:=aa h;refine jb (bh rfl c) ?_;refine mq (nl ?_);exact jz ((),x6) h []
  ·refine xa ?_;exact jz ((),()) h []
 ·
  refine sr (cq (nt (aG ?_)));cases h;exact ra
def fH(k:Nat)(a0:(List Int))(a1:Int):Option Bool:=
 (lY k a0 a1).bind fun r1=>
 some (decide (0≤r1))
theorem mC(k:Nat)(a0:(List Int))(a1:Int)(r:Bool)(h:fH k a0 a1=some r):
 bQ Tryz.prog 43 [Ri a0,I a1] [] (fun _:Unit=>(bG [.eq (.bool r)],[])):=by
 unfold fH at h
 replace h:=bi h
 refine bQ.of 9 Tryz.func43 rfl Tryz.ntmps43 rfl fun S w0=>?_
 refine sr ?_
 refine cq ?_
 refine nt ?_
 refine sr ?_
 iterate 2 refine mq ?_
 obtain⟨r1,c,h⟩:=aa h
 have e:=ui k a0 a1 r1 c
 refine jb (ak [.tmp 5,.tmp 6] rfl rfl PG rfl e) ?_
 refine jb (mE rfl) ?_
 refine aq ?_
 refine nt ?_
 refine aG ?_
 cases h
 exact ra
def jf(k:Nat)(a0:(ae×(List (Bool×Int))×(List Int)))(a1:Int)(a2:(Bool×Int)):Option Bool:=
 (aL a0.1.2.1 a1).bind fun x1=>
 (cond a2.1 (dr k a2.2) (cV k a2.2)).bind fun r2=>
 (aL a0.1.1 r2).bind fun x3=>
 (((cond a2.1 (dr k a2.2) (cV k a2.2)).bind fun r8=>
 (fH k x1.1 r8).bind fun r9=>
 if r9=true then(if x3.2.2.2.1=0 then(some true) else(if x1.2.1=0 then(some true) else(some (decide (x1.2.1=x3.2.2.2.1))))) else(some false)):Option (Bool)).bind fun x6=>
 some x6
theorem oL(k:Nat)(a0:(ae×(List (Bool×Int))×(List Int)))(c:Nat)(e:Value)(a1:Int)(a2:(Bool×Int))(r:Bool)(h:jf k a0 a1 a2=some r):
 bQ Tryz.prog 64 [Pt c,I a1,.rep (.tag 104 115) a2] [.obj c 80 (Qq a0 (.eq e))] (fun _:Unit=>(bG [.eq (.bool r)],[.obj c 80 (Qq a0 (.eq e))])):=by
 unfold jf at h
 replace h:=bi h
 refine bQ.of 48 Tryz.func64 rfl Tryz.ntmps64 rfl fun S w0=>?_
 refine sr ?_
 refine cq ?_
 refine nt ?_
 refine aj ?_
 refine i8 ?_
 refine aP rfl rfl rfl (bg rfl) ⟨rfl,trivial⟩ ?_
 refine aP rfl rfl rfl (aN rfl) ⟨rfl,trivial⟩ ?_
 refine aP rfl rfl rfl (am rfl eT) ⟨rfl,trivial⟩ ?_
 refine aP rfl rfl rfl (am rfl bA) ⟨rfl,trivial⟩ ?_
 refine fy 0 rfl rfl rfl rfl (ai rfl eu dF rfl) ⟨rfl,trivial⟩ ?_
 refine aP rfl rfl rfl (bg rfl) ⟨rfl,trivial⟩ ?_
 obtain⟨x1,QC,h⟩:=aa h
 refine aP rfl rfl rfl (aC (t:=aw) rfl l8 eI QC) ⟨rfl,rfl,trivial⟩ ?_
 refine aP rfl rfl rfl (ao (t:=aw) rfl eI rfl) ⟨rfl,trivial⟩ ?_
 refine aP rfl rfl rfl (bg rfl) ⟨rfl,trivial⟩ ?_
 refine aP rfl rfl rfl (aN rfl) ⟨rfl,trivial⟩ ?_
 refine aP rfl rfl rfl (am rfl eT) ⟨rfl,trivial⟩ ?_
 refine aP rfl rfl rfl (am rfl bu) ⟨rfl,trivial⟩ ?_
 refine fy 0 rfl rfl rfl rfl (ai rfl dM dF rfl) ⟨rfl,trivial⟩ ?_
 refine aP rfl rfl rfl (bg rfl) ⟨rfl,trivial⟩ ?_
 obtain⟨r2,M,h⟩:=aa h
 refine aP rfl rfl rfl (lb rfl rfl gw gr (lu (fun hb=>dt k a2.2 r2 (by simpa [hb] using M)) (fun hb=>dJ k a2.2 r2 (by simpa [hb] using M)))) ⟨rfl,trivial⟩ ?_
 obtain⟨x3,QB,h⟩:=aa h
 refine aP rfl rfl rfl (aC (t:=aJ) rfl kU eY QB) ⟨rfl,rfl,trivial⟩ ?_
 refine aP rfl rfl rfl (ao (t:=aJ) rfl eY rfl) ⟨rfl,trivial⟩ ?_
 refine kx (vr 47 (.agg (.pair (.eq (.slice none 0 0)) (.pair (I 0) (I 0))))) (fun _=>rfl) rfl rfl rfl (aF rfl rS xz) trivial ?_
 refine kx (vr 45 (.agg (.pair (.eq (.slice none 0 0)) (.pair (I 0) (.pair (I 0) (.pair (I 0) (I 0))))))) (fun _=>rfl) rfl rfl rfl (aF rfl pU vB) trivial ?_
 refine mA 19 [true,true,true,true,true,true,true,true,false,false,false,false,false,true,true,false,false,true,true] [] [0] [.obj c 80 (Qq a0 (.eq e))] rfl (by kernel_rfl) (by kernel_rfl) (by kernel_rfl) bw (fun vs hv hB=>?_)
 obtain⟨w0,Q7,rfl,QA⟩:=ar hv
 obtain⟨w1,Q6,rfl,se⟩:=ar QA
 obtain⟨w2,Q5,rfl,mc⟩:=ar se
 obtain⟨w3,Q4,rfl,ac⟩:=ar mc
 obtain⟨w4,Q3,rfl,Y⟩:=ar ac
 obtain⟨w5,Q2,rfl,X⟩:=ar Y
 obtain⟨w6,Q1,rfl,U⟩:=ar X
 obtain⟨w7,Q0,rfl,Q⟩:=ar U
 obtain⟨w8,QZ,rfl,O⟩:=ar Q
 obtain⟨w9,QO,rfl,F⟩:=ar O
 obtain⟨QY,QN,rfl,E⟩:=ar F
 obtain⟨QX,QM,rfl,D⟩:=ar E
 obtain⟨QW,QL,rfl,y⟩:=ar D
 obtain⟨QU,QK,rfl,x⟩:=ar y
 obtain⟨QT,QJ,rfl,u⟩:=ar x
 obtain⟨QS,QH,rfl,s⟩:=ar u
 obtain⟨QR,QG,rfl,n⟩:=ar s
 obtain⟨QQ,QF,rfl,l⟩:=ar n
 obtain⟨QP,QE,rfl,j⟩:=ar l
 obtain rfl:=kp j
 obtain⟨b4,rfl⟩:=nW hB.2.2.2.2.2.2.2.2.2.2.2.2.2.2.2.2.2.1
 obtain⟨b5,rfl⟩:=nW hB.2.2.2.2.2.2.2.2.2.2.2.2.2.2.2.2.2.2.1
 refine⟨[0,1,2],[.obj b4 47 (.agg (.pair (.eq (.slice none 0 0)) (.pair (I 0) (I 0)))),.obj b5 45 (.agg (.pair (.eq (.slice none 0 0)) (.pair (I 0) (.pair (I 0) (.pair (I 0) (I 0))))))],by kernel_rfl,by decide,?_⟩
 refine nw rfl rfl (aE rfl eI rfl rfl rfl) ⟨rfl,rfl,trivial⟩ (by kernel_rfl) ?_
 refine xF (by kernel_rfl) ?_
 refine fr 2 ?_
 refine aK rfl rfl (aE rfl eY rfl rfl rfl) ⟨rfl,rfl,trivial⟩ ?_
 refine nt ?_
 refine ay (Z:=Unit) (α:=Bool) (fun z7 x6=>[(6,.eq (.bool x6))]) (fun z7 x6=>[.obj c 80 (Qq a0 (.eq e))]) h (fun K h=>?_) (fun z7 x6 h=>?_)
 ·
  refine a6 ?_;refine da (am rfl eU) ?_;refine ea 2 (ai rfl bR dF rfl) ?_;refine dm ?_;obtain⟨r8,J,h⟩:=aa h;refine nB rfl rfl rfl (lb rfl rfl gw gr (lu (fun hb=>dt k a2.2 r8 (by simpa [hb] using J)) (fun hb=>dJ k a2.2 r8 (by simpa [hb] using J)))) ⟨rfl,trivial⟩ ?_;obtain⟨r9,QD,h⟩:=aa h;refine db (ak [.tmp 27,.tmp 29] rfl rfl Oj rfl (mC k x1.1 r8 r9 QD)) ?_;refine l9 rfl rfl rfl (bg rfl) ⟨rfl,trivial⟩ (fun hb=>?_) (fun hb=>?_)
  ·replace h:=bY (uc hb) h;refine bm rfl rfl rfl rfl rfl (am rfl sx) ⟨rfl,rfl,trivial⟩ ?_;refine lC 0 rfl rfl rfl rfl rfl rfl (ai rfl cj dF rfl) ⟨rfl,rfl,trivial⟩ ?_;refine bm rfl rfl rfl rfl rfl (cM rfl) ⟨rfl,rfl,rfl,trivial⟩ ?_;refine B0 rfl rfl rfl rfl rfl (bg rfl) ⟨rfl,rfl,trivial⟩ (fun hb=>?_) (fun hb=>?_)
   ·replace h:=bY (oQ hb) h;iterate 3 refine dg ?_
    refine bm rfl rfl rfl rfl rfl (dw rfl) ⟨rfl,rfl,rfl,trivial⟩ ?_;refine bm rfl rfl rfl rfl rfl (bg rfl) ⟨rfl,rfl,trivial⟩ ?_;iterate 4 refine dg ?_
    refine df bw ?_;refine gn ?_;refine gb (dw rfl) ?_;refine pt ?_;refine aq (nl ?_);exact jz ((),true) h [1]
   ·replace h:=bj (oR hb) h;refine bm rfl rfl rfl rfl rfl (am rfl qA) ⟨rfl,rfl,trivial⟩ ?_;refine lC 2 rfl rfl rfl rfl rfl rfl (ai rfl cj dF rfl) ⟨rfl,rfl,trivial⟩ ?_;refine bm rfl rfl rfl rfl rfl (cM rfl) ⟨rfl,rfl,rfl,trivial⟩ ?_;refine bm rfl rfl rfl rfl rfl (dV rfl) ⟨rfl,rfl,rfl,trivial⟩ ?_;refine B0 rfl rfl rfl rfl rfl (bg rfl) ⟨rfl,rfl,trivial⟩ (fun hb=>?_) (fun hb=>?_)
    ·replace h:=bY (oQ hb) h;iterate 4 refine dg ?_
     refine df bw ?_;refine gn ?_;refine gb (dw rfl) ?_;refine pt ?_;refine aq (nl ?_);exact jz ((),true) h [1]
    ·replace h:=bj (oR hb) h;refine bm rfl rfl rfl rfl rfl (am rfl qA) ⟨rfl,rfl,trivial⟩ ?_;refine lC 2 rfl rfl rfl rfl rfl rfl (ai rfl cj dF rfl) ⟨rfl,rfl,trivial⟩ ?_;refine bm rfl rfl rfl rfl rfl (am rfl sx) ⟨rfl,rfl,trivial⟩ ?_;refine lC 0 rfl rfl rfl rfl rfl rfl (ai rfl cj dF rfl) ⟨rfl,rfl,trivial⟩ ?_;refine df bw ?_;refine gb (cM rfl) ?_;refine gb (dV rfl) ?_;refine pt ?_;refine aq (nl ?_);exact jz ((),decide (x1.2.1=x3.2.2.2.1)) h [1]
  ·replace h:=bj (ud hb) h;iterate 4 refine dg ?_
   refine du ?_;refine du ?_;refine du ?_;iterate 2 refine dg ?_
   refine du ?_;refine du ?_;refine du ?_;refine du ?_;refine df bw ?_;refine gu ?_;refine gn ?_;refine pf ?_;refine aq (nl ?_);exact jz ((),false) h [1]
 ·
  refine aG ?_;cases h;exact aZ () [_] 1 ⟨rfl,trivial⟩ rfl
def cP{σ:Type}(k:Nat)(a0:Int)(a2:(ae×(List (Bool×Int))×(List Int)))(self:Int→(List ap)→σ→Option (Bool×(List ap)×σ))(y6:(List ap)×Int×σ)(r:(Bool×Int)):Nat→((List ap)×Int×σ)→Option (Except (Bool×(List ap)×σ) ((List ap)×σ))
 |0,_=>none
 |n+1,c=>
  if c.2.1 < (a2.1.2.1.length:Int) then(bE (α:=(List ap)×σ) ((jf k ((a2.1.1,a2.1.2.1,a2.1.2.2.1,a2.1.2.2.2),a2.2.1,a2.2.2) c.2.1 r).bind fun x=>
  if¬(x=true) then(some (.ok (c.1,c.2.2))) else((cF (cx (List.length c.1+List.length [(y6.2.1,c.2.1)]))).bind fun _=>
  (eK k [y6.2.1]).bind fun u=>
  (self (nF .u8 a0 u) (c.1++[(y6.2.1,c.2.1)]) c.2.2).bind fun h=>
  (ck ((h.2.1.length:Int) - 1)).bind fun j=>
  (cF (0≤j∧j≤(h.2.1.length:Int))).bind fun _=>
  if¬(h.1=true) then(some (.error (false,List.take (Int.toNat j) h.2.1,h.2.2))) else(some (.ok (List.take (Int.toNat j) h.2.1,h.2.2))))) (fun e=>some (.error e)) fun l=>
  (ck (c.2.1+1)).bind fun s=>
  cP k a0 a2 self y6 r n (l.1,s,l.2)) else(some (.ok (c.1,c.2.2)))
def cQ{σ:Type}(k:Nat)(a0:Int)(a2:(ae×(List (Bool×Int))×(List Int)))(self:Int→(List ap)→σ→Option (Bool×(List ap)×σ)):Nat→((List ap)×Int×σ)→Option (Except (Bool×(List ap)×σ) ((List ap)×σ))
 |0,_=>none
 |n+1,y6=>
  if y6.2.1 < (a2.2.1.length:Int) then(bE (α:=(List ap)×σ) ((aL a2.2.1 y6.2.1).bind fun l=>
  (((fF k a0 y6.2.1).bind fun r=>
  if r=true then(some (true,y6.2.2)) else((cF (0≤y6.2.1∧y6.2.1 < 8)).bind fun _=>
  (aL a2.2.2 y6.2.1).bind fun j=>
  some (!decide ((pP .u8 j a0)=0),y6.2.2))):Option (Bool×σ)).bind fun c=>
  if c.1=true then(some (.ok (y6.1,c.2))) else(cP k a0 a2 self y6 l k (y6.1,0,c.2))) (fun e=>some (.error e)) fun x8=>
  (ck (y6.2.1+1)).bind fun h=>
  cQ k a0 a2 self n (x8.1,h,x8.2)) else(some (.ok (y6.1,y6.2.2)))
def cm{σ:Type}(k:Nat)(Y:σ→(List ap)→Option (σ×Bool))(a2:(ae×(List (Bool×Int))×(List Int))):Nat→Int→(List ap)→σ→Option (Bool×(List ap)×σ)
 |0,_,_,_=>none
 |m0+1,a0,a1,s0=>
  if(a1.length:Int)=(a2.2.1.length:Int) then((kX k a1).bind fun r1=>
  (Y s0 r1).bind fun r2=>
  some (r2.2,a1,r2.1)) else(bE (α:=(List ap)×σ) (cQ k a0 a2 (cm k Y a2 m0) k (a1,0,s0)) (some) fun x4=>
  some (true,x4.1,x4.2))
theorem pB{M:Md Tryz.prog}{σ Z:Type}(E:Z→σ→List D)(l:Nat)(Y:σ→(List ap)→Option (σ×Bool))(k:Nat)(u:Nat)(a2:(ae×(List (Bool×Int))×(List Int)))(y:Nat)(F:Value)(j:Nat)(x:Nat)(c:Nat)(hY:∀z s p r,Y s p=some r→YT M l [Rs aB p] ([.obj y 80 (Qq a2 (.eq F))]++E z s) (fun z':Z=>(.eq (.bool r.2),[.obj y 80 (Qq a2 (.eq F))]++E z' r.1))):
 ∀(n:Nat) (a0:Int) (a1:(List ap)) (O:Value) (z0:Z) (s0:σ) (r:Bool×(List ap)×σ),cm k Y a2 n a0 a1 s0=some r→kE M 61 [.eq (.int .u8 a0),Pt u,Pt j,Pt x,Pt c] ([.sl O 99 aB a1,.obj u 49 (.eq O),.obj j 65 (Pt y),.obj x 116 (.eq (.func (.yield l) #[] #[])),.obj c 117 (.eq (.func (.func 61) #[] #[(Pv u),(Pv j),(Pv x),(Pv c)])),.obj y 80 (Qq a2 (.eq F))]++E z0 s0) (fun z:Value×Z=>(bG [.eq (.bool r.1)],[.sl z.1 99 aB r.2.1,.obj u 49 (.eq z.1),.obj j 65 (Pt y),.obj x 116 (.eq (.func (.yield l) #[] #[])),.obj c 117 (.eq (.func (.func 61) #[] #[(Pv u),(Pv j),(Pv x),(Pv c)])),.obj y 80 (Qq a2 (.eq F))]++E z.2 r.2.2)):=by
 intro n
 induction n with
 |zero=>intro a0 a1 O z0 s0 r h;cases h
 |succ m0 ih=>
  intro a0 a1 O z0 s0 r h;rw [cm] at h;replace h:=bi h;refine kE.of 83 Tryz.func61 rfl Tryz.ntmps61 rfl fun S w0=>?_;refine sr (cq (nt (aj (aj ?_))));refine a6 ?_;refine ea 1 (ai rfl rU dF rfl) ?_;refine ea 0 (je rfl rfl rR) ?_;refine ea 2 (ai rfl ie dF rfl) ?_;refine da (aN rfl) ?_;refine da (am rfl jX) ?_;refine ea 5 (ai rfl rF dF rfl) ?_;refine da (mD rfl rfl Gi) ?_;refine df bw ?_;refine jb (cM rfl) ?_;refine nt (ci h (fun h=>?_) (fun h=>?_))
  ·refine aj (a6 ?_);refine ea 3 (ai rfl NU dF rfl) ?_;refine ea 1 (ai rfl rU dF rfl) ?_;obtain⟨r1,Q0,h⟩:=aa h;refine Ag 0 rfl rfl rfl rfl (I1 (pI (N:=[(.tmp 20,.eq O)]) (ak [.tmp 20] rfl rfl PL rfl (sX k a1 r1 Q0)) (fun _ _ _ hv hn=>⟨(HY hn.1 hv),trivial⟩) (fun _=>⟨rfl,Ih (by simp [D.flat,A.flat,Ty.flat])⟩))) ⟨rfl,trivial⟩ ?_;refine df bw ?_;obtain⟨r2,QZ,h⟩:=aa h;refine fr 4 ?_;refine fr 4 ?_;refine fr 4 ?_;refine fr 4 ?_;refine fr 4 ?_;refine I7 [.sl O 99 aB a1,.obj u 49 (.eq O),.obj j 65 (Pt y),.obj x 116 (.eq (.func (.yield l) #[] #[])),.obj c 117 (.eq (.func (.func 61) #[] #[(Pv u),(Pv j),(Pv x),(Pv c)]))] rfl rfl rfl (JW [.tmp 21] rfl rfl rfl (hY z0 s0 r1 r2 QZ)) ⟨rfl,rfl,trivial⟩ fun z3=>?_;refine aq (nt (rx ?_));cases h;exact vQ (O,z3) [_] ⟨rfl,trivial⟩ rfl
  ·refine sk (cE (Z:=Value×Z) (α:=(List ap)×σ) (fun z5 x4=>[]) (fun z5 x4=>[.obj u 49 (.eq z5.1),.sl z5.1 99 aB x4.1,.obj j 65 (Pt y),.obj y 80 (Qq a2 (.eq F)),.obj x 116 (.eq (.func (.yield l) #[] #[])),.obj c 117 (.eq (.func (.func 61) #[] #[(Pv u),(Pv j),(Pv x),(Pv c)]))]++E z5.2 x4.2) (fun e=>e=r) h (fun e h=>Option.some.inj h) (fun K hR h=>?_) (fun z5 x4 h=>?_))
   ·refine sr (fr 2 ?_);refine lo ie ?_;refine ja (aN rfl) ?_;refine fl jX ?_;refine fr 5 ?_;refine lo rF ?_;refine ol Gi ?_;refine fg rfl ?_;refine nt (al (aD (Z:=Value×Z) (α:=(List ap)×Int×σ) (fun z7 y6=>[(0,.eq (.int .u8 a0)),(1,Pt u),(2,Pt j),(4,Pt c),(26,.rep (.slice (.tag 104 115)) a2.2.1),(27,I (a2.2.1.length:Int)),(28,I y6.2.1)]) (fun z7 y6=>[.obj u 49 (.eq z7.1),.sl z7.1 99 aB y6.1,.obj j 65 (Pt y),.obj y 80 (Qq a2 (.eq F)),.obj c 117 (.eq (.func (.func 61) #[] #[(Pv u),(Pv j),(Pv x),(Pv c)])),.obj x 116 (.eq (.func (.yield l) #[] #[]))]++E z7.2 y6.2.2) (cQ k a0 a2 (cm k Y a2 m0)) k (O,z0) (a1,0,s0) (fun _=>rfl) h (jo [.obj y 80 (Qq a2 (.eq F)),.obj j 65 (Pt y),.sl O 99 aB a1,.obj u 49 (.eq O),.obj x 116 (.eq (.func (.yield l) #[] #[])),.obj c 117 (.eq (.func (.func 61) #[] #[(Pv u),(Pv j),(Pv x),(Pv c)]))] (E z0 s0) [3,2,1,0,5,4] ⟨rfl,rfl,rfl,rfl,rfl,rfl,rfl,trivial⟩ rfl) (fun n z7 y6 h=>?_)));unfold cQ at h;refine sr (jb (ba rfl) ?_);refine nt (aj (ci h (fun h=>?_) (fun h=>?_)))
    ·refine sk (cE (Z:=Value×Z) (α:=(List ap)×σ) (fun z9 x8=>[(0,.eq (.int .u8 a0)),(1,Pt u),(2,Pt j),(4,Pt c),(26,.rep (.slice (.tag 104 115)) a2.2.1),(27,I (a2.2.1.length:Int)),(28,I y6.2.1)]) (fun z9 x8=>[.obj u 49 (.eq z9.1),.sl z9.1 99 aB x8.1,.obj j 65 (Pt y),.obj y 80 (Qq a2 (.eq F)),.obj c 117 (.eq (.func (.func 61) #[] #[(Pv u),(Pv j),(Pv x),(Pv c)])),.obj x 116 (.eq (.func (.yield l) #[] #[]))]++E z9.2 x8.2) (fun e=>e=r) h (fun e h=>hR e h) (fun K hR h=>?_) (fun z9 x8 h=>?_))
     ·refine al (sr (mq ?_));obtain⟨QB,QM,h⟩:=aa h;refine jb (aC (t:=(.tag 104 115)) rfl Gi pM QM) ?_;refine ja (ao (t:=(.tag 104 115)) rfl pM rfl) ?_;refine aq ?_;refine aq (nt (aj ?_));refine ay (Z:=Z) (α:=Bool×σ) (fun mc ac=>[(0,.eq (.int .u8 a0)),(1,Pt u),(2,Pt j),(4,Pt c),(7,I y6.2.1),(8,.rep (.tag 104 115) QB),(26,.rep (.slice (.tag 104 115)) a2.2.1),(27,I (a2.2.1.length:Int)),(28,I y6.2.1),(46,.eq (.bool ac.1))]) (fun mc ac=>[.obj u 49 (.eq z7.1),.sl z7.1 99 aB y6.1,.obj j 65 (Pt y),.obj y 80 (Qq a2 (.eq F)),.obj c 117 (.eq (.func (.func 61) #[] #[(Pv u),(Pv j),(Pv x),(Pv c)])),.obj x 116 (.eq (.func (.yield l) #[] #[]))]++E mc ac.2) h (fun K h=>?_) (fun mc ac h=>?_)
      ·refine ah ?_;iterate 2 refine mq ?_
       obtain⟨QY,QR,h⟩:=aa h;refine jb (ak [.tmp 33,.tmp 34] rfl rfl FQ rfl (ix k a0 y6.2.1 QY QR)) ?_;refine mq ?_;refine aM (s:=36) rfl (fun hb=>?_) (fun hb=>?_)
       ·replace h:=bY (uc hb) h;iterate 9 refine gn ?_
        refine pt (nl ?_);exact yl (z7.2,(true,y6.2.2)) h (jo [.obj u 49 (.eq z7.1),.sl z7.1 99 aB y6.1,.obj j 65 (Pt y),.obj y 80 (Qq a2 (.eq F)),.obj c 117 (.eq (.func (.func 61) #[] #[(Pv u),(Pv j),(Pv x),(Pv c)])),.obj x 116 (.eq (.func (.yield l) #[] #[]))] (E z7.2 y6.2.2) [0,1,2,3,4,5] ⟨rfl,rfl,rfl,rfl,rfl,rfl,rfl,rfl,rfl,rfl,trivial⟩ rfl)
       ·replace h:=bj (ud hb) h;refine fr 2 ?_;refine bO rfl rfl rfl rfl rfl rfl (ai rfl ie dF rfl) ⟨rfl,trivial⟩ ?_;refine gm ?_;refine ga (aN rfl) ?_;refine ga (am rfl uK) ?_;obtain⟨Q3,QE,h⟩:=aa h;refine gb (cL rfl OG pS (av QE).1 (av QE).2) ?_;obtain⟨QU,QL,h⟩:=aa h;refine fr 3 ?_;refine bO rfl rfl rfl rfl rfl rfl (fN (t:=(.int .u8)) (off:=5) (i:=y6.2.1) (N:=8) rfl pS (fun _=>rfl) rfl rfl rfl rfl QL) ⟨rfl,trivial⟩ ?_;refine gm ?_;refine gb (C9 rfl) ?_;refine gb (bT rfl) ?_;refine pf (nl ?_);exact yl (z7.2,(!decide ((pP .u8 QU a0)=0),y6.2.2)) h (jo [.obj y 80 (Qq a2 (.eq F)),.obj j 65 (Pt y),.obj u 49 (.eq z7.1),.sl z7.1 99 aB y6.1,.obj c 117 (.eq (.func (.func 61) #[] #[(Pv u),(Pv j),(Pv x),(Pv c)])),.obj x 116 (.eq (.func (.yield l) #[] #[]))] (E z7.2 y6.2.2) [2,3,1,0,4,5] ⟨rfl,rfl,rfl,rfl,rfl,rfl,rfl,rfl,rfl,rfl,trivial⟩ rfl)
      ·refine cv h (fun h=>?_) (fun h=>?_)
       ·refine eD (bf (cg (a7 ?_)));exact yl ((z7.1,mc),(y6.1,ac.2)) h (jo [.obj u 49 (.eq z7.1),.sl z7.1 99 aB y6.1,.obj j 65 (Pt y),.obj y 80 (Qq a2 (.eq F)),.obj c 117 (.eq (.func (.func 61) #[] #[(Pv u),(Pv j),(Pv x),(Pv c)])),.obj x 116 (.eq (.func (.yield l) #[] #[]))] (E mc ac.2) [0,1,2,3,4,5] ⟨rfl,rfl,rfl,rfl,rfl,rfl,rfl,trivial⟩ rfl)
       ·refine sk (sr (fr 2 ?_));refine lo ie ?_;refine ja (aN rfl) ?_;refine fl eT ?_;refine fl bA ?_;refine fr 3 ?_;refine lo eu ?_;refine ol l8 ?_;refine fg rfl ?_;refine nt (al (aD (Z:=Value×Z) (α:=(List ap)×Int×σ) (fun Q J=>[(0,.eq (.int .u8 a0)),(1,Pt u),(2,Pt j),(4,Pt c),(7,I y6.2.1),(8,.rep (.tag 104 115) QB),(26,.rep (.slice (.tag 104 115)) a2.2.1),(27,I (a2.2.1.length:Int)),(28,I y6.2.1),(52,I (a2.1.2.1.length:Int)),(53,I J.2.1)]) (fun Q J=>[.obj u 49 (.eq Q.1),.sl Q.1 99 aB J.1,.obj j 65 (Pt y),.obj y 80 (Qq a2 (.eq F)),.obj c 117 (.eq (.func (.func 61) #[] #[(Pv u),(Pv j),(Pv x),(Pv c)])),.obj x 116 (.eq (.func (.yield l) #[] #[]))]++E Q.2 J.2.2) (cP k a0 a2 (cm k Y a2 m0) y6 QB) k (z7.1,mc) (y6.1,0,ac.2) (fun _=>rfl) h (jo [.obj y 80 (Qq a2 (.eq F)),.obj j 65 (Pt y),.obj u 49 (.eq z7.1),.sl z7.1 99 aB y6.1,.obj c 117 (.eq (.func (.func 61) #[] #[(Pv u),(Pv j),(Pv x),(Pv c)])),.obj x 116 (.eq (.func (.yield l) #[] #[]))] (E mc ac.2) [2,3,1,0,4,5] ⟨rfl,rfl,rfl,rfl,rfl,rfl,rfl,rfl,rfl,rfl,rfl,trivial⟩ rfl) (fun n Q J h=>?_)));unfold cP at h;refine sr (jb (ba rfl) ?_);refine nt (aj (ci h (fun h=>?_) (fun h=>?_)))
        ·refine sk (cE (Z:=Value×Z) (α:=(List ap)×σ) (fun U X=>[(0,.eq (.int .u8 a0)),(1,Pt u),(2,Pt j),(4,Pt c),(7,I y6.2.1),(8,.rep (.tag 104 115) QB),(26,.rep (.slice (.tag 104 115)) a2.2.1),(27,I (a2.2.1.length:Int)),(28,I y6.2.1),(52,I (a2.1.2.1.length:Int)),(53,I J.2.1)]) (fun U X=>[.obj u 49 (.eq U.1),.sl U.1 99 aB X.1,.obj j 65 (Pt y),.obj y 80 (Qq a2 (.eq F)),.obj c 117 (.eq (.func (.func 61) #[] #[(Pv u),(Pv j),(Pv x),(Pv c)])),.obj x 116 (.eq (.func (.yield l) #[] #[]))]++E U.2 X.2) (fun e=>e=r) h (fun e h=>hR e h) (fun K hR h=>?_) (fun U X h=>?_))
         ·refine al (sr (mq ?_));refine aq (nt (aj (sr ?_)));refine fr 2 ?_;refine lo ie ?_;iterate 2 refine mq ?_
          obtain⟨QX,QQ,h⟩:=aa h;refine fr 3 ?_;refine kc (ak [.tmp 56,.tmp 57,.tmp 58] rfl rfl Oh rfl (oL k ((a2.1.1,a2.1.2.1,a2.1.2.2.1,a2.1.2.2.2),a2.2.1,a2.2.2) y F J.2.1 QB QX QQ)) ?_;refine ja (eE rfl) ?_;refine nt (cw h (fun h=>?_) (fun h=>?_))
          ·refine eD (bf (cg (a7 ?_)));exact yl ((Q.1,Q.2),(J.1,J.2.2)) h (jo [.obj y 80 (Qq a2 (.eq F)),.obj j 65 (Pt y),.obj u 49 (.eq Q.1),.sl Q.1 99 aB J.1,.obj c 117 (.eq (.func (.func 61) #[] #[(Pv u),(Pv j),(Pv x),(Pv c)])),.obj x 116 (.eq (.func (.yield l) #[] #[]))] (E Q.2 J.2.2) [2,3,1,0,4,5] ⟨rfl,rfl,rfl,rfl,rfl,rfl,rfl,rfl,rfl,rfl,rfl,trivial⟩ rfl)
          ·refine sk (sr (fr 2 ?_));refine lo rU ?_;iterate 2 refine mq ?_
           refine jb (cR [(0,.tmp 62,_),(1,.tmp 63,_)] rfl C0 vn xy (iF ⟨rfl,rfl,trivial⟩) rfl) ?_;refine ja (bv (t:=aB) [(.tmp 64,_)] [(y6.2.1,J.2.1)] rfl rfl zh (.cons trivial (.agg (.pair .int .int)) .nil) rfl rfl) ?_;obtain⟨Q2,QN,h⟩:=aa h;refine fr 3 ?_;refine dE rfl rfl rfl (bI rfl rfl zh (av QN)) ⟨rfl,rfl,trivial⟩ fun QW=>?_;refine fV fun o23=>?_;refine fr 1 ?_;refine aK rfl rfl (aE rfl rU o23 rfl rfl) ⟨rfl,rfl,trivial⟩ ?_;refine nt (aj (a6 ?_));refine ea 4 (ai rfl GM dF rfl) ?_;refine dm ?_;refine dm ?_;refine da (bv (t:=(.int .i64)) [(.tmp 69,_)] [y6.2.1] rfl rfl eo (.cons rfl .int .nil) rfl rfl) ?_;obtain⟨QG,QP,h⟩:=aa h;refine da (ak [.tmp 70] rfl rfl uP rfl (fJ k [y6.2.1] QG QP)) ?_;refine db (xU rfl) ?_;refine df bw ?_;obtain⟨se,QO,h⟩:=aa h;refine fr 2 ?_;refine fr 4 ?_;refine fr 5 ?_;refine fr 5 ?_;refine fr 4 ?_;refine fr 5 ?_;refine BW rfl rfl rfl (wz (fs:=[]) (cs:=[(Pv u),(Pv j),(Pv x),(Pv c)]) (ags:=[.eq (.int .u8 (nF .u8 a0 QG))]) [.tmp 72] rfl rfl Oi rfl (ih (nF .u8 a0 QG) (J.1++[(y6.2.1,J.2.1)]) QW Q.2 J.2.2 se QO)) ⟨rfl,rfl,trivial⟩ fun QC=>?_;refine aq (nt (sr ?_));refine fr 1 ?_;refine lo rU ?_;refine lo rU ?_;refine fr 1 ?_;refine ka (je rfl rfl rR) ?_;obtain⟨QF,QK,h⟩:=aa h;refine jb (g7 rfl QK) ?_;obtain⟨Q1,QD,h⟩:=aa h;refine dE rfl rfl rfl (AO (t:=aB) rfl rR j0 (av QD).1 (av QD).2) ⟨rfl,rfl,trivial⟩ fun QA=>?_;refine fV fun o30=>?_;refine fr 1 ?_;refine aK rfl rfl (aE rfl rU o30 rfl rfl) ⟨rfl,rfl,trivial⟩ ?_;refine nt (sr (mq ?_));refine ja (eE rfl) ?_;refine nt (cw h (fun h=>?_) (fun h=>?_))
           ·refine sr (cq (nt (aG (br (aV (br (aV (aR ?_))))))));refine bC (jo (Γ':=[(6,_)]) [.obj u 49 (.eq QA),.sl QA 99 aB (List.take (Int.toNat QF) se.2.1),.obj j 65 (Pt y),.obj x 116 (.eq (.func (.yield l) #[] #[])),.obj c 117 (.eq (.func (.func 61) #[] #[(Pv u),(Pv j),(Pv x),(Pv c)])),.obj y 80 (Qq a2 (.eq F))] (E QC.2 se.2.2) [1,0,2,3,4,5] ⟨rfl,trivial⟩ rfl) ?_;obtain rfl:=hR _ h;exact vQ (QA,QC.2) [_] ⟨rfl,trivial⟩ rfl
           ·refine aU (bn ?_);exact yl ((QA,QC.2),(List.take (Int.toNat QF) se.2.1,se.2.2)) h (jo [.obj u 49 (.eq QA),.sl QA 99 aB (List.take (Int.toNat QF) se.2.1),.obj j 65 (Pt y),.obj x 116 (.eq (.func (.yield l) #[] #[])),.obj c 117 (.eq (.func (.func 61) #[] #[(Pv u),(Pv j),(Pv x),(Pv c)])),.obj y 80 (Qq a2 (.eq F))] (E QC.2 se.2.2) [0,1,2,5,4,3] ⟨rfl,rfl,rfl,rfl,rfl,rfl,rfl,rfl,rfl,rfl,rfl,trivial⟩ rfl)
         ·refine ah ?_;obtain⟨QT,QJ,h⟩:=aa h;refine jb (bh rfl QJ) ?_;refine mq (nl ?_);exact yl ((U.1,U.2),(X.1,QT,X.2)) h (jo [.obj u 49 (.eq U.1),.sl U.1 99 aB X.1,.obj j 65 (Pt y),.obj y 80 (Qq a2 (.eq F)),.obj c 117 (.eq (.func (.func 61) #[] #[(Pv u),(Pv j),(Pv x),(Pv c)])),.obj x 116 (.eq (.func (.yield l) #[] #[]))] (E U.2 X.2) [0,1,2,3,4,5] ⟨rfl,rfl,rfl,rfl,rfl,rfl,rfl,rfl,rfl,rfl,rfl,trivial⟩ rfl)
        ·refine eD (bf (bf (cg (bn ?_))));exact yl ((Q.1,Q.2),(J.1,J.2.2)) h (jo [.obj u 49 (.eq Q.1),.sl Q.1 99 aB J.1,.obj j 65 (Pt y),.obj y 80 (Qq a2 (.eq F)),.obj c 117 (.eq (.func (.func 61) #[] #[(Pv u),(Pv j),(Pv x),(Pv c)])),.obj x 116 (.eq (.func (.yield l) #[] #[]))] (E Q.2 J.2.2) [0,1,2,3,4,5] ⟨rfl,rfl,rfl,rfl,rfl,rfl,rfl,trivial⟩ rfl)
     ·refine ah ?_;obtain⟨QS,QH,h⟩:=aa h;refine jb (bh rfl QH) ?_;refine mq (nl ?_);exact yl ((z9.1,z9.2),(x8.1,QS,x8.2)) h (jo [.obj u 49 (.eq z9.1),.sl z9.1 99 aB x8.1,.obj j 65 (Pt y),.obj y 80 (Qq a2 (.eq F)),.obj c 117 (.eq (.func (.func 61) #[] #[(Pv u),(Pv j),(Pv x),(Pv c)])),.obj x 116 (.eq (.func (.yield l) #[] #[]))] (E z9.2 x8.2) [0,1,2,3,4,5] ⟨rfl,rfl,rfl,rfl,rfl,rfl,rfl,trivial⟩ rfl)
    ·refine xa ?_;exact yl ((z7.1,z7.2),(y6.1,y6.2.2)) h (jo [.obj u 49 (.eq z7.1),.sl z7.1 99 aB y6.1,.obj j 65 (Pt y),.obj y 80 (Qq a2 (.eq F)),.obj c 117 (.eq (.func (.func 61) #[] #[(Pv u),(Pv j),(Pv x),(Pv c)])),.obj x 116 (.eq (.func (.yield l) #[] #[]))] (E z7.2 y6.2.2) [0,1,2,3,5,4] trivial rfl)
   ·refine sr (cq (nt (aG ?_)));refine bC (jo (Γ':=[(6,_)]) [.obj u 49 (.eq z5.1),.sl z5.1 99 aB x4.1,.obj j 65 (Pt y),.obj y 80 (Qq a2 (.eq F)),.obj x 116 (.eq (.func (.yield l) #[] #[])),.obj c 117 (.eq (.func (.func 61) #[] #[(Pv u),(Pv j),(Pv x),(Pv c)]))] (E z5.2 x4.2) [1,0,2,4,5,3] ⟨rfl,trivial⟩ rfl) ?_;cases h;exact vQ (z5.1,z5.2) [_] ⟨rfl,trivial⟩ rfl
def jl{σ:Type}(k:Nat)(Y:σ→(List ap)→Option (σ×Bool))(a1:(ae×(List (Bool×Int))×(List Int)))(s0:σ):Option (σ):=
 (cm k Y ((a1.1.1,a1.1.2.1,a1.1.2.2.1,a1.1.2.2.2),a1.2.1,a1.2.2) k 0 ([]:(List ap)) s0).bind fun r4=>
 some r4.2.2
theorem qG{M:Md Tryz.prog}{σ Z:Type}(E:Z→σ→List D)(l:Nat)(Y:σ→(List ap)→Option (σ×Bool))(k:Nat)(a1:(ae×(List (Bool×Int))×(List Int)))(c:Nat)(j:Value)(e:Nat)(hY:∀z s p r,Y s p=some r→YT M l [Rs aB p] ([.obj c 80 (Qq a1 (.eq j))]++E z s) (fun z':Z=>(.eq (.bool r.2),[.obj c 80 (Qq a1 (.eq j))]++E z' r.1))):
 ∀(z0:Z) (s0:σ) (r:σ),jl k Y a1 s0=some r→kE M 60 [.eq (.func (.yield l) #[] #[]),Pt e] ([.obj e 65 (Pt c),.obj c 80 (Qq a1 (.eq j))]++E z0 s0) (fun z:Z=>(bG [],[.obj e 65 (Pt c),.obj c 80 (Qq a1 (.eq j))]++E z r)):=by
 intro z0 s0 r h
 unfold jl at h
 replace h:=bi h
 refine kE.of 8 Tryz.func60 rfl Tryz.ntmps60 rfl fun S w0=>?_
 refine sr ?_
 refine bx fun b1=>?_
 refine nt ?_
 refine sr ?_
 refine aA rfl rfl rfl (aF rfl NN OA) trivial fun b2=>?_
 refine nt ?_
 refine sr ?_
 refine aA rfl rfl rfl (aF rfl NR OE) trivial fun b3=>?_
 refine nt ?_
 refine sr ?_
 refine dx rfl (jU [] [.tmp 3,.tmp 1,.tmp 2,.tmp 4] [] [(Pv b2),(Pv e),(Pv b1),(Pv b3)] rfl rfl rfl) ⟨rfl,rfl,rfl,rfl,trivial⟩ ?_
 refine aK rfl rfl (aE rfl GM rfl rfl rfl) ⟨rfl,rfl,trivial⟩ ?_
 refine nt ?_
 refine ah ?_
 refine lo GM ?_
 refine eX (SE.nil 99 aB) ?_
 obtain⟨r4,n,h⟩:=aa h
 have u:=pB E l Y k b2 ((a1.1.1,a1.1.2.1,a1.1.2.2.1,a1.1.2.2.2),a1.2.1,a1.2.2) c j e b1 b3 hY k 0 ([]:(List ap)) (.slice none 0 0) z0 s0 r4 n
 refine fr 5 ?_
 refine fr 2 ?_
 refine fr 4 ?_
 refine fr 5 ?_
 refine fr 5 ?_
 refine fr 5 ?_
 refine BW rfl rfl rfl (wz (fs:=[]) (cs:=[(Pv b2),(Pv e),(Pv b1),(Pv b3)]) (ags:=[.eq (.int .u8 0)]) [.const (.int .u8 (0))] rfl rfl Oi rfl u) ⟨rfl,rfl,trivial⟩ fun z5=>?_
 refine aT ?_
 refine mp ?_
 refine bC (jo (Γ':=[]) [.sl z5.1 99 aB r4.2.1,.obj b2 49 (.eq z5.1),.obj e 65 (Pt c),.obj b1 116 (.eq (.func (.yield l) #[] #[])),.obj b3 117 (.eq (.func (.func 61) #[] #[(Pv b2),(Pv e),(Pv b1),(Pv b3)])),.obj c 80 (Qq a1 (.eq j))] (E z5.2 r4.2.2) [2,5] trivial rfl) ?_
 cases h
 exact vQ z5.2 [] trivial rfl
theorem bN(b:Nat):bQ Tryz.prog 30 [Pt b] [] (fun z:Nat=>(bG [.eq (.func (.func 60) #[] #[(Pv z)])],[.obj z 65 (Pt b)])):=by
 refine bQ.of 4 Tryz.func30 rfl Tryz.ntmps30 rfl fun S w0=>?_;refine sr (bx fun z=>?_);refine cq (nt (sr ?_));refine ja (jU [] [.tmp 1] [] [(Pv z)] rfl rfl rfl) ?_;refine aq (nt (aG ?_));exact aZ z [_] 1 ⟨rfl,trivial⟩ rfl
def jD(k:Nat)(a0:(ae×(List (Bool×Int))×(List Int)))(a1:(Bool×Int)):Option Int:=
 (cond a1.1 (dr k a1.2) (cV k a1.2)).bind fun r1=>
 (aL a0.1.1 r1).bind fun x2=>
 if a1.1=true then(some x2.2.2.1) else(some x2.2.1)
theorem tP(k:Nat)(a0:(ae×(List (Bool×Int))×(List Int)))(c:Nat)(e:Value)(a1:(Bool×Int))(r:Int)(h:jD k a0 a1=some r):
 bQ Tryz.prog 75 [Pt c,.rep (.tag 104 115) a1] [.obj c 80 (Qq a0 (.eq e))] (fun _:Unit=>(bG [I r],[.obj c 80 (Qq a0 (.eq e))])):=by
 unfold jD at h
 replace h:=bi h
 refine bQ.of 27 Tryz.func75 rfl Tryz.ntmps75 rfl fun S w0=>?_
 refine sr ?_
 refine cq ?_
 refine nt ?_
 refine aj ?_
 refine i8 ?_
 refine aP rfl rfl rfl (bg rfl) ⟨rfl,trivial⟩ ?_
 refine aP rfl rfl rfl (aN rfl) ⟨rfl,trivial⟩ ?_
 refine aP rfl rfl rfl (am rfl eT) ⟨rfl,trivial⟩ ?_
 refine aP rfl rfl rfl (am rfl bu) ⟨rfl,trivial⟩ ?_
 refine fy 0 rfl rfl rfl rfl (ai rfl dM dF rfl) ⟨rfl,trivial⟩ ?_
 refine aP rfl rfl rfl (bg rfl) ⟨rfl,trivial⟩ ?_
 obtain⟨r1,l,h⟩:=aa h
 refine aP rfl rfl rfl (lb rfl rfl gw gr (lu (fun hb=>dt k a1.2 r1 (by simpa [hb] using l)) (fun hb=>dJ k a1.2 r1 (by simpa [hb] using l)))) ⟨rfl,trivial⟩ ?_
 obtain⟨x2,M,h⟩:=aa h
 refine aP rfl rfl rfl (aC (t:=aJ) rfl kU eY M) ⟨rfl,rfl,trivial⟩ ?_
 refine aP rfl rfl rfl (ao (t:=aJ) rfl eY rfl) ⟨rfl,trivial⟩ ?_
 refine kx (vr 45 (.agg (.pair (.eq (.slice none 0 0)) (.pair (I 0) (.pair (I 0) (.pair (I 0) (I 0))))))) (fun _=>rfl) rfl rfl rfl (aF rfl pU vB) trivial ?_
 refine mA 10 [true,true,true,true,true,true,true,true,true,true] [] [] [] rfl (by kernel_rfl) (by kernel_rfl) (by kernel_rfl) bw (fun vs hv hB=>?_)
 obtain⟨w0,QA,rfl,J⟩:=ar hv
 obtain⟨w1,se,rfl,F⟩:=ar J
 obtain⟨w2,mc,rfl,E⟩:=ar F
 obtain⟨w3,ac,rfl,D⟩:=ar E
 obtain⟨w4,Z,rfl,y⟩:=ar D
 obtain⟨w5,Y,rfl,x⟩:=ar y
 obtain⟨w6,X,rfl,u⟩:=ar x
 obtain⟨w7,U,rfl,s⟩:=ar u
 obtain⟨w8,Q,rfl,n⟩:=ar s
 obtain⟨w9,O,rfl,j⟩:=ar n
 obtain rfl:=kp j
 obtain⟨b3,rfl⟩:=nW hB.2.2.2.2.2.2.2.2.2.1
 refine⟨[0,1],[.obj c 80 (Qq a0 (.eq e)),.obj b3 45 (.agg (.pair (.eq (.slice none 0 0)) (.pair (I 0) (.pair (I 0) (.pair (I 0) (I 0))))))],by kernel_rfl,by decide,?_⟩
 refine i7 1 rfl ?_
 refine nw rfl rfl (aE rfl eY rfl rfl rfl) ⟨rfl,rfl,trivial⟩ (by kernel_rfl) ?_
 refine sN ?_
 refine bC (SE.fin (Γ':=[(1,.rep (.tag 104 115) a1),(5,Pt b3)]) (Δ':=[.obj b3 45 (.rep aJ x2),.obj c 80 (Qq a0 (.eq e))]) [0,1] ⟨rfl,rfl,trivial⟩ rfl) ?_
 refine tn ?_
 refine aj ?_
 refine sr ?_
 refine mq ?_
 refine dx rfl (Hm rfl GL (by decide)) ⟨rfl,trivial⟩ ?_
 refine mq ?_
 refine xr ?_
 refine xr ?_
 refine aq ?_
 refine aq ?_
 refine nt ?_
 refine sr ?_
 refine mq ?_
 refine nt ?_
 refine cv h (fun h=>?_) (fun h=>?_)
 ·
  refine sr (fl uM ?_);refine lo cj ?_;refine aq (nt (rx ?_));refine bC (SE.fin (Γ':=[(4,_)]) [1,0] ⟨rfl,trivial⟩ rfl) ?_;cases h;exact aZ () [_] 1 ⟨rfl,trivial⟩ rfl
 ·
  refine sk (sr (fl uN ?_));refine lo cj ?_;refine aq (nt (aG ?_));refine bC (SE.fin (Γ':=[(4,_)]) [1,0] ⟨rfl,trivial⟩ rfl) ?_;cases h;exact aZ () [_] 1 ⟨rfl,trivial⟩ rfl
def dB(k:Nat)(a0:(ae×(List (Bool×Int))×(List Int))):Nat→((List Int)×Int)→Option (List Int)
 |0,_=>none
 |n+1,y6=>
  if y6.2 < (a0.1.2.1.length:Int) then((aL a0.1.2.1 y6.2).bind fun x8=>
  (cF (0≤y6.2∧y6.2 < 3)).bind fun _=>
  (ck (y6.2+1)).bind fun c=>
  dB k a0 n (List.set y6.1 (Int.toNat y6.2) x8.2.2,c)) else(some y6.1)
def c7(k:Nat)(j:(List Int)×(List Int)×(List Int)×Int)(h:(List Int)):Nat→(Int×Int)→Option Int
 |0,_=>none
 |n+1,c=>
  if c.2 < (h.length:Int) then((aL h c.2).bind fun e=>
  (cF (0≤e∧e < 4)).bind fun _=>
  (aL j.2.1 e).bind fun r=>
  (ck (c.2+1)).bind fun l=>
  c7 k j h n (kD c.1 r,l)) else(some c.1)
def dA(k:Nat)(a0:(ae×(List (Bool×Int))×(List Int)))(a1:(List ap)):Nat→((List Int)×(List Int)×(List Int)×Int)→Option ((List Int)×(List Int))
 |0,_=>none
 |n+1,e=>
  if e.2.2.2 < (a1.length:Int) then((((aL a1 e.2.2.2).bind fun c=>
  (cF (0≤c.2∧c.2 < 3)).bind fun _=>
  (aL e.2.2.1 c.2).bind fun x=>
  (((cF (0≤c.1∧c.1 < 8)).bind fun _=>
  (aL a0.2.2 c.1).bind fun u=>
  (eN k u).bind fun D=>
  c7 k e D k (x,0)):Option (Int)).bind fun h=>
  (aL a0.2.1 c.1).bind fun s=>
  (jD k ((a0.1.1,a0.1.2.1,a0.1.2.2.1,a0.1.2.2.2),a0.2.1,a0.2.2) s).bind fun y=>
  (ck (h+y)).bind fun l=>
  (cF (cx (List.length e.1+List.length [h]))).bind fun _=>
  (cF (0≤c.1∧c.1 < 4)).bind fun _=>
  (cF (0≤c.2∧c.2 < 3)).bind fun _=>
  some (e.1++[h],List.set e.2.1 (Int.toNat c.1) l,List.set e.2.2.1 (Int.toNat c.2) l)):Option ((List Int)×(List Int)×(List Int))).bind fun j=>
  (ck (e.2.2.2+1)).bind fun r=>
  dA k a0 a1 n (j.1,j.2.1,j.2.2,r)) else(some (e.1,e.2.1))
def dZ(k:Nat)(a0:(ae×(List (Bool×Int))×(List Int)))(a1:(List ap)):Option ((List Int)×(List Int)):=
 ((dB k a0 k ([0,0,0],0)):Option ((List Int))).bind fun x4=>
 ((dA k a0 a1 k (([]:(List Int)),[0,0,0,0],x4,0)):Option ((List Int)×(List Int))).bind fun c=>
 some (c.1,c.2)
theorem ib(k:Nat)(a0:(ae×(List (Bool×Int))×(List Int)))(c:Nat)(j:Value)(a1:(List ap))(r:(List Int)×(List Int))(h:dZ k a0 a1=some r):
 bQ Tryz.prog 49 [Pt c,Rs aB a1] [.obj c 80 (Qq a0 (.eq j))] (fun _:Unit=>(bG [Ri r.1,.rep (.arr 4 (.int .i64)) r.2],[.obj c 80 (Qq a0 (.eq j))])):=by
 unfold dZ at h
 replace h:=bi h
 refine bQ.of 89 Tryz.func49 rfl Tryz.ntmps49 rfl fun S w0=>?_
 refine sr ?_
 refine cq ?_
 refine aA rfl rfl rfl (aF rfl ES F9) trivial fun b1=>?_
 refine nt ?_
 refine sr ?_
 refine cq ?_
 refine nt ?_
 refine sr ?_
 refine aA rfl rfl rfl (aF rfl ES F9) trivial fun b2=>?_
 refine nt ?_
 refine sr ?_
 refine aA rfl rfl rfl (aF rfl NQ OD) trivial fun b3=>?_
 refine nt ?_
 refine ay (Z:=Unit) (α:=(List Int)) (fun z5 x4=>[(0,Pt c),(1,Rs aB a1),(5,Pt b1),(6,.eq (.slice none 0 0)),(7,Pt b2),(8,Pt b3)]) (fun z5 x4=>[.obj c 80 (Qq a0 (.eq j)),.obj b1 95 (.rep (.arr 4 (.int .i64)) [0,0,0,0]),.obj b2 95 (.rep (.arr 4 (.int .i64)) [0,0,0,0]),.obj b3 132 (.rep (.arr 3 (.int .i64)) x4)]) h (fun K h=>?_) (fun z5 x4 h=>?_)
 ·
  refine sr (mq ?_);refine ja (aN rfl) ?_;refine fl eT ?_;refine fl bA ?_;refine fr 3 ?_;refine lo eu ?_;refine ol l8 ?_;refine fg rfl ?_;refine nt (al (aD (fun z7 y6=>[(0,Pt c),(1,Rs aB a1),(5,Pt b1),(6,.eq (.slice none 0 0)),(7,Pt b2),(8,Pt b3),(21,Rs aw a0.1.2.1),(22,I (a0.1.2.1.length:Int)),(23,I y6.2)]) (fun z7 y6=>[.obj c 80 (Qq a0 (.eq j)),.obj b1 95 (.rep (.arr 4 (.int .i64)) [0,0,0,0]),.obj b2 95 (.rep (.arr 4 (.int .i64)) [0,0,0,0]),.obj b3 132 (.rep (.arr 3 (.int .i64)) y6.1)]) (dB k a0) k () ([0,0,0],0) (fun _=>rfl) h (SE.fin [0,3,2,1] ⟨rfl,rfl,rfl,rfl,rfl,rfl,rfl,rfl,rfl,trivial⟩ rfl) (fun n z7 y6 h=>?_)));unfold dB at h;refine sr (jb (ba rfl) ?_);refine nt (aj (ci h (fun h=>?_) (fun h=>?_)))
  ·refine sk (aj (al (sr (mq ?_))));obtain⟨x8,Rb,h⟩:=aa h;refine jb (aC (t:=aw) rfl l8 eI Rb) ?_;refine ja (ao (t:=aw) rfl eI rfl) ?_;refine aA rfl rfl rfl (aF rfl rS xz) trivial fun b9=>?_;refine aq ?_;refine aK rfl rfl (aE rfl eI rfl rfl rfl) ⟨rfl,rfl,trivial⟩ ?_;refine nt (ah (mq ?_));refine fl od ?_;refine lo cj ?_;obtain⟨Rz,E,h⟩:=aa h;refine jb (cL rfl Nw cj (av E).1 (av E).2) ?_;refine fr 4 ?_;refine aK rfl rfl (kH (t:=(.int .i64)) (off:=0) (i:=y6.2) (N:=3) rfl cj .int rfl rfl rfl rfl (av E).1 (av E).2 rfl) ⟨rfl,rfl,trivial⟩ ?_;refine aT (aO (tn (ah ?_)));obtain⟨QZ,QN,h⟩:=aa h;refine jb (bh rfl QN) ?_;refine mq (nl ?_);exact jz ((),(List.set y6.1 (Int.toNat y6.2) x8.2.2,QZ)) h [2,3,4,0]
  ·refine xa ?_;exact jz ((),y6.1) h [0,1,2,3]
 ·
  refine ay (Z:=Value) (α:=(List Int)×(List Int)) (fun Q M=>[(5,Pt b1),(6,.eq Q),(7,Pt b2)]) (fun Q M=>[.obj b1 95 (.rep (.arr 4 (.int .i64)) [0,0,0,0]),.sl Q 3 (.int .i64) M.1,.obj b2 95 (.rep (.arr 4 (.int .i64)) M.2),.obj c 80 (Qq a0 (.eq j))]) h (fun K h=>?_) (fun Q M h=>?_)
  ·refine sr (mq ?_);refine ol rR ?_;refine fg rfl ?_;refine nt (al (eL (SE.nil 3 (.int .i64)) ?_));refine aD (fun l e=>[(0,Pt c),(5,Pt b1),(6,.eq l),(7,Pt b2),(8,Pt b3),(33,Rs aB a1),(34,I (a1.length:Int)),(35,I e.2.2.2)]) (fun l e=>[.obj c 80 (Qq a0 (.eq j)),.obj b1 95 (.rep (.arr 4 (.int .i64)) [0,0,0,0]),.sl l 3 (.int .i64) e.1,.obj b2 95 (.rep (.arr 4 (.int .i64)) e.2.1),.obj b3 132 (.rep (.arr 3 (.int .i64)) e.2.2.1)]) (dA k a0 a1) k (.slice none 0 0) (([]:(List Int)),[0,0,0,0],x4,0) (fun _=>rfl) h (SE.fin [1,2,0,3,4] ⟨rfl,rfl,rfl,rfl,rfl,rfl,rfl,rfl,trivial⟩ rfl) (fun n l e h=>?_);unfold dA at h;refine sr (jb (ba rfl) ?_);refine nt (aj (ci h (fun h=>?_) (fun h=>?_)))
   ·refine sk (ay (Z:=Value) (α:=(List Int)×(List Int)×(List Int)) (fun J u=>[(0,Pt c),(5,Pt b1),(6,.eq J),(7,Pt b2),(8,Pt b3),(33,Rs aB a1),(34,I (a1.length:Int)),(35,I e.2.2.2)]) (fun J u=>[.obj c 80 (Qq a0 (.eq j)),.obj b1 95 (.rep (.arr 4 (.int .i64)) [0,0,0,0]),.sl J 3 (.int .i64) u.1,.obj b2 95 (.rep (.arr 4 (.int .i64)) u.2.1),.obj b3 132 (.rep (.arr 3 (.int .i64)) u.2.2)]) h (fun K h=>?_) (fun J u h=>?_))
    ·refine al (sr ?_);obtain⟨s,QM,h⟩:=aa h;refine jb (aC (t:=aB) rfl rR j0 QM) ?_;refine ja (ao (t:=aB) rfl j0 rfl) ?_;refine aA rfl rfl rfl (aF rfl vn IN) trivial fun O=>?_;refine aK rfl rfl (aE rfl j0 rfl rfl rfl) ⟨rfl,rfl,trivial⟩ ?_;refine nt (sr (fl px ?_));refine lo cj ?_;obtain⟨Ry,ac,h⟩:=aa h;refine jb (cL rfl Nw cj (av ac).1 (av ac).2) ?_;obtain⟨QY,QL,h⟩:=aa h;refine fr 5 ?_;refine ka (fN (t:=(.int .i64)) (off:=0) (i:=s.2) (N:=3) rfl cj (fun _=>rfl) rfl rfl rfl rfl QL) ?_;refine aq (nt ?_);refine ay (Z:=Unit) (α:=Int) (fun se x=>[(0,Pt c),(5,Pt b1),(6,.eq l),(7,Pt b2),(8,Pt b3),(12,Pt O),(13,I x),(33,Rs aB a1),(34,I (a1.length:Int)),(35,I e.2.2.2)]) (fun se x=>[.obj c 80 (Qq a0 (.eq j)),.obj b1 95 (.rep (.arr 4 (.int .i64)) [0,0,0,0]),.sl l 3 (.int .i64) e.1,.obj b2 95 (.rep (.arr 4 (.int .i64)) e.2.1),.obj b3 132 (.rep (.arr 3 (.int .i64)) e.2.2.1),.obj O 99 (.rep aB s)]) h (fun K h=>?_) (fun se x h=>?_)
     ·refine aj (a6 ?_);refine dm ?_;refine da (am rfl gY) ?_;refine ea 1 (ai rfl cj dF rfl) ?_;refine da (aN rfl) ?_;refine da (am rfl uK) ?_;obtain⟨Rx,Y,h⟩:=aa h;refine db (cL rfl OG pS (av Y).1 (av Y).2) ?_;obtain⟨QX,QK,h⟩:=aa h;refine ea 2 (fN (t:=(.int .u8)) (off:=5) (i:=s.1) (N:=8) rfl pS (fun _=>rfl) rfl rfl rfl rfl QK) ?_;obtain⟨U,QQ,h⟩:=aa h;refine da (ak [.tmp 49] rfl rfl Ir rfl (iY k QX U QQ)) ?_;refine da (mD rfl rfl jt) ?_;refine dm ?_;refine df bw ?_;refine nt (al (aD (fun mc F=>[(0,Pt c),(5,Pt b1),(6,.eq l),(7,Pt b2),(8,Pt b3),(12,Pt O),(13,I F.1),(33,Rs aB a1),(34,I (a1.length:Int)),(35,I e.2.2.2),(50,Ri U),(51,I (U.length:Int)),(52,I F.2)]) (fun mc F=>[.obj c 80 (Qq a0 (.eq j)),.obj b1 95 (.rep (.arr 4 (.int .i64)) [0,0,0,0]),.sl l 3 (.int .i64) e.1,.obj b2 95 (.rep (.arr 4 (.int .i64)) e.2.1),.obj b3 132 (.rep (.arr 3 (.int .i64)) e.2.2.1),.obj O 99 (.rep aB s)]) (c7 k e U) k () (QY,0) (fun _=>rfl) h (SE.fin [2,3,4,5,0,1] ⟨rfl,rfl,rfl,rfl,rfl,rfl,rfl,rfl,rfl,rfl,rfl,rfl,rfl,trivial⟩ rfl) (fun n mc F h=>?_)));unfold c7 at h;refine sr (jb (ba rfl) ?_);refine nt (aj (ci h (fun h=>?_) (fun h=>?_)))
      ·refine sk (aj (al (sr ?_)));obtain⟨QW,QJ,h⟩:=aa h;refine jb (aC (t:=(.int .i64)) rfl jt cj QJ) ?_;refine ja (ao (t:=(.int .i64)) rfl cj rfl) ?_;refine aq (nt (ah ?_));iterate 2 refine mq ?_
       obtain⟨Rw,X,h⟩:=aa h;refine jb (cL rfl OF cj (av X).1 (av X).2) ?_;obtain⟨QU,QH,h⟩:=aa h;refine fr 3 ?_;refine ka (fN (t:=(.int .i64)) (off:=0) (i:=QW) (N:=4) rfl cj (fun _=>rfl) rfl rfl rfl rfl QH) ?_;refine jb (AP rfl rfl) ?_;refine aq (aT (aO (tn (ah ?_))));obtain⟨QT,QG,h⟩:=aa h;refine jb (bh rfl QG) ?_;refine mq (nl ?_);exact jz ((),(kD F.1 QU,QT)) h [1,2,3,0,4,5]
      ·refine xa ?_;exact jz ((),F.1) h [0,1,2,3,4,5]
     ·refine aj (a6 ?_);refine dm ?_;refine dm ?_;refine dm ?_;refine da (aN rfl) ?_;refine da (am rfl jX) ?_;refine ea 0 (ai rfl rF dF rfl) ?_;refine da (am rfl gY) ?_;refine ea 5 (ai rfl cj dF rfl) ?_;obtain⟨QS,QF,h⟩:=aa h;refine db (aC (t:=(.tag 104 115)) rfl Gi pM QF) ?_;refine da (ao (t:=(.tag 104 115)) rfl pM rfl) ?_;obtain⟨Q0,QP,h⟩:=aa h;refine eb 0 (ak [.tmp 63,.tmp 71] rfl rfl Pz rfl (tP k ((a0.1.1,a0.1.2.1,a0.1.2.2.1,a0.1.2.2.2),a0.2.1,a0.2.2) c j QS Q0 QP)) ?_;refine df bw ?_;obtain⟨QA,QE,h⟩:=aa h;refine jb (bh rfl QE) ?_;refine aq (nt ?_);refine i8 ?_;refine aP rfl rfl rfl (am rfl gY) ⟨rfl,trivial⟩ ?_;refine fy 5 rfl rfl rfl rfl (ai rfl cj dF rfl) ⟨rfl,trivial⟩ ?_;refine aP rfl rfl rfl (am rfl px) ⟨rfl,trivial⟩ ?_;refine fy 5 rfl rfl rfl rfl (ai rfl cj dF rfl) ⟨rfl,trivial⟩ ?_;refine aP rfl rfl rfl (bg rfl) ⟨rfl,trivial⟩ ?_;refine aP rfl rfl rfl (bg rfl) ⟨rfl,trivial⟩ ?_;refine aP rfl rfl rfl (bv (t:=(.int .i64)) [(.tmp 79,_)] [x] rfl rfl eo (.cons rfl .int .nil) rfl rfl) ⟨rfl,trivial⟩ ?_;obtain⟨Ru,QO,h⟩:=aa h;refine xI 2 rfl (fun v=>[.sl v 3 (.int .i64) (e.1++[x])]) (fun _=>rfl) rfl rfl rfl (bI rfl rfl eo (av QO)) ⟨rfl,rfl,trivial⟩ ?_;refine aP rfl rfl rfl (bg rfl) ⟨rfl,trivial⟩ ?_;refine aP rfl rfl rfl (bg rfl) ⟨rfl,trivial⟩ ?_;refine mA 10 [false,false,false,false,true,true,true,true,false,false] [6,84] [5] [.obj O 99 (.rep aB s)] rfl (by kernel_rfl) (by kernel_rfl) (by kernel_rfl) bw (fun vs hv hB=>?_);obtain⟨w0,Rq,rfl,Q9⟩:=ar hv;obtain⟨w1,Ro,rfl,Q8⟩:=ar Q9;obtain⟨w2,Rn,rfl,Q7⟩:=ar Q8;obtain⟨w3,Rm,rfl,Q6⟩:=ar Q7;obtain⟨w4,Rl,rfl,Q5⟩:=ar Q6;obtain⟨w5,Rk,rfl,Q4⟩:=ar Q5;obtain⟨w6,Rj,rfl,Q3⟩:=ar Q4;obtain⟨QB,Rh,rfl,Q2⟩:=ar Q3;obtain⟨w8,Rf,rfl,Q1⟩:=ar Q2;obtain⟨w9,Re,rfl,QC⟩:=ar Q1;obtain rfl:=kp QC;refine⟨[4,0,1,2,3,5],[.obj c 80 (Qq a0 (.eq j)),.obj b1 95 (.rep (.arr 4 (.int .i64)) [0,0,0,0]),.obj b2 95 (.rep (.arr 4 (.int .i64)) e.2.1),.obj b3 132 (.rep (.arr 3 (.int .i64)) e.2.2.1),.sl QB 3 (.int .i64) (e.1++[x])],by kernel_rfl,by decide,?_⟩;refine uZ rfl rfl rfl rfl (il rfl) ⟨rfl,trivial⟩ (by kernel_rfl) ?_;obtain⟨Rt,D,h⟩:=aa h;refine uZ rfl rfl rfl rfl (cL rfl OF cj (av D).1 (av D).2) ⟨rfl,rfl,trivial⟩ (by kernel_rfl) ?_;refine i7 2 rfl ?_;refine nw rfl rfl (kH (t:=(.int .i64)) (off:=0) (i:=s.1) (N:=4) rfl cj .int rfl rfl rfl rfl (av D).1 (av D).2 rfl) ⟨rfl,rfl,trivial⟩ (by kernel_rfl) ?_;refine xF (by kernel_rfl) ?_;obtain⟨Rr,y,h⟩:=aa h;refine jb (cL rfl Nw cj (av y).1 (av y).2) ?_;refine fr 4 ?_;refine aK rfl rfl (kH (t:=(.int .i64)) (off:=0) (i:=s.2) (N:=3) rfl cj .int rfl rfl rfl rfl (av y).1 (av y).2 rfl) ⟨rfl,rfl,trivial⟩ ?_;refine aT (bn ?_);exact jz (QB,(e.1++[x],List.set e.2.1 (Int.toNat s.1) QA,List.set e.2.2.1 (Int.toNat s.2) QA)) h [3,4,5,2,0]
    ·refine ah ?_;obtain⟨QR,QD,h⟩:=aa h;refine jb (bh rfl QD) ?_;refine mq (nl ?_);exact jz (J,(u.1,u.2.1,u.2.2,QR)) h [0,1,2,3,4]
   ·refine xa ?_;exact jz (l,(e.1,e.2.1)) h [1,2,3,0]
  ·refine aj (a6 ?_);refine dm ?_;refine ea 2 (ai rfl CJ (sn) rfl) ?_;refine da (il rfl) ?_;refine df bw ?_;refine aK rfl rfl (aE rfl CJ rfl rfl rfl) ⟨rfl,rfl,trivial⟩ ?_;refine nt (aG (dn 1 rfl ?_));refine bC (nu [4,6,87] ⟨rfl,rfl,rfl,trivial⟩) ?_;refine bC (SE.fin (Γ':=[(4,_),(5,_)]) [2,0,1] ⟨rfl,rfl,trivial⟩ rfl) ?_;cases h;exact aZ () [_,.rep (.arr 4 (.int .i64)) M.2] 1 ⟨rfl,⟨_,_,_,_,_,rfl,(.tail _ (.head _)),CJ,(sn),rfl⟩,trivial⟩ rfl
def dK(k:Nat):Nat→((List ap)×Int)→Option (List ap)
 |0,_=>none
 |n+1,y5=>
  if y5.2 < 4 then((cF (0≤y5.2∧y5.2 < 4)).bind fun _=>
  (ck (y5.2+1)).bind fun x8=>
  dK k n (List.set y5.1 (Int.toNat y5.2) ((-1:Int),(-1:Int)),x8)) else(some y5.1)
def mY(k:Nat)(a0:(List ap)):Option (List ap):=
 ((dK k k ([(0,0),(0,0),(0,0),(0,0)],0)):Option ((List ap))).bind fun x3=>
 some (List.take 4 a0++List.drop (List.length a0) x3)
theorem tQ(k:Nat)(a0:(List ap))(r:(List ap))(h:mY k a0=some r):
 bQ Tryz.prog 65 [Rs aB a0] [] (fun _:Unit=>(bG [.rep (.arr 4 aB) r],[])):=by
 unfold mY at h
 replace h:=bi h
 refine bQ.of 16 Tryz.func65 rfl Tryz.ntmps65 rfl fun S w0=>?_
 refine sr ?_
 refine aA rfl rfl rfl (aF rfl Gx IO) trivial fun b1=>?_
 refine nt ?_
 refine sr ?_
 refine aA rfl rfl rfl (aF rfl Gx IO) trivial fun b2=>?_
 refine nt ?_
 refine ay (Z:=Unit) (α:=(List ap)) (fun z4 x3=>[(0,Rs aB a0),(2,Pt b1),(3,Pt b2)]) (fun z4 x3=>[.obj b1 121 (.rep (.arr 4 aB) [(0,0),(0,0),(0,0),(0,0)]),.obj b2 121 (.rep (.arr 4 aB) x3)]) h (fun K h=>?_) (fun z4 x3 h=>?_)
 ·
  refine sr (fg rfl ?_);refine nt (al (aD (fun z6 y5=>[(0,Rs aB a0),(2,Pt b1),(3,Pt b2),(5,I y5.2)]) (fun z6 y5=>[.obj b1 121 (.rep (.arr 4 aB) [(0,0),(0,0),(0,0),(0,0)]),.obj b2 121 (.rep (.arr 4 aB) y5.1)]) (dK k) k () ([(0,0),(0,0),(0,0),(0,0)],0) (fun _=>rfl) h (SE.fin [1,0] ⟨rfl,rfl,rfl,rfl,trivial⟩ rfl) (fun n z6 y5 h=>?_)));unfold dK at h;refine sr (jb (ba rfl) ?_);refine nt (aj (ci h (fun h=>?_) (fun h=>?_)))
  ·refine sk (aj (al (sr (mq ?_))));refine aq (nt (ah ?_));refine mq ?_;refine jb (cR [(0,.const (.int .i64 (-1)),_),(1,.const (.int .i64 (-1)),_)] rfl C0 vn xy (iF ⟨rfl,rfl,trivial⟩) rfl) ?_;obtain⟨u7,c,h⟩:=aa h;refine jb (cL rfl IQ j0 (av c).1 (av c).2) ?_;refine fr 1 ?_;refine aK rfl rfl (kH (t:=aB) (off:=0) (i:=y5.2) (N:=4) rfl j0 (.agg (.pair .int .int)) trivial rfl rfl rfl (av c).1 (av c).2 rfl) ⟨rfl,rfl,trivial⟩ ?_;refine aT (aO (tn (ah ?_)));obtain⟨x8,e,h⟩:=aa h;refine jb (bh rfl e) ?_;refine mq (nl ?_);exact jz ((),(List.set y5.1 (Int.toNat y5.2) ((-1:Int),(-1:Int)),x8)) h [1,0]
  ·refine xa ?_;exact jz ((),y5.1) h [0,1]
 ·
  refine sr (ja (vd rfl IQ j0) ?_);refine mq ?_;refine fr 1 ?_;refine kb (C7 rfl rfl rR j0) ?_;refine nt (sr (lo vX ?_));refine fr 1 ?_;refine aK rfl rfl (aE rfl vX rfl rfl rfl) ⟨rfl,rfl,trivial⟩ ?_;refine nt (aG ?_);cases h;exact aZ () [.rep (.arr 4 aB) (List.take 4 a0++List.drop (List.length a0) x3)] 0 ⟨⟨_,_,_,_,_,rfl,(.head _),vX,(sn),rfl⟩,trivial⟩ rfl
def dD(k:Nat)(a0:(List Int)):Nat→(Int×Int)→Option Int
 |0,_=>none
 |n+1,y4=>
  if y4.2 < (a0.length:Int) then((aL a0 y4.2).bind fun x6=>
  (ck (y4.2+1)).bind fun x7=>
  dD k a0 n (kD y4.1 x6,x7)) else(some y4.1)
def ma(k:Nat)(a0:(List Int)):Option Int:=
 if(a0.length:Int) < 1 then(none) else((aL a0 0).bind fun x1=>
 ((dD k a0 k (x1,1)):Option (Int)).bind fun x2=>
 some x2)
theorem v8(k:Nat)(a0:(List Int))(r:Int)(h:ma k a0=some r):
 bQ Tryz.prog 66 [Ri a0] [] (fun _:Unit=>(bG [I r],[])):=by
 unfold ma at h
 replace h:=bi h
 refine bQ.of 25 Tryz.func66 rfl Tryz.ntmps66 rfl fun S w0=>?_
 refine sr ?_
 refine cq ?_
 refine nt ?_
 refine aj ?_
 refine sr ?_
 refine mq ?_
 refine ol jt ?_
 refine jb (ba rfl) ?_
 refine nt ?_
 refine ci h (fun h=>?_) (fun h=>?_)
 ·
  refine ah ?_;cases h
 ·
  refine sk (sr (mq ?_));obtain⟨x1,j,h⟩:=aa h;refine jb (aC (t:=(.int .i64)) rfl jt cj j) ?_;refine ja (ao (t:=(.int .i64)) rfl cj rfl) ?_;refine aq (nt ?_);refine ay (Z:=Unit) (α:=Int) (fun z3 x2=>[(3,I x2)]) (fun z3 x2=>[]) h (fun K h=>?_) (fun z3 x2 h=>?_)
  ·refine sr (cq (nt (al ?_)));refine aD (fun z5 y4=>[(0,Ri a0),(3,I y4.1),(4,I y4.2)]) (fun z5 y4=>[]) (dD k a0) k () (x1,1) (fun _=>rfl) h (SE.fin [] ⟨rfl,rfl,rfl,trivial⟩ rfl) (fun n z5 y4 h=>?_);unfold dD at h;refine aj (sr ?_);iterate 2 refine mq ?_
   refine ol jt ?_;refine jb (ba rfl) ?_;refine nt (ci h (fun h=>?_) (fun h=>?_))
   ·refine sk (aj (al (ah ?_)));iterate 3 refine mq ?_
    obtain⟨x6,e,h⟩:=aa h;refine jb (aC (t:=(.int .i64)) rfl jt cj e) ?_;refine ja (ao (t:=(.int .i64)) rfl cj rfl) ?_;refine jb (AP rfl rfl) ?_;refine aq (aT (aO (tn (ah ?_))));refine mq ?_;obtain⟨x7,c,h⟩:=aa h;refine jb (bh rfl c) ?_;refine aq (nl ?_);exact jz ((),(kD y4.1 x6,x7)) h []
   ·refine xa ?_;exact jz ((),y4.1) h []
  ·refine sr (mq ?_);refine aq (nt (aG ?_));cases h;exact ra
def ln(l:List (Int×Int)):Value:=.agg (l.flatMap fun s=>[Value.int .i64 s.1,Value.int .i64 s.2]).toArray
theorem rh(l:List (Int×Int)):nY (ln l)=true:=by
 show((l.flatMap fun s=>[Value.int .i64 s.1,Value.int .i64 s.2]).toArray.toList.all vt)=true
 induction l with
 |nil=>rfl
 |cons s l _=>simp [vt]
theorem uE:∀{l l':List (Int×Int)},ln l=ln l'→l=l':=by
 have key:∀{l l':List (Int×Int)},(l.flatMap fun s=>[Value.int .i64 s.1,Value.int .i64 s.2])=(l'.flatMap fun s=>[Value.int .i64 s.1,Value.int .i64 s.2])→l=l':=by
  intro l
  induction l with
  |nil=>intro l' h;cases l' with
   |nil=>rfl
   |cons s l'=>simp at h
  |cons s l ih=>intro l' h;cases l' with
   |nil=>simp at h
   |cons s' l'=>
    obtain⟨a,b⟩:=s;obtain⟨a',b'⟩:=s';simp only [List.flatMap_cons,List.cons_append,List.nil_append,List.cons.injEq,Value.int.injEq,true_and] at h;rw [h.1,h.2.1,ih h.2.2]
 intro l l' h;simp only [ln,Value.agg.injEq] at h;exact key (by simpa using congrArg Array.toList h)
theorem pn{S:FS}{w:World}{u:Value}{l:List ap}(h:(A.rep (.arr 4 aB) l).holds S w u):u=ln l:=by
 obtain⟨cs,⟨_,h1⟩,h2⟩:=h
 have key:∀{l:List ap} {cs:List Value},dp (rd S w aB) l cs→cs=l.flatMap fun s=>[Value.int .i64 s.1,Value.int .i64 s.2]:=by
  intro l
  induction l with
  |nil=>intro cs h;exact h
  |cons s l ih=>
   rintro cs ⟨c1,c2,rfl,h1,h2⟩;have e1:c1=[Value.int .i64 s.1,Value.int .i64 s.2]:=zt aB rfl h1;rw [e1,ih h2];rfl
 rw [h2,key h1];rfl
def oc(p:List ap):List ap:=p++List.replicate (4 - p.length) (-1, -1)
def jA(a0:(ae×(List (Bool×Int))×(List Int)))(p:List ap):Prop:=p.length=a0.2.1.length∧p.length≤4∧∀s∈p,0≤s.1∧s.1 < 8∧0≤s.2∧s.2 < 8
instance (a0:(ae×(List (Bool×Int))×(List Int))) (p:List ap):Decidable (jA a0 p):=by unfold jA;infer_instance
theorem Bh{a0:(ae×(List (Bool×Int))×(List Int))}{p q:List ap}(hp:jA a0 p)(hq:jA a0 q)(h:oc p=oc q):p=q:=by
 have hl:p.length=q.length:=hp.1.trans hq.1.symm;unfold oc at h;exact(List.append_inj h hl).1
theorem H2{a0:(ae×(List (Bool×Int))×(List Int))}{p:List ap}(hp:jA a0 p)(h:oc p=oc []):p=[]:=by
 cases p with
 |nil=>rfl
 |cons s p=>
  exfalso;have h0:=(hp.2.2 s (by simp)).1;have h1:(oc (s::p))[0]? =(oc [])[0]? :=by rw [h]
  simp [oc] at h1;rw [h1] at h0;omega
theorem Bg{p:List ap}(h:p.length≤4):(oc p).length=4:=by simp [oc];omega
theorem L2:Tryz.prog.types.size+2≤10000:=Nat.le_of_ble_eq_true (by kernel_rfl)
theorem EV:121 < Tryz.prog.types.size:=Nat.lt_of_lt_of_le (Nat.lt_succ_self 121) (Nat.le_of_ble_eq_true (by kernel_rfl))
theorem wN:WideMaps.KeyLaw Tryz.prog 121:=deep_law_gate (by kernel_rfl) L2 (Nat.lt_of_lt_of_le (Nat.lt_succ_self 121) (Nat.le_of_ble_eq_true (by kernel_rfl))) (by kernel_rfl) (by kernel_rfl)
theorem Be{l:List ap}(h4:l.length=4)(hw:∀s∈l,(Lit.int .i64 s.1).wf=true∧(Lit.int .i64 s.2).wf=true):∃lt,keyOf Tryz.prog 121 (ln l)=some lt:=by
 match l,h4,hw with
 |[(a0,a1),(b0,b1),(c0,c1),(d0,d1)],_,hw=>
  have h1:=hw (a0,a1) (by simp);have h2:=hw (b0,b1) (by simp);have h3:=hw (c0,c1) (by simp);have h4:=hw (d0,d1) (by simp)
  have hint:∀(d:Nat) (n:Int),(Lit.int .i64 n).wf=true→Tryz.prog.keyLits (d+1) 3 [.int .i64 n]=some [.int .i64 n]:=fun d n h=>by
   simp only [Program.keyLits,U3,h,and_self,if_true]
  have hstep:∀(d:Nat) (n m:Int),(Lit.int .i64 n).wf=true→(Lit.int .i64 m).wf=true→Tryz.prog.keyLits (d+2) 99 [.int .i64 n,.int .i64 m]=some [.int .i64 n,.int .i64 m]:=fun d n m g1 g2=>by
   have hc:Tryz.prog.cellsOf 99=2:=by kernel_rfl
   have hc3:Tryz.prog.cellsOf 3=1:=by kernel_rfl
   simp [Program.keyLits,Qz,hc,hc3,g1,g2,U3]
  obtain⟨d,hd⟩:∃d,Tryz.prog.types.size+1=d+3:=⟨Tryz.prog.types.size - 2,by have:=EV;omega⟩;have hc:Tryz.prog.cellsOf 121=8:=by kernel_rfl
  have hc2:Tryz.prog.cellsOf 99=2:=by kernel_rfl
  have hk:Tryz.prog.keyType 121=true:=by kernel_rfl
  have hr:List.range 4=[0,1,2,3]:=by decide
  have hL:Tryz.prog.keyLits (Tryz.prog.types.size+1) 121 (ln [(a0,a1),(b0,b1),(c0,c1),(d0,d1)]).cells.toList=some [.int .i64 a0,.int .i64 a1,.int .i64 b0,.int .i64 b1,.int .i64 c0,.int .i64 c1,.int .i64 d0,.int .i64 d1]:=by
   rw [hd];unfold Program.keyLits;simp [ln,Value.cells,IQ,hc,hc2,hr,hstep,h1,h2,h3,h4]
  refine⟨.string (keyBytes [.int .i64 a0,.int .i64 a1,.int .i64 b0,.int .i64 b1,.int .i64 c0,.int .i64 c1,.int .i64 d0,.int .i64 d1]),?_⟩;unfold keyOf;rw [IQ];have hf:(ln [(a0,a1),(b0,b1),(c0,c1),(d0,d1)]).formed Tryz.prog 121=true:=by simp [ln,Value.formed,IQ,hc]
  simp only [hk,hf,Bool.and_self,if_true,hL,Option.map_some]
theorem sS{n:Int}(h1: -1≤n)(h2:n < 8):(Lit.int .i64 n).wf=true:=by
 simp only [Lit.wf,Bool.and_eq_true,decide_eq_true_eq];exact⟨Int.le_trans (by decide) h1,Int.le_trans (Int.le_of_lt h2) (by decide)⟩
theorem HZ{a0:(ae×(List (Bool×Int))×(List Int))}{p:List ap}(h:jA a0 p):∃lt,keyOf Tryz.prog 121 (ln (oc p))=some lt:=by
 refine Be (Bg h.2.1) fun s hs=>?_;simp only [oc,List.mem_append,List.mem_replicate] at hs;rcases hs with hs |⟨_,rfl⟩
 ·obtain⟨h1,h2,h3,h4⟩:=h.2.2 s hs;exact⟨sS (by omega) h2,sS (by omega) h4⟩
 ·exact⟨sS (by decide) (by decide),sS (by decide) (by decide)⟩
def cJ(k:Nat)(a0:(ae×(List (Bool×Int))×(List Int)))(a1:List ap):Option Int:=
 (cF (jA a0 a1)).bind fun _=>
 (mY k a1).bind fun ky=>
 (cF (ky=oc a1)).bind fun _=>
 (mY k []).bind fun k0=>
 (cF (k0=oc [])).bind fun _=>
 if a1=[] then some 0 else(dZ k a0 a1).bind fun r=>(ma k r.2).bind fun n=>some n
def bJ(k:Nat)(a0:(ae×(List (Bool×Int))×(List Int))):Obj→Prop:=nv Tryz.prog 121 fun kv n=>∃p,jA a0 p∧kv=ln (oc p)∧cJ k a0 p=some n
theorem kM{k:Nat}{a0:(ae×(List (Bool×Int))×(List Int))}:bJ k a0 (.map #[] 0):=nv.nil
theorem FD{k:Nat}{a0:(ae×(List (Bool×Int))×(List Int))}{kv:Value}:∀n n':Int,(∃p,jA a0 p∧kv=ln (oc p)∧cJ k a0 p=some n)→(∃p,jA a0 p∧kv=ln (oc p)∧cJ k a0 p=some n')→n=n':=by
 rintro n n' ⟨p,h1,h2,h3⟩ ⟨q,h4,h5,h6⟩;obtain rfl:=Bh h1 h4 (uE (h2.symm.trans h5));exact Option.some.inj (h3.symm.trans h6)
theorem rJ(k:Nat)(a0:(ae×(List (Bool×Int))×(List Int)))(c z_a0:Nat)(a1:(List ap))(r:Int)(h:cJ k a0 a1=some r):
 bQ Tryz.prog 31 [Pt c,Rs aB a1] [.obj c 80 (Qq a0 (.eq (.map (some z_a0)))),.inv z_a0 (bJ k a0)] (fun _:Unit=>(bG [I r],[.obj c 80 (Qq a0 (.eq (.map (some z_a0)))),.inv z_a0 (bJ k a0)])):=by
 have h0:=h
 unfold cJ at h
 replace h:=bi h
 obtain⟨u1,eg,h⟩:=aa h
 have hg:=av eg
 obtain⟨ky,eky,h⟩:=aa h
 obtain⟨u2,e2,h⟩:=aa h
 have hky:=av e2
 obtain⟨k0,ek0,h⟩:=aa h
 obtain⟨u3,e3,h⟩:=aa h
 have hk0:=av e3
 have gk:=HZ hg
 have g0:∃lt,keyOf Tryz.prog 121 (ln (oc []))=some lt:=Be (Bg (by simp)) (fun s hs=>by simp [oc] at hs;subst hs;exact⟨by decide,by decide⟩)
 rw [←hky] at gk
 rw [←hk0] at g0
 refine bQ.of 42 Tryz.func31 rfl Tryz.ntmps31 rfl fun S w0=>?_
 refine sr ?_
 refine cq ?_
 refine nt ?_
 refine sr ?_
 refine mq ?_
 refine ja (ak [.tmp 11] rfl rfl Og rfl (tQ k a1 ky eky)) ?_
 refine aA rfl rfl rfl (aF rfl Gx IO) trivial fun b1=>?_
 refine aK rfl rfl (aE rfl vX rfl rfl rfl) ⟨rfl,rfl,trivial⟩ ?_
 refine nt ?_
 refine aj ?_
 refine aj ?_
 refine a6 ?_
 refine ea 0 (ai rfl vX (sn) rfl) ?_
 refine da (gJ (N:=[(.const (.slice none 0 0),.eq (.slice none 0 0))]) (ak [.const (.slice none 0 0)] rfl rfl Og rfl (tQ k [] k0 ek0)) fun _ _ _ hn=>⟨(fe (t:=(.slice aB)) (x:=([]:(List ap))) .nil rfl rfl hn.1),trivial⟩) ?_
 refine df bw ?_
 refine be (Δ:=[]) (F:=_) (fun _ _ _=>az rfl _) rfl rfl (JZ (kv:=ln ky) (kw:=ln k0) (rh _) (rh _) rfl (by kernel_rfl) (by kernel_rfl) wN (by kernel_rfl) (fun _ _ _ hh=>pn hh) (fun _ _ _ hh=>pn hh) gk g0) ⟨rfl,rfl,trivial⟩ fun q5=>?_
 refine nt ?_
 refine ku rfl (fun hb=>?_) (fun hb=>?_)
 ·
  have hn:a1=[]:=H2 hg (by rw [←hky,←hk0];exact uE (q5.2.1 hb));replace h:=bY hn h;refine sr (cq (nt (rx ?_)));refine bC (SE.fin (Γ':=[(4,_)]) [1,2,0] ⟨rfl,trivial⟩ rfl) ?_;cases h;exact aZ () [_] 2 ⟨rfl,trivial⟩ rfl
 ·
  have hn:¬a1=[]:=fun e=>by rw [q5.2.2 (by rw [hky,hk0,e])] at hb;cases hb
  replace h:=bj hn h;refine sk (aj (aj (ef 2 rfl ?_)));refine DO fun ob hob=>?_;obtain⟨lnn,lbb,hlR,hlk⟩:=zI (z:=z_a0) Qo LZ wN gk FD hob;refine a6 ?_;refine dm ?_;refine da (aN rfl) ?_;refine da (am rfl If) ?_;refine ea 2 (ai rfl NT dF rfl) ?_;refine ea 1 (ai rfl vX (sn) rfl) ?_;refine eb 0 (Fp (kv:=ln ky) (rh _) (nv.calm hob) rfl (fun _ _ _ hh=>pn hh) hlk) ?_;refine dm ?_;refine da (fa rfl rfl) ?_;refine da (fa rfl rfl) ?_;refine da (il rfl) ?_;refine df bw ?_;refine aq (nt (sr ?_));refine mq (nt ?_);refine eL (jS (bJ k a0) hob) ?_;refine ku rfl (fun hb=>?_) (fun hb=>?_)
  ·obtain⟨p,hp,he,hl⟩:=hlR hb;have hpa:p=a1:=Bh hp hg (by rw [←hky];exact(uE he).symm);rw [hpa] at hl;replace h:(some lnn:Option Int).bind some=some r:=hl.symm.trans h0;refine sr (mq ?_);refine aq (nt (rx ?_));refine bC (SE.fin (Γ':=[(4,_)]) [2,0,1] ⟨rfl,trivial⟩ rfl) ?_;cases h;exact aZ () [_] 2 ⟨rfl,trivial⟩ rfl
  ·refine sk (sr ?_);iterate 2 refine mq ?_
   obtain⟨r2,l,h⟩:=aa h;refine fr 2 ?_;refine kb (ak [.tmp 28,.tmp 29] rfl rfl KU rfl (ib k ((a0.1.1,a0.1.2.1,a0.1.2.2.1,a0.1.2.2.2),a0.2.1,a0.2.2) c (.map (some z_a0)) a1 r2 l)) ?_;refine mq ?_;refine xr ?_;refine xr ?_;refine aA rfl rfl rfl (aF rfl ES F9) trivial fun b3=>?_;refine aq ?_;refine aK rfl rfl (aE rfl CJ rfl rfl rfl) ⟨rfl,rfl,trivial⟩ ?_;refine nt (sr (ja (vd rfl OF cj) ?_));refine eX (Gm (by decide)) ?_;obtain⟨r4,j,h⟩:=aa h;refine ka (pI (N:=[(.tmp 33,.eq (.slice (some ⟨b3,0,none⟩) 4 4))]) (ak [.tmp 33] rfl rfl PK rfl (v8 k r2.2 r4 j)) (fun _ _ _ hv hn=>⟨(HY hn.1 hv),trivial⟩) (fun _=>⟨rfl,wX⟩)) ?_;refine eX Gj ?_;refine aq (nt (aj ?_));refine a6 ?_;refine dm ?_;refine da (aN rfl) ?_;refine da (am rfl If) ?_;refine ea 1 (ai rfl NT dF rfl) ?_;refine ea 3 (ai rfl vX (sn) rfl) ?_;refine dm ?_;refine df bw ?_;refine fr 2 ?_;have hl:cJ k a0 a1=some r4:=h0.trans (show some r=some r4 from h.symm);refine aK rfl rfl (AQ (kv:=ln ky) (rh _) rfl Qo wN (fun _ _ _ hh=>pn hh) gk ⟨a1,hg,by rw [hky],hl⟩) ⟨rfl,rfl,rfl,trivial⟩ ?_;refine nt (sr (mq ?_));refine aq (nt (aG ?_));refine bC (SE.fin (Γ':=[(4,_)]) [2,0,1,3] ⟨rfl,trivial⟩ rfl) ?_;cases h;exact aZ () [_] 2 ⟨rfl,trivial⟩ rfl
def f6(k:Nat)(a0:(ae×(List (Bool×Int))×(List Int))):Option ((List ap)×Int×Bool):=
 (jl k (yo (fun(y5:Bool×Int×(List ap)) (p7:(List ap))=>
  (cJ k ((a0.1.1,a0.1.2.1,a0.1.2.2.1,a0.1.2.2.2),a0.2.1,a0.2.2) p7).bind fun r9=>
  ((if¬(y5.1=true) then(some true) else(some (decide (r9 < y5.2.1)))):Option (Bool)).bind fun c=>
  if c=true then(some ((true,r9,p7),true)) else(some ((y5.1,y5.2.1,y5.2.2),true)))) ((a0.1.1,a0.1.2.1,a0.1.2.2.1,a0.1.2.2.2),a0.2.1,a0.2.2) ((false,0,[]),false)).bind fun r8=>
 if r8.2=true then(none) else(some (r8.1.2.2,r8.1.2.1,r8.1.1))
theorem gy(k:Nat)(a0:(ae×(List (Bool×Int))×(List Int)))(c z_a0:Nat)(e:Nat)(r:(List ap)×Int×Bool)(h:f6 k a0=some r):
 bQ Tryz.prog 29 [.eq (.func (.func 60) #[] #[(Pv e)]),.eq (.func (.func 31) #[(Pv c)] #[])] [.obj c 80 (Qq a0 (.eq (.map (some z_a0)))),.inv z_a0 (bJ k a0),.obj e 65 (Pt c)] (fun _:Unit=>(bG [Rs aB r.1,I r.2.1,.eq (.bool r.2.2)],[.obj c 80 (Qq a0 (.eq (.map (some z_a0)))),.inv z_a0 (bJ k a0),.obj e 65 (Pt c)])):=by
 unfold f6 at h
 replace h:=bi h
 refine LF 29 Tryz.func29 rfl Tryz.ntmps29 rfl fun {M} S w0=>?_
 refine sr ?_
 refine bx fun b1=>?_
 refine cq ?_
 refine cq ?_
 refine cq ?_
 refine nt ?_
 refine sr ?_
 refine aA rfl rfl rfl (aF rfl NN OA) trivial fun b2=>?_
 refine nt ?_
 refine sr ?_
 refine aA rfl rfl rfl (aF rfl ym yX) trivial fun b3=>?_
 refine aA rfl rfl rfl (aF rfl Qr Qy) trivial fun b4=>?_
 refine fr 1 ?_
 refine aK rfl rfl (aE rfl cj rfl rfl rfl) ⟨rfl,rfl,trivial⟩ ?_
 refine fr 1 ?_
 refine aK rfl rfl (aE rfl qU rfl rfl rfl) ⟨rfl,rfl,trivial⟩ ?_
 refine nt ?_
 refine aj ?_
 refine sr ?_
 refine mq ?_
 refine nt ?_
 refine al ?_
 refine ef 2 rfl ?_
 refine eL (mO (a:=.eq (.slice none 0 0)) (a':=Rs aB []) (sO .nil)) ?_
 refine ef 5 rfl ?_
 refine ef 4 rfl ?_
 refine ef 2 rfl ?_
 refine ef 4 rfl ?_
 refine ef 4 rfl ?_
 refine ef 5 rfl ?_
 refine ef 6 rfl ?_
 obtain⟨r8,y,h⟩:=aa h
 refine Ad (Δ:=[.obj e 65 (Pt c),.obj c 80 (Qq a0 (.eq (.map (some z_a0)))),.obj b4 4 (.eq (.bool false)),.obj b3 3 (I 0),.obj b2 49 (Rs aB []),.obj b1 73 (.eq (.func (.func 31) #[(Pv c)] #[])),.inv z_a0 (bJ k a0)]) (F:=[]) (X:=Unit) (J:=fun _=>Pe r8.2) (E:=fun _=>[.obj e 65 (Pt c),.obj c 80 (Qq a0 (.eq (.map (some z_a0)))),.obj b4 4 (.eq (.bool r8.1.1)),.obj b3 3 (I r8.1.2.1),.obj b2 49 (Rs aB r8.1.2.2),.obj b1 73 (.eq (.func (.func 31) #[(Pv c)] #[])),.inv z_a0 (bJ k a0)]) (r0:=fun _=>.tup .any) rfl rfl PM (fun rec hp ha hb hs hpe hN hv l=>?_) (fun dl _=>CL (fun hj=>?_) (fun hj=>?_))
 ·
  rcases rec with⟨st0,pe0,fn0,tm0,ps0,as0,bd0,df0⟩;dsimp only at hp ha hb hs hpe hN hv;subst hp hs hpe;have vN:qL tm0 [(3,Pt b1),(7,Pt b2),(8,Pt b3),(9,Pt b4)]:=⟨congrArg A.eq (hv 3 _ rfl).symm,congrArg A.eq (hv 7 _ rfl).symm,congrArg A.eq (hv 8 _ rfl).symm,congrArg A.eq (hv 9 _ rfl).symm,trivial⟩;refine kE.pick (M:=M) [1,2,0,3,4,5,6,7] [2,0,1,3,4,5,6,7] (qG (fun(_:Unit) (q:(Bool×Int×(List ap))×Bool)=>[.raw l (.loop (nV ⟨.ready,none,fn0,tm0, #[13],as0,bd0,df0⟩ (Pe q.2))),.obj b4 4 (.eq (.bool q.1.1)),.obj b3 3 (I q.1.2.1),.obj b2 49 (Rs aB q.1.2.2),.obj b1 73 (.eq (.func (.func 31) #[(Pv c)] #[])),.inv z_a0 (bJ k a0)]) l (yo (fun(y5:Bool×Int×(List ap)) (p7:(List ap))=>
  (cJ k ((a0.1.1,a0.1.2.1,a0.1.2.2.1,a0.1.2.2.2),a0.2.1,a0.2.2) p7).bind fun r9=>
  ((if¬(y5.1=true) then(some true) else(some (decide (r9 < y5.2.1)))):Option (Bool)).bind fun j=>
  if j=true then(some ((true,r9,p7),true)) else(some ((y5.1,y5.2.1,y5.2.2),true)))) k ((a0.1.1,a0.1.2.1,a0.1.2.2.1,a0.1.2.2.2),a0.2.1,a0.2.2) c (.map (some z_a0)) e (fun z q p r' h=>?_) () ((false,0,[]),false) r8 y) rfl (fun _=>rfl) (fun _=>rfl)
  obtain⟨r2,hq,h2,rfl⟩:=CM h;obtain⟨y5,b5⟩:=q;obtain rfl:b5=false:=hq;replace h:=bi h2;obtain⟨p7,hpv⟩:∃x,x=p:=⟨_,rfl⟩;subst hpv;refine YT.pick (R':=(fun _:Unit=>(.eq (.bool r2.2),[.raw l (.loop (nV ⟨.ready,none,fn0,tm0, #[13],as0,bd0,df0⟩ (Pe (!r2.2)))),.obj c 80 (Qq a0 (.eq (.map (some z_a0)))),.obj b4 4 (.eq (.bool r2.1.1)),.obj b3 3 (I r2.1.2.1),.obj b2 49 (Rs aB r2.1.2.2),.obj b1 73 (.eq (.func (.func 31) #[(Pv c)] #[])),.inv z_a0 (bJ k a0)]))) [1,0,2,3,4,5,6] [1,0,2,3,4,5,6] (Nv ha hb (N:=29) (Γ:=[(3,Pt b1),(7,Pt b2),(8,Pt b3),(9,Pt b4)]) rfl hN (by decide) vN (fun S w=>?_)) rfl (fun _=>rfl) (fun _=>rfl);refine ah (aq (nl ?_));refine Jc rfl rfl ?_;refine al (sr (fr 5 ?_));refine lo OX ?_;refine mq ?_;obtain⟨r9,u,h⟩:=aa h;refine fr 6 ?_;refine fr 3 ?_;refine be (Δ:=[_,_]) (F:=_) (fun _ _ _=>az rfl _) rfl rfl (q7 (fs:=[(Pv c)]) (cs:=[]) (ags:=[Rs aB p7]) [.tmp 15] rfl rfl PW rfl (rJ k ((a0.1.1,a0.1.2.1,a0.1.2.2.1,a0.1.2.2.2),a0.2.1,a0.2.2) c z_a0 p7 r9 u)) ⟨rfl,rfl,trivial⟩ fun _=>?_;refine aq (nt ?_);refine ay (Z:=Unit) (α:=Bool) (fun n j=>[(7,Pt b2),(8,Pt b3),(9,Pt b4),(10,Rs aB p7),(11,I r9),(23,.eq (.bool j))]) (fun n j=>[.obj b2 49 (Rs aB y5.2.2),.obj b3 3 (I y5.2.1),.obj b4 4 (.eq (.bool y5.1)),.obj c 80 (Qq a0 (.eq (.map (some z_a0)))),.inv z_a0 (bJ k a0),.obj b1 73 (.eq (.func (.func 31) #[(Pv c)] #[])),.raw l (.loop (⟨.busy,none,fn0,tm0, #[13],as0,bd0,df0⟩:Loop))]) h (fun K h=>?_) (fun n j h=>?_)
  ·refine ah (fr 4 ?_);refine lo qU ?_;refine ja (eE rfl) ?_;refine mq ?_;refine aM (s:=19) rfl (fun hb=>?_) (fun hb=>?_)
   ·replace h:=bY (uu hb) h;iterate 3 refine gn ?_
    refine pt (nl ?_);exact jz ((),true) h [6,5,0,1,2,3,4]
   ·replace h:=bj (ox hb) h;refine gm ?_;refine fr 5 ?_;refine bO rfl rfl rfl rfl rfl rfl (ai rfl cj dF rfl) ⟨rfl,trivial⟩ ?_;refine gb (ba rfl) ?_;refine pf (nl ?_);exact jz ((),decide (r9 < y5.2.1)) h [6,0,1,2,3,4,5]
  ·refine cv h (fun h=>?_) (fun h=>?_)
   ·refine ah ?_;iterate 2 refine mq ?_
    refine aK rfl rfl (aE rfl rU rfl rfl rfl) ⟨rfl,rfl,trivial⟩ ?_;refine fr 1 ?_;refine aK rfl rfl (aE rfl cj rfl rfl rfl) ⟨rfl,rfl,trivial⟩ ?_;refine fr 2 ?_;refine aK rfl rfl (aE rfl qU rfl rfl rfl) ⟨rfl,rfl,trivial⟩ ?_;refine aT (aO (dn 4 rfl ?_));refine dn 5 rfl ?_;refine dn 4 rfl ?_;refine dn 4 rfl ?_;refine dn 4 rfl ?_;refine dn 5 rfl ?_;refine dn 6 rfl ?_;cases h;exact zb () 6 rfl
   ·refine aU (aO (dn 4 rfl ?_));refine dn 5 rfl ?_;refine dn 2 rfl ?_;refine dn 3 rfl ?_;refine dn 4 rfl ?_;refine dn 5 rfl ?_;refine dn 6 rfl ?_;cases h;exact zb () 6 rfl
 ·
  replace h:=bj (ud hj) h;refine aO (tn (aj (a6 ?_)));refine ea 5 (ai rfl rU dF rfl) ?_;refine ea 4 (ai rfl cj dF rfl) ?_;refine ea 3 (ai rfl qU dF rfl) ?_;refine da (il rfl) ?_;refine da (il rfl) ?_;refine df bw ?_;refine aq (nt (aG ?_));refine Ls ?_;refine bC (SE.fin (Γ':=[(4,_),(5,_),(6,_)]) [1,6,0,2,3,4,5] ⟨rfl,rfl,rfl,trivial⟩ rfl) ?_;cases h;exact aZ () [_,_,_] 3 ⟨rfl,rfl,rfl,trivial⟩ rfl
 ·
  replace h:=bY (uc hj) h;cases h
def bS(k:Nat)(a0:List ax):Option (List ax):=
 (cF (cx (List.length a0))).bind fun _=>some a0
theorem f8(k:Nat)(a0:List ax)(r:List ax)(h:bS k a0=some r):
 bQ Tryz.prog 40 [Rs aw a0] [] (fun z:Value=>(bG [.eq z],[.sl z 47 aw r])):=by
 unfold bS at h
 replace h:=bi h
 refine bQ.of 8 Tryz.func40 rfl Tryz.ntmps40 rfl fun S w0=>?_
 obtain⟨u1,c,h⟩:=aa h
 cases h
 refine sr ?_
 refine cq ?_
 refine nt ?_
 refine aj ?_
 refine sr ?_
 refine mq ?_
 refine be (Δ:=[]) (F:=_) (fun _ _ _=>az rfl _) rfl rfl (zz rfl l8) ⟨rfl,rfl,trivial⟩ fun b=>?_
 refine nt ?_
 refine ku rfl (fun hb=>?_) (fun hb=>?_)
 ·
  refine sr (cq (nt (rx ?_)));obtain rfl:=b.2 hb;refine bC (SE.nil 47 aw) ?_;exact aZ (.slice none 0 0) [.eq (.slice none 0 0)] 1 ⟨rfl,trivial⟩ rfl
 ·
  refine sk (sr (aA rfl rfl rfl (lO (t:=aw) [] [] rfl rfl wa .nil rfl rfl) trivial fun v1=>?_));refine mq ?_;refine dE rfl rfl rfl (bI rfl rfl wa (by simpa using av c)) ⟨rfl,rfl,trivial⟩ fun v2=>?_;refine aq (nt (aG ?_));exact aZ v2 [.eq v2] 1 ⟨rfl,trivial⟩ rfl
def iy(k:Nat)(a0:(ae×(List (Bool×Int))×(List Int)))(a1:(List ax)):Option (Int×Bool):=
 (bM k (a0.1.1,a1,a0.1.2.2.1,a0.1.2.2.2)).bind fun r2=>
 jE r2.1 (if¬(r2.2=0) then(some (0,false)) else(none)) (fun q3=>if¬(r2.2=0) then(some (0,false)) else((f6 k ((q3.1.1,q3.1.2.1,q3.1.2.2.1,q3.1.2.2.2),q3.2.1,q3.2.2)).bind fun r6=>
 some (r6.2.1,r6.2.2)))
theorem rK(k:Nat)(a0:(ae×(List (Bool×Int))×(List Int)))(c:Nat)(j:Value)(a1:(List ax))(r:Int×Bool)(h:iy k a0 a1=some r):
 bQ Tryz.prog 41 [Pt c,Rs aw a1] [.obj c 80 (Qq a0 (.eq j))] (fun _:Unit=>(bG [I r.1,.eq (.bool r.2)],[.obj c 80 (Qq a0 (.eq j))])):=by
 unfold iy at h
 replace h:=bi h
 refine bQ.of 36 Tryz.func41 rfl Tryz.ntmps41 rfl fun S w0=>?_
 refine sr ?_
 refine cq ?_
 refine cq ?_
 refine nt ?_
 refine sr ?_
 refine mq ?_
 refine ja (aN rfl) ?_
 refine fl eT ?_
 refine lo bL ?_
 refine aA rfl rfl rfl (aF rfl oS rM) trivial fun b1=>?_
 refine aK rfl rfl (aE rfl bL trivial rfl rfl) ⟨rfl,rfl,trivial⟩ ?_
 refine nt ?_
 refine sr ?_
 refine mq ?_
 refine fl bA ?_
 refine aK rfl rfl (aE rfl eu rfl rfl rfl) ⟨rfl,rfl,trivial⟩ ?_
 refine nt ?_
 refine sr ?_
 refine lo bL ?_
 obtain⟨r2,n,h⟩:=aa h
 have e:=gz k (a0.1.1,a1,a0.1.2.2.1,a0.1.2.2.2) r2 n
 rcases hr:r2.1 with _ |q3
 ·
  rw [hr] at h e;replace h:=xj h;refine be (Δ:=[]) (F:=_) (fun _ _ _=>az rfl _) rfl rfl (gJ (N:=[(.tmp 19,.agg (.pair (Rs aJ a0.1.1) (.pair (Rs aw a1) (.pair (Ri a0.1.2.2.1) (Ri a0.1.2.2.2)))))]) (ak [.tmp 19] rfl rfl rI rfl e) fun _ _ _ hn=>⟨(fe (t:=ag) (x:=(a0.1.1,a1,a0.1.2.2.1,a0.1.2.2.2)) (.agg (.pair .rep (.pair .rep (.pair .rep .rep)))) trivial rfl hn.1),trivial⟩) ⟨rfl,trivial⟩ fun _=>?_;refine mq ?_;refine xr ?_;refine xr ?_;refine aq ?_;refine aq (nt (aj (sr ?_)));refine mq ?_;refine jb (bT rfl) ?_;refine nt (cn h (fun h=>?_) (fun h=>?_))
  ·refine sr (cq ?_);refine cq (nt (rx ?_));refine bC (SE.fin (Γ':=[(4,_),(5,_)]) [1,0] ⟨rfl,rfl,trivial⟩ rfl) ?_;cases h;exact aZ () [_,_] 1 ⟨rfl,rfl,trivial⟩ rfl
  ·refine sk (sr (mq ?_));cases h
 ·
  rw [hr] at h e;replace h:=xi h;refine be (Δ:=[]) (F:=_) (fun _ _ _=>az rfl _) rfl rfl (gJ (N:=[(.tmp 19,.agg (.pair (Rs aJ a0.1.1) (.pair (Rs aw a1) (.pair (Ri a0.1.2.2.1) (Ri a0.1.2.2.2)))))]) (ak [.tmp 19] rfl rfl rI rfl e) fun _ _ _ hn=>⟨(fe (t:=ag) (x:=(a0.1.1,a1,a0.1.2.2.1,a0.1.2.2.2)) (.agg (.pair .rep (.pair .rep (.pair .rep .rep)))) trivial rfl hn.1),trivial⟩) ⟨rfl,trivial⟩ fun z4=>?_;refine mq ?_;refine xr ?_;refine xr ?_;refine aq ?_;refine aq (nt (aj (sr ?_)));refine mq ?_;refine jb (bT rfl) ?_;refine nt (cn h (fun h=>?_) (fun h=>?_))
  ·refine sr (cq ?_);refine cq (nt (rx ?_));refine bC (SE.fin (Γ':=[(4,_),(5,_)]) [3,0,1,2] ⟨rfl,rfl,trivial⟩ rfl) ?_;cases h;exact aZ () [_,_] 1 ⟨rfl,rfl,trivial⟩ rfl
  ·refine sk (sr (mq ?_));refine aA rfl rfl rfl (ak [.tmp 26] rfl rfl vy rfl (bN z4.1)) ⟨rfl,trivial⟩ fun b5=>?_;refine mq ?_;refine ja (jU [.tmp 28] [] [(.pointer (some ⟨z4.1,0,none⟩))] [] rfl rfl rfl) ?_;refine fr 2 ?_;refine eX (jS (bJ k ((q3.1.1,q3.1.2.1,q3.1.2.2.1,q3.1.2.2.2),q3.2.1,q3.2.2)) kM) ?_;obtain⟨r6,l,h⟩:=aa h;refine fr 1 ?_;refine fr 1 ?_;refine fr 2 ?_;refine be (Δ:=[_,_,_]) (F:=_) (fun _ _ _=>az rfl _) rfl rfl (ak [.tmp 27,.tmp 29] rfl rfl Bt rfl (gy k ((q3.1.1,q3.1.2.1,q3.1.2.2.1,q3.1.2.2.2),q3.2.1,q3.2.2) z4.1 z4.2 b5 r6 l)) ⟨rfl,rfl,trivial⟩ fun _=>?_;refine mq ?_;refine xr ?_;refine xr ?_;refine xr ?_;refine aq ?_;refine aq ?_;refine aq (nt (sr ?_));iterate 2 refine mq ?_
   refine aq ?_;refine aq (nt (aG ?_));refine bC (SE.fin (Γ':=[(4,_),(5,_)]) [4,0,1,2,3] ⟨rfl,rfl,trivial⟩ rfl) ?_;cases h;exact aZ () [_,_] 1 ⟨rfl,rfl,trivial⟩ rfl
def ff(k:Nat)(a0:fp)(a1:(List ax)):Option (Int×Bool):=
 (bM k (a0.1.1,a1,a0.1.2.2)).bind fun r2=>
 jE r2.1 (if¬(r2.2=0) then(some (0,false)) else(none)) (fun q3=>if¬(r2.2=0) then(some (0,false)) else((f6 k ((q3.1.1,q3.1.2.1,q3.1.2.2.1,q3.1.2.2.2),q3.2.1,q3.2.2)).bind fun r6=>
 some (r6.2.1,r6.2.2)))
theorem ml(k:Nat)(a0:fp)(a1:(List ax))(r:Int×Bool)(h:ff k a0 a1=some r):
 bQ Tryz.prog 41 [.at di a0,Rs aw a1] [] (fun _:Unit=>(bG [I r.1,.eq (.bool r.2)],[])):=by
 unfold ff at h
 replace h:=bi h
 refine bQ.of 36 Tryz.func41 rfl Tryz.ntmps41 rfl fun S w0=>?_
 refine sr ?_
 refine cq ?_
 refine cq ?_
 refine nt ?_
 refine sr ?_
 refine mq ?_
 refine ja (j9 rfl) ?_
 refine ja (a8 4 true rfl eT rfl) ?_
 refine ja (ao (t:=ag) rfl bL rfl) ?_
 refine aA rfl rfl rfl (aF rfl oS rM) trivial fun b1=>?_
 refine aK rfl rfl (aE rfl bL rfl rfl rfl) ⟨rfl,rfl,trivial⟩ ?_
 refine nt ?_
 refine sr ?_
 refine mq ?_
 refine fl bA ?_
 refine aK rfl rfl (aE rfl eu rfl rfl rfl) ⟨rfl,rfl,trivial⟩ ?_
 refine nt ?_
 refine sr ?_
 refine lo bL ?_
 obtain⟨r2,j,h⟩:=aa h
 have c:=gz k (a0.1.1,a1,a0.1.2.2) r2 j
 rcases hr:r2.1 with _ |q3
 ·
  rw [hr] at h c;replace h:=xj h;refine be (Δ:=[]) (F:=_) (fun _ _ _=>az rfl _) rfl rfl (gJ (N:=[(.tmp 19,.agg (.pair (Rs aJ a0.1.1) (.pair (Rs aw a1) (.rep (.pair (.slice (.int .i64)) (.slice (.int .i64))) a0.1.2.2))))]) (ak [.tmp 19] rfl rfl rI rfl c) fun _ _ _ hn=>⟨(fe (t:=ag) (x:=(a0.1.1,a1,a0.1.2.2)) (.agg (.pair .rep (.pair .rep .rep))) trivial rfl hn.1),trivial⟩) ⟨rfl,trivial⟩ fun _=>?_;refine mq ?_;refine xr ?_;refine xr ?_;refine aq ?_;refine aq (nt (aj (sr ?_)));refine mq ?_;refine jb (bT rfl) ?_;refine nt (cn h (fun h=>?_) (fun h=>?_))
  ·refine sr (cq ?_);refine cq (nt (rx ?_));cases h;exact rb
  ·refine sk (sr (mq ?_));cases h
 ·
  rw [hr] at h c;replace h:=xi h;refine be (Δ:=[]) (F:=_) (fun _ _ _=>az rfl _) rfl rfl (gJ (N:=[(.tmp 19,.agg (.pair (Rs aJ a0.1.1) (.pair (Rs aw a1) (.rep (.pair (.slice (.int .i64)) (.slice (.int .i64))) a0.1.2.2))))]) (ak [.tmp 19] rfl rfl rI rfl c) fun _ _ _ hn=>⟨(fe (t:=ag) (x:=(a0.1.1,a1,a0.1.2.2)) (.agg (.pair .rep (.pair .rep .rep))) trivial rfl hn.1),trivial⟩) ⟨rfl,trivial⟩ fun z4=>?_;refine mq ?_;refine xr ?_;refine xr ?_;refine aq ?_;refine aq (nt (aj (sr ?_)));refine mq ?_;refine jb (bT rfl) ?_;refine nt (cn h (fun h=>?_) (fun h=>?_))
  ·refine sr (cq ?_);refine cq (nt (rx ?_));cases h;exact rb
  ·refine sk (sr (mq ?_));refine aA rfl rfl rfl (ak [.tmp 26] rfl rfl vy rfl (bN z4.1)) ⟨rfl,trivial⟩ fun b5=>?_;refine mq ?_;refine ja (jU [.tmp 28] [] [(.pointer (some ⟨z4.1,0,none⟩))] [] rfl rfl rfl) ?_;refine fr 2 ?_;refine eX (jS (bJ k ((q3.1.1,q3.1.2.1,q3.1.2.2.1,q3.1.2.2.2),q3.2.1,q3.2.2)) kM) ?_;obtain⟨r6,e,h⟩:=aa h;refine fr 1 ?_;refine fr 1 ?_;refine fr 2 ?_;refine be (Δ:=[_,_,_]) (F:=_) (fun _ _ _=>az rfl _) rfl rfl (ak [.tmp 27,.tmp 29] rfl rfl Bt rfl (gy k ((q3.1.1,q3.1.2.1,q3.1.2.2.1,q3.1.2.2.2),q3.2.1,q3.2.2) z4.1 z4.2 b5 r6 e)) ⟨rfl,rfl,trivial⟩ fun _=>?_;refine mq ?_;refine xr ?_;refine xr ?_;refine xr ?_;refine aq ?_;refine aq ?_;refine aq (nt (sr ?_));iterate 2 refine mq ?_
   refine aq ?_;refine aq (nt (aG ?_));cases h;exact rb
def jO(k:Nat)(a1:Int)(q3:(ae×(List (Bool×Int))×(List Int)))(r8:(List ap)×Int×Bool):Nat→(Int×(List ax))→Option (Int×Int)
 |0,_=>none
 |n+1,c=>
  (aL c.2 a1).bind fun e=>
  (ff k ((q3.1.1,q3.1.2.1,q3.1.2.2.1,q3.1.2.2.2),q3.2.1,q3.2.2,()) (List.set c.2 (Int.toNat a1) (e.1,e.2.1,c.1))).bind fun j=>
  if r8.2.1 < j.1 then((ck (c.1 - 1)).bind fun h=>
  jO k a1 q3 r8 n (h,List.set c.2 (Int.toNat a1) (e.1,e.2.1,c.1))) else(some (c.1,0))
def jP(k:Nat)(a0:ae)(a1:Int):Option (Int×Int):=
 (bM k a0).bind fun r2=>
 jE r2.1 (if¬(r2.2=0) then(some (0,r2.2)) else(none)) (fun q3=>if¬(r2.2=0) then(some (0,r2.2)) else((ck ((q3.1.2.1.length:Int) - 1)).bind fun x5=>
 (bD k a1 0 x5).bind fun r6=>
 if r6=true then(some (0,3)) else((f6 k ((q3.1.1,q3.1.2.1,q3.1.2.2.1,q3.1.2.2.2),q3.2.1,q3.2.2)).bind fun r8=>
 if¬(r8.2.2=true) then(some (0,11)) else((bS k q3.1.2.1).bind fun r9=>
 jO k a1 q3 r8 k (9,r9)))))
theorem tR(k:Nat)(a0:ae)(a1:Int)(r:Int×Int)(h:jP k a0 a1=some r):
 bQ Tryz.prog 12 [.rep ag a0,I a1] [] (fun _:Unit=>(bG [I r.1,I r.2],[])):=by
 unfold jP at h
 replace h:=bi h
 refine bQ.of 66 Tryz.func12 rfl Tryz.ntmps12 rfl fun S w0=>?_
 refine sr ?_
 refine bx fun b1=>?_
 refine cq ?_
 refine cq ?_
 refine nt ?_
 refine zc rfl (py (by kernel_rfl) (py (by kernel_rfl) (py (by kernel_rfl) (py (by kernel_rfl) (py (by kernel_rfl) (py (by kernel_rfl) (py (by kernel_rfl) (Ij Ii)))))))) ?_
 refine sr ?_
 refine lo bL ?_
 obtain⟨r2,X,h⟩:=aa h
 have l:=gz k a0 r2 X
 rcases hr:r2.1 with _ |q3
 ·
  rw [hr] at h l;replace h:=xj h;refine be (Δ:=[]) (F:=_) (fun _ _ _=>az rfl _) rfl rfl (ak [.tmp 16] rfl rfl rI rfl l) ⟨rfl,trivial⟩ fun _=>?_;refine mq ?_;refine xr ?_;refine xr ?_;refine aq ?_;refine aq (nt (aj (sr ?_)));refine mq ?_;refine jb (bT rfl) ?_;refine nt (cn h (fun h=>?_) (fun h=>?_))
  ·refine sr (mq ?_);refine cq ?_;refine aq (nt (rx ?_));refine qO ?_;cases h;exact rb
  ·refine sk (aj (sr ?_));iterate 2 refine mq ?_
   cases h
 ·
  rw [hr] at h l;replace h:=xi h;refine be (Δ:=[]) (F:=_) (fun _ _ _=>az rfl _) rfl rfl (ak [.tmp 16] rfl rfl rI rfl l) ⟨rfl,trivial⟩ fun z4=>?_;refine mq ?_;refine xr ?_;refine xr ?_;refine aq ?_;refine aq (nt (aj (sr ?_)));refine mq ?_;refine jb (bT rfl) ?_;refine nt (cn h (fun h=>?_) (fun h=>?_))
  ·refine sr (mq ?_);refine cq ?_;refine aq (nt (rx ?_));refine qO ?_;cases h;exact rb
  ·refine sk (aj (sr ?_));iterate 2 refine mq ?_
   refine ja (aN rfl) ?_;refine fl eT ?_;refine fl bA ?_;refine lo eu ?_;refine ol l8 ?_;obtain⟨x5,M,h⟩:=aa h;refine jb (g7 rfl M) ?_;obtain⟨r6,U,h⟩:=aa h;refine jc (ak [.tmp 23,.const (.int .i64 (0)),.tmp 30] rfl rfl xd rfl (dk k a1 0 x5 r6 U)) ?_;refine nt (cv h (fun h=>?_) (fun h=>?_))
   ·refine sr (cq ?_);refine cq (nt (rx ?_));refine qO ?_;cases h;exact rb
   ·refine sk (sr (mq ?_));refine aA rfl rfl rfl (ak [.tmp 33] rfl rfl vy rfl (bN z4.1)) ⟨rfl,trivial⟩ fun b7=>?_;refine mq ?_;refine ja (jU [.tmp 35] [] [(.pointer (some ⟨z4.1,0,none⟩))] [] rfl rfl rfl) ?_;refine fr 2 ?_;refine eX (jS (bJ k ((q3.1.1,q3.1.2.1,q3.1.2.2.1,q3.1.2.2.2),q3.2.1,q3.2.2)) kM) ?_;obtain⟨r8,Q,h⟩:=aa h;refine fr 1 ?_;refine fr 1 ?_;refine fr 2 ?_;refine be (Δ:=[_,_,_]) (F:=_) (fun _ _ _=>az rfl _) rfl rfl (ak [.tmp 34,.tmp 36] rfl rfl Bt rfl (gy k ((q3.1.1,q3.1.2.1,q3.1.2.2.1,q3.1.2.2.2),q3.2.1,q3.2.2) z4.1 z4.2 b7 r8 Q)) ⟨rfl,rfl,trivial⟩ fun _=>?_;refine mq ?_;refine xr ?_;refine xr ?_;refine xr ?_;refine aq ?_;refine aq ?_;refine aq (nt (aj (sr ?_)));refine mq ?_;refine ja (eE rfl) ?_;refine nt (cw h (fun h=>?_) (fun h=>?_))
    ·refine sr (cq ?_);refine cq (nt (rx ?_));refine qO ?_;cases h;exact rb
    ·refine sk (sr (cq (nt (sr ?_))));refine mq ?_;refine ja (aN rfl) ?_;refine fl eT ?_;refine fl bA ?_;refine lo eu ?_;obtain⟨r9,O,h⟩:=aa h;refine aA rfl rfl rfl (ak [.tmp 47] rfl rfl KV rfl (f8 k q3.1.2.1 r9 O)) ⟨rfl,trivial⟩ fun s=>?_;refine aq (nt (aj ?_));refine BY ?_;refine tn (ef 1 rfl ?_);refine eL (lV (t:=di) (x:=((q3.1.1,q3.1.2.1,q3.1.2.2.1,q3.1.2.2.2),q3.2.1,q3.2.2,())) [6,18,24,25,26,33,35,43,44,45] (.agg (.pair (.agg (.pair .rep (.pair .rep (.pair .rep .rep)))) (.pair .rep (.pair .rep (.ign rfl))))) ⟨rfl,rfl,rfl,rfl,rfl,rfl,rfl,rfl,rfl,rfl,trivial⟩) ?_;refine DT (Z:=Unit) (α:=Int×(List ax)) rfl (fun u c=>[(1,I a1),(6,.at di ((q3.1.1,q3.1.2.1,q3.1.2.2.1,q3.1.2.2.2),q3.2.1,q3.2.2,())),(9,I r8.2.1),(11,I c.1),(12,.eq s)]) (fun u c=>[.sl s 47 aw c.2,.inv z4.2 (bJ k ((q3.1.1,q3.1.2.1,q3.1.2.2.1,q3.1.2.2.2),q3.2.1,q3.2.2))]) (jO k a1 q3 r8) k () (9,r9) (fun _=>rfl) h (SE.fin [0,1] ⟨rfl,rfl,rfl,rfl,rfl,trivial⟩ rfl) (fun n u c h=>?_);unfold jO at h;refine sr ?_;iterate 3 refine mq ?_
     obtain⟨j,e,h⟩:=aa h;refine kb (bk (t:=aw) rfl l8 eI e) ?_;refine ka (kC rfl od (pp e)) ?_;refine aK rfl rfl (nb (i:=Int.toNat a1) (off:=2) rfl cj rfl (bP e).2.2 .int rfl (.agg (.right (.right .whole rfl) rfl))) ⟨rfl,rfl,trivial⟩ ?_;refine nt (aj (sr ?_));iterate 2 refine mq ?_
     obtain⟨J,D,h⟩:=aa h;refine kb (pI (N:=[(.tmp 55,.at di ((q3.1.1,q3.1.2.1,q3.1.2.2.1,q3.1.2.2.2),q3.2.1,q3.2.2,())),(.tmp 56,.eq s)]) (ak [.tmp 55,.tmp 56] rfl rfl Na rfl (ml k ((q3.1.1,q3.1.2.1,q3.1.2.2.1,q3.1.2.2.2),q3.2.1,q3.2.2,()) (List.set c.2 (Int.toNat a1) (j.1,j.2.1,c.1)) J D)) (fun _ _ _ hv hn=>⟨hn.1,(HY hn.2.1 hv),trivial⟩) (fun _=>⟨rfl,wX⟩)) ?_;refine mq ?_;refine xr ?_;refine xr ?_;refine aq ?_;refine aq (nt (sr ?_));iterate 2 refine mq ?_
     refine jb (ik rfl) ?_;refine nt (ci h (fun h=>?_) (fun h=>?_))
     ·refine sr (mq ?_);obtain⟨E,y,h⟩:=aa h;refine jb (g7 rfl y) ?_;refine aq (nt ?_);refine Ly ?_;refine Gp ?_;exact Lu ((),(E,List.set c.2 (Int.toNat a1) (j.1,j.2.1,c.1))) h (SE.fin [0,1] ⟨rfl,rfl,rfl,rfl,rfl,trivial⟩ rfl)
     ·refine sk (sr (mq ?_));refine aq ?_;refine cq (nt (aG ?_));refine qO ?_;cases h;exact rb
def j6(k:Nat)(a0:List Int):Option (List Int):=
 (cF (cx (List.length a0))).bind fun _=>some a0
theorem uj(k:Nat)(a0:List Int)(r:List Int)(h:j6 k a0=some r):
 bQ Tryz.prog 44 [Ri a0] [] (fun z:Value=>(bG [.eq z],[.sl z 3 (.int .i64) r])):=by
 unfold j6 at h
 replace h:=bi h
 refine bQ.of 8 Tryz.func44 rfl Tryz.ntmps44 rfl fun S w0=>?_
 obtain⟨u1,c,h⟩:=aa h
 cases h
 refine sr ?_
 refine cq ?_
 refine nt ?_
 refine aj ?_
 refine sr ?_
 refine mq ?_
 refine be (Δ:=[]) (F:=_) (fun _ _ _=>az rfl _) rfl rfl (zz rfl jt) ⟨rfl,rfl,trivial⟩ fun b=>?_
 refine nt ?_
 refine ku rfl (fun hb=>?_) (fun hb=>?_)
 ·
  refine sr (cq (nt (rx ?_)));obtain rfl:=b.2 hb;refine bC (SE.nil 3 (.int .i64)) ?_;exact aZ (.slice none 0 0) [.eq (.slice none 0 0)] 1 ⟨rfl,trivial⟩ rfl
 ·
  refine sk (sr (aA rfl rfl rfl (lO (t:=(.int .i64)) [] [] rfl rfl eo .nil rfl rfl) trivial fun v1=>?_));refine mq ?_;refine dE rfl rfl rfl (bI rfl rfl eo (by simpa using av c)) ⟨rfl,rfl,trivial⟩ fun v2=>?_;refine aq (nt (aG ?_));exact aZ v2 [.eq v2] 1 ⟨rfl,trivial⟩ rfl
def rz(k:Nat)(a0:Int):Option Bool:=
 some (!decide (a0=a0))
theorem tM(k:Nat)(a0:Int)(r:Bool)(h:rz k a0=some r):
 bQ Tryz.prog 107 [I a0] [] (fun _:Unit=>(bG [.eq (.bool r)],[])):=by
 unfold rz at h
 replace h:=bi h
 refine bQ.of 6 Tryz.func107 rfl Tryz.ntmps107 rfl fun S w0=>?_
 refine sr ?_
 refine cq ?_
 refine nt ?_
 refine sr ?_
 iterate 2 refine mq ?_
 refine jb (bT rfl) ?_
 refine aq ?_
 refine nt ?_
 refine aG ?_
 cases h
 exact ra
def xl(k:Nat)(a0:Int)(a1:Int):Option Bool:=
 (((rz k a0).bind fun r3=>
 if r3=true then((rz k a1).bind fun r4=>
 if¬(r4=true) then(some true) else(some (decide (a0 < a1)))) else(some (decide (a0 < a1)))):Option (Bool)).bind fun x1=>
 some x1
theorem BF(k:Nat)(a0:Int)(a1:Int)(r:Bool)(h:xl k a0 a1=some r):
 bQ Tryz.prog 94 [I a0,I a1] [] (fun _:Unit=>(bG [.eq (.bool r)],[])):=by
 unfold xl at h
 replace h:=bi h
 refine bQ.of 17 Tryz.func94 rfl Tryz.ntmps94 rfl fun S w0=>?_
 refine sr ?_
 refine cq ?_
 refine nt ?_
 refine ay (Z:=Unit) (α:=Bool) (fun z2 x1=>[(4,.eq (.bool x1))]) (fun z2 x1=>[]) h (fun K h=>?_) (fun z2 x1 h=>?_)
 ·
  refine ah (mq ?_);obtain⟨r3,e,h⟩:=aa h;refine ja (ak [.tmp 5] rfl rfl LS rfl (tM k a0 r3 e)) ?_;refine mq ?_;refine aM (s:=7) rfl (fun hb=>?_) (fun hb=>?_)
  ·replace h:=bY (uc hb) h;refine gm ?_;obtain⟨r4,c,h⟩:=aa h;refine ga (ak [.tmp 8] rfl rfl LS rfl (tM k a1 r4 c)) ?_;refine ga (eE rfl) ?_;refine pt ?_;refine mq ?_;refine aM (s:=12) rfl (fun hb=>?_) (fun hb=>?_)
   ·replace h:=bY (uu hb) h;iterate 3 refine gn ?_
    refine pt ?_;refine aq (nl ?_);exact jz ((),true) h []
   ·replace h:=bj (ox hb) h;refine gm ?_;refine gm ?_;refine gb (ba rfl) ?_;refine pf ?_;refine aq (nl ?_);exact jz ((),decide (a0 < a1)) h []
  ·replace h:=bj (ud hb) h;iterate 3 refine gn ?_
   refine pf ?_;refine mq ?_;refine gm ?_;refine gm ?_;refine gb (ba rfl) ?_;refine pf ?_;refine aq (nl ?_);exact jz ((),decide (a0 < a1)) h []
 ·
  refine aG ?_;cases h;exact ra
def eh(k:Nat)(a1:Int):Nat→((List Int)×Int)→Option (List Int)
 |0,_=>none
 |n+1,y6=>
  ((if a1 < y6.2 then((aL y6.1 y6.2).bind fun u=>
  (ck (y6.2 - 1)).bind fun s=>
  (aL y6.1 s).bind fun r=>
  (xl k u r).bind fun x=>
  some x) else(some false)):Option (Bool)).bind fun x8=>
  if x8=true then((ck (y6.2 - 1)).bind fun e=>
  (ck (y6.2 - 1)).bind fun l=>
  (aL y6.1 l).bind fun c=>
  (aL y6.1 y6.2).bind fun j=>
  (aL y6.1 y6.2).bind fun D=>
  (aL (List.set y6.1 (Int.toNat y6.2) c) e).bind fun y=>
  (ck (y6.2 - 1)).bind fun h=>
  eh k a1 n (List.set (List.set y6.1 (Int.toNat y6.2) c) (Int.toNat e) j,h)) else(some y6.1)
def ek(k:Nat)(a1:Int)(a2:Int):Nat→((List Int)×Int)→Option (List Int)
 |0,_=>none
 |n+1,y2=>
  if y2.2 < a2 then(((eh k a1 k (y2.1,y2.2)):Option ((List Int))).bind fun x4=>
  (ck (y2.2+1)).bind fun c=>
  ek k a1 a2 n (x4,c)) else(some y2.1)
def gP(k:Nat)(a0:(List Int))(a1:Int)(a2:Int):Option (List Int):=
 (ck (a1+1)).bind fun x1=>
 ek k a1 a2 k (a0,x1)
theorem mG(k:Nat)(a0:(List Int))(c:Value)(a1:Int)(a2:Int)(r:(List Int))(h:gP k a0 a1 a2=some r):
 bQ Tryz.prog 88 [.eq c,I a1,I a2] [.sl c 3 (.int .i64) a0] (fun _:Unit=>(bG [],[.sl c 3 (.int .i64) r])):=by
 unfold gP at h
 replace h:=bi h
 refine bQ.of 49 Tryz.func88 rfl Tryz.ntmps88 rfl fun S w0=>?_
 refine sr ?_
 refine mq ?_
 obtain⟨x1,QS,h⟩:=aa h
 refine jb (bh rfl QS) ?_
 refine aq ?_
 refine nt ?_
 refine al ?_
 refine aD (fun z3 y2=>[(0,.eq c),(1,I a1),(2,I a2),(6,I y2.2)]) (fun z3 y2=>[.sl c 3 (.int .i64) y2.1]) (ek k a1 a2) k () (a0,x1) (fun _=>rfl) h (SE.fin [0] ⟨rfl,rfl,rfl,rfl,trivial⟩ rfl) (fun n z3 y2 h=>?_)
 unfold ek at h
 refine aj ?_
 refine sr ?_
 iterate 2 refine mq ?_
 refine jb (ba rfl) ?_
 refine nt ?_
 refine ci h (fun h=>?_) (fun h=>?_)
 ·
  refine sk (ay (Z:=Unit) (α:=(List Int)) (fun z5 x4=>[(0,.eq c),(1,I a1),(2,I a2),(6,I y2.2)]) (fun z5 x4=>[.sl c 3 (.int .i64) x4]) h (fun K h=>?_) (fun z5 x4 h=>?_))
  ·refine al (sr (mq ?_));refine aq (nt (al ?_));refine aD (fun z7 y6=>[(0,.eq c),(1,I a1),(2,I a2),(6,I y2.2),(7,I y6.2)]) (fun z7 y6=>[.sl c 3 (.int .i64) y6.1]) (eh k a1) k () (y2.1,y2.2) (fun _=>rfl) h (SE.fin [0] ⟨rfl,rfl,rfl,rfl,rfl,trivial⟩ rfl) (fun n z7 y6 h=>?_);unfold eh at h;refine aj (ay (Z:=Unit) (α:=Bool) (fun z9 x8=>[(0,.eq c),(1,I a1),(2,I a2),(6,I y2.2),(7,I y6.2),(30,.eq (.bool x8))]) (fun z9 x8=>[.sl c 3 (.int .i64) y6.1]) h (fun K h=>?_) (fun z9 x8 h=>?_))
   ·refine a6 ?_;refine dm ?_;refine dm ?_;refine db (ik rfl) ?_;refine l9 rfl rfl rfl (bg rfl) ⟨rfl,trivial⟩ (fun hb=>?_) (fun hb=>?_)
    ·replace h:=bY (oQ hb) h;refine bm rfl rfl rfl rfl rfl (bg rfl) ⟨rfl,rfl,trivial⟩ ?_;refine bm rfl rfl rfl rfl rfl (bg rfl) ⟨rfl,rfl,trivial⟩ ?_;obtain⟨QH,x,h⟩:=aa h;refine lC 0 rfl rfl rfl rfl rfl rfl (bk (t:=(.int .i64)) rfl jt cj x) ⟨rfl,rfl,rfl,trivial⟩ ?_;refine lC 0 rfl rfl rfl rfl rfl rfl (dW (i:=Int.toNat y6.2) (off:=0) rfl cj (fun _=>rfl) rfl (bP x).2.2 rfl) ⟨rfl,rfl,trivial⟩ ?_;refine bm rfl rfl rfl rfl rfl (bg rfl) ⟨rfl,rfl,trivial⟩ ?_;refine bm rfl rfl rfl rfl rfl (bg rfl) ⟨rfl,rfl,trivial⟩ ?_;obtain⟨QG,QA,h⟩:=aa h;refine bm rfl rfl rfl rfl rfl (g7 rfl QA) ⟨rfl,rfl,rfl,trivial⟩ ?_;obtain⟨QF,u,h⟩:=aa h;refine lC 0 rfl rfl rfl rfl rfl rfl (bk (t:=(.int .i64)) rfl jt cj u) ⟨rfl,rfl,rfl,trivial⟩ ?_;refine lC 0 rfl rfl rfl rfl rfl rfl (dW (i:=Int.toNat QG) (off:=0) rfl cj (fun _=>rfl) rfl (bP u).2.2 rfl) ⟨rfl,rfl,trivial⟩ ?_;refine df bw ?_;obtain⟨F,QB,h⟩:=aa h;refine gb (ak [.tmp 23,.tmp 28] rfl rfl Pl rfl (BF k QH QF F QB)) ?_;refine pt (nl ?_);exact jz ((),F) h [0]
    ·replace h:=bj (oR hb) h;iterate 9 refine dg ?_
     refine df bw ?_;refine gn ?_;refine pf (nl ?_);exact jz ((),false) h [0]
   ·refine cv h (fun h=>?_) (fun h=>?_)
    ·refine sk (aj (al (i8 ?_)));refine aP rfl rfl rfl (bg rfl) ⟨rfl,trivial⟩ ?_;refine aP rfl rfl rfl (bg rfl) ⟨rfl,trivial⟩ ?_;refine aP rfl rfl rfl (bg rfl) ⟨rfl,trivial⟩ ?_;refine aP rfl rfl rfl (bg rfl) ⟨rfl,trivial⟩ ?_;obtain⟨y,se,h⟩:=aa h;refine aP rfl rfl rfl (g7 rfl se) ⟨rfl,rfl,trivial⟩ ?_;refine aP rfl rfl rfl (bg rfl) ⟨rfl,trivial⟩ ?_;refine aP rfl rfl rfl (bg rfl) ⟨rfl,trivial⟩ ?_;obtain⟨QE,mc,h⟩:=aa h;refine aP rfl rfl rfl (g7 rfl mc) ⟨rfl,rfl,trivial⟩ ?_;obtain⟨E,s,h⟩:=aa h;refine fy 0 rfl rfl rfl rfl (bk (t:=(.int .i64)) rfl jt cj s) ⟨rfl,rfl,trivial⟩ ?_;refine fy 0 rfl rfl rfl rfl (dW (i:=Int.toNat QE) (off:=0) rfl cj (fun _=>rfl) rfl (bP s).2.2 rfl) ⟨rfl,trivial⟩ ?_;refine aP rfl rfl rfl (bg rfl) ⟨rfl,trivial⟩ ?_;refine aP rfl rfl rfl (bg rfl) ⟨rfl,trivial⟩ ?_;obtain⟨D,l,h⟩:=aa h;refine fy 0 rfl rfl rfl rfl (bk (t:=(.int .i64)) rfl jt cj l) ⟨rfl,rfl,trivial⟩ ?_;refine fy 0 rfl rfl rfl rfl (dW (i:=Int.toNat y6.2) (off:=0) rfl cj (fun _=>rfl) rfl (bP l).2.2 rfl) ⟨rfl,trivial⟩ ?_;obtain⟨Q1,j,h⟩:=aa h;refine fy 0 rfl rfl rfl rfl (bk (t:=(.int .i64)) rfl jt cj j) ⟨rfl,rfl,trivial⟩ ?_;refine mA 15 [true,true,false,false,false,true,true,true,true,true,true,true,true,true,true] [48] [] [] rfl (by kernel_rfl) (by kernel_rfl) (by kernel_rfl) bw (fun vs hv hB=>?_);obtain⟨w0,Rk,rfl,QR⟩:=ar hv;obtain⟨w1,Rj,rfl,QQ⟩:=ar QR;obtain⟨w2,Rh,rfl,QP⟩:=ar QQ;obtain⟨w3,Rf,rfl,QO⟩:=ar QP;obtain⟨w4,Re,rfl,QN⟩:=ar QO;obtain⟨w5,Rb,rfl,QM⟩:=ar QN;obtain⟨w6,Q9,rfl,QL⟩:=ar QM;obtain⟨w7,Q8,rfl,QK⟩:=ar QL;obtain⟨w8,Q7,rfl,QJ⟩:=ar QK;obtain⟨w9,QZ,rfl,X⟩:=ar QJ;obtain⟨Q6,QY,rfl,U⟩:=ar X;obtain⟨Q5,QX,rfl,Q⟩:=ar U;obtain⟨Q4,QW,rfl,O⟩:=ar Q;obtain⟨Q3,QU,rfl,M⟩:=ar O;obtain⟨Q2,QT,rfl,J⟩:=ar M;obtain rfl:=kp J;refine⟨[0],[.sl c 3 (.int .i64) y6.1],by kernel_rfl,by decide,?_⟩;refine nw rfl rfl (gl (i:=Int.toNat y6.2) rfl cj rfl (mJ j) rfl .int rfl) ⟨rfl,rfl,trivial⟩ (by kernel_rfl) ?_;obtain⟨Q0,e,h⟩:=aa h;refine I4 rfl rfl rfl rfl (bk (t:=(.int .i64)) rfl jt cj e) ⟨rfl,rfl,trivial⟩ (by kernel_rfl) ?_;refine nw rfl rfl (gl (i:=Int.toNat y) rfl cj rfl (mJ e) rfl .int rfl) ⟨rfl,rfl,trivial⟩ (by kernel_rfl) ?_;refine sN ?_;refine bC (SE.fin (Γ':=[(0,.eq c),(1,I a1),(2,I a2),(6,I y2.2),(7,I y6.2)]) (Δ':=[.sl c 3 (.int .i64) (List.set (List.set y6.1 (Int.toNat y6.2) E) (Int.toNat y) D)]) [0] ⟨rfl,rfl,rfl,rfl,rfl,trivial⟩ rfl) ?_;refine aO (tn (ah (mq ?_)));obtain⟨QD,ac,h⟩:=aa h;refine jb (g7 rfl ac) ?_;refine aq (nl ?_);exact jz ((),(List.set (List.set y6.1 (Int.toNat y6.2) E) (Int.toNat y) D,QD)) h [0]
    ·refine eD (bf (bf (cg (bn ?_))));exact jz ((),y6.1) h [0]
  ·refine ah (mq ?_);obtain⟨QC,Y,h⟩:=aa h;refine jb (bh rfl Y) ?_;refine aq (nl ?_);exact jz ((),(x4,QC)) h [0]
 ·
  refine eD (bf (bf (cg (mp ?_))));cases h;exact aZ () [] 1 trivial rfl
def my(k:Nat)(a0:Int):Option Int:=
 ((if 4294967296≤a0 then(some (kT .u64 a0 32,32)) else(some (a0,0))):Option (Int×Int)).bind fun x1=>
 ((if 65536≤x1.1 then((ck (x1.2+16)).bind fun x5=>
 some (kT .u64 x1.1 16,x5)) else(some (x1.1,x1.2))):Option (Int×Int)).bind fun x3=>
 ((if 256≤x3.1 then((ck (x3.2+8)).bind fun x8=>
 some (kT .u64 x3.1 8,x8)) else(some (x3.1,x3.2))):Option (Int×Int)).bind fun x6=>
 (Ds KC (IntKind.u8.wrap x6.1)).bind fun x9=>
 (ck (x9.toNat:Int)).bind fun e=>
 (ck (x6.2+e)).bind fun c=>
 some c
theorem sq(k:Nat)(a0:Int)(r:Int)(h:my k a0=some r):
 bQ Tryz.prog 98 [.eq (.int .u64 a0)] [] (fun _:Unit=>(bG [I r],[])):=by
 unfold my at h
 replace h:=bi h
 refine bQ.of 25 Tryz.func98 rfl Tryz.ntmps98 rfl fun S w0=>?_
 refine sr ?_
 refine cq ?_
 refine nt ?_
 refine ay (Z:=Unit) (α:=Int×Int) (fun z2 x1=>[(0,.eq (.int .u64 x1.1)),(2,I x1.2)]) (fun z2 x1=>[]) h (fun K h=>?_) (fun z2 x1 h=>?_)
 ·
  refine sr (mq ?_);refine jb (mE rfl) ?_;refine nt (ci h (fun h=>?_) (fun h=>?_))
  ·refine sr (mq ?_);refine dx rfl (wx rfl (by decide)) ⟨rfl,rfl,trivial⟩ ?_;refine aq (nt (ah ?_));refine cq (nl ?_);exact jz ((),(kT .u64 a0 32,32)) h []
  ·refine aU (a7 ?_);exact jz ((),(a0,0)) h []
 ·
  refine ay (Z:=Unit) (α:=Int×Int) (fun z4 x3=>[(0,.eq (.int .u64 x3.1)),(2,I x3.2)]) (fun z4 x3=>[]) h (fun K h=>?_) (fun z4 x3 h=>?_)
  ·refine sr (mq ?_);refine jb (mE rfl) ?_;refine nt (ci h (fun h=>?_) (fun h=>?_))
   ·refine sr (mq ?_);refine dx rfl (wx rfl (by decide)) ⟨rfl,rfl,trivial⟩ ?_;refine aq (nt (ah ?_));refine mq ?_;obtain⟨x5,n,h⟩:=aa h;refine jb (bh rfl n) ?_;refine aq (nl ?_);exact jz ((),(kT .u64 x1.1 16,x5)) h []
   ·refine aU (a7 ?_);exact jz ((),(x1.1,x1.2)) h []
  ·refine ay (Z:=Unit) (α:=Int×Int) (fun z7 x6=>[(0,.eq (.int .u64 x6.1)),(2,I x6.2)]) (fun z7 x6=>[]) h (fun K h=>?_) (fun z7 x6 h=>?_)
   ·refine sr (mq ?_);refine jb (mE rfl) ?_;refine nt (ci h (fun h=>?_) (fun h=>?_))
    ·refine sr (mq ?_);refine dx rfl (wx rfl (by decide)) ⟨rfl,rfl,trivial⟩ ?_;refine aq (nt (ah ?_));refine mq ?_;obtain⟨x8,l,h⟩:=aa h;refine jb (bh rfl l) ?_;refine aq (nl ?_);exact jz ((),(kT .u64 x3.1 8,x8)) h []
    ·refine aU (a7 ?_);exact jz ((),(x3.1,x3.2)) h []
   ·refine sr ?_;iterate 2 refine mq ?_
    refine ja (wy rfl OS U5) ?_;obtain⟨x9,j,h⟩:=aa h;refine ja (AS rfl U9 j) ?_;obtain⟨u,e,h⟩:=aa h;refine ja (AT rfl U5 U3 e) ?_;obtain⟨s,c,h⟩:=aa h;refine jb (bh rfl c) ?_;refine aq (nt (aG ?_));cases h;exact ra
def zZ(k:Nat)(a0:Int):Option Int:=
 (my k a0).bind fun r1=>
 some r1
theorem DF(k:Nat)(a0:Int)(r:Int)(h:zZ k a0=some r):
 bQ Tryz.prog 73 [.eq (.int .u64 a0)] [] (fun _:Unit=>(bG [I r],[])):=by
 unfold zZ at h
 replace h:=bi h
 refine bQ.of 8 Tryz.func73 rfl Tryz.ntmps73 rfl fun S w0=>?_
 refine sr ?_
 refine cq ?_
 refine nt ?_
 refine aj ?_
 refine Jh (fun hb=>(by cases hb)) (fun hb=>?_)
 refine sk ?_
 refine sr ?_
 refine mq ?_
 obtain⟨r1,c,h⟩:=aa h
 have e:=sq k a0 r1 c
 refine ja (ak [.tmp 6] rfl rfl Pj rfl e) ?_
 refine aq ?_
 refine nt ?_
 refine aG ?_
 cases h
 exact ra
def jh(k:Nat)(a0:(List Int))(a1:Int)(a2:Int)(a3:Int):Nat→Unit→Option (List Int)
 |0,_=>none
 |n+1,y1=>
  (ck (a2 - a1)).bind fun x3=>
  if x3≤12 then((gP k a0 a1 a2).bind fun r4=>
  some r4) else(if a3=0 then(none) else(none))
def kz(k:Nat)(a0:(List Int))(a1:Int)(a2:Int)(a3:Int):Option (List Int):=
 jh k a0 a1 a2 a3 k ()
theorem pT(k:Nat)(a0:(List Int))(c:Value)(a1:Int)(a2:Int)(a3:Int)(r:(List Int))(h:kz k a0 a1 a2 a3=some r):
 bQ Tryz.prog 72 [.eq c,I a1,I a2,I a3] [.sl c 3 (.int .i64) a0] (fun _:Unit=>(bG [],[.sl c 3 (.int .i64) r])):=by
 unfold kz at h
 replace h:=bi h
 refine bQ.of 134 Tryz.func72 rfl Tryz.ntmps72 rfl fun S w0=>?_
 refine sr ?_
 refine cq ?_
 refine nt ?_
 refine sr ?_
 refine cq ?_
 refine nt ?_
 refine al ?_
 refine aD (fun z2 y1=>[(0,.eq c),(1,I a1),(2,I a2),(3,I a3),(8,.eq (.bool true)),(9,.eq (.bool true))]) (fun z2 y1=>[.sl c 3 (.int .i64) a0]) (jh k a0 a1 a2 a3) k () () (fun _=>rfl) h (SE.fin [0] ⟨rfl,rfl,rfl,rfl,rfl,rfl,trivial⟩ rfl) (fun n z2 y1 h=>?_)
 unfold jh at h
 refine al ?_
 refine sr ?_
 iterate 2 refine mq ?_
 obtain⟨x3,e,h⟩:=aa h
 refine jb (g7 rfl e) ?_
 refine aq ?_
 refine nt ?_
 refine aj ?_
 refine sr ?_
 refine mq ?_
 refine jb (qj rfl) ?_
 refine nt ?_
 refine ci h (fun h=>?_) (fun h=>?_)
 ·
  refine sr ?_;iterate 3 refine mq ?_
  obtain⟨r4,j,h⟩:=aa h;refine kc (ak [.tmp 24,.tmp 25,.tmp 26] rfl rfl Pm rfl (mG k a0 c a1 a2 r4 j)) ?_;refine nt (rx (aV (aR (aV ?_))));cases h;exact aZ () [] 1 trivial rfl
 ·
  refine sk (aj (sr (mq ?_)));refine jb (cM rfl) ?_;refine nt (ci h (fun h=>?_) (fun h=>?_))
  ·refine sr ?_;iterate 3 refine mq ?_
   cases h
  ·refine sk (aj (sr (mq ?_)));refine ja (eE rfl) ?_;refine nt (ku rfl (fun hb=>(by cases hb)) (fun hb=>?_));refine sk (sr ?_);iterate 3 refine mq ?_
   cases h
def kW(k:Nat)(a0:(List Int)):Option (List Int):=
 (zZ k (IntKind.u64.wrap (a0.length:Int))).bind fun r1=>
 (kz k a0 0 (a0.length:Int) r1).bind fun r2=>
 some r2
theorem vp(k:Nat)(a0:(List Int))(c:Value)(r:(List Int))(h:kW k a0=some r):
 bQ Tryz.prog 45 [.eq c] [.sl c 3 (.int .i64) a0] (fun _:Unit=>(bG [],[.sl c 3 (.int .i64) r])):=by
 unfold kW at h
 replace h:=bi h
 refine bQ.of 11 Tryz.func45 rfl Tryz.ntmps45 rfl fun S w0=>?_
 refine sr ?_
 refine mq ?_
 refine ka (je rfl rfl jt) ?_
 refine aq ?_
 refine nt ?_
 refine ah ?_
 iterate 3 refine mq ?_
 refine ja (wy rfl U3 Qb) ?_
 obtain⟨r1,j,h⟩:=aa h
 have n:=DF k (IntKind.u64.wrap (a0.length:Int)) r1 j
 refine ja (ak [.tmp 8] rfl rfl PD rfl n) ?_
 obtain⟨r2,e,h⟩:=aa h
 have l:=pT k a0 c 0 (a0.length:Int) r1 r2 e
 refine xG rfl rfl rfl (ak [.tmp 5,.const (.int .i64 (0)),.tmp 6,.tmp 9] rfl rfl PE rfl l) ⟨rfl,rfl,rfl,rfl,trivial⟩ ?_
 refine aT ?_
 refine mp ?_
 cases h
 exact aZ () [] 1 trivial rfl
def gC(k:Nat)(q3:(ae×(List (Bool×Int))×(List Int)))(y9:Int×Bool×Int×Int×Int):Nat→(Int×Bool×Int×Int×Int)→Option (Int×Bool×Int×Int)
 |0,_=>none
 |n+1,c=>
  if c.2.2.2.2 < (q3.1.1.length:Int) then((((aL q3.1.2.1 y9.2.2.2.2).bind fun y=>
  (fH k y.1 c.2.2.2.2).bind fun E=>
  if E=true then(some (c.1,c.2.1,c.2.2.1,c.2.2.2.1)) else((bS k q3.1.2.1).bind fun j=>
  (aL j y9.2.2.2.2).bind fun x=>
  (j6 k x.1).bind fun r=>
  (cF (cx (List.length r+List.length [c.2.2.2.2]))).bind fun _=>
  (aL j y9.2.2.2.2).bind fun l=>
  (kW k (r++[c.2.2.2.2])).bind fun D=>
  (iy k ((q3.1.1,q3.1.2.1,q3.1.2.2.1,q3.1.2.2.2),q3.2.1,q3.2.2) (List.set j (Int.toNat y9.2.2.2.2) (D,l.2.1,l.2.2))).bind fun h=>
  ((if h.2=true then(if¬(c.2.1=true) then(some true) else(some (decide (h.1 < c.1)))) else(some false)):Option (Bool)).bind fun u=>
  if u=true then(some (h.1,true,y9.2.2.2.2,c.2.2.2.2)) else(some (c.1,c.2.1,c.2.2.1,c.2.2.2.1)))):Option (Int×Bool×Int×Int)).bind fun e=>
  (ck (c.2.2.2.2+1)).bind fun s=>
  gC k q3 y9 n (e.1,e.2.1,e.2.2.1,e.2.2.2,s)) else(some (c.1,c.2.1,c.2.2.1,c.2.2.2.1))
def gG(k:Nat)(q3:(ae×(List (Bool×Int))×(List Int))):Nat→(Int×Bool×Int×Int×Int)→Option (Int×Int×Int)
 |0,_=>none
 |n+1,y9=>
  if y9.2.2.2.2 < (q3.1.2.1.length:Int) then(((gC k q3 y9 k (y9.1,y9.2.1,y9.2.2.1,y9.2.2.2.1,0)):Option (Int×Bool×Int×Int)).bind fun c=>
  (ck (y9.2.2.2.2+1)).bind fun e=>
  gG k q3 n (c.1,c.2.1,c.2.2.1,c.2.2.2,e)) else(some (y9.1,y9.2.2.1,y9.2.2.2.1))
def kQ(k:Nat)(a0:ae):Option (Int×Int×Int×Int):=
 (bM k a0).bind fun r2=>
 jE r2.1 (if¬(r2.2=0) then(some (0,0,0,r2.2)) else(none)) (fun q3=>if¬(r2.2=0) then(some (0,0,0,r2.2)) else((f6 k ((q3.1.1,q3.1.2.1,q3.1.2.2.1,q3.1.2.2.2),q3.2.1,q3.2.2)).bind fun r6=>
 ((gG k q3 k (r6.2.1,r6.2.2,(-1:Int),(-1:Int),0)):Option (Int×Int×Int)).bind fun x7=>
 if x7.2.1 < 0 then(some (0,0,0,11)) else(some (x7.2.1,x7.2.2,x7.1,0))))
theorem tU(k:Nat)(a0:ae)(r:Int×Int×Int×Int)(h:kQ k a0=some r):
 bQ Tryz.prog 14 [.rep ag a0] [] (fun _:Unit=>(bG [I r.1,I r.2.1,I r.2.2.1,I r.2.2.2],[])):=by
 unfold kQ at h
 replace h:=bi h
 refine bQ.of 115 Tryz.func14 rfl Tryz.ntmps14 rfl fun S w0=>?_
 refine sr ?_
 refine bx fun b1=>?_
 refine cq ?_
 refine cq ?_
 refine cq ?_
 refine cq ?_
 refine nt ?_
 refine sr ?_
 refine lo bL ?_
 obtain⟨r2,QP,h⟩:=aa h
 have y:=gz k a0 r2 QP
 rcases hr:r2.1 with _ |q3
 ·
  rw [hr] at h y;replace h:=xj h;refine be (Δ:=[]) (F:=_) (fun _ _ _=>az rfl _) rfl rfl (ak [.tmp 19] rfl rfl rI rfl y) ⟨rfl,trivial⟩ fun _=>?_;refine mq ?_;refine xr ?_;refine xr ?_;refine aq ?_;refine aq (nt (aj (sr ?_)));refine mq ?_;refine jb (bT rfl) ?_;refine nt (cn h (fun h=>?_) (fun h=>?_))
  ·refine sr (mq ?_);refine cq ?_;refine cq ?_;refine cq ?_;refine aq (nt (rx ?_));cases h;exact aZ () [_,_,_,_] 0 ⟨rfl,rfl,rfl,rfl,trivial⟩ rfl
  ·refine sk (sr (mq ?_));cases h
 ·
  rw [hr] at h y;replace h:=xi h;refine be (Δ:=[]) (F:=_) (fun _ _ _=>az rfl _) rfl rfl (ak [.tmp 19] rfl rfl rI rfl y) ⟨rfl,trivial⟩ fun z4=>?_;refine mq ?_;refine xr ?_;refine xr ?_;refine aq ?_;refine aq (nt (aj (sr ?_)));refine mq ?_;refine jb (bT rfl) ?_;refine nt (cn h (fun h=>?_) (fun h=>?_))
  ·refine sr (mq ?_);refine cq ?_;refine cq ?_;refine cq ?_;refine aq (nt (rx ?_));cases h;exact aZ () [_,_,_,_] 0 ⟨rfl,rfl,rfl,rfl,trivial⟩ rfl
  ·refine sk (sr (mq ?_));refine aA rfl rfl rfl (ak [.tmp 27] rfl rfl vy rfl (bN z4.1)) ⟨rfl,trivial⟩ fun b5=>?_;refine mq ?_;refine ja (jU [.tmp 29] [] [(.pointer (some ⟨z4.1,0,none⟩))] [] rfl rfl rfl) ?_;refine fr 2 ?_;refine eX (jS (bJ k ((q3.1.1,q3.1.2.1,q3.1.2.2.1,q3.1.2.2.2),q3.2.1,q3.2.2)) kM) ?_;obtain⟨r6,QO,h⟩:=aa h;refine fr 1 ?_;refine fr 1 ?_;refine fr 2 ?_;refine be (Δ:=[_,_,_]) (F:=_) (fun _ _ _=>az rfl _) rfl rfl (ak [.tmp 28,.tmp 30] rfl rfl Bt rfl (gy k ((q3.1.1,q3.1.2.1,q3.1.2.2.1,q3.1.2.2.2),q3.2.1,q3.2.2) z4.1 z4.2 b5 r6 QO)) ⟨rfl,rfl,trivial⟩ fun _=>?_;refine mq ?_;refine xr ?_;refine xr ?_;refine xr ?_;refine aq ?_;refine aq ?_;refine aq (nt (sr ?_));refine cq ?_;refine cq (nt ?_);refine ay (Z:=Unit) (α:=Int×Int×Int) (fun z8 x7=>[(9,I x7.1),(11,I x7.2.1),(12,I x7.2.2)]) (fun z8 x7=>[.inv z4.2 (bJ k ((q3.1.1,q3.1.2.1,q3.1.2.2.1,q3.1.2.2.2),q3.2.1,q3.2.2))]) h (fun K h=>?_) (fun z8 x7 h=>?_)
   ·refine sr (mq ?_);refine ja (aN rfl) ?_;refine fl eT ?_;refine fl bA ?_;refine lo eu ?_;refine ol l8 ?_;refine fg rfl ?_;refine nt (al (aD (fun U y9=>[(6,.eq (.pointer (some ⟨z4.1,0,none⟩))),(9,I y9.1),(10,.eq (.bool y9.2.1)),(11,I y9.2.2.1),(12,I y9.2.2.2.1),(40,I (q3.1.2.1.length:Int)),(41,I y9.2.2.2.2)]) (fun U y9=>[.obj z4.1 80 (Qq q3 (.eq (.map (some z4.2)))),.inv z4.2 (bJ k ((q3.1.1,q3.1.2.1,q3.1.2.2.1,q3.1.2.2.2),q3.2.1,q3.2.2))]) (gG k q3) k () (r6.2.1,r6.2.2,(-1:Int),(-1:Int),0) (fun _=>rfl) h (SE.fin [0,1] ⟨rfl,rfl,rfl,rfl,rfl,rfl,rfl,trivial⟩ rfl) (fun n U y9 h=>?_)));unfold gG at h;refine sr (jb (ba rfl) ?_);refine nt (aj (ci h (fun h=>?_) (fun h=>?_)))
    ·refine sk (ay (Z:=Unit) (α:=Int×Bool×Int×Int) (fun Q j=>[(6,.eq (.pointer (some ⟨z4.1,0,none⟩))),(9,I j.1),(10,.eq (.bool j.2.1)),(11,I j.2.2.1),(12,I j.2.2.2),(40,I (q3.1.2.1.length:Int)),(41,I y9.2.2.2.2)]) (fun Q j=>[.obj z4.1 80 (Qq q3 (.eq (.map (some z4.2)))),.inv z4.2 (bJ k ((q3.1.1,q3.1.2.1,q3.1.2.2.1,q3.1.2.2.2),q3.2.1,q3.2.2))]) h (fun K h=>?_) (fun Q j h=>?_))
     ·refine al (sr (mq ?_));refine aq (nt ?_);refine zc rfl (Ij Ii) ?_;refine aj (BY ?_);refine tn (sr (mq ?_));refine ja (aN rfl) ?_;refine fl eT ?_;refine fl bu ?_;refine lo dM ?_;refine ol kU ?_;refine fg rfl ?_;refine nt (al (aD (fun O c=>[(6,.eq (.pointer (some ⟨z4.1,0,none⟩))),(9,I c.1),(10,.eq (.bool c.2.1)),(11,I c.2.2.1),(12,I c.2.2.2.1),(13,I y9.2.2.2.2),(40,I (q3.1.2.1.length:Int)),(41,I y9.2.2.2.2),(49,I (q3.1.1.length:Int)),(50,I c.2.2.2.2)]) (fun O c=>[.obj z4.1 80 (Qq q3 (.eq (.map (some z4.2)))),.inv z4.2 (bJ k ((q3.1.1,q3.1.2.1,q3.1.2.2.1,q3.1.2.2.2),q3.2.1,q3.2.2))]) (gC k q3 y9) k () (y9.1,y9.2.1,y9.2.2.1,y9.2.2.2.1,0) (fun _=>rfl) h (SE.fin [0,1] ⟨rfl,rfl,rfl,rfl,rfl,rfl,rfl,rfl,rfl,rfl,trivial⟩ rfl) (fun n O c h=>?_)));unfold gC at h;refine sr (jb (ba rfl) ?_);refine nt (aj (ci h (fun h=>?_) (fun h=>?_)))
      ·refine sk (ay (Z:=Unit) (α:=Int×Bool×Int×Int) (fun M e=>[(6,.eq (.pointer (some ⟨z4.1,0,none⟩))),(9,I e.1),(10,.eq (.bool e.2.1)),(11,I e.2.2.1),(12,I e.2.2.2),(13,I y9.2.2.2.2),(40,I (q3.1.2.1.length:Int)),(41,I y9.2.2.2.2),(49,I (q3.1.1.length:Int)),(50,I c.2.2.2.2)]) (fun M e=>[.obj z4.1 80 (Qq q3 (.eq (.map (some z4.2)))),.inv z4.2 (bJ k ((q3.1.1,q3.1.2.1,q3.1.2.2.1,q3.1.2.2.2),q3.2.1,q3.2.2))]) h (fun K h=>?_) (fun M e h=>?_))
       ·refine al (sr (mq ?_));refine aq (nt (aj (sr ?_)));refine mq ?_;refine ja (aN rfl) ?_;refine fl eT ?_;refine fl bA ?_;refine lo eu ?_;refine mq ?_;obtain⟨QM,QB,h⟩:=aa h;refine jb (aC (t:=aw) rfl l8 eI QB) ?_;refine ja (a8 1 false rfl eU rfl) ?_;refine ja (ao (t:=(.slice (.int .i64))) rfl bR rfl) ?_;refine mq ?_;obtain⟨QN,QH,h⟩:=aa h;refine jb (ak [.tmp 61,.tmp 62] rfl rfl Oj rfl (mC k QM.1 c.2.2.2.2 QN QH)) ?_;refine nt (cv h (fun h=>?_) (fun h=>?_))
        ·refine eD (bf (cg (a7 ?_)));exact jz ((),(c.1,c.2.1,c.2.2.1,c.2.2.2.1)) h [0,1]
        ·refine sk (sr (mq ?_));refine ja (aN rfl) ?_;refine fl eT ?_;refine fl bA ?_;refine lo eu ?_;obtain⟨ac,QG,h⟩:=aa h;refine aA rfl rfl rfl (ak [.tmp 68] rfl rfl KV rfl (f8 k q3.1.2.1 ac QG)) ⟨rfl,trivial⟩ fun QR=>?_;refine aq (nt (sr ?_));iterate 4 refine mq ?_
         obtain⟨QL,u,h⟩:=aa h;refine kb (bk (t:=aw) rfl l8 eI u) ?_;refine ka (kC rfl eU (pp u)) ?_;refine ka (dW (i:=Int.toNat y9.2.2.2.2) (off:=0) rfl bR (fun _=>rfl) rfl (bP u).2.2 rfl) ?_;obtain⟨Y,QF,h⟩:=aa h;refine aA rfl rfl rfl (ak [.tmp 76] rfl rfl PV rfl (uj k QL.1 Y QF)) ⟨rfl,trivial⟩ fun QQ=>?_;refine mq ?_;refine ja (bv (t:=(.int .i64)) [(.tmp 78,_)] [c.2.2.2.2] rfl rfl eo (.cons rfl .int .nil) rfl rfl) ?_;obtain⟨QS,QC,h⟩:=aa h;refine dE rfl rfl rfl (bI rfl rfl eo (av QC)) ⟨rfl,rfl,trivial⟩ fun E=>?_;refine fr 1 ?_;refine eX IV ?_;obtain⟨l,QA,h⟩:=aa h;have ax26:=H9 (f:=F8) QA;refine kb (bk (t:=(.agg (.pair (.alt (.slice (.int .i64))) (.pair (.int .i64) (.int .i64))))) rfl l8 eI ax26) ?_;refine ka (kC rfl eU (pp ax26)) ?_;refine fr 1 ?_;refine fV fun o27=>?_;refine fr 1 ?_;refine aK rfl rfl (nb (d':=((Sum.inr E),l.2.1,l.2.2)) (i:=Int.toNat y9.2.2.2.2) (off:=0) rfl bR rfl (bP ax26).2.2 (.altR o27) o27 (.agg (.left .whole))) ⟨rfl,rfl,trivial⟩ ?_;refine nt (sr ?_);iterate 2 refine mq ?_
         have bx26:=H8 ((Sum.inr E),l.2.1,l.2.2) ax26;refine kb (bk (t:=(.agg (.pair (.alt (.slice (.int .i64))) (.pair (.int .i64) (.int .i64))))) rfl l8 eI bx26) ?_;refine ka (kC rfl eU (pp bx26)) ?_;refine ka (dW (i:=Int.toNat y9.2.2.2.2) (off:=0) rfl bR (fun _=>rfl) rfl (bP bx26).2.2 rfl) ?_;refine eX (SE.altR 87 rfl rfl) ?_;obtain⟨X,QE,h⟩:=aa h;refine fr 1 ?_;refine ka (ak [.tmp 87] rfl rfl PU rfl (vp k (Y++[c.2.2.2.2]) E X QE)) ?_;refine fr 1 ?_;refine fr 1 ?_;refine eX IX ?_;refine nt (sr ?_);iterate 2 refine mq ?_
         refine eX (nu [15,69,70,72,83,91] ⟨rfl,rfl,rfl,rfl,rfl,rfl,trivial⟩) ?_;obtain⟨x,QD,h⟩:=aa h;refine kb (ak [.tmp 90,.tmp 91] rfl rfl Na rfl (rK k ((q3.1.1,q3.1.2.1,q3.1.2.2.1,q3.1.2.2.2),q3.2.1,q3.2.2) z4.1 (.map (some z4.2)) (List.set ac (Int.toNat y9.2.2.2.2) (X,l.2.1,l.2.2)) x QD)) ?_;refine mq ?_;refine xr ?_;refine xr ?_;refine aq ?_;refine aq (nt ?_);refine ay (Z:=Unit) (α:=Bool) (fun J D=>[(6,.eq (.pointer (some ⟨z4.1,0,none⟩))),(9,I c.1),(10,.eq (.bool c.2.1)),(11,I c.2.2.1),(12,I c.2.2.2.1),(13,I y9.2.2.2.2),(14,I c.2.2.2.2),(16,I x.1),(40,I (q3.1.2.1.length:Int)),(41,I y9.2.2.2.2),(49,I (q3.1.1.length:Int)),(50,I c.2.2.2.2),(104,.eq (.bool D))]) (fun J D=>[.obj z4.1 80 (Qq q3 (.eq (.map (some z4.2)))),.inv z4.2 (bJ k ((q3.1.1,q3.1.2.1,q3.1.2.2.1,q3.1.2.2.2),q3.2.1,q3.2.2))]) h (fun K h=>?_) (fun J D h=>?_)
         ·refine ah ?_;iterate 2 refine mq ?_
          refine aM (s:=96) rfl (fun hb=>?_) (fun hb=>?_)
          ·replace h:=bY (uc hb) h;refine gm ?_;refine ga (eE rfl) ?_;refine gm ?_;refine aM (s:=99) rfl (fun hb=>?_) (fun hb=>?_)
           ·replace h:=bY (uu hb) h;iterate 3 refine gn ?_
            refine gb (dw rfl) ?_;refine pt (nl ?_);exact jz ((),true) h [0,1]
           ·replace h:=bj (ox hb) h;refine gm ?_;refine gm ?_;refine gb (ba rfl) ?_;refine gb (dV rfl) ?_;refine pt (nl ?_);exact jz ((),decide (x.1 < c.1)) h [0,1]
          ·replace h:=bj (ud hb) h;iterate 3 refine gn ?_
           refine gu ?_;refine gu ?_;refine gu ?_;refine gn ?_;refine pf (nl ?_);exact jz ((),false) h [0,1]
         ·refine cv h (fun h=>?_) (fun h=>?_)
          ·refine ah ?_;iterate 3 refine mq ?_
           refine aq ?_;refine aq ?_;refine aq ?_;refine cq (aT (bn ?_));exact jz ((),(x.1,true,y9.2.2.2.2,c.2.2.2.2)) h [0,1]
          ·refine aU (bn ?_);exact jz ((),(c.1,c.2.1,c.2.2.1,c.2.2.2.1)) h [0,1]
       ·refine ah ?_;obtain⟨QK,se,h⟩:=aa h;refine jb (bh rfl se) ?_;refine mq (nl ?_);exact jz ((),(e.1,e.2.1,e.2.2.1,e.2.2.2,QK)) h [0,1]
      ·refine eD (bf (bf (cg (Jb ?_))));refine bn ?_;exact jz ((),(c.1,c.2.1,c.2.2.1,c.2.2.2.1)) h [0,1]
     ·refine ah ?_;obtain⟨QJ,mc,h⟩:=aa h;refine jb (bh rfl mc) ?_;refine mq (nl ?_);exact jz ((),(j.1,j.2.1,j.2.2.1,j.2.2.2,QJ)) h [0,1]
    ·refine xa ?_;exact jz ((),(y9.1,y9.2.2.1,y9.2.2.2.1)) h [1]
   ·refine aj (sr (mq ?_));refine jb (ba rfl) ?_;refine nt (ci h (fun h=>?_) (fun h=>?_))
    ·refine sr (cq ?_);refine cq ?_;refine cq ?_;refine cq (nt (rx ?_));cases h;exact aZ () [_,_,_,_] 0 ⟨rfl,rfl,rfl,rfl,trivial⟩ rfl
    ·refine sk (sr ?_);iterate 3 refine mq ?_
     refine aq ?_;refine aq ?_;refine aq ?_;refine cq (nt (aG ?_));cases h;exact aZ () [_,_,_,_] 0 ⟨rfl,rfl,rfl,rfl,trivial⟩ rfl
def lP(k:Nat)(a0:Int)(a1:Int)(a2:(List Int)):Option ae:=
 some ([([1],2,2,0,0),([],1,1,1,a0),([],1,1,2,2),([],3,3,0,0)],[([0,1,2],1,a1),(a2,0,1)],[0,1],[1,2])
theorem lp(k:Nat)(a0:Int)(a1:Int)(a2:(List Int))(r:ae)(h:lP k a0 a1 a2=some r):
 bQ Tryz.prog 17 [I a0,I a1,Ri a2] [] (fun _:Unit=>(bG [.rep ag r],[])):=by
 unfold lP at h
 replace h:=bi h
 refine bQ.of 23 Tryz.func17 rfl Tryz.ntmps17 rfl fun S w0=>?_
 refine sr ?_
 refine aA rfl rfl rfl (aF rfl oS rM) trivial fun b1=>?_
 refine nt ?_
 refine sr ?_
 refine ja (bv (t:=(.int .i64)) [(.const (.int .i64 (1)),_)] [1] rfl rfl eo (.cons rfl .int .nil) rfl rfl) ?_
 refine jc (cR [(0,.tmp 7,_),(1,.const (.int .i64 (2)),_),(2,.const (.int .i64 (2)),_)] rfl Ha pU BR (iF ⟨rfl,rfl,rfl,trivial⟩) rfl) ?_
 refine mq ?_
 refine dx rfl (cR [(1,.const (.int .i64 (1)),_),(2,.const (.int .i64 (1)),_),(3,.const (.int .i64 (1)),_),(4,.tmp 9,_)] rfl Ha pU BR (iF ⟨rfl,rfl,rfl,rfl,trivial⟩) rfl) ⟨rfl,rfl,rfl,rfl,trivial⟩ ?_
 refine dx rfl (cR [(1,.const (.int .i64 (1)),_),(2,.const (.int .i64 (1)),_),(3,.const (.int .i64 (2)),_),(4,.const (.int .i64 (2)),_)] rfl Ha pU BR (iF ⟨rfl,rfl,rfl,rfl,trivial⟩) rfl) ⟨rfl,rfl,rfl,rfl,trivial⟩ ?_
 refine jb (cR [(1,.const (.int .i64 (3)),_),(2,.const (.int .i64 (3)),_)] rfl Ha pU BR (iF ⟨rfl,rfl,trivial⟩) rfl) ?_
 refine dx rfl (bv (t:=aJ) [(.tmp 8,_),(.tmp 10,_),(.tmp 11,_),(.tmp 12,_)] [([1],2,2,0,0),([],1,1,1,a0),([],1,1,2,2),([],3,3,0,0)] rfl rfl CP (.cons trivial (.agg (.pair .rep (.pair .int (.pair .int (.pair .int .int))))) (.cons trivial (.agg (.pair .nil (.pair .int (.pair .int (.pair .int .int))))) (.cons trivial (.agg (.pair .nil (.pair .int (.pair .int (.pair .int .int))))) (.cons trivial (.agg (.pair .nil (.pair .int (.pair .int (.pair .int .int))))) .nil)))) rfl rfl) ⟨rfl,rfl,rfl,rfl,trivial⟩ ?_
 refine jc (bv (t:=(.int .i64)) [(.const (.int .i64 (0)),_),(.const (.int .i64 (1)),_),(.const (.int .i64 (2)),_)] [0,1,2] rfl rfl eo (.cons rfl .int (.cons rfl .int (.cons rfl .int .nil))) rfl rfl) ?_
 refine mq ?_
 refine jc (cR [(0,.tmp 14,_),(1,.const (.int .i64 (1)),_),(2,.tmp 15,_)] rfl JR rS EH (iF ⟨rfl,rfl,rfl,trivial⟩) rfl) ?_
 refine mq ?_
 refine jb (cR [(0,.tmp 17,_),(2,.const (.int .i64 (1)),_)] rfl JR rS EH (iF ⟨rfl,rfl,trivial⟩) rfl) ?_
 refine jb (bv (t:=aw) [(.tmp 16,_),(.tmp 18,_)] [([0,1,2],1,a1),(a2,0,1)] rfl rfl wa (.cons trivial (.agg (.pair .rep (.pair .int .int))) (.cons trivial (.agg (.pair .rep (.pair .int .int))) .nil)) rfl rfl) ?_
 refine jb (bv (t:=(.int .i64)) [(.const (.int .i64 (0)),_),(.const (.int .i64 (1)),_)] [0,1] rfl rfl eo (.cons rfl .int (.cons rfl .int .nil)) rfl rfl) ?_
 refine jb (bv (t:=(.int .i64)) [(.const (.int .i64 (1)),_),(.const (.int .i64 (2)),_)] [1,2] rfl rfl eo (.cons rfl .int (.cons rfl .int .nil)) rfl rfl) ?_
 refine dx rfl (cR [(0,.tmp 13,_),(1,.tmp 19,_),(2,.tmp 20,_),(3,.tmp 21,_)] rfl MG oS IM (iF ⟨rfl,rfl,rfl,rfl,trivial⟩) rfl) ⟨rfl,rfl,rfl,rfl,trivial⟩ ?_
 refine aK rfl rfl (aE rfl bL trivial rfl rfl) ⟨rfl,rfl,trivial⟩ ?_
 refine nt ?_
 refine aG ?_
 refine bC (mO (a:=.agg (.pair (Rs aJ [([1],2,2,0,0),([],1,1,1,a0),([],1,1,2,2),([],3,3,0,0)]) (.pair (Rs aw [([0,1,2],1,a1),(a2,0,1)]) (.pair (Ri [0,1]) (Ri [1,2]))))) (a':=.rep ag ([([1],2,2,0,0),([],1,1,1,a0),([],1,1,2,2),([],3,3,0,0)],[([0,1,2],1,a1),(a2,0,1)],[0,1],[1,2])) (sO (.agg (.pair .rep (.pair .rep (.pair .rep .rep)))))) ?_
 cases h
 exact aZ () [.rep ag ([([1],2,2,0,0),([],1,1,1,a0),([],1,1,2,2),([],3,3,0,0)],[([0,1,2],1,a1),(a2,0,1)],[0,1],[1,2])] 0 ⟨⟨_,_,_,_,_,rfl,(.head _),bL,(sn),rfl⟩,trivial⟩ rfl
def sG(k:Nat)(a0:ae):Option ((List ap)×Int×Int):=
 (bM k a0).bind fun r2=>
 jE r2.1 (if¬(r2.2=0) then(some ([],0,r2.2)) else(none)) (fun q3=>if¬(r2.2=0) then(some ([],0,r2.2)) else((f6 k ((q3.1.1,q3.1.2.1,q3.1.2.2.1,q3.1.2.2.2),q3.2.1,q3.2.2)).bind fun r6=>
 if¬(r6.2.2=true) then(some ([],0,11)) else(some (r6.1,r6.2.1,0))))
theorem yi(k:Nat)(a0:ae)(r:(List ap)×Int×Int)(h:sG k a0=some r):
 bQ Tryz.prog 18 [.rep ag a0] [] (fun _:Unit=>(bG [Rs aB r.1,I r.2.1,I r.2.2],[])):=by
 unfold sG at h
 replace h:=bi h
 refine bQ.of 31 Tryz.func18 rfl Tryz.ntmps18 rfl fun S w0=>?_
 refine sr ?_
 refine bx fun b1=>?_
 refine cq ?_
 refine cq ?_
 refine cq ?_
 refine nt ?_
 refine sr ?_
 refine lo bL ?_
 obtain⟨r2,j,h⟩:=aa h
 have c:=gz k a0 r2 j
 rcases hr:r2.1 with _ |q3
 ·
  rw [hr] at h c;replace h:=xj h;refine be (Δ:=[]) (F:=_) (fun _ _ _=>az rfl _) rfl rfl (ak [.tmp 11] rfl rfl rI rfl c) ⟨rfl,trivial⟩ fun _=>?_;refine mq ?_;refine xr ?_;refine xr ?_;refine aq ?_;refine aq (nt (aj (sr ?_)));refine mq ?_;refine jb (bT rfl) ?_;refine nt (cn h (fun h=>?_) (fun h=>?_))
  ·refine sr (mq ?_);refine cq ?_;refine cq ?_;refine aq (nt (rx ?_));refine bC (fY (t:=(.slice aB)) (x:=[]) 2 rfl .nil rfl rfl) ?_;cases h;exact aZ () [_,_,_] 0 ⟨rfl,rfl,rfl,trivial⟩ rfl
  ·refine sk (sr (mq ?_));cases h
 ·
  rw [hr] at h c;replace h:=xi h;refine be (Δ:=[]) (F:=_) (fun _ _ _=>az rfl _) rfl rfl (ak [.tmp 11] rfl rfl rI rfl c) ⟨rfl,trivial⟩ fun z4=>?_;refine mq ?_;refine xr ?_;refine xr ?_;refine aq ?_;refine aq (nt (aj (sr ?_)));refine mq ?_;refine jb (bT rfl) ?_;refine nt (cn h (fun h=>?_) (fun h=>?_))
  ·refine sr (mq ?_);refine cq ?_;refine cq ?_;refine aq (nt (rx ?_));refine bC (fY (t:=(.slice aB)) (x:=[]) 2 rfl .nil rfl rfl) ?_;cases h;exact aZ () [_,_,_] 0 ⟨rfl,rfl,rfl,trivial⟩ rfl
  ·refine sk (sr (mq ?_));refine aA rfl rfl rfl (ak [.tmp 19] rfl rfl vy rfl (bN z4.1)) ⟨rfl,trivial⟩ fun b5=>?_;refine mq ?_;refine ja (jU [.tmp 21] [] [(.pointer (some ⟨z4.1,0,none⟩))] [] rfl rfl rfl) ?_;refine fr 2 ?_;refine eX (jS (bJ k ((q3.1.1,q3.1.2.1,q3.1.2.2.1,q3.1.2.2.2),q3.2.1,q3.2.2)) kM) ?_;obtain⟨r6,e,h⟩:=aa h;refine fr 1 ?_;refine fr 1 ?_;refine fr 2 ?_;refine be (Δ:=[_,_,_]) (F:=_) (fun _ _ _=>az rfl _) rfl rfl (ak [.tmp 20,.tmp 22] rfl rfl Bt rfl (gy k ((q3.1.1,q3.1.2.1,q3.1.2.2.1,q3.1.2.2.2),q3.2.1,q3.2.2) z4.1 z4.2 b5 r6 e)) ⟨rfl,rfl,trivial⟩ fun _=>?_;refine mq ?_;refine xr ?_;refine xr ?_;refine xr ?_;refine aq ?_;refine aq ?_;refine aq (nt (aj (sr ?_)));refine mq ?_;refine ja (eE rfl) ?_;refine nt (cw h (fun h=>?_) (fun h=>?_))
   ·refine sr (cq ?_);refine cq ?_;refine cq (nt (rx ?_));refine bC (fY (t:=(.slice aB)) (x:=[]) 2 rfl .nil rfl rfl) ?_;cases h;exact aZ () [_,_,_] 0 ⟨rfl,rfl,rfl,trivial⟩ rfl
   ·refine sk (sr ?_);iterate 2 refine mq ?_
    refine aq ?_;refine aq ?_;refine cq (nt (aG ?_));cases h;exact aZ () [_,_,_] 0 ⟨rfl,rfl,rfl,trivial⟩ rfl
theorem nR:Ai Tryz.prog 99 158 34:=by
 refine⟨Pi,fun M e0=>?_,fun M e0 n=>?_⟩
 ·refine nC.of (M:=M) (m:=.returning) (m1:=.returning) (val:=.nilIface) Tryz.func99 rfl rfl (by decide) rfl rfl (by decide) (fun ρ=>rfl) (fun fr b cs hb hm=>G3 hb hm rfl) (.inl rfl) fun b S w0=>?_;refine ja (JY rfl LI) ?_;refine mq ?_;refine xr ?_;refine xr ?_;refine aq ?_;refine aq (nt (sr ?_));refine mq (nt ?_);refine ku rfl (fun hb=>by cases hb) (fun hb=>?_);refine aU ?_;exact mp (aZ () [] 1 trivial rfl)
 ·refine nC.of (M:=M) (m:=.panicking (lT 158 n false)) (m1:=.panicking (lT 158 n true)) (val:=.iface 158 (.int .i64 n)) Tryz.func99 rfl rfl (by decide) rfl rfl (by decide) (fun ρ=>rfl) (fun fr b cs hb hm=>G2 hb hm) (.inr ⟨_,_,rfl⟩) fun b S w0=>?_;refine ja (JX rfl LI) ?_;refine mq ?_;refine xr ?_;refine xr ?_;refine aq ?_;refine aq (nt (sr ?_));refine mq (nt ?_);refine ku rfl (fun hb=>?_) (fun hb=>by cases hb);refine ah (mq ?_);refine aK rfl rfl (aE rfl xO rfl rfl rfl) ⟨rfl,rfl,trivial⟩ ?_;refine aT ?_;exact mp (aZ () [] 1 trivial rfl)
def fw(k:Nat)(a0:(ae×(List (Bool×Int))×(List Int)))(a1:(List ap)):Nat→(Int×Int)→Option (Except Int Unit)
 |0,_=>none
 |n+1,y4=>
  if y4.2 < (a1.length:Int) then((aL a1 y4.2).bind fun x6=>
  (ck ((a0.2.1.length:Int) - 1)).bind fun x8=>
  (bD k x6.1 0 x8).bind fun r9=>
  if r9=true then(some (.error 3)) else((fF k y4.1 x6.1).bind fun u=>
  if u=true then(some (.error 4)) else((ck ((a0.1.2.1.length:Int) - 1)).bind fun j=>
  (bD k x6.2 0 j).bind fun s=>
  if s=true then(some (.error 3)) else((aL a0.2.1 x6.1).bind fun h=>
  (jf k ((a0.1.1,a0.1.2.1,a0.1.2.2.1,a0.1.2.2.2),a0.2.1,a0.2.2) x6.2 h).bind fun r=>
  if¬(r=true) then(some (.error 8)) else((cF (0≤x6.1∧x6.1 < 8)).bind fun _=>
  (aL a0.2.2 x6.1).bind fun e=>
  if¬((pP .u8 e y4.1)=0) then(some (.error 5)) else((eK k [x6.1]).bind fun l=>
  (ck (y4.2+1)).bind fun c=>
  fw k a0 a1 n (nF .u8 y4.1 l,c))))))) else(some (.ok ()))
def jY(k:Nat)(a0:(ae×(List (Bool×Int))×(List Int)))(a1:(List ap)):Option Int:=
 if(a1.length:Int) < (a0.2.1.length:Int) then(some 7) else(if(a0.2.1.length:Int) < (a1.length:Int) then(some 6) else(bE (α:=Unit) (fw k a0 a1 k (0,0)) (some) fun _=>
 some 0))
theorem pC(k:Nat)(a0:(ae×(List (Bool×Int))×(List Int)))(c:Nat)(j:Value)(a1:(List ap))(r:Int)(h:jY k a0 a1=some r):
 bQ Tryz.prog 74 [Pt c,Rs aB a1] [.obj c 80 (Qq a0 (.eq j))] (fun _:Unit=>(bG [I r],[.obj c 80 (Qq a0 (.eq j))])):=by
 unfold jY at h
 replace h:=bi h
 refine LG 96 Tryz.func74 rfl Tryz.ntmps74 rfl fun S w0=>?_
 refine sr ?_
 refine aA rfl rfl rfl (aF rfl OV Qa) trivial fun b1=>?_
 refine nt ?_
 refine sr ?_
 refine ja (jU [] [.tmp 4] [] [(Pv b1)] rfl rfl rfl) ?_
 refine I9 rfl rfl rfl rfl rfl ?_
 refine nt ?_
 refine aj ?_
 refine sr ?_
 refine mq ?_
 refine ol rR ?_
 refine mq ?_
 refine ja (aN rfl) ?_
 refine fl jX ?_
 refine fr 1 ?_
 refine lo rF ?_
 refine ol Gi ?_
 refine jb (ba rfl) ?_
 refine nt ?_
 refine ci h (fun h=>?_) (fun h=>?_)
 ·
  refine ah (ja (mH rfl DL) ?_);refine lW rfl rfl rfl rfl ?_;refine cN ?_;refine dn 1 rfl ?_;refine lX nR ?_;refine bC (SE.fin (Γ':=[(4,_)]) [1,0] ⟨rfl,trivial⟩ rfl) ?_;cases h;exact aZ () [_] 1 ⟨⟨_,_,_,_,_,rfl,(.tail _ (.head _)),xO,(fun _=>rfl),rfl⟩,trivial⟩ rfl
 ·
  refine sk (aj (sr (mq ?_)));refine ol rR ?_;refine mq ?_;refine ja (aN rfl) ?_;refine fl jX ?_;refine lo rF ?_;refine ol Gi ?_;refine jb (ik rfl) ?_;refine nt (ci h (fun h=>?_) (fun h=>?_))
  ·refine ah (ja (mH rfl DL) ?_);refine lW rfl rfl rfl rfl ?_;refine cN ?_;refine dn 1 rfl ?_;refine lX nR ?_;refine bC (SE.fin (Γ':=[(4,_)]) [1,0] ⟨rfl,trivial⟩ rfl) ?_;cases h;exact aZ () [_] 1 ⟨⟨_,_,_,_,_,rfl,(.tail _ (.head _)),xO,(fun _=>rfl),rfl⟩,trivial⟩ rfl
  ·refine sk (sr (cq (nt ?_)));refine cE (Z:=Unit) (α:=Unit) (fun z3 x2=>[(4,Pt b1)]) (fun z3 x2=>[.obj b1 34 (I 0),.obj c 80 (Qq a0 (.eq j))]) (fun e=>e=r) h (fun e h=>Option.some.inj h) (fun K hR h=>?_) (fun z3 x2 h=>?_)
   ·refine sr (mq ?_);refine ol rR ?_;refine fg rfl ?_;refine nt (al (aD (fun z5 y4=>[(0,Pt c),(4,Pt b1),(5,.eq (.int .u8 y4.1)),(27,Rs aB a1),(28,I (a1.length:Int)),(29,I y4.2)]) (fun z5 y4=>[.obj c 80 (Qq a0 (.eq j)),.obj b1 34 (I 0)]) (fw k a0 a1) k () (0,0) (fun _=>rfl) h (SE.fin [0,1] ⟨rfl,rfl,rfl,rfl,rfl,rfl,trivial⟩ rfl) (fun n z5 y4 h=>?_)));unfold fw at h;refine sr (jb (ba rfl) ?_);refine nt (aj (ci h (fun h=>?_) (fun h=>?_)))
    ·refine sk (aj (al (sr ?_)));obtain⟨x6,se,h⟩:=aa h;refine jb (aC (t:=aB) rfl rR j0 se) ?_;refine ja (ao (t:=aB) rfl j0 rfl) ?_;refine aA rfl rfl rfl (aF rfl vn IN) trivial fun b7=>?_;refine aK rfl rfl (aE rfl j0 rfl rfl rfl) ⟨rfl,rfl,trivial⟩ ?_;refine nt (aj (al (aj (a6 ?_))));refine da (am rfl gY) ?_;refine ea 0 (ai rfl cj dF rfl) ?_;refine dm ?_;refine da (aN rfl) ?_;refine da (am rfl jX) ?_;refine ea 1 (ai rfl rF dF rfl) ?_;refine da (mD rfl rfl Gi) ?_;obtain⟨x8,mc,h⟩:=aa h;refine db (g7 rfl mc) ?_;refine df bw ?_;obtain⟨r9,QA,h⟩:=aa h;refine jc (ak [.tmp 35,.const (.int .i64 (0)),.tmp 41] rfl rfl xd rfl (dk k x6.1 0 x8 r9 QA)) ?_;refine aq (nt ?_);refine cv h (fun h=>?_) (fun h=>?_)
     ·refine ah (ja (mH rfl DL) ?_);refine lW rfl rfl rfl rfl ?_;refine fW ?_;refine cN ?_;refine fW ?_;refine cN ?_;refine cN ?_;refine fW ?_;refine cN ?_;refine dn 2 rfl ?_;refine lX nR ?_;refine bC (SE.fin (Γ':=[(4,_)]) [2,0,1] ⟨rfl,trivial⟩ rfl) ?_;obtain rfl:=hR _ h;exact aZ () [_] 1 ⟨⟨_,_,_,_,_,rfl,(.tail _ (.head _)),xO,(fun _=>rfl),rfl⟩,trivial⟩ rfl
     ·refine sr (mq ?_);refine fl gY ?_;refine lo cj ?_;obtain⟨ac,M,h⟩:=aa h;refine jb (ak [.tmp 45,.tmp 47] rfl rfl FQ rfl (ix k y4.1 x6.1 ac M)) ?_;refine aq (nt ?_);refine cv h (fun h=>?_) (fun h=>?_)
      ·refine ah (ja (mH rfl DL) ?_);refine lW rfl rfl rfl rfl ?_;refine fW ?_;refine cN ?_;refine fW ?_;refine cN ?_;refine cN ?_;refine fW ?_;refine cN ?_;refine dn 2 rfl ?_;refine lX nR ?_;refine bC (SE.fin (Γ':=[(4,_)]) [2,0,1] ⟨rfl,trivial⟩ rfl) ?_;obtain rfl:=hR _ h;exact aZ () [_] 1 ⟨⟨_,_,_,_,_,rfl,(.tail _ (.head _)),xO,(fun _=>rfl),rfl⟩,trivial⟩ rfl
      ·refine aj (a6 ?_);refine da (am rfl px) ?_;refine ea 0 (ai rfl cj dF rfl) ?_;refine dm ?_;refine da (aN rfl) ?_;refine da (am rfl eT) ?_;refine da (am rfl bA) ?_;refine ea 1 (ai rfl eu dF rfl) ?_;refine da (mD rfl rfl l8) ?_;obtain⟨U,D,h⟩:=aa h;refine db (g7 rfl D) ?_;refine df bw ?_;obtain⟨Y,J,h⟩:=aa h;refine jc (ak [.tmp 52,.const (.int .i64 (0)),.tmp 59] rfl rfl xd rfl (dk k x6.2 0 U Y J)) ?_;refine aq (nt ?_);refine cv h (fun h=>?_) (fun h=>?_)
       ·refine ah (ja (mH rfl DL) ?_);refine lW rfl rfl rfl rfl ?_;refine fW ?_;refine cN ?_;refine fW ?_;refine cN ?_;refine cN ?_;refine fW ?_;refine cN ?_;refine dn 2 rfl ?_;refine lX nR ?_;refine bC (SE.fin (Γ':=[(4,_)]) [2,0,1] ⟨rfl,trivial⟩ rfl) ?_;obtain rfl:=hR _ h;exact aZ () [_] 1 ⟨⟨_,_,_,_,_,rfl,(.tail _ (.head _)),xO,(fun _=>rfl),rfl⟩,trivial⟩ rfl
       ·refine aj (a6 ?_);refine dm ?_;refine da (am rfl px) ?_;refine ea 0 (ai rfl cj dF rfl) ?_;refine dm ?_;refine da (aN rfl) ?_;refine da (am rfl jX) ?_;refine ea 1 (ai rfl rF dF rfl) ?_;refine da (am rfl gY) ?_;refine ea 0 (ai rfl cj dF rfl) ?_;obtain⟨Q,y,h⟩:=aa h;refine db (aC (t:=(.tag 104 115)) rfl Gi pM y) ?_;refine da (ao (t:=(.tag 104 115)) rfl pM rfl) ?_;refine df bw ?_;obtain⟨X,F,h⟩:=aa h;refine fr 1 ?_;refine kc (ak [.tmp 63,.tmp 65,.tmp 73] rfl rfl Oh rfl (oL k ((a0.1.1,a0.1.2.1,a0.1.2.2.1,a0.1.2.2.2),a0.2.1,a0.2.2) c j x6.2 Q X F)) ?_;refine ja (eE rfl) ?_;refine aq (nt ?_);refine cw h (fun h=>?_) (fun h=>?_)
        ·refine ah (ja (mH rfl DL) ?_);refine lW rfl rfl rfl rfl ?_;refine fW ?_;refine cN ?_;refine fW ?_;refine cN ?_;refine cN ?_;refine fW ?_;refine cN ?_;refine dn 2 rfl ?_;refine lX nR ?_;refine bC (SE.fin (Γ':=[(4,_)]) [1,0,2] ⟨rfl,trivial⟩ rfl) ?_;obtain rfl:=hR _ h;exact aZ () [_] 1 ⟨⟨_,_,_,_,_,rfl,(.tail _ (.head _)),xO,(fun _=>rfl),rfl⟩,trivial⟩ rfl
        ·refine aj (a6 ?_);refine dm ?_;refine da (am rfl gY) ?_;refine ea 1 (ai rfl cj dF rfl) ?_;refine da (aN rfl) ?_;refine da (am rfl uK) ?_;obtain⟨QC,l,h⟩:=aa h;refine db (cL rfl OG pS (av l).1 (av l).2) ?_;obtain⟨QB,x,h⟩:=aa h;refine ea 0 (fN (t:=(.int .u8)) (off:=5) (i:=x6.1) (N:=8) rfl pS (fun _=>rfl) rfl rfl rfl rfl x) ?_;refine dm ?_;refine df bw ?_;refine jb (C9 rfl) ?_;refine jb (bT rfl) ?_;refine aq (nt ?_);refine cn h (fun h=>?_) (fun h=>?_)
         ·refine ah (ja (mH rfl DL) ?_);refine lW rfl rfl rfl rfl ?_;refine fW ?_;refine cN ?_;refine fW ?_;refine cN ?_;refine cN ?_;refine fW ?_;refine cN ?_;refine dn 2 rfl ?_;refine lX nR ?_;refine bC (SE.fin (Γ':=[(4,_)]) [1,0,2] ⟨rfl,trivial⟩ rfl) ?_;obtain rfl:=hR _ h;exact aZ () [_] 1 ⟨⟨_,_,_,_,_,rfl,(.tail _ (.head _)),xO,(fun _=>rfl),rfl⟩,trivial⟩ rfl
         ·refine aU (aO (tn (ah (mq ?_))));refine fl gY ?_;refine fr 1 ?_;refine lo cj ?_;refine ja (bv (t:=(.int .i64)) [(.tmp 91,_)] [x6.1] rfl rfl eo (.cons rfl .int .nil) rfl rfl) ?_;obtain⟨s,E,h⟩:=aa h;refine ja (ak [.tmp 92] rfl rfl uP rfl (fJ k [x6.1] s E)) ?_;refine jb (xU rfl) ?_;refine aq (aT (aO (tn (ah ?_))));obtain⟨O,u,h⟩:=aa h;refine jb (bh rfl u) ?_;refine mq (nl ?_);exact jz ((),(nF .u8 y4.1 s,O)) h [1,2]
    ·refine xa ?_;exact jz ((),()) h [1,0]
   ·refine sr (aK rfl rfl (aE rfl xO rfl rfl rfl) ⟨rfl,rfl,trivial⟩ ?_);refine nt (aG (Lt nR ?_));refine bC (SE.fin (Γ':=[(4,_)]) [1,0] ⟨rfl,trivial⟩ rfl) ?_;cases h;exact aZ () [_] 1 ⟨⟨_,_,_,_,_,rfl,(.tail _ (.head _)),xO,(fun _=>rfl),rfl⟩,trivial⟩ rfl
def oM(k:Nat)(a0:ae)(a1:(List ap)):Option ((Option (ae×(List (Bool×Int))×(List Int)))×Int):=
 (bM k a0).bind fun r2=>
 jE r2.1 (if¬(r2.2=0) then(some (none,r2.2)) else(none)) (fun q3=>if¬(r2.2=0) then(some (none,r2.2)) else((jY k ((q3.1.1,q3.1.2.1,q3.1.2.2.1,q3.1.2.2.2),q3.2.1,q3.2.2) a1).bind fun r5=>
 some (some ((q3.1.1,q3.1.2.1,q3.1.2.2.1,q3.1.2.2.2),q3.2.1,q3.2.2),r5)))
theorem pD(k:Nat)(a0:ae)(a1:(List ap))(r:(Option (ae×(List (Bool×Int))×(List Int)))×Int)(h:oM k a0 a1=some r):
 bQ Tryz.prog 48 [.rep ag a0,Rs aB a1] [] (fun z:Nat×Nat=>(bG [N3 r.1 z.1,I r.2],NZ r.1 fun q=>[.obj z.1 80 (Qq q (.eq (.map (some z.2)))),.raw z.2 (.map #[] 0)])):=by
 unfold oM at h
 replace h:=bi h
 refine bQ.of 20 Tryz.func48 rfl Tryz.ntmps48 rfl fun S w0=>?_
 refine sr ?_
 refine bx fun b1=>?_
 refine cq ?_
 refine cq ?_
 refine nt ?_
 refine sr ?_
 refine lo bL ?_
 obtain⟨r2,j,h⟩:=aa h
 have c:=gz k a0 r2 j
 rcases hr:r2.1 with _ |q3
 ·
  rw [hr] at h c;replace h:=xj h;refine be (Δ:=[]) (F:=_) (fun _ _ _=>az rfl _) rfl rfl (ak [.tmp 9] rfl rfl rI rfl c) ⟨rfl,trivial⟩ fun _=>?_;refine mq ?_;refine xr ?_;refine xr ?_;refine aq ?_;refine aq (nt (aj (sr ?_)));refine mq ?_;refine jb (bT rfl) ?_;refine nt (cn h (fun h=>?_) (fun h=>?_))
  ·refine sr (mq ?_);refine cq ?_;refine aq (nt (rx ?_));cases h;exact aZ (0,0) [.eq (.pointer none),_] 0 ⟨rfl,rfl,trivial⟩ rfl
  ·refine sk (sr ?_);iterate 3 refine mq ?_
   cases h
 ·
  rw [hr] at h c;replace h:=xi h;refine be (Δ:=[]) (F:=_) (fun _ _ _=>az rfl _) rfl rfl (ak [.tmp 9] rfl rfl rI rfl c) ⟨rfl,trivial⟩ fun z4=>?_;refine mq ?_;refine xr ?_;refine xr ?_;refine aq ?_;refine aq (nt (aj (sr ?_)));refine mq ?_;refine jb (bT rfl) ?_;refine nt (cn h (fun h=>?_) (fun h=>?_))
  ·refine sr (mq ?_);refine cq ?_;refine aq (nt (rx ?_));cases h;exact aZ (0,0) [.eq (.pointer none),_] 0 ⟨rfl,rfl,trivial⟩ rfl
  ·refine sk (sr ?_);iterate 3 refine mq ?_
   obtain⟨r5,e,h⟩:=aa h;refine kb (ak [.tmp 17,.tmp 18] rfl rfl PC rfl (pC k ((q3.1.1,q3.1.2.1,q3.1.2.2.1,q3.1.2.2.2),q3.2.1,q3.2.2) z4.1 (.map (some z4.2)) a1 r5 e)) ?_;refine aq ?_;refine aq (nt (aG ?_));cases h;exact aZ (z4.1,z4.2) [.eq (.pointer (some ⟨z4.1,0,none⟩)),_] 2 ⟨rfl,rfl,trivial⟩ rfl
def sH(k:Nat)(a0:ae)(a1:(List ap)):Option ((List Int)×Int):=
 (oM k a0 a1).bind fun r2=>
 jE r2.1 (if¬(r2.2=0) then(some ([],r2.2)) else(none)) (fun q3=>if¬(r2.2=0) then(some ([],r2.2)) else((dZ k ((q3.1.1,q3.1.2.1,q3.1.2.2.1,q3.1.2.2.2),q3.2.1,q3.2.2) a1).bind fun r5=>
 some (r5.1,0)))
theorem yj(k:Nat)(a0:ae)(a1:(List ap))(r:(List Int)×Int)(h:sH k a0 a1=some r):
 bQ Tryz.prog 19 [.rep ag a0,Rs aB a1] [] (fun _:Unit=>(bG [Ri r.1,I r.2],[])):=by
 unfold sH at h
 replace h:=bi h
 refine bQ.of 26 Tryz.func19 rfl Tryz.ntmps19 rfl fun S w0=>?_
 refine sr ?_
 refine bx fun b1=>?_
 refine cq ?_
 refine cq ?_
 refine nt ?_
 refine sr ?_
 refine lo bL ?_
 refine mq ?_
 obtain⟨r2,j,h⟩:=aa h
 have c:=pD k a0 a1 r2 j
 rcases hr:r2.1 with _ |q3
 ·
  rw [hr] at h c;replace h:=xj h;refine be (Δ:=[]) (F:=_) (fun _ _ _=>az rfl _) rfl rfl (ak [.tmp 11,.tmp 12] rfl rfl FU rfl c) ⟨rfl,rfl,trivial⟩ fun _=>?_;refine mq ?_;refine xr ?_;refine xr ?_;refine aq ?_;refine aq (nt (aj (sr ?_)));refine mq ?_;refine jb (bT rfl) ?_;refine nt (cn h (fun h=>?_) (fun h=>?_))
  ·refine sr (mq ?_);refine cq ?_;refine aq (nt (rx ?_));refine bC (fY (t:=(.slice (.int .i64))) (x:=[]) 4 rfl .nil rfl rfl) ?_;cases h;exact rb
  ·refine sk (sr ?_);iterate 2 refine mq ?_
   cases h
 ·
  rw [hr] at h c;replace h:=xi h;refine be (Δ:=[]) (F:=_) (fun _ _ _=>az rfl _) rfl rfl (ak [.tmp 11,.tmp 12] rfl rfl FU rfl c) ⟨rfl,rfl,trivial⟩ fun z4=>?_;refine mq ?_;refine xr ?_;refine xr ?_;refine aq ?_;refine aq (nt (aj (sr ?_)));refine mq ?_;refine jb (bT rfl) ?_;refine nt (cn h (fun h=>?_) (fun h=>?_))
  ·refine sr (mq ?_);refine cq ?_;refine aq (nt (rx ?_));refine bC (fY (t:=(.slice (.int .i64))) (x:=[]) 4 rfl .nil rfl rfl) ?_;cases h;exact rb
  ·refine sk (sr ?_);iterate 2 refine mq ?_
   obtain⟨r5,e,h⟩:=aa h;refine kb (ak [.tmp 20,.tmp 21] rfl rfl KU rfl (ib k ((q3.1.1,q3.1.2.1,q3.1.2.2.1,q3.1.2.2.2),q3.2.1,q3.2.2) z4.1 (.map (some z4.2)) a1 r5 e)) ?_;refine mq ?_;refine xr ?_;refine xr ?_;refine aA rfl rfl rfl (aF rfl ES F9) trivial fun b6=>?_;refine aq ?_;refine aK rfl rfl (aE rfl CJ rfl rfl rfl) ⟨rfl,rfl,trivial⟩ ?_;refine nt (sr (mq ?_));refine aq ?_;refine cq (nt (aG ?_));cases h;exact rb
def mT(k:Nat):Option (List ap):=
 some [(1,0),(0,0),(2,0),(3,1)]
theorem mI(k:Nat)(r:(List ap))(h:mT k=some r):
 bQ Tryz.prog 20 [] [] (fun _:Unit=>(bG [Rs aB r],[])):=by
 unfold mT at h
 replace h:=bi h
 refine bQ.of 6 Tryz.func20 rfl Tryz.ntmps20 rfl fun S w0=>?_
 refine sr ?_
 refine cq ?_
 refine nt ?_
 refine sr ?_
 refine jb (cR [(0,.const (.int .i64 (1)),_),(1,.const (.int .i64 (0)),_)] rfl C0 vn xy (iF ⟨rfl,rfl,trivial⟩) rfl) ?_
 refine jb (cR [(0,.const (.int .i64 (0)),_),(1,.const (.int .i64 (0)),_)] rfl C0 vn xy (iF ⟨rfl,rfl,trivial⟩) rfl) ?_
 refine jb (cR [(0,.const (.int .i64 (2)),_),(1,.const (.int .i64 (0)),_)] rfl C0 vn xy (iF ⟨rfl,rfl,trivial⟩) rfl) ?_
 refine jb (cR [(0,.const (.int .i64 (3)),_),(1,.const (.int .i64 (1)),_)] rfl C0 vn xy (iF ⟨rfl,rfl,trivial⟩) rfl) ?_
 refine dx rfl (bv (t:=aB) [(.tmp 1,_),(.tmp 2,_),(.tmp 3,_),(.tmp 4,_)] [(1,0),(0,0),(2,0),(3,1)] rfl rfl zh (.cons trivial (.agg (.pair .int .int)) (.cons trivial (.agg (.pair .int .int)) (.cons trivial (.agg (.pair .int .int)) (.cons trivial (.agg (.pair .int .int)) .nil)))) rfl rfl) ⟨rfl,rfl,rfl,rfl,trivial⟩ ?_
 refine aq ?_
 refine nt ?_
 refine aG ?_
 cases h
 exact ra
def jm(k:Nat)(a0:(ae×(List (Bool×Int))×(List Int)))(a1:(List ap))(a2:Int)(r1:(List Int)×(List Int)):Nat→Int→Option (Except (Int×Int) Unit)
 |0,_=>none
 |n+1,y5=>
  if y5 < (a1.length:Int) then((aL a1 y5).bind fun x7=>
  (aL a0.2.1 x7.1).bind fun x9=>
  (cond x9.1 (dr k x9.2) (cV k x9.2)).bind fun s=>
  (aL a0.1.1 s).bind fun c=>
  ((if x9.1=true then(if 0 < c.2.2.2.2 then((cF (0≤x7.1∧x7.1 < 4)).bind fun _=>
  (aL r1.2 x7.1).bind fun h=>
  if c.2.2.2.2 < h then((cond x9.1 (dr k x9.2) (cV k x9.2)).bind fun r=>
  (fF k a2 r).bind fun l=>
  some (!l)) else(some false)) else(some false)) else(some false)):Option (Bool)).bind fun j=>
  if j=true then(some (.error (y5,c.2.2.2.2))) else((ck (y5+1)).bind fun e=>
  jm k a0 a1 a2 r1 n e)) else(some (.ok ()))
def nq(k:Nat)(a0:(ae×(List (Bool×Int))×(List Int)))(a1:(List ap))(a2:Int):Option (Int×Int):=
 (dZ k ((a0.1.1,a0.1.2.1,a0.1.2.2.1,a0.1.2.2.2),a0.2.1,a0.2.2) a1).bind fun r1=>
 bE (α:=Unit) (jm k a0 a1 a2 r1 k 0) (some) fun _=>
 some ((-1:Int),0)
theorem tO(k:Nat)(a0:(ae×(List (Bool×Int))×(List Int)))(c:Nat)(j:Value)(a1:(List ap))(a2:Int)(r:Int×Int)(h:nq k a0 a1 a2=some r):
 bQ Tryz.prog 50 [Pt c,Rs aB a1,.eq (.int .u8 a2)] [.obj c 80 (Qq a0 (.eq j))] (fun _:Unit=>(bG [I r.1,I r.2],[.obj c 80 (Qq a0 (.eq j))])):=by
 unfold nq at h
 replace h:=bi h
 refine bQ.of 75 Tryz.func50 rfl Tryz.ntmps50 rfl fun S w0=>?_
 refine sr ?_
 refine cq ?_
 refine cq ?_
 refine nt ?_
 refine sr ?_
 iterate 2 refine mq ?_
 obtain⟨r1,se,h⟩:=aa h
 have QA:=ib k ((a0.1.1,a0.1.2.1,a0.1.2.2.1,a0.1.2.2.2),a0.2.1,a0.2.2) c j a1 r1 se
 refine kb (ak [.tmp 17,.tmp 18] rfl rfl KU rfl QA) ?_
 refine mq ?_
 refine xr ?_
 refine xr ?_
 refine aA rfl rfl rfl (aF rfl ES F9) trivial fun b2=>?_
 refine aq ?_
 refine aK rfl rfl (aE rfl CJ rfl rfl rfl) ⟨rfl,rfl,trivial⟩ ?_
 refine nt ?_
 refine cE (Z:=Unit) (α:=Unit) (fun z4 x3=>[]) (fun z4 x3=>[.obj c 80 (Qq a0 (.eq j))]) (fun e=>e=r) h (fun e h=>Option.some.inj h) (fun K hR h=>?_) (fun z4 x3 h=>?_)
 ·
  refine sr (mq ?_);refine ol rR ?_;refine fg rfl ?_;refine nt (al (aD (fun z6 y5=>[(0,Pt c),(2,.eq (.int .u8 a2)),(9,Pt b2),(22,Rs aB a1),(23,I (a1.length:Int)),(24,I y5)]) (fun z6 y5=>[.obj c 80 (Qq a0 (.eq j)),.obj b2 95 (.rep (.arr 4 (.int .i64)) r1.2)]) (jm k a0 a1 a2 r1) k () 0 (fun _=>rfl) h (SE.fin [1,0] ⟨rfl,rfl,rfl,rfl,rfl,rfl,trivial⟩ rfl) (fun n z6 y5 h=>?_)));unfold jm at h;refine sr (jb (ba rfl) ?_);refine nt (aj (ci h (fun h=>?_) (fun h=>?_)))
  ·refine sk (aj (al (sr (mq ?_))));obtain⟨x7,mc,h⟩:=aa h;refine jb (aC (t:=aB) rfl rR j0 mc) ?_;refine ja (ao (t:=aB) rfl j0 rfl) ?_;refine aA rfl rfl rfl (aF rfl vn IN) trivial fun b8=>?_;refine aq ?_;refine aK rfl rfl (aE rfl j0 rfl rfl rfl) ⟨rfl,rfl,trivial⟩ ?_;refine nt (aj (a6 ?_));refine dm ?_;refine da (aN rfl) ?_;refine da (am rfl jX) ?_;refine ea 1 (ai rfl rF dF rfl) ?_;refine da (am rfl gY) ?_;refine ea 0 (ai rfl cj dF rfl) ?_;refine df bw ?_;obtain⟨x9,ac,h⟩:=aa h;refine jb (aC (t:=(.tag 104 115)) rfl Gi pM ac) ?_;refine ja (ao (t:=(.tag 104 115)) rfl pM rfl) ?_;refine aq (nt (aj ?_));refine a6 ?_;refine dm ?_;refine da (aN rfl) ?_;refine da (am rfl eT) ?_;refine da (am rfl bu) ?_;refine ea 1 (ai rfl dM dF rfl) ?_;refine dm ?_;obtain⟨J,x,h⟩:=aa h;refine nB rfl rfl rfl (lb rfl rfl gw gr (lu (fun hb=>dt k x9.2 J (by simpa [hb] using x)) (fun hb=>dJ k x9.2 J (by simpa [hb] using x)))) ⟨rfl,trivial⟩ ?_;refine df bw ?_;obtain⟨Y,Q,h⟩:=aa h;refine jb (aC (t:=aJ) rfl kU eY Q) ?_;refine ja (a8 1 false rfl wW rfl) ?_;refine ja (ao (t:=(.int .i64)) rfl cj rfl) ?_;refine aq (nt (sr ?_));refine mq ?_;refine dx rfl (Hm rfl GL (by decide)) ⟨rfl,trivial⟩ ?_;refine mq ?_;refine xr ?_;refine xr ?_;refine aq ?_;refine aq (nt ?_);refine ay (Z:=Unit) (α:=Bool) (fun E y=>[(0,Pt c),(2,.eq (.int .u8 a2)),(9,Pt b2),(10,I y5),(13,I Y.2.2.2.2),(22,Rs aB a1),(23,I (a1.length:Int)),(24,I y5),(71,.eq (.bool y))]) (fun E y=>[.obj c 80 (Qq a0 (.eq j)),.obj b2 95 (.rep (.arr 4 (.int .i64)) r1.2)]) h (fun K h=>?_) (fun E y h=>?_)
   ·refine ah ?_;iterate 2 refine mq ?_
    refine aM (s:=53) rfl (fun hb=>?_) (fun hb=>?_)
    ·replace h:=bY (uc hb) h;refine gm ?_;refine gb (ik rfl) ?_;refine pt ?_;refine mq ?_;refine aM (s:=57) rfl (fun hb=>?_) (fun hb=>?_)
     ·replace h:=bY (oQ hb) h;refine ga (am rfl gY) ?_;refine bO rfl rfl rfl rfl rfl rfl (ai rfl cj dF rfl) ⟨rfl,trivial⟩ ?_;obtain⟨QC,l,h⟩:=aa h;refine gb (cL rfl OF cj (av l).1 (av l).2) ?_;obtain⟨QB,O,h⟩:=aa h;refine fr 2 ?_;refine bO rfl rfl rfl rfl rfl rfl (fN (t:=(.int .i64)) (off:=0) (i:=x7.1) (N:=4) rfl cj (fun _=>rfl) rfl rfl rfl rfl O) ⟨rfl,trivial⟩ ?_;refine gm ?_;refine gb (ik rfl) ?_;refine pt ?_;refine mq ?_;refine aM (s:=65) rfl (fun hb=>?_) (fun hb=>?_)
      ·replace h:=bY (oQ hb) h;refine gm ?_;refine gm ?_;obtain⟨D,u,h⟩:=aa h;refine mz rfl rfl rfl rfl rfl rfl (lb rfl rfl gw gr (lu (fun hb=>dt k x9.2 D (by simpa [hb] using u)) (fun hb=>dJ k x9.2 D (by simpa [hb] using u)))) ⟨rfl,trivial⟩ ?_;obtain⟨F,U,h⟩:=aa h;refine gb (ak [.tmp 66,.tmp 68] rfl rfl FQ rfl (ix k a2 D F U)) ?_;refine ga (eE rfl) ?_;refine pt (nl ?_);exact jz ((), !F) h [2,0]
      ·replace h:=bj (oR hb) h;iterate 5 refine gn ?_
       refine pf (nl ?_);exact jz ((),false) h [2,0]
     ·replace h:=bj (oR hb) h;iterate 6 refine gn ?_
      refine pf ?_;refine mq ?_;iterate 5 refine gn ?_
      refine pf (nl ?_);exact jz ((),false) h [1,2]
    ·replace h:=bj (ud hb) h;iterate 2 refine gn ?_
     refine pf ?_;refine mq ?_;iterate 6 refine gn ?_
     refine pf ?_;refine mq ?_;iterate 5 refine gn ?_
     refine pf (nl ?_);exact jz ((),false) h [1,2]
   ·refine cv h (fun h=>?_) (fun h=>?_)
    ·refine sr ?_;iterate 2 refine mq ?_
     refine aq ?_;refine aq (nt (aG (br (aV (aR ?_)))));obtain rfl:=hR _ h;exact aZ () [_,_] 1 ⟨rfl,rfl,trivial⟩ rfl
    ·refine aU (aO (tn (ah ?_)));obtain⟨X,M,h⟩:=aa h;refine jb (bh rfl M) ?_;refine mq (nl ?_);exact jz ((),X) h [0,1]
  ·refine xa ?_;exact jz ((),()) h [0]
 ·
  refine sr (cq ?_);refine cq (nt (aG ?_));cases h;exact aZ () [_,_] 1 ⟨rfl,rfl,trivial⟩ rfl
def xp(k:Nat)(a0:ae)(a1:(List ap)):Option (Int×Int×Int):=
 (oM k a0 a1).bind fun r2=>
 jE r2.1 (if¬(r2.2=0) then(some (0,0,r2.2)) else(none)) (fun q3=>if¬(r2.2=0) then(some (0,0,r2.2)) else((nq k ((q3.1.1,q3.1.2.1,q3.1.2.2.1,q3.1.2.2.2),q3.2.1,q3.2.2) a1 0).bind fun r5=>
 some (r5.1,r5.2,0)))
theorem BG(k:Nat)(a0:ae)(a1:(List ap))(r:Int×Int×Int)(h:xp k a0 a1=some r):
 bQ Tryz.prog 21 [.rep ag a0,Rs aB a1] [] (fun _:Unit=>(bG [I r.1,I r.2.1,I r.2.2],[])):=by
 unfold xp at h
 replace h:=bi h
 refine bQ.of 28 Tryz.func21 rfl Tryz.ntmps21 rfl fun S w0=>?_
 refine sr ?_
 refine bx fun b1=>?_
 refine cq ?_
 refine cq ?_
 refine cq ?_
 refine nt ?_
 refine sr ?_
 refine lo bL ?_
 refine mq ?_
 obtain⟨r2,j,h⟩:=aa h
 have c:=pD k a0 a1 r2 j
 rcases hr:r2.1 with _ |q3
 ·
  rw [hr] at h c;replace h:=xj h;refine be (Δ:=[]) (F:=_) (fun _ _ _=>az rfl _) rfl rfl (ak [.tmp 12,.tmp 13] rfl rfl FU rfl c) ⟨rfl,rfl,trivial⟩ fun _=>?_;refine mq ?_;refine xr ?_;refine xr ?_;refine aq ?_;refine aq (nt (aj (sr ?_)));refine mq ?_;refine jb (bT rfl) ?_;refine nt (cn h (fun h=>?_) (fun h=>?_))
  ·refine sr (mq ?_);refine cq ?_;refine cq ?_;refine aq (nt (rx ?_));cases h;exact aZ () [_,_,_] 0 ⟨rfl,rfl,rfl,trivial⟩ rfl
  ·refine sk (sr ?_);iterate 2 refine mq ?_
   cases h
 ·
  rw [hr] at h c;replace h:=xi h;refine be (Δ:=[]) (F:=_) (fun _ _ _=>az rfl _) rfl rfl (ak [.tmp 12,.tmp 13] rfl rfl FU rfl c) ⟨rfl,rfl,trivial⟩ fun z4=>?_;refine mq ?_;refine xr ?_;refine xr ?_;refine aq ?_;refine aq (nt (aj (sr ?_)));refine mq ?_;refine jb (bT rfl) ?_;refine nt (cn h (fun h=>?_) (fun h=>?_))
  ·refine sr (mq ?_);refine cq ?_;refine cq ?_;refine aq (nt (rx ?_));cases h;exact aZ () [_,_,_] 0 ⟨rfl,rfl,rfl,trivial⟩ rfl
  ·refine sk (sr ?_);iterate 2 refine mq ?_
   obtain⟨r5,e,h⟩:=aa h;refine kc (ak [.tmp 21,.tmp 22,.const (.int .u8 (0))] rfl rfl PS rfl (tO k ((q3.1.1,q3.1.2.1,q3.1.2.2.1,q3.1.2.2.2),q3.2.1,q3.2.2) z4.1 (.map (some z4.2)) a1 0 r5 e)) ?_;refine mq ?_;refine xr ?_;refine xr ?_;refine aq ?_;refine aq (nt (sr ?_));iterate 2 refine mq ?_
   refine aq ?_;refine aq ?_;refine cq (nt (aG ?_));cases h;exact aZ () [_,_,_] 0 ⟨rfl,rfl,rfl,trivial⟩ rfl
end Go.Proofs.YtopgphikdglphaaGreat
