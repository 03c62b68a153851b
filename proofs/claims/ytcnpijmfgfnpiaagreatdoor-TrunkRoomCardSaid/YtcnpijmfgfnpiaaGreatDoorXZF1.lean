import Derived.Test.YtcnpijmfgfnpiaaGreatDoorXZFacts
set_option linter.unusedSimpArgs false
set_option linter.unusedVariables false
set_option maxRecDepth 4000
set_option maxHeartbeats 1000000
namespace Go.Proofs.YtcnpijmfgfnpiaaGreatDoor
open K Go Go.Proofs
def dP(k:Nat)(a0:Int)(a1:Int)(a2:Int):Option Bool:=
 ((if a1≤a0 then(some (decide (a0≤a2))) else(some false)):Option (Bool)).bind fun x1=>
 some x1
theorem d6(k:Nat)(a0:Int)(a1:Int)(a2:Int)(r:Bool)(h:dP k a0 a1 a2=some r):
 co Tryz.prog 83 [I a0,I a1,I a2] [] (fun _:Unit=>(bz [.eq (.bool r)],[])):=by
 unfold dP at h
 replace h:=be h
 refine co.of 15 Tryz.func83 rfl Tryz.ntmps83 rfl fun S w0=>?_
 refine sr ?_
 refine cq ?_
 refine nt ?_
 refine aW (Z:=Unit) (α:=Bool) (fun z2 x1=>[(6,.eq (.bool x1))]) (fun z2 x1=>[]) h (fun K h=>?_) (fun z2 x1 h=>?_)
 ·
  refine aa ?_;iterate 2 refine mq ?_
  refine jb (yL rfl) ?_;refine mq ?_;refine cg (s:=10) rfl (fun hb=>?_) (fun hb=>?_)
  ·replace h:=cZ (pH hb) h;refine gm ?_;refine gm ?_;refine gb (yL rfl) ?_;refine pt ?_;refine aq (nl ?_);exact jz ((),decide (a0≤a2)) h []
  ·replace h:=bS (pe hb) h;iterate 3 refine gn ?_
   refine pf ?_;refine aq (nl ?_);exact jz ((),false) h []
 ·
  refine aC ?_;cases h;exact ra
def cM(k:Nat)(a0:bh)(a1:dF):Nat→Int→Option (Except Int Unit)
 |0,_=>none
 |n+1,y6=>
  if y6 < (a1.2.length:Int) then((bv a1.2 y6).bind fun x8=>
  (ck (a0.1 - 1)).bind fun x9=>
  (dP k x8 0 x9).bind fun l=>
  if¬(l=true) then(some (.error 1)) else(((if 0 < y6 then((ck (y6 - 1)).bind fun h=>
  (bv a1.2 h).bind fun e=>
  some (decide (x8≤e))) else(some false)):Option (Bool)).bind fun j=>
  if j=true then(some (.error 5)) else((ck (y6+1)).bind fun c=>
  cM k a0 a1 n c))) else(some (.ok ()))
def gZ(k:Nat)(a0:bh)(a1:dF):Option Int:=
 (dP k a1.1 1 3).bind fun r3=>
 if¬(r3=true) then(some 1) else(bE (α:=Unit) (cM k a0 a1 k 0) (some) fun _=>
 some 0)
theorem qG(k:Nat)(a0:bh)(a1:dF)(r:Int)(h:gZ k a0 a1=some r):
 co Tryz.prog 92 [.rep aH a0,.rep aJ a1] [] (fun _:Unit=>(bz [I r],[])):=by
 unfold gZ at h
 replace h:=be h
 refine co.of 38 Tryz.func92 rfl Tryz.ntmps92 rfl fun S w0=>?_
 refine sr ?_
 refine bx fun b1=>?_
 refine bx fun b2=>?_
 refine cq ?_
 refine nt ?_
 refine ah ?_
 refine sr ?_
 refine fl uD ?_
 refine lo dJ ?_
 obtain⟨r3,O,h⟩:=ab h
 have Q:=d6 k a1.1 1 3 r3 O
 refine jc (an [.tmp 8,.const (.int .i64 (1)),.const (.int .i64 (3))] rfl rfl zu rfl Q) ?_
 refine ja (fJ rfl) ?_
 refine nt ?_
 refine cw h (fun h=>?_) (fun h=>?_)
 ·
  refine sr (cq (nt (rx ?_)));cases h;exact ra
 ·
  refine sk (iN (Z:=Unit) (α:=Unit) (fun z5 x4=>[]) (fun z5 x4=>[]) (fun e=>e=r) h (fun e h=>Option.some.inj h) (fun K hR h=>?_) (fun z5 x4 h=>?_))
  ·refine sr (fl lW ?_);refine lo de ?_;refine ol ip ?_;refine eB rfl ?_;refine nt (ao (aR (fun z7 y6=>[(2,Pt b1),(3,Pt b2),(12,Ri a1.2),(13,I (a1.2.length:Int)),(14,I y6)]) (fun z7 y6=>[.obj b1 25 (.rep aH a0),.obj b2 27 (.rep aJ a1)]) (cM k a0 a1) k () 0 (fun _=>rfl) h (SE.fin [1,0] ⟨rfl,rfl,rfl,rfl,rfl,trivial⟩ rfl) (fun n z7 y6 h=>?_)));unfold cM at h;refine sr (jb (bJ rfl) ?_);refine nt (ah (ci h (fun h=>?_) (fun h=>?_)))
   ·refine sk (ah (ao (sr (mq ?_))));obtain⟨x8,M,h⟩:=ab h;refine jb (a8 (t:=(.int .i64)) rfl ip dJ M) ?_;refine ja (ar (t:=(.int .i64)) rfl dJ rfl) ?_;refine aq ?_;refine aq (nt (ah (sr ?_)));refine mq ?_;refine fl gy ?_;refine lo dJ ?_;obtain⟨x9,J,h⟩:=ab h;refine jb (fH rfl J) ?_;obtain⟨F,y,h⟩:=ab h;refine jc (an [.tmp 19,.const (.int .i64 (0)),.tmp 22] rfl rfl zu rfl (d6 k x8 0 x9 F y)) ?_;refine ja (fJ rfl) ?_;refine nt (cw h (fun h=>?_) (fun h=>?_))
    ·refine sr (cq (nt (rx (br (bQ (ba ?_))))));obtain rfl:=hR _ h;exact ra
    ·refine sk (aW (Z:=Unit) (α:=Bool) (fun j c=>[(2,Pt b1),(3,Pt b2),(12,Ri a1.2),(13,I (a1.2.length:Int)),(14,I y6),(36,.eq (.bool c))]) (fun j c=>[.obj b1 25 (.rep aH a0),.obj b2 27 (.rep aJ a1)]) h (fun K h=>?_) (fun j c h=>?_))
     ·refine aa (mq ?_);refine jb (lG rfl) ?_;refine mq ?_;refine cg (s:=27) rfl (fun hb=>?_) (fun hb=>?_)
      ·replace h:=cZ (pH hb) h;refine gm ?_;refine ga (av rfl lW) ?_;refine fr 1 ?_;refine oG rfl rfl rfl rfl rfl rfl (aj rfl de lq rfl) ⟨rfl,trivial⟩ ?_;refine gm ?_;obtain⟨U,x,h⟩:=ab h;refine gb (fH rfl x) ?_;obtain⟨E,u,h⟩:=ab h;refine gb (a8 (t:=(.int .i64)) rfl ip dJ u) ?_;refine ga (ar (t:=(.int .i64)) rfl dJ rfl) ?_;refine gb (yL rfl) ?_;refine pt (nl ?_);exact jz ((),decide (x8≤E)) h [1,0]
      ·replace h:=bS (pe hb) h;iterate 8 refine gn ?_
       refine pf (nl ?_);exact jz ((),false) h [0,1]
     ·refine cv h (fun h=>?_) (fun h=>?_)
      ·refine sr (cq (nt (aC (br (bQ (ba ?_))))));obtain rfl:=hR _ h;exact ra
      ·refine aV (aO (tn (aa ?_)));obtain⟨D,l,h⟩:=ab h;refine jb (bD rfl l) ?_;refine mq (nl ?_);exact jz ((),D) h [0,1]
   ·refine xa ?_;exact jz ((),()) h []
  ·refine sr (cq (nt (aC ?_)));cases h;exact ra
def fe(k:Nat)(a0:bh):Nat→Int→Option (Except Int Unit)
 |0,_=>none
 |n+1,y5=>
  if y5 < (a0.2.1.length:Int) then((bv a0.2.1 y5).bind fun x7=>
  (gZ k a0 x7).bind fun r9=>
  if¬(r9=0) then(some (.error r9)) else((ck (y5+1)).bind fun c=>
  fe k a0 n c)) else(some (.ok ()))
def fa(k:Nat)(a0:bh):Nat→Int→Option (Except Int Unit)
 |0,_=>none
 |n+1,c=>
  if c < (a0.2.2.length:Int) then((bv a0.2.2 c).bind fun h=>
  (dP k h 0 9).bind fun j=>
  if¬(j=true) then(some (.error 1)) else((ck (c+1)).bind fun e=>
  fa k a0 n e)) else(some (.ok ()))
def kA(k:Nat)(a0:bh):Option Int:=
 (dP k a0.1 1 6).bind fun r2=>
 if¬(r2=true) then(some 1) else(if 5 < (a0.2.1.length:Int) then(some 6) else(bE (α:=Unit) (fe k a0 k 0) (some) fun _=>
 if(a0.2.2.length:Int) < 1 then(some 7) else(if 3 < (a0.2.2.length:Int) then(some 6) else(bE (α:=Unit) (fa k a0 k 0) (some) fun _=>
 some 0))))
theorem qI(k:Nat)(a0:bh)(r:Int)(h:kA k a0=some r):
 co Tryz.prog 33 [.rep aH a0] [] (fun _:Unit=>(bz [I r],[])):=by
 unfold kA at h
 replace h:=be h
 refine co.of 51 Tryz.func33 rfl Tryz.ntmps33 rfl fun S w0=>?_
 refine sr ?_
 refine bx fun b1=>?_
 refine cq ?_
 refine nt ?_
 refine ah ?_
 refine sr ?_
 refine fl gy ?_
 refine lo dJ ?_
 obtain⟨r2,U,h⟩:=ab h
 have X:=d6 k a0.1 1 6 r2 U
 refine jc (an [.tmp 10,.const (.int .i64 (1)),.const (.int .i64 (6))] rfl rfl zu rfl X) ?_
 refine ja (fJ rfl) ?_
 refine nt ?_
 refine cw h (fun h=>?_) (fun h=>?_)
 ·
  refine sr (cq (nt (rx ?_)));cases h;exact ra
 ·
  refine sk (ah (sr (fl du ?_)));refine lo jt ?_;refine ol ta ?_;refine jb (lG rfl) ?_;refine nt (ci h (fun h=>?_) (fun h=>?_))
  ·refine sr (cq (nt (rx ?_)));cases h;exact ra
  ·refine sk (iN (Z:=Unit) (α:=Unit) (fun z4 x3=>[(1,Pt b1)]) (fun z4 x3=>[.obj b1 25 (.rep aH a0)]) (fun e=>e=r) h (fun e h=>Option.some.inj h) (fun K hR h=>?_) (fun z4 x3 h=>?_))
   ·refine sr (fl du ?_);refine lo jt ?_;refine ol ta ?_;refine eB rfl ?_;refine nt (ao (aR (fun z6 y5=>[(1,Pt b1),(18,Rs aJ a0.2.1),(19,I (a0.2.1.length:Int)),(20,I y5)]) (fun z6 y5=>[.obj b1 25 (.rep aH a0)]) (fe k a0) k () 0 (fun _=>rfl) h (SE.fin [0] ⟨rfl,rfl,rfl,rfl,trivial⟩ rfl) (fun n z6 y5 h=>?_)));unfold fe at h;refine sr (jb (bJ rfl) ?_);refine nt (ah (ci h (fun h=>?_) (fun h=>?_)))
    ·refine sk (ah (ao (sr ?_)));obtain⟨x7,O,h⟩:=ab h;refine jb (a8 (t:=aJ) rfl ta ko O) ?_;refine ja (ar (t:=aJ) rfl ko rfl) ?_;refine aB rfl rfl rfl (aS rfl uV JK) trivial fun b8=>?_;refine aX rfl rfl (aP rfl ko rfl rfl rfl) ⟨rfl,rfl,trivial⟩ ?_;refine nt (sr (fr 1 ?_));refine lo fE ?_;refine fr 1 ?_;refine lo ko ?_;obtain⟨r9,Q,h⟩:=ab h;refine jb (an [.tmp 24,.tmp 25] rfl rfl QT rfl (qG k a0 x7 r9 Q)) ?_;refine aq (nt (sr ?_));refine mq ?_;refine jb (kf rfl) ?_;refine nt (cn h (fun h=>?_) (fun h=>?_))
     ·refine sr (mq ?_);refine aq (nt (aC (br (bQ (ba ?_)))));obtain rfl:=hR _ h;exact ra
     ·refine aV (aO (tn (aa ?_)));obtain⟨J,y,h⟩:=ab h;refine jb (bD rfl y) ?_;refine mq (nl ?_);exact jz ((),J) h [1]
    ·refine xa ?_;exact jz ((),()) h [0]
   ·refine ah (sr (fl eI ?_));refine lo de ?_;refine ol ip ?_;refine aq (nt (ao (sr ?_)));refine mq ?_;refine jb (bJ rfl) ?_;refine aq (nt ?_);refine ci h (fun h=>?_) (fun h=>?_)
    ·refine sr (cq (nt (aC (bQ (ba ?_)))));cases h;exact ra
    ·refine sr (mq ?_);refine jb (lG rfl) ?_;refine aq (nt ?_);refine ci h (fun h=>?_) (fun h=>?_)
     ·refine sr (cq (nt (aC (bQ (ba ?_)))));cases h;exact ra
     ·refine aV (aO (tn (iN (Z:=Unit) (α:=Unit) (fun l s=>[]) (fun l s=>[]) (fun e=>e=r) h (fun e h=>Option.some.inj h) (fun K hR h=>?_) (fun l s h=>?_))))
      ·refine sr (fl eI ?_);refine lo de ?_;refine ol ip ?_;refine eB rfl ?_;refine nt (ao (aR (fun j c=>[(41,Ri a0.2.2),(42,I (a0.2.2.length:Int)),(43,I c)]) (fun j c=>[]) (fa k a0) k () 0 (fun _=>rfl) h (SE.fin [] ⟨rfl,rfl,rfl,trivial⟩ rfl) (fun n j c h=>?_)));unfold fa at h;refine sr (jb (bJ rfl) ?_);refine nt (ah (ci h (fun h=>?_) (fun h=>?_)))
       ·refine sk (ah (ao (sr ?_)));obtain⟨F,x,h⟩:=ab h;refine jb (a8 (t:=(.int .i64)) rfl ip dJ x) ?_;refine ja (ar (t:=(.int .i64)) rfl dJ rfl) ?_;refine aq (nt (sr ?_));refine mq ?_;obtain⟨M,D,h⟩:=ab h;refine jc (an [.tmp 47,.const (.int .i64 (0)),.const (.int .i64 (9))] rfl rfl zu rfl (d6 k F 0 9 M D)) ?_;refine ja (fJ rfl) ?_;refine nt (cw h (fun h=>?_) (fun h=>?_))
        ·refine sr (cq (nt (aC (br (bQ (ba ?_))))));obtain rfl:=hR _ h;exact ra
        ·refine aV (aO (tn (aa ?_)));obtain⟨E,u,h⟩:=ab h;refine jb (bD rfl u) ?_;refine mq (nl ?_);exact jz ((),E) h []
       ·refine xa ?_;exact jz ((),()) h []
      ·refine sr (cq (nt (aC ?_)));cases h;exact ra
def dB(k:Nat)(a0:Int)(a1:Int):Option Bool:=
 (eK (0≤a1)).bind fun _=>
 some (decide ((vt .u8 (gR .u8 a0 a1) 1)=1))
theorem gW(k:Nat)(a0:Int)(a1:Int)(r:Bool)(h:dB k a0 a1=some r):
 co Tryz.prog 87 [.eq (.int .u8 a0),I a1] [] (fun _:Unit=>(bz [.eq (.bool r)],[])):=by
 unfold dB at h
 replace h:=be h
 refine co.of 10 Tryz.func87 rfl Tryz.ntmps87 rfl fun S w0=>?_
 refine sr ?_
 refine cq ?_
 refine nt ?_
 refine sr ?_
 iterate 2 refine mq ?_
 obtain⟨u1,c,h⟩:=ab h
 refine jb (ug rfl (aE c)) ?_
 refine jb (NZ rfl) ?_
 refine jb (fK rfl) ?_
 refine aq ?_
 refine nt ?_
 refine aC ?_
 cases h
 exact ra
def dy(k:Nat)(a0:Int)(a1:Int):Option Int:=
 (eK (0≤a1)).bind fun _=>
 some (BR .u8 a0 (lV .u8 1 a1))
theorem iH(k:Nat)(a0:Int)(a1:Int)(r:Int)(h:dy k a0 a1=some r):
 co Tryz.prog 134 [.eq (.int .u8 a0),I a1] [] (fun _:Unit=>(bz [.eq (.int .u8 r)],[])):=by
 unfold dy at h
 replace h:=be h
 refine co.of 9 Tryz.func134 rfl Tryz.ntmps134 rfl fun S w0=>?_
 refine sr ?_
 refine cq ?_
 refine nt ?_
 refine sr ?_
 iterate 2 refine mq ?_
 obtain⟨u1,c,h⟩:=ab h
 refine jb (FA rfl (aE c)) ?_
 refine jb (NW rfl) ?_
 refine aq ?_
 refine nt ?_
 refine aC ?_
 cases h
 exact ra
def fU(k:Nat)(a0:bh)(a1:(List Int)):Nat→(Int×Int)→Option Int
 |0,_=>none
 |n+1,y4=>
  if y4.2 < (a1.length:Int) then((bv a1 y4.2).bind fun x6=>
  (bv a0.2.1 x6).bind fun x7=>
  (ck (y4.1+x7.1)).bind fun x8=>
  (ck (y4.2+1)).bind fun x9=>
  fU k a0 a1 n (x8,x9)) else(some y4.1)
def mf(k:Nat)(a0:bh)(a1:(List Int)):Option Int:=
 ((fU k a0 a1 k (0,0)):Option (Int)).bind fun x2=>
 some x2
theorem sQ(k:Nat)(a0:bh)(a1:(List Int))(r:Int)(h:mf k a0 a1=some r):
 co Tryz.prog 135 [.rep aH a0,Ri a1] [] (fun _:Unit=>(bz [I r],[])):=by
 unfold mf at h
 replace h:=be h
 refine co.of 24 Tryz.func135 rfl Tryz.ntmps135 rfl fun S w0=>?_
 refine sr ?_
 refine bx fun b1=>?_
 refine cq ?_
 refine nt ?_
 refine sr ?_
 refine cq ?_
 refine nt ?_
 refine aW (Z:=Unit) (α:=Int) (fun z3 x2=>[(5,I x2)]) (fun z3 x2=>[]) h (fun K h=>?_) (fun z3 x2 h=>?_)
 ·
  refine sr (mq ?_);refine ol ip ?_;refine eB rfl ?_;refine nt (ao (aR (fun z5 y4=>[(2,Pt b1),(5,I y4.1),(8,Ri a1),(9,I (a1.length:Int)),(10,I y4.2)]) (fun z5 y4=>[.obj b1 25 (.rep aH a0)]) (fU k a0 a1) k () (0,0) (fun _=>rfl) h (SE.fin [0] ⟨rfl,rfl,rfl,rfl,rfl,trivial⟩ rfl) (fun n z5 y4 h=>?_)));unfold fU at h;refine sr (jb (bJ rfl) ?_);refine nt (ah (ci h (fun h=>?_) (fun h=>?_)))
  ·refine sk (ah (ao (sr ?_)));obtain⟨x6,l,h⟩:=ab h;refine jb (a8 (t:=(.int .i64)) rfl ip dJ l) ?_;refine ja (ar (t:=(.int .i64)) rfl dJ rfl) ?_;refine aq (nt (aa ?_));refine mq ?_;refine fl du ?_;refine lo jt ?_;refine mq ?_;obtain⟨x7,j,h⟩:=ab h;refine jb (a8 (t:=aJ) rfl ta ko j) ?_;refine ja (aI 1 false rfl uD rfl) ?_;refine ja (ar (t:=(.int .i64)) rfl dJ rfl) ?_;obtain⟨x8,e,h⟩:=ab h;refine jb (bD rfl e) ?_;refine aq (ak (aO (tn (aa ?_))));obtain⟨x9,c,h⟩:=ab h;refine jb (bD rfl c) ?_;refine mq (nl ?_);exact jz ((),(x8,x9)) h [0]
  ·refine xa ?_;exact jz ((),y4.1) h []
 ·
  refine sr (mq ?_);refine aq (nt (aC ?_));cases h;exact ra
def dX(k:Nat)(a0:bh)(x8:(List Int)):Nat→(Int×Int)→Option (Except Value Int)
 |0,_=>none
 |n+1,c=>
  if c.2 < (x8.length:Int) then((bv x8 c.2).bind fun e=>
  (ck ((a0.2.1.length:Int) - 1)).bind fun j=>
  (dP k e 0 j).bind fun s=>
  if¬(s=true) then(some (.error (.iface 118 (.agg #[.int .i64 3])))) else((dB k c.1 e).bind fun r=>
  if r=true then(some (.error (.iface 118 (.agg #[.int .i64 4])))) else((dy k c.1 e).bind fun l=>
  (ck (c.2+1)).bind fun h=>
  dX k a0 x8 n (l,h)))) else(some (.ok c.1))
def eZ(k:Nat)(a0:bh)(a1:(List (List Int))):Nat→(Int×Int)→Option (Except Value Int)
 |0,_=>none
 |n+1,y4=>
  if y4.2 < (a1.length:Int) then(bE (α:=Int) ((bv a1 y4.2).bind fun x8=>
  bE (α:=Int) (dX k a0 x8 k (y4.1,0)) (fun e=>some (.error e)) fun x9=>
  (mf k a0 x8).bind fun j=>
  (bv a0.2.2 y4.2).bind fun h=>
  if h < j then(some (.error (.iface 118 (.agg #[.int .i64 12])))) else(some (.ok x9))) (fun e=>some (.error e)) fun x6=>
  (ck (y4.2+1)).bind fun c=>
  eZ k a0 a1 n (x6,c)) else(some (.ok y4.1))
def kz(k:Nat)(a0:bh)(a1:(List (List Int))):Option Value:=
 if(a1.length:Int) < (a0.2.2.length:Int) then(some (.iface 118 (.agg #[.int .i64 7]))) else(if(a0.2.2.length:Int) < (a1.length:Int) then(some (.iface 118 (.agg #[.int .i64 6]))) else(bE (α:=Int) (eZ k a0 a1 k (0,0)) (some) fun x2=>
 (eK (0≤(a0.2.1.length:Int))).bind fun _=>
 if¬(x2=(IntKind.u8.wrap ((lV .u8 1 (a0.2.1.length:Int)) - 1))) then(some (.iface 118 (.agg #[.int .i64 7]))) else(some (.nilIface))))
theorem qC(k:Nat)(a0:bh)(a1:(List (List Int)))(r:Value)(h:kz k a0 a1=some r):
 co Tryz.prog 94 [.rep aH a0,.rep (.slice (.slice (.int .i64))) a1] [] (fun _:Unit=>(bz [.eq r],[])):=by
 unfold kz at h
 replace h:=be h
 refine co.of 80 Tryz.func94 rfl Tryz.ntmps94 rfl fun S w0=>?_
 refine sr ?_
 refine bx fun b1=>?_
 refine cq ?_
 refine nt ?_
 refine ah ?_
 refine sr ?_
 refine fl eI ?_
 refine lo de ?_
 refine ol ip ?_
 refine aq ?_
 refine nt ?_
 refine ao ?_
 refine sr ?_
 refine mq ?_
 refine ol s9 ?_
 refine mq ?_
 refine jb (bJ rfl) ?_
 refine aq ?_
 refine nt ?_
 refine ci h (fun h=>?_) (fun h=>?_)
 ·
  refine sr (ja (cO [(0,.const (.int .i64 (7)),_)] rfl vM tK sK (io ⟨rfl,trivial⟩) rfl) ?_);refine ja (my rfl Eh) ?_;refine aq (nt (aC (bQ (ba ?_))));cases h;exact ra
 ·
  refine sr (mq ?_);refine ol s9 ?_;refine mq ?_;refine jb (lG rfl) ?_;refine aq (nt ?_);refine ci h (fun h=>?_) (fun h=>?_)
  ·refine sr (ja (cO [(0,.const (.int .i64 (6)),_)] rfl vM tK sK (io ⟨rfl,trivial⟩) rfl) ?_);refine ja (my rfl Eh) ?_;refine aq (nt (aC (bQ (ba ?_))));cases h;exact ra
  ·refine aV (aO (tn (sr (cq (nt ?_)))));refine iN (Z:=Unit) (α:=Int) (fun z3 x2=>[(2,Pt b1),(6,.eq (.int .u8 x2))]) (fun z3 x2=>[.obj b1 25 (.rep aH a0)]) (fun e=>e=r) h (fun e h=>Option.some.inj h) (fun K hR h=>?_) (fun z3 x2 h=>?_)
   ·refine sr (mq ?_);refine ol s9 ?_;refine eB rfl ?_;refine nt (ao (aR (fun z5 y4=>[(2,Pt b1),(6,.eq (.int .u8 y4.1)),(28,.rep (.slice (.slice (.int .i64))) a1),(29,I (a1.length:Int)),(30,I y4.2)]) (fun z5 y4=>[.obj b1 25 (.rep aH a0)]) (eZ k a0 a1) k () (0,0) (fun _=>rfl) h (SE.fin [0] ⟨rfl,rfl,rfl,rfl,rfl,trivial⟩ rfl) (fun n z5 y4 h=>?_)));unfold eZ at h;refine sr (jb (bJ rfl) ?_);refine nt (ah (ci h (fun h=>?_) (fun h=>?_)))
    ·refine sk (iN (Z:=Unit) (α:=Int) (fun z7 x6=>[(2,Pt b1),(6,.eq (.int .u8 x6)),(28,.rep (.slice (.slice (.int .i64))) a1),(29,I (a1.length:Int)),(30,I y4.2)]) (fun z7 x6=>[.obj b1 25 (.rep aH a0)]) (fun e=>e=r) h (fun e h=>hR e h) (fun K hR h=>?_) (fun z7 x6 h=>?_))
     ·refine ao (sr (mq ?_));obtain⟨x8,se,h⟩:=ab h;refine jb (a8 (t:=(.slice (.int .i64))) rfl s9 de se) ?_;refine ja (ar (t:=(.slice (.int .i64))) rfl de rfl) ?_;refine aq ?_;refine aq (nt ?_);refine iN (Z:=Unit) (α:=Int) (fun s x9=>[(2,Pt b1),(6,.eq (.int .u8 x9)),(7,I y4.2),(8,Ri x8),(28,.rep (.slice (.slice (.int .i64))) a1),(29,I (a1.length:Int)),(30,I y4.2)]) (fun s x9=>[.obj b1 25 (.rep aH a0)]) (fun e=>e=r) h (fun e h=>hR e h) (fun K hR h=>?_) (fun s x9 h=>?_)
      ·refine sr (mq ?_);refine ol ip ?_;refine eB rfl ?_;refine nt (ao (aR (fun l c=>[(2,Pt b1),(6,.eq (.int .u8 c.1)),(7,I y4.2),(8,Ri x8),(28,.rep (.slice (.slice (.int .i64))) a1),(29,I (a1.length:Int)),(30,I y4.2),(35,Ri x8),(36,I (x8.length:Int)),(37,I c.2)]) (fun l c=>[.obj b1 25 (.rep aH a0)]) (dX k a0 x8) k () (y4.1,0) (fun _=>rfl) h (SE.fin [0] ⟨rfl,rfl,rfl,rfl,rfl,rfl,rfl,rfl,rfl,rfl,trivial⟩ rfl) (fun n l c h=>?_)));unfold dX at h;refine sr (jb (bJ rfl) ?_);refine nt (ah (ci h (fun h=>?_) (fun h=>?_)))
       ·refine sk (ah (ao (sr ?_)));obtain⟨j,F,h⟩:=ab h;refine jb (a8 (t:=(.int .i64)) rfl ip dJ F) ?_;refine ja (ar (t:=(.int .i64)) rfl dJ rfl) ?_;refine aq (nt (ah (sr ?_)));refine mq ?_;refine fl du ?_;refine lo jt ?_;refine ol ta ?_;obtain⟨ac,E,h⟩:=ab h;refine jb (fH rfl E) ?_;obtain⟨qt,U,h⟩:=ab h;refine jc (an [.tmp 41,.const (.int .i64 (0)),.tmp 45] rfl rfl zu rfl (d6 k j 0 ac qt U)) ?_;refine ja (fJ rfl) ?_;refine nt (cw h (fun h=>?_) (fun h=>?_))
        ·refine sr (ja (cO [(0,.const (.int .i64 (3)),_)] rfl vM tK sK (io ⟨rfl,trivial⟩) rfl) ?_);refine ja (my rfl Eh) ?_;refine aq (nt (rx (br (bQ (ba (br (bQ (ba ?_))))))));obtain rfl:=hR _ h;exact ra
        ·refine sk (ah (sr ?_));iterate 2 refine mq ?_
         obtain⟨pp,Q,h⟩:=ab h;refine jb (an [.tmp 50,.tmp 51] rfl rfl Jo rfl (gW k c.1 j pp Q)) ?_;refine nt (cv h (fun h=>?_) (fun h=>?_))
         ·refine sr (ja (cO [(0,.const (.int .i64 (4)),_)] rfl vM tK sK (io ⟨rfl,trivial⟩) rfl) ?_);refine ja (my rfl Eh) ?_;refine aq (nt (rx (br (bQ (ba (br (bQ (ba ?_))))))));obtain rfl:=hR _ h;exact ra
         ·refine sk (aa ?_);iterate 2 refine mq ?_
          obtain⟨u,O,h⟩:=ab h;refine jb (an [.tmp 55,.tmp 56] rfl rfl Ce rfl (iH k c.1 j u O)) ?_;refine aq (ak (aO (tn (aa ?_))));obtain⟨Y,D,h⟩:=ab h;refine jb (bD rfl D) ?_;refine mq (nl ?_);exact jz ((),(u,Y)) h [0]
       ·refine xa ?_;exact jz ((),c.1) h [0]
      ·refine ah (cm ?_);refine ea 0 (aj rfl fE (vR) rfl) ?_;refine dm ?_;obtain⟨mc,M,h⟩:=ab h;refine db (an [.tmp 59,.tmp 60] rfl rfl KL rfl (sQ k a0 x8 mc M)) ?_;refine da (av rfl eI) ?_;refine ea 0 (aj rfl de lq rfl) ?_;refine dm ?_;obtain⟨RJ,y,h⟩:=ab h;refine db (a8 (t:=(.int .i64)) rfl ip dJ y) ?_;refine da (ar (t:=(.int .i64)) rfl dJ rfl) ?_;refine df fN ?_;refine jb (lG rfl) ?_;refine nt (ci h (fun h=>?_) (fun h=>?_))
       ·refine sr (ja (cO [(0,.const (.int .i64 (12)),_)] rfl vM tK sK (io ⟨rfl,trivial⟩) rfl) ?_);refine ja (my rfl Eh) ?_;refine aq (nt (aC (br (bQ (ba ?_)))));obtain rfl:=hR _ h;exact ra
       ·refine aV (bn ?_);exact jz ((),x9) h [0]
     ·refine aa ?_;obtain⟨X,x,h⟩:=ab h;refine jb (bD rfl x) ?_;refine mq (nl ?_);exact jz ((),(x6,X)) h [0]
    ·refine xa ?_;exact jz ((),y4.1) h [0]
   ·refine ah (sr (mq ?_));refine fl du ?_;refine lo jt ?_;refine ol ta ?_;obtain⟨RL,J,h⟩:=ab h;refine jb (FA rfl (aE J)) ?_;refine jb (Fz rfl) ?_;refine jb (kf rfl) ?_;refine nt (cn h (fun h=>?_) (fun h=>?_))
    ·refine sr (ja (cO [(0,.const (.int .i64 (7)),_)] rfl vM tK sK (io ⟨rfl,trivial⟩) rfl) ?_);refine ja (my rfl Eh) ?_;refine aq (nt (rx ?_));cases h;exact ra
    ·refine sk (sr (cq (nt (aC ?_))));cases h;exact ra
def cz(k:Nat)(a0:(List (List Int)))(y5:(List (List Int))×Int):Nat→((List (List Int))×Int)→Option (List (List Int))
 |0,_=>none
 |n+1,y9=>
  if y9.2 < 5 then((((eK (0≤y5.2∧y5.2 < 3)).bind fun _=>
  (bv y9.1 y5.2).bind fun c=>
  (eK (0≤y9.2∧y9.2 < 5)).bind fun _=>
  ((if y5.2 < (a0.length:Int) then((bv a0 y5.2).bind fun r=>
  some (decide (y9.2 < (r.length:Int)))) else(some false)):Option (Bool)).bind fun s=>
  if s=true then((bv a0 y5.2).bind fun l=>
  (bv l y9.2).bind fun j=>
  (eK (0≤y5.2∧y5.2 < 3)).bind fun _=>
  (bv (List.set y9.1 (Int.toNat y5.2) (List.set c (Int.toNat y9.2) (-1:Int))) y5.2).bind fun h=>
  (eK (0≤y9.2∧y9.2 < 5)).bind fun _=>
  some (List.set (List.set y9.1 (Int.toNat y5.2) (List.set c (Int.toNat y9.2) (-1:Int))) (Int.toNat y5.2) (List.set h (Int.toNat y9.2) j))) else(some (List.set y9.1 (Int.toNat y5.2) (List.set c (Int.toNat y9.2) (-1:Int))))):Option ((List (List Int)))).bind fun u=>
  (ck (y9.2+1)).bind fun e=>
  cz k a0 y5 n (u,e)) else(some y9.1)
def cN(k:Nat)(a0:(List (List Int))):Nat→((List (List Int))×Int)→Option (List (List Int))
 |0,_=>none
 |n+1,y5=>
  if y5.2 < 3 then(((cz k a0 y5 k (y5.1,0)):Option ((List (List Int)))).bind fun x7=>
  (ck (y5.2+1)).bind fun c=>
  cN k a0 n (x7,c)) else(some y5.1)
def dC(k:Nat)(a0:(List (List Int))):Option (List (List Int)):=
 ((cN k a0 k ([[0,0,0,0,0],[0,0,0,0,0],[0,0,0,0,0]],0)):Option ((List (List Int)))).bind fun x3=>
 some x3
theorem eG(k:Nat)(a0:(List (List Int)))(r:(List (List Int)))(h:dC k a0=some r):
 co Tryz.prog 86 [.rep (.slice (.slice (.int .i64))) a0] [] (fun _:Unit=>(bz [.rep (.arr 3 (.arr 5 (.int .i64))) r],[])):=by
 unfold dC at h
 replace h:=be h
 refine co.of 43 Tryz.func86 rfl Tryz.ntmps86 rfl fun S w0=>?_
 refine sr ?_
 refine aB rfl rfl rfl (aS rfl l7 mH) trivial fun b1=>?_
 refine nt ?_
 refine sr ?_
 refine aB rfl rfl rfl (aS rfl l7 mH) trivial fun b2=>?_
 refine nt ?_
 refine aW (Z:=Unit) (α:=(List (List Int))) (fun z4 x3=>[(2,Pt b1),(3,Pt b2)]) (fun z4 x3=>[.obj b1 107 (.rep (.arr 3 (.arr 5 (.int .i64))) [[0,0,0,0,0],[0,0,0,0,0],[0,0,0,0,0]]),.obj b2 107 (.rep (.arr 3 (.arr 5 (.int .i64))) x3)]) h (fun K h=>?_) (fun z4 x3 h=>?_)
 ·
  refine sr (eB rfl ?_);refine nt (ao (aR (fun z6 y5=>[(0,.rep (.slice (.slice (.int .i64))) a0),(2,Pt b1),(3,Pt b2),(6,I y5.2)]) (fun z6 y5=>[.obj b1 107 (.rep (.arr 3 (.arr 5 (.int .i64))) [[0,0,0,0,0],[0,0,0,0,0],[0,0,0,0,0]]),.obj b2 107 (.rep (.arr 3 (.arr 5 (.int .i64))) y5.1)]) (cN k a0) k () ([[0,0,0,0,0],[0,0,0,0,0],[0,0,0,0,0]],0) (fun _=>rfl) h (SE.fin [1,0] ⟨rfl,rfl,rfl,rfl,trivial⟩ rfl) (fun n z6 y5 h=>?_)));unfold cN at h;refine sr (jb (bJ rfl) ?_);refine nt (ah (ci h (fun h=>?_) (fun h=>?_)))
  ·refine sk (aW (Z:=Unit) (α:=(List (List Int))) (fun z8 x7=>[(0,.rep (.slice (.slice (.int .i64))) a0),(2,Pt b1),(3,Pt b2),(6,I y5.2)]) (fun z8 x7=>[.obj b1 107 (.rep (.arr 3 (.arr 5 (.int .i64))) [[0,0,0,0,0],[0,0,0,0,0],[0,0,0,0,0]]),.obj b2 107 (.rep (.arr 3 (.arr 5 (.int .i64))) x7)]) h (fun K h=>?_) (fun z8 x7 h=>?_))
   ·refine ao (sr (mq ?_));refine aq (nt (sr ?_));refine eB rfl ?_;refine nt (ao (aR (fun J y9=>[(0,.rep (.slice (.slice (.int .i64))) a0),(2,Pt b1),(3,Pt b2),(4,I y5.2),(6,I y5.2),(9,I y9.2)]) (fun J y9=>[.obj b1 107 (.rep (.arr 3 (.arr 5 (.int .i64))) [[0,0,0,0,0],[0,0,0,0,0],[0,0,0,0,0]]),.obj b2 107 (.rep (.arr 3 (.arr 5 (.int .i64))) y9.1)]) (cz k a0 y5) k () (y5.1,0) (fun _=>rfl) h (SE.fin [0,1] ⟨rfl,rfl,rfl,rfl,rfl,rfl,trivial⟩ rfl) (fun n J y9 h=>?_)));unfold cz at h;refine sr (jb (bJ rfl) ?_);refine nt (ah (ci h (fun h=>?_) (fun h=>?_)))
    ·refine sk (aW (Z:=Unit) (α:=(List (List Int))) (fun F l=>[(0,.rep (.slice (.slice (.int .i64))) a0),(2,Pt b1),(3,Pt b2),(4,I y5.2),(6,I y5.2),(9,I y9.2)]) (fun F l=>[.obj b1 107 (.rep (.arr 3 (.arr 5 (.int .i64))) [[0,0,0,0,0],[0,0,0,0,0],[0,0,0,0,0]]),.obj b2 107 (.rep (.arr 3 (.arr 5 (.int .i64))) l)]) h (fun K h=>?_) (fun F l h=>?_))
     ·refine ao (sr (mq ?_));refine aq (nt (sr ?_));iterate 2 refine mq ?_
      obtain⟨RQ,x,h⟩:=ab h;refine jb (hH rfl JS yv (aE x).1 (aE x).2) ?_;obtain⟨D,ac,h⟩:=ab h;obtain⟨RP,e,h⟩:=ab h;refine jb (hH rfl JU dJ (aE e).1 (aE e).2) ?_;refine fr 1 ?_;refine aX rfl rfl (mY (t:=(.int .i64)) (off:=0) (i:=y5.2) (j:=y9.2) (N:=3) (L:=5) rfl dJ .int rfl rfl rfl rfl ac (aE e).1 (aE e).2 rfl) ⟨rfl,rfl,trivial⟩ ?_;refine nt (aW (Z:=Unit) (α:=Bool) (fun E y=>[(0,.rep (.slice (.slice (.int .i64))) a0),(2,Pt b1),(3,Pt b2),(4,I y5.2),(5,I y9.2),(6,I y5.2),(9,I y9.2),(28,.eq (.bool y))]) (fun E y=>[.obj b1 107 (.rep (.arr 3 (.arr 5 (.int .i64))) [[0,0,0,0,0],[0,0,0,0,0],[0,0,0,0,0]]),.obj b2 107 (.rep (.arr 3 (.arr 5 (.int .i64))) (List.set y9.1 (Int.toNat y5.2) (List.set D (Int.toNat y9.2) (-1:Int))))]) h (fun K h=>?_) (fun E y h=>?_))
      ·refine aa ?_;iterate 2 refine mq ?_
       refine ol s9 ?_;refine jb (bJ rfl) ?_;refine mq ?_;refine cg (s:=20) rfl (fun hb=>?_) (fun hb=>?_)
       ·replace h:=cZ (pH hb) h;refine gm ?_;refine gm ?_;refine gm ?_;obtain⟨RJ,Y,h⟩:=ab h;refine gb (a8 (t:=(.slice (.int .i64))) rfl s9 de Y) ?_;refine ga (ar (t:=(.slice (.int .i64))) rfl de rfl) ?_;refine ga (mt rfl rfl ip) ?_;refine gb (bJ rfl) ?_;refine pt (nl ?_);exact jz ((),decide (y9.2 < (RJ.length:Int))) h [1,0]
       ·replace h:=bS (pe hb) h;iterate 7 refine gn ?_
        refine pf (nl ?_);exact jz ((),false) h [1,0]
      ·refine cv h (fun h=>?_) (fun h=>?_)
       ·refine cm ?_;refine dm ?_;refine dm ?_;refine dm ?_;refine dm ?_;obtain⟨RL,X,h⟩:=ab h;refine db (a8 (t:=(.slice (.int .i64))) rfl s9 de X) ?_;refine da (ar (t:=(.slice (.int .i64))) rfl de rfl) ?_;refine dm ?_;obtain⟨se,U,h⟩:=ab h;refine db (a8 (t:=(.int .i64)) rfl ip dJ U) ?_;refine da (ar (t:=(.int .i64)) rfl dJ rfl) ?_;obtain⟨RO,u,h⟩:=ab h;refine db (hH rfl JS yv (aE u).1 (aE u).2) ?_;refine df fN ?_;obtain⟨qt,Q,h⟩:=ab h;obtain⟨RN,c,h⟩:=ab h;refine jb (hH rfl JU dJ (aE c).1 (aE c).2) ?_;refine fr 1 ?_;refine aX rfl rfl (mY (t:=(.int .i64)) (off:=0) (i:=y5.2) (j:=y9.2) (N:=3) (L:=5) rfl dJ .int rfl rfl rfl rfl Q (aE c).1 (aE c).2 rfl) ⟨rfl,rfl,trivial⟩ ?_;refine ak (bn ?_);exact jz ((),List.set (List.set y9.1 (Int.toNat y5.2) (List.set D (Int.toNat y9.2) (-1:Int))) (Int.toNat y5.2) (List.set qt (Int.toNat y9.2) se)) h [1,0]
       ·refine aV (bn ?_);exact jz ((),List.set y9.1 (Int.toNat y5.2) (List.set D (Int.toNat y9.2) (-1:Int))) h [0,1]
     ·refine aa ?_;obtain⟨pp,O,h⟩:=ab h;refine jb (bD rfl O) ?_;refine mq (nl ?_);exact jz ((),(l,pp)) h [0,1]
    ·refine eS (aY (aY (bZ (bn ?_))));exact jz ((),y9.1) h [0,1]
   ·refine aa ?_;obtain⟨mc,M,h⟩:=ab h;refine jb (bD rfl M) ?_;refine mq (nl ?_);exact jz ((),(x7,mc)) h [0,1]
  ·refine xa ?_;exact jz ((),y5.1) h [0,1]
 ·
  refine sr (fr 1 ?_);refine lo cQ ?_;refine fr 1 ?_;refine aX rfl rfl (aP rfl cQ rfl rfl rfl) ⟨rfl,rfl,trivial⟩ ?_;refine nt (aC ?_);obtain rfl:=Option.some.inj h;exact aK () [.rep (.arr 3 (.arr 5 (.int .i64))) x3] 0 ⟨⟨_,_,_,_,_,rfl,(.head _),cQ,(vR),rfl⟩,trivial⟩ rfl
def cF(k:Nat)(x5:(List Int)):Nat→((List Int)×Int)→Option (List Int)
 |0,_=>none
 |n+1,y6=>
  if y6.2 < 5 then((((bv x5 y6.2).bind fun c=>
  if 0≤c then((eK (bR (List.length y6.1+List.length [c]))).bind fun _=>
  some (y6.1++[c])) else(some y6.1)):Option ((List Int))).bind fun x8=>
  (ck (y6.2+1)).bind fun e=>
  cF k x5 n (x8,e)) else(some y6.1)
def dz(k:Nat)(a0:(List (List Int)))(a1:Int):Option (List Int):=
 (((eK (0≤a1∧a1 < 3)).bind fun _=>
 (bv a0 a1).bind fun x5=>
 cF k x5 k (([]:(List Int)),0)):Option ((List Int))).bind fun x2=>
 some x2
theorem fD(k:Nat)(a0:(List (List Int)))(a1:Int)(r:(List Int))(h:dz k a0 a1=some r):
 co Tryz.prog 110 [.rep (.arr 3 (.arr 5 (.int .i64))) a0,I a1] [] (fun _:Unit=>(bz [Ri r],[])):=by
 unfold dz at h
 replace h:=be h
 refine co.of 22 Tryz.func110 rfl Tryz.ntmps110 rfl fun S w0=>?_
 refine sr ?_
 refine bx fun b1=>?_
 refine cq ?_
 refine nt ?_
 refine sr ?_
 refine cq ?_
 refine nt ?_
 refine aW (Z:=Value) (α:=(List Int)) (fun z3 x2=>[(5,.eq z3)]) (fun z3 x2=>[.sl z3 3 (.int .i64) x2]) h (fun K h=>?_) (fun z3 x2 h=>?_)
 ·
  refine sr (mq ?_);obtain⟨u4,l,h⟩:=ab h;refine jb (hH rfl JS yv (aE l).1 (aE l).2) ?_;obtain⟨x5,y,h⟩:=ab h;refine ka (AH (t:=(.arr 5 (.int .i64))) (off:=0) (i:=a1) (N:=3) rfl yv (vR) rfl rfl rfl rfl y) ?_;refine eB rfl ?_;refine nt (ao (fX (SE.nil 3 (.int .i64)) ?_));refine aR (fun z7 y6=>[(5,.eq z7),(10,.rep (.arr 5 (.int .i64)) x5),(11,I y6.2)]) (fun z7 y6=>[.sl z7 3 (.int .i64) y6.1]) (cF k x5) k (.slice none 0 0) (([]:(List Int)),0) (fun _=>rfl) h (SE.fin [0] ⟨rfl,rfl,rfl,trivial⟩ rfl) (fun n z7 y6 h=>?_);unfold cF at h;refine sr (jb (bJ rfl) ?_);refine nt (ah (ci h (fun h=>?_) (fun h=>?_)))
  ·refine sk (aW (Z:=Value) (α:=(List Int)) (fun z9 x8=>[(5,.eq z9),(10,.rep (.arr 5 (.int .i64)) x5),(11,I y6.2)]) (fun z9 x8=>[.sl z9 3 (.int .i64) x8]) h (fun K h=>?_) (fun z9 x8 h=>?_))
   ·refine ao (sr ?_);obtain⟨c,j,h⟩:=ab h;refine jb (yN (t:=(.int .i64)) rfl JU dJ rfl rfl (fun _=>rfl) j) ?_;refine aq (nt (sr ?_));refine mq ?_;refine jb (sU rfl) ?_;refine nt (ci h (fun h=>?_) (fun h=>?_))
    ·refine aa ?_;iterate 2 refine mq ?_
     refine ja (bq (t:=(.int .i64)) [(.tmp 17,_)] [c] rfl rfl fq (.cons rfl .int .nil) rfl rfl) ?_;obtain⟨D,s,h⟩:=ab h;refine dG rfl rfl rfl (cC rfl rfl fq (aE s)) ⟨rfl,rfl,trivial⟩ fun x=>?_;refine aq (ak (bn ?_));exact jz (x,y6.1++[c]) h [0]
    ·refine aV (bn ?_);exact jz (z7,y6.1) h [0]
   ·refine aa ?_;obtain⟨u,e,h⟩:=ab h;refine jb (bD rfl e) ?_;refine mq (nl ?_);exact jz (z9,(x8,u)) h [0]
  ·refine xa ?_;exact jz (z7,y6.1) h [0]
 ·
  refine sr (mq ?_);refine aq (nt (aC ?_));refine bN (ix [4,5,21] ⟨rfl,rfl,rfl,trivial⟩) ?_;cases h;exact ra
def bY{σ:Type}(k:Nat)(a1:(List Int))(Y:σ→(Int×Int)→Option (σ×Bool)):Nat→(Int×σ)→Option (σ)
 |0,_=>none
 |n+1,y2=>
  if 0≤y2.1 then((bv a1 y2.1).bind fun x4=>
  (Y y2.2 (y2.1,x4)).bind fun r5=>
  if¬(r5.2=true) then(some r5.1) else((ck (y2.1 - 1)).bind fun x7=>
  bY k a1 Y n (x7,r5.1))) else(some y2.2)
def f6{σ:Type}(k:Nat)(Y:σ→(Int×Int)→Option (σ×Bool))(a1:(List Int))(s0:σ):Option (σ):=
 (ck ((a1.length:Int) - 1)).bind fun x1=>
 bY k a1 Y k (x1,s0)
theorem nw{M:Md Tryz.prog}{σ Z:Type}(E:Z→σ→List D)(l:Nat)(Y:σ→(Int×Int)→Option (σ×Bool))(k:Nat)(a1:(List Int))(c:Nat)(hY:∀z s p r,Y s p=some r→YT M l [I p.1,I p.2] (E z s) (fun z':Z=>(.eq (.bool r.2),E z' r.1))):
 ∀(z0:Z) (s0:σ) (r:σ),f6 k Y a1 s0=some r→dc M 208 [.eq (.func (.yield l) #[] #[]),Pt c] ([.obj c 23 (Ri a1)]++E z0 s0) (fun z:Z=>(bz [],[.obj c 23 (Ri a1)]++E z r)):=by
 intro z0 s0 r h
 unfold f6 at h
 replace h:=be h
 refine dc.of 19 Tryz.func208 rfl Tryz.ntmps208 rfl fun S w0=>?_
 refine sr ?_
 refine lo de ?_
 refine ol ip ?_
 obtain⟨x1,u,h⟩:=ab h
 refine jb (fH rfl u) ?_
 refine aq ?_
 refine nt ?_
 refine ao ?_
 refine aR (Z:=Z) (α:=Int×σ) (fun z3 y2=>[(0,.eq (.func (.yield l) #[] #[])),(1,Pt c),(3,I y2.1)]) (fun z3 y2=>[.obj c 23 (Ri a1)]++E z3 y2.2) (bY k a1 Y) k z0 (x1,s0) (fun _=>rfl) h (bB [.obj c 23 (Ri a1)] (E z0 s0) [0] ⟨rfl,rfl,rfl,trivial⟩ rfl) (fun n z3 y2 h=>?_)
 unfold bY at h
 refine ah ?_
 refine sr ?_
 refine mq ?_
 refine jb (sU rfl) ?_
 refine nt ?_
 refine ci h (fun h=>?_) (fun h=>?_)
 ·
  refine sk (ah (ao (sr ?_)));iterate 2 refine mq ?_
  refine lo de ?_;refine mq ?_;obtain⟨x4,j,h⟩:=ab h;refine jb (a8 (t:=(.int .i64)) rfl ip dJ j) ?_;refine ja (ar (t:=(.int .i64)) rfl dJ rfl) ?_;obtain⟨r5,x,h⟩:=ab h;refine oD [.obj c 23 (Ri a1)] rfl rfl rfl (wW [.tmp 12,.tmp 16] rfl rfl rfl (hY z3 y2.2 (y2.1,x4) r5 x)) ⟨rfl,rfl,rfl,trivial⟩ fun z6=>?_;refine ja (fJ rfl) ?_;refine nt (cw h (fun h=>?_) (fun h=>?_))
  ·refine aC (br (bQ ?_));cases h;exact im z6 [] trivial rfl
  ·refine aV (aO (tn (aa (mq ?_))));obtain⟨x7,e,h⟩:=ab h;refine jb (fH rfl e) ?_;refine aq (nl ?_);exact j9 (z6,(x7,r5.1)) h (bB [.obj c 23 (Ri a1)] (E z6 r5.1) [0] ⟨rfl,rfl,rfl,trivial⟩ rfl)
 ·
  refine eS (aY (aY (bZ (iC ?_))));cases h;exact im z3 [] trivial rfl
theorem px(a0:(List Int)):co Tryz.prog 190 [Ri a0] [] (fun z:Nat=>(bz [.eq (.func (.func 208) #[] #[(Pv z)])],[.obj z 23 (Ri a0)])):=by
 refine co.of 4 Tryz.func190 rfl Tryz.ntmps190 rfl fun S w0=>?_;refine sr (bx fun z=>?_);refine cq (nt (sr ?_));refine ja (rZ [] [.tmp 1] [] [(Pv z)] rfl rfl rfl) ?_;refine aq (nt (aC ?_));exact aK z [_] 1 ⟨rfl,trivial⟩ rfl
def nI(k:Nat)(a0:(List Int)):Option (List Int):=
 (f6 k (nK (fun(y3:(List Int)) (p5:(Int×Int))=>
  some ((p5.2::y3),true))) a0 ([],false)).bind fun r6=>
 if r6.2=true then(none) else(some r6.1)
theorem yp(k:Nat)(a0:(List Int))(r:(List Int))(h:nI k a0=some r):
 co Tryz.prog 157 [Ri a0] [] (fun _:Unit=>(bz [.rep (.lst (.int .i64)) r],[])):=by
 unfold nI at h
 replace h:=be h
 refine xX 15 Tryz.func157 rfl Tryz.ntmps157 rfl fun {M} S w0=>?_
 refine sr ?_
 refine cq ?_
 refine nt ?_
 refine sr ?_
 refine aB rfl rfl rfl (aS rfl Nl PQ) trivial fun b1=>?_
 refine nt ?_
 refine ah ?_
 refine sr ?_
 refine mq ?_
 refine aB rfl rfl rfl (an [.tmp 6] rfl rfl O4 rfl (px a0)) ⟨rfl,trivial⟩ fun b2=>?_
 refine nt ?_
 refine ao ?_
 refine iD 1 rfl ?_
 refine fX (pn (a:=.eq (.pointer none)) (a':=.rep (.lst (.int .i64)) []) (xZ .lnil)) ?_
 refine iD 1 rfl ?_
 obtain⟨r6,c,h⟩:=ab h
 refine nc (Δ:=[.obj b2 23 (Ri a0),.obj b1 216 (.rep (.lst (.int .i64)) [])]) (F:=[]) (X:=Unit) (J:=fun _=>IV r6.2) (E:=fun z4=>[.obj b2 23 (Ri a0),.obj b1 216 (.rep (.lst (.int .i64)) r6.1)]) (r0:=fun _=>.tup .any) rfl rfl O0 (fun rec hp ha hb hs hpe hN hv l=>?_) (fun dl z4=>pQ (fun hj=>?_) (fun hj=>?_))
 ·
  rcases rec with⟨st0,pe0,fn0,tm0,ps0,as0,bd0,df0⟩;dsimp only at hp ha hb hs hpe hN hv;subst hp hs hpe;have vN:uO tm0 [(3,Pt b1)]:=⟨congrArg A.eq (hv 3 _ rfl).symm,trivial⟩;refine dc.pick (M:=M) [1,0,2] [1,0,2] (nw (fun(z4:Unit) (q:(List Int)×Bool)=>[.raw l (.loop (jf ⟨.ready,none,fn0,tm0, #[8,9],as0,bd0,df0⟩ (IV q.2))),.obj b1 216 (.rep (.lst (.int .i64)) q.1)]) l (nK (fun(y3:(List Int)) (p5:(Int×Int))=>
  some ((p5.2::y3),true))) k a0 b2 (fun z4 q p r' h=>?_) () ([],false) r6 c) rfl (fun _=>rfl) (fun _=>rfl)
  obtain⟨rq,hq,h2,rfl⟩:=pR h;obtain⟨y3,b5⟩:=q;obtain rfl:b5=false:=hq;replace h:=be h2;obtain⟨p5,hpv⟩:∃x,x=p:=⟨_,rfl⟩;subst hpv;refine YT.pick (R':=(fun z4:Unit=>(.eq (.bool rq.2),[.raw l (.loop (jf ⟨.ready,none,fn0,tm0, #[8,9],as0,bd0,df0⟩ (IV (!rq.2)))),.obj b1 216 (.rep (.lst (.int .i64)) rq.1)]))) [0,1] [0,1] (JR ha hb (N:=15) (Γ:=[(3,Pt b1)]) rfl hN (by decide) vN (fun S w=>?_)) rfl (fun _=>rfl) (fun _=>rfl);refine aa (aq (nl ?_));refine uS rfl rfl ?_;refine ao (aa (mq ?_));refine fr 1 ?_;refine lo yt ?_;refine jb (cO [(0,.tmp 10,_),(1,.tmp 11,_)] rfl NR Nk MM (io ⟨rfl,rfl,trivial⟩) rfl) ?_;refine aB rfl rfl rfl (nq rfl trivial) ⟨rfl,trivial⟩ fun b7=>?_;refine bX (kF (t:=EY) (x:=(p5.2,y3)) [13] (.agg (.pair .int .rep)) ⟨rfl,trivial⟩) ?_;refine aX rfl rfl (aP rfl yt trivial rfl rfl) ⟨rfl,rfl,trivial⟩ ?_;refine ak (aO (bN (pn (a:=.at EY (p5.2,y3)) (a':=.rep (.lst (.int .i64)) (p5.2::y3)) (xZ .lcons)) ?_));refine eP 1 rfl ?_;cases h;exact sN () 1 rfl
 ·
  replace h:=bS (EC hj) h;refine aO (tn (sr (fr 2 ?_)));refine lo yt ?_;refine aq (nt (aC ?_));refine eP 1 rfl ?_;refine xU ?_;cases h;exact ra
 ·
  replace h:=cZ (EB hj) h;cases h
def fV(k:Nat)(a1:Int):Nat→(Int×(List Int)×(List Int)×(List Int))→Option (Int×(List Int))
 |0,_=>none
 |n+1,y2=>
  if List.isEmpty y2.2.2.2=true then((eK (bR (List.length y2.2.2.1+List.length y2.2.1))).bind fun _=>
  some (y2.1,y2.2.2.1++y2.2.1)) else((nE y2.2.2.2).bind fun x6=>
  (dB k a1 x6.1).bind fun r7=>
  if r7=true then((nE y2.2.2.2).bind fun x8=>
  (eK (bR (List.length y2.2.1+List.length [x8.1]))).bind fun _=>
  (nE y2.2.2.2).bind fun l=>
  fV k a1 n (y2.1,y2.2.1++[x8.1],y2.2.2.1,l.2)) else(((if 0 < (y2.2.1.length:Int) then((nE y2.2.2.2).bind fun h=>
  (dy k y2.1 h.1).bind fun r=>
  some r) else(some y2.1)):Option (Int)).bind fun j=>
  (nE y2.2.2.2).bind fun c=>
  (eK (bR (List.length y2.2.2.1+List.length [c.1]))).bind fun _=>
  (nE y2.2.2.2).bind fun e=>
  fV k a1 n (j,y2.2.1,y2.2.2.1++[c.1],e.2)))
def mg(k:Nat)(a0:(List Int))(a1:Int):Option (Int×(List Int)):=
 (nI k a0).bind fun r1=>
 fV k a1 k (0,([]:(List Int)),([]:(List Int)),r1)
theorem sR(k:Nat)(a0:(List Int))(a1:Int)(r:Int×(List Int))(h:mg k a0 a1=some r):
 co Tryz.prog 127 [Ri a0,.eq (.int .u8 a1)] [] (fun _:Unit=>(bz [.eq (.int .u8 r.1),Ri r.2],[])):=by
 unfold mg at h
 replace h:=be h
 refine co.of 54 Tryz.func127 rfl Tryz.ntmps127 rfl fun S w0=>?_
 refine sr ?_
 refine cq ?_
 refine cq ?_
 refine nt ?_
 refine Eu rfl (Cb (by kernel_rfl) (Cb (by kernel_rfl) (LU LS))) ?_
 refine sr ?_
 refine cq ?_
 refine cq ?_
 refine nt ?_
 refine sr ?_
 refine mq ?_
 obtain⟨r1,mc,h⟩:=ab h
 have pp:=yp k a0 r1 mc
 refine ja (an [.tmp 9] rfl rfl O9 rfl pp) ?_
 refine aq ?_
 refine nt ?_
 refine ah ?_
 refine HK ?_
 refine tn ?_
 refine fX (SE.nil 3 (.int .i64)) ?_
 refine fX (SE.nil 3 (.int .i64)) ?_
 refine Bn (Z:=Value×Value) (α:=Int×(List Int)×(List Int)×(List Int)) rfl (fun z3 y2=>[(1,.eq (.int .u8 a1)),(4,.eq (.int .u8 y2.1)),(6,.eq z3.1),(7,.eq z3.2),(8,.rep (.lst (.int .i64)) y2.2.2.2)]) (fun z3 y2=>[.sl z3.1 3 (.int .i64) y2.2.1,.sl z3.2 3 (.int .i64) y2.2.2.1]) (fV k a1) k ((.slice none 0 0),(.slice none 0 0)) (0,([]:(List Int)),([]:(List Int)),r1) (fun _=>rfl) h (SE.fin [1,0] ⟨rfl,rfl,rfl,rfl,rfl,trivial⟩ rfl) (fun n z3 y2 h=>?_)
 unfold fV at h
 refine ah ?_
 refine sr ?_
 refine mq ?_
 refine jb (FH rfl Q6) ?_
 refine nt ?_
 refine cv h (fun h=>?_) (fun h=>?_)
 ·
  refine sr ?_;iterate 3 refine mq ?_
  refine bX (ix [6,15] ⟨rfl,rfl,trivial⟩) ?_;obtain⟨u4,Y,h⟩:=ab h;refine dG rfl rfl rfl (cC rfl rfl fq (aE Y)) ⟨rfl,rfl,trivial⟩ fun v5=>?_;refine aq ?_;refine aq (nt (rx ?_));refine HJ ?_;refine bN (ix [5,16] ⟨rfl,rfl,trivial⟩) ?_;cases h;exact rb
 ·
  refine sk (ah (sr ?_));iterate 2 refine mq ?_
  obtain⟨x6,U,h⟩:=ab h;refine ja (kC rfl U) ?_;refine ja (aI 1 false rfl tD rfl) ?_;refine ja (ar (t:=(.int .i64)) rfl dJ rfl) ?_;obtain⟨r7,ac,h⟩:=ab h;refine jb (an [.tmp 17,.tmp 21] rfl rfl Jo rfl (gW k a1 x6.1 r7 ac)) ?_;refine nt (cv h (fun h=>?_) (fun h=>?_))
  ·refine sr ?_;iterate 2 refine mq ?_
   obtain⟨x8,Q,h⟩:=ab h;refine ja (kC rfl Q) ?_;refine ja (aI 1 false rfl tD rfl) ?_;refine ja (ar (t:=(.int .i64)) rfl dJ rfl) ?_;refine ja (bq (t:=(.int .i64)) [(.tmp 27,_)] [x8.1] rfl rfl fq (.cons rfl .int .nil) rfl rfl) ?_;obtain⟨u9,X,h⟩:=ab h;refine dG rfl rfl rfl (cC rfl rfl fq (aE X)) ⟨rfl,rfl,trivial⟩ fun O=>?_;refine aq (nt (sr ?_));refine mq ?_;obtain⟨J,y,h⟩:=ab h;refine ja (kC rfl y) ?_;refine ja (aI 1 false rfl BZ rfl) ?_;refine ja (ar (t:=(.lst (.int .i64))) rfl yt rfl) ?_;refine aq (nt ?_);refine CP ?_;refine Et ?_;exact CN ((O,z3.2),(y2.1,y2.2.1++[x8.1],y2.2.2.1,J.2)) h (SE.fin [0,1] ⟨rfl,rfl,rfl,rfl,rfl,trivial⟩ rfl)
  ·refine sk (aW (Z:=Unit) (α:=Int) (fun e c=>[(1,.eq (.int .u8 a1)),(4,.eq (.int .u8 c)),(6,.eq z3.1),(7,.eq z3.2),(8,.rep (.lst (.int .i64)) y2.2.2.2)]) (fun e c=>[.sl z3.1 3 (.int .i64) y2.2.1,.sl z3.2 3 (.int .i64) y2.2.2.1]) h (fun K h=>?_) (fun e c h=>?_))
   ·refine sr (mq ?_);refine ka (eV rfl rfl ip) ?_;refine jb (lG rfl) ?_;refine nt (ci h (fun h=>?_) (fun h=>?_))
    ·refine aa ?_;iterate 2 refine mq ?_
     obtain⟨I,x,h⟩:=ab h;refine ja (kC rfl x) ?_;refine ja (aI 1 false rfl tD rfl) ?_;refine ja (ar (t:=(.int .i64)) rfl dJ rfl) ?_;obtain⟨l,E,h⟩:=ab h;refine jb (an [.tmp 37,.tmp 41] rfl rfl Ce rfl (iH k y2.1 I.1 l E)) ?_;refine aq (nl ?_);exact jz ((),l) h [0,1]
    ·refine aV (ae ?_);exact jz ((),y2.1) h [0,1]
   ·refine sr ?_;iterate 2 refine mq ?_
    obtain⟨j,u,h⟩:=ab h;refine ja (kC rfl u) ?_;refine ja (aI 1 false rfl tD rfl) ?_;refine ja (ar (t:=(.int .i64)) rfl dJ rfl) ?_;refine ja (bq (t:=(.int .i64)) [(.tmp 47,_)] [j.1] rfl rfl fq (.cons rfl .int .nil) rfl rfl) ?_;obtain⟨qt,D,h⟩:=ab h;refine fr 1 ?_;refine dG rfl rfl rfl (cC rfl rfl fq (aE D)) ⟨rfl,rfl,trivial⟩ fun M=>?_;refine aq (nt (sr ?_));refine mq ?_;obtain⟨F,s,h⟩:=ab h;refine ja (kC rfl s) ?_;refine ja (aI 1 false rfl BZ rfl) ?_;refine ja (ar (t:=(.lst (.int .i64))) rfl yt rfl) ?_;refine aq (nt ?_);refine CP ?_;exact CN ((z3.1,M),(c,y2.2.1,y2.2.2.1++[j.1],F.2)) h (SE.fin [1,0] ⟨rfl,rfl,rfl,rfl,rfl,trivial⟩ rfl)
def cU(k:Nat)(a0:(List Int))(a1:Int):Nat→Int→Option (Except Int Unit)
 |0,_=>none
 |n+1,y3=>
  if y3 < (a0.length:Int) then((bv a0 y3).bind fun x5=>
  if a1=x5 then(some (.error y3)) else((ck (y3+1)).bind fun x6=>
  cU k a0 a1 n x6)) else(some (.ok ()))
def iy(k:Nat)(a0:(List Int))(a1:Int):Option Int:=
 bE (α:=Unit) (cU k a0 a1 k 0) (some) fun _=>
 some (-1:Int)
theorem rQ(k:Nat)(a0:(List Int))(a1:Int)(r:Int)(h:iy k a0 a1=some r):
 co Tryz.prog 123 [Ri a0,I a1] [] (fun _:Unit=>(bz [I r],[])):=by
 unfold iy at h
 replace h:=be h
 refine co.of 19 Tryz.func123 rfl Tryz.ntmps123 rfl fun S w0=>?_
 refine sr ?_
 refine cq ?_
 refine nt ?_
 refine iN (Z:=Unit) (α:=Unit) (fun z2 x1=>[]) (fun z2 x1=>[]) (fun e=>e=r) h (fun e h=>Option.some.inj h) (fun K hR h=>?_) (fun z2 x1 h=>?_)
 ·
  refine sr (mq ?_);refine ol ip ?_;refine eB rfl ?_;refine nt (ao (aR (fun z4 y3=>[(0,Ri a0),(1,I a1),(7,I (a0.length:Int)),(8,I y3)]) (fun z4 y3=>[]) (cU k a0 a1) k () 0 (fun _=>rfl) h (SE.fin [] ⟨rfl,rfl,rfl,rfl,trivial⟩ rfl) (fun n z4 y3 h=>?_)));unfold cU at h;refine sr (jb (bJ rfl) ?_);refine nt (ah (ci h (fun h=>?_) (fun h=>?_)))
  ·refine sk (ah (ao (sr (mq ?_))));refine aq (nt (sr ?_));iterate 3 refine mq ?_
   obtain⟨x5,j,h⟩:=ab h;refine jb (a8 (t:=(.int .i64)) rfl ip dJ j) ?_;refine ja (ar (t:=(.int .i64)) rfl dJ rfl) ?_;refine jb (fK rfl) ?_;refine nt (ci h (fun h=>?_) (fun h=>?_))
   ·refine sr (mq ?_);refine aq (nt (aC (br (bQ (ba ?_)))));obtain rfl:=hR _ h;exact ra
   ·refine aV (aO (tn (aa ?_)));obtain⟨x6,c,h⟩:=ab h;refine jb (bD rfl c) ?_;refine mq (nl ?_);exact jz ((),x6) h []
  ·refine xa ?_;exact jz ((),()) h []
 ·
  refine sr (cq (nt (aC ?_)));cases h;exact ra
def fF(k:Nat)(a0:(List Int))(a1:Int):Option Bool:=
 (iy k a0 a1).bind fun r1=>
 some (decide (0≤r1))
theorem pu(k:Nat)(a0:(List Int))(a1:Int)(r:Bool)(h:fF k a0 a1=some r):
 co Tryz.prog 158 [Ri a0,I a1] [] (fun _:Unit=>(bz [.eq (.bool r)],[])):=by
 unfold fF at h
 replace h:=be h
 refine co.of 9 Tryz.func158 rfl Tryz.ntmps158 rfl fun S w0=>?_
 refine sr ?_
 refine cq ?_
 refine nt ?_
 refine sr ?_
 iterate 2 refine mq ?_
 obtain⟨r1,c,h⟩:=ab h
 have e:=rQ k a0 a1 r1 c
 refine jb (an [.tmp 5,.tmp 6] rfl rfl Py rfl e) ?_
 refine jb (sU rfl) ?_
 refine aq ?_
 refine nt ?_
 refine aC ?_
 cases h
 exact ra
def eC(k:Nat)(a0:cS)(a1:Int):Nat→(Int×Int)→Option Int
 |0,_=>none
 |n+1,y3=>
  if y3.2 < (a0.1.2.1.length:Int) then((((bv a0.1.2.1 y3.2).bind fun x7=>
  (fF k x7.2 a1).bind fun r9=>
  if r9=true then((dy k y3.1 y3.2).bind fun e=>
  some e) else(some y3.1)):Option (Int)).bind fun x5=>
  (ck (y3.2+1)).bind fun c=>
  eC k a0 a1 n (x5,c)) else(some y3.1)
def gj(k:Nat)(a0:cS)(a1:Int):Option Int:=
 ((eC k a0 a1 k (0,0)):Option (Int)).bind fun x1=>
 some x1
theorem me(k:Nat)(a0:cS)(a1:Int)(r:Int)(h:gj k a0 a1=some r):
 co Tryz.prog 128 [.at bj a0,I a1] [] (fun _:Unit=>(bz [.eq (.int .u8 r)],[])):=by
 unfold gj at h
 replace h:=be h
 refine co.of 28 Tryz.func128 rfl Tryz.ntmps128 rfl fun S w0=>?_
 refine sr ?_
 refine cq ?_
 refine nt ?_
 refine sr ?_
 refine cq ?_
 refine nt ?_
 refine aW (Z:=Unit) (α:=Int) (fun z2 x1=>[(5,.eq (.int .u8 x1))]) (fun z2 x1=>[]) h (fun K h=>?_) (fun z2 x1 h=>?_)
 ·
  refine sr (mq ?_);refine ja (dn rfl) ?_;refine ja (aI 3 true rfl jm rfl) ?_;refine ja (aI 1 false rfl du rfl) ?_;refine ja (ar (t:=(.slice aJ)) rfl jt rfl) ?_;refine ol ta ?_;refine eB rfl ?_;refine nt (ao (aR (fun z4 y3=>[(1,I a1),(5,.eq (.int .u8 y3.1)),(12,Rs aJ a0.1.2.1),(13,I (a0.1.2.1.length:Int)),(14,I y3.2)]) (fun z4 y3=>[]) (eC k a0 a1) k () (0,0) (fun _=>rfl) h (SE.fin [] ⟨rfl,rfl,rfl,rfl,rfl,trivial⟩ rfl) (fun n z4 y3 h=>?_)));unfold eC at h;refine sr (jb (bJ rfl) ?_);refine nt (ah (ci h (fun h=>?_) (fun h=>?_)))
  ·refine sk (aW (Z:=Unit) (α:=Int) (fun z6 x5=>[(1,I a1),(5,.eq (.int .u8 x5)),(12,Rs aJ a0.1.2.1),(13,I (a0.1.2.1.length:Int)),(14,I y3.2)]) (fun z6 x5=>[]) h (fun K h=>?_) (fun z6 x5 h=>?_))
   ·refine ao (sr (mq ?_));obtain⟨x7,s,h⟩:=ab h;refine jb (a8 (t:=aJ) rfl ta ko s) ?_;refine ja (ar (t:=aJ) rfl ko rfl) ?_;refine aB rfl rfl rfl (aS rfl uV JK) trivial fun b8=>?_;refine aq ?_;refine aX rfl rfl (aP rfl ko rfl rfl rfl) ⟨rfl,rfl,trivial⟩ ?_;refine nt (sr (fl lW ?_));refine lo de ?_;refine mq ?_;obtain⟨r9,u,h⟩:=ab h;refine jb (an [.tmp 20,.tmp 21] rfl rfl O8 rfl (pu k x7.2 a1 r9 u)) ?_;refine nt (cv h (fun h=>?_) (fun h=>?_))
    ·refine aa ?_;iterate 2 refine mq ?_
     obtain⟨c,j,h⟩:=ab h;refine jb (an [.tmp 23,.tmp 24] rfl rfl Ce rfl (iH k y3.1 y3.2 c j)) ?_;refine aq (ak (bn ?_));exact jz ((),c) h []
    ·refine aV (bn ?_);exact jz ((),y3.1) h []
   ·refine aa ?_;obtain⟨l,e,h⟩:=ab h;refine jb (bD rfl e) ?_;refine mq (nl ?_);exact jz ((),(x5,l)) h []
  ·refine xa ?_;exact jz ((),y3.1) h []
 ·
  refine sr (mq ?_);refine aq (nt (aC ?_));cases h;exact ra
def iG(k:Nat)(a0:cS)(a1:(List (List Int)))(a2:Int):Nat→(Int×(List (List Int))×Int)→Option (Int×(List (List Int)))
 |0,_=>none
 |n+1,y5=>
  if y5.2.2 < 3 then((dz k a1 y5.2.2).bind fun r7=>
  (gj k a0 a2).bind fun r8=>
  (mg k r7 r8).bind fun r9=>
  (eK (bR (List.length y5.2.1+List.length [r9.2]))).bind fun _=>
  (ck (y5.2.2+1)).bind fun c=>
  iG k a0 a1 a2 n (BR .u8 y5.1 r9.1,y5.2.1++[r9.2],c)) else(some (y5.1,y5.2.1))
def kl(k:Nat)(a0:cS)(a1:(List (List Int)))(a2:Int):Option (Int×(List (List Int))):=
 ((iG k a0 a1 a2 k (0,([]:(List (List Int))),0)):Option (Int×(List (List Int)))).bind fun x3=>
 (dC k x3.2).bind fun c=>
 some (x3.1,c)
theorem nk(k:Nat)(a0:cS)(a1:(List (List Int)))(a2:Int)(r:Int×(List (List Int)))(h:kl k a0 a1 a2=some r):
 co Tryz.prog 85 [.at bj a0,.rep (.arr 3 (.arr 5 (.int .i64))) a1,I a2] [] (fun _:Unit=>(bz [.eq (.int .u8 r.1),.rep (.arr 3 (.arr 5 (.int .i64))) r.2],[])):=by
 unfold kl at h
 replace h:=be h
 refine co.of 37 Tryz.func85 rfl Tryz.ntmps85 rfl fun S w0=>?_
 refine sr ?_
 refine bx fun b1=>?_
 refine cq ?_
 refine aB rfl rfl rfl (aS rfl l7 mH) trivial fun b2=>?_
 refine nt ?_
 refine sr ?_
 refine cq ?_
 refine nt ?_
 refine sr ?_
 refine cq ?_
 refine nt ?_
 refine aW (Z:=Value) (α:=Int×(List (List Int))) (fun z4 x3=>[(7,Pt b2),(8,.eq (.int .u8 x3.1)),(9,.eq z4)]) (fun z4 x3=>[.obj b2 107 (.rep (.arr 3 (.arr 5 (.int .i64))) [[0,0,0,0,0],[0,0,0,0,0],[0,0,0,0,0]]),.sl z4 23 (.slice (.int .i64)) x3.2]) h (fun K h=>?_) (fun z4 x3 h=>?_)
 ·
  refine sr (eB rfl ?_);refine nt (ao (fX (SE.nil 23 (.slice (.int .i64))) ?_));refine aR (fun z6 y5=>[(0,.at bj a0),(2,I a2),(4,Pt b1),(7,Pt b2),(8,.eq (.int .u8 y5.1)),(9,.eq z6),(13,I y5.2.2)]) (fun z6 y5=>[.obj b1 107 (.rep (.arr 3 (.arr 5 (.int .i64))) a1),.obj b2 107 (.rep (.arr 3 (.arr 5 (.int .i64))) [[0,0,0,0,0],[0,0,0,0,0],[0,0,0,0,0]]),.sl z6 23 (.slice (.int .i64)) y5.2.1]) (iG k a0 a1 a2) k (.slice none 0 0) (0,([]:(List (List Int))),0) (fun _=>rfl) h (SE.fin [2,1,0] ⟨rfl,rfl,rfl,rfl,rfl,rfl,rfl,trivial⟩ rfl) (fun n z6 y5 h=>?_);unfold iG at h;refine sr (jb (bJ rfl) ?_);refine nt (ah (ci h (fun h=>?_) (fun h=>?_)))
  ·refine sk (ah (ao (sr (mq ?_))));refine aq (nt (sr ?_));refine lo cQ ?_;refine mq ?_;obtain⟨r7,D,h⟩:=ab h;refine jb (an [.tmp 17,.tmp 18] rfl rfl Cf rfl (fD k a1 y5.2.2 r7 D)) ?_;iterate 2 refine mq ?_
   obtain⟨r8,y,h⟩:=ab h;refine jb (an [.tmp 20,.tmp 21] rfl rfl Po rfl (me k a0 a2 r8 y)) ?_;obtain⟨r9,x,h⟩:=ab h;refine jb (an [.tmp 19,.tmp 22] rfl rfl Px rfl (sR k r7 r8 r9 x)) ?_;refine mq ?_;refine xr ?_;refine xr ?_;refine aq ?_;refine aq (nt (sr ?_));iterate 2 refine mq ?_
   refine jb (NW rfl) ?_;refine aq (nt (aa ?_));iterate 2 refine mq ?_
   refine ja (bq (t:=(.slice (.int .i64))) [(.tmp 30,_)] [r9.2] rfl rfl vc (.cons rfl .rep .nil) rfl rfl) ?_;obtain⟨E,j,h⟩:=ab h;refine fr 2 ?_;refine dG rfl rfl rfl (cC rfl rfl vc (aE j)) ⟨rfl,rfl,trivial⟩ fun u=>?_;refine aq (ak (aO (tn (aa ?_))));obtain⟨s,e,h⟩:=ab h;refine jb (bD rfl e) ?_;refine mq (nl ?_);exact jz (u,(BR .u8 y5.1 r9.1,y5.2.1++[r9.2],s)) h [1,2,0]
  ·refine xa ?_;exact jz (z6,(y5.1,y5.2.1)) h [1,2]
 ·
  refine sr ?_;iterate 2 refine mq ?_
  obtain⟨c,l,h⟩:=ab h;refine fr 1 ?_;refine ka (Bl (N:=[(.tmp 35,.eq z4)]) (an [.tmp 35] rfl rfl D9 rfl (eG k x3.2 c l)) (fun _ _ _ hv hn=>⟨(lend hn.1 hv),trivial⟩) (fun _=>⟨rfl,G6⟩)) ?_;refine aq ?_;refine fr 1 ?_;refine aX rfl rfl (aP rfl cQ rfl rfl rfl) ⟨rfl,rfl,trivial⟩ ?_;refine nt (aC ?_);cases h;exact aK () [_,.rep (.arr 3 (.arr 5 (.int .i64))) c] 0 ⟨rfl,⟨_,_,_,_,_,rfl,(.head _),cQ,(vR),rfl⟩,trivial⟩ rfl
def dL(k:Nat)(a0:cS)(a1:(List (List Int))):Nat→((List (List Int))×Int)→Option (List (List Int))
 |0,_=>none
 |n+1,y6=>
  if y6.2 < ((List.replicate (Int.toNat (a0.1.2.2.length:Int)) ([]:(List Int))).length:Int) then((dz k a1 y6.2).bind fun r8=>
  (bv y6.1 y6.2).bind fun x9=>
  (ck (y6.2+1)).bind fun c=>
  dL k a0 a1 n (List.set y6.1 (Int.toNat y6.2) r8,c)) else(some y6.1)
def eF(k:Nat)(a0:cS)(a1:(List (List Int))):Option (List (List Int)):=
 (eK (0≤(a0.1.2.2.length:Int)∧bR (Int.toNat (a0.1.2.2.length:Int)))).bind fun _=>
 ((dL k a0 a1 k (List.replicate (Int.toNat (a0.1.2.2.length:Int)) ([]:(List Int)),0)):Option ((List (List Int)))).bind fun x4=>
 some x4
theorem i7(k:Nat)(a0:cS)(a1:(List (List Int)))(r:(List (List Int)))(h:eF k a0 a1=some r):
 co Tryz.prog 88 [.at bj a0,.rep (.arr 3 (.arr 5 (.int .i64))) a1] [] (fun z:Value=>(bz [.eq z],[.sl z 23 (.slice (.int .i64)) r])):=by
 unfold eF at h
 replace h:=be h
 refine co.of 27 Tryz.func88 rfl Tryz.ntmps88 rfl fun S w0=>?_
 refine sr ?_
 refine bx fun b1=>?_
 refine cq ?_
 refine nt ?_
 refine sr ?_
 refine mq ?_
 refine ja (dn rfl) ?_
 refine ja (aI 3 true rfl jm rfl) ?_
 refine ja (aI 1 false rfl eI rfl) ?_
 refine ja (ar (t:=(.slice (.int .i64))) rfl de rfl) ?_
 refine ol ip ?_
 obtain⟨u2,j,h⟩:=ab h
 refine aB rfl rfl rfl (Lm (t:=(.slice (.int .i64))) (d:=([]:(List Int))) rfl vc Qm (aE j).1 (aE j).2) ⟨rfl,rfl,trivial⟩ fun v3=>?_
 refine aq ?_
 refine nt ?_
 refine aW (Z:=Unit) (α:=(List (List Int))) (fun z5 x4=>[(5,.eq v3)]) (fun z5 x4=>[.sl v3 23 (.slice (.int .i64)) x4]) h (fun K h=>?_) (fun z5 x4 h=>?_)
 ·
  refine sr (mq ?_);refine ka (eV rfl rfl s9) ?_;refine eB rfl ?_;refine nt (ao (aR (fun z7 y6=>[(3,Pt b1),(5,.eq v3),(15,I ((List.replicate (Int.toNat (a0.1.2.2.length:Int)) ([]:(List Int))).length:Int)),(16,I y6.2)]) (fun z7 y6=>[.obj b1 107 (.rep (.arr 3 (.arr 5 (.int .i64))) a1),.sl v3 23 (.slice (.int .i64)) y6.1]) (dL k a0 a1) k () (List.replicate (Int.toNat (a0.1.2.2.length:Int)) ([]:(List Int)),0) (fun _=>rfl) h (SE.fin [1,0] ⟨rfl,rfl,rfl,rfl,trivial⟩ rfl) (fun n z7 y6 h=>?_)));unfold dL at h;refine sr (jb (bJ rfl) ?_);refine nt (ah (ci h (fun h=>?_) (fun h=>?_)))
  ·refine sk (ah (ao (sr (mq ?_))));refine aq (nt (aa ?_));iterate 2 refine mq ?_
   refine lo cQ ?_;refine mq ?_;obtain⟨r8,s,h⟩:=ab h;refine jb (an [.tmp 21,.tmp 22] rfl rfl Cf rfl (fD k a1 y6.2 r8 s)) ?_;obtain⟨x9,c,h⟩:=ab h;refine fr 1 ?_;refine kb (bT (t:=(.slice (.int .i64))) rfl s9 de c) ?_;refine aX rfl rfl (fg (i:=Int.toNat y6.2) rfl de rfl (kw c) rfl .rep rfl) ⟨rfl,rfl,trivial⟩ ?_;refine ak (aO (tn (aa ?_)));obtain⟨l,e,h⟩:=ab h;refine jb (bD rfl e) ?_;refine mq (nl ?_);exact jz ((),(List.set y6.1 (Int.toNat y6.2) r8,l)) h [1,0]
  ·refine xa ?_;exact jz ((),y6.1) h [1]
 ·
  refine sr (mq ?_);refine aq (nt (aC ?_));cases h;exact aK v3 [.eq v3] 1 ⟨rfl,trivial⟩ rfl
def iK(k:Nat)(a0:(List Int))(a1:(List Int)):Nat→Int→Option (Except Bool Unit)
 |0,_=>none
 |n+1,y3=>
  if y3 < (a0.length:Int) then((bv a0 y3).bind fun x5=>
  (bv a1 y3).bind fun x6=>
  if¬(x5=x6) then(some (.error false)) else((ck (y3+1)).bind fun x7=>
  iK k a0 a1 n x7)) else(some (.ok ()))
def jk(k:Nat)(a0:(List Int))(a1:(List Int)):Option Bool:=
 if¬((a0.length:Int)=(a1.length:Int)) then(some false) else(bE (α:=Unit) (iK k a0 a1 k 0) (some) fun _=>
 some true)
theorem j7(k:Nat)(a0:(List Int))(a1:(List Int))(r:Bool)(h:jk k a0 a1=some r):
 co Tryz.prog 37 [Ri a0,Ri a1] [] (fun _:Unit=>(bz [.eq (.bool r)],[])):=by
 unfold jk at h
 replace h:=be h
 refine co.of 26 Tryz.func37 rfl Tryz.ntmps37 rfl fun S w0=>?_
 refine sr ?_
 refine cq ?_
 refine nt ?_
 refine ah ?_
 refine sr ?_
 refine mq ?_
 refine ol ip ?_
 refine mq ?_
 refine ol ip ?_
 refine jb (kf rfl) ?_
 refine nt ?_
 refine cn h (fun h=>?_) (fun h=>?_)
 ·
  refine sr (cq (nt (rx ?_)));cases h;exact ra
 ·
  refine sk (iN (Z:=Unit) (α:=Unit) (fun z2 x1=>[]) (fun z2 x1=>[]) (fun e=>e=r) h (fun e h=>Option.some.inj h) (fun K hR h=>?_) (fun z2 x1 h=>?_))
  ·refine sr (cq (nt (ao ?_)));refine aR (fun z4 y3=>[(0,Ri a0),(1,Ri a1),(5,I y3)]) (fun z4 y3=>[]) (iK k a0 a1) k () 0 (fun _=>rfl) h (SE.fin [] ⟨rfl,rfl,rfl,trivial⟩ rfl) (fun n z4 y3 h=>?_);unfold iK at h;refine ah (sr ?_);iterate 2 refine mq ?_
   refine ol ip ?_;refine jb (bJ rfl) ?_;refine nt (ci h (fun h=>?_) (fun h=>?_))
   ·refine sk (ah (ao (ah (cm ?_))));refine dm ?_;refine dm ?_;obtain⟨x5,l,h⟩:=ab h;refine db (a8 (t:=(.int .i64)) rfl ip dJ l) ?_;refine da (ar (t:=(.int .i64)) rfl dJ rfl) ?_;refine dm ?_;refine dm ?_;obtain⟨x6,j,h⟩:=ab h;refine db (a8 (t:=(.int .i64)) rfl ip dJ j) ?_;refine da (ar (t:=(.int .i64)) rfl dJ rfl) ?_;refine df fN ?_;refine jb (kf rfl) ?_;refine nt (cn h (fun h=>?_) (fun h=>?_))
    ·refine sr (cq (nt (aC (br (bQ (ba ?_))))));obtain rfl:=hR _ h;exact ra
    ·refine aV (aO (tn (aa (mq ?_))));obtain⟨x7,c,h⟩:=ab h;refine jb (bD rfl c) ?_;refine aq (nl ?_);exact jz ((),x7) h []
   ·refine xa ?_;exact jz ((),()) h []
  ·refine sr (cq (nt (aC ?_)));cases h;exact ra
def ij(k:Nat)(a0:(List (List Int)))(a1:(List (List Int))):Nat→Int→Option (Except Bool Unit)
 |0,_=>none
 |n+1,y3=>
  if y3 < (a0.length:Int) then((bv a0 y3).bind fun x5=>
  (bv a1 y3).bind fun x6=>
  (jk k x5 x6).bind fun r7=>
  if¬(r7=true) then(some (.error false)) else((ck (y3+1)).bind fun x8=>
  ij k a0 a1 n x8)) else(some (.ok ()))
def jJ(k:Nat)(a0:(List (List Int)))(a1:(List (List Int))):Option Bool:=
 if¬((a0.length:Int)=(a1.length:Int)) then(some false) else(bE (α:=Unit) (ij k a0 a1 k 0) (some) fun _=>
 some true)
theorem mC(k:Nat)(a0:(List (List Int)))(a1:(List (List Int)))(r:Bool)(h:jJ k a0 a1=some r):
 co Tryz.prog 38 [.rep (.slice (.slice (.int .i64))) a0,.rep (.slice (.slice (.int .i64))) a1] [] (fun _:Unit=>(bz [.eq (.bool r)],[])):=by
 unfold jJ at h
 replace h:=be h
 refine co.of 27 Tryz.func38 rfl Tryz.ntmps38 rfl fun S w0=>?_
 refine sr ?_
 refine cq ?_
 refine nt ?_
 refine ah ?_
 refine sr ?_
 refine mq ?_
 refine ol s9 ?_
 refine mq ?_
 refine ol s9 ?_
 refine jb (kf rfl) ?_
 refine nt ?_
 refine cn h (fun h=>?_) (fun h=>?_)
 ·
  refine sr (cq (nt (rx ?_)));cases h;exact ra
 ·
  refine sk (iN (Z:=Unit) (α:=Unit) (fun z2 x1=>[]) (fun z2 x1=>[]) (fun e=>e=r) h (fun e h=>Option.some.inj h) (fun K hR h=>?_) (fun z2 x1 h=>?_))
  ·refine sr (cq (nt (ao ?_)));refine aR (fun z4 y3=>[(0,.rep (.slice (.slice (.int .i64))) a0),(1,.rep (.slice (.slice (.int .i64))) a1),(5,I y3)]) (fun z4 y3=>[]) (ij k a0 a1) k () 0 (fun _=>rfl) h (SE.fin [] ⟨rfl,rfl,rfl,trivial⟩ rfl) (fun n z4 y3 h=>?_);unfold ij at h;refine ah (sr ?_);iterate 2 refine mq ?_
   refine ol s9 ?_;refine jb (bJ rfl) ?_;refine nt (ci h (fun h=>?_) (fun h=>?_))
   ·refine sk (ah (ao (ah (cm ?_))));refine dm ?_;refine dm ?_;obtain⟨x5,l,h⟩:=ab h;refine db (a8 (t:=(.slice (.int .i64))) rfl s9 de l) ?_;refine da (ar (t:=(.slice (.int .i64))) rfl de rfl) ?_;refine dm ?_;refine dm ?_;obtain⟨x6,j,h⟩:=ab h;refine db (a8 (t:=(.slice (.int .i64))) rfl s9 de j) ?_;refine da (ar (t:=(.slice (.int .i64))) rfl de rfl) ?_;refine df fN ?_;obtain⟨r7,s,h⟩:=ab h;refine jb (an [.tmp 20,.tmp 24] rfl rfl Me rfl (j7 k x5 x6 r7 s)) ?_;refine ja (fJ rfl) ?_;refine nt (cw h (fun h=>?_) (fun h=>?_))
    ·refine sr (cq (nt (aC (br (bQ (ba ?_))))));obtain rfl:=hR _ h;exact ra
    ·refine aV (aO (tn (aa (mq ?_))));obtain⟨x8,c,h⟩:=ab h;refine jb (bD rfl c) ?_;refine aq (nl ?_);exact jz ((),x8) h []
   ·refine xa ?_;exact jz ((),()) h []
  ·refine sr (cq (nt (aC ?_)));cases h;exact ra
def jH(k:Nat)(a0:List Int):Option (List Int):=
 (eK (bR (List.length a0))).bind fun _=>some a0
theorem mm(k:Nat)(a0:List Int)(r:List Int)(h:jH k a0=some r):
 co Tryz.prog 97 [Ri a0] [] (fun z:Value=>(bz [.eq z],[.sl z 3 (.int .i64) r])):=by
 unfold jH at h
 replace h:=be h
 refine co.of 8 Tryz.func97 rfl Tryz.ntmps97 rfl fun S w0=>?_
 obtain⟨u1,c,h⟩:=ab h
 cases h
 refine sr ?_
 refine cq ?_
 refine nt ?_
 refine ah ?_
 refine sr ?_
 refine mq ?_
 refine bG (Δ:=[]) (F:=_) (fun _ _ _=>au rfl _) rfl rfl (Iy rfl ip) ⟨rfl,rfl,trivial⟩ fun b=>?_
 refine nt ?_
 refine bm rfl (fun hb=>?_) (fun hb=>?_)
 ·
  refine sr (cq (nt (rx ?_)));obtain rfl:=b.2 hb;refine bN (SE.nil 3 (.int .i64)) ?_;exact aK (.slice none 0 0) [.eq (.slice none 0 0)] 1 ⟨rfl,trivial⟩ rfl
 ·
  refine sk (sr (aB rfl rfl rfl (qd (t:=(.int .i64)) [] [] rfl rfl fq .nil rfl rfl) trivial fun v1=>?_));refine mq ?_;refine dG rfl rfl rfl (cC rfl rfl fq (by simpa using aE c)) ⟨rfl,rfl,trivial⟩ fun v2=>?_;refine aq (nt (aC ?_));exact aK v2 [.eq v2] 1 ⟨rfl,trivial⟩ rfl
def gJ(k:Nat)(a0:cS)(a2:Int):Nat→((List (List Int))×Int)→Option (List (List Int))
 |0,_=>none
 |n+1,y5=>
  if y5.2 < a2 then((kl k a0 y5.1 y5.2).bind fun r7=>
  (ck (y5.2+1)).bind fun x8=>
  gJ k a0 a2 n (r7.2,x8)) else(some y5.1)
def kH(k:Nat)(a0:cS)(a1:(List (List Int)))(a2:Int):Option (List (List Int)):=
 ((gJ k a0 a2 k (a1,0)):Option ((List (List Int)))).bind fun x3=>
 some x3
theorem qD(k:Nat)(a0:cS)(a1:(List (List Int)))(a2:Int)(r:(List (List Int)))(h:kH k a0 a1 a2=some r):
 co Tryz.prog 103 [.at bj a0,.rep (.arr 3 (.arr 5 (.int .i64))) a1,I a2] [] (fun _:Unit=>(bz [.rep (.arr 3 (.arr 5 (.int .i64))) r],[])):=by
 unfold kH at h
 replace h:=be h
 refine co.of 21 Tryz.func103 rfl Tryz.ntmps103 rfl fun S w0=>?_
 refine sr ?_
 refine bx fun b1=>?_
 refine aB rfl rfl rfl (aS rfl l7 mH) trivial fun b2=>?_
 refine nt ?_
 refine aW (Z:=Unit) (α:=(List (List Int))) (fun z4 x3=>[(4,Pt b1),(6,Pt b2)]) (fun z4 x3=>[.obj b1 107 (.rep (.arr 3 (.arr 5 (.int .i64))) x3),.obj b2 107 (.rep (.arr 3 (.arr 5 (.int .i64))) [[0,0,0,0,0],[0,0,0,0,0],[0,0,0,0,0]])]) h (fun K h=>?_) (fun z4 x3 h=>?_)
 ·
  refine sr (mq ?_);refine eB rfl ?_;refine nt (ao (aR (fun z6 y5=>[(0,.at bj a0),(4,Pt b1),(6,Pt b2),(8,I a2),(9,I y5.2)]) (fun z6 y5=>[.obj b1 107 (.rep (.arr 3 (.arr 5 (.int .i64))) y5.1),.obj b2 107 (.rep (.arr 3 (.arr 5 (.int .i64))) [[0,0,0,0,0],[0,0,0,0,0],[0,0,0,0,0]])]) (gJ k a0 a2) k () (a1,0) (fun _=>rfl) h (SE.fin [1,0] ⟨rfl,rfl,rfl,rfl,rfl,trivial⟩ rfl) (fun n z6 y5 h=>?_)));unfold gJ at h;refine sr (jb (bJ rfl) ?_);refine nt (ah (ci h (fun h=>?_) (fun h=>?_)))
  ·refine sk (ah (ao (sr (mq ?_))));refine aq (nt (aa ?_));refine mq ?_;refine lo cQ ?_;refine mq ?_;obtain⟨r7,e,h⟩:=ab h;refine jc (an [.tmp 13,.tmp 14,.tmp 15] rfl rfl OU rfl (nk k a0 y5.1 y5.2 r7 e)) ?_;refine mq ?_;refine xr ?_;refine xr ?_;refine aX rfl rfl (aP rfl cQ rfl rfl rfl) ⟨rfl,rfl,trivial⟩ ?_;refine ak (aO (tn (aa ?_)));obtain⟨x8,c,h⟩:=ab h;refine jb (bD rfl c) ?_;refine mq (nl ?_);exact jz ((),(r7.2,x8)) h [0,1]
  ·refine xa ?_;exact jz ((),y5.1) h [0,1]
 ·
  refine sr (lo cQ ?_);refine fr 1 ?_;refine aX rfl rfl (aP rfl cQ rfl rfl rfl) ⟨rfl,rfl,trivial⟩ ?_;refine nt (aC ?_);obtain rfl:=Option.some.inj h;exact aK () [.rep (.arr 3 (.arr 5 (.int .i64))) x3] 0 ⟨⟨_,_,_,_,_,rfl,(.head _),cQ,(vR),rfl⟩,trivial⟩ rfl
def kQ(k:Nat)(a0:List Int)(a1 a2:Int):Option (List Int):=
 (eK (0≤a1∧a1 < a2∧a2≤(a0.length:Int))).bind fun _=>some (a0.take a1.toNat++a0.drop a2.toNat)
theorem qN(k:Nat)(a0:List Int)(v:Value)(a1 a2:Int)(r:List Int)(h:kQ k a0 a1 a2=some r):co Tryz.prog 143 [.eq v,.eq (.int .i64 a1),.eq (.int .i64 a2)] [.sl v 3 (.int .i64) a0] (fun z:Value=>(bz [.eq z],[.sl z 3 (.int .i64) r])):=by
 unfold kQ at h
 replace h:=be h
 obtain⟨u1,eg,h⟩:=ab h
 obtain⟨h1,h2,h3⟩:=aE eg
 obtain rfl:=Option.some.inj h
 refine co.of 33 Tryz.func143 rfl Tryz.ntmps143 rfl fun S w0=>?_
 refine Ew (fun e=>by rw [e] at h3;simp at h3;omega) fun b cap hv hcap=>?_
 subst hv
 have hl:(a0.take a1.toNat++a0.drop a2.toNat).length=a1.toNat+(a0.length - a2.toNat):=by simp;omega
 refine ah ?_
 refine aa ?_
 refine dx rfl ?_
 refine ak (ae ?_)
 show JC _ _ _ _ _
 refine ah ?_
 refine aa ?_
 refine ax rfl rfl ?_
 refine ax rfl rfl ?_
 refine ax rfl rfl ?_
 refine ax rfl rfl ?_
 refine bI rfl rfl rfl (eV rfl rfl ip) ⟨rfl,trivial⟩ ?_
 refine ay rfl (wX rfl ip dJ h1 (by omega) h3 (by omega)) ⟨rfl,rfl,rfl,rfl,trivial⟩ ?_
 refine ak (ae ?_)
 show JC _ _ _ _ _
 refine ah ?_
 refine ah ?_
 refine aa ?_
 refine ax rfl rfl ?_
 refine ax rfl rfl ?_
 refine ay rfl (fK rfl) ⟨rfl,rfl,trivial⟩ ?_
 refine ak (ae ?_)
 show JC _ _ _ _ _
 refine bm rfl (fun hb=>absurd (of_decide_eq_true hb) (by omega)) (fun hb=>?_)
 refine aV (ae ?_)
 show JC _ _ _ _ _
 refine ah ?_
 refine aa ?_
 refine ax rfl rfl ?_
 refine bI rfl rfl rfl (eV rfl rfl ip) ⟨rfl,trivial⟩ ?_
 refine c9 rfl rfl ?_
 refine ak (ae ?_)
 show JC _ _ _ _ _
 refine ah ?_
 refine cm ?_
 refine dh rfl rfl rfl (bU rfl) ⟨rfl,trivial⟩ ?_
 refine dh rfl rfl rfl (bU rfl) ⟨rfl,trivial⟩ ?_
 refine dh rfl rfl rfl (uf rfl ip dJ h1 (by omega)) ⟨rfl,rfl,trivial⟩ ?_
 refine dh rfl rfl rfl (bU rfl) ⟨rfl,trivial⟩ ?_
 refine dh rfl rfl rfl (bU rfl) ⟨rfl,trivial⟩ ?_
 refine dh rfl rfl rfl (AD rfl ip dJ (by omega) h3) ⟨rfl,rfl,trivial⟩ ?_
 refine sP (by kernel_rfl) fN ?_
 refine bX (rC 22 rfl fun _ _ _ h=>(BA▸h:(A.eq (.slice (some ⟨b,0,none⟩) a1.toNat cap)).holds _ _ _)) ?_
 refine bI rfl rfl rfl (wZ (t:=.int .i64) (b:=b) (cap:=cap) (l:=a0) (i:=a1.toNat) (j:=a2.toNat) rfl rfl fq (by omega) (by omega) hcap) ⟨rfl,rfl,trivial⟩ ?_
 refine c9 rfl rfl ?_
 refine ak (ae ?_)
 show JC _ _ _ _ _
 refine ah ?_
 refine aa ?_
 refine ax rfl rfl ?_
 refine ax rfl rfl ?_
 refine bI rfl rfl rfl (eV rfl rfl ip) ⟨rfl,trivial⟩ ?_
 refine ax rfl rfl ?_
 refine ay rfl (yI rfl ip dJ (by omega) (by rw [hl];omega) (by omega)) ⟨rfl,rfl,rfl,trivial⟩ ?_
 refine aX rfl rfl (yQ (t:=.int .i64) (b:=b) (cap:=cap) (l:=a0.take a1.toNat++a0.drop a2.toNat) (n:=a0.length) rfl rfl ip rfl Ry rfl rfl (by rw [hl];omega) hcap) ⟨rfl,trivial⟩ ?_
 refine ak (ae ?_)
 show JC _ _ _ _ _
 refine ah ?_
 refine aa ?_
 refine ax rfl rfl ?_
 refine c9 rfl rfl ?_
 refine ak (ae ?_)
 show JC _ _ _ _ _
 refine aC ?_
 exact aK _ [.eq _] 1 ⟨rfl,trivial⟩ rfl
def jF(k:Nat)(x7:Int)(h:(List (List Int))):Nat→((List (List Int))×Int)→Option (List (List Int))
 |0,_=>none
 |n+1,c=>
  if c.2 < (h.length:Int) then((bv h c.2).bind fun e=>
  (eK (bR (List.length [x7]+List.length e))).bind fun _=>
  (eK (bR (List.length c.1+List.length [[x7]++e]))).bind fun _=>
  (ck (c.2+1)).bind fun j=>
  jF k x7 h n (c.1++[[x7]++e],j)) else(some c.1)
def jG(k:Nat)(a0:(List Int))(self:(List Int)→Option ((List (List Int)))):Nat→((List (List Int))×Int)→Option (List (List Int))
 |0,_=>none
 |n+1,y3=>
  if y3.2 < (a0.length:Int) then((((bv a0 y3.2).bind fun x7=>
  (jH k a0).bind fun r8=>
  (ck (y3.2+1)).bind fun e=>
  (kQ k r8 y3.2 e).bind fun j=>
  (self j).bind fun h=>
  jF k x7 h k (y3.1,0)):Option ((List (List Int)))).bind fun x5=>
  (ck (y3.2+1)).bind fun c=>
  jG k a0 self n (x5,c)) else(some y3.1)
def kK(k:Nat):Nat→(List Int)→Option ((List (List Int)))
 |0,_=>none
 |m0+1,a0=>
  if(a0.length:Int)=0 then(some [[]]) else(((jG k a0 (kK k m0) k (([]:(List (List Int))),0)):Option ((List (List Int)))).bind fun x1=>
  some x1)
theorem uY(k:Nat):
 ∀(n:Nat) (a0:(List Int)) (r:(List (List Int))),kK k n a0=some r→co Tryz.prog 107 [Ri a0] ([]) (fun _:Unit=>(bz [.rep (.slice (.slice (.int .i64))) r],[])):=by
 intro n
 induction n with
 |zero=>intro a0 r h;cases h
 |succ m0 ih=>
  intro a0 r h;rw [kK] at h;replace h:=be h;refine co.of 41 Tryz.func107 rfl Tryz.ntmps107 rfl fun S w0=>?_;refine sr (cq (nt (ah (sr ?_))));refine mq ?_;refine ol ip ?_;refine jb (fK rfl) ?_;refine nt (ci h (fun h=>?_) (fun h=>?_))
  ·refine sr (ja (bq (t:=(.slice (.int .i64))) [(.const (.slice none 0 0),_)] [[]] rfl rfl vc (.cons rfl .nil .nil) rfl rfl) ?_);refine aq (nt (rx ?_));cases h;exact ra
  ·refine sk (sr (cq (nt ?_)));refine aW (Z:=Value) (α:=(List (List Int))) (fun z2 x1=>[(3,.eq z2)]) (fun z2 x1=>[.sl z2 23 (.slice (.int .i64)) x1]) h (fun K h=>?_) (fun z2 x1 h=>?_)
   ·refine sr (mq ?_);refine ol ip ?_;refine eB rfl ?_;refine nt (ao (fX (SE.nil 23 (.slice (.int .i64))) ?_));refine aR (fun z4 y3=>[(0,Ri a0),(3,.eq z4),(12,Ri a0),(13,I (a0.length:Int)),(14,I y3.2)]) (fun z4 y3=>[.sl z4 23 (.slice (.int .i64)) y3.1]) (jG k a0 (kK k m0)) k (.slice none 0 0) (([]:(List (List Int))),0) (fun _=>rfl) h (SE.fin [0] ⟨rfl,rfl,rfl,rfl,rfl,trivial⟩ rfl) (fun n z4 y3 h=>?_);unfold jG at h;refine sr (jb (bJ rfl) ?_);refine nt (ah (ci h (fun h=>?_) (fun h=>?_)))
    ·refine sk (aW (Z:=Value) (α:=(List (List Int))) (fun z6 x5=>[(0,Ri a0),(3,.eq z6),(12,Ri a0),(13,I (a0.length:Int)),(14,I y3.2)]) (fun z6 x5=>[.sl z6 23 (.slice (.int .i64)) x5]) h (fun K h=>?_) (fun z6 x5 h=>?_))
     ·refine ao (sr (mq ?_));obtain⟨x7,Y,h⟩:=ab h;refine jb (a8 (t:=(.int .i64)) rfl ip dJ Y) ?_;refine ja (ar (t:=(.int .i64)) rfl dJ rfl) ?_;refine aq ?_;refine aq (nt (sr ?_));refine mq ?_;obtain⟨r8,ac,h⟩:=ab h;refine aB rfl rfl rfl (an [.tmp 19] rfl rfl QQ rfl (mm k a0 r8 ac)) ⟨rfl,trivial⟩ fun v9=>?_;iterate 2 refine mq ?_
      obtain⟨U,D,h⟩:=ab h;refine jb (bD rfl D) ?_;obtain⟨s,M,h⟩:=ab h;refine dG rfl rfl rfl (an [.tmp 20,.tmp 21,.tmp 23] rfl rfl Pm rfl (qN k r8 v9 y3.2 U s M)) ⟨rfl,rfl,rfl,trivial⟩ fun qt=>?_;refine bX (ix [24] ⟨rfl,trivial⟩) ?_;obtain⟨j,J,h⟩:=ab h;refine ja (an [.tmp 24] rfl rfl KQ rfl (ih s j J)) ?_;refine ol s9 ?_;refine eB rfl ?_;refine nt (ao (aR (fun e c=>[(0,Ri a0),(3,.eq e),(5,I x7),(12,Ri a0),(13,I (a0.length:Int)),(14,I y3.2),(25,.rep (.slice (.slice (.int .i64))) j),(26,I (j.length:Int)),(27,I c.2)]) (fun e c=>[.sl e 23 (.slice (.int .i64)) c.1]) (jF k x7 j) k z4 (y3.1,0) (fun _=>rfl) h (SE.fin [0] ⟨rfl,rfl,rfl,rfl,rfl,rfl,rfl,rfl,rfl,trivial⟩ rfl) (fun n e c h=>?_)));unfold jF at h;refine sr (jb (bJ rfl) ?_);refine nt (ah (ci h (fun h=>?_) (fun h=>?_)))
      ·refine sk (ah (ao (sr ?_)));obtain⟨l,y,h⟩:=ab h;refine jb (a8 (t:=(.slice (.int .i64))) rfl s9 de y) ?_;refine ja (ar (t:=(.slice (.int .i64))) rfl de rfl) ?_;refine aq (nt (aa ?_));iterate 2 refine mq ?_
       refine aB rfl rfl rfl (qd (t:=(.int .i64)) [(.tmp 32,_)] [x7] rfl rfl fq (.cons rfl .int .nil) rfl rfl) ⟨rfl,trivial⟩ fun pp=>?_;refine mq ?_;obtain⟨RJ,F,h⟩:=ab h;refine dG rfl rfl rfl (cC rfl rfl fq (aE F)) ⟨rfl,rfl,trivial⟩ fun mc=>?_;refine bX (ix [35] ⟨rfl,trivial⟩) ?_;refine ja (bq (t:=(.slice (.int .i64))) [(.tmp 35,_)] [[x7]++l] rfl rfl vc (.cons rfl .rep .nil) rfl rfl) ?_;obtain⟨se,E,h⟩:=ab h;refine dG rfl rfl rfl (cC rfl rfl vc (aE E)) ⟨rfl,rfl,trivial⟩ fun X=>?_;refine aq (ak (aO (tn (aa ?_))));obtain⟨Q,x,h⟩:=ab h;refine jb (bD rfl x) ?_;refine mq (nl ?_);exact jz (X,(c.1++[[x7]++l],Q)) h [0]
      ·refine eS (aY (aY (bZ (bn ?_))));exact jz (e,c.1) h [0]
     ·refine aa ?_;obtain⟨O,u,h⟩:=ab h;refine jb (bD rfl u) ?_;refine mq (nl ?_);exact jz (z6,(x5,O)) h [0]
    ·refine xa ?_;exact jz (z4,y3.1) h [0]
   ·refine sr (mq ?_);refine aq (nt (aC ?_));refine bN (ix [2,3,40] ⟨rfl,rfl,rfl,trivial⟩) ?_;cases h;exact ra
def fB{σ:Type}(k:Nat)(a1:(List Int))(Y:σ→Int→Option (σ×Bool)):Nat→(Int×σ)→Option (σ)
 |0,_=>none
 |n+1,y1=>
  if y1.1 < (a1.length:Int) then((bv a1 y1.1).bind fun x3=>
  (Y y1.2 x3).bind fun r4=>
  if¬(r4.2=true) then(some r4.1) else((ck (y1.1+1)).bind fun x6=>
  fB k a1 Y n (x6,r4.1))) else(some y1.2)
def ju{σ:Type}(k:Nat)(Y:σ→Int→Option (σ×Bool))(a1:(List Int))(s0:σ):Option (σ):=
 fB k a1 Y k (0,s0)
theorem pr{M:Md Tryz.prog}{σ Z:Type}(E:Z→σ→List D)(l:Nat)(Y:σ→Int→Option (σ×Bool))(k:Nat)(a1:(List Int))(c:Nat)(hY:∀z s p r,Y s p=some r→YT M l [I p] (E z s) (fun z':Z=>(.eq (.bool r.2),E z' r.1))):
 ∀(z0:Z) (s0:σ) (r:σ),ju k Y a1 s0=some r→dc M 146 [.eq (.func (.yield l) #[] #[]),Pt c] ([.obj c 23 (Ri a1)]++E z0 s0) (fun z:Z=>(bz [],[.obj c 23 (Ri a1)]++E z r)):=by
 intro z0 s0 r h
 unfold ju at h
 replace h:=be h
 refine dc.of 16 Tryz.func146 rfl Tryz.ntmps146 rfl fun S w0=>?_
 refine sr ?_
 refine lo de ?_
 refine ol ip ?_
 refine eB rfl ?_
 refine nt ?_
 refine ao ?_
 refine aR (Z:=Z) (α:=Int×σ) (fun z2 y1=>[(0,.eq (.func (.yield l) #[] #[])),(5,Ri a1),(6,I (a1.length:Int)),(7,I y1.1)]) (fun z2 y1=>[.obj c 23 (Ri a1)]++E z2 y1.2) (fB k a1 Y) k z0 (0,s0) (fun _=>rfl) h (bB [.obj c 23 (Ri a1)] (E z0 s0) [0] ⟨rfl,rfl,rfl,rfl,trivial⟩ rfl) (fun n z2 y1 h=>?_)
 unfold fB at h
 refine sr ?_
 refine jb (bJ rfl) ?_
 refine nt ?_
 refine ah ?_
 refine ci h (fun h=>?_) (fun h=>?_)
 ·
  refine sk (ah (ao (sr ?_)));obtain⟨x3,j,h⟩:=ab h;refine jb (a8 (t:=(.int .i64)) rfl ip dJ j) ?_;refine ja (ar (t:=(.int .i64)) rfl dJ rfl) ?_;refine aq (nt (sr ?_));iterate 2 refine mq ?_
  obtain⟨r4,u,h⟩:=ab h;refine oD [.obj c 23 (Ri a1)] rfl rfl rfl (wW [.tmp 12] rfl rfl rfl (hY z2 y1.2 x3 r4 u)) ⟨rfl,rfl,trivial⟩ fun z5=>?_;refine ja (fJ rfl) ?_;refine nt (cw h (fun h=>?_) (fun h=>?_))
  ·refine aC (br (bQ ?_));cases h;exact im z5 [] trivial rfl
  ·refine aV (aO (tn (aa ?_)));obtain⟨x6,e,h⟩:=ab h;refine jb (bD rfl e) ?_;refine mq (nl ?_);exact j9 (z5,(x6,r4.1)) h (bB [.obj c 23 (Ri a1)] (E z5 r4.1) [0] ⟨rfl,rfl,rfl,rfl,trivial⟩ rfl)
 ·
  refine eS (aY (aY (bZ (iC ?_))));cases h;exact im z2 [] trivial rfl
def je(k:Nat)(a1:(List Int)):Option (List Int):=
 (ju k (nK (fun(y2:(List Int)) (p4:Int)=>
  (eK (bR (List.length y2+List.length [p4]))).bind fun _=>
  some (y2++[p4],true))) a1 (([]:(List Int)),false)).bind fun r5=>
 if r5.2=true then(none) else(some r5.1)
theorem nL(k:Nat)(a1:(List Int))(c:Nat)(r:(List Int))(h:je k a1=some r):
 co Tryz.prog 183 [.eq (.slice none 0 0),.eq (.func (.func 146) #[] #[(Pv c)])] [.obj c 23 (Ri a1)] (fun z:Value=>(bz [.eq z],[.sl z 3 (.int .i64) r,.obj c 23 (Ri a1)])):=by
 unfold je at h
 replace h:=be h
 refine xX 13 Tryz.func183 rfl Tryz.ntmps183 rfl fun {M} S w0=>?_
 refine sr ?_
 refine bx fun b1=>?_
 refine cq ?_
 refine nt ?_
 refine ah ?_
 refine sr ?_
 refine mq ?_
 refine nt ?_
 refine ao ?_
 refine fX (SE.nil 3 (.int .i64)) ?_
 refine iD 1 rfl ?_
 refine iD 2 rfl ?_
 obtain⟨r5,j,h⟩:=ab h
 refine nc (Δ:=[.obj c 23 (Ri a1),.obj b1 23 (.eq (.slice none 0 0)),.sl (.slice none 0 0) 3 (.int .i64) ([]:(List Int))]) (F:=[]) (X:=Value) (J:=fun _=>IV r5.2) (E:=fun z3=>[.obj c 23 (Ri a1),.obj b1 23 (.eq z3),.sl z3 3 (.int .i64) r5.1]) (r0:=fun _=>.tup .any) rfl rfl Pi (fun rec hp ha hb hs hpe hN hv l=>?_) (fun dl z3=>pQ (fun hj=>?_) (fun hj=>?_))
 ·
  rcases rec with⟨st0,pe0,fn0,tm0,ps0,as0,bd0,df0⟩;dsimp only at hp ha hb hs hpe hN hv;subst hp hs hpe;have vN:uO tm0 [(2,Pt b1)]:=⟨congrArg A.eq (hv 2 _ rfl).symm,trivial⟩;refine dc.pick (M:=M) [1,0,2,3] [1,0,2,3] (pr (fun(z3:Value) (q:(List Int)×Bool)=>[.raw l (.loop (jf ⟨.ready,none,fn0,tm0, #[7],as0,bd0,df0⟩ (IV q.2))),.obj b1 23 (.eq z3),.sl z3 3 (.int .i64) q.1]) l (nK (fun(y2:(List Int)) (p4:Int)=>
  (eK (bR (List.length y2+List.length [p4]))).bind fun _=>
  some (y2++[p4],true))) k a1 c (fun z3 q p r' h=>?_) (.slice none 0 0) (([]:(List Int)),false) r5 j) rfl (fun _=>rfl) (fun _=>rfl)
  obtain⟨rq,hq,h2,rfl⟩:=pR h;obtain⟨y2,b5⟩:=q;obtain rfl:b5=false:=hq;replace h:=be h2;obtain⟨p4,hpv⟩:∃x,x=p:=⟨_,rfl⟩;subst hpv;refine YT.pick (R':=(fun z3:Value=>(.eq (.bool rq.2),[.raw l (.loop (jf ⟨.ready,none,fn0,tm0, #[7],as0,bd0,df0⟩ (IV (!rq.2)))),.obj b1 23 (.eq z3),.sl z3 3 (.int .i64) rq.1]))) [0,1,2] [0,1,2] (Hz ha hb (N:=13) (Γ:=[(2,Pt b1)]) rfl hN (by decide) vN (fun S w=>?_)) rfl (fun _=>rfl) (fun _=>rfl);refine aa (aq (nl ?_));refine uS rfl rfl ?_;refine ao (aa (fr 1 ?_));refine lo de ?_;refine mq ?_;refine ja (bq (t:=(.int .i64)) [(.tmp 9,_)] [p4] rfl rfl fq (.cons rfl .int .nil) rfl rfl) ?_;obtain⟨u6,e,h⟩:=ab h;refine fr 2 ?_;refine dG rfl rfl rfl (cC rfl rfl fq (aE e)) ⟨rfl,rfl,trivial⟩ fun v7=>?_;refine nb fun o8=>?_;refine fr 1 ?_;refine aX rfl rfl (aP rfl de o8 rfl rfl) ⟨rfl,rfl,trivial⟩ ?_;refine ak (aO (eP 1 rfl ?_));refine eP 1 rfl ?_;refine eP 2 rfl ?_;cases h;exact sN v7 2 rfl
 ·
  replace h:=bS (EC hj) h;refine aO (tn (sr (fr 2 ?_)));refine lo de ?_;refine aq (nt (aC ?_));refine eP 1 rfl ?_;refine xU ?_;refine bN (SE.fin (Γ':=[(4,_)]) [2,1,0] ⟨rfl,trivial⟩ rfl) ?_;cases h;exact aK z3 [.eq z3] 2 ⟨rfl,trivial⟩ rfl
 ·
  replace h:=cZ (EB hj) h;cases h
def jZ(k:Nat)(a0:(List Int)):Option (List Int):=
 (je k a0).bind fun r1=>
 some r1
theorem pU(k:Nat)(a0:(List Int))(c:Nat)(r:(List Int))(h:jZ k a0=some r):
 co Tryz.prog 144 [.eq (.func (.func 146) #[] #[(Pv c)])] [.obj c 23 (Ri a0)] (fun z:Value=>(bz [.eq z],[.sl z 3 (.int .i64) r,.obj c 23 (Ri a0)])):=by
 unfold jZ at h
 replace h:=be h
 refine co.of 5 Tryz.func144 rfl Tryz.ntmps144 rfl fun S w0=>?_
 refine sr ?_
 refine cq ?_
 refine nt ?_
 refine sr ?_
 refine mq ?_
 obtain⟨r1,e,h⟩:=ab h
 have j:=nL k a0 c r1 e
 refine bG (Δ:=[_]) (F:=_) (fun _ _ _=>au rfl _) rfl rfl (an [.const (.slice none 0 0),.tmp 3] rfl rfl O7 rfl j) ⟨rfl,rfl,trivial⟩ fun z2=>?_
 refine aq ?_
 refine nt ?_
 refine aC ?_
 cases h
 exact aK z2 [.eq z2] 2 ⟨rfl,trivial⟩ rfl
def pj(k:Nat)(a0:Int):Option Bool:=
 some (!decide (a0=a0))
theorem ri(k:Nat)(a0:Int)(r:Bool)(h:pj k a0=some r):
 co Tryz.prog 189 [I a0] [] (fun _:Unit=>(bz [.eq (.bool r)],[])):=by
 unfold pj at h
 replace h:=be h
 refine co.of 6 Tryz.func189 rfl Tryz.ntmps189 rfl fun S w0=>?_
 refine sr ?_
 refine cq ?_
 refine nt ?_
 refine sr ?_
 iterate 2 refine mq ?_
 refine jb (kf rfl) ?_
 refine aq ?_
 refine nt ?_
 refine aC ?_
 cases h
 exact ra
def uJ(k:Nat)(a0:Int)(a1:Int):Option Bool:=
 (((pj k a0).bind fun r3=>
 if r3=true then((pj k a1).bind fun r4=>
 if¬(r4=true) then(some true) else(some (decide (a0 < a1)))) else(some (decide (a0 < a1)))):Option (Bool)).bind fun x1=>
 some x1
theorem zD(k:Nat)(a0:Int)(a1:Int)(r:Bool)(h:uJ k a0 a1=some r):
 co Tryz.prog 202 [I a0,I a1] [] (fun _:Unit=>(bz [.eq (.bool r)],[])):=by
 unfold uJ at h
 replace h:=be h
 refine co.of 17 Tryz.func202 rfl Tryz.ntmps202 rfl fun S w0=>?_
 refine sr ?_
 refine cq ?_
 refine nt ?_
 refine aW (Z:=Unit) (α:=Bool) (fun z2 x1=>[(4,.eq (.bool x1))]) (fun z2 x1=>[]) h (fun K h=>?_) (fun z2 x1 h=>?_)
 ·
  refine aa (mq ?_);obtain⟨r3,e,h⟩:=ab h;refine ja (an [.tmp 5] rfl rfl KJ rfl (ri k a0 r3 e)) ?_;refine mq ?_;refine cg (s:=7) rfl (fun hb=>?_) (fun hb=>?_)
  ·replace h:=cZ (EB hb) h;refine gm ?_;obtain⟨r4,c,h⟩:=ab h;refine ga (an [.tmp 8] rfl rfl KJ rfl (ri k a1 r4 c)) ?_;refine ga (fJ rfl) ?_;refine pt ?_;refine mq ?_;refine cg (s:=12) rfl (fun hb=>?_) (fun hb=>?_)
   ·replace h:=cZ (AL hb) h;iterate 3 refine gn ?_
    refine pt ?_;refine aq (nl ?_);exact jz ((),true) h []
   ·replace h:=bS (uh hb) h;refine gm ?_;refine gm ?_;refine gb (bJ rfl) ?_;refine pf ?_;refine aq (nl ?_);exact jz ((),decide (a0 < a1)) h []
  ·replace h:=bS (EC hb) h;iterate 3 refine gn ?_
   refine pf ?_;refine mq ?_;refine gm ?_;refine gm ?_;refine gb (bJ rfl) ?_;refine pf ?_;refine aq (nl ?_);exact jz ((),decide (a0 < a1)) h []
 ·
  refine aC ?_;cases h;exact ra
def cr(k:Nat)(a1:Int):Nat→((List Int)×Int)→Option (List Int)
 |0,_=>none
 |n+1,y6=>
  ((if a1 < y6.2 then((bv y6.1 y6.2).bind fun u=>
  (ck (y6.2 - 1)).bind fun s=>
  (bv y6.1 s).bind fun r=>
  (uJ k u r).bind fun x=>
  some x) else(some false)):Option (Bool)).bind fun x8=>
  if x8=true then((ck (y6.2 - 1)).bind fun e=>
  (ck (y6.2 - 1)).bind fun l=>
  (bv y6.1 l).bind fun c=>
  (bv y6.1 y6.2).bind fun j=>
  (bv y6.1 y6.2).bind fun D=>
  (bv (List.set y6.1 (Int.toNat y6.2) c) e).bind fun y=>
  (ck (y6.2 - 1)).bind fun h=>
  cr k a1 n (List.set (List.set y6.1 (Int.toNat y6.2) c) (Int.toNat e) j,h)) else(some y6.1)
def ct(k:Nat)(a1:Int)(a2:Int):Nat→((List Int)×Int)→Option (List Int)
 |0,_=>none
 |n+1,y2=>
  if y2.2 < a2 then(((cr k a1 k (y2.1,y2.2)):Option ((List Int))).bind fun x4=>
  (ck (y2.2+1)).bind fun c=>
  ct k a1 a2 n (x4,c)) else(some y2.1)
def dQ(k:Nat)(a0:(List Int))(a1:Int)(a2:Int):Option (List Int):=
 (ck (a1+1)).bind fun x1=>
 ct k a1 a2 k (a0,x1)
theorem jp(k:Nat)(a0:(List Int))(c:Value)(a1:Int)(a2:Int)(r:(List Int))(h:dQ k a0 a1 a2=some r):
 co Tryz.prog 196 [.eq c,I a1,I a2] [.sl c 3 (.int .i64) a0] (fun _:Unit=>(bz [],[.sl c 3 (.int .i64) r])):=by
 unfold dQ at h
 replace h:=be h
 refine co.of 49 Tryz.func196 rfl Tryz.ntmps196 rfl fun S w0=>?_
 refine sr ?_
 refine mq ?_
 obtain⟨x1,R9,h⟩:=ab h
 refine jb (bD rfl R9) ?_
 refine aq ?_
 refine nt ?_
 refine ao ?_
 refine aR (fun z3 y2=>[(0,.eq c),(1,I a1),(2,I a2),(6,I y2.2)]) (fun z3 y2=>[.sl c 3 (.int .i64) y2.1]) (ct k a1 a2) k () (a0,x1) (fun _=>rfl) h (SE.fin [0] ⟨rfl,rfl,rfl,rfl,trivial⟩ rfl) (fun n z3 y2 h=>?_)
 unfold ct at h
 refine ah ?_
 refine sr ?_
 iterate 2 refine mq ?_
 refine jb (bJ rfl) ?_
 refine nt ?_
 refine ci h (fun h=>?_) (fun h=>?_)
 ·
  refine sk (aW (Z:=Unit) (α:=(List Int)) (fun z5 x4=>[(0,.eq c),(1,I a1),(2,I a2),(6,I y2.2)]) (fun z5 x4=>[.sl c 3 (.int .i64) x4]) h (fun K h=>?_) (fun z5 x4 h=>?_))
  ·refine ao (sr (mq ?_));refine aq (nt (ao ?_));refine aR (fun z7 y6=>[(0,.eq c),(1,I a1),(2,I a2),(6,I y2.2),(7,I y6.2)]) (fun z7 y6=>[.sl c 3 (.int .i64) y6.1]) (cr k a1) k () (y2.1,y2.2) (fun _=>rfl) h (SE.fin [0] ⟨rfl,rfl,rfl,rfl,rfl,trivial⟩ rfl) (fun n z7 y6 h=>?_);unfold cr at h;refine ah (aW (Z:=Unit) (α:=Bool) (fun z9 x8=>[(0,.eq c),(1,I a1),(2,I a2),(6,I y2.2),(7,I y6.2),(30,.eq (.bool x8))]) (fun z9 x8=>[.sl c 3 (.int .i64) y6.1]) h (fun K h=>?_) (fun z9 x8 h=>?_))
   ·refine cm ?_;refine dm ?_;refine dm ?_;refine db (lG rfl) ?_;refine CZ rfl rfl rfl (bU rfl) ⟨rfl,trivial⟩ (fun hb=>?_) (fun hb=>?_)
    ·replace h:=cZ (pH hb) h;refine d5 rfl rfl rfl rfl rfl (bU rfl) ⟨rfl,rfl,trivial⟩ ?_;refine d5 rfl rfl rfl rfl rfl (bU rfl) ⟨rfl,rfl,trivial⟩ ?_;obtain⟨RQ,x,h⟩:=ab h;refine nh 0 rfl rfl rfl rfl rfl rfl (bT (t:=(.int .i64)) rfl ip dJ x) ⟨rfl,rfl,rfl,trivial⟩ ?_;refine nh 0 rfl rfl rfl rfl rfl rfl (jw (i:=Int.toNat y6.2) (off:=0) rfl dJ (fun _=>rfl) rfl (dt x).2.2 rfl) ⟨rfl,rfl,trivial⟩ ?_;refine d5 rfl rfl rfl rfl rfl (bU rfl) ⟨rfl,rfl,trivial⟩ ?_;refine d5 rfl rfl rfl rfl rfl (bU rfl) ⟨rfl,rfl,trivial⟩ ?_;obtain⟨RP,qt,h⟩:=ab h;refine d5 rfl rfl rfl rfl rfl (fH rfl qt) ⟨rfl,rfl,rfl,trivial⟩ ?_;obtain⟨RO,u,h⟩:=ab h;refine nh 0 rfl rfl rfl rfl rfl rfl (bT (t:=(.int .i64)) rfl ip dJ u) ⟨rfl,rfl,rfl,trivial⟩ ?_;refine nh 0 rfl rfl rfl rfl rfl rfl (jw (i:=Int.toNat RP) (off:=0) rfl dJ (fun _=>rfl) rfl (dt u).2.2 rfl) ⟨rfl,rfl,trivial⟩ ?_;refine df fN ?_;obtain⟨F,se,h⟩:=ab h;refine gb (an [.tmp 23,.tmp 28] rfl rfl O2 rfl (zD k RQ RO F se)) ?_;refine pt (nl ?_);exact jz ((),F) h [0]
    ·replace h:=bS (pe hb) h;iterate 9 refine dg ?_
     refine df fN ?_;refine gn ?_;refine pf (nl ?_);exact jz ((),false) h [0]
   ·refine cv h (fun h=>?_) (fun h=>?_)
    ·refine sk (ah (ao (mI ?_)));refine cJ rfl rfl rfl (bU rfl) ⟨rfl,trivial⟩ ?_;refine cJ rfl rfl rfl (bU rfl) ⟨rfl,trivial⟩ ?_;refine cJ rfl rfl rfl (bU rfl) ⟨rfl,trivial⟩ ?_;refine cJ rfl rfl rfl (bU rfl) ⟨rfl,trivial⟩ ?_;obtain⟨y,pp,h⟩:=ab h;refine cJ rfl rfl rfl (fH rfl pp) ⟨rfl,rfl,trivial⟩ ?_;refine cJ rfl rfl rfl (bU rfl) ⟨rfl,trivial⟩ ?_;refine cJ rfl rfl rfl (bU rfl) ⟨rfl,trivial⟩ ?_;obtain⟨RN,mc,h⟩:=ab h;refine cJ rfl rfl rfl (fH rfl mc) ⟨rfl,rfl,trivial⟩ ?_;obtain⟨E,s,h⟩:=ab h;refine gB 0 rfl rfl rfl rfl (bT (t:=(.int .i64)) rfl ip dJ s) ⟨rfl,rfl,trivial⟩ ?_;refine gB 0 rfl rfl rfl rfl (jw (i:=Int.toNat RN) (off:=0) rfl dJ (fun _=>rfl) rfl (dt s).2.2 rfl) ⟨rfl,trivial⟩ ?_;refine cJ rfl rfl rfl (bU rfl) ⟨rfl,trivial⟩ ?_;refine cJ rfl rfl rfl (bU rfl) ⟨rfl,trivial⟩ ?_;obtain⟨D,l,h⟩:=ab h;refine gB 0 rfl rfl rfl rfl (bT (t:=(.int .i64)) rfl ip dJ l) ⟨rfl,rfl,trivial⟩ ?_;refine gB 0 rfl rfl rfl rfl (jw (i:=Int.toNat y6.2) (off:=0) rfl dJ (fun _=>rfl) rfl (dt l).2.2 rfl) ⟨rfl,trivial⟩ ?_;obtain⟨Sv,j,h⟩:=ab h;refine gB 0 rfl rfl rfl rfl (bT (t:=(.int .i64)) rfl ip dJ j) ⟨rfl,rfl,trivial⟩ ?_;refine sO 15 [true,true,false,false,false,true,true,true,true,true,true,true,true,true,true] [48] [] [] rfl (by kernel_rfl) (by kernel_rfl) (by kernel_rfl) fN (fun vs hv hB=>?_);obtain⟨w0,SQ,rfl,R7⟩:=aD hv;obtain⟨w1,SO,rfl,R2⟩:=aD R7;obtain⟨w2,SN,rfl,RZ⟩:=aD R2;obtain⟨w3,SL,rfl,RY⟩:=aD RZ;obtain⟨w4,SK,rfl,RX⟩:=aD RY;obtain⟨w5,SJ,rfl,RV⟩:=aD RX;obtain⟨w6,SI,rfl,RU⟩:=aD RV;obtain⟨w7,SH,rfl,RS⟩:=aD RU;obtain⟨w8,SG,rfl,RR⟩:=aD RS;obtain⟨w9,Ss,rfl,X⟩:=aD RR;obtain⟨SD,Sr,rfl,U⟩:=aD X;obtain⟨SC,Sm,rfl,Q⟩:=aD U;obtain⟨SB,Sl,rfl,O⟩:=aD Q;obtain⟨SA,Sj,rfl,M⟩:=aD O;obtain⟨Sz,Si,rfl,J⟩:=aD M;obtain rfl:=oZ J;refine⟨[0],[.sl c 3 (.int .i64) y6.1],by kernel_rfl,by decide,?_⟩;refine oC rfl rfl (fg (i:=Int.toNat y6.2) rfl dJ rfl (kw j) rfl .int rfl) ⟨rfl,rfl,trivial⟩ (by kernel_rfl) ?_;obtain⟨Su,e,h⟩:=ab h;refine MZ rfl rfl rfl rfl (bT (t:=(.int .i64)) rfl ip dJ e) ⟨rfl,rfl,trivial⟩ (by kernel_rfl) ?_;refine oC rfl rfl (fg (i:=Int.toNat y) rfl dJ rfl (kw e) rfl .int rfl) ⟨rfl,rfl,trivial⟩ (by kernel_rfl) ?_;refine uR ?_;refine bN (SE.fin (Γ':=[(0,.eq c),(1,I a1),(2,I a2),(6,I y2.2),(7,I y6.2)]) (Δ':=[.sl c 3 (.int .i64) (List.set (List.set y6.1 (Int.toNat y6.2) E) (Int.toNat y) D)]) [0] ⟨rfl,rfl,rfl,rfl,rfl,trivial⟩ rfl) ?_;refine aO (tn (aa (mq ?_)));obtain⟨RL,ac,h⟩:=ab h;refine jb (fH rfl ac) ?_;refine aq (nl ?_);exact jz ((),(List.set (List.set y6.1 (Int.toNat y6.2) E) (Int.toNat y) D,RL)) h [0]
    ·refine eS (aY (aY (bZ (bn ?_))));exact jz ((),y6.1) h [0]
  ·refine aa (mq ?_);obtain⟨RJ,Y,h⟩:=ab h;refine jb (bD rfl Y) ?_;refine aq (nl ?_);exact jz ((),(x4,RJ)) h [0]
 ·
  refine eS (aY (aY (bZ (iC ?_))));cases h;exact aK () [] 1 trivial rfl
def j0(k:Nat)(a0:Int):Option Int:=
 ((if 4294967296≤a0 then(some (gR .u64 a0 32,32)) else(some (a0,0))):Option (Int×Int)).bind fun x1=>
 ((if 65536≤x1.1 then((ck (x1.2+16)).bind fun x5=>
 some (gR .u64 x1.1 16,x5)) else(some (x1.1,x1.2))):Option (Int×Int)).bind fun x3=>
 ((if 256≤x3.1 then((ck (x3.2+8)).bind fun x8=>
 some (gR .u64 x3.1 8,x8)) else(some (x3.1,x3.2))):Option (Int×Int)).bind fun x6=>
 (A1 IS (IntKind.u8.wrap x6.1)).bind fun x9=>
 (ck (x9.toNat:Int)).bind fun e=>
 (ck (x6.2+e)).bind fun c=>
 some c
theorem qk(k:Nat)(a0:Int)(r:Int)(h:j0 k a0=some r):
 co Tryz.prog 206 [.eq (.int .u64 a0)] [] (fun _:Unit=>(bz [I r],[])):=by
 unfold j0 at h
 replace h:=be h
 refine co.of 25 Tryz.func206 rfl Tryz.ntmps206 rfl fun S w0=>?_
 refine sr ?_
 refine cq ?_
 refine nt ?_
 refine aW (Z:=Unit) (α:=Int×Int) (fun z2 x1=>[(0,.eq (.int .u64 x1.1)),(2,I x1.2)]) (fun z2 x1=>[]) h (fun K h=>?_) (fun z2 x1 h=>?_)
 ·
  refine sr (mq ?_);refine jb (sU rfl) ?_;refine nt (ci h (fun h=>?_) (fun h=>?_))
  ·refine sr (mq ?_);refine ay rfl (ug rfl (by decide)) ⟨rfl,rfl,trivial⟩ ?_;refine aq (nt (aa ?_));refine cq (nl ?_);exact jz ((),(gR .u64 a0 32,32)) h []
  ·refine aV (ae ?_);exact jz ((),(a0,0)) h []
 ·
  refine aW (Z:=Unit) (α:=Int×Int) (fun z4 x3=>[(0,.eq (.int .u64 x3.1)),(2,I x3.2)]) (fun z4 x3=>[]) h (fun K h=>?_) (fun z4 x3 h=>?_)
  ·refine sr (mq ?_);refine jb (sU rfl) ?_;refine nt (ci h (fun h=>?_) (fun h=>?_))
   ·refine sr (mq ?_);refine ay rfl (ug rfl (by decide)) ⟨rfl,rfl,trivial⟩ ?_;refine aq (nt (aa ?_));refine mq ?_;obtain⟨x5,n,h⟩:=ab h;refine jb (bD rfl n) ?_;refine aq (nl ?_);exact jz ((),(gR .u64 x1.1 16,x5)) h []
   ·refine aV (ae ?_);exact jz ((),(x1.1,x1.2)) h []
  ·refine aW (Z:=Unit) (α:=Int×Int) (fun z7 x6=>[(0,.eq (.int .u64 x6.1)),(2,I x6.2)]) (fun z7 x6=>[]) h (fun K h=>?_) (fun z7 x6 h=>?_)
   ·refine sr (mq ?_);refine jb (sU rfl) ?_;refine nt (ci h (fun h=>?_) (fun h=>?_))
    ·refine sr (mq ?_);refine ay rfl (ug rfl (by decide)) ⟨rfl,rfl,trivial⟩ ?_;refine aq (nt (aa ?_));refine mq ?_;obtain⟨x8,l,h⟩:=ab h;refine jb (bD rfl l) ?_;refine aq (nl ?_);exact jz ((),(gR .u64 x3.1 8,x8)) h []
    ·refine aV (ae ?_);exact jz ((),(x3.1,x3.2)) h []
   ·refine sr ?_;iterate 2 refine mq ?_
    refine ja (nQ rfl Qi U5) ?_;obtain⟨x9,j,h⟩:=ab h;refine ja (yO rfl U9 j) ?_;obtain⟨u,e,h⟩:=ab h;refine ja (yP rfl U5 U3 e) ?_;obtain⟨s,c,h⟩:=ab h;refine jb (bD rfl c) ?_;refine aq (nt (aC ?_));cases h;exact ra
def xK(k:Nat)(a0:Int):Option Int:=
 (j0 k a0).bind fun r1=>
 some r1
theorem Bh(k:Nat)(a0:Int)(r:Int)(h:xK k a0=some r):
 co Tryz.prog 185 [.eq (.int .u64 a0)] [] (fun _:Unit=>(bz [I r],[])):=by
 unfold xK at h
 replace h:=be h
 refine co.of 8 Tryz.func185 rfl Tryz.ntmps185 rfl fun S w0=>?_
 refine sr ?_
 refine cq ?_
 refine nt ?_
 refine ah ?_
 refine HN (fun hb=>(by cases hb)) (fun hb=>?_)
 refine sk ?_
 refine sr ?_
 refine mq ?_
 obtain⟨r1,c,h⟩:=ab h
 have e:=qk k a0 r1 c
 refine ja (an [.tmp 6] rfl rfl O1 rfl e) ?_
 refine aq ?_
 refine nt ?_
 refine aC ?_
 cases h
 exact ra
def eU(k:Nat)(a0:(List Int))(a1:Int)(a2:Int)(a3:Int):Nat→Unit→Option (List Int)
 |0,_=>none
 |n+1,y1=>
  (ck (a2 - a1)).bind fun x3=>
  if x3≤12 then((dQ k a0 a1 a2).bind fun r4=>
  some r4) else(if a3=0 then(none) else(none))
def f5(k:Nat)(a0:(List Int))(a1:Int)(a2:Int)(a3:Int):Option (List Int):=
 eU k a0 a1 a2 a3 k ()
theorem lp(k:Nat)(a0:(List Int))(c:Value)(a1:Int)(a2:Int)(a3:Int)(r:(List Int))(h:f5 k a0 a1 a2 a3=some r):
 co Tryz.prog 184 [.eq c,I a1,I a2,I a3] [.sl c 3 (.int .i64) a0] (fun _:Unit=>(bz [],[.sl c 3 (.int .i64) r])):=by
 unfold f5 at h
 replace h:=be h
 refine co.of 134 Tryz.func184 rfl Tryz.ntmps184 rfl fun S w0=>?_
 refine sr ?_
 refine cq ?_
 refine nt ?_
 refine sr ?_
 refine cq ?_
 refine nt ?_
 refine ao ?_
 refine aR (fun z2 y1=>[(0,.eq c),(1,I a1),(2,I a2),(3,I a3),(8,.eq (.bool true)),(9,.eq (.bool true))]) (fun z2 y1=>[.sl c 3 (.int .i64) a0]) (eU k a0 a1 a2 a3) k () () (fun _=>rfl) h (SE.fin [0] ⟨rfl,rfl,rfl,rfl,rfl,rfl,trivial⟩ rfl) (fun n z2 y1 h=>?_)
 unfold eU at h
 refine ao ?_
 refine sr ?_
 iterate 2 refine mq ?_
 obtain⟨x3,e,h⟩:=ab h
 refine jb (fH rfl e) ?_
 refine aq ?_
 refine nt ?_
 refine ah ?_
 refine sr ?_
 refine mq ?_
 refine jb (yL rfl) ?_
 refine nt ?_
 refine ci h (fun h=>?_) (fun h=>?_)
 ·
  refine sr ?_;iterate 3 refine mq ?_
  obtain⟨r4,j,h⟩:=ab h;refine kc (an [.tmp 24,.tmp 25,.tmp 26] rfl rfl O3 rfl (jp k a0 c a1 a2 r4 j)) ?_;refine nt (rx (bQ (ba (bQ ?_))));cases h;exact aK () [] 1 trivial rfl
 ·
  refine sk (ah (sr (mq ?_)));refine jb (fK rfl) ?_;refine nt (ci h (fun h=>?_) (fun h=>?_))
  ·refine sr ?_;iterate 3 refine mq ?_
   cases h
  ·refine sk (ah (sr (mq ?_)));refine ja (fJ rfl) ?_;refine nt (bm rfl (fun hb=>(by cases hb)) (fun hb=>?_));refine sk (sr ?_);iterate 3 refine mq ?_
   cases h
def mS(k:Nat)(a0:(List Int)):Option (List Int):=
 (xK k (IntKind.u64.wrap (a0.length:Int))).bind fun r1=>
 (f5 k a0 0 (a0.length:Int) r1).bind fun r2=>
 some r2
theorem tg(k:Nat)(a0:(List Int))(c:Value)(r:(List Int))(h:mS k a0=some r):
 co Tryz.prog 145 [.eq c] [.sl c 3 (.int .i64) a0] (fun _:Unit=>(bz [],[.sl c 3 (.int .i64) r])):=by
 unfold mS at h
 replace h:=be h
 refine co.of 11 Tryz.func145 rfl Tryz.ntmps145 rfl fun S w0=>?_
 refine sr ?_
 refine mq ?_
 refine ka (eV rfl rfl ip) ?_
 refine aq ?_
 refine nt ?_
 refine aa ?_
 iterate 3 refine mq ?_
 refine ja (nQ rfl U3 Q7) ?_
 obtain⟨r1,j,h⟩:=ab h
 have n:=Bh k (IntKind.u64.wrap (a0.length:Int)) r1 j
 refine ja (an [.tmp 8] rfl rfl O5 rfl n) ?_
 obtain⟨r2,e,h⟩:=ab h
 have l:=lp k a0 c 0 (a0.length:Int) r1 r2 e
 refine bI rfl rfl rfl (an [.tmp 5,.const (.int .i64 (0)),.tmp 6,.tmp 9] rfl rfl O6 rfl l) ⟨rfl,rfl,rfl,rfl,trivial⟩ ?_
 refine ak ?_
 refine iC ?_
 cases h
 exact aK () [] 1 trivial rfl
def kP(k:Nat)(a0:(List Int)):Option (List Int):=
 (jZ k a0).bind fun r1=>
 (mS k r1).bind fun r3=>
 some r3
theorem qM(k:Nat)(a0:(List Int))(c:Nat)(r:(List Int))(h:kP k a0=some r):
 co Tryz.prog 108 [.eq (.func (.func 146) #[] #[(Pv c)])] [.obj c 23 (Ri a0)] (fun _:Unit=>(bz [Ri r],[.obj c 23 (Ri a0)])):=by
 unfold kP at h
 replace h:=be h
 refine co.of 9 Tryz.func108 rfl Tryz.ntmps108 rfl fun S w0=>?_
 refine sr ?_
 refine cq ?_
 refine nt ?_
 refine sr ?_
 refine mq ?_
 obtain⟨r1,j,h⟩:=ab h
 have n:=pU k a0 c r1 j
 refine bG (Δ:=[_]) (F:=_) (fun _ _ _=>au rfl _) rfl rfl (an [.tmp 4] rfl rfl Pl rfl n) ⟨rfl,trivial⟩ fun z2=>?_
 refine aq ?_
 refine nt ?_
 refine sr ?_
 refine mq ?_
 obtain⟨r3,e,h⟩:=ab h
 have l:=tg k r1 z2 r3 e
 refine ka (an [.tmp 6] rfl rfl Pj rfl l) ?_
 refine nt ?_
 refine sr ?_
 refine mq ?_
 refine aq ?_
 refine nt ?_
 refine aC ?_
 refine bN (ix [2,3,5,6,8] ⟨rfl,rfl,rfl,rfl,rfl,trivial⟩) ?_
 cases h
 exact aK () [_] 1 ⟨rfl,trivial⟩ rfl
theorem qL(a0:(List Int)):co Tryz.prog 109 [Ri a0] [] (fun z:Nat=>(bz [.eq (.func (.func 146) #[] #[(Pv z)])],[.obj z 23 (Ri a0)])):=by
 refine co.of 4 Tryz.func109 rfl Tryz.ntmps109 rfl fun S w0=>?_;refine sr (bx fun z=>?_);refine cq (nt (sr ?_));refine ja (rZ [] [.tmp 1] [] [(Pv z)] rfl rfl rfl) ?_;refine aq (nt (aC ?_));exact aK z [_] 1 ⟨rfl,trivial⟩ rfl
def bC{σ:Type}(k:Nat)(a0:(List (List Int)))(a1:Int)(a2:Int)(a3:cS)(self:(List (List Int))→Int→Int→σ→Option (Bool×σ))(h:(List Int)):Nat→(Int×σ)→Option (Except (Bool×σ) (σ))
 |0,_=>none
 |n+1,c=>
  if c.1 < (a3.1.2.1.length:Int) then(bE (α:=σ) ((bv a3.1.2.1 c.1).bind fun y=>
  (((dB k a2 c.1).bind fun I=>
  if I=true then(some (true,c.2)) else((mf k a3.1 h).bind fun F=>
  (ck (F+y.1)).bind fun x=>
  (bv a3.1.2.2 a1).bind fun u=>
  some (decide (u < x),c.2))):Option (Bool×σ)).bind fun j=>
  if j.1=true then(some (.ok j.2)) else((eK (0≤a1∧a1 < 3)).bind fun _=>
  (bv a0 a1).bind fun s=>
  (eK (0≤(h.length:Int)∧(h.length:Int) < 5)).bind fun _=>
  (dy k a2 c.1).bind fun E=>
  (self (List.set a0 (Int.toNat a1) (List.set s (Int.toNat (h.length:Int)) c.1)) a1 E j.2).bind fun l=>
  if¬(l.1=true) then(some (.error (false,l.2))) else(some (.ok l.2)))) (fun e=>some (.error e)) fun D=>
  (ck (c.1+1)).bind fun r=>
  bC k a0 a1 a2 a3 self h n (r,D)) else(some (.ok c.2))
def bp{σ:Type}(k:Nat)(Y:σ→(List (List Int))→Option (σ×Bool))(a3:cS):Nat→(List (List Int))→Int→Int→σ→Option (Bool×σ)
 |0,_,_,_,_=>none
 |m0+1,a0,a1,a2,s0=>
  if a1=(a3.1.2.2.length:Int) then((((eK (0≤(a3.1.2.1.length:Int))).bind fun _=>
  if¬(a2=(IntKind.u8.wrap ((lV .u8 1 (a3.1.2.1.length:Int)) - 1))) then(some (true,s0)) else((Y s0 a0).bind fun r5=>
  some (r5.2,r5.1))):Option (Bool×σ)).bind fun x2=>
  some (x2.1,x2.2)) else((ck (a1+1)).bind fun x7=>
  ((bp k Y a3 m0) a0 x7 a2 s0).bind fun r8=>
  if¬(r8.1=true) then(some (false,r8.2)) else((dz k a0 a1).bind fun e=>
  bE (α:=σ) (bC k a0 a1 a2 a3 (bp k Y a3 m0) e k (0,r8.2)) (some) fun c=>
  some (true,c)))
theorem lU{M:Md Tryz.prog}{σ Z:Type}(E:Z→σ→List D)(l:Nat)(Y:σ→(List (List Int))→Option (σ×Bool))(k:Nat)(a3:cS)(u:Nat)(x:Nat)(c:Nat)(hY:∀z s p r,Y s p=some r→YT M l [.rep (.arr 3 (.arr 5 (.int .i64))) p] (E z s) (fun z':Z=>(.eq (.bool r.2),E z' r.1))):
 ∀(n:Nat) (a0:(List (List Int))) (a1:Int) (a2:Int) (z0:Z) (s0:σ) (r:Bool×σ),bp k Y a3 n a0 a1 a2 s0=some r→dc M 149 [.rep (.arr 3 (.arr 5 (.int .i64))) a0,I a1,.eq (.int .u8 a2),Pt u,Pt x,Pt c] ([.obj u 102 (.at bj a3),.obj x 210 (.eq (.func (.yield l) #[] #[])),.obj c 211 (.eq (.func (.func 149) #[] #[(Pv u),(Pv x),(Pv c)]))]++E z0 s0) (fun z:Z=>(bz [.eq (.bool r.1)],[.obj u 102 (.at bj a3),.obj x 210 (.eq (.func (.yield l) #[] #[])),.obj c 211 (.eq (.func (.func 149) #[] #[(Pv u),(Pv x),(Pv c)]))]++E z r.2)):=by
 intro n
 induction n with
 |zero=>intro a0 a1 a2 z0 s0 r h;cases h
 |succ m0 ih=>
  intro a0 a1 a2 z0 s0 r h;rw [bp] at h;replace h:=be h;refine dc.of 97 Tryz.func149 rfl Tryz.ntmps149 rfl fun S w0=>?_;refine sr (bx fun b1=>?_);refine cq (nt (ah (sr ?_)));refine mq ?_;refine fr 1 ?_;refine lo qJ ?_;refine ja (dn rfl) ?_;refine ja (aI 3 true rfl jm rfl) ?_;refine ja (aI 1 false rfl eI rfl) ?_;refine ja (ar (t:=(.slice (.int .i64))) rfl de rfl) ?_;refine ol ip ?_;refine jb (fK rfl) ?_;refine nt (ci h (fun h=>?_) (fun h=>?_))
  ·refine aW (Z:=Z) (α:=Bool×σ) (fun z3 x2=>[(9,.eq (.bool x2.1))]) (fun z3 x2=>[.obj u 102 (.at bj a3),.obj x 210 (.eq (.func (.yield l) #[] #[])),.obj c 211 (.eq (.func (.func 149) #[] #[(Pv u),(Pv x),(Pv c)]))]++E z3 x2.2) h (fun K h=>?_) (fun z3 x2 h=>?_)
   ·refine aa (mq ?_);refine lo qJ ?_;refine ja (dn rfl) ?_;refine ja (aI 3 true rfl jm rfl) ?_;refine ja (aI 1 false rfl du rfl) ?_;refine ja (ar (t:=(.slice aJ)) rfl jt rfl) ?_;refine ol ta ?_;obtain⟨u4,Su,h⟩:=ab h;refine jb (FA rfl (aE Su)) ?_;refine jb (Fz rfl) ?_;refine jb (kf rfl) ?_;refine mq ?_;refine cg (s:=32) rfl (fun hb=>?_) (fun hb=>?_)
    ·replace h:=cZ (Qc hb) h;iterate 3 refine gn ?_
     refine pt ?_;refine aq (nl ?_);exact j9 (z0,(true,s0)) h (bB [.obj u 102 (.at bj a3),.obj b1 107 (.rep (.arr 3 (.arr 5 (.int .i64))) a0),.obj x 210 (.eq (.func (.yield l) #[] #[])),.obj c 211 (.eq (.func (.func 149) #[] #[(Pv u),(Pv x),(Pv c)]))] (E z0 s0) [0,2,3] ⟨rfl,trivial⟩ rfl)
    ·replace h:=bS (IN hb) h;refine fr 2 ?_;refine oG rfl rfl rfl rfl rfl rfl (aj rfl NP lq rfl) ⟨rfl,trivial⟩ ?_;refine fr 2 ?_;refine oG rfl rfl rfl rfl rfl rfl (aj rfl cQ (vR) rfl) ⟨rfl,trivial⟩ ?_;obtain⟨r5,Sz,h⟩:=ab h;refine fr 3 ?_;refine fr 3 ?_;refine fr 3 ?_;refine fr 3 ?_;refine Eo [.obj b1 107 (.rep (.arr 3 (.arr 5 (.int .i64))) a0),.obj x 210 (.eq (.func (.yield l) #[] #[])),.obj u 102 (.at bj a3),.obj c 211 (.eq (.func (.func 149) #[] #[(Pv u),(Pv x),(Pv c)]))] rfl rfl rfl rfl rfl rfl (wW [.tmp 34] rfl rfl rfl (hY z0 s0 a0 r5 Sz)) ⟨rfl,rfl,trivial⟩ fun z6=>?_;refine pf ?_;refine aq (nl ?_);exact j9 (z6,(r5.2,r5.1)) h (bB [.obj b1 107 (.rep (.arr 3 (.arr 5 (.int .i64))) a0),.obj x 210 (.eq (.func (.yield l) #[] #[])),.obj u 102 (.at bj a3),.obj c 211 (.eq (.func (.func 149) #[] #[(Pv u),(Pv x),(Pv c)]))] (E z6 r5.1) [2,1,3] ⟨rfl,trivial⟩ rfl)
   ·refine rx ?_;cases h;exact im z3 [_] ⟨rfl,trivial⟩ rfl
  ·refine sk (ah (sr (fr 3 ?_)));refine lo Bz ?_;refine fr 2 ?_;refine lo cQ ?_;refine mq ?_;obtain⟨x7,Ss,h⟩:=ab h;refine jb (bD rfl Ss) ?_;refine mq ?_;obtain⟨r8,Sv,h⟩:=ab h;refine fr 1 ?_;refine fr 3 ?_;refine fr 3 ?_;refine fr 3 ?_;refine oD [.obj b1 107 (.rep (.arr 3 (.arr 5 (.int .i64))) a0)] rfl rfl rfl (nR (fs:=[]) (cs:=[(Pv u),(Pv x),(Pv c)]) (ags:=[.rep (.arr 3 (.arr 5 (.int .i64))) a0,I x7,.eq (.int .u8 a2)]) [.tmp 38,.tmp 40,.tmp 41] rfl rfl Hg rfl (ih a0 x7 a2 z0 s0 r8 Sv)) ⟨rfl,rfl,rfl,rfl,trivial⟩ fun z9=>?_;refine ja (fJ rfl) ?_;refine nt (cw h (fun h=>?_) (fun h=>?_))
   ·refine sr (cq (nt (rx ?_)));refine bN (bB (Γ':=[(9,_)]) [.obj b1 107 (.rep (.arr 3 (.arr 5 (.int .i64))) a0),.obj u 102 (.at bj a3),.obj x 210 (.eq (.func (.yield l) #[] #[])),.obj c 211 (.eq (.func (.func 149) #[] #[(Pv u),(Pv x),(Pv c)]))] (E z9 r8.2) [1,2,3] ⟨rfl,trivial⟩ rfl) ?_;cases h;exact im z9 [_] ⟨rfl,trivial⟩ rfl
   ·refine sk (sr (lo cQ ?_));refine mq ?_;obtain⟨F,R7,h⟩:=ab h;refine jb (an [.tmp 44,.tmp 45] rfl rfl Cf rfl (fD k a0 a1 F R7)) ?_;refine aq (nt ?_);refine iN (Z:=Z) (α:=σ) (fun qt RL=>[]) (fun qt RL=>[.obj u 102 (.at bj a3),.obj x 210 (.eq (.func (.yield l) #[] #[])),.obj c 211 (.eq (.func (.func 149) #[] #[(Pv u),(Pv x),(Pv c)]))]++E qt RL) (fun e=>e=r) h (fun e h=>Option.some.inj h) (fun K hR h=>?_) (fun qt RL h=>?_)
    ·refine sr (fr 1 ?_);refine lo qJ ?_;refine ja (dn rfl) ?_;refine ja (aI 3 true rfl jm rfl) ?_;refine ja (aI 1 false rfl du rfl) ?_;refine ja (ar (t:=(.slice aJ)) rfl jt rfl) ?_;refine ol ta ?_;refine eB rfl ?_;refine nt (ao (aR (Z:=Z) (α:=Int×σ) (fun J y=>[(1,I a1),(2,.eq (.int .u8 a2)),(3,Pt u),(5,Pt c),(6,Pt b1),(10,Ri F),(51,Rs aJ a3.1.2.1),(52,I (a3.1.2.1.length:Int)),(53,I y.1)]) (fun J y=>[.obj u 102 (.at bj a3),.obj c 211 (.eq (.func (.func 149) #[] #[(Pv u),(Pv x),(Pv c)])),.obj x 210 (.eq (.func (.yield l) #[] #[])),.obj b1 107 (.rep (.arr 3 (.arr 5 (.int .i64))) a0)]++E J y.2) (bC k a0 a1 a2 a3 (bp k Y a3 m0) F) k z9 (0,r8.2) (fun _=>rfl) h (bB [.obj u 102 (.at bj a3),.obj b1 107 (.rep (.arr 3 (.arr 5 (.int .i64))) a0),.obj x 210 (.eq (.func (.yield l) #[] #[])),.obj c 211 (.eq (.func (.func 149) #[] #[(Pv u),(Pv x),(Pv c)]))] (E z9 r8.2) [0,3,2,1] ⟨rfl,rfl,rfl,rfl,rfl,rfl,rfl,rfl,rfl,trivial⟩ rfl) (fun n J y h=>?_)));unfold bC at h;refine sr (jb (bJ rfl) ?_);refine nt (ah (ci h (fun h=>?_) (fun h=>?_)))
     ·refine sk (iN (Z:=Z) (α:=σ) (fun X mc=>[(1,I a1),(2,.eq (.int .u8 a2)),(3,Pt u),(5,Pt c),(6,Pt b1),(10,Ri F),(51,Rs aJ a3.1.2.1),(52,I (a3.1.2.1.length:Int)),(53,I y.1)]) (fun X mc=>[.obj u 102 (.at bj a3),.obj c 211 (.eq (.func (.func 149) #[] #[(Pv u),(Pv x),(Pv c)])),.obj x 210 (.eq (.func (.yield l) #[] #[])),.obj b1 107 (.rep (.arr 3 (.arr 5 (.int .i64))) a0)]++E X mc) (fun e=>e=r) h (fun e h=>hR e h) (fun K hR h=>?_) (fun X mc h=>?_))
      ·refine ao (sr (mq ?_));obtain⟨RP,RV,h⟩:=ab h;refine jb (a8 (t:=aJ) rfl ta ko RV) ?_;refine ja (ar (t:=aJ) rfl ko rfl) ?_;refine aB rfl rfl rfl (aS rfl uV JK) trivial fun R9=>?_;refine aq ?_;refine aX rfl rfl (aP rfl ko rfl rfl rfl) ⟨rfl,rfl,trivial⟩ ?_;refine nt (ah (aW (Z:=Z) (α:=Bool×σ) (fun U O=>[(1,I a1),(2,.eq (.int .u8 a2)),(3,Pt u),(5,Pt c),(6,Pt b1),(10,Ri F),(11,I y.1),(51,Rs aJ a3.1.2.1),(52,I (a3.1.2.1.length:Int)),(53,I y.1),(80,.eq (.bool O.1))]) (fun U O=>[.obj u 102 (.at bj a3),.obj c 211 (.eq (.func (.func 149) #[] #[(Pv u),(Pv x),(Pv c)])),.obj x 210 (.eq (.func (.yield l) #[] #[])),.obj b1 107 (.rep (.arr 3 (.arr 5 (.int .i64))) a0)]++E U O.2) h (fun K h=>?_) (fun U O h=>?_)))
       ·refine cm ?_;refine dm ?_;refine dm ?_;obtain⟨Sr,R2,h⟩:=ab h;refine db (an [.tmp 58,.tmp 59] rfl rfl Jo rfl (gW k a2 y.1 Sr R2)) ?_;refine CZ rfl rfl rfl (bU rfl) ⟨rfl,trivial⟩ (fun hb=>?_) (fun hb=>?_)
        ·replace h:=cZ (EB hb) h;iterate 17 refine dg ?_
         refine df fN ?_;refine gn ?_;refine pt (nl ?_);exact j9 (J,(true,y.2)) h (bB [.obj R9 27 (.rep aJ RP),.obj u 102 (.at bj a3),.obj c 211 (.eq (.func (.func 149) #[] #[(Pv u),(Pv x),(Pv c)])),.obj x 210 (.eq (.func (.yield l) #[] #[])),.obj b1 107 (.rep (.arr 3 (.arr 5 (.int .i64))) a0)] (E J y.2) [1,2,3,4] ⟨rfl,rfl,rfl,rfl,rfl,rfl,rfl,rfl,rfl,rfl,rfl,trivial⟩ rfl)
        ·replace h:=bS (EC hb) h;refine nh 1 rfl rfl rfl rfl rfl rfl (aj rfl qJ lq rfl) ⟨rfl,rfl,trivial⟩ ?_;refine d5 rfl rfl rfl rfl rfl (dn rfl) ⟨rfl,rfl,trivial⟩ ?_;refine d5 rfl rfl rfl rfl rfl (aI 3 true rfl jm rfl) ⟨rfl,rfl,trivial⟩ ?_;refine d5 rfl rfl rfl rfl rfl (ar (t:=aH) rfl fE rfl) ⟨rfl,rfl,trivial⟩ ?_;refine d5 rfl rfl rfl rfl rfl (bU rfl) ⟨rfl,rfl,trivial⟩ ?_;obtain⟨Sm,RZ,h⟩:=ab h;refine d5 rfl rfl rfl rfl rfl (an [.tmp 65,.tmp 66] rfl rfl KL rfl (sQ k a3.1 F Sm RZ)) ⟨rfl,rfl,rfl,trivial⟩ ?_;refine d5 rfl rfl rfl rfl rfl (av rfl uD) ⟨rfl,rfl,trivial⟩ ?_;refine nh 0 rfl rfl rfl rfl rfl rfl (aj rfl dJ lq rfl) ⟨rfl,rfl,trivial⟩ ?_;obtain⟨Sl,RU,h⟩:=ab h;refine d5 rfl rfl rfl rfl rfl (bD rfl RU) ⟨rfl,rfl,rfl,trivial⟩ ?_;refine nh 1 rfl rfl rfl rfl rfl rfl (aj rfl qJ lq rfl) ⟨rfl,rfl,trivial⟩ ?_;refine d5 rfl rfl rfl rfl rfl (dn rfl) ⟨rfl,rfl,trivial⟩ ?_;refine d5 rfl rfl rfl rfl rfl (aI 3 true rfl jm rfl) ⟨rfl,rfl,trivial⟩ ?_;refine d5 rfl rfl rfl rfl rfl (aI 1 false rfl eI rfl) ⟨rfl,rfl,trivial⟩ ?_;refine d5 rfl rfl rfl rfl rfl (ar (t:=(.slice (.int .i64))) rfl de rfl) ⟨rfl,rfl,trivial⟩ ?_;refine d5 rfl rfl rfl rfl rfl (bU rfl) ⟨rfl,rfl,trivial⟩ ?_;obtain⟨Sj,RS,h⟩:=ab h;refine d5 rfl rfl rfl rfl rfl (a8 (t:=(.int .i64)) rfl ip dJ RS) ⟨rfl,rfl,rfl,trivial⟩ ?_;refine d5 rfl rfl rfl rfl rfl (ar (t:=(.int .i64)) rfl dJ rfl) ⟨rfl,rfl,trivial⟩ ?_;refine df fN ?_;refine gb (lG rfl) ?_;refine pf (nl ?_);exact j9 (J,(decide (Sj < Sl),y.2)) h (bB [.obj R9 27 (.rep aJ RP),.obj u 102 (.at bj a3),.obj c 211 (.eq (.func (.func 149) #[] #[(Pv u),(Pv x),(Pv c)])),.obj x 210 (.eq (.func (.yield l) #[] #[])),.obj b1 107 (.rep (.arr 3 (.arr 5 (.int .i64))) a0)] (E J y.2) [1,2,3,4] ⟨rfl,rfl,rfl,rfl,rfl,rfl,rfl,rfl,rfl,rfl,rfl,trivial⟩ rfl)
       ·refine cv h (fun h=>?_) (fun h=>?_)
        ·refine eS (aY (bZ (ae ?_)));exact j9 (U,O.2) h (bB [.obj u 102 (.at bj a3),.obj c 211 (.eq (.func (.func 149) #[] #[(Pv u),(Pv x),(Pv c)])),.obj x 210 (.eq (.func (.yield l) #[] #[])),.obj b1 107 (.rep (.arr 3 (.arr 5 (.int .i64))) a0)] (E U O.2) [0,1,2,3] ⟨rfl,rfl,rfl,rfl,rfl,rfl,rfl,rfl,rfl,trivial⟩ rfl)
        ·refine sk (sr (fr 3 ?_));refine lo cQ ?_;refine aB rfl rfl rfl (aS rfl l7 mH) trivial fun RO=>?_;refine aX rfl rfl (aP rfl cQ rfl rfl rfl) ⟨rfl,rfl,trivial⟩ ?_;refine nt (sr ?_);iterate 2 refine mq ?_
         refine ol ip ?_;refine mq ?_;obtain⟨SB,RJ,h⟩:=ab h;refine jb (hH rfl JS yv (aE RJ).1 (aE RJ).2) ?_;obtain⟨ac,RR,h⟩:=ab h;obtain⟨SA,Q,h⟩:=ab h;refine jb (hH rfl JU dJ (aE Q).1 (aE Q).2) ?_;refine aX rfl rfl (mY (t:=(.int .i64)) (off:=0) (i:=a1) (j:=(F.length:Int)) (N:=3) (L:=5) rfl dJ .int rfl rfl rfl rfl RR (aE Q).1 (aE Q).2 rfl) ⟨rfl,rfl,trivial⟩ ?_;refine nt (ah (cm ?_));refine ea 3 (aj rfl Bz lq rfl) ?_;refine ea 0 (aj rfl cQ (vR) rfl) ?_;refine dm ?_;refine dm ?_;refine dm ?_;obtain⟨RN,RY,h⟩:=ab h;refine db (an [.tmp 91,.tmp 92] rfl rfl Ce rfl (iH k a2 y.1 RN RY)) ?_;refine df fN ?_;obtain⟨se,RX,h⟩:=ab h;refine fr 3 ?_;refine fr 4 ?_;refine fr 4 ?_;refine fr 4 ?_;refine fr 4 ?_;refine oD [.obj RO 107 (.rep (.arr 3 (.arr 5 (.int .i64))) (List.set a0 (Int.toNat a1) (List.set ac (Int.toNat (F.length:Int)) y.1))),.obj b1 107 (.rep (.arr 3 (.arr 5 (.int .i64))) a0)] rfl rfl rfl (nR (fs:=[]) (cs:=[(Pv u),(Pv x),(Pv c)]) (ags:=[.rep (.arr 3 (.arr 5 (.int .i64))) (List.set a0 (Int.toNat a1) (List.set ac (Int.toNat (F.length:Int)) y.1)),I a1,.eq (.int .u8 RN)]) [.tmp 89,.tmp 90,.tmp 93] rfl rfl Hg rfl (ih (List.set a0 (Int.toNat a1) (List.set ac (Int.toNat (F.length:Int)) y.1)) a1 RN U O.2 se RX)) ⟨rfl,rfl,rfl,rfl,trivial⟩ fun pp=>?_;refine ja (fJ rfl) ?_;refine nt (cw h (fun h=>?_) (fun h=>?_))
         ·refine sr (cq (nt (aC (br (bQ (ba ?_))))));refine bN (bB (Γ':=[(9,_)]) [.obj RO 107 (.rep (.arr 3 (.arr 5 (.int .i64))) (List.set a0 (Int.toNat a1) (List.set ac (Int.toNat (F.length:Int)) y.1))),.obj b1 107 (.rep (.arr 3 (.arr 5 (.int .i64))) a0),.obj u 102 (.at bj a3),.obj x 210 (.eq (.func (.yield l) #[] #[])),.obj c 211 (.eq (.func (.func 149) #[] #[(Pv u),(Pv x),(Pv c)]))] (E pp se.2) [2,3,4] ⟨rfl,trivial⟩ rfl) ?_;obtain rfl:=hR _ h;exact im pp [_] ⟨rfl,trivial⟩ rfl
         ·refine aV (bn ?_);exact j9 (pp,se.2) h (bB [.obj RO 107 (.rep (.arr 3 (.arr 5 (.int .i64))) (List.set a0 (Int.toNat a1) (List.set ac (Int.toNat (F.length:Int)) y.1))),.obj b1 107 (.rep (.arr 3 (.arr 5 (.int .i64))) a0),.obj u 102 (.at bj a3),.obj x 210 (.eq (.func (.yield l) #[] #[])),.obj c 211 (.eq (.func (.func 149) #[] #[(Pv u),(Pv x),(Pv c)]))] (E pp se.2) [2,4,3,1] ⟨rfl,rfl,rfl,rfl,rfl,rfl,rfl,rfl,rfl,trivial⟩ rfl)
      ·refine aa ?_;obtain⟨Si,RQ,h⟩:=ab h;refine jb (bD rfl RQ) ?_;refine mq (nl ?_);exact j9 (X,(Si,mc)) h (bB [.obj u 102 (.at bj a3),.obj c 211 (.eq (.func (.func 149) #[] #[(Pv u),(Pv x),(Pv c)])),.obj x 210 (.eq (.func (.yield l) #[] #[])),.obj b1 107 (.rep (.arr 3 (.arr 5 (.int .i64))) a0)] (E X mc) [0,1,2,3] ⟨rfl,rfl,rfl,rfl,rfl,rfl,rfl,rfl,rfl,trivial⟩ rfl)
     ·refine xa ?_;exact j9 (J,y.2) h (bB [.obj u 102 (.at bj a3),.obj c 211 (.eq (.func (.func 149) #[] #[(Pv u),(Pv x),(Pv c)])),.obj x 210 (.eq (.func (.yield l) #[] #[])),.obj b1 107 (.rep (.arr 3 (.arr 5 (.int .i64))) a0)] (E J y.2) [0,2,1] trivial rfl)
    ·refine sr (cq (nt (aC ?_)));cases h;exact im qt [_] ⟨rfl,trivial⟩ rfl
def dU{σ:Type}(k:Nat)(Y:σ→(List (List Int))→Option (σ×Bool))(a1:cS)(s0:σ):Option (σ):=
 (dC k ([]:(List (List Int)))).bind fun r2=>
 (bp k Y a1 k r2 0 0 s0).bind fun r5=>
 some r5.2
theorem mN{M:Md Tryz.prog}{σ Z:Type}(E:Z→σ→List D)(l:Nat)(Y:σ→(List (List Int))→Option (σ×Bool))(k:Nat)(a1:cS)(c:Nat)(hY:∀z s p r,Y s p=some r→YT M l [.rep (.arr 3 (.arr 5 (.int .i64))) p] (E z s) (fun z':Z=>(.eq (.bool r.2),E z' r.1))):
 ∀(z0:Z) (s0:σ) (r:σ),dU k Y a1 s0=some r→dc M 148 [.eq (.func (.yield l) #[] #[]),Pt c] ([.obj c 102 (.at bj a1)]++E z0 s0) (fun z:Z=>(bz [],[.obj c 102 (.at bj a1)]++E z r)):=by
 intro z0 s0 r h
 unfold dU at h
 replace h:=be h
 refine dc.of 10 Tryz.func148 rfl Tryz.ntmps148 rfl fun S w0=>?_
 refine sr ?_
 refine bx fun b1=>?_
 refine nt ?_
 refine sr ?_
 obtain⟨r2,j,h⟩:=ab h
 have u:=eG k ([]:(List (List Int))) r2 j
 refine ja (cP (N:=[(.const (.slice none 0 0),.eq (.slice none 0 0))]) (an [.const (.slice none 0 0)] rfl rfl D9 rfl u) fun _ _ _ hn=>⟨(jD (t:=(.slice (.slice (.int .i64)))) (x:=([]:(List (List Int)))) .nil rfl rfl hn.1),trivial⟩) ?_
 refine aB rfl rfl rfl (aS rfl l7 mH) trivial fun b3=>?_
 refine aX rfl rfl (aP rfl cQ rfl rfl rfl) ⟨rfl,rfl,trivial⟩ ?_
 refine nt ?_
 refine sr ?_
 refine aB rfl rfl rfl (aS rfl Nn PR) trivial fun b4=>?_
 refine nt ?_
 refine sr ?_
 refine jc (rZ [] [.tmp 1,.tmp 2,.tmp 4] [] [(Pv c),(Pv b1),(Pv b4)] rfl rfl rfl) ?_
 refine aX rfl rfl (aP rfl Bz rfl rfl rfl) ⟨rfl,rfl,trivial⟩ ?_
 refine nt ?_
 refine aa ?_
 refine lo Bz ?_
 refine fr 1 ?_
 refine lo cQ ?_
 obtain⟨r5,e,h⟩:=ab h
 have n:=lU E l Y k a1 c b1 b4 hY k r2 0 0 z0 s0 r5 e
 refine fr 1 ?_
 refine fr 2 ?_
 refine fr 3 ?_
 refine fr 3 ?_
 refine oD [.obj b3 107 (.rep (.arr 3 (.arr 5 (.int .i64))) r2)] rfl rfl rfl (nR (fs:=[]) (cs:=[(Pv c),(Pv b1),(Pv b4)]) (ags:=[.rep (.arr 3 (.arr 5 (.int .i64))) r2,I 0,.eq (.int .u8 0)]) [.tmp 8,.const (.int .i64 (0)),.const (.int .u8 (0))] rfl rfl Hg rfl n) ⟨rfl,rfl,rfl,rfl,trivial⟩ fun z6=>?_
 refine ak ?_
 refine iC ?_
 refine bN (bB (Γ':=[]) [.obj b3 107 (.rep (.arr 3 (.arr 5 (.int .i64))) r2),.obj c 102 (.at bj a1),.obj b1 210 (.eq (.func (.yield l) #[] #[])),.obj b4 211 (.eq (.func (.func 149) #[] #[(Pv c),(Pv b1),(Pv b4)]))] (E z6 r5.2) [1] trivial rfl) ?_
 cases h
 exact im z6 [] trivial rfl
def f7(k:Nat)(a1:cS):Option (List (List (List Int))):=
 (dU k (nK (fun(y2:(List (List (List Int)))) (p4:(List (List Int)))=>
  (eK (bR (List.length y2+List.length [p4]))).bind fun _=>
  some (y2++[p4],true))) a1 (([]:(List (List (List Int)))),false)).bind fun r5=>
 if r5.2=true then(none) else(some r5.1)
theorem ny(k:Nat)(a1:cS)(c:Nat)(r:(List (List (List Int))))(h:f7 k a1=some r):
 co Tryz.prog 147 [.eq (.slice none 0 0),.eq (.func (.func 148) #[] #[(Pv c)])] [.obj c 102 (.at bj a1)] (fun z:Value=>(bz [.eq z],[.sl z 107 (.arr 3 (.arr 5 (.int .i64))) r,.obj c 102 (.at bj a1)])):=by
 unfold f7 at h
 replace h:=be h
 refine xX 13 Tryz.func147 rfl Tryz.ntmps147 rfl fun {M} S w0=>?_
 refine sr ?_
 refine bx fun b1=>?_
 refine cq ?_
 refine nt ?_
 refine ah ?_
 refine sr ?_
 refine mq ?_
 refine nt ?_
 refine ao ?_
 refine fX (SE.nil 107 (.arr 3 (.arr 5 (.int .i64)))) ?_
 refine iD 1 rfl ?_
 refine iD 2 rfl ?_
 obtain⟨r5,j,h⟩:=ab h
 refine nc (Δ:=[.obj c 102 (.at bj a1),.obj b1 152 (.eq (.slice none 0 0)),.sl (.slice none 0 0) 107 (.arr 3 (.arr 5 (.int .i64))) ([]:(List (List (List Int))))]) (F:=[]) (X:=Value) (J:=fun _=>IV r5.2) (E:=fun z3=>[.obj c 102 (.at bj a1),.obj b1 152 (.eq z3),.sl z3 107 (.arr 3 (.arr 5 (.int .i64))) r5.1]) (r0:=fun _=>.tup .any) rfl rfl Pe (fun rec hp ha hb hs hpe hN hv l=>?_) (fun dl z3=>pQ (fun hj=>?_) (fun hj=>?_))
 ·
  rcases rec with⟨st0,pe0,fn0,tm0,ps0,as0,bd0,df0⟩;dsimp only at hp ha hb hs hpe hN hv;subst hp hs hpe;have vN:uO tm0 [(2,Pt b1)]:=⟨congrArg A.eq (hv 2 _ rfl).symm,trivial⟩;refine dc.pick (M:=M) [1,0,2,3] [1,0,2,3] (mN (fun(z3:Value) (q:(List (List (List Int)))×Bool)=>[.raw l (.loop (jf ⟨.ready,none,fn0,tm0, #[7],as0,bd0,df0⟩ (IV q.2))),.obj b1 152 (.eq z3),.sl z3 107 (.arr 3 (.arr 5 (.int .i64))) q.1]) l (nK (fun(y2:(List (List (List Int)))) (p4:(List (List Int)))=>
  (eK (bR (List.length y2+List.length [p4]))).bind fun _=>
  some (y2++[p4],true))) k a1 c (fun z3 q p r' h=>?_) (.slice none 0 0) (([]:(List (List (List Int)))),false) r5 j) rfl (fun _=>rfl) (fun _=>rfl)
  obtain⟨rq,hq,h2,rfl⟩:=pR h;obtain⟨y2,b5⟩:=q;obtain rfl:b5=false:=hq;replace h:=be h2;obtain⟨p4,hpv⟩:∃x,x=p:=⟨_,rfl⟩;subst hpv;refine YT.pick (R':=(fun z3:Value=>(.eq (.bool rq.2),[.raw l (.loop (jf ⟨.ready,none,fn0,tm0, #[7],as0,bd0,df0⟩ (IV (!rq.2)))),.obj b1 152 (.eq z3),.sl z3 107 (.arr 3 (.arr 5 (.int .i64))) rq.1]))) [0,1,2] [0,1,2] (Hz ha hb (N:=13) (Γ:=[(2,Pt b1)]) rfl hN (by decide) vN (fun S w=>?_)) rfl (fun _=>rfl) (fun _=>rfl);refine aa (aB rfl rfl rfl (aS rfl l7 mH) trivial fun b6=>?_);refine aX rfl rfl (aP rfl cQ rfl rfl rfl) ⟨rfl,rfl,trivial⟩ ?_;refine nl (eP 1 rfl ?_);refine uS rfl rfl ?_;refine ao (aa (fr 2 ?_));refine lo E3 ?_;refine fr 2 ?_;refine lo cQ ?_;refine ja (bq (t:=(.arr 3 (.arr 5 (.int .i64)))) [(.tmp 9,_)] [p4] rfl rfl Kv (.cons rfl .rep .nil) rfl rfl) ?_;obtain⟨u7,e,h⟩:=ab h;refine fr 3 ?_;refine dG rfl rfl rfl (cC rfl rfl Kv (aE e)) ⟨rfl,rfl,trivial⟩ fun v8=>?_;refine nb fun o9=>?_;refine fr 2 ?_;refine aX rfl rfl (aP rfl E3 o9 rfl rfl) ⟨rfl,rfl,trivial⟩ ?_;refine ak (aO (eP 1 rfl ?_));refine eP 1 rfl ?_;refine eP 3 rfl ?_;cases h;exact sN v8 2 rfl
 ·
  replace h:=bS (EC hj) h;refine aO (tn (sr (fr 2 ?_)));refine lo E3 ?_;refine aq (nt (aC ?_));refine eP 1 rfl ?_;refine xU ?_;refine bN (SE.fin (Γ':=[(4,_)]) [2,1,0] ⟨rfl,trivial⟩ rfl) ?_;cases h;exact aK z3 [.eq z3] 2 ⟨rfl,trivial⟩ rfl
 ·
  replace h:=cZ (EB hj) h;cases h
def fG(k:Nat)(a0:cS):Option (List (List (List Int))):=
 (f7 k a0).bind fun r1=>
 some r1
theorem pw(k:Nat)(a0:cS)(c:Nat)(r:(List (List (List Int))))(h:fG k a0=some r):
 co Tryz.prog 115 [.eq (.func (.func 148) #[] #[(Pv c)])] [.obj c 102 (.at bj a0)] (fun _:Unit=>(bz [.rep (.slice (.arr 3 (.arr 5 (.int .i64)))) r],[.obj c 102 (.at bj a0)])):=by
 unfold fG at h
 replace h:=be h
 refine co.of 5 Tryz.func115 rfl Tryz.ntmps115 rfl fun S w0=>?_
 refine sr ?_
 refine cq ?_
 refine nt ?_
 refine sr ?_
 refine mq ?_
 obtain⟨r1,e,h⟩:=ab h
 have j:=ny k a0 c r1 e
 refine bG (Δ:=[_]) (F:=_) (fun _ _ _=>au rfl _) rfl rfl (an [.const (.slice none 0 0),.tmp 3] rfl rfl Pg rfl j) ⟨rfl,rfl,trivial⟩ fun z2=>?_
 refine aq ?_
 refine nt ?_
 refine aC ?_
 refine bN (ix [2,4] ⟨rfl,rfl,trivial⟩) ?_
 cases h
 exact aK () [_] 1 ⟨rfl,trivial⟩ rfl
theorem nH(a0:cS):co Tryz.prog 116 [.at bj a0] [] (fun z:Nat=>(bz [.eq (.func (.func 148) #[] #[(Pv z)])],[.obj z 102 (.at bj a0)])):=by
 refine co.of 4 Tryz.func116 rfl Tryz.ntmps116 rfl fun S w0=>?_;refine sr (aB rfl rfl rfl (nq rfl trivial) ⟨rfl,trivial⟩ fun z=>?_);refine cq (nt (sr ?_));refine ja (rZ [] [.tmp 1] [] [(Pv z)] rfl rfl rfl) ?_;refine aq (nt (aC ?_));exact aK z [_] 1 ⟨rfl,trivial⟩ rfl
def jQ(k:Nat)(a0:(List Int)):Option bh:=
 ((if(a0.length:Int)=0 then(some [3,2]) else(some a0)):Option ((List Int))).bind fun x2=>
 some (3,[(1,[0,2]),(1,[1]),(2,[2]),(1,[0,1])],x2)
theorem iU(k:Nat)(a0:(List Int))(r:bh)(h:jQ k a0=some r):
 co Tryz.prog 78 [Ri a0] [] (fun _:Unit=>(bz [.rep aH r],[])):=by
 unfold jQ at h
 replace h:=be h
 refine co.of 18 Tryz.func78 rfl Tryz.ntmps78 rfl fun S w0=>?_
 refine sr ?_
 refine aB rfl rfl rfl (aS rfl jL lr) trivial fun b1=>?_
 refine nt ?_
 refine aW (Z:=Unit) (α:=(List Int)) (fun z3 x2=>[(0,Ri x2),(2,Pt b1)]) (fun z3 x2=>[.obj b1 25 (.agg (.pair (I 0) (.pair (.eq (.slice none 0 0)) (.eq (.slice none 0 0)))))]) h (fun K h=>?_) (fun z3 x2 h=>?_)
 ·
  refine sr (mq ?_);refine ol ip ?_;refine jb (fK rfl) ?_;refine nt (ci h (fun h=>?_) (fun h=>?_))
  ·refine aa (jb (bq (t:=(.int .i64)) [(.const (.int .i64 (3)),_),(.const (.int .i64 (2)),_)] [3,2] rfl rfl fq (.cons rfl .int (.cons rfl .int .nil)) rfl rfl) ?_);refine aq (nl ?_);exact jz ((),[3,2]) h [0]
  ·refine aV (ae ?_);exact jz ((),a0) h [0]
 ·
  refine sr (jb (bq (t:=(.int .i64)) [(.const (.int .i64 (0)),_),(.const (.int .i64 (2)),_)] [0,2] rfl rfl fq (.cons rfl .int (.cons rfl .int .nil)) rfl rfl) ?_);refine jb (cO [(0,.const (.int .i64 (1)),_),(1,.tmp 7,_)] rfl Du uV wG (io ⟨rfl,rfl,trivial⟩) rfl) ?_;refine ja (bq (t:=(.int .i64)) [(.const (.int .i64 (1)),_)] [1] rfl rfl fq (.cons rfl .int .nil) rfl rfl) ?_;refine jb (cO [(0,.const (.int .i64 (1)),_),(1,.tmp 9,_)] rfl Du uV wG (io ⟨rfl,rfl,trivial⟩) rfl) ?_;refine ja (bq (t:=(.int .i64)) [(.const (.int .i64 (2)),_)] [2] rfl rfl fq (.cons rfl .int .nil) rfl rfl) ?_;refine jb (cO [(0,.const (.int .i64 (2)),_),(1,.tmp 11,_)] rfl Du uV wG (io ⟨rfl,rfl,trivial⟩) rfl) ?_;refine jb (bq (t:=(.int .i64)) [(.const (.int .i64 (0)),_),(.const (.int .i64 (1)),_)] [0,1] rfl rfl fq (.cons rfl .int (.cons rfl .int .nil)) rfl rfl) ?_;refine jb (cO [(0,.const (.int .i64 (1)),_),(1,.tmp 13,_)] rfl Du uV wG (io ⟨rfl,rfl,trivial⟩) rfl) ?_;refine ay rfl (bq (t:=aJ) [(.tmp 8,_),(.tmp 10,_),(.tmp 12,_),(.tmp 14,_)] [(1,[0,2]),(1,[1]),(2,[2]),(1,[0,1])] rfl rfl E8 (.cons trivial (.agg (.pair .int .rep)) (.cons trivial (.agg (.pair .int .rep)) (.cons trivial (.agg (.pair .int .rep)) (.cons trivial (.agg (.pair .int .rep)) .nil)))) rfl rfl) ⟨rfl,rfl,rfl,rfl,trivial⟩ ?_;refine mq ?_;refine jc (cO [(0,.const (.int .i64 (3)),_),(1,.tmp 15,_),(2,.tmp 16,_)] rfl Ir jL Cm (io ⟨rfl,rfl,rfl,trivial⟩) rfl) ?_;refine aX rfl rfl (aP rfl fE trivial rfl rfl) ⟨rfl,rfl,trivial⟩ ?_;refine nt (aC (bN (pn (a:=.agg (.pair (I 3) (.pair (Rs aJ [(1,[0,2]),(1,[1]),(2,[2]),(1,[0,1])]) (Ri x2)))) (a':=.rep aH (3,[(1,[0,2]),(1,[1]),(2,[2]),(1,[0,1])],x2)) (xZ (.agg (.pair .int (.pair .rep .rep))))) ?_));cases h;exact aK () [.rep aH (3,[(1,[0,2]),(1,[1]),(2,[2]),(1,[0,1])],x2)] 0 ⟨⟨_,_,_,_,_,rfl,(.head _),fE,(vR),rfl⟩,trivial⟩ rfl
def wb(k:Nat):Option (List (List Int)):=
 some [[1,0,3],[2]]
theorem qZ(k:Nat)(r:(List (List Int)))(h:wb k=some r):
 co Tryz.prog 79 [] [] (fun _:Unit=>(bz [.rep (.slice (.slice (.int .i64))) r],[])):=by
 unfold wb at h
 replace h:=be h
 refine co.of 4 Tryz.func79 rfl Tryz.ntmps79 rfl fun S w0=>?_
 refine sr ?_
 refine cq ?_
 refine nt ?_
 refine sr ?_
 refine jc (bq (t:=(.int .i64)) [(.const (.int .i64 (1)),_),(.const (.int .i64 (0)),_),(.const (.int .i64 (3)),_)] [1,0,3] rfl rfl fq (.cons rfl .int (.cons rfl .int (.cons rfl .int .nil))) rfl rfl) ?_
 refine ja (bq (t:=(.int .i64)) [(.const (.int .i64 (2)),_)] [2] rfl rfl fq (.cons rfl .int .nil) rfl rfl) ?_
 refine jb (bq (t:=(.slice (.int .i64))) [(.tmp 1,_),(.tmp 2,_)] [[1,0,3],[2]] rfl rfl vc (.cons rfl .rep (.cons rfl .rep .nil)) rfl rfl) ?_
 refine aq ?_
 refine nt ?_
 refine aC ?_
 cases h
 exact ra
def GH(k:Nat):Option (List (List Int)):=
 some [[0,2],[3,1]]
theorem GG(k:Nat)(r:(List (List Int)))(h:GH k=some r):
 co Tryz.prog 80 [] [] (fun _:Unit=>(bz [.rep (.slice (.slice (.int .i64))) r],[])):=by
 unfold GH at h
 replace h:=be h
 refine co.of 4 Tryz.func80 rfl Tryz.ntmps80 rfl fun S w0=>?_
 refine sr ?_
 refine cq ?_
 refine nt ?_
 refine sr ?_
 refine jb (bq (t:=(.int .i64)) [(.const (.int .i64 (0)),_),(.const (.int .i64 (2)),_)] [0,2] rfl rfl fq (.cons rfl .int (.cons rfl .int .nil)) rfl rfl) ?_
 refine jb (bq (t:=(.int .i64)) [(.const (.int .i64 (3)),_),(.const (.int .i64 (1)),_)] [3,1] rfl rfl fq (.cons rfl .int (.cons rfl .int .nil)) rfl rfl) ?_
 refine jb (bq (t:=(.slice (.int .i64))) [(.tmp 1,_),(.tmp 2,_)] [[0,2],[3,1]] rfl rfl vc (.cons rfl .rep (.cons rfl .rep .nil)) rfl rfl) ?_
 refine aq ?_
 refine nt ?_
 refine aC ?_
 cases h
 exact ra
def lL(k:Nat)(a0:(List Int)):Option cd:=
 some (a0,0,1)
theorem uu(k:Nat)(a0:(List Int))(r:cd)(h:lL k a0=some r):
 co Tryz.prog 26 [Ri a0] [] (fun z:Nat=>(bz [Pt z],[.obj z 98 (.agg (.pair (Ri r.1) (.pair (I r.2.1) (.eq (.int .u64 r.2.2)))))])):=by
 unfold lL at h
 replace h:=be h
 refine co.of 6 Tryz.func26 rfl Tryz.ntmps26 rfl fun S w0=>?_
 refine sr ?_
 refine cq ?_
 refine nt ?_
 refine sr ?_
 refine mq ?_
 refine jb (cO [(0,.tmp 3,_),(2,.const (.int .u64 (1)),_)] rfl Qw Qn PP (io ⟨rfl,rfl,trivial⟩) rfl) ?_
 refine aB rfl rfl rfl (nq rfl trivial) ⟨rfl,trivial⟩ fun b1=>?_
 refine aq ?_
 refine nt ?_
 refine aC ?_
 cases h
 exact aK b1 [Pt b1] 1 ⟨rfl,trivial⟩ rfl
def ik(k:Nat)(a0:(List Int)):Option (List Int):=
 (eK (bR (List.length ([]:(List Int))+List.length a0))).bind fun _=>
 some (([]:(List Int))++a0)
theorem dS(k:Nat)(a0:(List Int))(r:(List Int))(h:ik k a0=some r):
 co Tryz.prog 55 [Ri a0] [] (fun z:Value=>(bz [.eq z],[.sl z 3 (.int .i64) r])):=by
 unfold ik at h
 replace h:=be h
 refine co.of 6 Tryz.func55 rfl Tryz.ntmps55 rfl fun S w0=>?_
 refine sr ?_
 refine cq ?_
 refine nt ?_
 refine sr ?_
 refine aB rfl rfl rfl (qd (t:=(.int .i64)) [] ([]:(List Int)) rfl rfl fq .nil rfl rfl) trivial fun v1=>?_
 refine mq ?_
 obtain⟨u2,c,h⟩:=ab h
 refine dG rfl rfl rfl (cC rfl rfl fq (aE c)) ⟨rfl,rfl,trivial⟩ fun v3=>?_
 refine aq ?_
 refine nt ?_
 refine aC ?_
 cases h
 exact aK v3 [.eq v3] 1 ⟨rfl,trivial⟩ rfl
def eY(k:Nat)(a0:bh):Nat→((List dF)×Int)→Option (List dF)
 |0,_=>none
 |n+1,y9=>
  if y9.2 < (a0.2.1.length:Int) then((bv a0.2.1 y9.2).bind fun c=>
  (bv a0.2.1 y9.2).bind fun j=>
  (ik k j.2).bind fun e=>
  (eK (bR (List.length y9.1+List.length [(c.1,e)]))).bind fun _=>
  (ck (y9.2+1)).bind fun h=>
  eY k a0 n (y9.1++[(c.1,e)],h)) else(some y9.1)
def d3(k:Nat)(a0:bh):Option bh:=
 (ik k a0.2.2).bind fun r3=>
 ((eY k a0 k (([]:(List dF)),0)):Option ((List dF))).bind fun x7=>
 some (a0.1,x7,r3)
theorem iL(k:Nat)(a0:bh)(r:bh)(h:d3 k a0=some r):
 co Tryz.prog 29 [.rep aH a0] [] (fun z:Value×Value=>(bz [.agg (.pair (I r.1) (.pair (.eq z.1) (.eq z.2)))],[.sl z.1 27 aJ r.2.1,.sl z.2 3 (.int .i64) r.2.2])):=by
 unfold d3 at h
 replace h:=be h
 refine co.of 38 Tryz.func29 rfl Tryz.ntmps29 rfl fun S w0=>?_
 refine sr ?_
 refine bx fun b1=>?_
 refine aB rfl rfl rfl (aS rfl jL lr) trivial fun b2=>?_
 refine nt ?_
 refine ah ?_
 obtain⟨r3,c,h⟩:=ab h
 refine fX (SE.fin (Γ':=[(1,Pt b1),(2,Pt b2)]) (Δ':=[.obj b2 25 (.agg (.pair (I 0) (.pair (.eq (.slice none 0 0)) (.eq (.slice none 0 0))))),.obj b1 25 (.rep aH a0)]) [0,1] ⟨rfl,rfl,trivial⟩ rfl) ?_
 refine zT (I:=Value×Nat) (Ge:=fun i=>[(1,Pt b1),(2,Pt b2),(3,.eq (.pointer (some ⟨i.2,0,none⟩)))]) (De:=fun i=>[.obj b1 25 (.rep aH a0),.obj b2 25 (.agg (.pair (I 0) (.pair (.eq (.slice none 0 0)) (.eq (.slice none 0 0))))),.sl i.1 3 (.int .i64) r3,.obj i.2 25 (.agg (.pair (I a0.1) (.pair (.eq (.slice none 0 0)) (.eq i.1))))]) (L:=[true,true,true,true,true,true,true,true]) fN rfl (fun J hJ hE=>?_) (by kernel_rfl) ?_
 ·
  have s127:∀(v4:Value) (b6:Nat),J 1 [true,true,true,true,true,true,true,false] [(1,Pt b1),(2,Pt b2),(3,Pt b6),(10,.agg (.pair (I a0.1) (.pair (.eq (.slice none 0 0)) (.eq v4))))] [.obj b1 25 (.rep aH a0),.obj b2 25 (.agg (.pair (I 0) (.pair (.eq (.slice none 0 0)) (.eq (.slice none 0 0))))),.sl v4 3 (.int .i64) r3,.obj b6 25 (.agg (.pair (I 0) (.pair (.eq (.slice none 0 0)) (.eq (.slice none 0 0)))))]:=fun v4 b6=>by
   subst hJ;refine JD.step [7] (by kernel_rfl) rfl ?_;refine cp.cons rfl ?_ ?_
   ·refine fr 3 ?_;refine aX rfl rfl (aP rfl fE trivial rfl rfl) ⟨rfl,rfl,trivial⟩ ?_;exact aA (hE ⟨v4,b6⟩) [1,2,3,0] ⟨rfl,rfl,rfl,trivial⟩
   exact trivial
  have s63:∀(v4:Value),J 2 [true,true,true,true,true,true,false,false] [(1,Pt b1),(2,Pt b2),(10,.agg (.pair (I a0.1) (.pair (.eq (.slice none 0 0)) (.eq v4))))] [.obj b1 25 (.rep aH a0),.obj b2 25 (.agg (.pair (I 0) (.pair (.eq (.slice none 0 0)) (.eq (.slice none 0 0))))),.sl v4 3 (.int .i64) r3]:=fun v4=>by
   subst hJ;refine JD.step [6] (by kernel_rfl) rfl ?_;refine cp.cons rfl ?_ ?_
   ·refine aB rfl rfl rfl (aS rfl jL lr) trivial fun b6=>?_;exact aA (s127 v4 b6) [1,2,3,0] ⟨rfl,rfl,rfl,rfl,trivial⟩
   exact trivial
  have s95:∀(v4:Value) (b6:Nat),J 2 [true,true,true,true,true,false,true,false] [(1,Pt b1),(2,Pt b2),(3,Pt b6),(6,I a0.1),(9,.eq v4)] [.obj b1 25 (.rep aH a0),.obj b2 25 (.agg (.pair (I 0) (.pair (.eq (.slice none 0 0)) (.eq (.slice none 0 0))))),.sl v4 3 (.int .i64) r3,.obj b6 25 (.agg (.pair (I 0) (.pair (.eq (.slice none 0 0)) (.eq (.slice none 0 0)))))]:=fun v4 b6=>by
   subst hJ;refine JD.step [5] (by kernel_rfl) rfl ?_;refine cp.cons rfl ?_ ?_
   ·refine fr 2 ?_;refine nb fun o5=>?_;refine jb (cO [(0,.tmp 6,_),(2,.tmp 9,_)] rfl Ir jL Cm (io ⟨rfl,o5,trivial⟩) rfl) ?_;exact aA (s127 v4 b6) [1,2,0,3] ⟨rfl,rfl,rfl,rfl,trivial⟩
   exact trivial
  have s31:∀(v4:Value),J 3 [true,true,true,true,true,false,false,false] [(1,Pt b1),(2,Pt b2),(6,I a0.1),(9,.eq v4)] [.obj b1 25 (.rep aH a0),.obj b2 25 (.agg (.pair (I 0) (.pair (.eq (.slice none 0 0)) (.eq (.slice none 0 0))))),.sl v4 3 (.int .i64) r3]:=fun v4=>by
   subst hJ;refine JD.step [5,6] (by kernel_rfl) rfl ?_;refine cp.cons rfl ?_ ?_
   ·refine fr 2 ?_;refine nb fun o5=>?_;refine jb (cO [(0,.tmp 6,_),(2,.tmp 9,_)] rfl Ir jL Cm (io ⟨rfl,o5,trivial⟩) rfl) ?_;exact aA (s63 v4) [1,2,0] ⟨rfl,rfl,rfl,trivial⟩
   refine cp.cons rfl ?_ ?_
   ·refine aB rfl rfl rfl (aS rfl jL lr) trivial fun b6=>?_;exact aA (s95 v4 b6) [1,2,3,0] ⟨rfl,rfl,rfl,rfl,rfl,trivial⟩
   exact trivial
  have s79:∀(b6:Nat),J 3 [true,true,true,true,false,false,true,false] [(1,Pt b1),(2,Pt b2),(3,Pt b6),(6,I a0.1),(8,Ri a0.2.2)] [.obj b1 25 (.rep aH a0),.obj b2 25 (.agg (.pair (I 0) (.pair (.eq (.slice none 0 0)) (.eq (.slice none 0 0))))),.obj b6 25 (.agg (.pair (I 0) (.pair (.eq (.slice none 0 0)) (.eq (.slice none 0 0)))))]:=fun b6=>by
   subst hJ;refine JD.step [4] (by kernel_rfl) rfl ?_;refine cp.cons rfl ?_ ?_
   ·refine aB rfl rfl rfl (an [.tmp 8] rfl rfl Bc rfl (dS k a0.2.2 r3 c)) ⟨rfl,trivial⟩ fun v4=>?_;exact aA (s95 v4 b6) [1,2,0,3] ⟨rfl,rfl,rfl,rfl,rfl,trivial⟩
   exact trivial
  have s93:∀(v4:Value) (b6:Nat),J 3 [true,false,true,true,true,false,true,false] [(1,Pt b1),(2,Pt b2),(3,Pt b6),(5,Pt b1),(9,.eq v4)] [.obj b1 25 (.rep aH a0),.obj b2 25 (.agg (.pair (I 0) (.pair (.eq (.slice none 0 0)) (.eq (.slice none 0 0))))),.sl v4 3 (.int .i64) r3,.obj b6 25 (.agg (.pair (I 0) (.pair (.eq (.slice none 0 0)) (.eq (.slice none 0 0)))))]:=fun v4 b6=>by
   subst hJ;refine JD.step [1] (by kernel_rfl) rfl ?_;refine cp.cons rfl ?_ ?_
   ·refine lo dJ ?_;exact aA (s95 v4 b6) [0,1,2,3] ⟨rfl,rfl,rfl,rfl,rfl,trivial⟩
   exact trivial
  have s15:J 4 [true,true,true,true,false,false,false,false] [(1,Pt b1),(2,Pt b2),(6,I a0.1),(8,Ri a0.2.2)] [.obj b1 25 (.rep aH a0),.obj b2 25 (.agg (.pair (I 0) (.pair (.eq (.slice none 0 0)) (.eq (.slice none 0 0)))))]:=by
   subst hJ;refine JD.step [4,6] (by kernel_rfl) rfl ?_;refine cp.cons rfl ?_ ?_
   ·refine aB rfl rfl rfl (an [.tmp 8] rfl rfl Bc rfl (dS k a0.2.2 r3 c)) ⟨rfl,trivial⟩ fun v4=>?_;exact aA (s31 v4) [1,2,0] ⟨rfl,rfl,rfl,rfl,trivial⟩
   refine cp.cons rfl ?_ ?_
   ·refine aB rfl rfl rfl (aS rfl jL lr) trivial fun b6=>?_;exact aA (s79 b6) [1,2,0] ⟨rfl,rfl,rfl,rfl,rfl,trivial⟩
   exact trivial
  have s71:∀(b6:Nat),J 4 [true,true,true,false,false,false,true,false] [(1,Pt b1),(2,Pt b2),(3,Pt b6),(6,I a0.1),(7,.eq (.pointer (some ⟨b1,2,none⟩)))] [.obj b1 25 (.rep aH a0),.obj b2 25 (.agg (.pair (I 0) (.pair (.eq (.slice none 0 0)) (.eq (.slice none 0 0))))),.obj b6 25 (.agg (.pair (I 0) (.pair (.eq (.slice none 0 0)) (.eq (.slice none 0 0)))))]:=fun b6=>by
   subst hJ;refine JD.step [3] (by kernel_rfl) rfl ?_;refine cp.cons rfl ?_ ?_
   ·refine lo de ?_;exact aA (s79 b6) [0,1,2] ⟨rfl,rfl,rfl,rfl,rfl,trivial⟩
   exact trivial
  have s29:∀(v4:Value),J 4 [true,false,true,true,true,false,false,false] [(1,Pt b1),(2,Pt b2),(5,Pt b1),(9,.eq v4)] [.obj b1 25 (.rep aH a0),.obj b2 25 (.agg (.pair (I 0) (.pair (.eq (.slice none 0 0)) (.eq (.slice none 0 0))))),.sl v4 3 (.int .i64) r3]:=fun v4=>by
   subst hJ;refine JD.step [1,6] (by kernel_rfl) rfl ?_;refine cp.cons rfl ?_ ?_
   ·refine lo dJ ?_;exact aA (s31 v4) [0,1,2] ⟨rfl,rfl,rfl,rfl,trivial⟩
   refine cp.cons rfl ?_ ?_
   ·refine aB rfl rfl rfl (aS rfl jL lr) trivial fun b6=>?_;exact aA (s93 v4 b6) [1,2,3,0] ⟨rfl,rfl,rfl,rfl,rfl,trivial⟩
   exact trivial
  have s77:∀(b6:Nat),J 4 [true,false,true,true,false,false,true,false] [(1,Pt b1),(2,Pt b2),(3,Pt b6),(5,Pt b1),(8,Ri a0.2.2)] [.obj b1 25 (.rep aH a0),.obj b2 25 (.agg (.pair (I 0) (.pair (.eq (.slice none 0 0)) (.eq (.slice none 0 0))))),.obj b6 25 (.agg (.pair (I 0) (.pair (.eq (.slice none 0 0)) (.eq (.slice none 0 0)))))]:=fun b6=>by
   subst hJ;refine JD.step [1,4] (by kernel_rfl) rfl ?_;refine cp.cons rfl ?_ ?_
   ·refine lo dJ ?_;exact aA (s79 b6) [0,1,2] ⟨rfl,rfl,rfl,rfl,rfl,trivial⟩
   refine cp.cons rfl ?_ ?_
   ·refine aB rfl rfl rfl (an [.tmp 8] rfl rfl Bc rfl (dS k a0.2.2 r3 c)) ⟨rfl,trivial⟩ fun v4=>?_;exact aA (s93 v4 b6) [1,2,0,3] ⟨rfl,rfl,rfl,rfl,rfl,trivial⟩
   exact trivial
  have s92:∀(v4:Value) (b6:Nat),J 4 [false,false,true,true,true,false,true,false] [(1,Pt b1),(2,Pt b2),(3,Pt b6),(9,.eq v4)] [.obj b1 25 (.rep aH a0),.obj b2 25 (.agg (.pair (I 0) (.pair (.eq (.slice none 0 0)) (.eq (.slice none 0 0))))),.sl v4 3 (.int .i64) r3,.obj b6 25 (.agg (.pair (I 0) (.pair (.eq (.slice none 0 0)) (.eq (.slice none 0 0)))))]:=fun v4 b6=>by
   subst hJ;refine JD.step [0] (by kernel_rfl) rfl ?_;refine cp.cons rfl ?_ ?_
   ·refine fl gy ?_;exact aA (s93 v4 b6) [0,1,2,3] ⟨rfl,rfl,rfl,rfl,rfl,trivial⟩
   exact trivial
  have s7:J 5 [true,true,true,false,false,false,false,false] [(1,Pt b1),(2,Pt b2),(6,I a0.1),(7,.eq (.pointer (some ⟨b1,2,none⟩)))] [.obj b1 25 (.rep aH a0),.obj b2 25 (.agg (.pair (I 0) (.pair (.eq (.slice none 0 0)) (.eq (.slice none 0 0)))))]:=by
   subst hJ;refine JD.step [3,6] (by kernel_rfl) rfl ?_;refine cp.cons rfl ?_ ?_
   ·refine lo de ?_;exact aA s15 [0,1] ⟨rfl,rfl,rfl,rfl,trivial⟩
   refine cp.cons rfl ?_ ?_
   ·refine aB rfl rfl rfl (aS rfl jL lr) trivial fun b6=>?_;exact aA (s71 b6) [1,2,0] ⟨rfl,rfl,rfl,rfl,rfl,trivial⟩
   exact trivial
  have s67:∀(b6:Nat),J 5 [true,true,false,false,false,false,true,false] [(1,Pt b1),(2,Pt b2),(3,Pt b6),(6,I a0.1)] [.obj b1 25 (.rep aH a0),.obj b2 25 (.agg (.pair (I 0) (.pair (.eq (.slice none 0 0)) (.eq (.slice none 0 0))))),.obj b6 25 (.agg (.pair (I 0) (.pair (.eq (.slice none 0 0)) (.eq (.slice none 0 0)))))]:=fun b6=>by
   subst hJ;refine JD.step [2] (by kernel_rfl) rfl ?_;refine cp.cons rfl ?_ ?_
   ·refine fl eI ?_;exact aA (s71 b6) [0,1,2] ⟨rfl,rfl,rfl,rfl,rfl,trivial⟩
   exact trivial
  have s13:J 5 [true,false,true,true,false,false,false,false] [(1,Pt b1),(2,Pt b2),(5,Pt b1),(8,Ri a0.2.2)] [.obj b1 25 (.rep aH a0),.obj b2 25 (.agg (.pair (I 0) (.pair (.eq (.slice none 0 0)) (.eq (.slice none 0 0)))))]:=by
   subst hJ;refine JD.step [1,4,6] (by kernel_rfl) rfl ?_;refine cp.cons rfl ?_ ?_
   ·refine lo dJ ?_;exact aA s15 [0,1] ⟨rfl,rfl,rfl,rfl,trivial⟩
   refine cp.cons rfl ?_ ?_
   ·refine aB rfl rfl rfl (an [.tmp 8] rfl rfl Bc rfl (dS k a0.2.2 r3 c)) ⟨rfl,trivial⟩ fun v4=>?_;exact aA (s29 v4) [1,2,0] ⟨rfl,rfl,rfl,rfl,trivial⟩
   refine cp.cons rfl ?_ ?_
   ·refine aB rfl rfl rfl (aS rfl jL lr) trivial fun b6=>?_;exact aA (s77 b6) [1,2,0] ⟨rfl,rfl,rfl,rfl,rfl,trivial⟩
   exact trivial
  have s69:∀(b6:Nat),J 5 [true,false,true,false,false,false,true,false] [(1,Pt b1),(2,Pt b2),(3,Pt b6),(5,Pt b1),(7,.eq (.pointer (some ⟨b1,2,none⟩)))] [.obj b1 25 (.rep aH a0),.obj b2 25 (.agg (.pair (I 0) (.pair (.eq (.slice none 0 0)) (.eq (.slice none 0 0))))),.obj b6 25 (.agg (.pair (I 0) (.pair (.eq (.slice none 0 0)) (.eq (.slice none 0 0)))))]:=fun b6=>by
   subst hJ;refine JD.step [1,3] (by kernel_rfl) rfl ?_;refine cp.cons rfl ?_ ?_
   ·refine lo dJ ?_;exact aA (s71 b6) [0,1,2] ⟨rfl,rfl,rfl,rfl,rfl,trivial⟩
   refine cp.cons rfl ?_ ?_
   ·refine lo de ?_;exact aA (s77 b6) [0,1,2] ⟨rfl,rfl,rfl,rfl,rfl,trivial⟩
   exact trivial
  have s28:∀(v4:Value),J 5 [false,false,true,true,true,false,false,false] [(1,Pt b1),(2,Pt b2),(9,.eq v4)] [.obj b1 25 (.rep aH a0),.obj b2 25 (.agg (.pair (I 0) (.pair (.eq (.slice none 0 0)) (.eq (.slice none 0 0))))),.sl v4 3 (.int .i64) r3]:=fun v4=>by
   subst hJ;refine JD.step [0,6] (by kernel_rfl) rfl ?_;refine cp.cons rfl ?_ ?_
   ·refine fl gy ?_;exact aA (s29 v4) [0,1,2] ⟨rfl,rfl,rfl,rfl,trivial⟩
   refine cp.cons rfl ?_ ?_
   ·refine aB rfl rfl rfl (aS rfl jL lr) trivial fun b6=>?_;exact aA (s92 v4 b6) [1,2,3,0] ⟨rfl,rfl,rfl,rfl,trivial⟩
   exact trivial
  have s76:∀(b6:Nat),J 5 [false,false,true,true,false,false,true,false] [(1,Pt b1),(2,Pt b2),(3,Pt b6),(8,Ri a0.2.2)] [.obj b1 25 (.rep aH a0),.obj b2 25 (.agg (.pair (I 0) (.pair (.eq (.slice none 0 0)) (.eq (.slice none 0 0))))),.obj b6 25 (.agg (.pair (I 0) (.pair (.eq (.slice none 0 0)) (.eq (.slice none 0 0)))))]:=fun b6=>by
   subst hJ;refine JD.step [0,4] (by kernel_rfl) rfl ?_;refine cp.cons rfl ?_ ?_
   ·refine fl gy ?_;exact aA (s77 b6) [0,1,2] ⟨rfl,rfl,rfl,rfl,rfl,trivial⟩
   refine cp.cons rfl ?_ ?_
   ·refine aB rfl rfl rfl (an [.tmp 8] rfl rfl Bc rfl (dS k a0.2.2 r3 c)) ⟨rfl,trivial⟩ fun v4=>?_;exact aA (s92 v4 b6) [1,2,0,3] ⟨rfl,rfl,rfl,rfl,trivial⟩
   exact trivial
  have s3:J 6 [true,true,false,false,false,false,false,false] [(1,Pt b1),(2,Pt b2),(6,I a0.1)] [.obj b1 25 (.rep aH a0),.obj b2 25 (.agg (.pair (I 0) (.pair (.eq (.slice none 0 0)) (.eq (.slice none 0 0)))))]:=by
   subst hJ;refine JD.step [2,6] (by kernel_rfl) rfl ?_;refine cp.cons rfl ?_ ?_
   ·refine fl eI ?_;exact aA s7 [0,1] ⟨rfl,rfl,rfl,rfl,trivial⟩
   refine cp.cons rfl ?_ ?_
   ·refine aB rfl rfl rfl (aS rfl jL lr) trivial fun b6=>?_;exact aA (s67 b6) [1,2,0] ⟨rfl,rfl,rfl,rfl,trivial⟩
   exact trivial
  have s5:J 6 [true,false,true,false,false,false,false,false] [(1,Pt b1),(2,Pt b2),(5,Pt b1),(7,.eq (.pointer (some ⟨b1,2,none⟩)))] [.obj b1 25 (.rep aH a0),.obj b2 25 (.agg (.pair (I 0) (.pair (.eq (.slice none 0 0)) (.eq (.slice none 0 0)))))]:=by
   subst hJ;refine JD.step [1,3,6] (by kernel_rfl) rfl ?_;refine cp.cons rfl ?_ ?_
   ·refine lo dJ ?_;exact aA s7 [0,1] ⟨rfl,rfl,rfl,rfl,trivial⟩
   refine cp.cons rfl ?_ ?_
   ·refine lo de ?_;exact aA s13 [0,1] ⟨rfl,rfl,rfl,rfl,trivial⟩
   refine cp.cons rfl ?_ ?_
   ·refine aB rfl rfl rfl (aS rfl jL lr) trivial fun b6=>?_;exact aA (s69 b6) [1,2,0] ⟨rfl,rfl,rfl,rfl,rfl,trivial⟩
   exact trivial
  have s65:∀(b6:Nat),J 6 [true,false,false,false,false,false,true,false] [(1,Pt b1),(2,Pt b2),(3,Pt b6),(5,Pt b1)] [.obj b1 25 (.rep aH a0),.obj b2 25 (.agg (.pair (I 0) (.pair (.eq (.slice none 0 0)) (.eq (.slice none 0 0))))),.obj b6 25 (.agg (.pair (I 0) (.pair (.eq (.slice none 0 0)) (.eq (.slice none 0 0)))))]:=fun b6=>by
   subst hJ;refine JD.step [1,2] (by kernel_rfl) rfl ?_;refine cp.cons rfl ?_ ?_
   ·refine lo dJ ?_;exact aA (s67 b6) [0,1,2] ⟨rfl,rfl,rfl,rfl,trivial⟩
   refine cp.cons rfl ?_ ?_
   ·refine fl eI ?_;exact aA (s69 b6) [0,1,2] ⟨rfl,rfl,rfl,rfl,rfl,trivial⟩
   exact trivial
  have s12:J 6 [false,false,true,true,false,false,false,false] [(1,Pt b1),(2,Pt b2),(8,Ri a0.2.2)] [.obj b1 25 (.rep aH a0),.obj b2 25 (.agg (.pair (I 0) (.pair (.eq (.slice none 0 0)) (.eq (.slice none 0 0)))))]:=by
   subst hJ;refine JD.step [0,4,6] (by kernel_rfl) rfl ?_;refine cp.cons rfl ?_ ?_
   ·refine fl gy ?_;exact aA s13 [0,1] ⟨rfl,rfl,rfl,rfl,trivial⟩
   refine cp.cons rfl ?_ ?_
   ·refine aB rfl rfl rfl (an [.tmp 8] rfl rfl Bc rfl (dS k a0.2.2 r3 c)) ⟨rfl,trivial⟩ fun v4=>?_;exact aA (s28 v4) [1,2,0] ⟨rfl,rfl,rfl,trivial⟩
   refine cp.cons rfl ?_ ?_
   ·refine aB rfl rfl rfl (aS rfl jL lr) trivial fun b6=>?_;exact aA (s76 b6) [1,2,0] ⟨rfl,rfl,rfl,rfl,trivial⟩
   exact trivial
  have s68:∀(b6:Nat),J 6 [false,false,true,false,false,false,true,false] [(1,Pt b1),(2,Pt b2),(3,Pt b6),(7,.eq (.pointer (some ⟨b1,2,none⟩)))] [.obj b1 25 (.rep aH a0),.obj b2 25 (.agg (.pair (I 0) (.pair (.eq (.slice none 0 0)) (.eq (.slice none 0 0))))),.obj b6 25 (.agg (.pair (I 0) (.pair (.eq (.slice none 0 0)) (.eq (.slice none 0 0)))))]:=fun b6=>by
   subst hJ;refine JD.step [0,3] (by kernel_rfl) rfl ?_;refine cp.cons rfl ?_ ?_
   ·refine fl gy ?_;exact aA (s69 b6) [0,1,2] ⟨rfl,rfl,rfl,rfl,rfl,trivial⟩
   refine cp.cons rfl ?_ ?_
   ·refine lo de ?_;exact aA (s76 b6) [0,1,2] ⟨rfl,rfl,rfl,rfl,trivial⟩
   exact trivial
  have s1:J 7 [true,false,false,false,false,false,false,false] [(1,Pt b1),(2,Pt b2),(5,Pt b1)] [.obj b1 25 (.rep aH a0),.obj b2 25 (.agg (.pair (I 0) (.pair (.eq (.slice none 0 0)) (.eq (.slice none 0 0)))))]:=by
   subst hJ;refine JD.step [1,2,6] (by kernel_rfl) rfl ?_;refine cp.cons rfl ?_ ?_
   ·refine lo dJ ?_;exact aA s3 [0,1] ⟨rfl,rfl,rfl,trivial⟩
   refine cp.cons rfl ?_ ?_
   ·refine fl eI ?_;exact aA s5 [0,1] ⟨rfl,rfl,rfl,rfl,trivial⟩
   refine cp.cons rfl ?_ ?_
   ·refine aB rfl rfl rfl (aS rfl jL lr) trivial fun b6=>?_;exact aA (s65 b6) [1,2,0] ⟨rfl,rfl,rfl,rfl,trivial⟩
   exact trivial
  have s4:J 7 [false,false,true,false,false,false,false,false] [(1,Pt b1),(2,Pt b2),(7,.eq (.pointer (some ⟨b1,2,none⟩)))] [.obj b1 25 (.rep aH a0),.obj b2 25 (.agg (.pair (I 0) (.pair (.eq (.slice none 0 0)) (.eq (.slice none 0 0)))))]:=by
   subst hJ;refine JD.step [0,3,6] (by kernel_rfl) rfl ?_;refine cp.cons rfl ?_ ?_
   ·refine fl gy ?_;exact aA s5 [0,1] ⟨rfl,rfl,rfl,rfl,trivial⟩
   refine cp.cons rfl ?_ ?_
   ·refine lo de ?_;exact aA s12 [0,1] ⟨rfl,rfl,rfl,trivial⟩
   refine cp.cons rfl ?_ ?_
   ·refine aB rfl rfl rfl (aS rfl jL lr) trivial fun b6=>?_;exact aA (s68 b6) [1,2,0] ⟨rfl,rfl,rfl,rfl,trivial⟩
   exact trivial
  have s64:∀(b6:Nat),J 7 [false,false,false,false,false,false,true,false] [(1,Pt b1),(2,Pt b2),(3,Pt b6)] [.obj b1 25 (.rep aH a0),.obj b2 25 (.agg (.pair (I 0) (.pair (.eq (.slice none 0 0)) (.eq (.slice none 0 0))))),.obj b6 25 (.agg (.pair (I 0) (.pair (.eq (.slice none 0 0)) (.eq (.slice none 0 0)))))]:=fun b6=>by
   subst hJ;refine JD.step [0,2] (by kernel_rfl) rfl ?_;refine cp.cons rfl ?_ ?_
   ·refine fl gy ?_;exact aA (s65 b6) [0,1,2] ⟨rfl,rfl,rfl,rfl,trivial⟩
   refine cp.cons rfl ?_ ?_
   ·refine fl eI ?_;exact aA (s68 b6) [0,1,2] ⟨rfl,rfl,rfl,rfl,trivial⟩
   exact trivial
  have s0:J 8 [false,false,false,false,false,false,false,false] [(1,Pt b1),(2,Pt b2)] [.obj b2 25 (.agg (.pair (I 0) (.pair (.eq (.slice none 0 0)) (.eq (.slice none 0 0))))),.obj b1 25 (.rep aH a0)]:=by
   subst hJ;refine JD.step [0,2,6] (by kernel_rfl) rfl ?_;refine cp.cons rfl ?_ ?_
   ·refine fl gy ?_;exact aA s1 [1,0] ⟨rfl,rfl,rfl,trivial⟩
   refine cp.cons rfl ?_ ?_
   ·refine fl eI ?_;exact aA s4 [1,0] ⟨rfl,rfl,rfl,trivial⟩
   refine cp.cons rfl ?_ ?_
   ·refine aB rfl rfl rfl (aS rfl jL lr) trivial fun b6=>?_;exact aA (s64 b6) [2,1,0] ⟨rfl,rfl,rfl,trivial⟩
   exact trivial
  exact s0
 rintro⟨v4,b6⟩
 show JN _ _ [(1,Pt b1),(2,Pt b2),(3,Pt b6)] [.obj b1 25 (.rep aH a0),.obj b2 25 (.agg (.pair (I 0) (.pair (.eq (.slice none 0 0)) (.eq (.slice none 0 0))))),.sl v4 3 (.int .i64) r3,.obj b6 25 (.agg (.pair (I a0.1) (.pair (.eq (.slice none 0 0)) (.eq v4))))]
 refine tn ?_
 refine aW (Z:=Value) (α:=(List dF)) (fun z8 x7=>[(2,Pt b2),(3,Pt b6)]) (fun z8 x7=>[.obj b2 25 (.agg (.pair (I 0) (.pair (.eq (.slice none 0 0)) (.eq (.slice none 0 0))))),.obj b6 25 (.agg (.pair (I a0.1) (.pair (.eq z8) (.eq v4)))),.sl z8 27 aJ x7,.sl v4 3 (.int .i64) r3]) h (fun K h=>?_) (fun z8 x7 h=>?_)
 ·
  refine sr (cq (nt (ao ?_)));refine fX (SE.nil 27 aJ) ?_;refine aR (fun e y9=>[(1,Pt b1),(2,Pt b2),(3,Pt b6),(4,I y9.2)]) (fun e y9=>[.obj b1 25 (.rep aH a0),.obj b2 25 (.agg (.pair (I 0) (.pair (.eq (.slice none 0 0)) (.eq (.slice none 0 0))))),.obj b6 25 (.agg (.pair (I a0.1) (.pair (.eq e) (.eq v4)))),.sl e 27 aJ y9.1,.sl v4 3 (.int .i64) r3]) (eY k a0) k (.slice none 0 0) (([]:(List dF)),0) (fun _=>rfl) h (SE.fin [1,2,4,0,3] ⟨rfl,rfl,rfl,rfl,trivial⟩ rfl) (fun n e y9 h=>?_);unfold eY at h;refine ah (sr (mq ?_));refine fl du ?_;refine lo jt ?_;refine ol ta ?_;refine jb (bJ rfl) ?_;refine nt (ci h (fun h=>?_) (fun h=>?_))
  ·refine sk (ah (ao (cm ?_)));refine da (av rfl du) ?_;refine ea 2 (aj rfl jt lq rfl) ?_;refine da (av rfl du) ?_;refine ea 0 (aj rfl jt lq rfl) ?_;refine dm ?_;obtain⟨l,x,h⟩:=ab h;refine db (a8 (t:=aJ) rfl ta ko x) ?_;refine da (aI 1 false rfl uD rfl) ?_;refine da (ar (t:=(.int .i64)) rfl dJ rfl) ?_;refine da (av rfl du) ?_;refine ea 0 (aj rfl jt lq rfl) ?_;refine dm ?_;obtain⟨F,u,h⟩:=ab h;refine db (a8 (t:=aJ) rfl ta ko u) ?_;refine da (aI 1 false rfl lW rfl) ?_;refine da (ar (t:=(.slice (.int .i64))) rfl de rfl) ?_;obtain⟨j,D,h⟩:=ab h;refine da (JZ (an [.tmp 31] rfl rfl Bc rfl (dS k F.2 j D))) ?_;refine db (cO [(0,.tmp 25,_),(1,.tmp 32,_)] rfl Du uV wG (io ⟨rfl,rfl,trivial⟩) rfl) ?_;refine da (bq (t:=aJ) [(.tmp 33,_)] [(l.1,j)] rfl rfl E8 (.cons trivial (.agg (.pair .int .rep)) .nil) rfl rfl) ?_;refine df fN ?_;obtain⟨O,y,h⟩:=ab h;refine fr 3 ?_;refine dG rfl rfl rfl (cC rfl rfl E8 (aE y)) ⟨rfl,rfl,trivial⟩ fun M=>?_;refine fl du ?_;refine nb fun o16=>?_;refine fr 3 ?_;refine aX rfl rfl (aP rfl jt o16 rfl rfl) ⟨rfl,rfl,trivial⟩ ?_;refine ak (aO (tn (aa (mq ?_))));obtain⟨E,s,h⟩:=ab h;refine jb (bD rfl s) ?_;refine aq (nl ?_);exact jz (M,(y9.1++[(l.1,j)],E)) h [2,3,0,1,4]
  ·refine xa ?_;exact jz (e,y9.1) h [1,2,3,4]
 ·
  refine sr (fr 1 ?_);refine lo fE ?_;refine fr 1 ?_;refine aX rfl rfl (aP rfl fE trivial rfl rfl) ⟨rfl,rfl,trivial⟩ ?_;refine nt (aC (bN (SE.fin (Γ':=[(2,_)]) [2,3,0,1] ⟨rfl,trivial⟩ rfl) ?_));cases h;exact aK (z8,v4) [.agg (.pair (I a0.1) (.pair (.eq z8) (.eq v4)))] 2 ⟨⟨_,_,_,_,_,rfl,(.tail _ (.tail _ (.head _))),fE,(vR),rfl⟩,trivial⟩ rfl
def iz(k:Nat)(a0:cd):Option (Int×cd):=
 ((if a0.2.1 < (a0.1.length:Int) then((bv a0.1 a0.2.1).bind fun x3=>
 some (IntKind.u64.wrap ((IntKind.u64.wrap ((IntKind.u64.wrap (a0.2.2 * 6364136223846793005))+1442695040888963407))+(IntKind.u64.wrap ((IntKind.u64.wrap x3) * 2862933555777941757))))) else(some (IntKind.u64.wrap ((IntKind.u64.wrap (a0.2.2 * 6364136223846793005))+1442695040888963407)))):Option (Int)).bind fun x1=>
 (ck (a0.2.1+1)).bind fun x4=>
 some (gR .u64 (qm .u64 (IntKind.u64.wrap ((qm .u64 x1 (gR .u64 x1 29)) * 2685821657736338717)) (gR .u64 (IntKind.u64.wrap ((qm .u64 x1 (gR .u64 x1 29)) * 2685821657736338717)) 32)) 8,(a0.1,x4,x1))
theorem su(k:Nat)(a0:cd)(c:Nat)(r:Int×cd)(h:iz k a0=some r):
 co Tryz.prog 82 [Pt c] [.obj c 98 (.agg (.pair (Ri a0.1) (.pair (I a0.2.1) (.eq (.int .u64 a0.2.2)))))] (fun _:Unit=>(bz [.eq (.int .u64 r.1)],[.obj c 98 (.agg (.pair (Ri r.2.1) (.pair (I r.2.2.1) (.eq (.int .u64 r.2.2.2)))))])):=by
 unfold iz at h
 replace h:=be h
 refine co.of 67 Tryz.func82 rfl Tryz.ntmps82 rfl fun S w0=>?_
 refine sr ?_
 refine cq ?_
 refine nt ?_
 refine sr ?_
 iterate 2 refine mq ?_
 refine ja (aQ rfl) ?_
 refine fl sx ?_
 refine lo Db ?_
 refine jb (AG rfl) ?_
 refine jb (AK rfl) ?_
 refine ja (aQ rfl) ?_
 refine fl sx ?_
 refine aX rfl rfl (aP rfl Db rfl rfl rfl) ⟨rfl,rfl,trivial⟩ ?_
 refine nt ?_
 refine aW (Z:=Unit) (α:=Int) (fun z2 x1=>[(0,Pt c)]) (fun z2 x1=>[.obj c 98 (.agg (.pair (Ri a0.1) (.pair (I a0.2.1) (.eq (.int .u64 x1)))))]) h (fun K h=>?_) (fun z2 x1 h=>?_)
 ·
  refine ah (cm ?_);refine dm ?_;refine da (aQ rfl) ?_;refine da (av rfl xB) ?_;refine ea 0 (aj rfl dJ lq rfl) ?_;refine dm ?_;refine da (aQ rfl) ?_;refine da (av rfl G5) ?_;refine ea 0 (aj rfl de lq rfl) ?_;refine da (mt rfl rfl ip) ?_;refine df fN ?_;refine jb (bJ rfl) ?_;refine nt (ci h (fun h=>?_) (fun h=>?_))
  ·refine cm ?_;refine dm ?_;refine dm ?_;refine da (aQ rfl) ?_;refine da (av rfl sx) ?_;refine ea 0 (aj rfl Db lq rfl) ?_;refine dm ?_;refine da (aQ rfl) ?_;refine da (av rfl G5) ?_;refine ea 0 (aj rfl de lq rfl) ?_;refine dm ?_;refine da (aQ rfl) ?_;refine da (av rfl xB) ?_;refine ea 0 (aj rfl dJ lq rfl) ?_;obtain⟨x3,j,h⟩:=ab h;refine db (a8 (t:=(.int .i64)) rfl ip dJ j) ?_;refine da (ar (t:=(.int .i64)) rfl dJ rfl) ?_;refine da (nQ rfl U3 Qi) ?_;refine db (AG rfl) ?_;refine db (AK rfl) ?_;refine df fN ?_;refine ja (aQ rfl) ?_;refine fl sx ?_;refine aX rfl rfl (aP rfl Db rfl rfl rfl) ⟨rfl,rfl,trivial⟩ ?_;refine nl ?_;exact jz ((),IntKind.u64.wrap ((IntKind.u64.wrap ((IntKind.u64.wrap (a0.2.2 * 6364136223846793005))+1442695040888963407))+(IntKind.u64.wrap ((IntKind.u64.wrap x3) * 2862933555777941757)))) h [0]
  ·refine aV (ae ?_);exact jz ((),IntKind.u64.wrap ((IntKind.u64.wrap (a0.2.2 * 6364136223846793005))+1442695040888963407)) h [0]
 ·
  refine sr (mq ?_);refine ja (aQ rfl) ?_;refine fl xB ?_;refine lo dJ ?_;obtain⟨x4,e,h⟩:=ab h;refine jb (bD rfl e) ?_;refine ja (aQ rfl) ?_;refine fl xB ?_;refine aX rfl rfl (aP rfl dJ rfl rfl rfl) ⟨rfl,rfl,trivial⟩ ?_;refine nt (ah (cm ?_));refine dm ?_;refine da (aQ rfl) ?_;refine da (av rfl sx) ?_;refine ea 0 (aj rfl Db lq rfl) ?_;refine dm ?_;refine da (aQ rfl) ?_;refine da (av rfl sx) ?_;refine ea 0 (aj rfl Db lq rfl) ?_;refine dh rfl rfl rfl (ug rfl (by decide)) ⟨rfl,rfl,trivial⟩ ?_;refine df fN ?_;refine jb (Ky rfl) ?_;refine aq (nt (sr ?_));refine mq ?_;refine jb (AG rfl) ?_;refine aq (nt (sr ?_));iterate 2 refine mq ?_
  refine ay rfl (ug rfl (by decide)) ⟨rfl,rfl,trivial⟩ ?_;refine jb (Ky rfl) ?_;refine ay rfl (ug rfl (by decide)) ⟨rfl,rfl,trivial⟩ ?_;refine aq (nt (aC ?_));cases h;exact aK () [_] 1 ⟨rfl,trivial⟩ rfl
def bW(k:Nat)(a0:cd)(a1:Int):Option (Int×cd):=
 if a1 < 1 then(some (0,(a0.1,a0.2.1,a0.2.2))) else((iz k (a0.1,a0.2.1,a0.2.2)).bind fun r1=>
 (ck (a1+1)).bind fun x2=>
 (eK ((IntKind.u64.wrap x2)≠0)).bind fun _=>
 (ck (Int.tmod r1.1 (IntKind.u64.wrap x2))).bind fun x4=>
 some (x4,(r1.2.1,r1.2.2.1,r1.2.2.2)))
theorem eD(k:Nat)(a0:cd)(c:Nat)(a1:Int)(r:Int×cd)(h:bW k a0 a1=some r):
 co Tryz.prog 28 [Pt c,I a1] [.obj c 98 (.agg (.pair (Ri a0.1) (.pair (I a0.2.1) (.eq (.int .u64 a0.2.2)))))] (fun _:Unit=>(bz [I r.1],[.obj c 98 (.agg (.pair (Ri r.2.1) (.pair (I r.2.2.1) (.eq (.int .u64 r.2.2.2)))))])):=by
 unfold bW at h
 replace h:=be h
 refine co.of 14 Tryz.func28 rfl Tryz.ntmps28 rfl fun S w0=>?_
 refine sr ?_
 refine cq ?_
 refine nt ?_
 refine ah ?_
 refine sr ?_
 refine mq ?_
 refine jb (bJ rfl) ?_
 refine nt ?_
 refine ci h (fun h=>?_) (fun h=>?_)
 ·
  refine sr (cq (nt (rx ?_)));cases h;exact aK () [_] 1 ⟨rfl,trivial⟩ rfl
 ·
  refine sk (sr (mq ?_));obtain⟨r1,n,h⟩:=ab h;refine ka (an [.tmp 7] rfl rfl QU rfl (su k (a0.1,a0.2.1,a0.2.2) c r1 n)) ?_;refine mq ?_;obtain⟨x2,j,h⟩:=ab h;refine jb (bD rfl j) ?_;refine ja (nQ rfl U3 Qi) ?_;obtain⟨u3,l,h⟩:=ab h;refine jb (NU rfl (aE l)) ?_;obtain⟨x4,e,h⟩:=ab h;refine ja (yP rfl Qi U3 e) ?_;refine aq (nt (aC ?_));cases h;exact aK () [_] 1 ⟨rfl,trivial⟩ rfl
def di(k:Nat)(a0:cd)(a1:Int)(a2:Int):Option (Int×cd):=
 (ck (a2 - a1)).bind fun x1=>
 (bW k (a0.1,a0.2.1,a0.2.2) x1).bind fun r2=>
 (ck (a1+r2.1)).bind fun x3=>
 some (x3,(r2.2.1,r2.2.2.1,r2.2.2.2))
theorem jl(k:Nat)(a0:cd)(c:Nat)(a1:Int)(a2:Int)(r:Int×cd)(h:di k a0 a1 a2=some r):
 co Tryz.prog 51 [Pt c,I a1,I a2] [.obj c 98 (.agg (.pair (Ri a0.1) (.pair (I a0.2.1) (.eq (.int .u64 a0.2.2)))))] (fun _:Unit=>(bz [I r.1],[.obj c 98 (.agg (.pair (Ri r.2.1) (.pair (I r.2.2.1) (.eq (.int .u64 r.2.2.2)))))])):=by
 unfold di at h
 replace h:=be h
 refine co.of 14 Tryz.func51 rfl Tryz.ntmps51 rfl fun S w0=>?_
 refine sr ?_
 refine cq ?_
 refine nt ?_
 refine sr ?_
 iterate 4 refine mq ?_
 obtain⟨x1,j,h⟩:=ab h
 refine jb (fH rfl j) ?_
 obtain⟨r2,l,h⟩:=ab h
 have n:=eD k (a0.1,a0.2.1,a0.2.2) c x1 r2 l
 refine kb (an [.tmp 8,.tmp 11] rfl rfl Eb rfl n) ?_
 obtain⟨x3,e,h⟩:=ab h
 refine jb (bD rfl e) ?_
 refine aq ?_
 refine nt ?_
 refine aC ?_
 cases h
 exact aK () [_] 1 ⟨rfl,trivial⟩ rfl
def iV(k:Nat)(a0:cd)(a1:(List Int)):Option (Int×cd):=
 (ck ((a1.length:Int) - 1)).bind fun x1=>
 (bW k (a0.1,a0.2.1,a0.2.2) x1).bind fun r2=>
 (bv a1 r2.1).bind fun x3=>
 some (x3,(r2.2.1,r2.2.2.1,r2.2.2.2))
theorem oa(k:Nat)(a0:cd)(c:Nat)(a1:(List Int))(r:Int×cd)(h:iV k a0 a1=some r):
 co Tryz.prog 112 [Pt c,Ri a1] [.obj c 98 (.agg (.pair (Ri a0.1) (.pair (I a0.2.1) (.eq (.int .u64 a0.2.2)))))] (fun _:Unit=>(bz [I r.1],[.obj c 98 (.agg (.pair (Ri r.2.1) (.pair (I r.2.2.1) (.eq (.int .u64 r.2.2.2)))))])):=by
 unfold iV at h
 replace h:=be h
 refine co.of 13 Tryz.func112 rfl Tryz.ntmps112 rfl fun S w0=>?_
 refine sr ?_
 refine cq ?_
 refine nt ?_
 refine sr ?_
 iterate 3 refine mq ?_
 refine ol ip ?_
 obtain⟨x1,j,h⟩:=ab h
 refine jb (fH rfl j) ?_
 obtain⟨r2,l,h⟩:=ab h
 have n:=eD k (a0.1,a0.2.1,a0.2.2) c x1 r2 l
 refine kb (an [.tmp 6,.tmp 9] rfl rfl Eb rfl n) ?_
 obtain⟨x3,e,h⟩:=ab h
 refine jb (a8 (t:=(.int .i64)) rfl ip dJ e) ?_
 refine ja (ar (t:=(.int .i64)) rfl dJ rfl) ?_
 refine aq ?_
 refine nt ?_
 refine aC ?_
 cases h
 exact aK () [_] 1 ⟨rfl,trivial⟩ rfl
def fu(k:Nat)(a0:cd)(a1:Int):Option (Bool×cd):=
 (ck (a1 - 1)).bind fun x1=>
 (bW k (a0.1,a0.2.1,a0.2.2) x1).bind fun r2=>
 some (decide (r2.1=0),(r2.2.1,r2.2.2.1,r2.2.2.2))
theorem mD(k:Nat)(a0:cd)(c:Nat)(a1:Int)(r:Bool×cd)(h:fu k a0 a1=some r):
 co Tryz.prog 113 [Pt c,I a1] [.obj c 98 (.agg (.pair (Ri a0.1) (.pair (I a0.2.1) (.eq (.int .u64 a0.2.2)))))] (fun _:Unit=>(bz [.eq (.bool r.1)],[.obj c 98 (.agg (.pair (Ri r.2.1) (.pair (I r.2.2.1) (.eq (.int .u64 r.2.2.2)))))])):=by
 unfold fu at h
 replace h:=be h
 refine co.of 10 Tryz.func113 rfl Tryz.ntmps113 rfl fun S w0=>?_
 refine sr ?_
 refine cq ?_
 refine nt ?_
 refine sr ?_
 iterate 2 refine mq ?_
 obtain⟨x1,e,h⟩:=ab h
 refine jb (fH rfl e) ?_
 obtain⟨r2,j,h⟩:=ab h
 have l:=eD k (a0.1,a0.2.1,a0.2.2) c x1 r2 j
 refine kb (an [.tmp 5,.tmp 7] rfl rfl Eb rfl l) ?_
 refine jb (fK rfl) ?_
 refine aq ?_
 refine nt ?_
 refine aC ?_
 cases h
 exact aK () [_] 1 ⟨rfl,trivial⟩ rfl
def eu(k:Nat)(r2:Int×cd):Nat→((List Int)×Int×Int×(List Int)×Int)→Option ((List Int)×Int×Int×(List Int))
 |0,_=>none
 |n+1,c=>
  if c.2.2.2.2 < r2.1 then((((fu k (c.1,c.2.1,c.2.2.1) 2).bind fun e=>
  if e.1=true then((eK (bR (List.length c.2.2.2.1+List.length [c.2.2.2.2]))).bind fun _=>
  some (e.2.1,e.2.2.1,e.2.2.2,c.2.2.2.1++[c.2.2.2.2])) else(some (e.2.1,e.2.2.1,e.2.2.2,c.2.2.2.1))):Option ((List Int)×Int×Int×(List Int))).bind fun h=>
  (ck (c.2.2.2.2+1)).bind fun j=>
  eu k r2 n (h.1,h.2.1,h.2.2.1,h.2.2.2,j)) else(some (c.1,c.2.1,c.2.2.1,c.2.2.2.1))
def eA(k:Nat)(r2:Int×cd):Nat→((List Int)×Int×Int×(List dF)×Int×Int)→Option ((List Int)×Int×Int×(List dF)×Int)
 |0,_=>none
 |n+1,y7=>
  if 0 < y7.2.2.2.2.2 then((((iV k (y7.1,y7.2.1,y7.2.2.1) [1,1,1,2,3]).bind fun c=>
  ((eu k r2 k (c.2.1,c.2.2.1,c.2.2.2,([]:(List Int)),0)):Option ((List Int)×Int×Int×(List Int))).bind fun e=>
  (eK (bR (List.length y7.2.2.2.1+List.length [(c.1,e.2.2.2)]))).bind fun _=>
  (ck (y7.2.2.2.2.1+c.1)).bind fun j=>
  some (e.1,e.2.1,e.2.2.1,y7.2.2.2.1++[(c.1,e.2.2.2)],j)):Option ((List Int)×Int×Int×(List dF)×Int)).bind fun x9=>
  (ck (y7.2.2.2.2.2 - 1)).bind fun h=>
  eA k r2 n (x9.1,x9.2.1,x9.2.2.1,x9.2.2.2.1,x9.2.2.2.2,h)) else(some (y7.1,y7.2.1,y7.2.2.1,y7.2.2.2.1,y7.2.2.2.2.1))
def ek(k:Nat)(x4:(List Int)×Int×Int×(List dF)×Int):Nat→((List Int)×Int×Int×(List Int)×Int)→Option ((List Int)×Int×Int×(List Int))
 |0,_=>none
 |n+1,c=>
  if 0 < c.2.2.2.2 then((ck (x4.2.2.2.2+1)).bind fun j=>
  (iV k (c.1,c.2.1,c.2.2.1) [1,2,3,pA 9 x4.2.2.2.2,pA 9 j]).bind fun e=>
  (eK (bR (List.length c.2.2.2.1+List.length [e.1]))).bind fun _=>
  (ck (c.2.2.2.2 - 1)).bind fun h=>
  ek k x4 n (e.2.1,e.2.2.1,e.2.2.2,c.2.2.2.1++[e.1],h)) else(some (c.1,c.2.1,c.2.2.1,c.2.2.2.1))
def jy(k:Nat)(a0:cd)(a1:Int)(a2:Int):Option (bh×cd):=
 (di k (a0.1,a0.2.1,a0.2.2) 1 4).bind fun r2=>
 (((di k (r2.2.1,r2.2.2.1,r2.2.2.2) 0 a1).bind fun r6=>
 eA k r2 k (r6.2.1,r6.2.2.1,r6.2.2.2,([]:(List dF)),0,r6.1)):Option ((List Int)×Int×Int×(List dF)×Int)).bind fun x4=>
 (((di k (x4.1,x4.2.1,x4.2.2.1) 1 a2).bind fun j=>
 ek k x4 k (j.2.1,j.2.2.1,j.2.2.2,([]:(List Int)),j.1)):Option ((List Int)×Int×Int×(List Int))).bind fun e=>
 (((fu k (e.1,e.2.1,e.2.2.1) 2).bind fun c=>
 if c.1=true then((bv e.2.2.2 0).bind fun l=>
 some (List.set e.2.2.2 (Int.toNat 0) (pA 9 x4.2.2.2.2),c.2.1,c.2.2.1,c.2.2.2)) else(some (e.2.2.2,c.2.1,c.2.2.1,c.2.2.2))):Option ((List Int)×(List Int)×Int×Int)).bind fun h=>
 some ((r2.1,x4.2.2.2.1,h.1),(h.2.1,h.2.2.1,h.2.2.2))
theorem vr(k:Nat)(a0:cd)(c:Nat)(a1:Int)(a2:Int)(r:bh×cd)(h:jy k a0 a1 a2=some r):
 co Tryz.prog 49 [Pt c,I a1,I a2] [.obj c 98 (.agg (.pair (Ri a0.1) (.pair (I a0.2.1) (.eq (.int .u64 a0.2.2)))))] (fun _:Unit=>(bz [.rep aH r.1],[.obj c 98 (.agg (.pair (Ri r.2.1) (.pair (I r.2.2.1) (.eq (.int .u64 r.2.2.2)))))])):=by
 unfold jy at h
 replace h:=be h
 refine co.of 79 Tryz.func49 rfl Tryz.ntmps49 rfl fun S w0=>?_
 refine sr ?_
 refine aB rfl rfl rfl (aS rfl jL lr) trivial fun b1=>?_
 refine nt ?_
 refine sr ?_
 refine mq ?_
 obtain⟨r2,SH,h⟩:=ab h
 have SI:=jl k (a0.1,a0.2.1,a0.2.2) c 1 4 r2 SH
 refine fr 1 ?_
 refine kc (an [.tmp 13,.const (.int .i64 (1)),.const (.int .i64 (4))] rfl rfl Jr rfl SI) ?_
 refine ja (cO [(0,.tmp 14,_)] rfl Ir jL Cm (io ⟨rfl,trivial⟩) rfl) ?_
 refine aB rfl rfl rfl (aS rfl jL lr) trivial fun b3=>?_
 refine aX rfl rfl (aP rfl fE trivial rfl rfl) ⟨rfl,rfl,trivial⟩ ?_
 refine nt ?_
 refine sr ?_
 refine cq ?_
 refine nt ?_
 refine aW (Z:=Value) (α:=(List Int)×Int×Int×(List dF)×Int) (fun z5 x4=>[(0,Pt c),(2,I a2),(6,Pt b1),(7,Pt b3),(8,I x4.2.2.2.2)]) (fun z5 x4=>[.obj c 98 (.agg (.pair (Ri x4.1) (.pair (I x4.2.1) (.eq (.int .u64 x4.2.2.1))))),.obj b1 25 (.agg (.pair (I 0) (.pair (.eq (.slice none 0 0)) (.eq (.slice none 0 0))))),.obj b3 25 (.agg (.pair (I r2.1) (.pair (.eq z5) (.eq (.slice none 0 0))))),.sl z5 27 aJ x4.2.2.2.1]) h (fun K h=>?_) (fun z5 x4 h=>?_)
 ·
  refine sr ?_;iterate 2 refine mq ?_
  obtain⟨r6,SG,h⟩:=ab h;refine fr 1 ?_;refine kc (an [.tmp 16,.const (.int .i64 (0)),.tmp 17] rfl rfl Jr rfl (jl k (r2.2.1,r2.2.2.1,r2.2.2.2) c 0 a1 r6 SG)) ?_;refine aq (nt (ao ?_));refine fX (SE.nil 27 aJ) ?_;refine aR (fun z8 y7=>[(0,Pt c),(2,I a2),(6,Pt b1),(7,Pt b3),(8,I y7.2.2.2.2.1),(9,I y7.2.2.2.2.2)]) (fun z8 y7=>[.obj c 98 (.agg (.pair (Ri y7.1) (.pair (I y7.2.1) (.eq (.int .u64 y7.2.2.1))))),.obj b1 25 (.agg (.pair (I 0) (.pair (.eq (.slice none 0 0)) (.eq (.slice none 0 0))))),.obj b3 25 (.agg (.pair (I r2.1) (.pair (.eq z8) (.eq (.slice none 0 0))))),.sl z8 27 aJ y7.2.2.2.1]) (eA k r2) k (.slice none 0 0) (r6.2.1,r6.2.2.1,r6.2.2.2,([]:(List dF)),0,r6.1) (fun _=>rfl) h (SE.fin [1,3,2,0] ⟨rfl,rfl,rfl,rfl,rfl,rfl,trivial⟩ rfl) (fun n z8 y7 h=>?_);unfold eA at h;refine ah (sr (mq ?_));refine jb (lG rfl) ?_;refine nt (ci h (fun h=>?_) (fun h=>?_))
  ·refine sk (aW (Z:=Value) (α:=(List Int)×Int×Int×(List dF)×Int) (fun X x9=>[(0,Pt c),(2,I a2),(6,Pt b1),(7,Pt b3),(8,I x9.2.2.2.2),(9,I y7.2.2.2.2.2)]) (fun X x9=>[.obj c 98 (.agg (.pair (Ri x9.1) (.pair (I x9.2.1) (.eq (.int .u64 x9.2.2.1))))),.obj b1 25 (.agg (.pair (I 0) (.pair (.eq (.slice none 0 0)) (.eq (.slice none 0 0))))),.obj b3 25 (.agg (.pair (I r2.1) (.pair (.eq X) (.eq (.slice none 0 0))))),.sl X 27 aJ x9.2.2.2.1]) h (fun K h=>?_) (fun X x9 h=>?_))
   ·refine ao (sr (mq ?_));refine ay rfl (bq (t:=(.int .i64)) [(.const (.int .i64 (1)),_),(.const (.int .i64 (1)),_),(.const (.int .i64 (1)),_),(.const (.int .i64 (2)),_),(.const (.int .i64 (3)),_)] [1,1,1,2,3] rfl rfl fq (.cons rfl .int (.cons rfl .int (.cons rfl .int (.cons rfl .int (.cons rfl .int .nil))))) rfl rfl) ⟨rfl,rfl,rfl,rfl,rfl,trivial⟩ ?_;obtain⟨s,R2,h⟩:=ab h;refine kb (an [.tmp 23,.tmp 24] rfl rfl KO rfl (oa k (y7.1,y7.2.1,y7.2.2.1) c [1,1,1,2,3] s R2)) ?_;refine ja (cO [(0,.tmp 25,_)] rfl Du uV wG (io ⟨rfl,trivial⟩) rfl) ?_;refine aB rfl rfl rfl (aS rfl uV JK) trivial fun M=>?_;refine aX rfl rfl (aP rfl ko trivial rfl rfl) ⟨rfl,rfl,trivial⟩ ?_;refine nt (aW (Z:=Value) (α:=(List Int)×Int×Int×(List Int)) (fun ac j=>[(0,Pt c),(2,I a2),(6,Pt b1),(7,Pt b3),(8,I y7.2.2.2.2.1),(9,I y7.2.2.2.2.2),(10,Pt M)]) (fun ac j=>[.obj c 98 (.agg (.pair (Ri j.1) (.pair (I j.2.1) (.eq (.int .u64 j.2.2.1))))),.obj b1 25 (.agg (.pair (I 0) (.pair (.eq (.slice none 0 0)) (.eq (.slice none 0 0))))),.obj b3 25 (.agg (.pair (I r2.1) (.pair (.eq z8) (.eq (.slice none 0 0))))),.sl z8 27 aJ y7.2.2.2.1,.obj M 27 (.agg (.pair (I s.1) (.eq ac))),.sl ac 3 (.int .i64) j.2.2.2]) h (fun K h=>?_) (fun ac j h=>?_))
    ·refine sr (cq (nt (ao ?_)));refine fX (SE.nil 3 (.int .i64)) ?_;refine aR (fun Q e=>[(0,Pt c),(2,I a2),(6,Pt b1),(7,Pt b3),(8,I y7.2.2.2.2.1),(9,I y7.2.2.2.2.2),(10,Pt M),(11,I e.2.2.2.2)]) (fun Q e=>[.obj c 98 (.agg (.pair (Ri e.1) (.pair (I e.2.1) (.eq (.int .u64 e.2.2.1))))),.obj b1 25 (.agg (.pair (I 0) (.pair (.eq (.slice none 0 0)) (.eq (.slice none 0 0))))),.obj b3 25 (.agg (.pair (I r2.1) (.pair (.eq z8) (.eq (.slice none 0 0))))),.sl z8 27 aJ y7.2.2.2.1,.obj M 27 (.agg (.pair (I s.1) (.eq Q))),.sl Q 3 (.int .i64) e.2.2.2.1]) (eu k r2) k (.slice none 0 0) (s.2.1,s.2.2.1,s.2.2.2,([]:(List Int)),0) (fun _=>rfl) h (SE.fin [2,3,4,5,1,0] ⟨rfl,rfl,rfl,rfl,rfl,rfl,rfl,rfl,trivial⟩ rfl) (fun n Q e h=>?_);unfold eu at h;refine ah (sr (mq ?_));refine fl gy ?_;refine fr 2 ?_;refine lo dJ ?_;refine jb (bJ rfl) ?_;refine nt (ci h (fun h=>?_) (fun h=>?_))
     ·refine sk (aW (Z:=Value) (α:=(List Int)×Int×Int×(List Int)) (fun U x=>[(0,Pt c),(2,I a2),(6,Pt b1),(7,Pt b3),(8,I y7.2.2.2.2.1),(9,I y7.2.2.2.2.2),(10,Pt M),(11,I e.2.2.2.2)]) (fun U x=>[.obj c 98 (.agg (.pair (Ri x.1) (.pair (I x.2.1) (.eq (.int .u64 x.2.2.1))))),.obj b1 25 (.agg (.pair (I 0) (.pair (.eq (.slice none 0 0)) (.eq (.slice none 0 0))))),.obj b3 25 (.agg (.pair (I r2.1) (.pair (.eq z8) (.eq (.slice none 0 0))))),.sl z8 27 aJ y7.2.2.2.1,.obj M 27 (.agg (.pair (I s.1) (.eq U))),.sl U 3 (.int .i64) x.2.2.2]) h (fun K h=>?_) (fun U x h=>?_))
      ·refine ao (sr (mq ?_));obtain⟨J,RZ,h⟩:=ab h;refine fr 1 ?_;refine kb (an [.tmp 33,.const (.int .i64 (2))] rfl rfl KN rfl (mD k (e.1,e.2.1,e.2.2.1) c 2 J RZ)) ?_;refine nt (cv h (fun h=>?_) (fun h=>?_))
       ·refine aa (fl lW ?_);refine fr 4 ?_;refine lo de ?_;refine mq ?_;refine ja (bq (t:=(.int .i64)) [(.tmp 37,_)] [e.2.2.2.2] rfl rfl fq (.cons rfl .int .nil) rfl rfl) ?_;obtain⟨S5,RU,h⟩:=ab h;refine fr 5 ?_;refine dG rfl rfl rfl (cC rfl rfl fq (aE RU)) ⟨rfl,rfl,trivial⟩ fun Sm=>?_;refine fl lW ?_;refine nb fun o22=>?_;refine fr 1 ?_;refine aX rfl rfl (aP rfl de o22 rfl rfl) ⟨rfl,rfl,trivial⟩ ?_;refine ak (bn ?_);exact jz (Sm,(J.2.1,J.2.2.1,J.2.2.2,e.2.2.2.1++[e.2.2.2.2])) h [2,4,3,5,0,1]
       ·refine aV (bn ?_);exact jz (Q,(J.2.1,J.2.2.1,J.2.2.2,e.2.2.2.1)) h [0,2,1,3,4,5]
      ·refine aa (mq ?_);obtain⟨Sj,RQ,h⟩:=ab h;refine jb (bD rfl RQ) ?_;refine aq (nl ?_);exact jz (U,(x.1,x.2.1,x.2.2.1,x.2.2.2,Sj)) h [0,1,2,3,4,5]
     ·refine xa ?_;exact jz (Q,(e.1,e.2.1,e.2.2.1,e.2.2.2.1)) h [1,2,0,3,4,5]
    ·refine iD 4 rfl ?_;refine iD 5 rfl ?_;refine fX (eM (off:=1) [] trivial rfl rfl) ?_;refine mI ?_;refine cJ rfl rfl rfl (av rfl du) ⟨rfl,trivial⟩ ?_;refine gB 3 rfl rfl rfl rfl (aj rfl jt lq rfl) ⟨rfl,trivial⟩ ?_;refine gB 0 rfl rfl rfl rfl (aj rfl ko (vR) rfl) ⟨rfl,trivial⟩ ?_;refine cJ rfl rfl rfl (bq (t:=aJ) [(.tmp 43,_)] [(s.1,j.2.2.2)] rfl rfl E8 (.cons trivial (.agg (.pair .int .rep)) .nil) rfl rfl) ⟨rfl,trivial⟩ ?_;obtain⟨SZ,RS,h⟩:=ab h;refine HS 4 rfl (fun v=>[.sl v 27 aJ (y7.2.2.2.1++[(s.1,j.2.2.2)])]) (fun _=>rfl) rfl rfl rfl (cC rfl rfl E8 (aE RS)) ⟨rfl,rfl,trivial⟩ ?_;refine cJ rfl rfl rfl (bU rfl) ⟨rfl,trivial⟩ ?_;refine cJ rfl rfl rfl (av rfl uD) ⟨rfl,trivial⟩ ?_;refine gB 0 rfl rfl rfl rfl (aj rfl dJ lq rfl) ⟨rfl,trivial⟩ ?_;obtain⟨Si,RP,h⟩:=ab h;refine cJ rfl rfl rfl (bD rfl RP) ⟨rfl,rfl,trivial⟩ ?_;refine cJ rfl rfl rfl (av rfl du) ⟨rfl,trivial⟩ ?_;refine sO 10 [true,true,true,true,true,false,false,false,false,true] [] [0] [.obj M 27 (.agg (.pair (I s.1) (Ri j.2.2.2)))] rfl (by kernel_rfl) (by kernel_rfl) (by kernel_rfl) fN (fun vs hv hB=>?_);obtain⟨w0,SX,rfl,SD⟩:=aD hv;obtain⟨w1,SV,rfl,SC⟩:=aD SD;obtain⟨w2,SU,rfl,SB⟩:=aD SC;obtain⟨w3,SS,rfl,SA⟩:=aD SB;obtain⟨se,SR,rfl,Sz⟩:=aD SA;obtain⟨w5,SQ,rfl,Sv⟩:=aD Sz;obtain⟨w6,SO,rfl,Su⟩:=aD Sv;obtain⟨w7,SN,rfl,Ss⟩:=aD Su;obtain⟨w8,SL,rfl,Sr⟩:=aD Ss;obtain⟨w9,SJ,rfl,RJ⟩:=aD Sr;obtain rfl:=oZ RJ;refine⟨[0,1,2,3,4],[.obj c 98 (.agg (.pair (Ri j.1) (.pair (I j.2.1) (.eq (.int .u64 j.2.2.1))))),.obj b1 25 (.agg (.pair (I 0) (.pair (.eq (.slice none 0 0)) (.eq (.slice none 0 0))))),.obj b3 25 (.agg (.pair (I r2.1) (.pair (.eq z8) (.eq (.slice none 0 0))))),.sl se 27 aJ (y7.2.2.2.1++[(s.1,j.2.2.2)])],by kernel_rfl,by decide,?_⟩;refine eO 3 rfl ?_;refine na fun o27=>?_;refine eO 3 rfl ?_;refine oC rfl rfl (aP rfl jt o27 rfl rfl) ⟨rfl,rfl,trivial⟩ (by kernel_rfl) ?_;refine M4 (by kernel_rfl) ?_;refine aq (ak (bn ?_));exact jz (se,(j.1,j.2.1,j.2.2.1,y7.2.2.2.1++[(s.1,j.2.2.2)],Si)) h [3,4,1,2]
   ·refine aa (mq ?_);obtain⟨R9,RO,h⟩:=ab h;refine jb (fH rfl RO) ?_;refine aq (nl ?_);exact jz (X,(x9.1,x9.2.1,x9.2.2.1,x9.2.2.2.1,x9.2.2.2.2,R9)) h [0,1,2,3]
  ·refine xa ?_;exact jz (z8,(y7.1,y7.2.1,y7.2.2.1,y7.2.2.2.1,y7.2.2.2.2.1)) h [0,1,2,3]
 ·
  refine aW (Z:=Value) (α:=(List Int)×Int×Int×(List Int)) (fun O u=>[(0,Pt c),(6,Pt b1),(7,Pt b3),(8,I x4.2.2.2.2)]) (fun O u=>[.obj c 98 (.agg (.pair (Ri u.1) (.pair (I u.2.1) (.eq (.int .u64 u.2.2.1))))),.obj b1 25 (.agg (.pair (I 0) (.pair (.eq (.slice none 0 0)) (.eq (.slice none 0 0))))),.obj b3 25 (.agg (.pair (I r2.1) (.pair (.eq z5) (.eq O)))),.sl z5 27 aJ x4.2.2.2.1,.sl O 3 (.int .i64) u.2.2.2]) h (fun K h=>?_) (fun O u h=>?_)
  ·refine sr ?_;iterate 2 refine mq ?_
   obtain⟨Y,RY,h⟩:=ab h;refine kc (an [.tmp 51,.const (.int .i64 (1)),.tmp 52] rfl rfl Jr rfl (jl k (x4.1,x4.2.1,x4.2.2.1) c 1 a2 Y RY)) ?_;refine aq (nt (ao ?_));refine fX (SE.nil 3 (.int .i64)) ?_;refine aR (fun E l=>[(0,Pt c),(6,Pt b1),(7,Pt b3),(8,I x4.2.2.2.2),(12,I l.2.2.2.2)]) (fun E l=>[.obj c 98 (.agg (.pair (Ri l.1) (.pair (I l.2.1) (.eq (.int .u64 l.2.2.1))))),.obj b1 25 (.agg (.pair (I 0) (.pair (.eq (.slice none 0 0)) (.eq (.slice none 0 0))))),.obj b3 25 (.agg (.pair (I r2.1) (.pair (.eq z5) (.eq E)))),.sl z5 27 aJ x4.2.2.2.1,.sl E 3 (.int .i64) l.2.2.2.1]) (ek k x4) k (.slice none 0 0) (Y.2.1,Y.2.2.1,Y.2.2.2,([]:(List Int)),Y.1) (fun _=>rfl) h (SE.fin [1,2,3,4,0] ⟨rfl,rfl,rfl,rfl,rfl,trivial⟩ rfl) (fun n E l h=>?_);unfold ek at h;refine ah (sr (mq ?_));refine jb (lG rfl) ?_;refine nt (ci h (fun h=>?_) (fun h=>?_))
   ·refine sk (ah (ao (cm ?_)));refine da (av rfl eI) ?_;refine ea 2 (aj rfl de lq rfl) ?_;refine dm ?_;refine dm ?_;refine db (FG rfl rfl) ?_;refine dm ?_;obtain⟨qt,RN,h⟩:=ab h;refine db (bD rfl RN) ?_;refine db (FG rfl rfl) ?_;refine dh rfl rfl rfl (bq (t:=(.int .i64)) [(.const (.int .i64 (1)),_),(.const (.int .i64 (2)),_),(.const (.int .i64 (3)),_),(.tmp 62,_),(.tmp 65,_)] [1,2,3,pA 9 x4.2.2.2.2,pA 9 qt] rfl rfl fq (.cons rfl .int (.cons rfl .int (.cons rfl .int (.cons rfl .int (.cons rfl .int .nil))))) rfl rfl) ⟨rfl,rfl,rfl,rfl,rfl,trivial⟩ ?_;obtain⟨D,RX,h⟩:=ab h;refine tI 0 rfl rfl rfl rfl (an [.tmp 60,.tmp 66] rfl rfl KO rfl (oa k (l.1,l.2.1,l.2.2.1) c [1,2,3,pA 9 x4.2.2.2.2,pA 9 qt] D RX)) ⟨rfl,rfl,trivial⟩ ?_;refine da (bq (t:=(.int .i64)) [(.tmp 67,_)] [D.1] rfl rfl fq (.cons rfl .int .nil) rfl rfl) ?_;refine tJ (Δ':=[.obj b1 25 (.agg (.pair (I 0) (.pair (.eq (.slice none 0 0)) (.eq (.slice none 0 0))))),.obj b3 25 (.agg (.pair (I r2.1) (.pair (.eq z5) (.eq E)))),.sl z5 27 aJ x4.2.2.2.1,.sl E 3 (.int .i64) l.2.2.2.1,.obj c 98 (.agg (.pair (Ri D.2.1) (.pair (I D.2.2.1) (.eq (.int .u64 D.2.2.2)))))]) (by kernel_rfl) fN (by kernel_rfl) ?_;obtain⟨SY,RR,h⟩:=ab h;refine fr 3 ?_;refine dG rfl rfl rfl (cC rfl rfl fq (aE RR)) ⟨rfl,rfl,trivial⟩ fun Sl=>?_;refine fl eI ?_;refine nb fun o38=>?_;refine fr 2 ?_;refine aX rfl rfl (aP rfl de o38 rfl rfl) ⟨rfl,rfl,trivial⟩ ?_;refine ak (aO (tn (aa (mq ?_))));obtain⟨R7,RL,h⟩:=ab h;refine jb (fH rfl RL) ?_;refine aq (nl ?_);exact jz (Sl,(D.2.1,D.2.2.1,D.2.2.2,l.2.2.2.1++[D.1],R7)) h [4,2,0,3,1]
   ·refine xa ?_;exact jz (E,(l.1,l.2.1,l.2.2.1,l.2.2.2.1)) h [0,1,2,3,4]
  ·refine aW (Z:=Unit) (α:=(List Int)×(List Int)×Int×Int) (fun pp y=>[(6,Pt b1),(7,Pt b3)]) (fun pp y=>[.obj b1 25 (.agg (.pair (I 0) (.pair (.eq (.slice none 0 0)) (.eq (.slice none 0 0))))),.obj b3 25 (.agg (.pair (I r2.1) (.pair (.eq z5) (.eq O)))),.sl z5 27 aJ x4.2.2.2.1,.sl O 3 (.int .i64) y.1,.obj c 98 (.agg (.pair (Ri y.2.1) (.pair (I y.2.2.1) (.eq (.int .u64 y.2.2.2)))))]) h (fun K h=>?_) (fun pp y h=>?_)
   ·refine sr (mq ?_);obtain⟨F,RV,h⟩:=ab h;refine kb (an [.tmp 71,.const (.int .i64 (2))] rfl rfl KN rfl (mD k (u.1,u.2.1,u.2.2.1) c 2 F RV)) ?_;refine nt (cv h (fun h=>?_) (fun h=>?_))
    ·refine aa (fl eI ?_);refine fr 2 ?_;refine lo de ?_;refine mq ?_;refine jb (FG rfl rfl) ?_;obtain⟨SK,mc,h⟩:=ab h;refine fr 4 ?_;refine kb (bT (t:=(.int .i64)) rfl ip dJ mc) ?_;refine aX rfl rfl (fg (i:=Int.toNat 0) rfl dJ rfl (kw mc) rfl .int rfl) ⟨rfl,rfl,trivial⟩ ?_;refine nl ?_;exact jz ((),(List.set u.2.2.2 (Int.toNat 0) (pA 9 x4.2.2.2.2),F.2.1,F.2.2.1,F.2.2.2)) h [3,1,4,0,2]
    ·refine aV (ae ?_);exact jz ((),(u.2.2.2,F.2.1,F.2.2.1,F.2.2.2)) h [1,2,3,4,0]
   ·refine sr (fr 1 ?_);refine fr 2 ?_;refine bX (eM (off:=1) [] trivial rfl rfl) ?_;refine fr 2 ?_;refine bX (eM (off:=2) [] trivial rfl rfl) ?_;refine lo fE ?_;refine fr 1 ?_;refine aX rfl rfl (aP rfl fE trivial rfl rfl) ⟨rfl,rfl,trivial⟩ ?_;refine nt (aC (bN (pn (a:=.agg (.pair (I r2.1) (.pair (Rs aJ x4.2.2.2.1) (Ri y.1)))) (a':=.rep aH (r2.1,x4.2.2.2.1,y.1)) (xZ (.agg (.pair .int (.pair .rep .rep))))) ?_));refine bN (SE.fin (Γ':=[(6,_)]) [2,0,1] ⟨rfl,trivial⟩ rfl) ?_;cases h;exact aK () [.rep aH (r2.1,x4.2.2.2.1,y.1)] 1 ⟨⟨_,_,_,_,_,rfl,(.tail _ (.head _)),fE,(vR),rfl⟩,trivial⟩ rfl
end Go.Proofs.YtcnpijmfgfnpiaaGreatDoor
