import Derived.Test.YtcnpijmfgfnpiaaGreatDoorFacts
set_option linter.unusedSimpArgs false
set_option linter.unusedVariables false
set_option maxRecDepth 4000
set_option maxHeartbeats 1000000
namespace Go.Proofs.YtcnpijmfgfnpiaaGreatDoor
open K Go Go.Proofs
def dp(k:Nat)(a0:Int)(a1:Int)(a2:Int):Option Bool:=
 ((if a1≤a0 then(some (decide (a0≤a2))) else(some false)):Option (Bool)).bind fun x1=>
 some x1
theorem dn(k:Nat)(a0:Int)(a1:Int)(a2:Int)(r:Bool)(h:dp k a0 a1 a2=some r):
 bX Tryz.prog 83 [I a0,I a1,I a2] [] (fun _:Unit=>(bp [.eq (.bool r)],[])):=by
 unfold dp at h
 replace h:=be h
 refine bX.of 15 Tryz.func83 rfl Tryz.ntmps83 rfl fun S w0=>?_
 refine sr ?_
 refine cq ?_
 refine nt ?_
 refine aP (Z:=Unit) (α:=Bool) (fun z2 x1=>[(6,.eq (.bool x1))]) (fun z2 x1=>[]) h (fun K h=>?_) (fun z2 x1 h=>?_)
 ·
  refine ab ?_;iterate 2 refine mq ?_
  refine jb (sS rfl) ?_;refine mq ?_;refine bT (s:=10) rfl (fun hb=>?_) (fun hb=>?_)
  ·replace h:=cy (nS hb) h;refine gm ?_;refine gm ?_;refine gb (sS rfl) ?_;refine pt ?_;refine aq (nl ?_);exact jz ((),decide (a0≤a2)) h []
  ·replace h:=bM (nv hb) h;iterate 3 refine gn ?_
   refine pf ?_;refine aq (nl ?_);exact jz ((),false) h []
 ·
  refine aA ?_;cases h;exact ra
def cO(k:Nat)(a0:a8)(a1:lI):Nat→Int→Option (Except Int Unit)
 |0,_=>none
 |n+1,y6=>
  if y6 < (a1.2.length:Int) then((aZ a1.2 y6).bind fun x8=>
  (ck (a0.1 - 1)).bind fun x9=>
  (dp k x8 0 x9).bind fun l=>
  if¬(l=true) then(some (.error 1)) else(((if 0 < y6 then((ck (y6 - 1)).bind fun h=>
  (aZ a1.2 h).bind fun e=>
  some (decide (x8≤e))) else(some false)):Option (Bool)).bind fun j=>
  if j=true then(some (.error 5)) else((ck (y6+1)).bind fun c=>
  cO k a0 a1 n c))) else(some (.ok ()))
def ij(k:Nat)(a0:a8)(a1:lI):Option Int:=
 (dp k a1.1 1 3).bind fun r3=>
 if¬(r3=true) then(some 1) else(bE (α:=Unit) (cO k a0 a1 k 0) (some) fun _=>
 some 0)
theorem qH(k:Nat)(a0:a8)(a1:lI)(r:Int)(h:ij k a0 a1=some r):
 bX Tryz.prog 92 [.rep aF a0,.rep cN a1] [] (fun _:Unit=>(bp [I r],[])):=by
 unfold ij at h
 replace h:=be h
 refine bX.of 38 Tryz.func92 rfl Tryz.ntmps92 rfl fun S w0=>?_
 refine sr ?_
 refine bx fun b1=>?_
 refine bx fun b2=>?_
 refine cq ?_
 refine nt ?_
 refine ae ?_
 refine sr ?_
 refine fl oI ?_
 refine lo cu ?_
 obtain⟨r3,O,h⟩:=aa h
 have Q:=dn k a1.1 1 3 r3 O
 refine jc (ak [.tmp 8,.const (.int .i64 (1)),.const (.int .i64 (3))] rfl rfl vr rfl Q) ?_
 refine ja (eB rfl) ?_
 refine nt ?_
 refine cw h (fun h=>?_) (fun h=>?_)
 ·
  refine sr (cq (nt (rx ?_)));cases h;exact ra
 ·
  refine sk (du (Z:=Unit) (α:=Unit) (fun z5 x4=>[]) (fun z5 x4=>[]) (fun e=>e=r) h (fun e h=>Option.some.inj h) (fun K hR h=>?_) (fun z5 x4 h=>?_))
  ·refine sr (fl sC ?_);refine lo cd ?_;refine ol dE ?_;refine dQ rfl ?_;refine nt (aj (aG (fun z7 y6=>[(2,Pt b1),(3,Pt b2),(12,Ri a1.2),(13,I (a1.2.length:Int)),(14,I y6)]) (fun z7 y6=>[.obj b1 25 (.rep aF a0),.obj b2 27 (.rep cN a1)]) (cO k a0 a1) k () 0 (fun _=>rfl) h (SE.fin [1,0] ⟨rfl,rfl,rfl,rfl,rfl,trivial⟩ rfl) (fun n z7 y6 h=>?_)));unfold cO at h;refine sr (jb (bq rfl) ?_);refine nt (ae (ci h (fun h=>?_) (fun h=>?_)))
   ·refine sk (ae (aj (sr (mq ?_))));obtain⟨x8,M,h⟩:=aa h;refine jb (aH (t:=(.int .i64)) rfl dE cu M) ?_;refine ja (an (t:=(.int .i64)) rfl cu rfl) ?_;refine aq ?_;refine aq (nt (ae (sr ?_)));refine mq ?_;refine fl jP ?_;refine lo cu ?_;obtain⟨x9,J,h⟩:=aa h;refine jb (eA rfl J) ?_;obtain⟨F,y,h⟩:=aa h;refine jc (ak [.tmp 19,.const (.int .i64 (0)),.tmp 22] rfl rfl vr rfl (dn k x8 0 x9 F y)) ?_;refine ja (eB rfl) ?_;refine nt (cw h (fun h=>?_) (fun h=>?_))
    ·refine sr (cq (nt (rx (br (aV (aK ?_))))));obtain rfl:=hR _ h;exact ra
    ·refine sk (aP (Z:=Unit) (α:=Bool) (fun j c=>[(2,Pt b1),(3,Pt b2),(12,Ri a1.2),(13,I (a1.2.length:Int)),(14,I y6),(36,.eq (.bool c))]) (fun j c=>[.obj b1 25 (.rep aF a0),.obj b2 27 (.rep cN a1)]) h (fun K h=>?_) (fun j c h=>?_))
     ·refine ab (mq ?_);refine jb (jC rfl) ?_;refine mq ?_;refine bT (s:=27) rfl (fun hb=>?_) (fun hb=>?_)
      ·replace h:=cy (nS hb) h;refine gm ?_;refine ga (aw rfl sC) ?_;refine fr 1 ?_;refine jU rfl rfl rfl rfl rfl rfl (ao rfl cd mA rfl) ⟨rfl,trivial⟩ ?_;refine gm ?_;obtain⟨U,x,h⟩:=aa h;refine gb (eA rfl x) ?_;obtain⟨E,u,h⟩:=aa h;refine gb (aH (t:=(.int .i64)) rfl dE cu u) ?_;refine ga (an (t:=(.int .i64)) rfl cu rfl) ?_;refine gb (sS rfl) ?_;refine pt (nl ?_);exact jz ((),decide (x8≤E)) h [1,0]
      ·replace h:=bM (nv hb) h;iterate 8 refine gn ?_
       refine pf (nl ?_);exact jz ((),false) h [0,1]
     ·refine cv h (fun h=>?_) (fun h=>?_)
      ·refine sr (cq (nt (aA (br (aV (aK ?_))))));obtain rfl:=hR _ h;exact ra
      ·refine aS (aL (tn (ab ?_)));obtain⟨D,l,h⟩:=aa h;refine jb (ba rfl l) ?_;refine mq (nl ?_);exact jz ((),D) h [0,1]
   ·refine xa ?_;exact jz ((),()) h []
  ·refine sr (cq (nt (aA ?_)));cases h;exact ra
def fB(k:Nat)(a0:a8):Nat→Int→Option (Except Int Unit)
 |0,_=>none
 |n+1,y5=>
  if y5 < (a0.2.1.length:Int) then((aZ a0.2.1 y5).bind fun x7=>
  (ij k a0 x7).bind fun r9=>
  if¬(r9=0) then(some (.error r9)) else((ck (y5+1)).bind fun c=>
  fB k a0 n c)) else(some (.ok ()))
def fA(k:Nat)(a0:a8):Nat→Int→Option (Except Int Unit)
 |0,_=>none
 |n+1,c=>
  if c < (a0.2.2.length:Int) then((aZ a0.2.2 c).bind fun h=>
  (dp k h 0 9).bind fun j=>
  if¬(j=true) then(some (.error 1)) else((ck (c+1)).bind fun e=>
  fA k a0 n e)) else(some (.ok ()))
def kV(k:Nat)(a0:a8):Option Int:=
 (dp k a0.1 1 6).bind fun r2=>
 if¬(r2=true) then(some 1) else(if 5 < (a0.2.1.length:Int) then(some 6) else(bE (α:=Unit) (fB k a0 k 0) (some) fun _=>
 if(a0.2.2.length:Int) < 1 then(some 7) else(if 3 < (a0.2.2.length:Int) then(some 6) else(bE (α:=Unit) (fA k a0 k 0) (some) fun _=>
 some 0))))
theorem qI(k:Nat)(a0:a8)(r:Int)(h:kV k a0=some r):
 bX Tryz.prog 33 [.rep aF a0] [] (fun _:Unit=>(bp [I r],[])):=by
 unfold kV at h
 replace h:=be h
 refine bX.of 51 Tryz.func33 rfl Tryz.ntmps33 rfl fun S w0=>?_
 refine sr ?_
 refine bx fun b1=>?_
 refine cq ?_
 refine nt ?_
 refine ae ?_
 refine sr ?_
 refine fl jP ?_
 refine lo cu ?_
 obtain⟨r2,U,h⟩:=aa h
 have X:=dn k a0.1 1 6 r2 U
 refine jc (ak [.tmp 10,.const (.int .i64 (1)),.const (.int .i64 (6))] rfl rfl vr rfl X) ?_
 refine ja (eB rfl) ?_
 refine nt ?_
 refine cw h (fun h=>?_) (fun h=>?_)
 ·
  refine sr (cq (nt (rx ?_)));cases h;exact ra
 ·
  refine sk (ae (sr (fl dB ?_)));refine lo jA ?_;refine ol qy ?_;refine jb (jC rfl) ?_;refine nt (ci h (fun h=>?_) (fun h=>?_))
  ·refine sr (cq (nt (rx ?_)));cases h;exact ra
  ·refine sk (du (Z:=Unit) (α:=Unit) (fun z4 x3=>[(1,Pt b1)]) (fun z4 x3=>[.obj b1 25 (.rep aF a0)]) (fun e=>e=r) h (fun e h=>Option.some.inj h) (fun K hR h=>?_) (fun z4 x3 h=>?_))
   ·refine sr (fl dB ?_);refine lo jA ?_;refine ol qy ?_;refine dQ rfl ?_;refine nt (aj (aG (fun z6 y5=>[(1,Pt b1),(18,Rs cN a0.2.1),(19,I (a0.2.1.length:Int)),(20,I y5)]) (fun z6 y5=>[.obj b1 25 (.rep aF a0)]) (fB k a0) k () 0 (fun _=>rfl) h (SE.fin [0] ⟨rfl,rfl,rfl,rfl,trivial⟩ rfl) (fun n z6 y5 h=>?_)));unfold fB at h;refine sr (jb (bq rfl) ?_);refine nt (ae (ci h (fun h=>?_) (fun h=>?_)))
    ·refine sk (ae (aj (sr ?_)));obtain⟨x7,O,h⟩:=aa h;refine jb (aH (t:=cN) rfl qy nM O) ?_;refine ja (an (t:=cN) rfl nM rfl) ?_;refine aE rfl rfl rfl (bJ rfl wB Jr) trivial fun b8=>?_;refine bf rfl rfl (a9 rfl nM rfl rfl rfl) ⟨rfl,rfl,trivial⟩ ?_;refine nt (sr (fr 1 ?_));refine lo fV ?_;refine fr 1 ?_;refine lo nM ?_;obtain⟨r9,Q,h⟩:=aa h;refine jb (ak [.tmp 24,.tmp 25] rfl rfl QB rfl (qH k a0 x7 r9 Q)) ?_;refine aq (nt (sr ?_));refine mq ?_;refine jb (eZ rfl) ?_;refine nt (cn h (fun h=>?_) (fun h=>?_))
     ·refine sr (mq ?_);refine aq (nt (aA (br (aV (aK ?_)))));obtain rfl:=hR _ h;exact ra
     ·refine aS (aL (tn (ab ?_)));obtain⟨J,y,h⟩:=aa h;refine jb (ba rfl y) ?_;refine mq (nl ?_);exact jz ((),J) h [1]
    ·refine xa ?_;exact jz ((),()) h [0]
   ·refine ae (sr (fl fR ?_));refine lo cd ?_;refine ol dE ?_;refine aq (nt (aj (sr ?_)));refine mq ?_;refine jb (bq rfl) ?_;refine aq (nt ?_);refine ci h (fun h=>?_) (fun h=>?_)
    ·refine sr (cq (nt (aA (aV (aK ?_)))));cases h;exact ra
    ·refine sr (mq ?_);refine jb (jC rfl) ?_;refine aq (nt ?_);refine ci h (fun h=>?_) (fun h=>?_)
     ·refine sr (cq (nt (aA (aV (aK ?_)))));cases h;exact ra
     ·refine aS (aL (tn (du (Z:=Unit) (α:=Unit) (fun l s=>[]) (fun l s=>[]) (fun e=>e=r) h (fun e h=>Option.some.inj h) (fun K hR h=>?_) (fun l s h=>?_))))
      ·refine sr (fl fR ?_);refine lo cd ?_;refine ol dE ?_;refine dQ rfl ?_;refine nt (aj (aG (fun j c=>[(41,Ri a0.2.2),(42,I (a0.2.2.length:Int)),(43,I c)]) (fun j c=>[]) (fA k a0) k () 0 (fun _=>rfl) h (SE.fin [] ⟨rfl,rfl,rfl,trivial⟩ rfl) (fun n j c h=>?_)));unfold fA at h;refine sr (jb (bq rfl) ?_);refine nt (ae (ci h (fun h=>?_) (fun h=>?_)))
       ·refine sk (ae (aj (sr ?_)));obtain⟨F,x,h⟩:=aa h;refine jb (aH (t:=(.int .i64)) rfl dE cu x) ?_;refine ja (an (t:=(.int .i64)) rfl cu rfl) ?_;refine aq (nt (sr ?_));refine mq ?_;obtain⟨M,D,h⟩:=aa h;refine jc (ak [.tmp 47,.const (.int .i64 (0)),.const (.int .i64 (9))] rfl rfl vr rfl (dn k F 0 9 M D)) ?_;refine ja (eB rfl) ?_;refine nt (cw h (fun h=>?_) (fun h=>?_))
        ·refine sr (cq (nt (aA (br (aV (aK ?_))))));obtain rfl:=hR _ h;exact ra
        ·refine aS (aL (tn (ab ?_)));obtain⟨E,u,h⟩:=aa h;refine jb (ba rfl u) ?_;refine mq (nl ?_);exact jz ((),E) h []
       ·refine xa ?_;exact jz ((),()) h []
      ·refine sr (cq (nt (aA ?_)));cases h;exact ra
def dy(k:Nat)(a0:Int)(a1:Int):Option Bool:=
 (dT (0≤a1)).bind fun _=>
 some (decide ((vq .u8 (ig .u8 a0 a1) 1)=1))
theorem f5(k:Nat)(a0:Int)(a1:Int)(r:Bool)(h:dy k a0 a1=some r):
 bX Tryz.prog 87 [.eq (.int .u8 a0),I a1] [] (fun _:Unit=>(bp [.eq (.bool r)],[])):=by
 unfold dy at h
 replace h:=be h
 refine bX.of 10 Tryz.func87 rfl Tryz.ntmps87 rfl fun S w0=>?_
 refine sr ?_
 refine cq ?_
 refine nt ?_
 refine sr ?_
 iterate 2 refine mq ?_
 obtain⟨u1,c,h⟩:=aa h
 refine jb (ue rfl (aC c)) ?_
 refine jb (NF rfl) ?_
 refine jb (fj rfl) ?_
 refine aq ?_
 refine nt ?_
 refine aA ?_
 cases h
 exact ra
def eE(k:Nat)(a0:Int)(a1:Int):Option Int:=
 (dT (0≤a1)).bind fun _=>
 some (BM .u8 a0 (mV .u8 1 a1))
theorem iP(k:Nat)(a0:Int)(a1:Int)(r:Int)(h:eE k a0 a1=some r):
 bX Tryz.prog 134 [.eq (.int .u8 a0),I a1] [] (fun _:Unit=>(bp [.eq (.int .u8 r)],[])):=by
 unfold eE at h
 replace h:=be h
 refine bX.of 9 Tryz.func134 rfl Tryz.ntmps134 rfl fun S w0=>?_
 refine sr ?_
 refine cq ?_
 refine nt ?_
 refine sr ?_
 iterate 2 refine mq ?_
 obtain⟨u1,c,h⟩:=aa h
 refine jb (Fh rfl (aC c)) ?_
 refine jb (ND rfl) ?_
 refine aq ?_
 refine nt ?_
 refine aA ?_
 cases h
 exact ra
def gu(k:Nat)(a0:a8)(a1:(List Int)):Nat→(Int×Int)→Option Int
 |0,_=>none
 |n+1,y4=>
  if y4.2 < (a1.length:Int) then((aZ a1 y4.2).bind fun x6=>
  (aZ a0.2.1 x6).bind fun x7=>
  (ck (y4.1+x7.1)).bind fun x8=>
  (ck (y4.2+1)).bind fun x9=>
  gu k a0 a1 n (x8,x9)) else(some y4.1)
def mF(k:Nat)(a0:a8)(a1:(List Int)):Option Int:=
 ((gu k a0 a1 k (0,0)):Option (Int)).bind fun x2=>
 some x2
theorem sO(k:Nat)(a0:a8)(a1:(List Int))(r:Int)(h:mF k a0 a1=some r):
 bX Tryz.prog 135 [.rep aF a0,Ri a1] [] (fun _:Unit=>(bp [I r],[])):=by
 unfold mF at h
 replace h:=be h
 refine bX.of 24 Tryz.func135 rfl Tryz.ntmps135 rfl fun S w0=>?_
 refine sr ?_
 refine bx fun b1=>?_
 refine cq ?_
 refine nt ?_
 refine sr ?_
 refine cq ?_
 refine nt ?_
 refine aP (Z:=Unit) (α:=Int) (fun z3 x2=>[(5,I x2)]) (fun z3 x2=>[]) h (fun K h=>?_) (fun z3 x2 h=>?_)
 ·
  refine sr (mq ?_);refine ol dE ?_;refine dQ rfl ?_;refine nt (aj (aG (fun z5 y4=>[(2,Pt b1),(5,I y4.1),(8,Ri a1),(9,I (a1.length:Int)),(10,I y4.2)]) (fun z5 y4=>[.obj b1 25 (.rep aF a0)]) (gu k a0 a1) k () (0,0) (fun _=>rfl) h (SE.fin [0] ⟨rfl,rfl,rfl,rfl,rfl,trivial⟩ rfl) (fun n z5 y4 h=>?_)));unfold gu at h;refine sr (jb (bq rfl) ?_);refine nt (ae (ci h (fun h=>?_) (fun h=>?_)))
  ·refine sk (ae (aj (sr ?_)));obtain⟨x6,l,h⟩:=aa h;refine jb (aH (t:=(.int .i64)) rfl dE cu l) ?_;refine ja (an (t:=(.int .i64)) rfl cu rfl) ?_;refine aq (nt (ab ?_));refine mq ?_;refine fl dB ?_;refine lo jA ?_;refine mq ?_;obtain⟨x7,j,h⟩:=aa h;refine jb (aH (t:=cN) rfl qy nM j) ?_;refine ja (aN 1 false rfl oI rfl) ?_;refine ja (an (t:=(.int .i64)) rfl cu rfl) ?_;obtain⟨x8,e,h⟩:=aa h;refine jb (ba rfl e) ?_;refine aq (ar (aL (tn (ab ?_))));obtain⟨x9,c,h⟩:=aa h;refine jb (ba rfl c) ?_;refine mq (nl ?_);exact jz ((),(x8,x9)) h [0]
  ·refine xa ?_;exact jz ((),y4.1) h []
 ·
  refine sr (mq ?_);refine aq (nt (aA ?_));cases h;exact ra
def eD(k:Nat)(a0:a8)(x8:(List Int)):Nat→(Int×Int)→Option (Except Value Int)
 |0,_=>none
 |n+1,c=>
  if c.2 < (x8.length:Int) then((aZ x8 c.2).bind fun e=>
  (ck ((a0.2.1.length:Int) - 1)).bind fun j=>
  (dp k e 0 j).bind fun s=>
  if¬(s=true) then(some (.error (.iface 118 (.agg #[.int .i64 3])))) else((dy k c.1 e).bind fun r=>
  if r=true then(some (.error (.iface 118 (.agg #[.int .i64 4])))) else((eE k c.1 e).bind fun l=>
  (ck (c.2+1)).bind fun h=>
  eD k a0 x8 n (l,h)))) else(some (.ok c.1))
def fw(k:Nat)(a0:a8)(a1:(List (List Int))):Nat→(Int×Int)→Option (Except Value Int)
 |0,_=>none
 |n+1,y4=>
  if y4.2 < (a1.length:Int) then(bE (α:=Int) ((aZ a1 y4.2).bind fun x8=>
  bE (α:=Int) (eD k a0 x8 k (y4.1,0)) (fun e=>some (.error e)) fun x9=>
  (mF k a0 x8).bind fun j=>
  (aZ a0.2.2 y4.2).bind fun h=>
  if h < j then(some (.error (.iface 118 (.agg #[.int .i64 12])))) else(some (.ok x9))) (fun e=>some (.error e)) fun x6=>
  (ck (y4.2+1)).bind fun c=>
  fw k a0 a1 n (x6,c)) else(some (.ok y4.1))
def kU(k:Nat)(a0:a8)(a1:(List (List Int))):Option Value:=
 if(a1.length:Int) < (a0.2.2.length:Int) then(some (.iface 118 (.agg #[.int .i64 7]))) else(if(a0.2.2.length:Int) < (a1.length:Int) then(some (.iface 118 (.agg #[.int .i64 6]))) else(bE (α:=Int) (fw k a0 a1 k (0,0)) (some) fun x2=>
 (dT (0≤(a0.2.1.length:Int))).bind fun _=>
 if¬(x2=(IntKind.u8.wrap ((mV .u8 1 (a0.2.1.length:Int)) - 1))) then(some (.iface 118 (.agg #[.int .i64 7]))) else(some (.nilIface))))
theorem qE(k:Nat)(a0:a8)(a1:(List (List Int)))(r:Value)(h:kU k a0 a1=some r):
 bX Tryz.prog 94 [.rep aF a0,.rep (.slice (.slice (.int .i64))) a1] [] (fun _:Unit=>(bp [.eq r],[])):=by
 unfold kU at h
 replace h:=be h
 refine bX.of 80 Tryz.func94 rfl Tryz.ntmps94 rfl fun S w0=>?_
 refine sr ?_
 refine bx fun b1=>?_
 refine cq ?_
 refine nt ?_
 refine ae ?_
 refine sr ?_
 refine fl fR ?_
 refine lo cd ?_
 refine ol dE ?_
 refine aq ?_
 refine nt ?_
 refine aj ?_
 refine sr ?_
 refine mq ?_
 refine ol mf ?_
 refine mq ?_
 refine jb (bq rfl) ?_
 refine aq ?_
 refine nt ?_
 refine ci h (fun h=>?_) (fun h=>?_)
 ·
  refine sr (ja (dD [(0,.const (.int .i64 (7)),_)] rfl vH tG sK (jm ⟨rfl,trivial⟩) rfl) ?_);refine ja (mP rfl Ec) ?_;refine aq (nt (aA (aV (aK ?_))));cases h;exact ra
 ·
  refine sr (mq ?_);refine ol mf ?_;refine mq ?_;refine jb (jC rfl) ?_;refine aq (nt ?_);refine ci h (fun h=>?_) (fun h=>?_)
  ·refine sr (ja (dD [(0,.const (.int .i64 (6)),_)] rfl vH tG sK (jm ⟨rfl,trivial⟩) rfl) ?_);refine ja (mP rfl Ec) ?_;refine aq (nt (aA (aV (aK ?_))));cases h;exact ra
  ·refine aS (aL (tn (sr (cq (nt ?_)))));refine du (Z:=Unit) (α:=Int) (fun z3 x2=>[(2,Pt b1),(6,.eq (.int .u8 x2))]) (fun z3 x2=>[.obj b1 25 (.rep aF a0)]) (fun e=>e=r) h (fun e h=>Option.some.inj h) (fun K hR h=>?_) (fun z3 x2 h=>?_)
   ·refine sr (mq ?_);refine ol mf ?_;refine dQ rfl ?_;refine nt (aj (aG (fun z5 y4=>[(2,Pt b1),(6,.eq (.int .u8 y4.1)),(28,.rep (.slice (.slice (.int .i64))) a1),(29,I (a1.length:Int)),(30,I y4.2)]) (fun z5 y4=>[.obj b1 25 (.rep aF a0)]) (fw k a0 a1) k () (0,0) (fun _=>rfl) h (SE.fin [0] ⟨rfl,rfl,rfl,rfl,rfl,trivial⟩ rfl) (fun n z5 y4 h=>?_)));unfold fw at h;refine sr (jb (bq rfl) ?_);refine nt (ae (ci h (fun h=>?_) (fun h=>?_)))
    ·refine sk (du (Z:=Unit) (α:=Int) (fun z7 x6=>[(2,Pt b1),(6,.eq (.int .u8 x6)),(28,.rep (.slice (.slice (.int .i64))) a1),(29,I (a1.length:Int)),(30,I y4.2)]) (fun z7 x6=>[.obj b1 25 (.rep aF a0)]) (fun e=>e=r) h (fun e h=>hR e h) (fun K hR h=>?_) (fun z7 x6 h=>?_))
     ·refine aj (sr (mq ?_));obtain⟨x8,se,h⟩:=aa h;refine jb (aH (t:=(.slice (.int .i64))) rfl mf cd se) ?_;refine ja (an (t:=(.slice (.int .i64))) rfl cd rfl) ?_;refine aq ?_;refine aq (nt ?_);refine du (Z:=Unit) (α:=Int) (fun s x9=>[(2,Pt b1),(6,.eq (.int .u8 x9)),(7,I y4.2),(8,Ri x8),(28,.rep (.slice (.slice (.int .i64))) a1),(29,I (a1.length:Int)),(30,I y4.2)]) (fun s x9=>[.obj b1 25 (.rep aF a0)]) (fun e=>e=r) h (fun e h=>hR e h) (fun K hR h=>?_) (fun s x9 h=>?_)
      ·refine sr (mq ?_);refine ol dE ?_;refine dQ rfl ?_;refine nt (aj (aG (fun l c=>[(2,Pt b1),(6,.eq (.int .u8 c.1)),(7,I y4.2),(8,Ri x8),(28,.rep (.slice (.slice (.int .i64))) a1),(29,I (a1.length:Int)),(30,I y4.2),(35,Ri x8),(36,I (x8.length:Int)),(37,I c.2)]) (fun l c=>[.obj b1 25 (.rep aF a0)]) (eD k a0 x8) k () (y4.1,0) (fun _=>rfl) h (SE.fin [0] ⟨rfl,rfl,rfl,rfl,rfl,rfl,rfl,rfl,rfl,rfl,trivial⟩ rfl) (fun n l c h=>?_)));unfold eD at h;refine sr (jb (bq rfl) ?_);refine nt (ae (ci h (fun h=>?_) (fun h=>?_)))
       ·refine sk (ae (aj (sr ?_)));obtain⟨j,F,h⟩:=aa h;refine jb (aH (t:=(.int .i64)) rfl dE cu F) ?_;refine ja (an (t:=(.int .i64)) rfl cu rfl) ?_;refine aq (nt (ae (sr ?_)));refine mq ?_;refine fl dB ?_;refine lo jA ?_;refine ol qy ?_;obtain⟨ac,E,h⟩:=aa h;refine jb (eA rfl E) ?_;obtain⟨qt,U,h⟩:=aa h;refine jc (ak [.tmp 41,.const (.int .i64 (0)),.tmp 45] rfl rfl vr rfl (dn k j 0 ac qt U)) ?_;refine ja (eB rfl) ?_;refine nt (cw h (fun h=>?_) (fun h=>?_))
        ·refine sr (ja (dD [(0,.const (.int .i64 (3)),_)] rfl vH tG sK (jm ⟨rfl,trivial⟩) rfl) ?_);refine ja (mP rfl Ec) ?_;refine aq (nt (rx (br (aV (aK (br (aV (aK ?_))))))));obtain rfl:=hR _ h;exact ra
        ·refine sk (ae (sr ?_));iterate 2 refine mq ?_
         obtain⟨pp,Q,h⟩:=aa h;refine jb (ak [.tmp 50,.tmp 51] rfl rfl G1 rfl (f5 k c.1 j pp Q)) ?_;refine nt (cv h (fun h=>?_) (fun h=>?_))
         ·refine sr (ja (dD [(0,.const (.int .i64 (4)),_)] rfl vH tG sK (jm ⟨rfl,trivial⟩) rfl) ?_);refine ja (mP rfl Ec) ?_;refine aq (nt (rx (br (aV (aK (br (aV (aK ?_))))))));obtain rfl:=hR _ h;exact ra
         ·refine sk (ab ?_);iterate 2 refine mq ?_
          obtain⟨u,O,h⟩:=aa h;refine jb (ak [.tmp 55,.tmp 56] rfl rfl BX rfl (iP k c.1 j u O)) ?_;refine aq (ar (aL (tn (ab ?_))));obtain⟨Y,D,h⟩:=aa h;refine jb (ba rfl D) ?_;refine mq (nl ?_);exact jz ((),(u,Y)) h [0]
       ·refine xa ?_;exact jz ((),c.1) h [0]
      ·refine ae (cm ?_);refine ea 0 (ao rfl fV (vL) rfl) ?_;refine dm ?_;obtain⟨mc,M,h⟩:=aa h;refine db (ak [.tmp 59,.tmp 60] rfl rfl Kq rfl (sO k a0 x8 mc M)) ?_;refine da (aw rfl fR) ?_;refine ea 0 (ao rfl cd mA rfl) ?_;refine dm ?_;obtain⟨Ru,y,h⟩:=aa h;refine db (aH (t:=(.int .i64)) rfl dE cu y) ?_;refine da (an (t:=(.int .i64)) rfl cu rfl) ?_;refine df eM ?_;refine jb (jC rfl) ?_;refine nt (ci h (fun h=>?_) (fun h=>?_))
       ·refine sr (ja (dD [(0,.const (.int .i64 (12)),_)] rfl vH tG sK (jm ⟨rfl,trivial⟩) rfl) ?_);refine ja (mP rfl Ec) ?_;refine aq (nt (aA (br (aV (aK ?_)))));obtain rfl:=hR _ h;exact ra
       ·refine aS (bn ?_);exact jz ((),x9) h [0]
     ·refine ab ?_;obtain⟨X,x,h⟩:=aa h;refine jb (ba rfl x) ?_;refine mq (nl ?_);exact jz ((),(x6,X)) h [0]
    ·refine xa ?_;exact jz ((),y4.1) h [0]
   ·refine ae (sr (mq ?_));refine fl dB ?_;refine lo jA ?_;refine ol qy ?_;obtain⟨Rw,J,h⟩:=aa h;refine jb (Fh rfl (aC J)) ?_;refine jb (Fg rfl) ?_;refine jb (eZ rfl) ?_;refine nt (cn h (fun h=>?_) (fun h=>?_))
    ·refine sr (ja (dD [(0,.const (.int .i64 (7)),_)] rfl vH tG sK (jm ⟨rfl,trivial⟩) rfl) ?_);refine ja (mP rfl Ec) ?_;refine aq (nt (rx ?_));cases h;exact ra
    ·refine sk (sr (cq (nt (aA ?_))));cases h;exact ra
def cE(k:Nat)(a0:(List (List Int)))(y5:(List (List Int))×Int):Nat→((List (List Int))×Int)→Option (List (List Int))
 |0,_=>none
 |n+1,y9=>
  if y9.2 < 5 then((((dT (0≤y5.2∧y5.2 < 3)).bind fun _=>
  (aZ y9.1 y5.2).bind fun c=>
  (dT (0≤y9.2∧y9.2 < 5)).bind fun _=>
  ((if y5.2 < (a0.length:Int) then((aZ a0 y5.2).bind fun r=>
  some (decide (y9.2 < (r.length:Int)))) else(some false)):Option (Bool)).bind fun s=>
  if s=true then((aZ a0 y5.2).bind fun l=>
  (aZ l y9.2).bind fun j=>
  (dT (0≤y5.2∧y5.2 < 3)).bind fun _=>
  (aZ (List.set y9.1 (Int.toNat y5.2) (List.set c (Int.toNat y9.2) (-1:Int))) y5.2).bind fun h=>
  (dT (0≤y9.2∧y9.2 < 5)).bind fun _=>
  some (List.set (List.set y9.1 (Int.toNat y5.2) (List.set c (Int.toNat y9.2) (-1:Int))) (Int.toNat y5.2) (List.set h (Int.toNat y9.2) j))) else(some (List.set y9.1 (Int.toNat y5.2) (List.set c (Int.toNat y9.2) (-1:Int))))):Option ((List (List Int)))).bind fun u=>
  (ck (y9.2+1)).bind fun e=>
  cE k a0 y5 n (u,e)) else(some y9.1)
def cS(k:Nat)(a0:(List (List Int))):Nat→((List (List Int))×Int)→Option (List (List Int))
 |0,_=>none
 |n+1,y5=>
  if y5.2 < 3 then(((cE k a0 y5 k (y5.1,0)):Option ((List (List Int)))).bind fun x7=>
  (ck (y5.2+1)).bind fun c=>
  cS k a0 n (x7,c)) else(some y5.1)
def cV(k:Nat)(a0:(List (List Int))):Option (List (List Int)):=
 ((cS k a0 k ([[0,0,0,0,0],[0,0,0,0,0],[0,0,0,0,0]],0)):Option ((List (List Int)))).bind fun x3=>
 some x3
theorem dq(k:Nat)(a0:(List (List Int)))(r:(List (List Int)))(h:cV k a0=some r):
 bX Tryz.prog 86 [.rep (.slice (.slice (.int .i64))) a0] [] (fun _:Unit=>(bp [.rep (.arr 3 (.arr 5 (.int .i64))) r],[])):=by
 unfold cV at h
 replace h:=be h
 refine bX.of 43 Tryz.func86 rfl Tryz.ntmps86 rfl fun S w0=>?_
 refine sr ?_
 refine aE rfl rfl rfl (bJ rfl lg lK) trivial fun b1=>?_
 refine nt ?_
 refine sr ?_
 refine aE rfl rfl rfl (bJ rfl lg lK) trivial fun b2=>?_
 refine nt ?_
 refine aP (Z:=Unit) (α:=(List (List Int))) (fun z4 x3=>[(2,Pt b1),(3,Pt b2)]) (fun z4 x3=>[.obj b1 107 (.rep (.arr 3 (.arr 5 (.int .i64))) [[0,0,0,0,0],[0,0,0,0,0],[0,0,0,0,0]]),.obj b2 107 (.rep (.arr 3 (.arr 5 (.int .i64))) x3)]) h (fun K h=>?_) (fun z4 x3 h=>?_)
 ·
  refine sr (dQ rfl ?_);refine nt (aj (aG (fun z6 y5=>[(0,.rep (.slice (.slice (.int .i64))) a0),(2,Pt b1),(3,Pt b2),(6,I y5.2)]) (fun z6 y5=>[.obj b1 107 (.rep (.arr 3 (.arr 5 (.int .i64))) [[0,0,0,0,0],[0,0,0,0,0],[0,0,0,0,0]]),.obj b2 107 (.rep (.arr 3 (.arr 5 (.int .i64))) y5.1)]) (cS k a0) k () ([[0,0,0,0,0],[0,0,0,0,0],[0,0,0,0,0]],0) (fun _=>rfl) h (SE.fin [1,0] ⟨rfl,rfl,rfl,rfl,trivial⟩ rfl) (fun n z6 y5 h=>?_)));unfold cS at h;refine sr (jb (bq rfl) ?_);refine nt (ae (ci h (fun h=>?_) (fun h=>?_)))
  ·refine sk (aP (Z:=Unit) (α:=(List (List Int))) (fun z8 x7=>[(0,.rep (.slice (.slice (.int .i64))) a0),(2,Pt b1),(3,Pt b2),(6,I y5.2)]) (fun z8 x7=>[.obj b1 107 (.rep (.arr 3 (.arr 5 (.int .i64))) [[0,0,0,0,0],[0,0,0,0,0],[0,0,0,0,0]]),.obj b2 107 (.rep (.arr 3 (.arr 5 (.int .i64))) x7)]) h (fun K h=>?_) (fun z8 x7 h=>?_))
   ·refine aj (sr (mq ?_));refine aq (nt (sr ?_));refine dQ rfl ?_;refine nt (aj (aG (fun J y9=>[(0,.rep (.slice (.slice (.int .i64))) a0),(2,Pt b1),(3,Pt b2),(4,I y5.2),(6,I y5.2),(9,I y9.2)]) (fun J y9=>[.obj b1 107 (.rep (.arr 3 (.arr 5 (.int .i64))) [[0,0,0,0,0],[0,0,0,0,0],[0,0,0,0,0]]),.obj b2 107 (.rep (.arr 3 (.arr 5 (.int .i64))) y9.1)]) (cE k a0 y5) k () (y5.1,0) (fun _=>rfl) h (SE.fin [0,1] ⟨rfl,rfl,rfl,rfl,rfl,rfl,trivial⟩ rfl) (fun n J y9 h=>?_)));unfold cE at h;refine sr (jb (bq rfl) ?_);refine nt (ae (ci h (fun h=>?_) (fun h=>?_)))
    ·refine sk (aP (Z:=Unit) (α:=(List (List Int))) (fun F l=>[(0,.rep (.slice (.slice (.int .i64))) a0),(2,Pt b1),(3,Pt b2),(4,I y5.2),(6,I y5.2),(9,I y9.2)]) (fun F l=>[.obj b1 107 (.rep (.arr 3 (.arr 5 (.int .i64))) [[0,0,0,0,0],[0,0,0,0,0],[0,0,0,0,0]]),.obj b2 107 (.rep (.arr 3 (.arr 5 (.int .i64))) l)]) h (fun K h=>?_) (fun F l h=>?_))
     ·refine aj (sr (mq ?_));refine aq (nt (sr ?_));iterate 2 refine mq ?_
      obtain⟨RA,x,h⟩:=aa h;refine jb (ip rfl Jx yp (aC x).1 (aC x).2) ?_;obtain⟨D,ac,h⟩:=aa h;obtain⟨Rz,e,h⟩:=aa h;refine jb (ip rfl Jy cu (aC e).1 (aC e).2) ?_;refine fr 1 ?_;refine bf rfl rfl (nj (t:=(.int .i64)) (off:=0) (i:=y5.2) (j:=y9.2) (N:=3) (L:=5) rfl cu .int rfl rfl rfl rfl ac (aC e).1 (aC e).2 rfl) ⟨rfl,rfl,trivial⟩ ?_;refine nt (aP (Z:=Unit) (α:=Bool) (fun E y=>[(0,.rep (.slice (.slice (.int .i64))) a0),(2,Pt b1),(3,Pt b2),(4,I y5.2),(5,I y9.2),(6,I y5.2),(9,I y9.2),(28,.eq (.bool y))]) (fun E y=>[.obj b1 107 (.rep (.arr 3 (.arr 5 (.int .i64))) [[0,0,0,0,0],[0,0,0,0,0],[0,0,0,0,0]]),.obj b2 107 (.rep (.arr 3 (.arr 5 (.int .i64))) (List.set y9.1 (Int.toNat y5.2) (List.set D (Int.toNat y9.2) (-1:Int))))]) h (fun K h=>?_) (fun E y h=>?_))
      ·refine ab ?_;iterate 2 refine mq ?_
       refine ol mf ?_;refine jb (bq rfl) ?_;refine mq ?_;refine bT (s:=20) rfl (fun hb=>?_) (fun hb=>?_)
       ·replace h:=cy (nS hb) h;refine gm ?_;refine gm ?_;refine gm ?_;obtain⟨Ru,Y,h⟩:=aa h;refine gb (aH (t:=(.slice (.int .i64))) rfl mf cd Y) ?_;refine ga (an (t:=(.slice (.int .i64))) rfl cd rfl) ?_;refine ga (jt rfl rfl dE) ?_;refine gb (bq rfl) ?_;refine pt (nl ?_);exact jz ((),decide (y9.2 < (Ru.length:Int))) h [1,0]
       ·replace h:=bM (nv hb) h;iterate 7 refine gn ?_
        refine pf (nl ?_);exact jz ((),false) h [1,0]
      ·refine cv h (fun h=>?_) (fun h=>?_)
       ·refine cm ?_;refine dm ?_;refine dm ?_;refine dm ?_;refine dm ?_;obtain⟨Rw,X,h⟩:=aa h;refine db (aH (t:=(.slice (.int .i64))) rfl mf cd X) ?_;refine da (an (t:=(.slice (.int .i64))) rfl cd rfl) ?_;refine dm ?_;obtain⟨se,U,h⟩:=aa h;refine db (aH (t:=(.int .i64)) rfl dE cu U) ?_;refine da (an (t:=(.int .i64)) rfl cu rfl) ?_;obtain⟨Ry,u,h⟩:=aa h;refine db (ip rfl Jx yp (aC u).1 (aC u).2) ?_;refine df eM ?_;obtain⟨qt,Q,h⟩:=aa h;obtain⟨Rx,c,h⟩:=aa h;refine jb (ip rfl Jy cu (aC c).1 (aC c).2) ?_;refine fr 1 ?_;refine bf rfl rfl (nj (t:=(.int .i64)) (off:=0) (i:=y5.2) (j:=y9.2) (N:=3) (L:=5) rfl cu .int rfl rfl rfl rfl Q (aC c).1 (aC c).2 rfl) ⟨rfl,rfl,trivial⟩ ?_;refine ar (bn ?_);exact jz ((),List.set (List.set y9.1 (Int.toNat y5.2) (List.set D (Int.toNat y9.2) (-1:Int))) (Int.toNat y5.2) (List.set qt (Int.toNat y9.2) se)) h [1,0]
       ·refine aS (bn ?_);exact jz ((),List.set y9.1 (Int.toNat y5.2) (List.set D (Int.toNat y9.2) (-1:Int))) h [0,1]
     ·refine ab ?_;obtain⟨pp,O,h⟩:=aa h;refine jb (ba rfl O) ?_;refine mq (nl ?_);exact jz ((),(l,pp)) h [0,1]
    ·refine dt (aM (aM (bO (bn ?_))));exact jz ((),y9.1) h [0,1]
   ·refine ab ?_;obtain⟨mc,M,h⟩:=aa h;refine jb (ba rfl M) ?_;refine mq (nl ?_);exact jz ((),(x7,mc)) h [0,1]
  ·refine xa ?_;exact jz ((),y5.1) h [0,1]
 ·
  refine sr (fr 1 ?_);refine lo cF ?_;refine fr 1 ?_;refine bf rfl rfl (a9 rfl cF rfl rfl rfl) ⟨rfl,rfl,trivial⟩ ?_;refine nt (aA ?_);obtain rfl:=Option.some.inj h;exact aD () [.rep (.arr 3 (.arr 5 (.int .i64))) x3] 0 ⟨⟨_,_,_,_,_,rfl,(.head _),cF,(vL),rfl⟩,trivial⟩ rfl
def cK(k:Nat)(x5:(List Int)):Nat→((List Int)×Int)→Option (List Int)
 |0,_=>none
 |n+1,y6=>
  if y6.2 < 5 then((((aZ x5 y6.2).bind fun c=>
  if 0≤c then((dT (bV (List.length y6.1+List.length [c]))).bind fun _=>
  some (y6.1++[c])) else(some y6.1)):Option ((List Int))).bind fun x8=>
  (ck (y6.2+1)).bind fun e=>
  cK k x5 n (x8,e)) else(some y6.1)
def dJ(k:Nat)(a0:(List (List Int)))(a1:Int):Option (List Int):=
 (((dT (0≤a1∧a1 < 3)).bind fun _=>
 (aZ a0 a1).bind fun x5=>
 cK k x5 k (([]:(List Int)),0)):Option ((List Int))).bind fun x2=>
 some x2
theorem f6(k:Nat)(a0:(List (List Int)))(a1:Int)(r:(List Int))(h:dJ k a0 a1=some r):
 bX Tryz.prog 110 [.rep (.arr 3 (.arr 5 (.int .i64))) a0,I a1] [] (fun _:Unit=>(bp [Ri r],[])):=by
 unfold dJ at h
 replace h:=be h
 refine bX.of 22 Tryz.func110 rfl Tryz.ntmps110 rfl fun S w0=>?_
 refine sr ?_
 refine bx fun b1=>?_
 refine cq ?_
 refine nt ?_
 refine sr ?_
 refine cq ?_
 refine nt ?_
 refine aP (Z:=Value) (α:=(List Int)) (fun z3 x2=>[(5,.eq z3)]) (fun z3 x2=>[.sl z3 3 (.int .i64) x2]) h (fun K h=>?_) (fun z3 x2 h=>?_)
 ·
  refine sr (mq ?_);obtain⟨u4,l,h⟩:=aa h;refine jb (ip rfl Jx yp (aC l).1 (aC l).2) ?_;obtain⟨x5,y,h⟩:=aa h;refine ka (AG (t:=(.arr 5 (.int .i64))) (off:=0) (i:=a1) (N:=3) rfl yp (vL) rfl rfl rfl rfl y) ?_;refine dQ rfl ?_;refine nt (aj (fU (SE.nil 3 (.int .i64)) ?_));refine aG (fun z7 y6=>[(5,.eq z7),(10,.rep (.arr 5 (.int .i64)) x5),(11,I y6.2)]) (fun z7 y6=>[.sl z7 3 (.int .i64) y6.1]) (cK k x5) k (.slice none 0 0) (([]:(List Int)),0) (fun _=>rfl) h (SE.fin [0] ⟨rfl,rfl,rfl,trivial⟩ rfl) (fun n z7 y6 h=>?_);unfold cK at h;refine sr (jb (bq rfl) ?_);refine nt (ae (ci h (fun h=>?_) (fun h=>?_)))
  ·refine sk (aP (Z:=Value) (α:=(List Int)) (fun z9 x8=>[(5,.eq z9),(10,.rep (.arr 5 (.int .i64)) x5),(11,I y6.2)]) (fun z9 x8=>[.sl z9 3 (.int .i64) x8]) h (fun K h=>?_) (fun z9 x8 h=>?_))
   ·refine aj (sr ?_);obtain⟨c,j,h⟩:=aa h;refine jb (yD (t:=(.int .i64)) rfl Jy cu rfl rfl (fun _=>rfl) j) ?_;refine aq (nt (sr ?_));refine mq ?_;refine jb (nI rfl) ?_;refine nt (ci h (fun h=>?_) (fun h=>?_))
    ·refine ab ?_;iterate 2 refine mq ?_
     refine ja (bH (t:=(.int .i64)) [(.tmp 17,_)] [c] rfl rfl eF (.cons rfl .int .nil) rfl rfl) ?_;obtain⟨D,s,h⟩:=aa h;refine ek rfl rfl rfl (cg rfl rfl eF (aC s)) ⟨rfl,rfl,trivial⟩ fun x=>?_;refine aq (ar (bn ?_));exact jz (x,y6.1++[c]) h [0]
    ·refine aS (bn ?_);exact jz (z7,y6.1) h [0]
   ·refine ab ?_;obtain⟨u,e,h⟩:=aa h;refine jb (ba rfl e) ?_;refine mq (nl ?_);exact jz (z9,(x8,u)) h [0]
  ·refine xa ?_;exact jz (z7,y6.1) h [0]
 ·
  refine sr (mq ?_);refine aq (nt (aA ?_));refine bv (fp [4,5,21] ⟨rfl,rfl,rfl,trivial⟩) ?_;cases h;exact ra
def cr{σ:Type}(k:Nat)(a1:(List Int))(Y:σ→(Int×Int)→Option (σ×Bool)):Nat→(Int×σ)→Option (σ)
 |0,_=>none
 |n+1,y2=>
  if 0≤y2.1 then((aZ a1 y2.1).bind fun x4=>
  (Y y2.2 (y2.1,x4)).bind fun r5=>
  if¬(r5.2=true) then(some r5.1) else((ck (y2.1 - 1)).bind fun x7=>
  cr k a1 Y n (x7,r5.1))) else(some y2.2)
def gK{σ:Type}(k:Nat)(Y:σ→(Int×Int)→Option (σ×Bool))(a1:(List Int))(s0:σ):Option (σ):=
 (ck ((a1.length:Int) - 1)).bind fun x1=>
 cr k a1 Y k (x1,s0)
theorem nO{M:Md Tryz.prog}{σ Z:Type}(E:Z→σ→List D)(l:Nat)(Y:σ→(Int×Int)→Option (σ×Bool))(k:Nat)(a1:(List Int))(c:Nat)(hY:∀z s p r,Y s p=some r→YT M l [I p.1,I p.2] (E z s) (fun z':Z=>(.eq (.bool r.2),E z' r.1))):
 ∀(z0:Z) (s0:σ) (r:σ),gK k Y a1 s0=some r→dx M 208 [.eq (.func (.yield l) #[] #[]),Pt c] ([.obj c 23 (Ri a1)]++E z0 s0) (fun z:Z=>(bp [],[.obj c 23 (Ri a1)]++E z r)):=by
 intro z0 s0 r h
 unfold gK at h
 replace h:=be h
 refine dx.of 19 Tryz.func208 rfl Tryz.ntmps208 rfl fun S w0=>?_
 refine sr ?_
 refine lo cd ?_
 refine ol dE ?_
 obtain⟨x1,u,h⟩:=aa h
 refine jb (eA rfl u) ?_
 refine aq ?_
 refine nt ?_
 refine aj ?_
 refine aG (Z:=Z) (α:=Int×σ) (fun z3 y2=>[(0,.eq (.func (.yield l) #[] #[])),(1,Pt c),(3,I y2.1)]) (fun z3 y2=>[.obj c 23 (Ri a1)]++E z3 y2.2) (cr k a1 Y) k z0 (x1,s0) (fun _=>rfl) h (bg [.obj c 23 (Ri a1)] (E z0 s0) [0] ⟨rfl,rfl,rfl,trivial⟩ rfl) (fun n z3 y2 h=>?_)
 unfold cr at h
 refine ae ?_
 refine sr ?_
 refine mq ?_
 refine jb (nI rfl) ?_
 refine nt ?_
 refine ci h (fun h=>?_) (fun h=>?_)
 ·
  refine sk (ae (aj (sr ?_)));iterate 2 refine mq ?_
  refine lo cd ?_;refine mq ?_;obtain⟨x4,j,h⟩:=aa h;refine jb (aH (t:=(.int .i64)) rfl dE cu j) ?_;refine ja (an (t:=(.int .i64)) rfl cu rfl) ?_;obtain⟨r5,x,h⟩:=aa h;refine oQ [.obj c 23 (Ri a1)] rfl rfl rfl (wQ [.tmp 12,.tmp 16] rfl rfl rfl (hY z3 y2.2 (y2.1,x4) r5 x)) ⟨rfl,rfl,rfl,trivial⟩ fun z6=>?_;refine ja (eB rfl) ?_;refine nt (cw h (fun h=>?_) (fun h=>?_))
  ·refine aA (br (aV ?_));cases h;exact iz z6 [] trivial rfl
  ·refine aS (aL (tn (ab (mq ?_))));obtain⟨x7,e,h⟩:=aa h;refine jb (eA rfl e) ?_;refine aq (nl ?_);exact iM (z6,(x7,r5.1)) h (bg [.obj c 23 (Ri a1)] (E z6 r5.1) [0] ⟨rfl,rfl,rfl,trivial⟩ rfl)
 ·
  refine dt (aM (aM (bO (iN ?_))));cases h;exact iz z3 [] trivial rfl
theorem pB(a0:(List Int)):bX Tryz.prog 190 [Ri a0] [] (fun z:Nat=>(bp [.eq (.func (.func 208) #[] #[(Pv z)])],[.obj z 23 (Ri a0)])):=by
 refine bX.of 4 Tryz.func190 rfl Tryz.ntmps190 rfl fun S w0=>?_;refine sr (bx fun z=>?_);refine cq (nt (sr ?_));refine ja (sa [] [.tmp 1] [] [(Pv z)] rfl rfl rfl) ?_;refine aq (nt (aA ?_));exact aD z [_] 1 ⟨rfl,trivial⟩ rfl
def oc(k:Nat)(a0:(List Int)):Option (List Int):=
 (gK k (pI (fun(y3:(List Int)) (p5:(Int×Int))=>
  some ((p5.2::y3),true))) a0 ([],false)).bind fun r6=>
 if r6.2=true then(none) else(some r6.1)
theorem yi(k:Nat)(a0:(List Int))(r:(List Int))(h:oc k a0=some r):
 bX Tryz.prog 157 [Ri a0] [] (fun _:Unit=>(bp [.rep (.lst (.int .i64)) r],[])):=by
 unfold oc at h
 replace h:=be h
 refine xM 15 Tryz.func157 rfl Tryz.ntmps157 rfl fun {M} S w0=>?_
 refine sr ?_
 refine cq ?_
 refine nt ?_
 refine sr ?_
 refine aE rfl rfl rfl (bJ rfl MX Pj) trivial fun b1=>?_
 refine nt ?_
 refine ae ?_
 refine sr ?_
 refine mq ?_
 refine aE rfl rfl rfl (ak [.tmp 6] rfl rfl OL rfl (pB a0)) ⟨rfl,trivial⟩ fun b2=>?_
 refine nt ?_
 refine aj ?_
 refine iO 1 rfl ?_
 refine fU (pu (a:=.eq (.pointer none)) (a':=.rep (.lst (.int .i64)) []) (xO .lnil)) ?_
 refine iO 1 rfl ?_
 obtain⟨r6,c,h⟩:=aa h
 refine nC (Δ:=[.obj b2 23 (Ri a0),.obj b1 216 (.rep (.lst (.int .i64)) [])]) (F:=[]) (X:=Unit) (J:=fun _=>IL r6.2) (E:=fun z4=>[.obj b2 23 (Ri a0),.obj b1 216 (.rep (.lst (.int .i64)) r6.1)]) (r0:=fun _=>.tup .any) rfl rfl OH (fun rec hp ha hb hs hpe hN hv l=>?_) (fun dl z4=>pS (fun hj=>?_) (fun hj=>?_))
 ·
  rcases rec with⟨st0,pe0,fn0,tm0,ps0,as0,bd0,df0⟩;dsimp only at hp ha hb hs hpe hN hv;subst hp hs hpe;have vN:uL tm0 [(3,Pt b1)]:=⟨congrArg A.eq (hv 3 _ rfl).symm,trivial⟩;refine dx.pick (M:=M) [1,0,2] [1,0,2] (nO (fun(z4:Unit) (q:(List Int)×Bool)=>[.raw l (.loop (jp ⟨.ready,none,fn0,tm0, #[8,9],as0,bd0,df0⟩ (IL q.2))),.obj b1 216 (.rep (.lst (.int .i64)) q.1)]) l (pI (fun(y3:(List Int)) (p5:(Int×Int))=>
  some ((p5.2::y3),true))) k a0 b2 (fun z4 q p r' h=>?_) () ([],false) r6 c) rfl (fun _=>rfl) (fun _=>rfl)
  obtain⟨rq,hq,h2,rfl⟩:=pT h;obtain⟨y3,b5⟩:=q;obtain rfl:b5=false:=hq;replace h:=be h2;obtain⟨p5,hpv⟩:∃x,x=p:=⟨_,rfl⟩;subst hpv;refine YT.pick (R':=(fun z4:Unit=>(.eq (.bool rq.2),[.raw l (.loop (jp ⟨.ready,none,fn0,tm0, #[8,9],as0,bd0,df0⟩ (IL (!rq.2)))),.obj b1 216 (.rep (.lst (.int .i64)) rq.1)]))) [0,1] [0,1] (Jw ha hb (N:=15) (Γ:=[(3,Pt b1)]) rfl hN (by decide) vN (fun S w=>?_)) rfl (fun _=>rfl) (fun _=>rfl);refine ab (aq (nl ?_));refine uQ rfl rfl ?_;refine aj (ab (mq ?_));refine fr 1 ?_;refine lo yn ?_;refine jb (dD [(0,.tmp 10,_),(1,.tmp 11,_)] rfl Ny MW L8 (jm ⟨rfl,rfl,trivial⟩) rfl) ?_;refine aE rfl rfl rfl (nJ rfl trivial) ⟨rfl,trivial⟩ fun b7=>?_;refine cJ (k9 (t:=EO) (x:=(p5.2,y3)) [13] (.agg (.pair .int .rep)) ⟨rfl,trivial⟩) ?_;refine bf rfl rfl (a9 rfl yn trivial rfl rfl) ⟨rfl,rfl,trivial⟩ ?_;refine ar (aL (bv (pu (a:=.at EO (p5.2,y3)) (a':=.rep (.lst (.int .i64)) (p5.2::y3)) (xO .lcons)) ?_));refine dR 1 rfl ?_;cases h;exact sM () 1 rfl
 ·
  replace h:=bM (Ew hj) h;refine aL (tn (sr (fr 2 ?_)));refine lo yn ?_;refine aq (nt (aA ?_));refine dR 1 rfl ?_;refine xJ ?_;cases h;exact ra
 ·
  replace h:=cy (Eu hj) h;cases h
def gw(k:Nat)(a1:Int):Nat→(Int×(List Int)×(List Int)×(List Int))→Option (Int×(List Int))
 |0,_=>none
 |n+1,y2=>
  if List.isEmpty y2.2.2.2=true then((dT (bV (List.length y2.2.2.1+List.length y2.2.1))).bind fun _=>
  some (y2.1,y2.2.2.1++y2.2.1)) else((nY y2.2.2.2).bind fun x6=>
  (dy k a1 x6.1).bind fun r7=>
  if r7=true then((nY y2.2.2.2).bind fun x8=>
  (dT (bV (List.length y2.2.1+List.length [x8.1]))).bind fun _=>
  (nY y2.2.2.2).bind fun l=>
  gw k a1 n (y2.1,y2.2.1++[x8.1],y2.2.2.1,l.2)) else(((if 0 < (y2.2.1.length:Int) then((nY y2.2.2.2).bind fun h=>
  (eE k y2.1 h.1).bind fun r=>
  some r) else(some y2.1)):Option (Int)).bind fun j=>
  (nY y2.2.2.2).bind fun c=>
  (dT (bV (List.length y2.2.2.1+List.length [c.1]))).bind fun _=>
  (nY y2.2.2.2).bind fun e=>
  gw k a1 n (j,y2.2.1,y2.2.2.1++[c.1],e.2)))
def mG(k:Nat)(a0:(List Int))(a1:Int):Option (Int×(List Int)):=
 (oc k a0).bind fun r1=>
 gw k a1 k (0,([]:(List Int)),([]:(List Int)),r1)
theorem sP(k:Nat)(a0:(List Int))(a1:Int)(r:Int×(List Int))(h:mG k a0 a1=some r):
 bX Tryz.prog 127 [Ri a0,.eq (.int .u8 a1)] [] (fun _:Unit=>(bp [.eq (.int .u8 r.1),Ri r.2],[])):=by
 unfold mG at h
 replace h:=be h
 refine bX.of 54 Tryz.func127 rfl Tryz.ntmps127 rfl fun S w0=>?_
 refine sr ?_
 refine cq ?_
 refine cq ?_
 refine nt ?_
 refine Em rfl (BU (by kernel_rfl) (BU (by kernel_rfl) (LD LC))) ?_
 refine sr ?_
 refine cq ?_
 refine cq ?_
 refine nt ?_
 refine sr ?_
 refine mq ?_
 obtain⟨r1,mc,h⟩:=aa h
 have pp:=yi k a0 r1 mc
 refine ja (ak [.tmp 9] rfl rfl OQ rfl pp) ?_
 refine aq ?_
 refine nt ?_
 refine ae ?_
 refine HH ?_
 refine tn ?_
 refine fU (SE.nil 3 (.int .i64)) ?_
 refine fU (SE.nil 3 (.int .i64)) ?_
 refine Bi (Z:=Value×Value) (α:=Int×(List Int)×(List Int)×(List Int)) rfl (fun z3 y2=>[(1,.eq (.int .u8 a1)),(4,.eq (.int .u8 y2.1)),(6,.eq z3.1),(7,.eq z3.2),(8,.rep (.lst (.int .i64)) y2.2.2.2)]) (fun z3 y2=>[.sl z3.1 3 (.int .i64) y2.2.1,.sl z3.2 3 (.int .i64) y2.2.2.1]) (gw k a1) k ((.slice none 0 0),(.slice none 0 0)) (0,([]:(List Int)),([]:(List Int)),r1) (fun _=>rfl) h (SE.fin [1,0] ⟨rfl,rfl,rfl,rfl,rfl,trivial⟩ rfl) (fun n z3 y2 h=>?_)
 unfold gw at h
 refine ae ?_
 refine sr ?_
 refine mq ?_
 refine jb (Fv rfl QV) ?_
 refine nt ?_
 refine cv h (fun h=>?_) (fun h=>?_)
 ·
  refine sr ?_;iterate 3 refine mq ?_
  refine cJ (fp [6,15] ⟨rfl,rfl,trivial⟩) ?_;obtain⟨u4,Y,h⟩:=aa h;refine ek rfl rfl rfl (cg rfl rfl eF (aC Y)) ⟨rfl,rfl,trivial⟩ fun v5=>?_;refine aq ?_;refine aq (nt (rx ?_));refine HG ?_;refine bv (fp [5,16] ⟨rfl,rfl,trivial⟩) ?_;cases h;exact rb
 ·
  refine sk (ae (sr ?_));iterate 2 refine mq ?_
  obtain⟨x6,U,h⟩:=aa h;refine ja (kZ rfl U) ?_;refine ja (aN 1 false rfl tB rfl) ?_;refine ja (an (t:=(.int .i64)) rfl cu rfl) ?_;obtain⟨r7,ac,h⟩:=aa h;refine jb (ak [.tmp 17,.tmp 21] rfl rfl G1 rfl (f5 k a1 x6.1 r7 ac)) ?_;refine nt (cv h (fun h=>?_) (fun h=>?_))
  ·refine sr ?_;iterate 2 refine mq ?_
   obtain⟨x8,Q,h⟩:=aa h;refine ja (kZ rfl Q) ?_;refine ja (aN 1 false rfl tB rfl) ?_;refine ja (an (t:=(.int .i64)) rfl cu rfl) ?_;refine ja (bH (t:=(.int .i64)) [(.tmp 27,_)] [x8.1] rfl rfl eF (.cons rfl .int .nil) rfl rfl) ?_;obtain⟨u9,X,h⟩:=aa h;refine ek rfl rfl rfl (cg rfl rfl eF (aC X)) ⟨rfl,rfl,trivial⟩ fun O=>?_;refine aq (nt (sr ?_));refine mq ?_;obtain⟨J,y,h⟩:=aa h;refine ja (kZ rfl y) ?_;refine ja (aN 1 false rfl BR rfl) ?_;refine ja (an (t:=(.lst (.int .i64))) rfl yn rfl) ?_;refine aq (nt ?_);refine CE ?_;refine Ek ?_;exact CB ((O,z3.2),(y2.1,y2.2.1++[x8.1],y2.2.2.1,J.2)) h (SE.fin [0,1] ⟨rfl,rfl,rfl,rfl,rfl,trivial⟩ rfl)
  ·refine sk (aP (Z:=Unit) (α:=Int) (fun e c=>[(1,.eq (.int .u8 a1)),(4,.eq (.int .u8 c)),(6,.eq z3.1),(7,.eq z3.2),(8,.rep (.lst (.int .i64)) y2.2.2.2)]) (fun e c=>[.sl z3.1 3 (.int .i64) y2.2.1,.sl z3.2 3 (.int .i64) y2.2.2.1]) h (fun K h=>?_) (fun e c h=>?_))
   ·refine sr (mq ?_);refine ka (c9 rfl rfl dE) ?_;refine jb (jC rfl) ?_;refine nt (ci h (fun h=>?_) (fun h=>?_))
    ·refine ab ?_;iterate 2 refine mq ?_
     obtain⟨I,x,h⟩:=aa h;refine ja (kZ rfl x) ?_;refine ja (aN 1 false rfl tB rfl) ?_;refine ja (an (t:=(.int .i64)) rfl cu rfl) ?_;obtain⟨l,E,h⟩:=aa h;refine jb (ak [.tmp 37,.tmp 41] rfl rfl BX rfl (iP k y2.1 I.1 l E)) ?_;refine aq (nl ?_);exact jz ((),l) h [0,1]
    ·refine aS (ag ?_);exact jz ((),y2.1) h [0,1]
   ·refine sr ?_;iterate 2 refine mq ?_
    obtain⟨j,u,h⟩:=aa h;refine ja (kZ rfl u) ?_;refine ja (aN 1 false rfl tB rfl) ?_;refine ja (an (t:=(.int .i64)) rfl cu rfl) ?_;refine ja (bH (t:=(.int .i64)) [(.tmp 47,_)] [j.1] rfl rfl eF (.cons rfl .int .nil) rfl rfl) ?_;obtain⟨qt,D,h⟩:=aa h;refine fr 1 ?_;refine ek rfl rfl rfl (cg rfl rfl eF (aC D)) ⟨rfl,rfl,trivial⟩ fun M=>?_;refine aq (nt (sr ?_));refine mq ?_;obtain⟨F,s,h⟩:=aa h;refine ja (kZ rfl s) ?_;refine ja (aN 1 false rfl BR rfl) ?_;refine ja (an (t:=(.lst (.int .i64))) rfl yn rfl) ?_;refine aq (nt ?_);refine CE ?_;exact CB ((z3.1,M),(c,y2.2.1,y2.2.2.1++[j.1],F.2)) h (SE.fin [1,0] ⟨rfl,rfl,rfl,rfl,rfl,trivial⟩ rfl)
def cX(k:Nat)(a0:(List Int))(a1:Int):Nat→Int→Option (Except Int Unit)
 |0,_=>none
 |n+1,y3=>
  if y3 < (a0.length:Int) then((aZ a0 y3).bind fun x5=>
  if a1=x5 then(some (.error y3)) else((ck (y3+1)).bind fun x6=>
  cX k a0 a1 n x6)) else(some (.ok ()))
def g7(k:Nat)(a0:(List Int))(a1:Int):Option Int:=
 bE (α:=Unit) (cX k a0 a1 k 0) (some) fun _=>
 some (-1:Int)
theorem mL(k:Nat)(a0:(List Int))(a1:Int)(r:Int)(h:g7 k a0 a1=some r):
 bX Tryz.prog 123 [Ri a0,I a1] [] (fun _:Unit=>(bp [I r],[])):=by
 unfold g7 at h
 replace h:=be h
 refine bX.of 19 Tryz.func123 rfl Tryz.ntmps123 rfl fun S w0=>?_
 refine sr ?_
 refine cq ?_
 refine nt ?_
 refine du (Z:=Unit) (α:=Unit) (fun z2 x1=>[]) (fun z2 x1=>[]) (fun e=>e=r) h (fun e h=>Option.some.inj h) (fun K hR h=>?_) (fun z2 x1 h=>?_)
 ·
  refine sr (mq ?_);refine ol dE ?_;refine dQ rfl ?_;refine nt (aj (aG (fun z4 y3=>[(0,Ri a0),(1,I a1),(7,I (a0.length:Int)),(8,I y3)]) (fun z4 y3=>[]) (cX k a0 a1) k () 0 (fun _=>rfl) h (SE.fin [] ⟨rfl,rfl,rfl,rfl,trivial⟩ rfl) (fun n z4 y3 h=>?_)));unfold cX at h;refine sr (jb (bq rfl) ?_);refine nt (ae (ci h (fun h=>?_) (fun h=>?_)))
  ·refine sk (ae (aj (sr (mq ?_))));refine aq (nt (sr ?_));iterate 3 refine mq ?_
   obtain⟨x5,j,h⟩:=aa h;refine jb (aH (t:=(.int .i64)) rfl dE cu j) ?_;refine ja (an (t:=(.int .i64)) rfl cu rfl) ?_;refine jb (fj rfl) ?_;refine nt (ci h (fun h=>?_) (fun h=>?_))
   ·refine sr (mq ?_);refine aq (nt (aA (br (aV (aK ?_)))));obtain rfl:=hR _ h;exact ra
   ·refine aS (aL (tn (ab ?_)));obtain⟨x6,c,h⟩:=aa h;refine jb (ba rfl c) ?_;refine mq (nl ?_);exact jz ((),x6) h []
  ·refine xa ?_;exact jz ((),()) h []
 ·
  refine sr (cq (nt (aA ?_)));cases h;exact ra
def f7(k:Nat)(a0:(List Int))(a1:Int):Option Bool:=
 (g7 k a0 a1).bind fun r1=>
 some (decide (0≤r1))
theorem pz(k:Nat)(a0:(List Int))(a1:Int)(r:Bool)(h:f7 k a0 a1=some r):
 bX Tryz.prog 158 [Ri a0,I a1] [] (fun _:Unit=>(bp [.eq (.bool r)],[])):=by
 unfold f7 at h
 replace h:=be h
 refine bX.of 9 Tryz.func158 rfl Tryz.ntmps158 rfl fun S w0=>?_
 refine sr ?_
 refine cq ?_
 refine nt ?_
 refine sr ?_
 iterate 2 refine mq ?_
 obtain⟨r1,c,h⟩:=aa h
 have e:=mL k a0 a1 r1 c
 refine jb (ak [.tmp 5,.tmp 6] rfl rfl Kr rfl e) ?_
 refine jb (nI rfl) ?_
 refine aq ?_
 refine nt ?_
 refine aA ?_
 cases h
 exact ra
def eR(k:Nat)(a0:cU)(a1:Int):Nat→(Int×Int)→Option Int
 |0,_=>none
 |n+1,y3=>
  if y3.2 < (a0.1.2.1.length:Int) then((((aZ a0.1.2.1 y3.2).bind fun x7=>
  (f7 k x7.2 a1).bind fun r9=>
  if r9=true then((eE k y3.1 y3.2).bind fun e=>
  some e) else(some y3.1)):Option (Int)).bind fun x5=>
  (ck (y3.2+1)).bind fun c=>
  eR k a0 a1 n (x5,c)) else(some y3.1)
def gY(k:Nat)(a0:cU)(a1:Int):Option Int:=
 ((eR k a0 a1 k (0,0)):Option (Int)).bind fun x1=>
 some x1
theorem mE(k:Nat)(a0:cU)(a1:Int)(r:Int)(h:gY k a0 a1=some r):
 bX Tryz.prog 128 [.at bD a0,I a1] [] (fun _:Unit=>(bp [.eq (.int .u8 r)],[])):=by
 unfold gY at h
 replace h:=be h
 refine bX.of 28 Tryz.func128 rfl Tryz.ntmps128 rfl fun S w0=>?_
 refine sr ?_
 refine cq ?_
 refine nt ?_
 refine sr ?_
 refine cq ?_
 refine nt ?_
 refine aP (Z:=Unit) (α:=Int) (fun z2 x1=>[(5,.eq (.int .u8 x1))]) (fun z2 x1=>[]) h (fun K h=>?_) (fun z2 x1 h=>?_)
 ·
  refine sr (mq ?_);refine ja (dC rfl) ?_;refine ja (aN 3 true rfl jx rfl) ?_;refine ja (aN 1 false rfl dB rfl) ?_;refine ja (an (t:=(.slice cN)) rfl jA rfl) ?_;refine ol qy ?_;refine dQ rfl ?_;refine nt (aj (aG (fun z4 y3=>[(1,I a1),(5,.eq (.int .u8 y3.1)),(12,Rs cN a0.1.2.1),(13,I (a0.1.2.1.length:Int)),(14,I y3.2)]) (fun z4 y3=>[]) (eR k a0 a1) k () (0,0) (fun _=>rfl) h (SE.fin [] ⟨rfl,rfl,rfl,rfl,rfl,trivial⟩ rfl) (fun n z4 y3 h=>?_)));unfold eR at h;refine sr (jb (bq rfl) ?_);refine nt (ae (ci h (fun h=>?_) (fun h=>?_)))
  ·refine sk (aP (Z:=Unit) (α:=Int) (fun z6 x5=>[(1,I a1),(5,.eq (.int .u8 x5)),(12,Rs cN a0.1.2.1),(13,I (a0.1.2.1.length:Int)),(14,I y3.2)]) (fun z6 x5=>[]) h (fun K h=>?_) (fun z6 x5 h=>?_))
   ·refine aj (sr (mq ?_));obtain⟨x7,s,h⟩:=aa h;refine jb (aH (t:=cN) rfl qy nM s) ?_;refine ja (an (t:=cN) rfl nM rfl) ?_;refine aE rfl rfl rfl (bJ rfl wB Jr) trivial fun b8=>?_;refine aq ?_;refine bf rfl rfl (a9 rfl nM rfl rfl rfl) ⟨rfl,rfl,trivial⟩ ?_;refine nt (sr (fl sC ?_));refine lo cd ?_;refine mq ?_;obtain⟨r9,u,h⟩:=aa h;refine jb (ak [.tmp 20,.tmp 21] rfl rfl OP rfl (pz k x7.2 a1 r9 u)) ?_;refine nt (cv h (fun h=>?_) (fun h=>?_))
    ·refine ab ?_;iterate 2 refine mq ?_
     obtain⟨c,j,h⟩:=aa h;refine jb (ak [.tmp 23,.tmp 24] rfl rfl BX rfl (iP k y3.1 y3.2 c j)) ?_;refine aq (ar (bn ?_));exact jz ((),c) h []
    ·refine aS (bn ?_);exact jz ((),y3.1) h []
   ·refine ab ?_;obtain⟨l,e,h⟩:=aa h;refine jb (ba rfl e) ?_;refine mq (nl ?_);exact jz ((),(x5,l)) h []
  ·refine xa ?_;exact jz ((),y3.1) h []
 ·
  refine sr (mq ?_);refine aq (nt (aA ?_));cases h;exact ra
def cI(k:Nat)(a0:cU)(a1:(List (List Int)))(a2:Int):Nat→(Int×(List (List Int))×Int)→Option (Int×(List (List Int)))
 |0,_=>none
 |n+1,y5=>
  if y5.2.2 < 3 then((dJ k a1 y5.2.2).bind fun r7=>
  (gY k a0 a2).bind fun r8=>
  (mG k r7 r8).bind fun r9=>
  (dT (bV (List.length y5.2.1+List.length [r9.2]))).bind fun _=>
  (ck (y5.2.2+1)).bind fun c=>
  cI k a0 a1 a2 n (BM .u8 y5.1 r9.1,y5.2.1++[r9.2],c)) else(some (y5.1,y5.2.1))
def gB(k:Nat)(a0:cU)(a1:(List (List Int)))(a2:Int):Option (Int×(List (List Int))):=
 ((cI k a0 a1 a2 k (0,([]:(List (List Int))),0)):Option (Int×(List (List Int)))).bind fun x3=>
 (cV k x3.2).bind fun c=>
 some (x3.1,c)
theorem kz(k:Nat)(a0:cU)(a1:(List (List Int)))(a2:Int)(r:Int×(List (List Int)))(h:gB k a0 a1 a2=some r):
 bX Tryz.prog 85 [.at bD a0,.rep (.arr 3 (.arr 5 (.int .i64))) a1,I a2] [] (fun _:Unit=>(bp [.eq (.int .u8 r.1),.rep (.arr 3 (.arr 5 (.int .i64))) r.2],[])):=by
 unfold gB at h
 replace h:=be h
 refine bX.of 37 Tryz.func85 rfl Tryz.ntmps85 rfl fun S w0=>?_
 refine sr ?_
 refine bx fun b1=>?_
 refine cq ?_
 refine aE rfl rfl rfl (bJ rfl lg lK) trivial fun b2=>?_
 refine nt ?_
 refine sr ?_
 refine cq ?_
 refine nt ?_
 refine sr ?_
 refine cq ?_
 refine nt ?_
 refine aP (Z:=Value) (α:=Int×(List (List Int))) (fun z4 x3=>[(7,Pt b2),(8,.eq (.int .u8 x3.1)),(9,.eq z4)]) (fun z4 x3=>[.obj b2 107 (.rep (.arr 3 (.arr 5 (.int .i64))) [[0,0,0,0,0],[0,0,0,0,0],[0,0,0,0,0]]),.sl z4 23 (.slice (.int .i64)) x3.2]) h (fun K h=>?_) (fun z4 x3 h=>?_)
 ·
  refine sr (dQ rfl ?_);refine nt (aj (fU (SE.nil 23 (.slice (.int .i64))) ?_));refine aG (fun z6 y5=>[(0,.at bD a0),(2,I a2),(4,Pt b1),(7,Pt b2),(8,.eq (.int .u8 y5.1)),(9,.eq z6),(13,I y5.2.2)]) (fun z6 y5=>[.obj b1 107 (.rep (.arr 3 (.arr 5 (.int .i64))) a1),.obj b2 107 (.rep (.arr 3 (.arr 5 (.int .i64))) [[0,0,0,0,0],[0,0,0,0,0],[0,0,0,0,0]]),.sl z6 23 (.slice (.int .i64)) y5.2.1]) (cI k a0 a1 a2) k (.slice none 0 0) (0,([]:(List (List Int))),0) (fun _=>rfl) h (SE.fin [2,1,0] ⟨rfl,rfl,rfl,rfl,rfl,rfl,rfl,trivial⟩ rfl) (fun n z6 y5 h=>?_);unfold cI at h;refine sr (jb (bq rfl) ?_);refine nt (ae (ci h (fun h=>?_) (fun h=>?_)))
  ·refine sk (ae (aj (sr (mq ?_))));refine aq (nt (sr ?_));refine lo cF ?_;refine mq ?_;obtain⟨r7,D,h⟩:=aa h;refine jb (ak [.tmp 17,.tmp 18] rfl rfl BY rfl (f6 k a1 y5.2.2 r7 D)) ?_;iterate 2 refine mq ?_
   obtain⟨r8,y,h⟩:=aa h;refine jb (ak [.tmp 20,.tmp 21] rfl rfl OZ rfl (mE k a0 a2 r8 y)) ?_;obtain⟨r9,x,h⟩:=aa h;refine jb (ak [.tmp 19,.tmp 22] rfl rfl O0 rfl (sP k r7 r8 r9 x)) ?_;refine mq ?_;refine xr ?_;refine xr ?_;refine aq ?_;refine aq (nt (sr ?_));iterate 2 refine mq ?_
   refine jb (ND rfl) ?_;refine aq (nt (ab ?_));iterate 2 refine mq ?_
   refine ja (bH (t:=(.slice (.int .i64))) [(.tmp 30,_)] [r9.2] rfl rfl rT (.cons rfl .rep .nil) rfl rfl) ?_;obtain⟨E,j,h⟩:=aa h;refine fr 2 ?_;refine ek rfl rfl rfl (cg rfl rfl rT (aC j)) ⟨rfl,rfl,trivial⟩ fun u=>?_;refine aq (ar (aL (tn (ab ?_))));obtain⟨s,e,h⟩:=aa h;refine jb (ba rfl e) ?_;refine mq (nl ?_);exact jz (u,(BM .u8 y5.1 r9.1,y5.2.1++[r9.2],s)) h [1,2,0]
  ·refine xa ?_;exact jz (z6,(y5.1,y5.2.1)) h [1,2]
 ·
  refine sr ?_;iterate 2 refine mq ?_
  obtain⟨c,l,h⟩:=aa h;refine fr 1 ?_;refine ka (uO (N:=[(.tmp 35,.eq z4)]) (ak [.tmp 35] rfl rfl zq rfl (dq k x3.2 c l)) (fun _ _ _ hv hn=>⟨(lend hn.1 hv),trivial⟩) (fun _=>⟨rfl,zp⟩)) ?_;refine aq ?_;refine fr 1 ?_;refine bf rfl rfl (a9 rfl cF rfl rfl rfl) ⟨rfl,rfl,trivial⟩ ?_;refine nt (aA ?_);cases h;exact aD () [_,.rep (.arr 3 (.arr 5 (.int .i64))) c] 0 ⟨rfl,⟨_,_,_,_,_,rfl,(.head _),cF,(vL),rfl⟩,trivial⟩ rfl
def dV(k:Nat)(a0:cU)(a1:(List (List Int))):Nat→((List (List Int))×Int)→Option (List (List Int))
 |0,_=>none
 |n+1,y6=>
  if y6.2 < ((List.replicate (Int.toNat (a0.1.2.2.length:Int)) ([]:(List Int))).length:Int) then((dJ k a1 y6.2).bind fun r8=>
  (aZ y6.1 y6.2).bind fun x9=>
  (ck (y6.2+1)).bind fun c=>
  dV k a0 a1 n (List.set y6.1 (Int.toNat y6.2) r8,c)) else(some y6.1)
def dM(k:Nat)(a0:cU)(a1:(List (List Int))):Option (List (List Int)):=
 (dT (0≤(a0.1.2.2.length:Int)∧bV (Int.toNat (a0.1.2.2.length:Int)))).bind fun _=>
 ((dV k a0 a1 k (List.replicate (Int.toNat (a0.1.2.2.length:Int)) ([]:(List Int)),0)):Option ((List (List Int)))).bind fun x4=>
 some x4
theorem hP(k:Nat)(a0:cU)(a1:(List (List Int)))(r:(List (List Int)))(h:dM k a0 a1=some r):
 bX Tryz.prog 88 [.at bD a0,.rep (.arr 3 (.arr 5 (.int .i64))) a1] [] (fun z:Value=>(bp [.eq z],[.sl z 23 (.slice (.int .i64)) r])):=by
 unfold dM at h
 replace h:=be h
 refine bX.of 27 Tryz.func88 rfl Tryz.ntmps88 rfl fun S w0=>?_
 refine sr ?_
 refine bx fun b1=>?_
 refine cq ?_
 refine nt ?_
 refine sr ?_
 refine mq ?_
 refine ja (dC rfl) ?_
 refine ja (aN 3 true rfl jx rfl) ?_
 refine ja (aN 1 false rfl fR rfl) ?_
 refine ja (an (t:=(.slice (.int .i64))) rfl cd rfl) ?_
 refine ol dE ?_
 obtain⟨u2,j,h⟩:=aa h
 refine aE rfl rfl rfl (wS (t:=(.slice (.int .i64))) (d:=([]:(List Int))) rfl rT P3 (aC j).1 (aC j).2) ⟨rfl,rfl,trivial⟩ fun v3=>?_
 refine aq ?_
 refine nt ?_
 refine aP (Z:=Unit) (α:=(List (List Int))) (fun z5 x4=>[(5,.eq v3)]) (fun z5 x4=>[.sl v3 23 (.slice (.int .i64)) x4]) h (fun K h=>?_) (fun z5 x4 h=>?_)
 ·
  refine sr (mq ?_);refine ka (c9 rfl rfl mf) ?_;refine dQ rfl ?_;refine nt (aj (aG (fun z7 y6=>[(3,Pt b1),(5,.eq v3),(15,I ((List.replicate (Int.toNat (a0.1.2.2.length:Int)) ([]:(List Int))).length:Int)),(16,I y6.2)]) (fun z7 y6=>[.obj b1 107 (.rep (.arr 3 (.arr 5 (.int .i64))) a1),.sl v3 23 (.slice (.int .i64)) y6.1]) (dV k a0 a1) k () (List.replicate (Int.toNat (a0.1.2.2.length:Int)) ([]:(List Int)),0) (fun _=>rfl) h (SE.fin [1,0] ⟨rfl,rfl,rfl,rfl,trivial⟩ rfl) (fun n z7 y6 h=>?_)));unfold dV at h;refine sr (jb (bq rfl) ?_);refine nt (ae (ci h (fun h=>?_) (fun h=>?_)))
  ·refine sk (ae (aj (sr (mq ?_))));refine aq (nt (ab ?_));iterate 2 refine mq ?_
   refine lo cF ?_;refine mq ?_;obtain⟨r8,s,h⟩:=aa h;refine jb (ak [.tmp 21,.tmp 22] rfl rfl BY rfl (f6 k a1 y6.2 r8 s)) ?_;obtain⟨x9,c,h⟩:=aa h;refine fr 1 ?_;refine kb (bh (t:=(.slice (.int .i64))) rfl mf cd c) ?_;refine bf rfl rfl (c6 (i:=Int.toNat y6.2) rfl cd rfl (ix c) rfl .rep rfl) ⟨rfl,rfl,trivial⟩ ?_;refine ar (aL (tn (ab ?_)));obtain⟨l,e,h⟩:=aa h;refine jb (ba rfl e) ?_;refine mq (nl ?_);exact jz ((),(List.set y6.1 (Int.toNat y6.2) r8,l)) h [1,0]
  ·refine xa ?_;exact jz ((),y6.1) h [1]
 ·
  refine sr (mq ?_);refine aq (nt (aA ?_));cases h;exact aD v3 [.eq v3] 1 ⟨rfl,trivial⟩ rfl
def dz(k:Nat)(a0:(List Int))(a1:(List Int)):Nat→Int→Option (Except Bool Unit)
 |0,_=>none
 |n+1,y3=>
  if y3 < (a0.length:Int) then((aZ a0 y3).bind fun x5=>
  (aZ a1 y3).bind fun x6=>
  if¬(x5=x6) then(some (.error false)) else((ck (y3+1)).bind fun x7=>
  dz k a0 a1 n x7)) else(some (.ok ()))
def eI(k:Nat)(a0:(List Int))(a1:(List Int)):Option Bool:=
 if¬((a0.length:Int)=(a1.length:Int)) then(some false) else(bE (α:=Unit) (dz k a0 a1 k 0) (some) fun _=>
 some true)
theorem iU(k:Nat)(a0:(List Int))(a1:(List Int))(r:Bool)(h:eI k a0 a1=some r):
 bX Tryz.prog 37 [Ri a0,Ri a1] [] (fun _:Unit=>(bp [.eq (.bool r)],[])):=by
 unfold eI at h
 replace h:=be h
 refine bX.of 26 Tryz.func37 rfl Tryz.ntmps37 rfl fun S w0=>?_
 refine sr ?_
 refine cq ?_
 refine nt ?_
 refine ae ?_
 refine sr ?_
 refine mq ?_
 refine ol dE ?_
 refine mq ?_
 refine ol dE ?_
 refine jb (eZ rfl) ?_
 refine nt ?_
 refine cn h (fun h=>?_) (fun h=>?_)
 ·
  refine sr (cq (nt (rx ?_)));cases h;exact ra
 ·
  refine sk (du (Z:=Unit) (α:=Unit) (fun z2 x1=>[]) (fun z2 x1=>[]) (fun e=>e=r) h (fun e h=>Option.some.inj h) (fun K hR h=>?_) (fun z2 x1 h=>?_))
  ·refine sr (cq (nt (aj ?_)));refine aG (fun z4 y3=>[(0,Ri a0),(1,Ri a1),(5,I y3)]) (fun z4 y3=>[]) (dz k a0 a1) k () 0 (fun _=>rfl) h (SE.fin [] ⟨rfl,rfl,rfl,trivial⟩ rfl) (fun n z4 y3 h=>?_);unfold dz at h;refine ae (sr ?_);iterate 2 refine mq ?_
   refine ol dE ?_;refine jb (bq rfl) ?_;refine nt (ci h (fun h=>?_) (fun h=>?_))
   ·refine sk (ae (aj (ae (cm ?_))));refine dm ?_;refine dm ?_;obtain⟨x5,l,h⟩:=aa h;refine db (aH (t:=(.int .i64)) rfl dE cu l) ?_;refine da (an (t:=(.int .i64)) rfl cu rfl) ?_;refine dm ?_;refine dm ?_;obtain⟨x6,j,h⟩:=aa h;refine db (aH (t:=(.int .i64)) rfl dE cu j) ?_;refine da (an (t:=(.int .i64)) rfl cu rfl) ?_;refine df eM ?_;refine jb (eZ rfl) ?_;refine nt (cn h (fun h=>?_) (fun h=>?_))
    ·refine sr (cq (nt (aA (br (aV (aK ?_))))));obtain rfl:=hR _ h;exact ra
    ·refine aS (aL (tn (ab (mq ?_))));obtain⟨x7,c,h⟩:=aa h;refine jb (ba rfl c) ?_;refine aq (nl ?_);exact jz ((),x7) h []
   ·refine xa ?_;exact jz ((),()) h []
  ·refine sr (cq (nt (aA ?_)));cases h;exact ra
def eT(k:Nat)(a0:(List (List Int)))(a1:(List (List Int))):Nat→Int→Option (Except Bool Unit)
 |0,_=>none
 |n+1,y3=>
  if y3 < (a0.length:Int) then((aZ a0 y3).bind fun x5=>
  (aZ a1 y3).bind fun x6=>
  (eI k x5 x6).bind fun r7=>
  if¬(r7=true) then(some (.error false)) else((ck (y3+1)).bind fun x8=>
  eT k a0 a1 n x8)) else(some (.ok ()))
def fP(k:Nat)(a0:(List (List Int)))(a1:(List (List Int))):Option Bool:=
 if¬((a0.length:Int)=(a1.length:Int)) then(some false) else(bE (α:=Unit) (eT k a0 a1 k 0) (some) fun _=>
 some true)
theorem jM(k:Nat)(a0:(List (List Int)))(a1:(List (List Int)))(r:Bool)(h:fP k a0 a1=some r):
 bX Tryz.prog 38 [.rep (.slice (.slice (.int .i64))) a0,.rep (.slice (.slice (.int .i64))) a1] [] (fun _:Unit=>(bp [.eq (.bool r)],[])):=by
 unfold fP at h
 replace h:=be h
 refine bX.of 27 Tryz.func38 rfl Tryz.ntmps38 rfl fun S w0=>?_
 refine sr ?_
 refine cq ?_
 refine nt ?_
 refine ae ?_
 refine sr ?_
 refine mq ?_
 refine ol mf ?_
 refine mq ?_
 refine ol mf ?_
 refine jb (eZ rfl) ?_
 refine nt ?_
 refine cn h (fun h=>?_) (fun h=>?_)
 ·
  refine sr (cq (nt (rx ?_)));cases h;exact ra
 ·
  refine sk (du (Z:=Unit) (α:=Unit) (fun z2 x1=>[]) (fun z2 x1=>[]) (fun e=>e=r) h (fun e h=>Option.some.inj h) (fun K hR h=>?_) (fun z2 x1 h=>?_))
  ·refine sr (cq (nt (aj ?_)));refine aG (fun z4 y3=>[(0,.rep (.slice (.slice (.int .i64))) a0),(1,.rep (.slice (.slice (.int .i64))) a1),(5,I y3)]) (fun z4 y3=>[]) (eT k a0 a1) k () 0 (fun _=>rfl) h (SE.fin [] ⟨rfl,rfl,rfl,trivial⟩ rfl) (fun n z4 y3 h=>?_);unfold eT at h;refine ae (sr ?_);iterate 2 refine mq ?_
   refine ol mf ?_;refine jb (bq rfl) ?_;refine nt (ci h (fun h=>?_) (fun h=>?_))
   ·refine sk (ae (aj (ae (cm ?_))));refine dm ?_;refine dm ?_;obtain⟨x5,l,h⟩:=aa h;refine db (aH (t:=(.slice (.int .i64))) rfl mf cd l) ?_;refine da (an (t:=(.slice (.int .i64))) rfl cd rfl) ?_;refine dm ?_;refine dm ?_;obtain⟨x6,j,h⟩:=aa h;refine db (aH (t:=(.slice (.int .i64))) rfl mf cd j) ?_;refine da (an (t:=(.slice (.int .i64))) rfl cd rfl) ?_;refine df eM ?_;obtain⟨r7,s,h⟩:=aa h;refine jb (ak [.tmp 20,.tmp 24] rfl rfl Jc rfl (iU k x5 x6 r7 s)) ?_;refine ja (eB rfl) ?_;refine nt (cw h (fun h=>?_) (fun h=>?_))
    ·refine sr (cq (nt (aA (br (aV (aK ?_))))));obtain rfl:=hR _ h;exact ra
    ·refine aS (aL (tn (ab (mq ?_))));obtain⟨x8,c,h⟩:=aa h;refine jb (ba rfl c) ?_;refine aq (nl ?_);exact jz ((),x8) h []
   ·refine xa ?_;exact jz ((),()) h []
  ·refine sr (cq (nt (aA ?_)));cases h;exact ra
def jY(k:Nat)(a0:List Int):Option (List Int):=
 (dT (bV (List.length a0))).bind fun _=>some a0
theorem mM(k:Nat)(a0:List Int)(r:List Int)(h:jY k a0=some r):
 bX Tryz.prog 97 [Ri a0] [] (fun z:Value=>(bp [.eq z],[.sl z 3 (.int .i64) r])):=by
 unfold jY at h
 replace h:=be h
 refine bX.of 8 Tryz.func97 rfl Tryz.ntmps97 rfl fun S w0=>?_
 obtain⟨u1,c,h⟩:=aa h
 cases h
 refine sr ?_
 refine cq ?_
 refine nt ?_
 refine ae ?_
 refine sr ?_
 refine mq ?_
 refine bN (Δ:=[]) (F:=_) (fun _ _ _=>av rfl _) rfl rfl (Is rfl dE) ⟨rfl,rfl,trivial⟩ fun b=>?_
 refine nt ?_
 refine bG rfl (fun hb=>?_) (fun hb=>?_)
 ·
  refine sr (cq (nt (rx ?_)));obtain rfl:=b.2 hb;refine bv (SE.nil 3 (.int .i64)) ?_;exact aD (.slice none 0 0) [.eq (.slice none 0 0)] 1 ⟨rfl,trivial⟩ rfl
 ·
  refine sk (sr (aE rfl rfl rfl (nk (t:=(.int .i64)) [] [] rfl rfl eF .nil rfl rfl) trivial fun v1=>?_));refine mq ?_;refine ek rfl rfl rfl (cg rfl rfl eF (by simpa using aC c)) ⟨rfl,rfl,trivial⟩ fun v2=>?_;refine aq (nt (aA ?_));exact aD v2 [.eq v2] 1 ⟨rfl,trivial⟩ rfl
def dW(k:Nat)(a0:cU)(a2:Int):Nat→((List (List Int))×Int)→Option (List (List Int))
 |0,_=>none
 |n+1,y5=>
  if y5.2 < a2 then((gB k a0 y5.1 y5.2).bind fun r7=>
  (ck (y5.2+1)).bind fun x8=>
  dW k a0 a2 n (r7.2,x8)) else(some y5.1)
def f4(k:Nat)(a0:cU)(a1:(List (List Int)))(a2:Int):Option (List (List Int)):=
 ((dW k a0 a2 k (a1,0)):Option ((List (List Int)))).bind fun x3=>
 some x3
theorem lX(k:Nat)(a0:cU)(a1:(List (List Int)))(a2:Int)(r:(List (List Int)))(h:f4 k a0 a1 a2=some r):
 bX Tryz.prog 103 [.at bD a0,.rep (.arr 3 (.arr 5 (.int .i64))) a1,I a2] [] (fun _:Unit=>(bp [.rep (.arr 3 (.arr 5 (.int .i64))) r],[])):=by
 unfold f4 at h
 replace h:=be h
 refine bX.of 21 Tryz.func103 rfl Tryz.ntmps103 rfl fun S w0=>?_
 refine sr ?_
 refine bx fun b1=>?_
 refine aE rfl rfl rfl (bJ rfl lg lK) trivial fun b2=>?_
 refine nt ?_
 refine aP (Z:=Unit) (α:=(List (List Int))) (fun z4 x3=>[(4,Pt b1),(6,Pt b2)]) (fun z4 x3=>[.obj b1 107 (.rep (.arr 3 (.arr 5 (.int .i64))) x3),.obj b2 107 (.rep (.arr 3 (.arr 5 (.int .i64))) [[0,0,0,0,0],[0,0,0,0,0],[0,0,0,0,0]])]) h (fun K h=>?_) (fun z4 x3 h=>?_)
 ·
  refine sr (mq ?_);refine dQ rfl ?_;refine nt (aj (aG (fun z6 y5=>[(0,.at bD a0),(4,Pt b1),(6,Pt b2),(8,I a2),(9,I y5.2)]) (fun z6 y5=>[.obj b1 107 (.rep (.arr 3 (.arr 5 (.int .i64))) y5.1),.obj b2 107 (.rep (.arr 3 (.arr 5 (.int .i64))) [[0,0,0,0,0],[0,0,0,0,0],[0,0,0,0,0]])]) (dW k a0 a2) k () (a1,0) (fun _=>rfl) h (SE.fin [1,0] ⟨rfl,rfl,rfl,rfl,rfl,trivial⟩ rfl) (fun n z6 y5 h=>?_)));unfold dW at h;refine sr (jb (bq rfl) ?_);refine nt (ae (ci h (fun h=>?_) (fun h=>?_)))
  ·refine sk (ae (aj (sr (mq ?_))));refine aq (nt (ab ?_));refine mq ?_;refine lo cF ?_;refine mq ?_;obtain⟨r7,e,h⟩:=aa h;refine jc (ak [.tmp 13,.tmp 14,.tmp 15] rfl rfl LP rfl (kz k a0 y5.1 y5.2 r7 e)) ?_;refine mq ?_;refine xr ?_;refine xr ?_;refine bf rfl rfl (a9 rfl cF rfl rfl rfl) ⟨rfl,rfl,trivial⟩ ?_;refine ar (aL (tn (ab ?_)));obtain⟨x8,c,h⟩:=aa h;refine jb (ba rfl c) ?_;refine mq (nl ?_);exact jz ((),(r7.2,x8)) h [0,1]
  ·refine xa ?_;exact jz ((),y5.1) h [0,1]
 ·
  refine sr (lo cF ?_);refine fr 1 ?_;refine bf rfl rfl (a9 rfl cF rfl rfl rfl) ⟨rfl,rfl,trivial⟩ ?_;refine nt (aA ?_);obtain rfl:=Option.some.inj h;exact aD () [.rep (.arr 3 (.arr 5 (.int .i64))) x3] 0 ⟨⟨_,_,_,_,_,rfl,(.head _),cF,(vL),rfl⟩,trivial⟩ rfl
def lr(k:Nat)(a0:List Int)(a1 a2:Int):Option (List Int):=
 (dT (0≤a1∧a1 < a2∧a2≤(a0.length:Int))).bind fun _=>some (a0.take a1.toNat++a0.drop a2.toNat)
theorem qO(k:Nat)(a0:List Int)(v:Value)(a1 a2:Int)(r:List Int)(h:lr k a0 a1 a2=some r):bX Tryz.prog 143 [.eq v,.eq (.int .i64 a1),.eq (.int .i64 a2)] [.sl v 3 (.int .i64) a0] (fun z:Value=>(bp [.eq z],[.sl z 3 (.int .i64) r])):=by
 unfold lr at h
 replace h:=be h
 obtain⟨u1,eg,h⟩:=aa h
 obtain⟨h1,h2,h3⟩:=aC eg
 obtain rfl:=Option.some.inj h
 refine bX.of 33 Tryz.func143 rfl Tryz.ntmps143 rfl fun S w0=>?_
 refine En (fun e=>by rw [e] at h3;simp at h3;omega) fun b cap hv hcap=>?_
 subst hv
 have hl:(a0.take a1.toNat++a0.drop a2.toNat).length=a1.toNat+(a0.length - a2.toNat):=by simp;omega
 refine ae ?_
 refine ab ?_
 refine dH rfl ?_
 refine ar (ag ?_)
 show JC _ _ _ _ _
 refine ae ?_
 refine ab ?_
 refine ax rfl rfl ?_
 refine ax rfl rfl ?_
 refine ax rfl rfl ?_
 refine ax rfl rfl ?_
 refine bU rfl rfl rfl (c9 rfl rfl dE) ⟨rfl,trivial⟩ ?_
 refine aB rfl (wR rfl dE cu h1 (by omega) h3 (by omega)) ⟨rfl,rfl,rfl,rfl,trivial⟩ ?_
 refine ar (ag ?_)
 show JC _ _ _ _ _
 refine ae ?_
 refine ae ?_
 refine ab ?_
 refine ax rfl rfl ?_
 refine ax rfl rfl ?_
 refine aB rfl (fj rfl) ⟨rfl,rfl,trivial⟩ ?_
 refine ar (ag ?_)
 show JC _ _ _ _ _
 refine bG rfl (fun hb=>absurd (of_decide_eq_true hb) (by omega)) (fun hb=>?_)
 refine aS (ag ?_)
 show JC _ _ _ _ _
 refine ae ?_
 refine ab ?_
 refine ax rfl rfl ?_
 refine bU rfl rfl rfl (c9 rfl rfl dE) ⟨rfl,trivial⟩ ?_
 refine dk rfl rfl ?_
 refine ar (ag ?_)
 show JC _ _ _ _ _
 refine ae ?_
 refine cm ?_
 refine dw rfl rfl rfl (aR rfl) ⟨rfl,trivial⟩ ?_
 refine dw rfl rfl rfl (aR rfl) ⟨rfl,trivial⟩ ?_
 refine dw rfl rfl rfl (ud rfl dE cu h1 (by omega)) ⟨rfl,rfl,trivial⟩ ?_
 refine dw rfl rfl rfl (aR rfl) ⟨rfl,trivial⟩ ?_
 refine dw rfl rfl rfl (aR rfl) ⟨rfl,trivial⟩ ?_
 refine dw rfl rfl rfl (AC rfl dE cu (by omega) h3) ⟨rfl,rfl,trivial⟩ ?_
 refine sN (by kernel_rfl) eM ?_
 refine cJ (rF 22 rfl fun _ _ _ h=>(Bt▸h:(A.eq (.slice (some ⟨b,0,none⟩) a1.toNat cap)).holds _ _ _)) ?_
 refine bU rfl rfl rfl (wU (t:=.int .i64) (b:=b) (cap:=cap) (l:=a0) (i:=a1.toNat) (j:=a2.toNat) rfl rfl eF (by omega) (by omega) hcap) ⟨rfl,rfl,trivial⟩ ?_
 refine dk rfl rfl ?_
 refine ar (ag ?_)
 show JC _ _ _ _ _
 refine ae ?_
 refine ab ?_
 refine ax rfl rfl ?_
 refine ax rfl rfl ?_
 refine bU rfl rfl rfl (c9 rfl rfl dE) ⟨rfl,trivial⟩ ?_
 refine ax rfl rfl ?_
 refine aB rfl (yz rfl dE cu (by omega) (by rw [hl];omega) (by omega)) ⟨rfl,rfl,rfl,trivial⟩ ?_
 refine bf rfl rfl (yG (t:=.int .i64) (b:=b) (cap:=cap) (l:=a0.take a1.toNat++a0.drop a2.toNat) (n:=a0.length) rfl rfl dE rfl Rh rfl rfl (by rw [hl];omega) hcap) ⟨rfl,trivial⟩ ?_
 refine ar (ag ?_)
 show JC _ _ _ _ _
 refine ae ?_
 refine ab ?_
 refine ax rfl rfl ?_
 refine dk rfl rfl ?_
 refine ar (ag ?_)
 show JC _ _ _ _ _
 refine aA ?_
 exact aD _ [.eq _] 1 ⟨rfl,trivial⟩ rfl
def jW(k:Nat)(x7:Int)(h:(List (List Int))):Nat→((List (List Int))×Int)→Option (List (List Int))
 |0,_=>none
 |n+1,c=>
  if c.2 < (h.length:Int) then((aZ h c.2).bind fun e=>
  (dT (bV (List.length [x7]+List.length e))).bind fun _=>
  (dT (bV (List.length c.1+List.length [[x7]++e]))).bind fun _=>
  (ck (c.2+1)).bind fun j=>
  jW k x7 h n (c.1++[[x7]++e],j)) else(some c.1)
def jX(k:Nat)(a0:(List Int))(self:(List Int)→Option ((List (List Int)))):Nat→((List (List Int))×Int)→Option (List (List Int))
 |0,_=>none
 |n+1,y3=>
  if y3.2 < (a0.length:Int) then((((aZ a0 y3.2).bind fun x7=>
  (jY k a0).bind fun r8=>
  (ck (y3.2+1)).bind fun e=>
  (lr k r8 y3.2 e).bind fun j=>
  (self j).bind fun h=>
  jW k x7 h k (y3.1,0)):Option ((List (List Int)))).bind fun x5=>
  (ck (y3.2+1)).bind fun c=>
  jX k a0 self n (x5,c)) else(some y3.1)
def li(k:Nat):Nat→(List Int)→Option ((List (List Int)))
 |0,_=>none
 |m0+1,a0=>
  if(a0.length:Int)=0 then(some [[]]) else(((jX k a0 (li k m0) k (([]:(List (List Int))),0)):Option ((List (List Int)))).bind fun x1=>
  some x1)
theorem uY(k:Nat):
 ∀(n:Nat) (a0:(List Int)) (r:(List (List Int))),li k n a0=some r→bX Tryz.prog 107 [Ri a0] ([]) (fun _:Unit=>(bp [.rep (.slice (.slice (.int .i64))) r],[])):=by
 intro n
 induction n with
 |zero=>intro a0 r h;cases h
 |succ m0 ih=>
  intro a0 r h;rw [li] at h;replace h:=be h;refine bX.of 41 Tryz.func107 rfl Tryz.ntmps107 rfl fun S w0=>?_;refine sr (cq (nt (ae (sr ?_))));refine mq ?_;refine ol dE ?_;refine jb (fj rfl) ?_;refine nt (ci h (fun h=>?_) (fun h=>?_))
  ·refine sr (ja (bH (t:=(.slice (.int .i64))) [(.const (.slice none 0 0),_)] [[]] rfl rfl rT (.cons rfl .nil .nil) rfl rfl) ?_);refine aq (nt (rx ?_));cases h;exact ra
  ·refine sk (sr (cq (nt ?_)));refine aP (Z:=Value) (α:=(List (List Int))) (fun z2 x1=>[(3,.eq z2)]) (fun z2 x1=>[.sl z2 23 (.slice (.int .i64)) x1]) h (fun K h=>?_) (fun z2 x1 h=>?_)
   ·refine sr (mq ?_);refine ol dE ?_;refine dQ rfl ?_;refine nt (aj (fU (SE.nil 23 (.slice (.int .i64))) ?_));refine aG (fun z4 y3=>[(0,Ri a0),(3,.eq z4),(12,Ri a0),(13,I (a0.length:Int)),(14,I y3.2)]) (fun z4 y3=>[.sl z4 23 (.slice (.int .i64)) y3.1]) (jX k a0 (li k m0)) k (.slice none 0 0) (([]:(List (List Int))),0) (fun _=>rfl) h (SE.fin [0] ⟨rfl,rfl,rfl,rfl,rfl,trivial⟩ rfl) (fun n z4 y3 h=>?_);unfold jX at h;refine sr (jb (bq rfl) ?_);refine nt (ae (ci h (fun h=>?_) (fun h=>?_)))
    ·refine sk (aP (Z:=Value) (α:=(List (List Int))) (fun z6 x5=>[(0,Ri a0),(3,.eq z6),(12,Ri a0),(13,I (a0.length:Int)),(14,I y3.2)]) (fun z6 x5=>[.sl z6 23 (.slice (.int .i64)) x5]) h (fun K h=>?_) (fun z6 x5 h=>?_))
     ·refine aj (sr (mq ?_));obtain⟨x7,Y,h⟩:=aa h;refine jb (aH (t:=(.int .i64)) rfl dE cu Y) ?_;refine ja (an (t:=(.int .i64)) rfl cu rfl) ?_;refine aq ?_;refine aq (nt (sr ?_));refine mq ?_;obtain⟨r8,ac,h⟩:=aa h;refine aE rfl rfl rfl (ak [.tmp 19] rfl rfl Qw rfl (mM k a0 r8 ac)) ⟨rfl,trivial⟩ fun v9=>?_;iterate 2 refine mq ?_
      obtain⟨U,D,h⟩:=aa h;refine jb (ba rfl D) ?_;obtain⟨s,M,h⟩:=aa h;refine ek rfl rfl rfl (ak [.tmp 20,.tmp 21,.tmp 23] rfl rfl OX rfl (qO k r8 v9 y3.2 U s M)) ⟨rfl,rfl,rfl,trivial⟩ fun qt=>?_;refine cJ (fp [24] ⟨rfl,trivial⟩) ?_;obtain⟨j,J,h⟩:=aa h;refine ja (ak [.tmp 24] rfl rfl Kv rfl (ih s j J)) ?_;refine ol mf ?_;refine dQ rfl ?_;refine nt (aj (aG (fun e c=>[(0,Ri a0),(3,.eq e),(5,I x7),(12,Ri a0),(13,I (a0.length:Int)),(14,I y3.2),(25,.rep (.slice (.slice (.int .i64))) j),(26,I (j.length:Int)),(27,I c.2)]) (fun e c=>[.sl e 23 (.slice (.int .i64)) c.1]) (jW k x7 j) k z4 (y3.1,0) (fun _=>rfl) h (SE.fin [0] ⟨rfl,rfl,rfl,rfl,rfl,rfl,rfl,rfl,rfl,trivial⟩ rfl) (fun n e c h=>?_)));unfold jW at h;refine sr (jb (bq rfl) ?_);refine nt (ae (ci h (fun h=>?_) (fun h=>?_)))
      ·refine sk (ae (aj (sr ?_)));obtain⟨l,y,h⟩:=aa h;refine jb (aH (t:=(.slice (.int .i64))) rfl mf cd y) ?_;refine ja (an (t:=(.slice (.int .i64))) rfl cd rfl) ?_;refine aq (nt (ab ?_));iterate 2 refine mq ?_
       refine aE rfl rfl rfl (nk (t:=(.int .i64)) [(.tmp 32,_)] [x7] rfl rfl eF (.cons rfl .int .nil) rfl rfl) ⟨rfl,trivial⟩ fun pp=>?_;refine mq ?_;obtain⟨Ru,F,h⟩:=aa h;refine ek rfl rfl rfl (cg rfl rfl eF (aC F)) ⟨rfl,rfl,trivial⟩ fun mc=>?_;refine cJ (fp [35] ⟨rfl,trivial⟩) ?_;refine ja (bH (t:=(.slice (.int .i64))) [(.tmp 35,_)] [[x7]++l] rfl rfl rT (.cons rfl .rep .nil) rfl rfl) ?_;obtain⟨se,E,h⟩:=aa h;refine ek rfl rfl rfl (cg rfl rfl rT (aC E)) ⟨rfl,rfl,trivial⟩ fun X=>?_;refine aq (ar (aL (tn (ab ?_))));obtain⟨Q,x,h⟩:=aa h;refine jb (ba rfl x) ?_;refine mq (nl ?_);exact jz (X,(c.1++[[x7]++l],Q)) h [0]
      ·refine dt (aM (aM (bO (bn ?_))));exact jz (e,c.1) h [0]
     ·refine ab ?_;obtain⟨O,u,h⟩:=aa h;refine jb (ba rfl u) ?_;refine mq (nl ?_);exact jz (z6,(x5,O)) h [0]
    ·refine xa ?_;exact jz (z4,y3.1) h [0]
   ·refine sr (mq ?_);refine aq (nt (aA ?_));refine bv (fp [2,3,40] ⟨rfl,rfl,rfl,trivial⟩) ?_;cases h;exact ra
def fX{σ:Type}(k:Nat)(a1:(List Int))(Y:σ→Int→Option (σ×Bool)):Nat→(Int×σ)→Option (σ)
 |0,_=>none
 |n+1,y1=>
  if y1.1 < (a1.length:Int) then((aZ a1 y1.1).bind fun x3=>
  (Y y1.2 x3).bind fun r4=>
  if¬(r4.2=true) then(some r4.1) else((ck (y1.1+1)).bind fun x6=>
  fX k a1 Y n (x6,r4.1))) else(some y1.2)
def jF{σ:Type}(k:Nat)(Y:σ→Int→Option (σ×Bool))(a1:(List Int))(s0:σ):Option (σ):=
 fX k a1 Y k (0,s0)
theorem py{M:Md Tryz.prog}{σ Z:Type}(E:Z→σ→List D)(l:Nat)(Y:σ→Int→Option (σ×Bool))(k:Nat)(a1:(List Int))(c:Nat)(hY:∀z s p r,Y s p=some r→YT M l [I p] (E z s) (fun z':Z=>(.eq (.bool r.2),E z' r.1))):
 ∀(z0:Z) (s0:σ) (r:σ),jF k Y a1 s0=some r→dx M 146 [.eq (.func (.yield l) #[] #[]),Pt c] ([.obj c 23 (Ri a1)]++E z0 s0) (fun z:Z=>(bp [],[.obj c 23 (Ri a1)]++E z r)):=by
 intro z0 s0 r h
 unfold jF at h
 replace h:=be h
 refine dx.of 16 Tryz.func146 rfl Tryz.ntmps146 rfl fun S w0=>?_
 refine sr ?_
 refine lo cd ?_
 refine ol dE ?_
 refine dQ rfl ?_
 refine nt ?_
 refine aj ?_
 refine aG (Z:=Z) (α:=Int×σ) (fun z2 y1=>[(0,.eq (.func (.yield l) #[] #[])),(5,Ri a1),(6,I (a1.length:Int)),(7,I y1.1)]) (fun z2 y1=>[.obj c 23 (Ri a1)]++E z2 y1.2) (fX k a1 Y) k z0 (0,s0) (fun _=>rfl) h (bg [.obj c 23 (Ri a1)] (E z0 s0) [0] ⟨rfl,rfl,rfl,rfl,trivial⟩ rfl) (fun n z2 y1 h=>?_)
 unfold fX at h
 refine sr ?_
 refine jb (bq rfl) ?_
 refine nt ?_
 refine ae ?_
 refine ci h (fun h=>?_) (fun h=>?_)
 ·
  refine sk (ae (aj (sr ?_)));obtain⟨x3,j,h⟩:=aa h;refine jb (aH (t:=(.int .i64)) rfl dE cu j) ?_;refine ja (an (t:=(.int .i64)) rfl cu rfl) ?_;refine aq (nt (sr ?_));iterate 2 refine mq ?_
  obtain⟨r4,u,h⟩:=aa h;refine oQ [.obj c 23 (Ri a1)] rfl rfl rfl (wQ [.tmp 12] rfl rfl rfl (hY z2 y1.2 x3 r4 u)) ⟨rfl,rfl,trivial⟩ fun z5=>?_;refine ja (eB rfl) ?_;refine nt (cw h (fun h=>?_) (fun h=>?_))
  ·refine aA (br (aV ?_));cases h;exact iz z5 [] trivial rfl
  ·refine aS (aL (tn (ab ?_)));obtain⟨x6,e,h⟩:=aa h;refine jb (ba rfl e) ?_;refine mq (nl ?_);exact iM (z5,(x6,r4.1)) h (bg [.obj c 23 (Ri a1)] (E z5 r4.1) [0] ⟨rfl,rfl,rfl,rfl,trivial⟩ rfl)
 ·
  refine dt (aM (aM (bO (iN ?_))));cases h;exact iz z2 [] trivial rfl
def jo(k:Nat)(a1:(List Int)):Option (List Int):=
 (jF k (pI (fun(y2:(List Int)) (p4:Int)=>
  (dT (bV (List.length y2+List.length [p4]))).bind fun _=>
  some (y2++[p4],true))) a1 (([]:(List Int)),false)).bind fun r5=>
 if r5.2=true then(none) else(some r5.1)
theorem od(k:Nat)(a1:(List Int))(c:Nat)(r:(List Int))(h:jo k a1=some r):
 bX Tryz.prog 183 [.eq (.slice none 0 0),.eq (.func (.func 146) #[] #[(Pv c)])] [.obj c 23 (Ri a1)] (fun z:Value=>(bp [.eq z],[.sl z 3 (.int .i64) r,.obj c 23 (Ri a1)])):=by
 unfold jo at h
 replace h:=be h
 refine xM 13 Tryz.func183 rfl Tryz.ntmps183 rfl fun {M} S w0=>?_
 refine sr ?_
 refine bx fun b1=>?_
 refine cq ?_
 refine nt ?_
 refine ae ?_
 refine sr ?_
 refine mq ?_
 refine nt ?_
 refine aj ?_
 refine fU (SE.nil 3 (.int .i64)) ?_
 refine iO 1 rfl ?_
 refine iO 2 rfl ?_
 obtain⟨r5,j,h⟩:=aa h
 refine nC (Δ:=[.obj c 23 (Ri a1),.obj b1 23 (.eq (.slice none 0 0)),.sl (.slice none 0 0) 3 (.int .i64) ([]:(List Int))]) (F:=[]) (X:=Value) (J:=fun _=>IL r5.2) (E:=fun z3=>[.obj c 23 (Ri a1),.obj b1 23 (.eq z3),.sl z3 3 (.int .i64) r5.1]) (r0:=fun _=>.tup .any) rfl rfl OT (fun rec hp ha hb hs hpe hN hv l=>?_) (fun dl z3=>pS (fun hj=>?_) (fun hj=>?_))
 ·
  rcases rec with⟨st0,pe0,fn0,tm0,ps0,as0,bd0,df0⟩;dsimp only at hp ha hb hs hpe hN hv;subst hp hs hpe;have vN:uL tm0 [(2,Pt b1)]:=⟨congrArg A.eq (hv 2 _ rfl).symm,trivial⟩;refine dx.pick (M:=M) [1,0,2,3] [1,0,2,3] (py (fun(z3:Value) (q:(List Int)×Bool)=>[.raw l (.loop (jp ⟨.ready,none,fn0,tm0, #[7],as0,bd0,df0⟩ (IL q.2))),.obj b1 23 (.eq z3),.sl z3 3 (.int .i64) q.1]) l (pI (fun(y2:(List Int)) (p4:Int)=>
  (dT (bV (List.length y2+List.length [p4]))).bind fun _=>
  some (y2++[p4],true))) k a1 c (fun z3 q p r' h=>?_) (.slice none 0 0) (([]:(List Int)),false) r5 j) rfl (fun _=>rfl) (fun _=>rfl)
  obtain⟨rq,hq,h2,rfl⟩:=pT h;obtain⟨y2,b5⟩:=q;obtain rfl:b5=false:=hq;replace h:=be h2;obtain⟨p4,hpv⟩:∃x,x=p:=⟨_,rfl⟩;subst hpv;refine YT.pick (R':=(fun z3:Value=>(.eq (.bool rq.2),[.raw l (.loop (jp ⟨.ready,none,fn0,tm0, #[7],as0,bd0,df0⟩ (IL (!rq.2)))),.obj b1 23 (.eq z3),.sl z3 3 (.int .i64) rq.1]))) [0,1,2] [0,1,2] (Hl ha hb (N:=13) (Γ:=[(2,Pt b1)]) rfl hN (by decide) vN (fun S w=>?_)) rfl (fun _=>rfl) (fun _=>rfl);refine ab (aq (nl ?_));refine uQ rfl rfl ?_;refine aj (ab (fr 1 ?_));refine lo cd ?_;refine mq ?_;refine ja (bH (t:=(.int .i64)) [(.tmp 9,_)] [p4] rfl rfl eF (.cons rfl .int .nil) rfl rfl) ?_;obtain⟨u6,e,h⟩:=aa h;refine fr 2 ?_;refine ek rfl rfl rfl (cg rfl rfl eF (aC e)) ⟨rfl,rfl,trivial⟩ fun v7=>?_;refine xH fun o8=>?_;refine fr 1 ?_;refine bf rfl rfl (a9 rfl cd o8 rfl rfl) ⟨rfl,rfl,trivial⟩ ?_;refine ar (aL (dR 1 rfl ?_));refine dR 1 rfl ?_;refine dR 2 rfl ?_;cases h;exact sM v7 2 rfl
 ·
  replace h:=bM (Ew hj) h;refine aL (tn (sr (fr 2 ?_)));refine lo cd ?_;refine aq (nt (aA ?_));refine dR 1 rfl ?_;refine xJ ?_;refine bv (SE.fin (Γ':=[(4,_)]) [2,1,0] ⟨rfl,trivial⟩ rfl) ?_;cases h;exact aD z3 [.eq z3] 2 ⟨rfl,trivial⟩ rfl
 ·
  replace h:=cy (Eu hj) h;cases h
def kA(k:Nat)(a0:(List Int)):Option (List Int):=
 (jo k a0).bind fun r1=>
 some r1
theorem pW(k:Nat)(a0:(List Int))(c:Nat)(r:(List Int))(h:kA k a0=some r):
 bX Tryz.prog 144 [.eq (.func (.func 146) #[] #[(Pv c)])] [.obj c 23 (Ri a0)] (fun z:Value=>(bp [.eq z],[.sl z 3 (.int .i64) r,.obj c 23 (Ri a0)])):=by
 unfold kA at h
 replace h:=be h
 refine bX.of 5 Tryz.func144 rfl Tryz.ntmps144 rfl fun S w0=>?_
 refine sr ?_
 refine cq ?_
 refine nt ?_
 refine sr ?_
 refine mq ?_
 obtain⟨r1,e,h⟩:=aa h
 have j:=od k a0 c r1 e
 refine bN (Δ:=[_]) (F:=_) (fun _ _ _=>av rfl _) rfl rfl (ak [.const (.slice none 0 0),.tmp 3] rfl rfl OO rfl j) ⟨rfl,rfl,trivial⟩ fun z2=>?_
 refine aq ?_
 refine nt ?_
 refine aA ?_
 cases h
 exact aD z2 [.eq z2] 2 ⟨rfl,trivial⟩ rfl
def pq(k:Nat)(a0:Int):Option Bool:=
 some (!decide (a0=a0))
theorem rn(k:Nat)(a0:Int)(r:Bool)(h:pq k a0=some r):
 bX Tryz.prog 189 [I a0] [] (fun _:Unit=>(bp [.eq (.bool r)],[])):=by
 unfold pq at h
 replace h:=be h
 refine bX.of 6 Tryz.func189 rfl Tryz.ntmps189 rfl fun S w0=>?_
 refine sr ?_
 refine cq ?_
 refine nt ?_
 refine sr ?_
 iterate 2 refine mq ?_
 refine jb (eZ rfl) ?_
 refine aq ?_
 refine nt ?_
 refine aA ?_
 cases h
 exact ra
def uH(k:Nat)(a0:Int)(a1:Int):Option Bool:=
 (((pq k a0).bind fun r3=>
 if r3=true then((pq k a1).bind fun r4=>
 if¬(r4=true) then(some true) else(some (decide (a0 < a1)))) else(some (decide (a0 < a1)))):Option (Bool)).bind fun x1=>
 some x1
theorem zA(k:Nat)(a0:Int)(a1:Int)(r:Bool)(h:uH k a0 a1=some r):
 bX Tryz.prog 202 [I a0,I a1] [] (fun _:Unit=>(bp [.eq (.bool r)],[])):=by
 unfold uH at h
 replace h:=be h
 refine bX.of 17 Tryz.func202 rfl Tryz.ntmps202 rfl fun S w0=>?_
 refine sr ?_
 refine cq ?_
 refine nt ?_
 refine aP (Z:=Unit) (α:=Bool) (fun z2 x1=>[(4,.eq (.bool x1))]) (fun z2 x1=>[]) h (fun K h=>?_) (fun z2 x1 h=>?_)
 ·
  refine ab (mq ?_);obtain⟨r3,e,h⟩:=aa h;refine ja (ak [.tmp 5] rfl rfl Ko rfl (rn k a0 r3 e)) ?_;refine mq ?_;refine bT (s:=7) rfl (fun hb=>?_) (fun hb=>?_)
  ·replace h:=cy (Eu hb) h;refine gm ?_;obtain⟨r4,c,h⟩:=aa h;refine ga (ak [.tmp 8] rfl rfl Ko rfl (rn k a1 r4 c)) ?_;refine ga (eB rfl) ?_;refine pt ?_;refine mq ?_;refine bT (s:=12) rfl (fun hb=>?_) (fun hb=>?_)
   ·replace h:=cy (FK hb) h;iterate 3 refine gn ?_
    refine pt ?_;refine aq (nl ?_);exact jz ((),true) h []
   ·replace h:=bM (yI hb) h;refine gm ?_;refine gm ?_;refine gb (bq rfl) ?_;refine pf ?_;refine aq (nl ?_);exact jz ((),decide (a0 < a1)) h []
  ·replace h:=bM (Ew hb) h;iterate 3 refine gn ?_
   refine pf ?_;refine mq ?_;refine gm ?_;refine gm ?_;refine gb (bq rfl) ?_;refine pf ?_;refine aq (nl ?_);exact jz ((),decide (a0 < a1)) h []
 ·
  refine aA ?_;cases h;exact ra
def cz(k:Nat)(a1:Int):Nat→((List Int)×Int)→Option (List Int)
 |0,_=>none
 |n+1,y6=>
  ((if a1 < y6.2 then((aZ y6.1 y6.2).bind fun u=>
  (ck (y6.2 - 1)).bind fun s=>
  (aZ y6.1 s).bind fun r=>
  (uH k u r).bind fun x=>
  some x) else(some false)):Option (Bool)).bind fun x8=>
  if x8=true then((ck (y6.2 - 1)).bind fun e=>
  (ck (y6.2 - 1)).bind fun l=>
  (aZ y6.1 l).bind fun c=>
  (aZ y6.1 y6.2).bind fun j=>
  (aZ y6.1 y6.2).bind fun D=>
  (aZ (List.set y6.1 (Int.toNat y6.2) c) e).bind fun y=>
  (ck (y6.2 - 1)).bind fun h=>
  cz k a1 n (List.set (List.set y6.1 (Int.toNat y6.2) c) (Int.toNat e) j,h)) else(some y6.1)
def cC(k:Nat)(a1:Int)(a2:Int):Nat→((List Int)×Int)→Option (List Int)
 |0,_=>none
 |n+1,y2=>
  if y2.2 < a2 then(((cz k a1 k (y2.1,y2.2)):Option ((List Int))).bind fun x4=>
  (ck (y2.2+1)).bind fun c=>
  cC k a1 a2 n (x4,c)) else(some y2.1)
def dZ(k:Nat)(a0:(List Int))(a1:Int)(a2:Int):Option (List Int):=
 (ck (a1+1)).bind fun x1=>
 cC k a1 a2 k (a0,x1)
theorem jB(k:Nat)(a0:(List Int))(c:Value)(a1:Int)(a2:Int)(r:(List Int))(h:dZ k a0 a1 a2=some r):
 bX Tryz.prog 196 [.eq c,I a1,I a2] [.sl c 3 (.int .i64) a0] (fun _:Unit=>(bp [],[.sl c 3 (.int .i64) r])):=by
 unfold dZ at h
 replace h:=be h
 refine bX.of 49 Tryz.func196 rfl Tryz.ntmps196 rfl fun S w0=>?_
 refine sr ?_
 refine mq ?_
 obtain⟨x1,RN,h⟩:=aa h
 refine jb (ba rfl RN) ?_
 refine aq ?_
 refine nt ?_
 refine aj ?_
 refine aG (fun z3 y2=>[(0,.eq c),(1,I a1),(2,I a2),(6,I y2.2)]) (fun z3 y2=>[.sl c 3 (.int .i64) y2.1]) (cC k a1 a2) k () (a0,x1) (fun _=>rfl) h (SE.fin [0] ⟨rfl,rfl,rfl,rfl,trivial⟩ rfl) (fun n z3 y2 h=>?_)
 unfold cC at h
 refine ae ?_
 refine sr ?_
 iterate 2 refine mq ?_
 refine jb (bq rfl) ?_
 refine nt ?_
 refine ci h (fun h=>?_) (fun h=>?_)
 ·
  refine sk (aP (Z:=Unit) (α:=(List Int)) (fun z5 x4=>[(0,.eq c),(1,I a1),(2,I a2),(6,I y2.2)]) (fun z5 x4=>[.sl c 3 (.int .i64) x4]) h (fun K h=>?_) (fun z5 x4 h=>?_))
  ·refine aj (sr (mq ?_));refine aq (nt (aj ?_));refine aG (fun z7 y6=>[(0,.eq c),(1,I a1),(2,I a2),(6,I y2.2),(7,I y6.2)]) (fun z7 y6=>[.sl c 3 (.int .i64) y6.1]) (cz k a1) k () (y2.1,y2.2) (fun _=>rfl) h (SE.fin [0] ⟨rfl,rfl,rfl,rfl,rfl,trivial⟩ rfl) (fun n z7 y6 h=>?_);unfold cz at h;refine ae (aP (Z:=Unit) (α:=Bool) (fun z9 x8=>[(0,.eq c),(1,I a1),(2,I a2),(6,I y2.2),(7,I y6.2),(30,.eq (.bool x8))]) (fun z9 x8=>[.sl c 3 (.int .i64) y6.1]) h (fun K h=>?_) (fun z9 x8 h=>?_))
   ·refine cm ?_;refine dm ?_;refine dm ?_;refine db (jC rfl) ?_;refine rH rfl rfl rfl (aR rfl) ⟨rfl,trivial⟩ (fun hb=>?_) (fun hb=>?_)
    ·replace h:=cy (nS hb) h;refine bQ rfl rfl rfl rfl rfl (aR rfl) ⟨rfl,rfl,trivial⟩ ?_;refine bQ rfl rfl rfl rfl rfl (aR rfl) ⟨rfl,rfl,trivial⟩ ?_;obtain⟨RA,x,h⟩:=aa h;refine kS 0 rfl rfl rfl rfl rfl rfl (bh (t:=(.int .i64)) rfl dE cu x) ⟨rfl,rfl,rfl,trivial⟩ ?_;refine kS 0 rfl rfl rfl rfl rfl rfl (fq (i:=Int.toNat y6.2) (off:=0) rfl cu (fun _=>rfl) rfl (cQ x).2.2 rfl) ⟨rfl,rfl,trivial⟩ ?_;refine bQ rfl rfl rfl rfl rfl (aR rfl) ⟨rfl,rfl,trivial⟩ ?_;refine bQ rfl rfl rfl rfl rfl (aR rfl) ⟨rfl,rfl,trivial⟩ ?_;obtain⟨Rz,qt,h⟩:=aa h;refine bQ rfl rfl rfl rfl rfl (eA rfl qt) ⟨rfl,rfl,rfl,trivial⟩ ?_;obtain⟨Ry,u,h⟩:=aa h;refine kS 0 rfl rfl rfl rfl rfl rfl (bh (t:=(.int .i64)) rfl dE cu u) ⟨rfl,rfl,rfl,trivial⟩ ?_;refine kS 0 rfl rfl rfl rfl rfl rfl (fq (i:=Int.toNat Rz) (off:=0) rfl cu (fun _=>rfl) rfl (cQ u).2.2 rfl) ⟨rfl,rfl,trivial⟩ ?_;refine df eM ?_;obtain⟨F,se,h⟩:=aa h;refine gb (ak [.tmp 23,.tmp 28] rfl rfl OJ rfl (zA k RA Ry F se)) ?_;refine pt (nl ?_);exact jz ((),F) h [0]
    ·replace h:=bM (nv hb) h;iterate 9 refine dg ?_
     refine df eM ?_;refine gn ?_;refine pf (nl ?_);exact jz ((),false) h [0]
   ·refine cv h (fun h=>?_) (fun h=>?_)
    ·refine sk (ae (aj (kx ?_)));refine aO rfl rfl rfl (aR rfl) ⟨rfl,trivial⟩ ?_;refine aO rfl rfl rfl (aR rfl) ⟨rfl,trivial⟩ ?_;refine aO rfl rfl rfl (aR rfl) ⟨rfl,trivial⟩ ?_;refine aO rfl rfl rfl (aR rfl) ⟨rfl,trivial⟩ ?_;obtain⟨y,pp,h⟩:=aa h;refine aO rfl rfl rfl (eA rfl pp) ⟨rfl,rfl,trivial⟩ ?_;refine aO rfl rfl rfl (aR rfl) ⟨rfl,trivial⟩ ?_;refine aO rfl rfl rfl (aR rfl) ⟨rfl,trivial⟩ ?_;obtain⟨Rx,mc,h⟩:=aa h;refine aO rfl rfl rfl (eA rfl mc) ⟨rfl,rfl,trivial⟩ ?_;obtain⟨E,s,h⟩:=aa h;refine fg 0 rfl rfl rfl rfl (bh (t:=(.int .i64)) rfl dE cu s) ⟨rfl,rfl,trivial⟩ ?_;refine fg 0 rfl rfl rfl rfl (fq (i:=Int.toNat Rx) (off:=0) rfl cu (fun _=>rfl) rfl (cQ s).2.2 rfl) ⟨rfl,trivial⟩ ?_;refine aO rfl rfl rfl (aR rfl) ⟨rfl,trivial⟩ ?_;refine aO rfl rfl rfl (aR rfl) ⟨rfl,trivial⟩ ?_;obtain⟨D,l,h⟩:=aa h;refine fg 0 rfl rfl rfl rfl (bh (t:=(.int .i64)) rfl dE cu l) ⟨rfl,rfl,trivial⟩ ?_;refine fg 0 rfl rfl rfl rfl (fq (i:=Int.toNat y6.2) (off:=0) rfl cu (fun _=>rfl) rfl (cQ l).2.2 rfl) ⟨rfl,trivial⟩ ?_;obtain⟨RX,j,h⟩:=aa h;refine fg 0 rfl rfl rfl rfl (bh (t:=(.int .i64)) rfl dE cu j) ⟨rfl,rfl,trivial⟩ ?_;refine oR 15 [true,true,false,false,false,true,true,true,true,true,true,true,true,true,true] [48] [] [] rfl (by kernel_rfl) (by kernel_rfl) (by kernel_rfl) eM (fun vs hv hB=>?_);obtain⟨w0,Sz,rfl,RL⟩:=ap hv;obtain⟨w1,Sv,rfl,RJ⟩:=ap RL;obtain⟨w2,Su,rfl,RI⟩:=ap RJ;obtain⟨w3,Ss,rfl,RH⟩:=ap RI;obtain⟨w4,Sr,rfl,RG⟩:=ap RH;obtain⟨w5,Sm,rfl,RF⟩:=ap RG;obtain⟨w6,Sl,rfl,RE⟩:=ap RF;obtain⟨w7,Sj,rfl,RD⟩:=ap RE;obtain⟨w8,Si,rfl,RB⟩:=ap RD;obtain⟨w9,RU,rfl,X⟩:=ap RB;obtain⟨R9,RS,rfl,U⟩:=ap X;obtain⟨R7,RR,rfl,Q⟩:=ap U;obtain⟨R2,RQ,rfl,O⟩:=ap Q;obtain⟨RZ,RP,rfl,M⟩:=ap O;obtain⟨RY,RO,rfl,J⟩:=ap M;obtain rfl:=l9 J;refine⟨[0],[.sl c 3 (.int .i64) y6.1],by kernel_rfl,by decide,?_⟩;refine qx rfl rfl (c6 (i:=Int.toNat y6.2) rfl cu rfl (ix j) rfl .int rfl) ⟨rfl,rfl,trivial⟩ (by kernel_rfl) ?_;obtain⟨RV,e,h⟩:=aa h;refine HD rfl rfl rfl rfl (bh (t:=(.int .i64)) rfl dE cu e) ⟨rfl,rfl,trivial⟩ (by kernel_rfl) ?_;refine qx rfl rfl (c6 (i:=Int.toNat y) rfl cu rfl (ix e) rfl .int rfl) ⟨rfl,rfl,trivial⟩ (by kernel_rfl) ?_;refine sL ?_;refine bv (SE.fin (Γ':=[(0,.eq c),(1,I a1),(2,I a2),(6,I y2.2),(7,I y6.2)]) (Δ':=[.sl c 3 (.int .i64) (List.set (List.set y6.1 (Int.toNat y6.2) E) (Int.toNat y) D)]) [0] ⟨rfl,rfl,rfl,rfl,rfl,trivial⟩ rfl) ?_;refine aL (tn (ab (mq ?_)));obtain⟨Rw,ac,h⟩:=aa h;refine jb (eA rfl ac) ?_;refine aq (nl ?_);exact jz ((),(List.set (List.set y6.1 (Int.toNat y6.2) E) (Int.toNat y) D,Rw)) h [0]
    ·refine dt (aM (aM (bO (bn ?_))));exact jz ((),y6.1) h [0]
  ·refine ab (mq ?_);obtain⟨Ru,Y,h⟩:=aa h;refine jb (ba rfl Y) ?_;refine aq (nl ?_);exact jz ((),(x4,Ru)) h [0]
 ·
  refine dt (aM (aM (bO (iN ?_))));cases h;exact aD () [] 1 trivial rfl
def kB(k:Nat)(a0:Int):Option Int:=
 ((if 4294967296≤a0 then(some (ig .u64 a0 32,32)) else(some (a0,0))):Option (Int×Int)).bind fun x1=>
 ((if 65536≤x1.1 then((ck (x1.2+16)).bind fun x5=>
 some (ig .u64 x1.1 16,x5)) else(some (x1.1,x1.2))):Option (Int×Int)).bind fun x3=>
 ((if 256≤x3.1 then((ck (x3.2+8)).bind fun x8=>
 some (ig .u64 x3.1 8,x8)) else(some (x3.1,x3.2))):Option (Int×Int)).bind fun x6=>
 (AY II (IntKind.u8.wrap x6.1)).bind fun x9=>
 (ck (x9.toNat:Int)).bind fun e=>
 (ck (x6.2+e)).bind fun c=>
 some c
theorem qi(k:Nat)(a0:Int)(r:Int)(h:kB k a0=some r):
 bX Tryz.prog 206 [.eq (.int .u64 a0)] [] (fun _:Unit=>(bp [I r],[])):=by
 unfold kB at h
 replace h:=be h
 refine bX.of 25 Tryz.func206 rfl Tryz.ntmps206 rfl fun S w0=>?_
 refine sr ?_
 refine cq ?_
 refine nt ?_
 refine aP (Z:=Unit) (α:=Int×Int) (fun z2 x1=>[(0,.eq (.int .u64 x1.1)),(2,I x1.2)]) (fun z2 x1=>[]) h (fun K h=>?_) (fun z2 x1 h=>?_)
 ·
  refine sr (mq ?_);refine jb (nI rfl) ?_;refine nt (ci h (fun h=>?_) (fun h=>?_))
  ·refine sr (mq ?_);refine aB rfl (ue rfl (by decide)) ⟨rfl,rfl,trivial⟩ ?_;refine aq (nt (ab ?_));refine cq (nl ?_);exact jz ((),(ig .u64 a0 32,32)) h []
  ·refine aS (ag ?_);exact jz ((),(a0,0)) h []
 ·
  refine aP (Z:=Unit) (α:=Int×Int) (fun z4 x3=>[(0,.eq (.int .u64 x3.1)),(2,I x3.2)]) (fun z4 x3=>[]) h (fun K h=>?_) (fun z4 x3 h=>?_)
  ·refine sr (mq ?_);refine jb (nI rfl) ?_;refine nt (ci h (fun h=>?_) (fun h=>?_))
   ·refine sr (mq ?_);refine aB rfl (ue rfl (by decide)) ⟨rfl,rfl,trivial⟩ ?_;refine aq (nt (ab ?_));refine mq ?_;obtain⟨x5,n,h⟩:=aa h;refine jb (ba rfl n) ?_;refine aq (nl ?_);exact jz ((),(ig .u64 x1.1 16,x5)) h []
   ·refine aS (ag ?_);exact jz ((),(x1.1,x1.2)) h []
  ·refine aP (Z:=Unit) (α:=Int×Int) (fun z7 x6=>[(0,.eq (.int .u64 x6.1)),(2,I x6.2)]) (fun z7 x6=>[]) h (fun K h=>?_) (fun z7 x6 h=>?_)
   ·refine sr (mq ?_);refine jb (nI rfl) ?_;refine nt (ci h (fun h=>?_) (fun h=>?_))
    ·refine sr (mq ?_);refine aB rfl (ue rfl (by decide)) ⟨rfl,rfl,trivial⟩ ?_;refine aq (nt (ab ?_));refine mq ?_;obtain⟨x8,l,h⟩:=aa h;refine jb (ba rfl l) ?_;refine aq (nl ?_);exact jz ((),(ig .u64 x3.1 8,x8)) h []
    ·refine aS (ag ?_);exact jz ((),(x3.1,x3.2)) h []
   ·refine sr ?_;iterate 2 refine mq ?_
    refine ja (om rfl PX U5) ?_;obtain⟨x9,j,h⟩:=aa h;refine ja (yE rfl U9 j) ?_;obtain⟨u,e,h⟩:=aa h;refine ja (yF rfl U5 U3 e) ?_;obtain⟨s,c,h⟩:=aa h;refine jb (ba rfl c) ?_;refine aq (nt (aA ?_));cases h;exact ra
def xz(k:Nat)(a0:Int):Option Int:=
 (kB k a0).bind fun r1=>
 some r1
theorem Bd(k:Nat)(a0:Int)(r:Int)(h:xz k a0=some r):
 bX Tryz.prog 185 [.eq (.int .u64 a0)] [] (fun _:Unit=>(bp [I r],[])):=by
 unfold xz at h
 replace h:=be h
 refine bX.of 8 Tryz.func185 rfl Tryz.ntmps185 rfl fun S w0=>?_
 refine sr ?_
 refine cq ?_
 refine nt ?_
 refine ae ?_
 refine HL (fun hb=>(by cases hb)) (fun hb=>?_)
 refine sk ?_
 refine sr ?_
 refine mq ?_
 obtain⟨r1,c,h⟩:=aa h
 have e:=qi k a0 r1 c
 refine ja (ak [.tmp 6] rfl rfl OI rfl e) ?_
 refine aq ?_
 refine nt ?_
 refine aA ?_
 cases h
 exact ra
def fo(k:Nat)(a0:(List Int))(a1:Int)(a2:Int)(a3:Int):Nat→Unit→Option (List Int)
 |0,_=>none
 |n+1,y1=>
  (ck (a2 - a1)).bind fun x3=>
  if x3≤12 then((dZ k a0 a1 a2).bind fun r4=>
  some r4) else(if a3=0 then(none) else(none))
def gJ(k:Nat)(a0:(List Int))(a1:Int)(a2:Int)(a3:Int):Option (List Int):=
 fo k a0 a1 a2 a3 k ()
theorem lR(k:Nat)(a0:(List Int))(c:Value)(a1:Int)(a2:Int)(a3:Int)(r:(List Int))(h:gJ k a0 a1 a2 a3=some r):
 bX Tryz.prog 184 [.eq c,I a1,I a2,I a3] [.sl c 3 (.int .i64) a0] (fun _:Unit=>(bp [],[.sl c 3 (.int .i64) r])):=by
 unfold gJ at h
 replace h:=be h
 refine bX.of 134 Tryz.func184 rfl Tryz.ntmps184 rfl fun S w0=>?_
 refine sr ?_
 refine cq ?_
 refine nt ?_
 refine sr ?_
 refine cq ?_
 refine nt ?_
 refine aj ?_
 refine aG (fun z2 y1=>[(0,.eq c),(1,I a1),(2,I a2),(3,I a3),(8,.eq (.bool true)),(9,.eq (.bool true))]) (fun z2 y1=>[.sl c 3 (.int .i64) a0]) (fo k a0 a1 a2 a3) k () () (fun _=>rfl) h (SE.fin [0] ⟨rfl,rfl,rfl,rfl,rfl,rfl,trivial⟩ rfl) (fun n z2 y1 h=>?_)
 unfold fo at h
 refine aj ?_
 refine sr ?_
 iterate 2 refine mq ?_
 obtain⟨x3,e,h⟩:=aa h
 refine jb (eA rfl e) ?_
 refine aq ?_
 refine nt ?_
 refine ae ?_
 refine sr ?_
 refine mq ?_
 refine jb (sS rfl) ?_
 refine nt ?_
 refine ci h (fun h=>?_) (fun h=>?_)
 ·
  refine sr ?_;iterate 3 refine mq ?_
  obtain⟨r4,j,h⟩:=aa h;refine kc (ak [.tmp 24,.tmp 25,.tmp 26] rfl rfl OK rfl (jB k a0 c a1 a2 r4 j)) ?_;refine nt (rx (aV (aK (aV ?_))));cases h;exact aD () [] 1 trivial rfl
 ·
  refine sk (ae (sr (mq ?_)));refine jb (fj rfl) ?_;refine nt (ci h (fun h=>?_) (fun h=>?_))
  ·refine sr ?_;iterate 3 refine mq ?_
   cases h
  ·refine sk (ae (sr (mq ?_)));refine ja (eB rfl) ?_;refine nt (bG rfl (fun hb=>(by cases hb)) (fun hb=>?_));refine sk (sr ?_);iterate 3 refine mq ?_
   cases h
def nc(k:Nat)(a0:(List Int)):Option (List Int):=
 (xz k (IntKind.u64.wrap (a0.length:Int))).bind fun r1=>
 (gJ k a0 0 (a0.length:Int) r1).bind fun r2=>
 some r2
theorem s9(k:Nat)(a0:(List Int))(c:Value)(r:(List Int))(h:nc k a0=some r):
 bX Tryz.prog 145 [.eq c] [.sl c 3 (.int .i64) a0] (fun _:Unit=>(bp [],[.sl c 3 (.int .i64) r])):=by
 unfold nc at h
 replace h:=be h
 refine bX.of 11 Tryz.func145 rfl Tryz.ntmps145 rfl fun S w0=>?_
 refine sr ?_
 refine mq ?_
 refine ka (c9 rfl rfl dE) ?_
 refine aq ?_
 refine nt ?_
 refine ab ?_
 iterate 3 refine mq ?_
 refine ja (om rfl U3 QW) ?_
 obtain⟨r1,j,h⟩:=aa h
 have n:=Bd k (IntKind.u64.wrap (a0.length:Int)) r1 j
 refine ja (ak [.tmp 8] rfl rfl OM rfl n) ?_
 obtain⟨r2,e,h⟩:=aa h
 have l:=lR k a0 c 0 (a0.length:Int) r1 r2 e
 refine bU rfl rfl rfl (ak [.tmp 5,.const (.int .i64 (0)),.tmp 6,.tmp 9] rfl rfl ON rfl l) ⟨rfl,rfl,rfl,rfl,trivial⟩ ?_
 refine ar ?_
 refine iN ?_
 cases h
 exact aD () [] 1 trivial rfl
def lq(k:Nat)(a0:(List Int)):Option (List Int):=
 (kA k a0).bind fun r1=>
 (nc k r1).bind fun r3=>
 some r3
theorem qN(k:Nat)(a0:(List Int))(c:Nat)(r:(List Int))(h:lq k a0=some r):
 bX Tryz.prog 108 [.eq (.func (.func 146) #[] #[(Pv c)])] [.obj c 23 (Ri a0)] (fun _:Unit=>(bp [Ri r],[.obj c 23 (Ri a0)])):=by
 unfold lq at h
 replace h:=be h
 refine bX.of 9 Tryz.func108 rfl Tryz.ntmps108 rfl fun S w0=>?_
 refine sr ?_
 refine cq ?_
 refine nt ?_
 refine sr ?_
 refine mq ?_
 obtain⟨r1,j,h⟩:=aa h
 have n:=pW k a0 c r1 j
 refine bN (Δ:=[_]) (F:=_) (fun _ _ _=>av rfl _) rfl rfl (ak [.tmp 4] rfl rfl OW rfl n) ⟨rfl,trivial⟩ fun z2=>?_
 refine aq ?_
 refine nt ?_
 refine sr ?_
 refine mq ?_
 obtain⟨r3,e,h⟩:=aa h
 have l:=s9 k r1 z2 r3 e
 refine ka (ak [.tmp 6] rfl rfl OU rfl l) ?_
 refine nt ?_
 refine sr ?_
 refine mq ?_
 refine aq ?_
 refine nt ?_
 refine aA ?_
 refine bv (fp [2,3,5,6,8] ⟨rfl,rfl,rfl,rfl,rfl,trivial⟩) ?_
 cases h
 exact aD () [_] 1 ⟨rfl,trivial⟩ rfl
theorem qM(a0:(List Int)):bX Tryz.prog 109 [Ri a0] [] (fun z:Nat=>(bp [.eq (.func (.func 146) #[] #[(Pv z)])],[.obj z 23 (Ri a0)])):=by
 refine bX.of 4 Tryz.func109 rfl Tryz.ntmps109 rfl fun S w0=>?_;refine sr (bx fun z=>?_);refine cq (nt (sr ?_));refine ja (sa [] [.tmp 1] [] [(Pv z)] rfl rfl rfl) ?_;refine aq (nt (aA ?_));exact aD z [_] 1 ⟨rfl,trivial⟩ rfl
def dI{σ:Type}(k:Nat)(a0:(List (List Int)))(a1:Int)(a2:Int)(a3:cU)(self:(List (List Int))→Int→Int→σ→Option (Bool×σ))(h:(List Int)):Nat→(Int×σ)→Option (Except (Bool×σ) (σ))
 |0,_=>none
 |n+1,c=>
  if c.1 < (a3.1.2.1.length:Int) then(bE (α:=σ) ((aZ a3.1.2.1 c.1).bind fun y=>
  (((dy k a2 c.1).bind fun I=>
  if I=true then(some (true,c.2)) else((mF k a3.1 h).bind fun F=>
  (ck (F+y.1)).bind fun x=>
  (aZ a3.1.2.2 a1).bind fun u=>
  some (decide (u < x),c.2))):Option (Bool×σ)).bind fun j=>
  if j.1=true then(some (.ok j.2)) else((dT (0≤a1∧a1 < 3)).bind fun _=>
  (aZ a0 a1).bind fun s=>
  (dT (0≤(h.length:Int)∧(h.length:Int) < 5)).bind fun _=>
  (eE k a2 c.1).bind fun E=>
  (self (List.set a0 (Int.toNat a1) (List.set s (Int.toNat (h.length:Int)) c.1)) a1 E j.2).bind fun l=>
  if¬(l.1=true) then(some (.error (false,l.2))) else(some (.ok l.2)))) (fun e=>some (.error e)) fun D=>
  (ck (c.1+1)).bind fun r=>
  dI k a0 a1 a2 a3 self h n (r,D)) else(some (.ok c.2))
def cP{σ:Type}(k:Nat)(Y:σ→(List (List Int))→Option (σ×Bool))(a3:cU):Nat→(List (List Int))→Int→Int→σ→Option (Bool×σ)
 |0,_,_,_,_=>none
 |m0+1,a0,a1,a2,s0=>
  if a1=(a3.1.2.2.length:Int) then((((dT (0≤(a3.1.2.1.length:Int))).bind fun _=>
  if¬(a2=(IntKind.u8.wrap ((mV .u8 1 (a3.1.2.1.length:Int)) - 1))) then(some (true,s0)) else((Y s0 a0).bind fun r5=>
  some (r5.2,r5.1))):Option (Bool×σ)).bind fun x2=>
  some (x2.1,x2.2)) else((ck (a1+1)).bind fun x7=>
  ((cP k Y a3 m0) a0 x7 a2 s0).bind fun r8=>
  if¬(r8.1=true) then(some (false,r8.2)) else((dJ k a0 a1).bind fun e=>
  bE (α:=σ) (dI k a0 a1 a2 a3 (cP k Y a3 m0) e k (0,r8.2)) (some) fun c=>
  some (true,c)))
theorem mm{M:Md Tryz.prog}{σ Z:Type}(E:Z→σ→List D)(l:Nat)(Y:σ→(List (List Int))→Option (σ×Bool))(k:Nat)(a3:cU)(u:Nat)(x:Nat)(c:Nat)(hY:∀z s p r,Y s p=some r→YT M l [.rep (.arr 3 (.arr 5 (.int .i64))) p] (E z s) (fun z':Z=>(.eq (.bool r.2),E z' r.1))):
 ∀(n:Nat) (a0:(List (List Int))) (a1:Int) (a2:Int) (z0:Z) (s0:σ) (r:Bool×σ),cP k Y a3 n a0 a1 a2 s0=some r→dx M 149 [.rep (.arr 3 (.arr 5 (.int .i64))) a0,I a1,.eq (.int .u8 a2),Pt u,Pt x,Pt c] ([.obj u 102 (.at bD a3),.obj x 210 (.eq (.func (.yield l) #[] #[])),.obj c 211 (.eq (.func (.func 149) #[] #[(Pv u),(Pv x),(Pv c)]))]++E z0 s0) (fun z:Z=>(bp [.eq (.bool r.1)],[.obj u 102 (.at bD a3),.obj x 210 (.eq (.func (.yield l) #[] #[])),.obj c 211 (.eq (.func (.func 149) #[] #[(Pv u),(Pv x),(Pv c)]))]++E z r.2)):=by
 intro n
 induction n with
 |zero=>intro a0 a1 a2 z0 s0 r h;cases h
 |succ m0 ih=>
  intro a0 a1 a2 z0 s0 r h;rw [cP] at h;replace h:=be h;refine dx.of 97 Tryz.func149 rfl Tryz.ntmps149 rfl fun S w0=>?_;refine sr (bx fun b1=>?_);refine cq (nt (ae (sr ?_)));refine mq ?_;refine fr 1 ?_;refine lo qK ?_;refine ja (dC rfl) ?_;refine ja (aN 3 true rfl jx rfl) ?_;refine ja (aN 1 false rfl fR rfl) ?_;refine ja (an (t:=(.slice (.int .i64))) rfl cd rfl) ?_;refine ol dE ?_;refine jb (fj rfl) ?_;refine nt (ci h (fun h=>?_) (fun h=>?_))
  ·refine aP (Z:=Z) (α:=Bool×σ) (fun z3 x2=>[(9,.eq (.bool x2.1))]) (fun z3 x2=>[.obj u 102 (.at bD a3),.obj x 210 (.eq (.func (.yield l) #[] #[])),.obj c 211 (.eq (.func (.func 149) #[] #[(Pv u),(Pv x),(Pv c)]))]++E z3 x2.2) h (fun K h=>?_) (fun z3 x2 h=>?_)
   ·refine ab (mq ?_);refine lo qK ?_;refine ja (dC rfl) ?_;refine ja (aN 3 true rfl jx rfl) ?_;refine ja (aN 1 false rfl dB rfl) ?_;refine ja (an (t:=(.slice cN)) rfl jA rfl) ?_;refine ol qy ?_;obtain⟨u4,RV,h⟩:=aa h;refine jb (Fh rfl (aC RV)) ?_;refine jb (Fg rfl) ?_;refine jb (eZ rfl) ?_;refine mq ?_;refine bT (s:=32) rfl (fun hb=>?_) (fun hb=>?_)
    ·replace h:=cy (F8 hb) h;iterate 3 refine gn ?_
     refine pt ?_;refine aq (nl ?_);exact iM (z0,(true,s0)) h (bg [.obj u 102 (.at bD a3),.obj b1 107 (.rep (.arr 3 (.arr 5 (.int .i64))) a0),.obj x 210 (.eq (.func (.yield l) #[] #[])),.obj c 211 (.eq (.func (.func 149) #[] #[(Pv u),(Pv x),(Pv c)]))] (E z0 s0) [0,2,3] ⟨rfl,trivial⟩ rfl)
    ·replace h:=bM (uk hb) h;refine fr 2 ?_;refine jU rfl rfl rfl rfl rfl rfl (ao rfl Nu mA rfl) ⟨rfl,trivial⟩ ?_;refine fr 2 ?_;refine jU rfl rfl rfl rfl rfl rfl (ao rfl cF (vL) rfl) ⟨rfl,trivial⟩ ?_;obtain⟨r5,RY,h⟩:=aa h;refine fr 3 ?_;refine fr 3 ?_;refine fr 3 ?_;refine fr 3 ?_;refine Ei [.obj b1 107 (.rep (.arr 3 (.arr 5 (.int .i64))) a0),.obj x 210 (.eq (.func (.yield l) #[] #[])),.obj u 102 (.at bD a3),.obj c 211 (.eq (.func (.func 149) #[] #[(Pv u),(Pv x),(Pv c)]))] rfl rfl rfl rfl rfl rfl (wQ [.tmp 34] rfl rfl rfl (hY z0 s0 a0 r5 RY)) ⟨rfl,rfl,trivial⟩ fun z6=>?_;refine pf ?_;refine aq (nl ?_);exact iM (z6,(r5.2,r5.1)) h (bg [.obj b1 107 (.rep (.arr 3 (.arr 5 (.int .i64))) a0),.obj x 210 (.eq (.func (.yield l) #[] #[])),.obj u 102 (.at bD a3),.obj c 211 (.eq (.func (.func 149) #[] #[(Pv u),(Pv x),(Pv c)]))] (E z6 r5.1) [2,1,3] ⟨rfl,trivial⟩ rfl)
   ·refine rx ?_;cases h;exact iz z3 [_] ⟨rfl,trivial⟩ rfl
  ·refine sk (ae (sr (fr 3 ?_)));refine lo Br ?_;refine fr 2 ?_;refine lo cF ?_;refine mq ?_;obtain⟨x7,RU,h⟩:=aa h;refine jb (ba rfl RU) ?_;refine mq ?_;obtain⟨r8,RX,h⟩:=aa h;refine fr 1 ?_;refine fr 3 ?_;refine fr 3 ?_;refine fr 3 ?_;refine oQ [.obj b1 107 (.rep (.arr 3 (.arr 5 (.int .i64))) a0)] rfl rfl rfl (oq (fs:=[]) (cs:=[(Pv u),(Pv x),(Pv c)]) (ags:=[.rep (.arr 3 (.arr 5 (.int .i64))) a0,I x7,.eq (.int .u8 a2)]) [.tmp 38,.tmp 40,.tmp 41] rfl rfl G3 rfl (ih a0 x7 a2 z0 s0 r8 RX)) ⟨rfl,rfl,rfl,rfl,trivial⟩ fun z9=>?_;refine ja (eB rfl) ?_;refine nt (cw h (fun h=>?_) (fun h=>?_))
   ·refine sr (cq (nt (rx ?_)));refine bv (bg (Γ':=[(9,_)]) [.obj b1 107 (.rep (.arr 3 (.arr 5 (.int .i64))) a0),.obj u 102 (.at bD a3),.obj x 210 (.eq (.func (.yield l) #[] #[])),.obj c 211 (.eq (.func (.func 149) #[] #[(Pv u),(Pv x),(Pv c)]))] (E z9 r8.2) [1,2,3] ⟨rfl,trivial⟩ rfl) ?_;cases h;exact iz z9 [_] ⟨rfl,trivial⟩ rfl
   ·refine sk (sr (lo cF ?_));refine mq ?_;obtain⟨F,RL,h⟩:=aa h;refine jb (ak [.tmp 44,.tmp 45] rfl rfl BY rfl (f6 k a0 a1 F RL)) ?_;refine aq (nt ?_);refine du (Z:=Z) (α:=σ) (fun qt Rw=>[]) (fun qt Rw=>[.obj u 102 (.at bD a3),.obj x 210 (.eq (.func (.yield l) #[] #[])),.obj c 211 (.eq (.func (.func 149) #[] #[(Pv u),(Pv x),(Pv c)]))]++E qt Rw) (fun e=>e=r) h (fun e h=>Option.some.inj h) (fun K hR h=>?_) (fun qt Rw h=>?_)
    ·refine sr (fr 1 ?_);refine lo qK ?_;refine ja (dC rfl) ?_;refine ja (aN 3 true rfl jx rfl) ?_;refine ja (aN 1 false rfl dB rfl) ?_;refine ja (an (t:=(.slice cN)) rfl jA rfl) ?_;refine ol qy ?_;refine dQ rfl ?_;refine nt (aj (aG (Z:=Z) (α:=Int×σ) (fun J y=>[(1,I a1),(2,.eq (.int .u8 a2)),(3,Pt u),(5,Pt c),(6,Pt b1),(10,Ri F),(51,Rs cN a3.1.2.1),(52,I (a3.1.2.1.length:Int)),(53,I y.1)]) (fun J y=>[.obj u 102 (.at bD a3),.obj c 211 (.eq (.func (.func 149) #[] #[(Pv u),(Pv x),(Pv c)])),.obj x 210 (.eq (.func (.yield l) #[] #[])),.obj b1 107 (.rep (.arr 3 (.arr 5 (.int .i64))) a0)]++E J y.2) (dI k a0 a1 a2 a3 (cP k Y a3 m0) F) k z9 (0,r8.2) (fun _=>rfl) h (bg [.obj u 102 (.at bD a3),.obj b1 107 (.rep (.arr 3 (.arr 5 (.int .i64))) a0),.obj x 210 (.eq (.func (.yield l) #[] #[])),.obj c 211 (.eq (.func (.func 149) #[] #[(Pv u),(Pv x),(Pv c)]))] (E z9 r8.2) [0,3,2,1] ⟨rfl,rfl,rfl,rfl,rfl,rfl,rfl,rfl,rfl,trivial⟩ rfl) (fun n J y h=>?_)));unfold dI at h;refine sr (jb (bq rfl) ?_);refine nt (ae (ci h (fun h=>?_) (fun h=>?_)))
     ·refine sk (du (Z:=Z) (α:=σ) (fun X mc=>[(1,I a1),(2,.eq (.int .u8 a2)),(3,Pt u),(5,Pt c),(6,Pt b1),(10,Ri F),(51,Rs cN a3.1.2.1),(52,I (a3.1.2.1.length:Int)),(53,I y.1)]) (fun X mc=>[.obj u 102 (.at bD a3),.obj c 211 (.eq (.func (.func 149) #[] #[(Pv u),(Pv x),(Pv c)])),.obj x 210 (.eq (.func (.yield l) #[] #[])),.obj b1 107 (.rep (.arr 3 (.arr 5 (.int .i64))) a0)]++E X mc) (fun e=>e=r) h (fun e h=>hR e h) (fun K hR h=>?_) (fun X mc h=>?_))
      ·refine aj (sr (mq ?_));obtain⟨Rz,RF,h⟩:=aa h;refine jb (aH (t:=cN) rfl qy nM RF) ?_;refine ja (an (t:=cN) rfl nM rfl) ?_;refine aE rfl rfl rfl (bJ rfl wB Jr) trivial fun RN=>?_;refine aq ?_;refine bf rfl rfl (a9 rfl nM rfl rfl rfl) ⟨rfl,rfl,trivial⟩ ?_;refine nt (ae (aP (Z:=Z) (α:=Bool×σ) (fun U O=>[(1,I a1),(2,.eq (.int .u8 a2)),(3,Pt u),(5,Pt c),(6,Pt b1),(10,Ri F),(11,I y.1),(51,Rs cN a3.1.2.1),(52,I (a3.1.2.1.length:Int)),(53,I y.1),(80,.eq (.bool O.1))]) (fun U O=>[.obj u 102 (.at bD a3),.obj c 211 (.eq (.func (.func 149) #[] #[(Pv u),(Pv x),(Pv c)])),.obj x 210 (.eq (.func (.yield l) #[] #[])),.obj b1 107 (.rep (.arr 3 (.arr 5 (.int .i64))) a0)]++E U O.2) h (fun K h=>?_) (fun U O h=>?_)))
       ·refine cm ?_;refine dm ?_;refine dm ?_;obtain⟨RS,RJ,h⟩:=aa h;refine db (ak [.tmp 58,.tmp 59] rfl rfl G1 rfl (f5 k a2 y.1 RS RJ)) ?_;refine rH rfl rfl rfl (aR rfl) ⟨rfl,trivial⟩ (fun hb=>?_) (fun hb=>?_)
        ·replace h:=cy (Eu hb) h;iterate 17 refine dg ?_
         refine df eM ?_;refine gn ?_;refine pt (nl ?_);exact iM (J,(true,y.2)) h (bg [.obj RN 27 (.rep cN Rz),.obj u 102 (.at bD a3),.obj c 211 (.eq (.func (.func 149) #[] #[(Pv u),(Pv x),(Pv c)])),.obj x 210 (.eq (.func (.yield l) #[] #[])),.obj b1 107 (.rep (.arr 3 (.arr 5 (.int .i64))) a0)] (E J y.2) [1,2,3,4] ⟨rfl,rfl,rfl,rfl,rfl,rfl,rfl,rfl,rfl,rfl,rfl,trivial⟩ rfl)
        ·replace h:=bM (Ew hb) h;refine kS 1 rfl rfl rfl rfl rfl rfl (ao rfl qK mA rfl) ⟨rfl,rfl,trivial⟩ ?_;refine bQ rfl rfl rfl rfl rfl (dC rfl) ⟨rfl,rfl,trivial⟩ ?_;refine bQ rfl rfl rfl rfl rfl (aN 3 true rfl jx rfl) ⟨rfl,rfl,trivial⟩ ?_;refine bQ rfl rfl rfl rfl rfl (an (t:=aF) rfl fV rfl) ⟨rfl,rfl,trivial⟩ ?_;refine bQ rfl rfl rfl rfl rfl (aR rfl) ⟨rfl,rfl,trivial⟩ ?_;obtain⟨RR,RI,h⟩:=aa h;refine bQ rfl rfl rfl rfl rfl (ak [.tmp 65,.tmp 66] rfl rfl Kq rfl (sO k a3.1 F RR RI)) ⟨rfl,rfl,rfl,trivial⟩ ?_;refine bQ rfl rfl rfl rfl rfl (aw rfl oI) ⟨rfl,rfl,trivial⟩ ?_;refine kS 0 rfl rfl rfl rfl rfl rfl (ao rfl cu mA rfl) ⟨rfl,rfl,trivial⟩ ?_;obtain⟨RQ,RE,h⟩:=aa h;refine bQ rfl rfl rfl rfl rfl (ba rfl RE) ⟨rfl,rfl,rfl,trivial⟩ ?_;refine kS 1 rfl rfl rfl rfl rfl rfl (ao rfl qK mA rfl) ⟨rfl,rfl,trivial⟩ ?_;refine bQ rfl rfl rfl rfl rfl (dC rfl) ⟨rfl,rfl,trivial⟩ ?_;refine bQ rfl rfl rfl rfl rfl (aN 3 true rfl jx rfl) ⟨rfl,rfl,trivial⟩ ?_;refine bQ rfl rfl rfl rfl rfl (aN 1 false rfl fR rfl) ⟨rfl,rfl,trivial⟩ ?_;refine bQ rfl rfl rfl rfl rfl (an (t:=(.slice (.int .i64))) rfl cd rfl) ⟨rfl,rfl,trivial⟩ ?_;refine bQ rfl rfl rfl rfl rfl (aR rfl) ⟨rfl,rfl,trivial⟩ ?_;obtain⟨RP,RD,h⟩:=aa h;refine bQ rfl rfl rfl rfl rfl (aH (t:=(.int .i64)) rfl dE cu RD) ⟨rfl,rfl,rfl,trivial⟩ ?_;refine bQ rfl rfl rfl rfl rfl (an (t:=(.int .i64)) rfl cu rfl) ⟨rfl,rfl,trivial⟩ ?_;refine df eM ?_;refine gb (jC rfl) ?_;refine pf (nl ?_);exact iM (J,(decide (RP < RQ),y.2)) h (bg [.obj RN 27 (.rep cN Rz),.obj u 102 (.at bD a3),.obj c 211 (.eq (.func (.func 149) #[] #[(Pv u),(Pv x),(Pv c)])),.obj x 210 (.eq (.func (.yield l) #[] #[])),.obj b1 107 (.rep (.arr 3 (.arr 5 (.int .i64))) a0)] (E J y.2) [1,2,3,4] ⟨rfl,rfl,rfl,rfl,rfl,rfl,rfl,rfl,rfl,rfl,rfl,trivial⟩ rfl)
       ·refine cv h (fun h=>?_) (fun h=>?_)
        ·refine dt (aM (bO (ag ?_)));exact iM (U,O.2) h (bg [.obj u 102 (.at bD a3),.obj c 211 (.eq (.func (.func 149) #[] #[(Pv u),(Pv x),(Pv c)])),.obj x 210 (.eq (.func (.yield l) #[] #[])),.obj b1 107 (.rep (.arr 3 (.arr 5 (.int .i64))) a0)] (E U O.2) [0,1,2,3] ⟨rfl,rfl,rfl,rfl,rfl,rfl,rfl,rfl,rfl,trivial⟩ rfl)
        ·refine sk (sr (fr 3 ?_));refine lo cF ?_;refine aE rfl rfl rfl (bJ rfl lg lK) trivial fun Ry=>?_;refine bf rfl rfl (a9 rfl cF rfl rfl rfl) ⟨rfl,rfl,trivial⟩ ?_;refine nt (sr ?_);iterate 2 refine mq ?_
         refine ol dE ?_;refine mq ?_;obtain⟨R2,Ru,h⟩:=aa h;refine jb (ip rfl Jx yp (aC Ru).1 (aC Ru).2) ?_;obtain⟨ac,RB,h⟩:=aa h;obtain⟨RZ,Q,h⟩:=aa h;refine jb (ip rfl Jy cu (aC Q).1 (aC Q).2) ?_;refine bf rfl rfl (nj (t:=(.int .i64)) (off:=0) (i:=a1) (j:=(F.length:Int)) (N:=3) (L:=5) rfl cu .int rfl rfl rfl rfl RB (aC Q).1 (aC Q).2 rfl) ⟨rfl,rfl,trivial⟩ ?_;refine nt (ae (cm ?_));refine ea 3 (ao rfl Br mA rfl) ?_;refine ea 0 (ao rfl cF (vL) rfl) ?_;refine dm ?_;refine dm ?_;refine dm ?_;obtain⟨Rx,RH,h⟩:=aa h;refine db (ak [.tmp 91,.tmp 92] rfl rfl BX rfl (iP k a2 y.1 Rx RH)) ?_;refine df eM ?_;obtain⟨se,RG,h⟩:=aa h;refine fr 3 ?_;refine fr 4 ?_;refine fr 4 ?_;refine fr 4 ?_;refine fr 4 ?_;refine oQ [.obj Ry 107 (.rep (.arr 3 (.arr 5 (.int .i64))) (List.set a0 (Int.toNat a1) (List.set ac (Int.toNat (F.length:Int)) y.1))),.obj b1 107 (.rep (.arr 3 (.arr 5 (.int .i64))) a0)] rfl rfl rfl (oq (fs:=[]) (cs:=[(Pv u),(Pv x),(Pv c)]) (ags:=[.rep (.arr 3 (.arr 5 (.int .i64))) (List.set a0 (Int.toNat a1) (List.set ac (Int.toNat (F.length:Int)) y.1)),I a1,.eq (.int .u8 Rx)]) [.tmp 89,.tmp 90,.tmp 93] rfl rfl G3 rfl (ih (List.set a0 (Int.toNat a1) (List.set ac (Int.toNat (F.length:Int)) y.1)) a1 Rx U O.2 se RG)) ⟨rfl,rfl,rfl,rfl,trivial⟩ fun pp=>?_;refine ja (eB rfl) ?_;refine nt (cw h (fun h=>?_) (fun h=>?_))
         ·refine sr (cq (nt (aA (br (aV (aK ?_))))));refine bv (bg (Γ':=[(9,_)]) [.obj Ry 107 (.rep (.arr 3 (.arr 5 (.int .i64))) (List.set a0 (Int.toNat a1) (List.set ac (Int.toNat (F.length:Int)) y.1))),.obj b1 107 (.rep (.arr 3 (.arr 5 (.int .i64))) a0),.obj u 102 (.at bD a3),.obj x 210 (.eq (.func (.yield l) #[] #[])),.obj c 211 (.eq (.func (.func 149) #[] #[(Pv u),(Pv x),(Pv c)]))] (E pp se.2) [2,3,4] ⟨rfl,trivial⟩ rfl) ?_;obtain rfl:=hR _ h;exact iz pp [_] ⟨rfl,trivial⟩ rfl
         ·refine aS (bn ?_);exact iM (pp,se.2) h (bg [.obj Ry 107 (.rep (.arr 3 (.arr 5 (.int .i64))) (List.set a0 (Int.toNat a1) (List.set ac (Int.toNat (F.length:Int)) y.1))),.obj b1 107 (.rep (.arr 3 (.arr 5 (.int .i64))) a0),.obj u 102 (.at bD a3),.obj x 210 (.eq (.func (.yield l) #[] #[])),.obj c 211 (.eq (.func (.func 149) #[] #[(Pv u),(Pv x),(Pv c)]))] (E pp se.2) [2,4,3,1] ⟨rfl,rfl,rfl,rfl,rfl,rfl,rfl,rfl,rfl,trivial⟩ rfl)
      ·refine ab ?_;obtain⟨RO,RA,h⟩:=aa h;refine jb (ba rfl RA) ?_;refine mq (nl ?_);exact iM (X,(RO,mc)) h (bg [.obj u 102 (.at bD a3),.obj c 211 (.eq (.func (.func 149) #[] #[(Pv u),(Pv x),(Pv c)])),.obj x 210 (.eq (.func (.yield l) #[] #[])),.obj b1 107 (.rep (.arr 3 (.arr 5 (.int .i64))) a0)] (E X mc) [0,1,2,3] ⟨rfl,rfl,rfl,rfl,rfl,rfl,rfl,rfl,rfl,trivial⟩ rfl)
     ·refine xa ?_;exact iM (J,y.2) h (bg [.obj u 102 (.at bD a3),.obj c 211 (.eq (.func (.func 149) #[] #[(Pv u),(Pv x),(Pv c)])),.obj x 210 (.eq (.func (.yield l) #[] #[])),.obj b1 107 (.rep (.arr 3 (.arr 5 (.int .i64))) a0)] (E J y.2) [0,2,1] trivial rfl)
    ·refine sr (cq (nt (aA ?_)));cases h;exact iz qt [_] ⟨rfl,trivial⟩ rfl
def iE{σ:Type}(k:Nat)(Y:σ→(List (List Int))→Option (σ×Bool))(a1:cU)(s0:σ):Option (σ):=
 (cV k ([]:(List (List Int)))).bind fun r2=>
 (cP k Y a1 k r2 0 0 s0).bind fun r5=>
 some r5.2
theorem m8{M:Md Tryz.prog}{σ Z:Type}(E:Z→σ→List D)(l:Nat)(Y:σ→(List (List Int))→Option (σ×Bool))(k:Nat)(a1:cU)(c:Nat)(hY:∀z s p r,Y s p=some r→YT M l [.rep (.arr 3 (.arr 5 (.int .i64))) p] (E z s) (fun z':Z=>(.eq (.bool r.2),E z' r.1))):
 ∀(z0:Z) (s0:σ) (r:σ),iE k Y a1 s0=some r→dx M 148 [.eq (.func (.yield l) #[] #[]),Pt c] ([.obj c 102 (.at bD a1)]++E z0 s0) (fun z:Z=>(bp [],[.obj c 102 (.at bD a1)]++E z r)):=by
 intro z0 s0 r h
 unfold iE at h
 replace h:=be h
 refine dx.of 10 Tryz.func148 rfl Tryz.ntmps148 rfl fun S w0=>?_
 refine sr ?_
 refine bx fun b1=>?_
 refine nt ?_
 refine sr ?_
 obtain⟨r2,j,h⟩:=aa h
 have u:=dq k ([]:(List (List Int))) r2 j
 refine ja (dh (N:=[(.const (.slice none 0 0),.eq (.slice none 0 0))]) (ak [.const (.slice none 0 0)] rfl rfl zq rfl u) fun _ _ _ hn=>⟨(jR (t:=(.slice (.slice (.int .i64)))) (x:=([]:(List (List Int)))) .nil rfl rfl hn.1),trivial⟩) ?_
 refine aE rfl rfl rfl (bJ rfl lg lK) trivial fun b3=>?_
 refine bf rfl rfl (a9 rfl cF rfl rfl rfl) ⟨rfl,rfl,trivial⟩ ?_
 refine nt ?_
 refine sr ?_
 refine aE rfl rfl rfl (bJ rfl MY Pl) trivial fun b4=>?_
 refine nt ?_
 refine sr ?_
 refine jc (sa [] [.tmp 1,.tmp 2,.tmp 4] [] [(Pv c),(Pv b1),(Pv b4)] rfl rfl rfl) ?_
 refine bf rfl rfl (a9 rfl Br rfl rfl rfl) ⟨rfl,rfl,trivial⟩ ?_
 refine nt ?_
 refine ab ?_
 refine lo Br ?_
 refine fr 1 ?_
 refine lo cF ?_
 obtain⟨r5,e,h⟩:=aa h
 have n:=mm E l Y k a1 c b1 b4 hY k r2 0 0 z0 s0 r5 e
 refine fr 1 ?_
 refine fr 2 ?_
 refine fr 3 ?_
 refine fr 3 ?_
 refine oQ [.obj b3 107 (.rep (.arr 3 (.arr 5 (.int .i64))) r2)] rfl rfl rfl (oq (fs:=[]) (cs:=[(Pv c),(Pv b1),(Pv b4)]) (ags:=[.rep (.arr 3 (.arr 5 (.int .i64))) r2,I 0,.eq (.int .u8 0)]) [.tmp 8,.const (.int .i64 (0)),.const (.int .u8 (0))] rfl rfl G3 rfl n) ⟨rfl,rfl,rfl,rfl,trivial⟩ fun z6=>?_
 refine ar ?_
 refine iN ?_
 refine bv (bg (Γ':=[]) [.obj b3 107 (.rep (.arr 3 (.arr 5 (.int .i64))) r2),.obj c 102 (.at bD a1),.obj b1 210 (.eq (.func (.yield l) #[] #[])),.obj b4 211 (.eq (.func (.func 149) #[] #[(Pv c),(Pv b1),(Pv b4)]))] (E z6 r5.2) [1] trivial rfl) ?_
 cases h
 exact iz z6 [] trivial rfl
def iY(k:Nat)(a1:cU):Option (List (List (List Int))):=
 (iE k (pI (fun(y2:(List (List (List Int)))) (p4:(List (List Int)))=>
  (dT (bV (List.length y2+List.length [p4]))).bind fun _=>
  some (y2++[p4],true))) a1 (([]:(List (List (List Int)))),false)).bind fun r5=>
 if r5.2=true then(none) else(some r5.1)
theorem nP(k:Nat)(a1:cU)(c:Nat)(r:(List (List (List Int))))(h:iY k a1=some r):
 bX Tryz.prog 147 [.eq (.slice none 0 0),.eq (.func (.func 148) #[] #[(Pv c)])] [.obj c 102 (.at bD a1)] (fun z:Value=>(bp [.eq z],[.sl z 107 (.arr 3 (.arr 5 (.int .i64))) r,.obj c 102 (.at bD a1)])):=by
 unfold iY at h
 replace h:=be h
 refine xM 13 Tryz.func147 rfl Tryz.ntmps147 rfl fun {M} S w0=>?_
 refine sr ?_
 refine bx fun b1=>?_
 refine cq ?_
 refine nt ?_
 refine ae ?_
 refine sr ?_
 refine mq ?_
 refine nt ?_
 refine aj ?_
 refine fU (SE.nil 107 (.arr 3 (.arr 5 (.int .i64)))) ?_
 refine iO 1 rfl ?_
 refine iO 2 rfl ?_
 obtain⟨r5,j,h⟩:=aa h
 refine nC (Δ:=[.obj c 102 (.at bD a1),.obj b1 152 (.eq (.slice none 0 0)),.sl (.slice none 0 0) 107 (.arr 3 (.arr 5 (.int .i64))) ([]:(List (List (List Int))))]) (F:=[]) (X:=Value) (J:=fun _=>IL r5.2) (E:=fun z3=>[.obj c 102 (.at bD a1),.obj b1 152 (.eq z3),.sl z3 107 (.arr 3 (.arr 5 (.int .i64))) r5.1]) (r0:=fun _=>.tup .any) rfl rfl OR (fun rec hp ha hb hs hpe hN hv l=>?_) (fun dl z3=>pS (fun hj=>?_) (fun hj=>?_))
 ·
  rcases rec with⟨st0,pe0,fn0,tm0,ps0,as0,bd0,df0⟩;dsimp only at hp ha hb hs hpe hN hv;subst hp hs hpe;have vN:uL tm0 [(2,Pt b1)]:=⟨congrArg A.eq (hv 2 _ rfl).symm,trivial⟩;refine dx.pick (M:=M) [1,0,2,3] [1,0,2,3] (m8 (fun(z3:Value) (q:(List (List (List Int)))×Bool)=>[.raw l (.loop (jp ⟨.ready,none,fn0,tm0, #[7],as0,bd0,df0⟩ (IL q.2))),.obj b1 152 (.eq z3),.sl z3 107 (.arr 3 (.arr 5 (.int .i64))) q.1]) l (pI (fun(y2:(List (List (List Int)))) (p4:(List (List Int)))=>
  (dT (bV (List.length y2+List.length [p4]))).bind fun _=>
  some (y2++[p4],true))) k a1 c (fun z3 q p r' h=>?_) (.slice none 0 0) (([]:(List (List (List Int)))),false) r5 j) rfl (fun _=>rfl) (fun _=>rfl)
  obtain⟨rq,hq,h2,rfl⟩:=pT h;obtain⟨y2,b5⟩:=q;obtain rfl:b5=false:=hq;replace h:=be h2;obtain⟨p4,hpv⟩:∃x,x=p:=⟨_,rfl⟩;subst hpv;refine YT.pick (R':=(fun z3:Value=>(.eq (.bool rq.2),[.raw l (.loop (jp ⟨.ready,none,fn0,tm0, #[7],as0,bd0,df0⟩ (IL (!rq.2)))),.obj b1 152 (.eq z3),.sl z3 107 (.arr 3 (.arr 5 (.int .i64))) rq.1]))) [0,1,2] [0,1,2] (Hl ha hb (N:=13) (Γ:=[(2,Pt b1)]) rfl hN (by decide) vN (fun S w=>?_)) rfl (fun _=>rfl) (fun _=>rfl);refine ab (aE rfl rfl rfl (bJ rfl lg lK) trivial fun b6=>?_);refine bf rfl rfl (a9 rfl cF rfl rfl rfl) ⟨rfl,rfl,trivial⟩ ?_;refine nl (dR 1 rfl ?_);refine uQ rfl rfl ?_;refine aj (ab (fr 2 ?_));refine lo ES ?_;refine fr 2 ?_;refine lo cF ?_;refine ja (bH (t:=(.arr 3 (.arr 5 (.int .i64)))) [(.tmp 9,_)] [p4] rfl rfl JY (.cons rfl .rep .nil) rfl rfl) ?_;obtain⟨u7,e,h⟩:=aa h;refine fr 3 ?_;refine ek rfl rfl rfl (cg rfl rfl JY (aC e)) ⟨rfl,rfl,trivial⟩ fun v8=>?_;refine xH fun o9=>?_;refine fr 2 ?_;refine bf rfl rfl (a9 rfl ES o9 rfl rfl) ⟨rfl,rfl,trivial⟩ ?_;refine ar (aL (dR 1 rfl ?_));refine dR 1 rfl ?_;refine dR 3 rfl ?_;cases h;exact sM v8 2 rfl
 ·
  replace h:=bM (Ew hj) h;refine aL (tn (sr (fr 2 ?_)));refine lo ES ?_;refine aq (nt (aA ?_));refine dR 1 rfl ?_;refine xJ ?_;refine bv (SE.fin (Γ':=[(4,_)]) [2,1,0] ⟨rfl,trivial⟩ rfl) ?_;cases h;exact aD z3 [.eq z3] 2 ⟨rfl,trivial⟩ rfl
 ·
  replace h:=cy (Eu hj) h;cases h
def jG(k:Nat)(a0:cU):Option (List (List (List Int))):=
 (iY k a0).bind fun r1=>
 some r1
theorem pA(k:Nat)(a0:cU)(c:Nat)(r:(List (List (List Int))))(h:jG k a0=some r):
 bX Tryz.prog 115 [.eq (.func (.func 148) #[] #[(Pv c)])] [.obj c 102 (.at bD a0)] (fun _:Unit=>(bp [.rep (.slice (.arr 3 (.arr 5 (.int .i64)))) r],[.obj c 102 (.at bD a0)])):=by
 unfold jG at h
 replace h:=be h
 refine bX.of 5 Tryz.func115 rfl Tryz.ntmps115 rfl fun S w0=>?_
 refine sr ?_
 refine cq ?_
 refine nt ?_
 refine sr ?_
 refine mq ?_
 obtain⟨r1,e,h⟩:=aa h
 have j:=nP k a0 c r1 e
 refine bN (Δ:=[_]) (F:=_) (fun _ _ _=>av rfl _) rfl rfl (ak [.const (.slice none 0 0),.tmp 3] rfl rfl OS rfl j) ⟨rfl,rfl,trivial⟩ fun z2=>?_
 refine aq ?_
 refine nt ?_
 refine aA ?_
 refine bv (fp [2,4] ⟨rfl,rfl,trivial⟩) ?_
 cases h
 exact aD () [_] 1 ⟨rfl,trivial⟩ rfl
theorem oa(a0:cU):bX Tryz.prog 116 [.at bD a0] [] (fun z:Nat=>(bp [.eq (.func (.func 148) #[] #[(Pv z)])],[.obj z 102 (.at bD a0)])):=by
 refine bX.of 4 Tryz.func116 rfl Tryz.ntmps116 rfl fun S w0=>?_;refine sr (aE rfl rfl rfl (nJ rfl trivial) ⟨rfl,trivial⟩ fun z=>?_);refine cq (nt (sr ?_));refine ja (sa [] [.tmp 1] [] [(Pv z)] rfl rfl rfl) ?_;refine aq (nt (aA ?_));exact aD z [_] 1 ⟨rfl,trivial⟩ rfl
def kf(k:Nat)(a0:(List Int)):Option a8:=
 ((if(a0.length:Int)=0 then(some [3,2]) else(some a0)):Option ((List Int))).bind fun x2=>
 some (3,[(1,[0,2]),(1,[1]),(2,[2]),(1,[0,1])],x2)
theorem je(k:Nat)(a0:(List Int))(r:a8)(h:kf k a0=some r):
 bX Tryz.prog 78 [Ri a0] [] (fun _:Unit=>(bp [.rep aF r],[])):=by
 unfold kf at h
 replace h:=be h
 refine bX.of 18 Tryz.func78 rfl Tryz.ntmps78 rfl fun S w0=>?_
 refine sr ?_
 refine aE rfl rfl rfl (bJ rfl xU Eb) trivial fun b1=>?_
 refine nt ?_
 refine aP (Z:=Unit) (α:=(List Int)) (fun z3 x2=>[(0,Ri x2),(2,Pt b1)]) (fun z3 x2=>[.obj b1 25 (.agg (.pair (I 0) (.pair (.eq (.slice none 0 0)) (.eq (.slice none 0 0)))))]) h (fun K h=>?_) (fun z3 x2 h=>?_)
 ·
  refine sr (mq ?_);refine ol dE ?_;refine jb (fj rfl) ?_;refine nt (ci h (fun h=>?_) (fun h=>?_))
  ·refine ab (jb (bH (t:=(.int .i64)) [(.const (.int .i64 (3)),_),(.const (.int .i64 (2)),_)] [3,2] rfl rfl eF (.cons rfl .int (.cons rfl .int .nil)) rfl rfl) ?_);refine aq (nl ?_);exact jz ((),[3,2]) h [0]
  ·refine aS (ag ?_);exact jz ((),a0) h [0]
 ·
  refine sr (jb (bH (t:=(.int .i64)) [(.const (.int .i64 (0)),_),(.const (.int .i64 (2)),_)] [0,2] rfl rfl eF (.cons rfl .int (.cons rfl .int .nil)) rfl rfl) ?_);refine jb (dD [(0,.const (.int .i64 (1)),_),(1,.tmp 7,_)] rfl E6 wB zE (jm ⟨rfl,rfl,trivial⟩) rfl) ?_;refine ja (bH (t:=(.int .i64)) [(.const (.int .i64 (1)),_)] [1] rfl rfl eF (.cons rfl .int .nil) rfl rfl) ?_;refine jb (dD [(0,.const (.int .i64 (1)),_),(1,.tmp 9,_)] rfl E6 wB zE (jm ⟨rfl,rfl,trivial⟩) rfl) ?_;refine ja (bH (t:=(.int .i64)) [(.const (.int .i64 (2)),_)] [2] rfl rfl eF (.cons rfl .int .nil) rfl rfl) ?_;refine jb (dD [(0,.const (.int .i64 (2)),_),(1,.tmp 11,_)] rfl E6 wB zE (jm ⟨rfl,rfl,trivial⟩) rfl) ?_;refine jb (bH (t:=(.int .i64)) [(.const (.int .i64 (0)),_),(.const (.int .i64 (1)),_)] [0,1] rfl rfl eF (.cons rfl .int (.cons rfl .int .nil)) rfl rfl) ?_;refine jb (dD [(0,.const (.int .i64 (1)),_),(1,.tmp 13,_)] rfl E6 wB zE (jm ⟨rfl,rfl,trivial⟩) rfl) ?_;refine aB rfl (bH (t:=cN) [(.tmp 8,_),(.tmp 10,_),(.tmp 12,_),(.tmp 14,_)] [(1,[0,2]),(1,[1]),(2,[2]),(1,[0,1])] rfl rfl KP (.cons trivial (.agg (.pair .int .rep)) (.cons trivial (.agg (.pair .int .rep)) (.cons trivial (.agg (.pair .int .rep)) (.cons trivial (.agg (.pair .int .rep)) .nil)))) rfl rfl) ⟨rfl,rfl,rfl,rfl,trivial⟩ ?_;refine mq ?_;refine jc (dD [(0,.const (.int .i64 (3)),_),(1,.tmp 15,_),(2,.tmp 16,_)] rfl Nw xU Kz (jm ⟨rfl,rfl,rfl,trivial⟩) rfl) ?_;refine bf rfl rfl (a9 rfl fV trivial rfl rfl) ⟨rfl,rfl,trivial⟩ ?_;refine nt (aA (bv (pu (a:=.agg (.pair (I 3) (.pair (Rs cN [(1,[0,2]),(1,[1]),(2,[2]),(1,[0,1])]) (Ri x2)))) (a':=.rep aF (3,[(1,[0,2]),(1,[1]),(2,[2]),(1,[0,1])],x2)) (xO (.agg (.pair .int (.pair .rep .rep))))) ?_));cases h;exact aD () [.rep aF (3,[(1,[0,2]),(1,[1]),(2,[2]),(1,[0,1])],x2)] 0 ⟨⟨_,_,_,_,_,rfl,(.head _),fV,(vL),rfl⟩,trivial⟩ rfl
def vU(k:Nat):Option (List (List Int)):=
 some [[1,0,3],[2]]
theorem q8(k:Nat)(r:(List (List Int)))(h:vU k=some r):
 bX Tryz.prog 79 [] [] (fun _:Unit=>(bp [.rep (.slice (.slice (.int .i64))) r],[])):=by
 unfold vU at h
 replace h:=be h
 refine bX.of 4 Tryz.func79 rfl Tryz.ntmps79 rfl fun S w0=>?_
 refine sr ?_
 refine cq ?_
 refine nt ?_
 refine sr ?_
 refine jc (bH (t:=(.int .i64)) [(.const (.int .i64 (1)),_),(.const (.int .i64 (0)),_),(.const (.int .i64 (3)),_)] [1,0,3] rfl rfl eF (.cons rfl .int (.cons rfl .int (.cons rfl .int .nil))) rfl rfl) ?_
 refine ja (bH (t:=(.int .i64)) [(.const (.int .i64 (2)),_)] [2] rfl rfl eF (.cons rfl .int .nil) rfl rfl) ?_
 refine jb (bH (t:=(.slice (.int .i64))) [(.tmp 1,_),(.tmp 2,_)] [[1,0,3],[2]] rfl rfl rT (.cons rfl .rep (.cons rfl .rep .nil)) rfl rfl) ?_
 refine aq ?_
 refine nt ?_
 refine aA ?_
 cases h
 exact ra
def Gs(k:Nat):Option (List (List Int)):=
 some [[0,2],[3,1]]
theorem Gq(k:Nat)(r:(List (List Int)))(h:Gs k=some r):
 bX Tryz.prog 80 [] [] (fun _:Unit=>(bp [.rep (.slice (.slice (.int .i64))) r],[])):=by
 unfold Gs at h
 replace h:=be h
 refine bX.of 4 Tryz.func80 rfl Tryz.ntmps80 rfl fun S w0=>?_
 refine sr ?_
 refine cq ?_
 refine nt ?_
 refine sr ?_
 refine jb (bH (t:=(.int .i64)) [(.const (.int .i64 (0)),_),(.const (.int .i64 (2)),_)] [0,2] rfl rfl eF (.cons rfl .int (.cons rfl .int .nil)) rfl rfl) ?_
 refine jb (bH (t:=(.int .i64)) [(.const (.int .i64 (3)),_),(.const (.int .i64 (1)),_)] [3,1] rfl rfl eF (.cons rfl .int (.cons rfl .int .nil)) rfl rfl) ?_
 refine jb (bH (t:=(.slice (.int .i64))) [(.tmp 1,_),(.tmp 2,_)] [[0,2],[3,1]] rfl rfl rT (.cons rfl .rep (.cons rfl .rep .nil)) rfl rfl) ?_
 refine aq ?_
 refine nt ?_
 refine aA ?_
 cases h
 exact ra
def ma(k:Nat)(a0:(List Int)):Option bI:=
 some (a0,0,1)
theorem ut(k:Nat)(a0:(List Int))(r:bI)(h:ma k a0=some r):
 bX Tryz.prog 26 [Ri a0] [] (fun z:Nat=>(bp [Pt z],[.obj z 98 (.agg (.pair (Ri r.1) (.pair (I r.2.1) (.eq (.int .u64 r.2.2)))))])):=by
 unfold ma at h
 replace h:=be h
 refine bX.of 6 Tryz.func26 rfl Tryz.ntmps26 rfl fun S w0=>?_
 refine sr ?_
 refine cq ?_
 refine nt ?_
 refine sr ?_
 refine mq ?_
 refine jb (dD [(0,.tmp 3,_),(2,.const (.int .u64 (1)),_)] rfl Qa P4 Pi (jm ⟨rfl,rfl,trivial⟩) rfl) ?_
 refine aE rfl rfl rfl (nJ rfl trivial) ⟨rfl,trivial⟩ fun b1=>?_
 refine aq ?_
 refine nt ?_
 refine aA ?_
 cases h
 exact aD b1 [Pt b1] 1 ⟨rfl,trivial⟩ rfl
def jv(k:Nat)(a0:(List Int)):Option (List Int):=
 (dT (bV (List.length ([]:(List Int))+List.length a0))).bind fun _=>
 some (([]:(List Int))++a0)
theorem te(k:Nat)(a0:(List Int))(r:(List Int))(h:jv k a0=some r):
 bX Tryz.prog 55 [Ri a0] [] (fun z:Value=>(bp [.eq z],[.sl z 3 (.int .i64) r])):=by
 unfold jv at h
 replace h:=be h
 refine bX.of 6 Tryz.func55 rfl Tryz.ntmps55 rfl fun S w0=>?_
 refine sr ?_
 refine cq ?_
 refine nt ?_
 refine sr ?_
 refine aE rfl rfl rfl (nk (t:=(.int .i64)) [] ([]:(List Int)) rfl rfl eF .nil rfl rfl) trivial fun v1=>?_
 refine mq ?_
 obtain⟨u2,c,h⟩:=aa h
 refine ek rfl rfl rfl (cg rfl rfl eF (aC c)) ⟨rfl,rfl,trivial⟩ fun v3=>?_
 refine aq ?_
 refine nt ?_
 refine aA ?_
 cases h
 exact aD v3 [.eq v3] 1 ⟨rfl,trivial⟩ rfl
def eV(k:Nat)(a0:(List (List Int))):Nat→((List (List Int))×Int)→Option (List (List Int))
 |0,_=>none
 |n+1,y3=>
  if y3.2 < (a0.length:Int) then((aZ a0 y3.2).bind fun x5=>
  (jv k x5).bind fun r6=>
  (dT (bV (List.length y3.1+List.length [r6]))).bind fun _=>
  (ck (y3.2+1)).bind fun c=>
  eV k a0 n (y3.1++[r6],c)) else(some y3.1)
def iK(k:Nat)(a0:(List (List Int))):Option (List (List Int)):=
 ((eV k a0 k (([]:(List (List Int))),0)):Option ((List (List Int)))).bind fun x1=>
 some x1
theorem sx(k:Nat)(a0:(List (List Int)))(r:(List (List Int)))(h:iK k a0=some r):
 bX Tryz.prog 30 [.rep (.slice (.slice (.int .i64))) a0] [] (fun z:Value=>(bp [.eq z],[.sl z 23 (.slice (.int .i64)) r])):=by
 unfold iK at h
 replace h:=be h
 refine bX.of 20 Tryz.func30 rfl Tryz.ntmps30 rfl fun S w0=>?_
 refine sr ?_
 refine cq ?_
 refine nt ?_
 refine sr ?_
 refine cq ?_
 refine nt ?_
 refine aP (Z:=Value) (α:=(List (List Int))) (fun z2 x1=>[(3,.eq z2)]) (fun z2 x1=>[.sl z2 23 (.slice (.int .i64)) x1]) h (fun K h=>?_) (fun z2 x1 h=>?_)
 ·
  refine sr (cq (nt (aj ?_)));refine fU (SE.nil 23 (.slice (.int .i64))) ?_;refine aG (fun z4 y3=>[(0,.rep (.slice (.slice (.int .i64))) a0),(3,.eq z4),(4,I y3.2)]) (fun z4 y3=>[.sl z4 23 (.slice (.int .i64)) y3.1]) (eV k a0) k (.slice none 0 0) (([]:(List (List Int))),0) (fun _=>rfl) h (SE.fin [0] ⟨rfl,rfl,rfl,trivial⟩ rfl) (fun n z4 y3 h=>?_);unfold eV at h;refine ae (sr ?_);iterate 2 refine mq ?_
  refine ol mf ?_;refine jb (bq rfl) ?_;refine nt (ci h (fun h=>?_) (fun h=>?_))
  ·refine sk (ae (aj (ab ?_)));iterate 3 refine mq ?_
   obtain⟨x5,j,h⟩:=aa h;refine jb (aH (t:=(.slice (.int .i64))) rfl mf cd j) ?_;refine ja (an (t:=(.slice (.int .i64))) rfl cd rfl) ?_;obtain⟨r6,s,h⟩:=aa h;refine aE rfl rfl rfl (ak [.tmp 15] rfl rfl QK rfl (te k x5 r6 s)) ⟨rfl,trivial⟩ fun v7=>?_;refine cJ (fp [16] ⟨rfl,trivial⟩) ?_;refine ja (bH (t:=(.slice (.int .i64))) [(.tmp 16,_)] [r6] rfl rfl rT (.cons rfl .rep .nil) rfl rfl) ?_;obtain⟨u8,l,h⟩:=aa h;refine ek rfl rfl rfl (cg rfl rfl rT (aC l)) ⟨rfl,rfl,trivial⟩ fun v9=>?_;refine aq (ar (aL (tn (ab ?_))));refine mq ?_;obtain⟨e,c,h⟩:=aa h;refine jb (ba rfl c) ?_;refine aq (nl ?_);exact jz (v9,(y3.1++[r6],e)) h [0]
  ·refine xa ?_;exact jz (z4,y3.1) h [0]
 ·
  refine sr (mq ?_);refine aq (nt (aA ?_));cases h;exact aD z2 [.eq z2] 1 ⟨rfl,trivial⟩ rfl
def iJ(k:Nat)(a0:bI):Option (Int×bI):=
 ((if a0.2.1 < (a0.1.length:Int) then((aZ a0.1 a0.2.1).bind fun x3=>
 some (IntKind.u64.wrap ((IntKind.u64.wrap ((IntKind.u64.wrap (a0.2.2 * 6364136223846793005))+1442695040888963407))+(IntKind.u64.wrap ((IntKind.u64.wrap x3) * 2862933555777941757))))) else(some (IntKind.u64.wrap ((IntKind.u64.wrap (a0.2.2 * 6364136223846793005))+1442695040888963407)))):Option (Int)).bind fun x1=>
 (ck (a0.2.1+1)).bind fun x4=>
 some (ig .u64 (qj .u64 (IntKind.u64.wrap ((qj .u64 x1 (ig .u64 x1 29)) * 2685821657736338717)) (ig .u64 (IntKind.u64.wrap ((qj .u64 x1 (ig .u64 x1 29)) * 2685821657736338717)) 32)) 8,(a0.1,x4,x1))
theorem sw(k:Nat)(a0:bI)(c:Nat)(r:Int×bI)(h:iJ k a0=some r):
 bX Tryz.prog 82 [Pt c] [.obj c 98 (.agg (.pair (Ri a0.1) (.pair (I a0.2.1) (.eq (.int .u64 a0.2.2)))))] (fun _:Unit=>(bp [.eq (.int .u64 r.1)],[.obj c 98 (.agg (.pair (Ri r.2.1) (.pair (I r.2.2.1) (.eq (.int .u64 r.2.2.2)))))])):=by
 unfold iJ at h
 replace h:=be h
 refine bX.of 67 Tryz.func82 rfl Tryz.ntmps82 rfl fun S w0=>?_
 refine sr ?_
 refine cq ?_
 refine nt ?_
 refine sr ?_
 iterate 2 refine mq ?_
 refine ja (aW rfl) ?_
 refine fl sB ?_
 refine lo C0 ?_
 refine jb (AD rfl) ?_
 refine jb (AH rfl) ?_
 refine ja (aW rfl) ?_
 refine fl sB ?_
 refine bf rfl rfl (a9 rfl C0 rfl rfl rfl) ⟨rfl,rfl,trivial⟩ ?_
 refine nt ?_
 refine aP (Z:=Unit) (α:=Int) (fun z2 x1=>[(0,Pt c)]) (fun z2 x1=>[.obj c 98 (.agg (.pair (Ri a0.1) (.pair (I a0.2.1) (.eq (.int .u64 x1)))))]) h (fun K h=>?_) (fun z2 x1 h=>?_)
 ·
  refine ae (cm ?_);refine dm ?_;refine da (aW rfl) ?_;refine da (aw rfl xp) ?_;refine ea 0 (ao rfl cu mA rfl) ?_;refine dm ?_;refine da (aW rfl) ?_;refine da (aw rfl GT) ?_;refine ea 0 (ao rfl cd mA rfl) ?_;refine da (jt rfl rfl dE) ?_;refine df eM ?_;refine jb (bq rfl) ?_;refine nt (ci h (fun h=>?_) (fun h=>?_))
  ·refine cm ?_;refine dm ?_;refine dm ?_;refine da (aW rfl) ?_;refine da (aw rfl sB) ?_;refine ea 0 (ao rfl C0 mA rfl) ?_;refine dm ?_;refine da (aW rfl) ?_;refine da (aw rfl GT) ?_;refine ea 0 (ao rfl cd mA rfl) ?_;refine dm ?_;refine da (aW rfl) ?_;refine da (aw rfl xp) ?_;refine ea 0 (ao rfl cu mA rfl) ?_;obtain⟨x3,j,h⟩:=aa h;refine db (aH (t:=(.int .i64)) rfl dE cu j) ?_;refine da (an (t:=(.int .i64)) rfl cu rfl) ?_;refine da (om rfl U3 PX) ?_;refine db (AD rfl) ?_;refine db (AH rfl) ?_;refine df eM ?_;refine ja (aW rfl) ?_;refine fl sB ?_;refine bf rfl rfl (a9 rfl C0 rfl rfl rfl) ⟨rfl,rfl,trivial⟩ ?_;refine nl ?_;exact jz ((),IntKind.u64.wrap ((IntKind.u64.wrap ((IntKind.u64.wrap (a0.2.2 * 6364136223846793005))+1442695040888963407))+(IntKind.u64.wrap ((IntKind.u64.wrap x3) * 2862933555777941757)))) h [0]
  ·refine aS (ag ?_);exact jz ((),IntKind.u64.wrap ((IntKind.u64.wrap (a0.2.2 * 6364136223846793005))+1442695040888963407)) h [0]
 ·
  refine sr (mq ?_);refine ja (aW rfl) ?_;refine fl xp ?_;refine lo cu ?_;obtain⟨x4,e,h⟩:=aa h;refine jb (ba rfl e) ?_;refine ja (aW rfl) ?_;refine fl xp ?_;refine bf rfl rfl (a9 rfl cu rfl rfl rfl) ⟨rfl,rfl,trivial⟩ ?_;refine nt (ae (cm ?_));refine dm ?_;refine da (aW rfl) ?_;refine da (aw rfl sB) ?_;refine ea 0 (ao rfl C0 mA rfl) ?_;refine dm ?_;refine da (aW rfl) ?_;refine da (aw rfl sB) ?_;refine ea 0 (ao rfl C0 mA rfl) ?_;refine dw rfl rfl rfl (ue rfl (by decide)) ⟨rfl,rfl,trivial⟩ ?_;refine df eM ?_;refine jb (J1 rfl) ?_;refine aq (nt (sr ?_));refine mq ?_;refine jb (AD rfl) ?_;refine aq (nt (sr ?_));iterate 2 refine mq ?_
  refine aB rfl (ue rfl (by decide)) ⟨rfl,rfl,trivial⟩ ?_;refine jb (J1 rfl) ?_;refine aB rfl (ue rfl (by decide)) ⟨rfl,rfl,trivial⟩ ?_;refine aq (nt (aA ?_));cases h;exact aD () [_] 1 ⟨rfl,trivial⟩ rfl
def dK(k:Nat)(a0:bI)(a1:Int):Option (Int×bI):=
 if a1 < 1 then(some (0,(a0.1,a0.2.1,a0.2.2))) else((iJ k (a0.1,a0.2.1,a0.2.2)).bind fun r1=>
 (ck (a1+1)).bind fun x2=>
 (dT ((IntKind.u64.wrap x2)≠0)).bind fun _=>
 (ck (Int.tmod r1.1 (IntKind.u64.wrap x2))).bind fun x4=>
 some (x4,(r1.2.1,r1.2.2.1,r1.2.2.2)))
theorem gf(k:Nat)(a0:bI)(c:Nat)(a1:Int)(r:Int×bI)(h:dK k a0 a1=some r):
 bX Tryz.prog 28 [Pt c,I a1] [.obj c 98 (.agg (.pair (Ri a0.1) (.pair (I a0.2.1) (.eq (.int .u64 a0.2.2)))))] (fun _:Unit=>(bp [I r.1],[.obj c 98 (.agg (.pair (Ri r.2.1) (.pair (I r.2.2.1) (.eq (.int .u64 r.2.2.2)))))])):=by
 unfold dK at h
 replace h:=be h
 refine bX.of 14 Tryz.func28 rfl Tryz.ntmps28 rfl fun S w0=>?_
 refine sr ?_
 refine cq ?_
 refine nt ?_
 refine ae ?_
 refine sr ?_
 refine mq ?_
 refine jb (bq rfl) ?_
 refine nt ?_
 refine ci h (fun h=>?_) (fun h=>?_)
 ·
  refine sr (cq (nt (rx ?_)));cases h;exact aD () [_] 1 ⟨rfl,trivial⟩ rfl
 ·
  refine sk (sr (mq ?_));obtain⟨r1,n,h⟩:=aa h;refine ka (ak [.tmp 7] rfl rfl QC rfl (sw k (a0.1,a0.2.1,a0.2.2) c r1 n)) ?_;refine mq ?_;obtain⟨x2,j,h⟩:=aa h;refine jb (ba rfl j) ?_;refine ja (om rfl U3 PX) ?_;obtain⟨u3,l,h⟩:=aa h;refine jb (Fo rfl (aC l)) ?_;obtain⟨x4,e,h⟩:=aa h;refine ja (yF rfl PX U3 e) ?_;refine aq (nt (aA ?_));cases h;exact aD () [_] 1 ⟨rfl,trivial⟩ rfl
def eQ(k:Nat)(a0:bI)(a1:Int)(a2:Int):Option (Int×bI):=
 (ck (a2 - a1)).bind fun x1=>
 (dK k (a0.1,a0.2.1,a0.2.2) x1).bind fun r2=>
 (ck (a1+r2.1)).bind fun x3=>
 some (x3,(r2.2.1,r2.2.2.1,r2.2.2.2))
theorem lG(k:Nat)(a0:bI)(c:Nat)(a1:Int)(a2:Int)(r:Int×bI)(h:eQ k a0 a1 a2=some r):
 bX Tryz.prog 51 [Pt c,I a1,I a2] [.obj c 98 (.agg (.pair (Ri a0.1) (.pair (I a0.2.1) (.eq (.int .u64 a0.2.2)))))] (fun _:Unit=>(bp [I r.1],[.obj c 98 (.agg (.pair (Ri r.2.1) (.pair (I r.2.2.1) (.eq (.int .u64 r.2.2.2)))))])):=by
 unfold eQ at h
 replace h:=be h
 refine bX.of 14 Tryz.func51 rfl Tryz.ntmps51 rfl fun S w0=>?_
 refine sr ?_
 refine cq ?_
 refine nt ?_
 refine sr ?_
 iterate 4 refine mq ?_
 obtain⟨x1,j,h⟩:=aa h
 refine jb (eA rfl j) ?_
 obtain⟨r2,l,h⟩:=aa h
 have n:=gf k (a0.1,a0.2.1,a0.2.2) c x1 r2 l
 refine kb (ak [.tmp 8,.tmp 11] rfl rfl G2 rfl n) ?_
 obtain⟨x3,e,h⟩:=aa h
 refine jb (ba rfl e) ?_
 refine aq ?_
 refine nt ?_
 refine aA ?_
 cases h
 exact aD () [_] 1 ⟨rfl,trivial⟩ rfl
def jf(k:Nat)(a0:bI)(a1:(List Int)):Option (Int×bI):=
 (ck ((a1.length:Int) - 1)).bind fun x1=>
 (dK k (a0.1,a0.2.1,a0.2.2) x1).bind fun r2=>
 (aZ a1 r2.1).bind fun x3=>
 some (x3,(r2.2.1,r2.2.2.1,r2.2.2.2))
theorem oy(k:Nat)(a0:bI)(c:Nat)(a1:(List Int))(r:Int×bI)(h:jf k a0 a1=some r):
 bX Tryz.prog 112 [Pt c,Ri a1] [.obj c 98 (.agg (.pair (Ri a0.1) (.pair (I a0.2.1) (.eq (.int .u64 a0.2.2)))))] (fun _:Unit=>(bp [I r.1],[.obj c 98 (.agg (.pair (Ri r.2.1) (.pair (I r.2.2.1) (.eq (.int .u64 r.2.2.2)))))])):=by
 unfold jf at h
 replace h:=be h
 refine bX.of 13 Tryz.func112 rfl Tryz.ntmps112 rfl fun S w0=>?_
 refine sr ?_
 refine cq ?_
 refine nt ?_
 refine sr ?_
 iterate 3 refine mq ?_
 refine ol dE ?_
 obtain⟨x1,j,h⟩:=aa h
 refine jb (eA rfl j) ?_
 obtain⟨r2,l,h⟩:=aa h
 have n:=gf k (a0.1,a0.2.1,a0.2.2) c x1 r2 l
 refine kb (ak [.tmp 6,.tmp 9] rfl rfl G2 rfl n) ?_
 obtain⟨x3,e,h⟩:=aa h
 refine jb (aH (t:=(.int .i64)) rfl dE cu e) ?_
 refine ja (an (t:=(.int .i64)) rfl cu rfl) ?_
 refine aq ?_
 refine nt ?_
 refine aA ?_
 cases h
 exact aD () [_] 1 ⟨rfl,trivial⟩ rfl
def fQ(k:Nat)(a0:bI)(a1:Int):Option (Bool×bI):=
 (ck (a1 - 1)).bind fun x1=>
 (dK k (a0.1,a0.2.1,a0.2.2) x1).bind fun r2=>
 some (decide (r2.1=0),(r2.2.1,r2.2.2.1,r2.2.2.2))
theorem mU(k:Nat)(a0:bI)(c:Nat)(a1:Int)(r:Bool×bI)(h:fQ k a0 a1=some r):
 bX Tryz.prog 113 [Pt c,I a1] [.obj c 98 (.agg (.pair (Ri a0.1) (.pair (I a0.2.1) (.eq (.int .u64 a0.2.2)))))] (fun _:Unit=>(bp [.eq (.bool r.1)],[.obj c 98 (.agg (.pair (Ri r.2.1) (.pair (I r.2.2.1) (.eq (.int .u64 r.2.2.2)))))])):=by
 unfold fQ at h
 replace h:=be h
 refine bX.of 10 Tryz.func113 rfl Tryz.ntmps113 rfl fun S w0=>?_
 refine sr ?_
 refine cq ?_
 refine nt ?_
 refine sr ?_
 iterate 2 refine mq ?_
 obtain⟨x1,e,h⟩:=aa h
 refine jb (eA rfl e) ?_
 obtain⟨r2,j,h⟩:=aa h
 have l:=gf k (a0.1,a0.2.1,a0.2.2) c x1 r2 j
 refine kb (ak [.tmp 5,.tmp 7] rfl rfl G2 rfl l) ?_
 refine jb (fj rfl) ?_
 refine aq ?_
 refine nt ?_
 refine aA ?_
 cases h
 exact aD () [_] 1 ⟨rfl,trivial⟩ rfl
def eO(k:Nat)(r2:Int×bI):Nat→((List Int)×Int×Int×(List Int)×Int)→Option ((List Int)×Int×Int×(List Int))
 |0,_=>none
 |n+1,c=>
  if c.2.2.2.2 < r2.1 then((((fQ k (c.1,c.2.1,c.2.2.1) 2).bind fun e=>
  if e.1=true then((dT (bV (List.length c.2.2.2.1+List.length [c.2.2.2.2]))).bind fun _=>
  some (e.2.1,e.2.2.1,e.2.2.2,c.2.2.2.1++[c.2.2.2.2])) else(some (e.2.1,e.2.2.1,e.2.2.2,c.2.2.2.1))):Option ((List Int)×Int×Int×(List Int))).bind fun h=>
  (ck (c.2.2.2.2+1)).bind fun j=>
  eO k r2 n (h.1,h.2.1,h.2.2.1,h.2.2.2,j)) else(some (c.1,c.2.1,c.2.2.1,c.2.2.2.1))
def eP(k:Nat)(r2:Int×bI):Nat→((List Int)×Int×Int×(List lI)×Int×Int)→Option ((List Int)×Int×Int×(List lI)×Int)
 |0,_=>none
 |n+1,y7=>
  if 0 < y7.2.2.2.2.2 then((((jf k (y7.1,y7.2.1,y7.2.2.1) [1,1,1,2,3]).bind fun c=>
  ((eO k r2 k (c.2.1,c.2.2.1,c.2.2.2,([]:(List Int)),0)):Option ((List Int)×Int×Int×(List Int))).bind fun e=>
  (dT (bV (List.length y7.2.2.2.1+List.length [(c.1,e.2.2.2)]))).bind fun _=>
  (ck (y7.2.2.2.2.1+c.1)).bind fun j=>
  some (e.1,e.2.1,e.2.2.1,y7.2.2.2.1++[(c.1,e.2.2.2)],j)):Option ((List Int)×Int×Int×(List lI)×Int)).bind fun x9=>
  (ck (y7.2.2.2.2.2 - 1)).bind fun h=>
  eP k r2 n (x9.1,x9.2.1,x9.2.2.1,x9.2.2.2.1,x9.2.2.2.2,h)) else(some (y7.1,y7.2.1,y7.2.2.1,y7.2.2.2.1,y7.2.2.2.2.1))
def eN(k:Nat)(x4:(List Int)×Int×Int×(List lI)×Int):Nat→((List Int)×Int×Int×(List Int)×Int)→Option ((List Int)×Int×Int×(List Int))
 |0,_=>none
 |n+1,c=>
  if 0 < c.2.2.2.2 then((ck (x4.2.2.2.2+1)).bind fun j=>
  (jf k (c.1,c.2.1,c.2.2.1) [1,2,3,pE 9 x4.2.2.2.2,pE 9 j]).bind fun e=>
  (dT (bV (List.length c.2.2.2.1+List.length [e.1]))).bind fun _=>
  (ck (c.2.2.2.2 - 1)).bind fun h=>
  eN k x4 n (e.2.1,e.2.2.1,e.2.2.2,c.2.2.2.1++[e.1],h)) else(some (c.1,c.2.1,c.2.2.1,c.2.2.2.1))
def jL(k:Nat)(a0:bI)(a1:Int)(a2:Int):Option (a8×bI):=
 (eQ k (a0.1,a0.2.1,a0.2.2) 1 4).bind fun r2=>
 (((eQ k (r2.2.1,r2.2.2.1,r2.2.2.2) 0 a1).bind fun r6=>
 eP k r2 k (r6.2.1,r6.2.2.1,r6.2.2.2,([]:(List lI)),0,r6.1)):Option ((List Int)×Int×Int×(List lI)×Int)).bind fun x4=>
 (((eQ k (x4.1,x4.2.1,x4.2.2.1) 1 a2).bind fun j=>
 eN k x4 k (j.2.1,j.2.2.1,j.2.2.2,([]:(List Int)),j.1)):Option ((List Int)×Int×Int×(List Int))).bind fun e=>
 (((fQ k (e.1,e.2.1,e.2.2.1) 2).bind fun c=>
 if c.1=true then((aZ e.2.2.2 0).bind fun l=>
 some (List.set e.2.2.2 (Int.toNat 0) (pE 9 x4.2.2.2.2),c.2.1,c.2.2.1,c.2.2.2)) else(some (e.2.2.2,c.2.1,c.2.2.1,c.2.2.2))):Option ((List Int)×(List Int)×Int×Int)).bind fun h=>
 some ((r2.1,x4.2.2.2.1,h.1),(h.2.1,h.2.2.1,h.2.2.2))
theorem vp(k:Nat)(a0:bI)(c:Nat)(a1:Int)(a2:Int)(r:a8×bI)(h:jL k a0 a1 a2=some r):
 bX Tryz.prog 49 [Pt c,I a1,I a2] [.obj c 98 (.agg (.pair (Ri a0.1) (.pair (I a0.2.1) (.eq (.int .u64 a0.2.2)))))] (fun _:Unit=>(bp [.rep aF r.1],[.obj c 98 (.agg (.pair (Ri r.2.1) (.pair (I r.2.2.1) (.eq (.int .u64 r.2.2.2)))))])):=by
 unfold jL at h
 replace h:=be h
 refine bX.of 79 Tryz.func49 rfl Tryz.ntmps49 rfl fun S w0=>?_
 refine sr ?_
 refine aE rfl rfl rfl (bJ rfl xU Eb) trivial fun b1=>?_
 refine nt ?_
 refine sr ?_
 refine mq ?_
 obtain⟨r2,Sj,h⟩:=aa h
 have Sl:=lG k (a0.1,a0.2.1,a0.2.2) c 1 4 r2 Sj
 refine fr 1 ?_
 refine kc (ak [.tmp 13,.const (.int .i64 (1)),.const (.int .i64 (4))] rfl rfl LQ rfl Sl) ?_
 refine ja (dD [(0,.tmp 14,_)] rfl Nw xU Kz (jm ⟨rfl,trivial⟩) rfl) ?_
 refine aE rfl rfl rfl (bJ rfl xU Eb) trivial fun b3=>?_
 refine bf rfl rfl (a9 rfl fV trivial rfl rfl) ⟨rfl,rfl,trivial⟩ ?_
 refine nt ?_
 refine sr ?_
 refine cq ?_
 refine nt ?_
 refine aP (Z:=Value) (α:=(List Int)×Int×Int×(List lI)×Int) (fun z5 x4=>[(0,Pt c),(2,I a2),(6,Pt b1),(7,Pt b3),(8,I x4.2.2.2.2)]) (fun z5 x4=>[.obj c 98 (.agg (.pair (Ri x4.1) (.pair (I x4.2.1) (.eq (.int .u64 x4.2.2.1))))),.obj b1 25 (.agg (.pair (I 0) (.pair (.eq (.slice none 0 0)) (.eq (.slice none 0 0))))),.obj b3 25 (.agg (.pair (I r2.1) (.pair (.eq z5) (.eq (.slice none 0 0))))),.sl z5 27 cN x4.2.2.2.1]) h (fun K h=>?_) (fun z5 x4 h=>?_)
 ·
  refine sr ?_;iterate 2 refine mq ?_
  obtain⟨r6,Si,h⟩:=aa h;refine fr 1 ?_;refine kc (ak [.tmp 16,.const (.int .i64 (0)),.tmp 17] rfl rfl LQ rfl (lG k (r2.2.1,r2.2.2.1,r2.2.2.2) c 0 a1 r6 Si)) ?_;refine aq (nt (aj ?_));refine fU (SE.nil 27 cN) ?_;refine aG (fun z8 y7=>[(0,Pt c),(2,I a2),(6,Pt b1),(7,Pt b3),(8,I y7.2.2.2.2.1),(9,I y7.2.2.2.2.2)]) (fun z8 y7=>[.obj c 98 (.agg (.pair (Ri y7.1) (.pair (I y7.2.1) (.eq (.int .u64 y7.2.2.1))))),.obj b1 25 (.agg (.pair (I 0) (.pair (.eq (.slice none 0 0)) (.eq (.slice none 0 0))))),.obj b3 25 (.agg (.pair (I r2.1) (.pair (.eq z8) (.eq (.slice none 0 0))))),.sl z8 27 cN y7.2.2.2.1]) (eP k r2) k (.slice none 0 0) (r6.2.1,r6.2.2.1,r6.2.2.2,([]:(List lI)),0,r6.1) (fun _=>rfl) h (SE.fin [1,3,2,0] ⟨rfl,rfl,rfl,rfl,rfl,rfl,trivial⟩ rfl) (fun n z8 y7 h=>?_);unfold eP at h;refine ae (sr (mq ?_));refine jb (jC rfl) ?_;refine nt (ci h (fun h=>?_) (fun h=>?_))
  ·refine sk (aP (Z:=Value) (α:=(List Int)×Int×Int×(List lI)×Int) (fun X x9=>[(0,Pt c),(2,I a2),(6,Pt b1),(7,Pt b3),(8,I x9.2.2.2.2),(9,I y7.2.2.2.2.2)]) (fun X x9=>[.obj c 98 (.agg (.pair (Ri x9.1) (.pair (I x9.2.1) (.eq (.int .u64 x9.2.2.1))))),.obj b1 25 (.agg (.pair (I 0) (.pair (.eq (.slice none 0 0)) (.eq (.slice none 0 0))))),.obj b3 25 (.agg (.pair (I r2.1) (.pair (.eq X) (.eq (.slice none 0 0))))),.sl X 27 cN x9.2.2.2.1]) h (fun K h=>?_) (fun X x9 h=>?_))
   ·refine aj (sr (mq ?_));refine aB rfl (bH (t:=(.int .i64)) [(.const (.int .i64 (1)),_),(.const (.int .i64 (1)),_),(.const (.int .i64 (1)),_),(.const (.int .i64 (2)),_),(.const (.int .i64 (3)),_)] [1,1,1,2,3] rfl rfl eF (.cons rfl .int (.cons rfl .int (.cons rfl .int (.cons rfl .int (.cons rfl .int .nil))))) rfl rfl) ⟨rfl,rfl,rfl,rfl,rfl,trivial⟩ ?_;obtain⟨s,RJ,h⟩:=aa h;refine kb (ak [.tmp 23,.tmp 24] rfl rfl Kt rfl (oy k (y7.1,y7.2.1,y7.2.2.1) c [1,1,1,2,3] s RJ)) ?_;refine ja (dD [(0,.tmp 25,_)] rfl E6 wB zE (jm ⟨rfl,trivial⟩) rfl) ?_;refine aE rfl rfl rfl (bJ rfl wB Jr) trivial fun M=>?_;refine bf rfl rfl (a9 rfl nM trivial rfl rfl) ⟨rfl,rfl,trivial⟩ ?_;refine nt (aP (Z:=Value) (α:=(List Int)×Int×Int×(List Int)) (fun ac j=>[(0,Pt c),(2,I a2),(6,Pt b1),(7,Pt b3),(8,I y7.2.2.2.2.1),(9,I y7.2.2.2.2.2),(10,Pt M)]) (fun ac j=>[.obj c 98 (.agg (.pair (Ri j.1) (.pair (I j.2.1) (.eq (.int .u64 j.2.2.1))))),.obj b1 25 (.agg (.pair (I 0) (.pair (.eq (.slice none 0 0)) (.eq (.slice none 0 0))))),.obj b3 25 (.agg (.pair (I r2.1) (.pair (.eq z8) (.eq (.slice none 0 0))))),.sl z8 27 cN y7.2.2.2.1,.obj M 27 (.agg (.pair (I s.1) (.eq ac))),.sl ac 3 (.int .i64) j.2.2.2]) h (fun K h=>?_) (fun ac j h=>?_))
    ·refine sr (cq (nt (aj ?_)));refine fU (SE.nil 3 (.int .i64)) ?_;refine aG (fun Q e=>[(0,Pt c),(2,I a2),(6,Pt b1),(7,Pt b3),(8,I y7.2.2.2.2.1),(9,I y7.2.2.2.2.2),(10,Pt M),(11,I e.2.2.2.2)]) (fun Q e=>[.obj c 98 (.agg (.pair (Ri e.1) (.pair (I e.2.1) (.eq (.int .u64 e.2.2.1))))),.obj b1 25 (.agg (.pair (I 0) (.pair (.eq (.slice none 0 0)) (.eq (.slice none 0 0))))),.obj b3 25 (.agg (.pair (I r2.1) (.pair (.eq z8) (.eq (.slice none 0 0))))),.sl z8 27 cN y7.2.2.2.1,.obj M 27 (.agg (.pair (I s.1) (.eq Q))),.sl Q 3 (.int .i64) e.2.2.2.1]) (eO k r2) k (.slice none 0 0) (s.2.1,s.2.2.1,s.2.2.2,([]:(List Int)),0) (fun _=>rfl) h (SE.fin [2,3,4,5,1,0] ⟨rfl,rfl,rfl,rfl,rfl,rfl,rfl,rfl,trivial⟩ rfl) (fun n Q e h=>?_);unfold eO at h;refine ae (sr (mq ?_));refine fl jP ?_;refine fr 2 ?_;refine lo cu ?_;refine jb (bq rfl) ?_;refine nt (ci h (fun h=>?_) (fun h=>?_))
     ·refine sk (aP (Z:=Value) (α:=(List Int)×Int×Int×(List Int)) (fun U x=>[(0,Pt c),(2,I a2),(6,Pt b1),(7,Pt b3),(8,I y7.2.2.2.2.1),(9,I y7.2.2.2.2.2),(10,Pt M),(11,I e.2.2.2.2)]) (fun U x=>[.obj c 98 (.agg (.pair (Ri x.1) (.pair (I x.2.1) (.eq (.int .u64 x.2.2.1))))),.obj b1 25 (.agg (.pair (I 0) (.pair (.eq (.slice none 0 0)) (.eq (.slice none 0 0))))),.obj b3 25 (.agg (.pair (I r2.1) (.pair (.eq z8) (.eq (.slice none 0 0))))),.sl z8 27 cN y7.2.2.2.1,.obj M 27 (.agg (.pair (I s.1) (.eq U))),.sl U 3 (.int .i64) x.2.2.2]) h (fun K h=>?_) (fun U x h=>?_))
      ·refine aj (sr (mq ?_));obtain⟨J,RI,h⟩:=aa h;refine fr 1 ?_;refine kb (ak [.tmp 33,.const (.int .i64 (2))] rfl rfl Ks rfl (mU k (e.1,e.2.1,e.2.2.1) c 2 J RI)) ?_;refine nt (cv h (fun h=>?_) (fun h=>?_))
       ·refine ab (fl sC ?_);refine fr 4 ?_;refine lo cd ?_;refine mq ?_;refine ja (bH (t:=(.int .i64)) [(.tmp 37,_)] [e.2.2.2.2] rfl rfl eF (.cons rfl .int .nil) rfl rfl) ?_;obtain⟨SJ,RE,h⟩:=aa h;refine fr 5 ?_;refine ek rfl rfl rfl (cg rfl rfl eF (aC RE)) ⟨rfl,rfl,trivial⟩ fun RR=>?_;refine fl sC ?_;refine xH fun o22=>?_;refine fr 1 ?_;refine bf rfl rfl (a9 rfl cd o22 rfl rfl) ⟨rfl,rfl,trivial⟩ ?_;refine ar (bn ?_);exact jz (RR,(J.2.1,J.2.2.1,J.2.2.2,e.2.2.2.1++[e.2.2.2.2])) h [2,4,3,5,0,1]
       ·refine aS (bn ?_);exact jz (Q,(J.2.1,J.2.2.1,J.2.2.2,e.2.2.2.1)) h [0,2,1,3,4,5]
      ·refine ab (mq ?_);obtain⟨RP,RA,h⟩:=aa h;refine jb (ba rfl RA) ?_;refine aq (nl ?_);exact jz (U,(x.1,x.2.1,x.2.2.1,x.2.2.2,RP)) h [0,1,2,3,4,5]
     ·refine xa ?_;exact jz (Q,(e.1,e.2.1,e.2.2.1,e.2.2.2.1)) h [1,2,0,3,4,5]
    ·refine iO 4 rfl ?_;refine iO 5 rfl ?_;refine fU (qu (off:=1) [] trivial rfl rfl) ?_;refine kx ?_;refine aO rfl rfl rfl (aw rfl dB) ⟨rfl,trivial⟩ ?_;refine fg 3 rfl rfl rfl rfl (ao rfl jA mA rfl) ⟨rfl,trivial⟩ ?_;refine fg 0 rfl rfl rfl rfl (ao rfl nM (vL) rfl) ⟨rfl,trivial⟩ ?_;refine aO rfl rfl rfl (bH (t:=cN) [(.tmp 43,_)] [(s.1,j.2.2.2)] rfl rfl KP (.cons trivial (.agg (.pair .int .rep)) .nil) rfl rfl) ⟨rfl,trivial⟩ ?_;obtain⟨SI,RD,h⟩:=aa h;refine uU 4 rfl (fun v=>[.sl v 27 cN (y7.2.2.2.1++[(s.1,j.2.2.2)])]) (fun _=>rfl) rfl rfl rfl (cg rfl rfl KP (aC RD)) ⟨rfl,rfl,trivial⟩ ?_;refine aO rfl rfl rfl (aR rfl) ⟨rfl,trivial⟩ ?_;refine aO rfl rfl rfl (aw rfl oI) ⟨rfl,trivial⟩ ?_;refine fg 0 rfl rfl rfl rfl (ao rfl cu mA rfl) ⟨rfl,trivial⟩ ?_;obtain⟨RO,Rz,h⟩:=aa h;refine aO rfl rfl rfl (ba rfl Rz) ⟨rfl,rfl,trivial⟩ ?_;refine aO rfl rfl rfl (aw rfl dB) ⟨rfl,trivial⟩ ?_;refine oR 10 [true,true,true,true,true,false,false,false,false,true] [] [0] [.obj M 27 (.agg (.pair (I s.1) (Ri j.2.2.2)))] rfl (by kernel_rfl) (by kernel_rfl) (by kernel_rfl) eM (fun vs hv hB=>?_);obtain⟨w0,SG,rfl,R9⟩:=ap hv;obtain⟨w1,SD,rfl,R7⟩:=ap R9;obtain⟨w2,SC,rfl,R2⟩:=ap R7;obtain⟨w3,SB,rfl,RZ⟩:=ap R2;obtain⟨se,SA,rfl,RY⟩:=ap RZ;obtain⟨w5,Sz,rfl,RX⟩:=ap RY;obtain⟨w6,Sv,rfl,RV⟩:=ap RX;obtain⟨w7,Su,rfl,RU⟩:=ap RV;obtain⟨w8,Ss,rfl,RS⟩:=ap RU;obtain⟨w9,Sm,rfl,Ru⟩:=ap RS;obtain rfl:=l9 Ru;refine⟨[0,1,2,3,4],[.obj c 98 (.agg (.pair (Ri j.1) (.pair (I j.2.1) (.eq (.int .u64 j.2.2.1))))),.obj b1 25 (.agg (.pair (I 0) (.pair (.eq (.slice none 0 0)) (.eq (.slice none 0 0))))),.obj b3 25 (.agg (.pair (I r2.1) (.pair (.eq z8) (.eq (.slice none 0 0))))),.sl se 27 cN (y7.2.2.2.1++[(s.1,j.2.2.2)])],by kernel_rfl,by decide,?_⟩;refine lN 3 rfl ?_;refine HE fun o27=>?_;refine lN 3 rfl ?_;refine qx rfl rfl (a9 rfl jA o27 rfl rfl) ⟨rfl,rfl,trivial⟩ (by kernel_rfl) ?_;refine HF (by kernel_rfl) ?_;refine aq (ar (bn ?_));exact jz (se,(j.1,j.2.1,j.2.2.1,y7.2.2.2.1++[(s.1,j.2.2.2)],RO)) h [3,4,1,2]
   ·refine ab (mq ?_);obtain⟨RN,Ry,h⟩:=aa h;refine jb (eA rfl Ry) ?_;refine aq (nl ?_);exact jz (X,(x9.1,x9.2.1,x9.2.2.1,x9.2.2.2.1,x9.2.2.2.2,RN)) h [0,1,2,3]
  ·refine xa ?_;exact jz (z8,(y7.1,y7.2.1,y7.2.2.1,y7.2.2.2.1,y7.2.2.2.2.1)) h [0,1,2,3]
 ·
  refine aP (Z:=Value) (α:=(List Int)×Int×Int×(List Int)) (fun O u=>[(0,Pt c),(6,Pt b1),(7,Pt b3),(8,I x4.2.2.2.2)]) (fun O u=>[.obj c 98 (.agg (.pair (Ri u.1) (.pair (I u.2.1) (.eq (.int .u64 u.2.2.1))))),.obj b1 25 (.agg (.pair (I 0) (.pair (.eq (.slice none 0 0)) (.eq (.slice none 0 0))))),.obj b3 25 (.agg (.pair (I r2.1) (.pair (.eq z5) (.eq O)))),.sl z5 27 cN x4.2.2.2.1,.sl O 3 (.int .i64) u.2.2.2]) h (fun K h=>?_) (fun O u h=>?_)
  ·refine sr ?_;iterate 2 refine mq ?_
   obtain⟨Y,RH,h⟩:=aa h;refine kc (ak [.tmp 51,.const (.int .i64 (1)),.tmp 52] rfl rfl LQ rfl (lG k (x4.1,x4.2.1,x4.2.2.1) c 1 a2 Y RH)) ?_;refine aq (nt (aj ?_));refine fU (SE.nil 3 (.int .i64)) ?_;refine aG (fun E l=>[(0,Pt c),(6,Pt b1),(7,Pt b3),(8,I x4.2.2.2.2),(12,I l.2.2.2.2)]) (fun E l=>[.obj c 98 (.agg (.pair (Ri l.1) (.pair (I l.2.1) (.eq (.int .u64 l.2.2.1))))),.obj b1 25 (.agg (.pair (I 0) (.pair (.eq (.slice none 0 0)) (.eq (.slice none 0 0))))),.obj b3 25 (.agg (.pair (I r2.1) (.pair (.eq z5) (.eq E)))),.sl z5 27 cN x4.2.2.2.1,.sl E 3 (.int .i64) l.2.2.2.1]) (eN k x4) k (.slice none 0 0) (Y.2.1,Y.2.2.1,Y.2.2.2,([]:(List Int)),Y.1) (fun _=>rfl) h (SE.fin [1,2,3,4,0] ⟨rfl,rfl,rfl,rfl,rfl,trivial⟩ rfl) (fun n E l h=>?_);unfold eN at h;refine ae (sr (mq ?_));refine jb (jC rfl) ?_;refine nt (ci h (fun h=>?_) (fun h=>?_))
   ·refine sk (ae (aj (cm ?_)));refine da (aw rfl fR) ?_;refine ea 2 (ao rfl cd mA rfl) ?_;refine dm ?_;refine dm ?_;refine db (Ft rfl rfl) ?_;refine dm ?_;obtain⟨qt,Rx,h⟩:=aa h;refine db (ba rfl Rx) ?_;refine db (Ft rfl rfl) ?_;refine dw rfl rfl rfl (bH (t:=(.int .i64)) [(.const (.int .i64 (1)),_),(.const (.int .i64 (2)),_),(.const (.int .i64 (3)),_),(.tmp 62,_),(.tmp 65,_)] [1,2,3,pE 9 x4.2.2.2.2,pE 9 qt] rfl rfl eF (.cons rfl .int (.cons rfl .int (.cons rfl .int (.cons rfl .int (.cons rfl .int .nil))))) rfl rfl) ⟨rfl,rfl,rfl,rfl,rfl,trivial⟩ ?_;obtain⟨D,RG,h⟩:=aa h;refine JJ 0 rfl rfl rfl rfl (ak [.tmp 60,.tmp 66] rfl rfl Kt rfl (oy k (l.1,l.2.1,l.2.2.1) c [1,2,3,pE 9 x4.2.2.2.2,pE 9 qt] D RG)) ⟨rfl,rfl,trivial⟩ ?_;refine da (bH (t:=(.int .i64)) [(.tmp 67,_)] [D.1] rfl rfl eF (.cons rfl .int .nil) rfl rfl) ?_;refine JL (Δ':=[.obj b1 25 (.agg (.pair (I 0) (.pair (.eq (.slice none 0 0)) (.eq (.slice none 0 0))))),.obj b3 25 (.agg (.pair (I r2.1) (.pair (.eq z5) (.eq E)))),.sl z5 27 cN x4.2.2.2.1,.sl E 3 (.int .i64) l.2.2.2.1,.obj c 98 (.agg (.pair (Ri D.2.1) (.pair (I D.2.2.1) (.eq (.int .u64 D.2.2.2)))))]) (by kernel_rfl) eM (by kernel_rfl) ?_;obtain⟨SH,RB,h⟩:=aa h;refine fr 3 ?_;refine ek rfl rfl rfl (cg rfl rfl eF (aC RB)) ⟨rfl,rfl,trivial⟩ fun RQ=>?_;refine fl fR ?_;refine xH fun o38=>?_;refine fr 2 ?_;refine bf rfl rfl (a9 rfl cd o38 rfl rfl) ⟨rfl,rfl,trivial⟩ ?_;refine ar (aL (tn (ab (mq ?_))));obtain⟨RL,Rw,h⟩:=aa h;refine jb (eA rfl Rw) ?_;refine aq (nl ?_);exact jz (RQ,(D.2.1,D.2.2.1,D.2.2.2,l.2.2.2.1++[D.1],RL)) h [4,2,0,3,1]
   ·refine xa ?_;exact jz (E,(l.1,l.2.1,l.2.2.1,l.2.2.2.1)) h [0,1,2,3,4]
  ·refine aP (Z:=Unit) (α:=(List Int)×(List Int)×Int×Int) (fun pp y=>[(6,Pt b1),(7,Pt b3)]) (fun pp y=>[.obj b1 25 (.agg (.pair (I 0) (.pair (.eq (.slice none 0 0)) (.eq (.slice none 0 0))))),.obj b3 25 (.agg (.pair (I r2.1) (.pair (.eq z5) (.eq O)))),.sl z5 27 cN x4.2.2.2.1,.sl O 3 (.int .i64) y.1,.obj c 98 (.agg (.pair (Ri y.2.1) (.pair (I y.2.2.1) (.eq (.int .u64 y.2.2.2)))))]) h (fun K h=>?_) (fun pp y h=>?_)
   ·refine sr (mq ?_);obtain⟨F,RF,h⟩:=aa h;refine kb (ak [.tmp 71,.const (.int .i64 (2))] rfl rfl Ks rfl (mU k (u.1,u.2.1,u.2.2.1) c 2 F RF)) ?_;refine nt (cv h (fun h=>?_) (fun h=>?_))
    ·refine ab (fl fR ?_);refine fr 2 ?_;refine lo cd ?_;refine mq ?_;refine jb (Ft rfl rfl) ?_;obtain⟨Sr,mc,h⟩:=aa h;refine fr 4 ?_;refine kb (bh (t:=(.int .i64)) rfl dE cu mc) ?_;refine bf rfl rfl (c6 (i:=Int.toNat 0) rfl cu rfl (ix mc) rfl .int rfl) ⟨rfl,rfl,trivial⟩ ?_;refine nl ?_;exact jz ((),(List.set u.2.2.2 (Int.toNat 0) (pE 9 x4.2.2.2.2),F.2.1,F.2.2.1,F.2.2.2)) h [3,1,4,0,2]
    ·refine aS (ag ?_);exact jz ((),(u.2.2.2,F.2.1,F.2.2.1,F.2.2.2)) h [1,2,3,4,0]
   ·refine sr (fr 1 ?_);refine fr 2 ?_;refine cJ (qu (off:=1) [] trivial rfl rfl) ?_;refine fr 2 ?_;refine cJ (qu (off:=2) [] trivial rfl rfl) ?_;refine lo fV ?_;refine fr 1 ?_;refine bf rfl rfl (a9 rfl fV trivial rfl rfl) ⟨rfl,rfl,trivial⟩ ?_;refine nt (aA (bv (pu (a:=.agg (.pair (I r2.1) (.pair (Rs cN x4.2.2.2.1) (Ri y.1)))) (a':=.rep aF (r2.1,x4.2.2.2.1,y.1)) (xO (.agg (.pair .int (.pair .rep .rep))))) ?_));refine bv (SE.fin (Γ':=[(6,_)]) [2,0,1] ⟨rfl,trivial⟩ rfl) ?_;cases h;exact aD () [.rep aF (r2.1,x4.2.2.2.1,y.1)] 1 ⟨⟨_,_,_,_,_,rfl,(.tail _ (.head _)),fV,(vL),rfl⟩,trivial⟩ rfl
def dX(k:Nat)(a1:Int):Nat→((List Int)×Int×Int×(List Int)×Int)→Option ((List Int)×(List Int)×Int×Int)
 |0,_=>none
 |n+1,y3=>
  if y3.2.2.2.2 < a1 then((dK k (y3.1,y3.2.1,y3.2.2.1) y3.2.2.2.2).bind fun r5=>
  (dT (bV (List.length y3.2.2.2.1+List.length [y3.2.2.2.2]))).bind fun _=>
  (aZ (y3.2.2.2.1++[y3.2.2.2.2]) r5.1).bind fun x8=>
  (aZ (y3.2.2.2.1++[y3.2.2.2.2]) y3.2.2.2.2).bind fun x9=>
  (aZ (List.set (y3.2.2.2.1++[y3.2.2.2.2]) (Int.toNat y3.2.2.2.2) x8) r5.1).bind fun e=>
  (ck (y3.2.2.2.2+1)).bind fun c=>
  dX k a1 n (r5.2.1,r5.2.2.1,r5.2.2.2,List.set (List.set (y3.2.2.2.1++[y3.2.2.2.2]) (Int.toNat y3.2.2.2.2) x8) (Int.toNat r5.1) y3.2.2.2.2,c)) else(some (y3.2.2.2.1,y3.1,y3.2.1,y3.2.2.1))
def gg(k:Nat)(a0:bI)(a1:Int):Option ((List Int)×bI):=
 ((dX k a1 k (a0.1,a0.2.1,a0.2.2,([]:(List Int)),0)):Option ((List Int)×(List Int)×Int×Int)).bind fun x1=>
 some (x1.1,(x1.2.1,x1.2.2.1,x1.2.2.2))
theorem q9(k:Nat)(a0:bI)(c:Nat)(a1:Int)(r:(List Int)×bI)(h:gg k a0 a1=some r):
 bX Tryz.prog 63 [Pt c,I a1] [.obj c 98 (.agg (.pair (Ri a0.1) (.pair (I a0.2.1) (.eq (.int .u64 a0.2.2)))))] (fun _:Unit=>(bp [Ri r.1],[.obj c 98 (.agg (.pair (Ri r.2.1) (.pair (I r.2.2.1) (.eq (.int .u64 r.2.2.2)))))])):=by
 unfold gg at h
 replace h:=be h
 refine bX.of 32 Tryz.func63 rfl Tryz.ntmps63 rfl fun S w0=>?_
 refine sr ?_
 refine cq ?_
 refine nt ?_
 refine sr ?_
 refine cq ?_
 refine nt ?_
 refine aP (Z:=Value) (α:=(List Int)×(List Int)×Int×Int) (fun z2 x1=>[(5,.eq z2)]) (fun z2 x1=>[.sl z2 3 (.int .i64) x1.1,.obj c 98 (.agg (.pair (Ri x1.2.1) (.pair (I x1.2.2.1) (.eq (.int .u64 x1.2.2.2)))))]) h (fun K h=>?_) (fun z2 x1 h=>?_)
 ·
  refine sr (cq (nt (aj ?_)));refine fU (SE.nil 3 (.int .i64)) ?_;refine aG (fun z4 y3=>[(0,Pt c),(1,I a1),(5,.eq z4),(6,I y3.2.2.2.2)]) (fun z4 y3=>[.obj c 98 (.agg (.pair (Ri y3.1) (.pair (I y3.2.1) (.eq (.int .u64 y3.2.2.1))))),.sl z4 3 (.int .i64) y3.2.2.2.1]) (dX k a1) k (.slice none 0 0) (a0.1,a0.2.1,a0.2.2,([]:(List Int)),0) (fun _=>rfl) h (SE.fin [1,0] ⟨rfl,rfl,rfl,rfl,trivial⟩ rfl) (fun n z4 y3 h=>?_);unfold dX at h;refine ae (sr ?_);iterate 2 refine mq ?_
  refine jb (bq rfl) ?_;refine nt (ci h (fun h=>?_) (fun h=>?_))
  ·refine sk (ae (aj (sr ?_)));iterate 2 refine mq ?_
   obtain⟨r5,y,h⟩:=aa h;refine kb (ak [.tmp 13,.tmp 14] rfl rfl G2 rfl (gf k (y3.1,y3.2.1,y3.2.2.1) c y3.2.2.2.2 r5 y)) ?_;refine aq (nt (sr ?_));iterate 2 refine mq ?_
   refine ja (bH (t:=(.int .i64)) [(.tmp 17,_)] [y3.2.2.2.2] rfl rfl eF (.cons rfl .int .nil) rfl rfl) ?_;obtain⟨u6,x,h⟩:=aa h;refine fr 1 ?_;refine ek rfl rfl rfl (cg rfl rfl eF (aC x)) ⟨rfl,rfl,trivial⟩ fun v7=>?_;refine aq (nt (ab ?_));iterate 6 refine mq ?_
   obtain⟨x8,l,h⟩:=aa h;refine kb (bh (t:=(.int .i64)) rfl dE cu l) ?_;refine ka (fq (i:=Int.toNat r5.1) (off:=0) rfl cu (fun _=>rfl) rfl (cQ l).2.2 rfl) ?_;refine mq ?_;obtain⟨x9,j,h⟩:=aa h;refine kb (bh (t:=(.int .i64)) rfl dE cu j) ?_;refine bf rfl rfl (c6 (i:=Int.toNat y3.2.2.2.2) rfl cu rfl (ix j) rfl .int rfl) ⟨rfl,rfl,trivial⟩ ?_;obtain⟨D,e,h⟩:=aa h;refine kb (bh (t:=(.int .i64)) rfl dE cu e) ?_;refine bf rfl rfl (c6 (i:=Int.toNat r5.1) rfl cu rfl (ix e) rfl .int rfl) ⟨rfl,rfl,trivial⟩ ?_;refine ar (aL (tn (ab (mq ?_))));obtain⟨u,s,h⟩:=aa h;refine jb (ba rfl s) ?_;refine aq (nl ?_);exact jz (v7,(r5.2.1,r5.2.2.1,r5.2.2.2,List.set (List.set (y3.2.2.2.1++[y3.2.2.2.2]) (Int.toNat y3.2.2.2.2) x8) (Int.toNat r5.1) y3.2.2.2.2,u)) h [1,0]
  ·refine xa ?_;exact jz (z4,(y3.2.2.2.1,y3.1,y3.2.1,y3.2.2.1)) h [1,0]
 ·
  refine sr (mq ?_);refine aq (nt (aA ?_));refine bv (fp [4,5,31] ⟨rfl,rfl,rfl,trivial⟩) ?_;cases h;exact aD () [_] 1 ⟨rfl,trivial⟩ rfl
def ox(k:Nat)(a0:Int)(a1:Int):Option Int:=
 (dT (a1≠0)).bind fun _=>
 (ck ((Int.tmod a0 a1)+a1)).bind fun x2=>
 (dT (a1≠0)).bind fun _=>
 some (Int.tmod x2 a1)
theorem zf(k:Nat)(a0:Int)(a1:Int)(r:Int)(h:ox k a0 a1=some r):
 bX Tryz.prog 122 [I a0,I a1] [] (fun _:Unit=>(bp [I r],[])):=by
 unfold ox at h
 replace h:=be h
 refine bX.of 12 Tryz.func122 rfl Tryz.ntmps122 rfl fun S w0=>?_
 refine sr ?_
 refine cq ?_
 refine nt ?_
 refine sr ?_
 iterate 2 refine mq ?_
 obtain⟨u1,j,h⟩:=aa h
 refine jb (Fo rfl (aC j)) ?_
 refine mq ?_
 obtain⟨x2,c,h⟩:=aa h
 refine jb (ba rfl c) ?_
 refine mq ?_
 obtain⟨u3,e,h⟩:=aa h
 refine jb (Fo rfl (aC e)) ?_
 refine aq ?_
 refine nt ?_
 refine aA ?_
 cases h
 exact ra
def dc(k:Nat)(a1:a8)(r7:(List Int)×bI)(c:(List Int)×Int×Int×(List Int)×Int×(List (List Int)))(e:Int×bI):Nat→(Int×(List (List Int)))→Option ((List Int)×Int×Int×(List Int)×(List (List Int)))
 |0,_=>none
 |n+1,h=>
  if h.1 < (c.2.2.2.1.length:Int) then((ck (e.1+h.1)).bind fun O=>
  (ox k O (c.2.2.2.1.length:Int)).bind fun j=>
  (((aZ c.2.2.2.1 j).bind fun M=>
  (aZ r7.1 c.2.2.2.2.1).bind fun J=>
  (aZ a1.2.1 J).bind fun I=>
  if I.1≤M then(some (true,h.2)) else((ck ((c.2.2.2.1.length:Int) - 1)).bind fun F=>
  some (decide (h.1=F),h.2))):Option (Bool×(List (List Int)))).bind fun l=>
  if l.1=true then((aZ l.2 j).bind fun s=>
  (aZ r7.1 c.2.2.2.2.1).bind fun r=>
  (dT (bV (List.length s+List.length [r]))).bind fun _=>
  (aZ c.2.2.2.1 j).bind fun E=>
  (aZ r7.1 c.2.2.2.2.1).bind fun D=>
  (aZ a1.2.1 D).bind fun y=>
  (ck (E - y.1)).bind fun x=>
  (aZ c.2.2.2.1 j).bind fun Q=>
  some (e.2.1,e.2.2.1,e.2.2.2,List.set c.2.2.2.1 (Int.toNat j) x,List.set l.2 (Int.toNat j) (s++[r]))) else((ck (h.1+1)).bind fun u=>
  dc k a1 r7 c e n (u,l.2))) else(some (e.2.1,e.2.2.1,e.2.2.2,c.2.2.2.1,h.2))
def eU(k:Nat)(a1:a8)(r7:(List Int)×bI):Nat→((List Int)×Int×Int×(List Int)×Int×(List (List Int)))→Option ((List Int)×Int×Int×(List (List Int)))
 |0,_=>none
 |n+1,c=>
  if c.2.2.2.2.1 < (r7.1.length:Int) then((((ck ((c.2.2.2.1.length:Int) - 1)).bind fun j=>
  (dK k (c.1,c.2.1,c.2.2.1) j).bind fun l=>
  dc k a1 r7 c l k (0,c.2.2.2.2.2)):Option ((List Int)×Int×Int×(List Int)×(List (List Int)))).bind fun e=>
  (ck (c.2.2.2.2.1+1)).bind fun h=>
  eU k a1 r7 n (e.1,e.2.1,e.2.2.1,e.2.2.2.1,h,e.2.2.2.2)) else(some (c.1,c.2.1,c.2.2.1,c.2.2.2.2.2))
def g9(k:Nat)(a0:bI)(a1:a8):Option ((List (List Int))×bI):=
 (dT (0≤(a1.2.2.length:Int)∧bV (Int.toNat (a1.2.2.length:Int)))).bind fun _=>
 (dT (bV (List.length ([]:(List Int))+List.length a1.2.2))).bind fun _=>
 (gg k (a0.1,a0.2.1,a0.2.2) (a1.2.1.length:Int)).bind fun r7=>
 ((eU k a1 r7 k (r7.2.1,r7.2.2.1,r7.2.2.2,([]:(List Int))++a1.2.2,0,List.replicate (Int.toNat (a1.2.2.length:Int)) ([]:(List Int)))):Option ((List Int)×Int×Int×(List (List Int)))).bind fun x8=>
 some (x8.2.2.2,(x8.1,x8.2.1,x8.2.2.1))
theorem su(k:Nat)(a0:bI)(e:Nat)(a1:a8)(r:(List (List Int))×bI)(h:g9 k a0 a1=some r):
 bX Tryz.prog 81 [Pt e,.rep aF a1] [.obj e 98 (.agg (.pair (Ri a0.1) (.pair (I a0.2.1) (.eq (.int .u64 a0.2.2)))))] (fun _:Unit=>(bp [.rep (.slice (.slice (.int .i64))) r.1],[.obj e 98 (.agg (.pair (Ri r.2.1) (.pair (I r.2.2.1) (.eq (.int .u64 r.2.2.2)))))])):=by
 unfold g9 at h
 replace h:=be h
 refine bX.of 100 Tryz.func81 rfl Tryz.ntmps81 rfl fun S w0=>?_
 refine sr ?_
 refine bx fun b1=>?_
 refine cq ?_
 refine nt ?_
 refine sr ?_
 refine fl fR ?_
 refine lo cd ?_
 refine ol dE ?_
 obtain⟨u2,Si,h⟩:=aa h
 refine aE rfl rfl rfl (wS (t:=.val) (d:=.slice none 0 0) rfl rT MV (aC Si).1 (aC Si).2) ⟨rfl,rfl,trivial⟩ fun v3=>?_
 refine cJ (Hu (F:=[.obj b1 25 (.rep aF a1),.obj e 98 (.agg (.pair (Ri a0.1) (.pair (I a0.2.1) (.eq (.int .u64 a0.2.2)))))])) ?_
 refine aq ?_
 refine nt ?_
 refine sr ?_
 refine aE rfl rfl rfl (nk (t:=(.int .i64)) [] ([]:(List Int)) rfl rfl eF .nil rfl rfl) trivial fun v4=>?_
 refine fl fR ?_
 refine fr 1 ?_
 refine lo cd ?_
 obtain⟨u5,SK,h⟩:=aa h
 refine fr 1 ?_
 refine ek rfl rfl rfl (cg rfl rfl eF (aC SK)) ⟨rfl,rfl,trivial⟩ fun v6=>?_
 refine aq ?_
 refine nt ?_
 refine sr ?_
 refine mq ?_
 refine fl dB ?_
 refine fr 1 ?_
 refine lo jA ?_
 refine ol qy ?_
 obtain⟨r7,SL,h⟩:=aa h
 have SN:=q9 k (a0.1,a0.2.1,a0.2.2) e (a1.2.1.length:Int) r7 SL
 refine fr 2 ?_
 refine kb (ak [.tmp 20,.tmp 23] rfl rfl QI rfl SN) ?_
 refine aq ?_
 refine nt ?_
 refine aP (Z:=(Value×(Nat→Value))) (α:=(List Int)×Int×Int×(List (List Int))) (fun z9 x8=>[(5,.eq z9.1)]) (fun z9 x8=>[.obj e 98 (.agg (.pair (Ri x8.1) (.pair (I x8.2.1) (.eq (.int .u64 x8.2.2.1)))))]++gl 23 z9 x8.2.2.2) h (fun K h=>?_) (fun z9 x8 h=>?_)
 ·
  refine sr (cq (nt (aj ?_)));refine aG (Z:=(Value×(Nat→Value))) (α:=(List Int)×Int×Int×(List Int)×Int×(List (List Int))) (fun Q j=>[(0,Pt e),(3,Pt b1),(5,.eq Q.1),(6,.eq v6),(7,Ri r7.1),(8,I j.2.2.2.2.1)]) (fun Q j=>[.obj e 98 (.agg (.pair (Ri j.1) (.pair (I j.2.1) (.eq (.int .u64 j.2.2.1))))),.obj b1 25 (.rep aF a1),.sl v6 3 (.int .i64) j.2.2.2.1]++gl 23 Q j.2.2.2.2.2) (eU k a1 r7) k (v3,fun _=>.slice none 0 0) (r7.2.1,r7.2.2.1,r7.2.2.2,([]:(List Int))++a1.2.2,0,List.replicate (Int.toNat (a1.2.2.length:Int)) ([]:(List Int))) (fun _=>rfl) h (bg [.obj e 98 (.agg (.pair (Ri r7.2.1) (.pair (I r7.2.2.1) (.eq (.int .u64 r7.2.2.2))))),.obj b1 25 (.rep aF a1),.sl v6 3 (.int .i64) (([]:(List Int))++a1.2.2)] (gl 23 (v3,fun _=>.slice none 0 0) (List.replicate (Int.toNat (a1.2.2.length:Int)) ([]:(List Int)))) [0,1,2] ⟨rfl,rfl,rfl,rfl,rfl,rfl,trivial⟩ rfl) (fun n Q j h=>?_);unfold eU at h;refine ae (sr ?_);iterate 2 refine mq ?_
  refine ol dE ?_;refine jb (bq rfl) ?_;refine nt (ci h (fun h=>?_) (fun h=>?_))
  ·refine sk (aP (Z:=(Value×(Nat→Value))) (α:=(List Int)×Int×Int×(List Int)×(List (List Int))) (fun X u=>[(0,Pt e),(3,Pt b1),(5,.eq X.1),(6,.eq v6),(7,Ri r7.1),(8,I j.2.2.2.2.1)]) (fun X u=>[.obj e 98 (.agg (.pair (Ri u.1) (.pair (I u.2.1) (.eq (.int .u64 u.2.2.1))))),.obj b1 25 (.rep aF a1),.sl v6 3 (.int .i64) u.2.2.2.1]++gl 23 X u.2.2.2.2) h (fun K h=>?_) (fun X u h=>?_))
   ·refine aj (sr ?_);iterate 2 refine mq ?_
    refine fr 2 ?_;refine ka (c9 rfl rfl dE) ?_;obtain⟨Sv,R7,h⟩:=aa h;refine jb (eA rfl R7) ?_;obtain⟨c,Sl,h⟩:=aa h;refine fr 1 ?_;refine kb (ak [.tmp 31,.tmp 34] rfl rfl G2 rfl (gf k (j.1,j.2.1,j.2.2.1) e Sv c Sl)) ?_;refine aq (nt (sr ?_));refine cq (nt (aj ?_));refine aG (Z:=(Value×(Nat→Value))) (α:=Int×(List (List Int))) (fun E y=>[(0,Pt e),(3,Pt b1),(5,.eq E.1),(6,.eq v6),(7,Ri r7.1),(8,I j.2.2.2.2.1),(9,I c.1),(10,I y.1)]) (fun E y=>[.obj e 98 (.agg (.pair (Ri c.2.1) (.pair (I c.2.2.1) (.eq (.int .u64 c.2.2.2))))),.obj b1 25 (.rep aF a1),.sl v6 3 (.int .i64) j.2.2.2.1]++gl 23 E y.2) (dc k a1 r7 j c) k Q (0,j.2.2.2.2.2) (fun _=>rfl) h (bg [.obj e 98 (.agg (.pair (Ri c.2.1) (.pair (I c.2.2.1) (.eq (.int .u64 c.2.2.2))))),.sl v6 3 (.int .i64) j.2.2.2.1,.obj b1 25 (.rep aF a1)] (gl 23 Q j.2.2.2.2.2) [0,2,1] ⟨rfl,rfl,rfl,rfl,rfl,rfl,rfl,rfl,trivial⟩ rfl) (fun n E y h=>?_);unfold dc at h;refine ae (sr ?_);iterate 2 refine mq ?_
    refine fr 2 ?_;refine ka (c9 rfl rfl dE) ?_;refine jb (bq rfl) ?_;refine nt (ci h (fun h=>?_) (fun h=>?_))
    ·refine sk (ae (aj (sr ?_)));iterate 2 refine mq ?_
     obtain⟨Su,R2,h⟩:=aa h;refine jb (ba rfl R2) ?_;refine mq ?_;refine ka (c9 rfl rfl dE) ?_;obtain⟨s,Sj,h⟩:=aa h;refine jb (ak [.tmp 44,.tmp 46] rfl rfl O1 rfl (zf k Su (j.2.2.2.1.length:Int) s Sj)) ?_;refine aq (nt ?_);refine aP (Z:=(Value×(Nat→Value))) (α:=Bool×(List (List Int))) (fun l x=>[(0,Pt e),(3,Pt b1),(5,.eq l.1),(6,.eq v6),(7,Ri r7.1),(8,I j.2.2.2.2.1),(9,I c.1),(10,I y.1),(11,I s),(68,.eq (.bool x.1))]) (fun l x=>[.obj e 98 (.agg (.pair (Ri c.2.1) (.pair (I c.2.2.1) (.eq (.int .u64 c.2.2.2))))),.obj b1 25 (.rep aF a1),.sl v6 3 (.int .i64) j.2.2.2.1]++gl 23 l x.2) h (fun K h=>?_) (fun l x h=>?_)
     ·refine cm ?_;refine dm ?_;refine dm ?_;obtain⟨TB,mc,h⟩:=aa h;refine eb 0 (bh (t:=(.int .i64)) rfl dE cu mc) ?_;refine ea 0 (fq (i:=Int.toNat s) (off:=0) rfl cu (fun _=>rfl) rfl (cQ mc).2.2 rfl) ?_;refine da (aw rfl dB) ?_;refine ea 2 (ao rfl jA mA rfl) ?_;refine dm ?_;refine dm ?_;obtain⟨TA,RZ,h⟩:=aa h;refine db (aH (t:=(.int .i64)) rfl dE cu RZ) ?_;refine da (an (t:=(.int .i64)) rfl cu rfl) ?_;obtain⟨Tz,RY,h⟩:=aa h;refine db (aH (t:=cN) rfl qy nM RY) ?_;refine da (aN 1 false rfl oI rfl) ?_;refine da (an (t:=(.int .i64)) rfl cu rfl) ?_;refine db (nI rfl) ?_;refine rH rfl rfl rfl (aR rfl) ⟨rfl,trivial⟩ (fun hb=>?_) (fun hb=>?_)
      ·replace h:=cy (nS hb) h;iterate 4 refine dg ?_
       refine df eM ?_;refine gn ?_;refine pt (nl ?_);exact iM (E,(true,y.2)) h (bg [.sl v6 3 (.int .i64) j.2.2.2.1,.obj e 98 (.agg (.pair (Ri c.2.1) (.pair (I c.2.2.1) (.eq (.int .u64 c.2.2.2))))),.obj b1 25 (.rep aF a1)] (gl 23 E y.2) [1,2,0] ⟨rfl,rfl,rfl,rfl,rfl,rfl,rfl,rfl,rfl,rfl,trivial⟩ rfl)
      ·replace h:=bM (nv hb) h;refine bQ rfl rfl rfl rfl rfl (aR rfl) ⟨rfl,rfl,trivial⟩ ?_;refine bQ rfl rfl rfl rfl rfl (aR rfl) ⟨rfl,rfl,trivial⟩ ?_;refine kS 0 rfl rfl rfl rfl rfl rfl (c9 rfl rfl dE) ⟨rfl,rfl,trivial⟩ ?_;obtain⟨Ss,RX,h⟩:=aa h;refine bQ rfl rfl rfl rfl rfl (eA rfl RX) ⟨rfl,rfl,rfl,trivial⟩ ?_;refine df eM ?_;refine gb (fj rfl) ?_;refine pf (nl ?_);exact iM (E,(decide (y.1=Ss),y.2)) h (bg [.sl v6 3 (.int .i64) j.2.2.2.1,.obj e 98 (.agg (.pair (Ri c.2.1) (.pair (I c.2.2.1) (.eq (.int .u64 c.2.2.2))))),.obj b1 25 (.rep aF a1)] (gl 23 E y.2) [1,2,0] ⟨rfl,rfl,rfl,rfl,rfl,rfl,rfl,rfl,rfl,rfl,trivial⟩ rfl)
     ·refine cv h (fun h=>?_) (fun h=>?_)
      ·refine ae ?_;obtain⟨O,J,h⟩:=aa h;refine fU (wx (pre:=[.obj e 98 (.agg (.pair (Ri c.2.1) (.pair (I c.2.2.1) (.eq (.int .u64 c.2.2.2))))),.obj b1 25 (.rep aF a1),.sl v6 3 (.int .i64) j.2.2.2.1]) (tA J).2) ?_;obtain⟨M,RV,h⟩:=aa h;obtain⟨Ui,R9,h⟩:=aa h;obtain⟨Tv,ac,h⟩:=aa h;obtain⟨Tu,RU,h⟩:=aa h;obtain⟨Tt,RS,h⟩:=aa h;obtain⟨U,RR,h⟩:=aa h;obtain⟨To,Y,h⟩:=aa h;refine uS (Δ:=[.sl (l.2 (Int.toNat s)) 3 (.int .i64) O,.sl l.1 23 .val (fk l.2 0 x.2),.obj e 98 (.agg (.pair (Ri c.2.1) (.pair (I c.2.2.1) (.eq (.int .u64 c.2.2.2))))),.obj b1 25 (.rep aF a1),.sl v6 3 (.int .i64) j.2.2.2.1]) (F:=(kY l.2 0 x.2).eraseIdx (Int.toNat s)) (Z:=Value) (fun i=>[(0,Pt e),(3,Pt b1),(5,.eq l.1),(6,.eq v6),(7,Ri r7.1),(8,I j.2.2.2.2.1)]) (fun i=>[.sl v6 3 (.int .i64) (List.set j.2.2.2.1 (Int.toNat s) U),.sl l.1 23 .val (List.set (fk l.2 0 x.2) (Int.toNat s) i),.sl i 3 (.int .i64) (O++[M]),.obj e 98 (.agg (.pair (Ri c.2.1) (.pair (I c.2.2.1) (.eq (.int .u64 c.2.2.2))))),.obj b1 25 (.rep aF a1)]) (fun S w=>?_) (fun D=>?_)
       ·refine kx ?_;refine aO rfl rfl rfl (aR rfl) ⟨rfl,trivial⟩ ?_;refine aO rfl rfl rfl (aR rfl) ⟨rfl,trivial⟩ ?_;refine aO rfl rfl rfl (aR rfl) ⟨rfl,trivial⟩ ?_;refine aO rfl rfl rfl (aR rfl) ⟨rfl,trivial⟩ ?_;refine aO rfl rfl rfl (aR rfl) ⟨rfl,trivial⟩ ?_;refine aO rfl rfl rfl (aR rfl) ⟨rfl,trivial⟩ ?_;refine fg 1 rfl rfl rfl rfl (bh (t:=.val) rfl mf cd (oY J)) ⟨rfl,rfl,trivial⟩ ?_;refine fg 1 rfl rfl rfl rfl (fq (i:=Int.toNat s) (off:=0) rfl cd (fun _=>rfl) rfl (cQ (oY J)).2.2 rfl) ⟨rfl,trivial⟩ ?_;refine aO rfl rfl rfl (aR rfl) ⟨rfl,trivial⟩ ?_;refine aO rfl rfl rfl (aR rfl) ⟨rfl,trivial⟩ ?_;refine aO rfl rfl rfl (aH (t:=(.int .i64)) rfl dE cu RV) ⟨rfl,rfl,trivial⟩ ?_;refine aO rfl rfl rfl (an (t:=(.int .i64)) rfl cu rfl) ⟨rfl,trivial⟩ ?_;refine aO rfl rfl rfl (bH (t:=(.int .i64)) [(.tmp 80,_)] [M] rfl rfl eF (.cons rfl .int .nil) rfl rfl) ⟨rfl,trivial⟩ ?_;refine uU 0 rfl (fun v=>[.sl v 3 (.int .i64) (O++[M])]) (fun _=>rfl) rfl rfl rfl (cg rfl rfl eF (aC R9)) ⟨rfl,rfl,trivial⟩ ?_;refine aO rfl rfl rfl (aR rfl) ⟨rfl,trivial⟩ ?_;refine aO rfl rfl rfl (aR rfl) ⟨rfl,trivial⟩ ?_;refine fg 4 rfl rfl rfl rfl (bh (t:=(.int .i64)) rfl dE cu ac) ⟨rfl,rfl,trivial⟩ ?_;refine fg 4 rfl rfl rfl rfl (fq (i:=Int.toNat s) (off:=0) rfl cu (fun _=>rfl) rfl (cQ ac).2.2 rfl) ⟨rfl,trivial⟩ ?_;refine aO rfl rfl rfl (aw rfl dB) ⟨rfl,trivial⟩ ?_;refine fg 3 rfl rfl rfl rfl (ao rfl jA mA rfl) ⟨rfl,trivial⟩ ?_;refine aO rfl rfl rfl (aR rfl) ⟨rfl,trivial⟩ ?_;refine aO rfl rfl rfl (aR rfl) ⟨rfl,trivial⟩ ?_;refine aO rfl rfl rfl (aH (t:=(.int .i64)) rfl dE cu RU) ⟨rfl,rfl,trivial⟩ ?_;refine aO rfl rfl rfl (an (t:=(.int .i64)) rfl cu rfl) ⟨rfl,trivial⟩ ?_;refine aO rfl rfl rfl (aH (t:=cN) rfl qy nM RS) ⟨rfl,rfl,trivial⟩ ?_;refine aO rfl rfl rfl (aN 1 false rfl oI rfl) ⟨rfl,trivial⟩ ?_;refine aO rfl rfl rfl (an (t:=(.int .i64)) rfl cu rfl) ⟨rfl,trivial⟩ ?_;refine aO rfl rfl rfl (eA rfl RR) ⟨rfl,rfl,trivial⟩ ?_;refine fg 1 rfl rfl rfl rfl (bh (t:=.val) rfl mf cd (oY J)) ⟨rfl,rfl,trivial⟩ ?_;refine oR 29 [true,true,false,false,true,true,true,true,true,true,true,true,true,true,true,true,true,true,true,true,true,true,true,true,true,true,true,false,true] [98] [] [] rfl (by kernel_rfl) (by kernel_rfl) (by kernel_rfl) eM (fun vs hv hB=>?_);obtain⟨w0,Uh,rfl,SJ⟩:=ap hv;obtain⟨w1,Ug,rfl,SI⟩:=ap SJ;obtain⟨w2,Uf,rfl,SH⟩:=ap SI;obtain⟨w3,Ue,rfl,SG⟩:=ap SH;obtain⟨w4,Ud,rfl,SD⟩:=ap SG;obtain⟨w5,Uc,rfl,SC⟩:=ap SD;obtain⟨w6,Ub,rfl,SB⟩:=ap SC;obtain⟨w7,Ua,rfl,SA⟩:=ap SB;obtain⟨w8,T9,rfl,Sz⟩:=ap SA;obtain⟨w9,Tn,rfl,RO⟩:=ap Sz;obtain⟨T8,Tm,rfl,RN⟩:=ap RO;obtain⟨TZ,Tj,rfl,RL⟩:=ap RN;obtain⟨TY,Ti,rfl,RJ⟩:=ap RL;obtain⟨D,Tf,rfl,RI⟩:=ap RJ;obtain⟨TX,Td,rfl,RH⟩:=ap RI;obtain⟨TU,Ta,rfl,RG⟩:=ap RH;obtain⟨TS,S9,rfl,RF⟩:=ap RG;obtain⟨TR,S8,rfl,RE⟩:=ap RF;obtain⟨TP,S7,rfl,RD⟩:=ap RE;obtain⟨TO,S5,rfl,RB⟩:=ap RD;obtain⟨TN,SZ,rfl,RA⟩:=ap RB;obtain⟨TM,SY,rfl,Rz⟩:=ap RA;obtain⟨TL,SX,rfl,Ry⟩:=ap Rz;obtain⟨TK,SV,rfl,Rx⟩:=ap Ry;obtain⟨TJ,SU,rfl,Rw⟩:=ap Rx;obtain⟨TG,SS,rfl,Ru⟩:=ap Rw;obtain⟨TF,SR,rfl,se⟩:=ap Ru
        obtain⟨TD,SQ,rfl,qt⟩:=ap se;obtain⟨TC,SO,rfl,pp⟩:=ap qt;obtain rfl:=l9 pp;refine⟨[0,1,2,3,4],[.sl l.1 23 .val (fk l.2 0 x.2),.obj e 98 (.agg (.pair (Ri c.2.1) (.pair (I c.2.2.1) (.eq (.int .u64 c.2.2.2))))),.obj b1 25 (.rep aF a1),.sl v6 3 (.int .i64) j.2.2.2.1,.sl D 3 (.int .i64) (O++[M])],by kernel_rfl,by decide,?_⟩;refine lN 4 rfl ?_;refine HE fun o34=>?_;refine lN 1 rfl ?_;refine qx rfl rfl (c6 (i:=Int.toNat s) rfl cd rfl (ix (oY J)) rfl (.val o34) o34) ⟨rfl,rfl,trivial⟩ (by kernel_rfl) ?_;refine lN 4 rfl ?_;refine HD rfl rfl rfl rfl (bh (t:=(.int .i64)) rfl dE cu Y) ⟨rfl,rfl,trivial⟩ (by kernel_rfl) ?_;refine qx rfl rfl (c6 (i:=Int.toNat s) rfl cu rfl (ix Y) rfl .int rfl) ⟨rfl,rfl,trivial⟩ (by kernel_rfl) ?_;refine sL ?_;refine bv (SE.fin (Γ':=[(0,Pt e),(3,Pt b1),(5,.eq l.1),(6,.eq v6),(7,Ri r7.1),(8,I j.2.2.2.2.1)]) (Δ':=[.sl v6 3 (.int .i64) (List.set j.2.2.2.1 (Int.toNat s) U),.sl l.1 23 .val (List.set (fk l.2 0 x.2) (Int.toNat s) D),.sl D 3 (.int .i64) (O++[M]),.obj e 98 (.agg (.pair (Ri c.2.1) (.pair (I c.2.2.1) (.eq (.int .u64 c.2.2.2))))),.obj b1 25 (.rep aF a1)]) [0,1,2,3,4] ⟨rfl,rfl,rfl,rfl,rfl,rfl,trivial⟩ rfl) ?_;exact fun a w st=>⟨rfl,(D),(SE.fin (Γ':=[(0,Pt e),(3,Pt b1),(5,.eq l.1),(6,.eq v6),(7,Ri r7.1),(8,I j.2.2.2.2.1)]) (Δ':=[.sl v6 3 (.int .i64) (List.set j.2.2.2.1 (Int.toNat s) U),.sl l.1 23 .val (List.set (fk l.2 0 x.2) (Int.toNat s) D),.sl D 3 (.int .i64) (O++[M]),.obj e 98 (.agg (.pair (Ri c.2.1) (.pair (I c.2.2.1) (.eq (.int .u64 c.2.2.2))))),.obj b1 25 (.rep aF a1)]) [0,1,2,3,4] ⟨rfl,rfl,rfl,rfl,rfl,rfl,trivial⟩ rfl) a w st⟩
       ·show JN _ _ [(0,Pt e),(3,Pt b1),(5,.eq l.1),(6,.eq v6),(7,Ri r7.1),(8,I j.2.2.2.2.1)] ([.sl v6 3 (.int .i64) (List.set j.2.2.2.1 (Int.toNat s) U),.sl l.1 23 .val (List.set (fk l.2 0 x.2) (Int.toNat s) D),.sl D 3 (.int .i64) (O++[M]),.obj e 98 (.agg (.pair (Ri c.2.1) (.pair (I c.2.2.1) (.eq (.int .u64 c.2.2.2))))),.obj b1 25 (.rep aF a1)]++(kY l.2 0 x.2).eraseIdx (Int.toNat s));refine dR 1 rfl ?_;refine dR 2 rfl ?_;refine bv (Bf (pre:=[.sl v6 3 (.int .i64) (List.set j.2.2.2.1 (Int.toNat s) U),.obj e 98 (.agg (.pair (Ri c.2.1) (.pair (I c.2.2.1) (.eq (.int .u64 c.2.2.2))))),.obj b1 25 (.rep aF a1)]) (z:=l) (i:=Int.toNat s) (tA J).2) ?_;refine tn (dt (sZ (eq_false (by decide)) ?_));refine aM (aM (bO (bn ?_)));exact iM ((l.1,nQ l.2 (Int.toNat s) D),(c.2.1,c.2.2.1,c.2.2.2,List.set j.2.2.2.1 (Int.toNat s) U,List.set x.2 (Int.toNat s) (O++[M]))) h (bg [.sl v6 3 (.int .i64) (List.set j.2.2.2.1 (Int.toNat s) U),.obj e 98 (.agg (.pair (Ri c.2.1) (.pair (I c.2.2.1) (.eq (.int .u64 c.2.2.2))))),.obj b1 25 (.rep aF a1)] (gl 23 (l.1,nQ l.2 (Int.toNat s) D) (List.set x.2 (Int.toNat s) (O++[M]))) [1,2,0] ⟨rfl,rfl,rfl,rfl,rfl,rfl,trivial⟩ rfl)
      ·refine aS (aL (tn (ab (mq ?_))));obtain⟨Sr,RQ,h⟩:=aa h;refine jb (ba rfl RQ) ?_;refine aq (nl ?_);exact iM (l,(Sr,x.2)) h (bg [.obj e 98 (.agg (.pair (Ri c.2.1) (.pair (I c.2.2.1) (.eq (.int .u64 c.2.2.2))))),.obj b1 25 (.rep aF a1),.sl v6 3 (.int .i64) j.2.2.2.1] (gl 23 l x.2) [0,1,2] ⟨rfl,rfl,rfl,rfl,rfl,rfl,rfl,rfl,trivial⟩ rfl)
    ·refine dt (aM (aM (bO (bn ?_))));exact iM (E,(c.2.1,c.2.2.1,c.2.2.2,j.2.2.2.1,y.2)) h (bg [.sl v6 3 (.int .i64) j.2.2.2.1,.obj e 98 (.agg (.pair (Ri c.2.1) (.pair (I c.2.2.1) (.eq (.int .u64 c.2.2.2))))),.obj b1 25 (.rep aF a1)] (gl 23 E y.2) [1,2,0] ⟨rfl,rfl,rfl,rfl,rfl,rfl,trivial⟩ rfl)
   ·refine ab (mq ?_);obtain⟨Sm,RP,h⟩:=aa h;refine jb (ba rfl RP) ?_;refine aq (nl ?_);exact iM (X,(u.1,u.2.1,u.2.2.1,u.2.2.2.1,Sm,u.2.2.2.2)) h (bg [.obj e 98 (.agg (.pair (Ri u.1) (.pair (I u.2.1) (.eq (.int .u64 u.2.2.1))))),.obj b1 25 (.rep aF a1),.sl v6 3 (.int .i64) u.2.2.2.1] (gl 23 X u.2.2.2.2) [0,1,2] ⟨rfl,rfl,rfl,rfl,rfl,rfl,trivial⟩ rfl)
  ·refine xa ?_;exact iM (Q,(j.1,j.2.1,j.2.2.1,j.2.2.2.2.2)) h (bg [.obj e 98 (.agg (.pair (Ri j.1) (.pair (I j.2.1) (.eq (.int .u64 j.2.2.1))))),.obj b1 25 (.rep aF a1),.sl v6 3 (.int .i64) j.2.2.2.1] (gl 23 Q j.2.2.2.2.2) [0] ⟨rfl,trivial⟩ rfl)
 ·
  refine sr (mq ?_);refine aq (nt (aA ?_));refine bv (Hv (pre:=[.obj e 98 (.agg (.pair (Ri x8.1) (.pair (I x8.2.1) (.eq (.int .u64 x8.2.2.1)))))])) ?_;refine bv (fp [4,5,99] ⟨rfl,rfl,rfl,trivial⟩) ?_;cases h;exact aD () [_] 1 ⟨rfl,trivial⟩ rfl
def gP(k:Nat)(a0:Int)(a1:Int)(a2:Int):Option Bool:=
 ((if a1≤a0 then(some (decide (a0≤a2))) else(some false)):Option (Bool)).bind fun x1=>
 some x1
theorem iI(k:Nat)(a0:Int)(a1:Int)(a2:Int)(r:Bool)(h:gP k a0 a1 a2=some r):
 bX Tryz.prog 90 [I a0,I a1,I a2] [] (fun _:Unit=>(bp [.eq (.bool r)],[])):=by
 unfold gP at h
 replace h:=be h
 refine bX.of 15 Tryz.func90 rfl Tryz.ntmps90 rfl fun S w0=>?_
 refine sr ?_
 refine cq ?_
 refine nt ?_
 refine aP (Z:=Unit) (α:=Bool) (fun z2 x1=>[(6,.eq (.bool x1))]) (fun z2 x1=>[]) h (fun K h=>?_) (fun z2 x1 h=>?_)
 ·
  refine ab ?_;iterate 2 refine mq ?_
  refine jb (nI rfl) ?_;refine mq ?_;refine bT (s:=10) rfl (fun hb=>?_) (fun hb=>?_)
  ·replace h:=cy (nS hb) h;refine gm ?_;refine gm ?_;refine gb (sS rfl) ?_;refine pt ?_;refine aq (nl ?_);exact jz ((),decide (a0≤a2)) h []
  ·replace h:=bM (nv hb) h;iterate 3 refine gn ?_
   refine pf ?_;refine aq (nl ?_);exact jz ((),false) h []
 ·
  refine aA ?_;cases h;exact ra
def fF(k:Nat)(a0:a8)(e:lI):Nat→Int→Option (Except Int Unit)
 |0,_=>none
 |n+1,c=>
  if c < (e.2.length:Int) then((aZ e.2 c).bind fun x=>
  (ck (a0.1 - 1)).bind fun u=>
  (gP k x 0 u).bind fun y=>
  if¬(y=true) then(some (.error 1)) else(((if 0 < c then((aZ e.2 c).bind fun r=>
  (ck (c - 1)).bind fun l=>
  (aZ e.2 l).bind fun j=>
  some (decide (r≤j))) else(some false)):Option (Bool)).bind fun s=>
  if s=true then(some (.error 5)) else((ck (c+1)).bind fun h=>
  fF k a0 e n h))) else(some (.ok ()))
def fG(k:Nat)(a0:a8):Nat→Int→Option (Except Int Unit)
 |0,_=>none
 |n+1,y5=>
  if y5 < (a0.2.1.length:Int) then(bE (α:=Unit) ((aZ a0.2.1 y5).bind fun x9=>
  (gP k x9.1 1 3).bind fun j=>
  if¬(j=true) then(some (.error 1)) else((aZ a0.2.1 y5).bind fun h=>
  fF k a0 h k 0)) (fun e=>some (.error e)) fun _=>
  (ck (y5+1)).bind fun c=>
  fG k a0 n c) else(some (.ok ()))
def fE(k:Nat)(a0:a8):Nat→Int→Option (Except Int Unit)
 |0,_=>none
 |n+1,c=>
  if c < (a0.2.2.length:Int) then((aZ a0.2.2 c).bind fun h=>
  (gP k h 0 9).bind fun j=>
  if¬(j=true) then(some (.error 1)) else((ck (c+1)).bind fun e=>
  fE k a0 n e)) else(some (.ok ()))
def mN(k:Nat)(a0:a8):Option Int:=
 (gP k a0.1 1 6).bind fun r2=>
 if¬(r2=true) then(some 1) else(if 5 < (a0.2.1.length:Int) then(some 6) else(bE (α:=Unit) (fG k a0 k 0) (some) fun _=>
 if(a0.2.2.length:Int)=0 then(some 7) else(if 3 < (a0.2.2.length:Int) then(some 6) else(bE (α:=Unit) (fE k a0 k 0) (some) fun _=>
 some 0))))
theorem wN(k:Nat)(a0:a8)(r:Int)(h:mN k a0=some r):
 bX Tryz.prog 34 [.rep aF a0] [] (fun _:Unit=>(bp [I r],[])):=by
 unfold mN at h
 replace h:=be h
 refine bX.of 87 Tryz.func34 rfl Tryz.ntmps34 rfl fun S w0=>?_
 refine sr ?_
 refine bx fun b1=>?_
 refine cq ?_
 refine nt ?_
 refine ae ?_
 refine sr ?_
 refine fl jP ?_
 refine lo cu ?_
 obtain⟨r2,RI,h⟩:=aa h
 have RJ:=iI k a0.1 1 6 r2 RI
 refine jc (ak [.tmp 8,.const (.int .i64 (1)),.const (.int .i64 (6))] rfl rfl G0 rfl RJ) ?_
 refine ja (eB rfl) ?_
 refine nt ?_
 refine cw h (fun h=>?_) (fun h=>?_)
 ·
  refine sr (cq (nt (rx ?_)));cases h;exact ra
 ·
  refine sk (ae (sr (fl dB ?_)));refine lo jA ?_;refine ol qy ?_;refine jb (jC rfl) ?_;refine nt (ci h (fun h=>?_) (fun h=>?_))
  ·refine sr (cq (nt (rx ?_)));cases h;exact ra
  ·refine sk (du (Z:=Unit) (α:=Unit) (fun z4 x3=>[(1,Pt b1)]) (fun z4 x3=>[.obj b1 25 (.rep aF a0)]) (fun e=>e=r) h (fun e h=>Option.some.inj h) (fun K hR h=>?_) (fun z4 x3 h=>?_))
   ·refine sr (cq (nt (aj ?_)));refine aG (fun z6 y5=>[(1,Pt b1),(3,I y5)]) (fun z6 y5=>[.obj b1 25 (.rep aF a0)]) (fG k a0) k () 0 (fun _=>rfl) h (SE.fin [0] ⟨rfl,rfl,trivial⟩ rfl) (fun n z6 y5 h=>?_);unfold fG at h;refine ae (sr (mq ?_));refine fl dB ?_;refine lo jA ?_;refine ol qy ?_;refine jb (bq rfl) ?_;refine nt (ci h (fun h=>?_) (fun h=>?_))
    ·refine sk (du (Z:=Unit) (α:=Unit) (fun z8 x7=>[(1,Pt b1),(3,I y5)]) (fun z8 x7=>[.obj b1 25 (.rep aF a0)]) (fun e=>e=r) h (fun e h=>hR e h) (fun K hR h=>?_) (fun z8 x7 h=>?_))
     ·refine aj (ae (sr (fl dB ?_)));refine lo jA ?_;refine mq ?_;obtain⟨x9,RH,h⟩:=aa h;refine jb (aH (t:=cN) rfl qy nM RH) ?_;refine ja (aN 1 false rfl oI rfl) ?_;refine ja (an (t:=(.int .i64)) rfl cu rfl) ?_;obtain⟨RG,se,h⟩:=aa h;refine jc (ak [.tmp 27,.const (.int .i64 (1)),.const (.int .i64 (3))] rfl rfl G0 rfl (iI k x9.1 1 3 RG se)) ?_;refine ja (eB rfl) ?_;refine nt (cw h (fun h=>?_) (fun h=>?_))
      ·refine sr (cq (nt (rx (br (aV (aK ?_))))));obtain rfl:=hR _ h;exact ra
      ·refine sk (sr (fl dB ?_));refine lo jA ?_;refine mq ?_;obtain⟨s,mc,h⟩:=aa h;refine jb (aH (t:=cN) rfl qy nM mc) ?_;refine ja (aN 1 false rfl sC rfl) ?_;refine ja (an (t:=(.slice (.int .i64))) rfl cd rfl) ?_;refine aq (nt (sr ?_));refine cq (nt (aj ?_));refine aG (fun D c=>[(1,Pt b1),(3,I y5),(4,Ri s.2),(5,I c)]) (fun D c=>[.obj b1 25 (.rep aF a0)]) (fF k a0 s) k () 0 (fun _=>rfl) h (SE.fin [0] ⟨rfl,rfl,rfl,rfl,trivial⟩ rfl) (fun n D c h=>?_);unfold fF at h;refine ae (sr ?_);iterate 2 refine mq ?_
       refine ol dE ?_;refine jb (bq rfl) ?_;refine nt (ci h (fun h=>?_) (fun h=>?_))
       ·refine sk (ae (aj (ae (ae (cm ?_)))));refine dm ?_;refine dm ?_;obtain⟨RD,ac,h⟩:=aa h;refine db (aH (t:=(.int .i64)) rfl dE cu ac) ?_;refine da (an (t:=(.int .i64)) rfl cu rfl) ?_;refine da (aw rfl jP) ?_;refine ea 0 (ao rfl cu mA rfl) ?_;obtain⟨RB,Y,h⟩:=aa h;refine db (eA rfl Y) ?_;refine df eM ?_;obtain⟨RF,qt,h⟩:=aa h;refine jc (ak [.tmp 45,.const (.int .i64 (0)),.tmp 48] rfl rfl G0 rfl (iI k RD 0 RB RF qt)) ?_;refine ja (eB rfl) ?_;refine nt (cw h (fun h=>?_) (fun h=>?_))
        ·refine sr (cq (nt (rx (br (aV (br (aV (aK ?_))))))));obtain rfl:=hR _ h;exact ra
        ·refine sk (aP (Z:=Unit) (α:=Bool) (fun y l=>[(1,Pt b1),(3,I y5),(4,Ri s.2),(5,I c),(64,.eq (.bool l))]) (fun y l=>[.obj b1 25 (.rep aF a0)]) h (fun K h=>?_) (fun y l h=>?_))
         ·refine cm ?_;refine dm ?_;refine db (jC rfl) ?_;refine rH rfl rfl rfl (aR rfl) ⟨rfl,trivial⟩ (fun hb=>?_) (fun hb=>?_)
          ·replace h:=cy (nS hb) h;refine bQ rfl rfl rfl rfl rfl (aR rfl) ⟨rfl,rfl,trivial⟩ ?_;refine bQ rfl rfl rfl rfl rfl (aR rfl) ⟨rfl,rfl,trivial⟩ ?_;obtain⟨RA,X,h⟩:=aa h;refine bQ rfl rfl rfl rfl rfl (aH (t:=(.int .i64)) rfl dE cu X) ⟨rfl,rfl,rfl,trivial⟩ ?_;refine bQ rfl rfl rfl rfl rfl (an (t:=(.int .i64)) rfl cu rfl) ⟨rfl,rfl,trivial⟩ ?_;refine bQ rfl rfl rfl rfl rfl (aR rfl) ⟨rfl,rfl,trivial⟩ ?_;refine bQ rfl rfl rfl rfl rfl (aR rfl) ⟨rfl,rfl,trivial⟩ ?_;obtain⟨RL,U,h⟩:=aa h;refine bQ rfl rfl rfl rfl rfl (eA rfl U) ⟨rfl,rfl,rfl,trivial⟩ ?_;obtain⟨Rz,Q,h⟩:=aa h;refine bQ rfl rfl rfl rfl rfl (aH (t:=(.int .i64)) rfl dE cu Q) ⟨rfl,rfl,rfl,trivial⟩ ?_;refine bQ rfl rfl rfl rfl rfl (an (t:=(.int .i64)) rfl cu rfl) ⟨rfl,rfl,trivial⟩ ?_;refine df eM ?_;refine gb (sS rfl) ?_;refine pt (nl ?_);exact jz ((),decide (RA≤Rz)) h [0]
          ·replace h:=bM (nv hb) h;iterate 9 refine dg ?_
           refine df eM ?_;refine gn ?_;refine pf (nl ?_);exact jz ((),false) h [0]
         ·refine cv h (fun h=>?_) (fun h=>?_)
          ·refine sr (cq (nt (aA (br (aV (br (aV (aK ?_))))))));obtain rfl:=hR _ h;exact ra
          ·refine aS (aL (tn (ab (mq ?_))));obtain⟨Ry,O,h⟩:=aa h;refine jb (ba rfl O) ?_;refine aq (nl ?_);exact jz ((),Ry) h [0]
       ·refine dt (aM (aM (bO (bn ?_))));exact jz ((),()) h [0]
     ·refine ab (mq ?_);obtain⟨Rx,M,h⟩:=aa h;refine jb (ba rfl M) ?_;refine aq (nl ?_);exact jz ((),Rx) h [0]
    ·refine xa ?_;exact jz ((),()) h [0]
   ·refine ae (sr (fl fR ?_));refine lo cd ?_;refine ol dE ?_;refine jb (fj rfl) ?_;refine nt (ci h (fun h=>?_) (fun h=>?_))
    ·refine sr (cq (nt (rx ?_)));cases h;exact ra
    ·refine sk (ae (sr (fl fR ?_)));refine lo cd ?_;refine ol dE ?_;refine jb (jC rfl) ?_;refine nt (ci h (fun h=>?_) (fun h=>?_))
     ·refine sr (cq (nt (rx ?_)));cases h;exact ra
     ·refine sk (du (Z:=Unit) (α:=Unit) (fun x E=>[]) (fun x E=>[]) (fun e=>e=r) h (fun e h=>Option.some.inj h) (fun K hR h=>?_) (fun x E h=>?_))
      ·refine sr (cq (nt (aj ?_)));refine aG (fun u j=>[(1,Pt b1),(6,I j)]) (fun u j=>[.obj b1 25 (.rep aF a0)]) (fE k a0) k () 0 (fun _=>rfl) h (SE.fin [0] ⟨rfl,rfl,trivial⟩ rfl) (fun n u j h=>?_);unfold fE at h;refine ae (sr (mq ?_));refine fl fR ?_;refine lo cd ?_;refine ol dE ?_;refine jb (bq rfl) ?_;refine nt (ci h (fun h=>?_) (fun h=>?_))
       ·refine sk (ae (aj (sr (fl fR ?_))));refine lo cd ?_;refine mq ?_;obtain⟨Rw,J,h⟩:=aa h;refine jb (aH (t:=(.int .i64)) rfl dE cu J) ?_;refine ja (an (t:=(.int .i64)) rfl cu rfl) ?_;obtain⟨RE,pp,h⟩:=aa h;refine jc (ak [.tmp 84,.const (.int .i64 (0)),.const (.int .i64 (9))] rfl rfl G0 rfl (iI k Rw 0 9 RE pp)) ?_;refine ja (eB rfl) ?_;refine nt (cw h (fun h=>?_) (fun h=>?_))
        ·refine sr (cq (nt (aA (br (aV (aK ?_))))));obtain rfl:=hR _ h;exact ra
        ·refine aS (aL (tn (ab (mq ?_))));obtain⟨Ru,F,h⟩:=aa h;refine jb (ba rfl F) ?_;refine aq (nl ?_);exact jz ((),Ru) h [0]
       ·refine xa ?_;exact jz ((),()) h []
      ·refine sr (cq (nt (aA ?_)));cases h;exact ra
def j7(k:Nat)(a0:a8)(a1:Int):Option Bool:=
 (ck ((a0.2.1.length:Int) - 1)).bind fun x2=>
 (gP k a1 0 x2).bind fun r3=>
 some r3
theorem t3(k:Nat)(a0:a8)(a1:Int)(r:Bool)(h:j7 k a0 a1=some r):
 bX Tryz.prog 95 [.rep aF a0,I a1] [] (fun _:Unit=>(bp [.eq (.bool r)],[])):=by
 unfold j7 at h
 replace h:=be h
 refine bX.of 11 Tryz.func95 rfl Tryz.ntmps95 rfl fun S w0=>?_
 refine sr ?_
 refine bx fun b1=>?_
 refine cq ?_
 refine nt ?_
 refine sr ?_
 refine mq ?_
 refine fl dB ?_
 refine lo jA ?_
 refine ol qy ?_
 obtain⟨x2,c,h⟩:=aa h
 refine jb (eA rfl c) ?_
 obtain⟨r3,e,h⟩:=aa h
 have j:=iI k a1 0 x2 r3 e
 refine jc (ak [.tmp 5,.const (.int .i64 (0)),.tmp 9] rfl rfl G0 rfl j) ?_
 refine aq ?_
 refine nt ?_
 refine aA ?_
 cases h
 exact ra
def im(k:Nat)(a0:(List Int))(a1:Int):Nat→Int→Option (Except Bool Unit)
 |0,_=>none
 |n+1,y3=>
  if y3 < (a0.length:Int) then((aZ a0 y3).bind fun x5=>
  if x5=a1 then(some (.error true)) else((ck (y3+1)).bind fun x6=>
  im k a0 a1 n x6)) else(some (.ok ()))
def qP(k:Nat)(a0:(List Int))(a1:Int):Option Bool:=
 bE (α:=Unit) (im k a0 a1 k 0) (some) fun _=>
 some false
theorem Aq(k:Nat)(a0:(List Int))(a1:Int)(r:Bool)(h:qP k a0 a1=some r):
 bX Tryz.prog 96 [Ri a0,I a1] [] (fun _:Unit=>(bp [.eq (.bool r)],[])):=by
 unfold qP at h
 replace h:=be h
 refine bX.of 18 Tryz.func96 rfl Tryz.ntmps96 rfl fun S w0=>?_
 refine sr ?_
 refine cq ?_
 refine nt ?_
 refine du (Z:=Unit) (α:=Unit) (fun z2 x1=>[]) (fun z2 x1=>[]) (fun e=>e=r) h (fun e h=>Option.some.inj h) (fun K hR h=>?_) (fun z2 x1 h=>?_)
 ·
  refine sr (cq (nt (aj ?_)));refine aG (fun z4 y3=>[(0,Ri a0),(1,I a1),(5,I y3)]) (fun z4 y3=>[]) (im k a0 a1) k () 0 (fun _=>rfl) h (SE.fin [] ⟨rfl,rfl,rfl,trivial⟩ rfl) (fun n z4 y3 h=>?_);unfold im at h;refine ae (sr ?_);iterate 2 refine mq ?_
  refine ol dE ?_;refine jb (bq rfl) ?_;refine nt (ci h (fun h=>?_) (fun h=>?_))
  ·refine sk (ae (aj (sr ?_)));iterate 2 refine mq ?_
   obtain⟨x5,j,h⟩:=aa h;refine jb (aH (t:=(.int .i64)) rfl dE cu j) ?_;refine ja (an (t:=(.int .i64)) rfl cu rfl) ?_;refine mq ?_;refine jb (fj rfl) ?_;refine nt (ci h (fun h=>?_) (fun h=>?_))
   ·refine sr (cq (nt (aA (br (aV (aK ?_))))));obtain rfl:=hR _ h;exact ra
   ·refine aS (aL (tn (ab (mq ?_))));obtain⟨x6,c,h⟩:=aa h;refine jb (ba rfl c) ?_;refine aq (nl ?_);exact jz ((),x6) h []
  ·refine xa ?_;exact jz ((),()) h []
 ·
  refine sr (cq (nt (aA ?_)));cases h;exact ra
def bY(k:Nat)(a0:a8)(a1:(List (List Int)))(y5:(List Int)×Int):Nat→((List Int)×Int×Int)→Option (Except Int ((List Int)×Int))
 |0,_=>none
 |n+1,c=>
  (aZ a1 y5.2).bind fun F=>
  if c.2.2 < (F.length:Int) then((aZ a1 y5.2).bind fun E=>
  (aZ E c.2.2).bind fun D=>
  (j7 k a0 D).bind fun J=>
  if¬(J=true) then(some (.error 3)) else((aZ a1 y5.2).bind fun y=>
  (aZ y c.2.2).bind fun x=>
  (qP k c.1 x).bind fun I=>
  if I=true then(some (.error 4)) else((aZ a1 y5.2).bind fun u=>
  (aZ u c.2.2).bind fun e=>
  (dT (bV (List.length c.1+List.length [e]))).bind fun _=>
  (aZ a1 y5.2).bind fun s=>
  (aZ s c.2.2).bind fun r=>
  (aZ a0.2.1 r).bind fun l=>
  (ck (c.2.1+l.1)).bind fun j=>
  (ck (c.2.2+1)).bind fun h=>
  bY k a0 a1 y5 n (c.1++[e],j,h)))) else(some (.ok (c.1,c.2.1)))
def cp(k:Nat)(a0:a8)(a1:(List (List Int))):Nat→((List Int)×Int)→Option (Except Int (List Int))
 |0,_=>none
 |n+1,y5=>
  if y5.2 < (a1.length:Int) then(bE (α:=(List Int)) (bE (α:=(List Int)×Int) (bY k a0 a1 y5 k (y5.1,0,0)) (fun e=>some (.error e)) fun x9=>
  (aZ a0.2.2 y5.2).bind fun h=>
  if h < x9.2 then(some (.error 12)) else(some (.ok x9.1))) (fun e=>some (.error e)) fun x7=>
  (ck (y5.2+1)).bind fun c=>
  cp k a0 a1 n (x7,c)) else(some (.ok y5.1))
def cY(k:Nat)(a0:a8)(a1:(List (List Int))):Option Int:=
 (mN k a0).bind fun r2=>
 if¬(r2=0) then(some r2) else(if(a1.length:Int) < (a0.2.2.length:Int) then(some 7) else(if(a0.2.2.length:Int) < (a1.length:Int) then(some 6) else(bE (α:=(List Int)) (cp k a0 a1 k (([]:(List Int)),0)) (some) fun x3=>
 if(x3.length:Int) < (a0.2.1.length:Int) then(some 7) else(some 0))))
theorem kG(k:Nat)(a0:a8)(a1:(List (List Int)))(r:Int)(h:cY k a0 a1=some r):
 bX Tryz.prog 36 [.rep aF a0,.rep (.slice (.slice (.int .i64))) a1] [] (fun _:Unit=>(bp [I r],[])):=by
 unfold cY at h
 replace h:=be h
 refine bX.of 98 Tryz.func36 rfl Tryz.ntmps36 rfl fun S w0=>?_
 refine sr ?_
 refine bx fun b1=>?_
 refine cq ?_
 refine nt ?_
 refine ae ?_
 refine sr ?_
 refine lo fV ?_
 obtain⟨r2,Sl,h⟩:=aa h
 have Sm:=wN k a0 r2 Sl
 refine ja (ak [.tmp 10] rfl rfl QP rfl Sm) ?_
 refine aq ?_
 refine nt ?_
 refine sr ?_
 refine mq ?_
 refine jb (eZ rfl) ?_
 refine nt ?_
 refine cn h (fun h=>?_) (fun h=>?_)
 ·
  refine sr (mq ?_);refine aq (nt (rx ?_));cases h;exact ra
 ·
  refine sk (ae (sr (mq ?_)));refine ol mf ?_;refine fl fR ?_;refine lo cd ?_;refine ol dE ?_;refine jb (bq rfl) ?_;refine nt (ci h (fun h=>?_) (fun h=>?_))
  ·refine sr (cq (nt (rx ?_)));cases h;exact ra
  ·refine sk (ae (sr (mq ?_)));refine ol mf ?_;refine fl fR ?_;refine lo cd ?_;refine ol dE ?_;refine jb (jC rfl) ?_;refine nt (ci h (fun h=>?_) (fun h=>?_))
   ·refine sr (cq (nt (rx ?_)));cases h;exact ra
   ·refine sk (sr (cq (nt ?_)));refine du (Z:=Value) (α:=(List Int)) (fun z4 x3=>[(2,Pt b1),(6,.eq z4)]) (fun z4 x3=>[.obj b1 25 (.rep aF a0),.sl z4 3 (.int .i64) x3]) (fun e=>e=r) h (fun e h=>Option.some.inj h) (fun K hR h=>?_) (fun z4 x3 h=>?_)
    ·refine sr (cq (nt (aj ?_)));refine fU (SE.nil 3 (.int .i64)) ?_;refine aG (fun z6 y5=>[(1,.rep (.slice (.slice (.int .i64))) a1),(2,Pt b1),(6,.eq z6),(7,I y5.2)]) (fun z6 y5=>[.obj b1 25 (.rep aF a0),.sl z6 3 (.int .i64) y5.1]) (cp k a0 a1) k (.slice none 0 0) (([]:(List Int)),0) (fun _=>rfl) h (SE.fin [1,0] ⟨rfl,rfl,rfl,rfl,trivial⟩ rfl) (fun n z6 y5 h=>?_);unfold cp at h;refine ae (sr ?_);iterate 2 refine mq ?_
     refine ol mf ?_;refine jb (bq rfl) ?_;refine nt (ci h (fun h=>?_) (fun h=>?_))
     ·refine sk (du (Z:=Value) (α:=(List Int)) (fun z8 x7=>[(1,.rep (.slice (.slice (.int .i64))) a1),(2,Pt b1),(6,.eq z8),(7,I y5.2)]) (fun z8 x7=>[.obj b1 25 (.rep aF a0),.sl z8 3 (.int .i64) x7]) (fun e=>e=r) h (fun e h=>hR e h) (fun K hR h=>?_) (fun z8 x7 h=>?_))
      ·refine aj (sr (cq (nt ?_)));refine du (Z:=Value) (α:=(List Int)×Int) (fun l x9=>[(1,.rep (.slice (.slice (.int .i64))) a1),(2,Pt b1),(6,.eq l),(7,I y5.2),(8,I x9.2)]) (fun l x9=>[.obj b1 25 (.rep aF a0),.sl l 3 (.int .i64) x9.1]) (fun e=>e=r) h (fun e h=>hR e h) (fun K hR h=>?_) (fun l x9 h=>?_)
       ·refine sr (cq (nt (aj ?_)));refine aG (fun j c=>[(1,.rep (.slice (.slice (.int .i64))) a1),(2,Pt b1),(6,.eq j),(7,I y5.2),(8,I c.2.1),(9,I c.2.2)]) (fun j c=>[.obj b1 25 (.rep aF a0),.sl j 3 (.int .i64) c.1]) (bY k a0 a1 y5) k z6 (y5.1,0,0) (fun _=>rfl) h (SE.fin [0,1] ⟨rfl,rfl,rfl,rfl,rfl,rfl,trivial⟩ rfl) (fun n j c h=>?_);unfold bY at h;refine ae (sr ?_);iterate 3 refine mq ?_
        obtain⟨SX,RI,h⟩:=aa h;refine jb (aH (t:=(.slice (.int .i64))) rfl mf cd RI) ?_;refine ja (an (t:=(.slice (.int .i64))) rfl cd rfl) ?_;refine ol dE ?_;refine jb (bq rfl) ?_;refine nt (ci h (fun h=>?_) (fun h=>?_))
        ·refine sk (ae (aj (ae (ae (cm ?_)))));refine ea 0 (ao rfl fV (vL) rfl) ?_;refine dm ?_;refine dm ?_;obtain⟨SV,RH,h⟩:=aa h;refine db (aH (t:=(.slice (.int .i64))) rfl mf cd RH) ?_;refine da (an (t:=(.slice (.int .i64))) rfl cd rfl) ?_;refine dm ?_;obtain⟨RR,RG,h⟩:=aa h;refine db (aH (t:=(.int .i64)) rfl dE cu RG) ?_;refine da (an (t:=(.int .i64)) rfl cu rfl) ?_;refine df eM ?_;obtain⟨RU,RN,h⟩:=aa h;refine jb (ak [.tmp 42,.tmp 49] rfl rfl Qy rfl (t3 k a0 RR RU RN)) ?_;refine ja (eB rfl) ?_;refine nt (cw h (fun h=>?_) (fun h=>?_))
         ·refine sr (cq (nt (rx (br (aV (aK (br (aV (aK ?_)))))))));obtain rfl:=hR _ h;exact ra
         ·refine sk (ae (sr ?_));iterate 3 refine mq ?_
          obtain⟨SU,RF,h⟩:=aa h;refine jb (aH (t:=(.slice (.int .i64))) rfl mf cd RF) ?_;refine ja (an (t:=(.slice (.int .i64))) rfl cd rfl) ?_;refine mq ?_;obtain⟨u,RE,h⟩:=aa h;refine jb (aH (t:=(.int .i64)) rfl dE cu RE) ?_;refine ja (an (t:=(.int .i64)) rfl cu rfl) ?_;obtain⟨RS,RL,h⟩:=aa h;refine fr 1 ?_;refine kb (uO (N:=[(.tmp 52,.eq j),(.tmp 59,I u)]) (ak [.tmp 52,.tmp 59] rfl rfl Qx rfl (Aq k c.1 u RS RL)) (fun _ _ _ hv hn=>⟨(lend hn.1 hv),hn.2.1,trivial⟩) (fun _=>⟨rfl,zp⟩)) ?_;refine nt (cv h (fun h=>?_) (fun h=>?_))
          ·refine sr (cq (nt (rx (br (aV (aK (br (aV (aK ?_)))))))));obtain rfl:=hR _ h;exact ra
          ·refine sk (kx ?_);refine aO rfl rfl rfl (aR rfl) ⟨rfl,trivial⟩ ?_;refine aO rfl rfl rfl (aR rfl) ⟨rfl,trivial⟩ ?_;refine aO rfl rfl rfl (aR rfl) ⟨rfl,trivial⟩ ?_;obtain⟨SS,RD,h⟩:=aa h;refine aO rfl rfl rfl (aH (t:=(.slice (.int .i64))) rfl mf cd RD) ⟨rfl,rfl,trivial⟩ ?_;refine aO rfl rfl rfl (an (t:=(.slice (.int .i64))) rfl cd rfl) ⟨rfl,trivial⟩ ?_;refine aO rfl rfl rfl (aR rfl) ⟨rfl,trivial⟩ ?_;obtain⟨s,RB,h⟩:=aa h;refine aO rfl rfl rfl (aH (t:=(.int .i64)) rfl dE cu RB) ⟨rfl,rfl,trivial⟩ ?_;refine aO rfl rfl rfl (an (t:=(.int .i64)) rfl cu rfl) ⟨rfl,trivial⟩ ?_;refine aO rfl rfl rfl (bH (t:=(.int .i64)) [(.tmp 68,_)] [s] rfl rfl eF (.cons rfl .int .nil) rfl rfl) ⟨rfl,trivial⟩ ?_;obtain⟨TG,RJ,h⟩:=aa h;refine uU 0 rfl (fun v=>[.sl v 3 (.int .i64) (c.1++[s])]) (fun _=>rfl) rfl rfl rfl (cg rfl rfl eF (aC RJ)) ⟨rfl,rfl,trivial⟩ ?_;refine aO rfl rfl rfl (aR rfl) ⟨rfl,trivial⟩ ?_;refine aO rfl rfl rfl (aw rfl dB) ⟨rfl,trivial⟩ ?_;refine fg 1 rfl rfl rfl rfl (ao rfl jA mA rfl) ⟨rfl,trivial⟩ ?_;refine aO rfl rfl rfl (aR rfl) ⟨rfl,trivial⟩ ?_;refine aO rfl rfl rfl (aR rfl) ⟨rfl,trivial⟩ ?_;obtain⟨SR,RA,h⟩:=aa h;refine aO rfl rfl rfl (aH (t:=(.slice (.int .i64))) rfl mf cd RA) ⟨rfl,rfl,trivial⟩ ?_;refine aO rfl rfl rfl (an (t:=(.slice (.int .i64))) rfl cd rfl) ⟨rfl,trivial⟩ ?_;refine aO rfl rfl rfl (aR rfl) ⟨rfl,trivial⟩ ?_;obtain⟨SQ,Rz,h⟩:=aa h;refine aO rfl rfl rfl (aH (t:=(.int .i64)) rfl dE cu Rz) ⟨rfl,rfl,trivial⟩ ?_;refine aO rfl rfl rfl (an (t:=(.int .i64)) rfl cu rfl) ⟨rfl,trivial⟩ ?_;obtain⟨SO,Ry,h⟩:=aa h;refine aO rfl rfl rfl (aH (t:=cN) rfl qy nM Ry) ⟨rfl,rfl,trivial⟩ ?_;refine aO rfl rfl rfl (aN 1 false rfl oI rfl) ⟨rfl,trivial⟩ ?_;refine aO rfl rfl rfl (an (t:=(.int .i64)) rfl cu rfl) ⟨rfl,trivial⟩ ?_;obtain⟨RQ,Rx,h⟩:=aa h;refine aO rfl rfl rfl (ba rfl Rx) ⟨rfl,rfl,trivial⟩ ?_;refine oR 24 [true,true,true,true,true,true,true,true,true,true,false,false,false,false,false,false,false,false,false,false,false,false,false,false] [6] [1] [.obj b1 25 (.rep aF a0)] rfl (by kernel_rfl) (by kernel_rfl) (by kernel_rfl) eM (fun vs hv hB=>?_);obtain⟨w0,TF,rfl,Sj⟩:=ap hv;obtain⟨w1,TD,rfl,Si⟩:=ap Sj;obtain⟨w2,TC,rfl,R9⟩:=ap Si;obtain⟨w3,TB,rfl,R7⟩:=ap R9;obtain⟨w4,TA,rfl,R2⟩:=ap R7;obtain⟨w5,Tz,rfl,RZ⟩:=ap R2;obtain⟨w6,Tv,rfl,RY⟩:=ap RZ;obtain⟨w7,Tu,rfl,RX⟩:=ap RY;obtain⟨w8,Tt,rfl,RV⟩:=ap RX;obtain⟨x,SL,rfl,qt⟩:=ap RV;obtain⟨To,SK,rfl,pp⟩:=ap qt;obtain⟨Tn,SJ,rfl,mc⟩:=ap pp;obtain⟨Tm,SI,rfl,ac⟩:=ap mc;obtain⟨Tj,SH,rfl,Y⟩:=ap ac;obtain⟨Ti,SG,rfl,X⟩:=ap Y;obtain⟨Tf,SD,rfl,U⟩:=ap X;obtain⟨Td,SC,rfl,Q⟩:=ap U;obtain⟨Ta,SB,rfl,O⟩:=ap Q;obtain⟨S9,SA,rfl,M⟩:=ap O;obtain⟨S8,Sz,rfl,J⟩:=ap M;obtain⟨S7,Sv,rfl,F⟩:=ap J;obtain⟨S5,Su,rfl,E⟩:=ap F;obtain⟨SZ,Ss,rfl,D⟩:=ap E;obtain⟨SY,Sr,rfl,y⟩:=ap D;obtain rfl:=l9 y;refine⟨[0,1],[.sl x 3 (.int .i64) (c.1++[s])],by kernel_rfl,by decide,?_⟩;refine nB rfl rfl rfl rfl (f8 rfl) ⟨rfl,trivial⟩ (by kernel_rfl) ?_;refine HF (by kernel_rfl) ?_;refine aq (ar (aL (tn (ab ?_))));refine mq ?_;obtain⟨RP,Rw,h⟩:=aa h
           refine jb (ba rfl Rw) ?_;refine aq (nl ?_);exact jz (x,(c.1++[s],RQ,RP)) h [0,1]
        ·refine xa ?_;exact jz (j,(c.1,c.2.1)) h [0,1]
       ·refine sr (mq ?_);refine fl fR ?_;refine lo cd ?_;refine mq ?_;obtain⟨SN,Ru,h⟩:=aa h;refine jb (aH (t:=(.int .i64)) rfl dE cu Ru) ?_;refine ja (an (t:=(.int .i64)) rfl cu rfl) ?_;refine jb (jC rfl) ?_;refine nt (ci h (fun h=>?_) (fun h=>?_))
        ·refine sr (cq (nt (aA (br (aV (aK ?_))))));obtain rfl:=hR _ h;exact ra
        ·refine aS (bn ?_);exact jz (l,x9.1) h [0,1]
      ·refine ab (mq ?_);obtain⟨RO,se,h⟩:=aa h;refine jb (ba rfl se) ?_;refine aq (nl ?_);exact jz (z8,(x7,RO)) h [0,1]
     ·refine xa ?_;exact jz (z6,y5.1) h [0,1]
    ·refine ae (sr (mq ?_));refine fr 1 ?_;refine ka (c9 rfl rfl dE) ?_;refine fl dB ?_;refine fr 1 ?_;refine lo jA ?_;refine ol qy ?_;refine jb (bq rfl) ?_;refine nt (ci h (fun h=>?_) (fun h=>?_))
     ·refine sr (cq (nt (rx ?_)));cases h;exact ra
     ·refine sk (sr (cq (nt (aA ?_))));cases h;exact ra
def mT(k:Nat)(a0:bI)(a1:Int):Option (a8×(List (List Int))×Bool×bI):=
 (jL k (a0.1,a0.2.1,a0.2.2) a1 3).bind fun r2=>
 (g9 k (r2.2.1,r2.2.2.1,r2.2.2.2) r2.1).bind fun r4=>
 (cY k r2.1 r4.1).bind fun r5=>
 some (r2.1,r4.1,decide (r5=0),(r4.2.1,r4.2.2.1,r4.2.2.2))
theorem zc(k:Nat)(a0:bI)(c:Nat)(a1:Int)(r:a8×(List (List Int))×Bool×bI)(h:mT k a0 a1=some r):
 bX Tryz.prog 44 [Pt c,I a1] [.obj c 98 (.agg (.pair (Ri a0.1) (.pair (I a0.2.1) (.eq (.int .u64 a0.2.2)))))] (fun _:Unit=>(bp [.rep aF r.1,.rep (.slice (.slice (.int .i64))) r.2.1,.eq (.bool r.2.2.1)],[.obj c 98 (.agg (.pair (Ri r.2.2.2.1) (.pair (I r.2.2.2.2.1) (.eq (.int .u64 r.2.2.2.2.2)))))])):=by
 unfold mT at h
 replace h:=be h
 refine bX.of 21 Tryz.func44 rfl Tryz.ntmps44 rfl fun S w0=>?_
 refine sr ?_
 refine aE rfl rfl rfl (bJ rfl xU Eb) trivial fun b1=>?_
 refine cq ?_
 refine cq ?_
 refine nt ?_
 refine sr ?_
 iterate 2 refine mq ?_
 obtain⟨r2,D,h⟩:=aa h
 have J:=vp k (a0.1,a0.2.1,a0.2.2) c a1 3 r2 D
 refine fr 1 ?_
 refine kc (ak [.tmp 9,.tmp 10,.const (.int .i64 (3))] rfl rfl QL rfl J) ?_
 refine aE rfl rfl rfl (bJ rfl xU Eb) trivial fun b3=>?_
 refine bf rfl rfl (a9 rfl fV rfl rfl rfl) ⟨rfl,rfl,trivial⟩ ?_
 refine nt ?_
 refine sr ?_
 refine mq ?_
 refine lo fV ?_
 obtain⟨r4,y,h⟩:=aa h
 have F:=su k (r2.2.1,r2.2.2.1,r2.2.2.2) c r2.1 r4 y
 refine fr 1 ?_
 refine kb (ak [.tmp 12,.tmp 13] rfl rfl QD rfl F) ?_
 refine aq ?_
 refine nt ?_
 refine ae ?_
 refine kx ?_
 refine fg 1 rfl rfl rfl rfl (ao rfl fV (vL) rfl) ⟨rfl,trivial⟩ ?_
 refine aO rfl rfl rfl (aR rfl) ⟨rfl,trivial⟩ ?_
 refine fg 1 rfl rfl rfl rfl (ao rfl fV (vL) rfl) ⟨rfl,trivial⟩ ?_
 refine aO rfl rfl rfl (aR rfl) ⟨rfl,trivial⟩ ?_
 obtain⟨r5,x,h⟩:=aa h
 have E:=kG k r2.1 r4.1 r5 x
 refine aO rfl rfl rfl (ak [.tmp 17,.tmp 18] rfl rfl OD rfl E) ⟨rfl,rfl,trivial⟩ ?_
 refine aO rfl rfl rfl (fj rfl) ⟨rfl,rfl,trivial⟩ ?_
 refine oR 6 [true,false,true,true,true,false] [5,6] [] [] rfl (by kernel_rfl) (by kernel_rfl) (by kernel_rfl) eM (fun vs hv hB=>?_)
 obtain⟨w0,Y,rfl,u⟩:=ap hv
 obtain⟨w1,X,rfl,s⟩:=ap u
 obtain⟨w2,U,rfl,n⟩:=ap s
 obtain⟨w3,Q,rfl,l⟩:=ap n
 obtain⟨w4,O,rfl,j⟩:=ap l
 obtain⟨w5,M,rfl,e⟩:=ap j
 obtain rfl:=l9 e
 refine⟨[0,1,2],[.obj c 98 (.agg (.pair (Ri r4.2.1) (.pair (I r4.2.2.1) (.eq (.int .u64 r4.2.2.2))))),.obj b3 25 (.rep aF r2.1),.obj b1 25 (.agg (.pair (I 0) (.pair (.eq (.slice none 0 0)) (.eq (.slice none 0 0)))))],by kernel_rfl,by decide,?_⟩
 refine lN 2 rfl ?_
 refine qx rfl rfl (a9 rfl fV rfl rfl rfl) ⟨rfl,rfl,trivial⟩ (by kernel_rfl) ?_
 refine nB rfl rfl rfl rfl (f8 rfl) ⟨rfl,trivial⟩ (by kernel_rfl) ?_
 refine nB rfl rfl rfl rfl (f8 rfl) ⟨rfl,trivial⟩ (by kernel_rfl) ?_
 refine sL ?_
 refine bv (SE.fin (Γ':=[(4,Pt b1),(5,.rep (.slice (.slice (.int .i64))) r4.1),(6,.eq (.bool (decide (r5=0))))]) (Δ':=[.obj b1 25 (.rep aF r2.1),.obj c 98 (.agg (.pair (Ri r4.2.1) (.pair (I r4.2.2.1) (.eq (.int .u64 r4.2.2.2))))),.obj b3 25 (.rep aF r2.1)]) [0,1,2] ⟨rfl,rfl,rfl,trivial⟩ rfl) ?_
 refine tn ?_
 refine aA ?_
 refine bv (SE.fin (Γ':=[(4,_),(5,_),(6,_)]) [1,0,2] ⟨rfl,rfl,rfl,trivial⟩ rfl) ?_
 cases h
 exact aD () [.rep aF r2.1,_,_] 1 ⟨⟨_,_,_,_,_,rfl,(.tail _ (.head _)),fV,(vL),rfl⟩,rfl,rfl,trivial⟩ rfl
end Go.Proofs.YtcnpijmfgfnpiaaGreatDoor
