import Derived.Test.YtddneonghpmidaaGreatDoorSBFacts
set_option linter.unusedSimpArgs false
set_option linter.unusedVariables false
set_option maxRecDepth 4000
set_option maxHeartbeats 1000000
namespace Go.Proofs.YtddneonghpmidaaGreatDoor
open K Go Go.Proofs
def jT(k:Nat)(a0:aQ):Nat→Int→Option (Except Bool Unit)
 |0,_=>none
 |n+1,y6=>
  if y6 < (a0.2.1.length:Int) then((aP a0.2.1 y6).bind fun x8=>
  if 20 < (x8.2.length:Int) then(some (.error true)) else((ck (y6+1)).bind fun x9=>
  jT k a0 n x9)) else(some (.ok ()))
def mE(k:Nat)(a0:aQ):Option Bool:=
 ((if 20 < (a0.2.1.length:Int) then(some true) else(some (decide (20 < (a0.2.2.length:Int))))):Option (Bool)).bind fun x2=>
 if x2=true then(some true) else(bE (α:=Unit) (jT k a0 k 0) (some) fun _=>
 ((if(a0.2.1.length:Int)=5 then(some (decide ((a0.2.2.length:Int)=3))) else(some false)):Option (Bool)).bind fun c=>
 some c)
theorem uM(k:Nat)(a0:aQ)(r:Bool)(h:mE k a0=some r):
 bZ Tryz.prog 4 [.rep an a0] [] (fun _:Unit=>(bp [.eq (.bool r)],[])):=by
 unfold mE at h
 replace h:=ba h
 refine bZ.of 39 Tryz.func4 rfl Tryz.ntmps4 rfl fun S w0=>?_
 refine sr ?_
 refine bx fun b1=>?_
 refine cq ?_
 refine nt ?_
 refine ar ?_
 refine aJ (Z:=Unit) (α:=Bool) (fun z3 x2=>[(1,Pt b1),(13,.eq (.bool x2))]) (fun z3 x2=>[.obj b1 25 (.rep an a0)]) h (fun K h=>?_) (fun z3 x2 h=>?_)
 ·
  refine ab (fl cg ?_);refine lo fR ?_;refine ol nD ?_;refine jb (i7 rfl) ?_;refine mq ?_;refine bY (s:=8) rfl (fun hb=>?_) (fun hb=>?_)
  ·replace h:=cF (oe hb) h;refine au ?_;exact jz ((),true) h [0]
  ·replace h:=bM (nr hb) h;refine ga (av rfl cH) ?_;refine gi rfl rfl rfl rfl rfl rfl (ah rfl bN jw rfl) ⟨rfl,trivial⟩ ?_;refine ga (jq rfl rfl dB) ?_;refine gb (i7 rfl) ?_;refine au ?_;exact jz ((),decide (20 < (a0.2.2.length:Int))) h [0]
 ·
  refine cv h (fun h=>?_) (fun h=>?_)
  ·refine au ?_;cases h;exact ra
  ·refine sk (dK (Z:=Unit) (α:=Unit) (fun z5 x4=>[(1,Pt b1)]) (fun z5 x4=>[.obj b1 25 (.rep an a0)]) (fun e=>e=r) h (fun e h=>Option.some.inj h) (fun K hR h=>?_) (fun z5 x4 h=>?_))
   ·refine au ?_;refine aj (aH (fun z7 y6=>[(1,Pt b1),(3,I y6)]) (fun z7 y6=>[.obj b1 25 (.rep an a0)]) (jT k a0) k () 0 (fun _=>rfl) h (SE.fin [0] ⟨rfl,rfl,trivial⟩ rfl) (fun n z7 y6 h=>?_));unfold jT at h;refine au ?_;refine fl cg ?_;refine lo fR ?_;refine ol nD ?_;refine jb (bj rfl) ?_;refine nt (ci h (fun h=>?_) (fun h=>?_))
    ·refine au ?_;refine aj (sr (fl cg ?_));refine lo fR ?_;refine mq ?_;obtain⟨x8,u,h⟩:=aa h;refine jb (aG (t:=aK) rfl nD ju u) ?_;refine ja (aI 1 false rfl kN rfl) ?_;refine ja (ak (t:=(.slice (.int .i64))) rfl bN rfl) ?_;refine ol dB ?_;refine jb (i7 rfl) ?_;refine nt (ci h (fun h=>?_) (fun h=>?_))
     ·refine au ?_;obtain rfl:=hR _ h;exact ra
     ·refine au ?_;refine ab (mq ?_);obtain⟨x9,l,h⟩:=aa h;refine jb (a9 rfl l) ?_;refine au ?_;exact jz ((),x9) h [0]
    ·refine au ?_;exact jz ((),()) h [0]
   ·refine aJ (Z:=Unit) (α:=Bool) (fun j c=>[(2,.eq (.bool c))]) (fun j c=>[]) h (fun K h=>?_) (fun j c h=>?_)
    ·refine ab (fl cg ?_);refine lo fR ?_;refine ol nD ?_;refine jb (dX rfl) ?_;refine mq ?_;refine bY (s:=33) rfl (fun hb=>?_) (fun hb=>?_)
     ·replace h:=cF (oe hb) h;refine ga (av rfl cH) ?_;refine gi rfl rfl rfl rfl rfl rfl (ah rfl bN jw rfl) ⟨rfl,trivial⟩ ?_;refine ga (jq rfl rfl dB) ?_;refine gb (dX rfl) ?_;refine au ?_;exact jz ((),decide ((a0.2.2.length:Int)=3)) h []
     ·replace h:=bM (nr hb) h;refine au ?_;exact jz ((),false) h []
    ·refine bJ ?_;cases h;exact ra
def dP(k:Nat)(a0:(List Int))(a1:(List Int)):Nat→Int→Option (Except Bool Unit)
 |0,_=>none
 |n+1,y3=>
  if y3 < (a0.length:Int) then((aP a0 y3).bind fun x5=>
  (aP a1 y3).bind fun x6=>
  if¬(x5=x6) then(some (.error false)) else((ck (y3+1)).bind fun x7=>
  dP k a0 a1 n x7)) else(some (.ok ()))
def dH(k:Nat)(a0:(List Int))(a1:(List Int)):Option Bool:=
 if¬((a0.length:Int)=(a1.length:Int)) then(some false) else(bE (α:=Unit) (dP k a0 a1 k 0) (some) fun _=>
 some true)
theorem fL(k:Nat)(a0:(List Int))(a1:(List Int))(r:Bool)(h:dH k a0 a1=some r):
 bZ Tryz.prog 11 [Ri a0,Ri a1] [] (fun _:Unit=>(bp [.eq (.bool r)],[])):=by
 unfold dH at h
 replace h:=ba h
 refine bZ.of 26 Tryz.func11 rfl Tryz.ntmps11 rfl fun S w0=>?_
 refine au ?_
 refine ol dB ?_
 refine mq ?_
 refine ol dB ?_
 refine jb (iZ rfl) ?_
 refine nt ?_
 refine cn h (fun h=>?_) (fun h=>?_)
 ·
  refine au ?_;cases h;exact ra
 ·
  refine sk (dK (Z:=Unit) (α:=Unit) (fun z2 x1=>[]) (fun z2 x1=>[]) (fun e=>e=r) h (fun e h=>Option.some.inj h) (fun K hR h=>?_) (fun z2 x1 h=>?_))
  ·refine au ?_;refine aj (aH (fun z4 y3=>[(0,Ri a0),(1,Ri a1),(5,I y3)]) (fun z4 y3=>[]) (dP k a0 a1) k () 0 (fun _=>rfl) h (SE.fin [] ⟨rfl,rfl,rfl,trivial⟩ rfl) (fun n z4 y3 h=>?_));unfold dP at h;refine au ?_;refine ol dB ?_;refine jb (bj rfl) ?_;refine nt (ci h (fun h=>?_) (fun h=>?_))
   ·refine au ?_;refine aj (ar (bD ?_));refine dm ?_;refine dm ?_;obtain⟨x5,l,h⟩:=aa h;refine db (aG (t:=(.int .i64)) rfl dB cC l) ?_;refine da (ak (t:=(.int .i64)) rfl cC rfl) ?_;refine dm ?_;refine dm ?_;obtain⟨x6,j,h⟩:=aa h;refine db (aG (t:=(.int .i64)) rfl dB cC j) ?_;refine da (ak (t:=(.int .i64)) rfl cC rfl) ?_;refine df cG ?_;refine jb (iZ rfl) ?_;refine nt (cn h (fun h=>?_) (fun h=>?_))
    ·refine au ?_;obtain rfl:=hR _ h;exact ra
    ·refine au ?_;refine ab (mq ?_);obtain⟨x7,c,h⟩:=aa h;refine jb (a9 rfl c) ?_;refine au ?_;exact jz ((),x7) h []
   ·refine au ?_;exact jz ((),()) h []
  ·refine au ?_;cases h;exact ra
def fj(k:Nat)(a0:(List (List Int)))(a1:(List (List Int))):Nat→Int→Option (Except Bool Unit)
 |0,_=>none
 |n+1,y3=>
  if y3 < (a0.length:Int) then((aP a0 y3).bind fun x5=>
  (aP a1 y3).bind fun x6=>
  (dH k x5 x6).bind fun r7=>
  if¬(r7=true) then(some (.error false)) else((ck (y3+1)).bind fun x8=>
  fj k a0 a1 n x8)) else(some (.ok ()))
def gg(k:Nat)(a0:(List (List Int)))(a1:(List (List Int))):Option Bool:=
 if¬((a0.length:Int)=(a1.length:Int)) then(some false) else(bE (α:=Unit) (fj k a0 a1 k 0) (some) fun _=>
 some true)
theorem kK(k:Nat)(a0:(List (List Int)))(a1:(List (List Int)))(r:Bool)(h:gg k a0 a1=some r):
 bZ Tryz.prog 12 [.rep (.slice (.slice (.int .i64))) a0,.rep (.slice (.slice (.int .i64))) a1] [] (fun _:Unit=>(bp [.eq (.bool r)],[])):=by
 unfold gg at h
 replace h:=ba h
 refine bZ.of 27 Tryz.func12 rfl Tryz.ntmps12 rfl fun S w0=>?_
 refine au ?_
 refine ol oh ?_
 refine mq ?_
 refine ol oh ?_
 refine jb (iZ rfl) ?_
 refine nt ?_
 refine cn h (fun h=>?_) (fun h=>?_)
 ·
  refine au ?_;cases h;exact ra
 ·
  refine sk (dK (Z:=Unit) (α:=Unit) (fun z2 x1=>[]) (fun z2 x1=>[]) (fun e=>e=r) h (fun e h=>Option.some.inj h) (fun K hR h=>?_) (fun z2 x1 h=>?_))
  ·refine au ?_;refine aj (aH (fun z4 y3=>[(0,.rep (.slice (.slice (.int .i64))) a0),(1,.rep (.slice (.slice (.int .i64))) a1),(5,I y3)]) (fun z4 y3=>[]) (fj k a0 a1) k () 0 (fun _=>rfl) h (SE.fin [] ⟨rfl,rfl,rfl,trivial⟩ rfl) (fun n z4 y3 h=>?_));unfold fj at h;refine au ?_;refine ol oh ?_;refine jb (bj rfl) ?_;refine nt (ci h (fun h=>?_) (fun h=>?_))
   ·refine au ?_;refine aj (ar (bD ?_));refine dm ?_;refine dm ?_;obtain⟨x5,l,h⟩:=aa h;refine db (aG (t:=(.slice (.int .i64))) rfl oh bN l) ?_;refine da (ak (t:=(.slice (.int .i64))) rfl bN rfl) ?_;refine dm ?_;refine dm ?_;obtain⟨x6,j,h⟩:=aa h;refine db (aG (t:=(.slice (.int .i64))) rfl oh bN j) ?_;refine da (ak (t:=(.slice (.int .i64))) rfl bN rfl) ?_;refine df cG ?_;obtain⟨r7,s,h⟩:=aa h;refine jb (ao [.tmp 20,.tmp 24] rfl rfl Gz rfl (fL k x5 x6 r7 s)) ?_;refine ja (eF rfl) ?_;refine nt (cw h (fun h=>?_) (fun h=>?_))
    ·refine au ?_;obtain rfl:=hR _ h;exact ra
    ·refine au ?_;refine ab (mq ?_);obtain⟨x8,c,h⟩:=aa h;refine jb (a9 rfl c) ?_;refine au ?_;exact jz ((),x8) h []
   ·refine au ?_;exact jz ((),()) h []
  ·refine au ?_;cases h;exact ra
def cU(k:Nat)(a0:(List (List Int)))(y5:(List (List Int))×Int):Nat→((List (List Int))×Int)→Option (List (List Int))
 |0,_=>none
 |n+1,y9=>
  if y9.2 < 5 then((((cP (0≤y5.2∧y5.2 < 3)).bind fun _=>
  (aP y9.1 y5.2).bind fun c=>
  (cP (0≤y9.2∧y9.2 < 5)).bind fun _=>
  ((if y5.2 < (a0.length:Int) then((aP a0 y5.2).bind fun r=>
  some (decide (y9.2 < (r.length:Int)))) else(some false)):Option (Bool)).bind fun s=>
  if s=true then((aP a0 y5.2).bind fun l=>
  (aP l y9.2).bind fun j=>
  (cP (0≤y5.2∧y5.2 < 3)).bind fun _=>
  (aP (List.set y9.1 (Int.toNat y5.2) (List.set c (Int.toNat y9.2) (-1:Int))) y5.2).bind fun h=>
  (cP (0≤y9.2∧y9.2 < 5)).bind fun _=>
  some (List.set (List.set y9.1 (Int.toNat y5.2) (List.set c (Int.toNat y9.2) (-1:Int))) (Int.toNat y5.2) (List.set h (Int.toNat y9.2) j))) else(some (List.set y9.1 (Int.toNat y5.2) (List.set c (Int.toNat y9.2) (-1:Int))))):Option ((List (List Int)))).bind fun u=>
  (ck (y9.2+1)).bind fun e=>
  cU k a0 y5 n (u,e)) else(some y9.1)
def dj(k:Nat)(a0:(List (List Int))):Nat→((List (List Int))×Int)→Option (List (List Int))
 |0,_=>none
 |n+1,y5=>
  if y5.2 < 3 then(((cU k a0 y5 k (y5.1,0)):Option ((List (List Int)))).bind fun x7=>
  (ck (y5.2+1)).bind fun c=>
  dj k a0 n (x7,c)) else(some y5.1)
def dN(k:Nat)(a0:(List (List Int))):Option (List (List Int)):=
 ((dj k a0 k ([[0,0,0,0,0],[0,0,0,0,0],[0,0,0,0,0]],0)):Option ((List (List Int)))).bind fun x3=>
 some x3
theorem eh(k:Nat)(a0:(List (List Int)))(r:(List (List Int)))(h:dN k a0=some r):
 bZ Tryz.prog 30 [.rep (.slice (.slice (.int .i64))) a0] [] (fun _:Unit=>(bp [.rep (.arr 3 (.arr 5 (.int .i64))) r],[])):=by
 unfold dN at h
 replace h:=ba h
 refine bZ.of 43 Tryz.func30 rfl Tryz.ntmps30 rfl fun S w0=>?_
 refine sr ?_
 refine aD rfl rfl rfl (aY rfl rF sd) trivial fun b1=>?_
 refine au ?_
 refine aD rfl rfl rfl (aY rfl rF sd) trivial fun b2=>?_
 refine nt ?_
 refine aJ (Z:=Unit) (α:=(List (List Int))) (fun z4 x3=>[(2,Pt b1),(3,Pt b2)]) (fun z4 x3=>[.obj b1 70 (.rep (.arr 3 (.arr 5 (.int .i64))) [[0,0,0,0,0],[0,0,0,0,0],[0,0,0,0,0]]),.obj b2 70 (.rep (.arr 3 (.arr 5 (.int .i64))) x3)]) h (fun K h=>?_) (fun z4 x3 h=>?_)
 ·
  refine sr (eI rfl ?_);refine nt (aj (aH (fun z6 y5=>[(0,.rep (.slice (.slice (.int .i64))) a0),(2,Pt b1),(3,Pt b2),(6,I y5.2)]) (fun z6 y5=>[.obj b1 70 (.rep (.arr 3 (.arr 5 (.int .i64))) [[0,0,0,0,0],[0,0,0,0,0],[0,0,0,0,0]]),.obj b2 70 (.rep (.arr 3 (.arr 5 (.int .i64))) y5.1)]) (dj k a0) k () ([[0,0,0,0,0],[0,0,0,0,0],[0,0,0,0,0]],0) (fun _=>rfl) h (SE.fin [1,0] ⟨rfl,rfl,rfl,rfl,trivial⟩ rfl) (fun n z6 y5 h=>?_)));unfold dj at h;refine sr (jb (bj rfl) ?_);refine au ?_;refine ci h (fun h=>?_) (fun h=>?_)
  ·refine sk (aJ (Z:=Unit) (α:=(List (List Int))) (fun z8 x7=>[(0,.rep (.slice (.slice (.int .i64))) a0),(2,Pt b1),(3,Pt b2),(6,I y5.2)]) (fun z8 x7=>[.obj b1 70 (.rep (.arr 3 (.arr 5 (.int .i64))) [[0,0,0,0,0],[0,0,0,0,0],[0,0,0,0,0]]),.obj b2 70 (.rep (.arr 3 (.arr 5 (.int .i64))) x7)]) h (fun K h=>?_) (fun z8 x7 h=>?_))
   ·refine aj (au ?_);refine eI rfl ?_;refine nt (aj (aH (fun J y9=>[(0,.rep (.slice (.slice (.int .i64))) a0),(2,Pt b1),(3,Pt b2),(4,I y5.2),(6,I y5.2),(9,I y9.2)]) (fun J y9=>[.obj b1 70 (.rep (.arr 3 (.arr 5 (.int .i64))) [[0,0,0,0,0],[0,0,0,0,0],[0,0,0,0,0]]),.obj b2 70 (.rep (.arr 3 (.arr 5 (.int .i64))) y9.1)]) (cU k a0 y5) k () (y5.1,0) (fun _=>rfl) h (SE.fin [0,1] ⟨rfl,rfl,rfl,rfl,rfl,rfl,trivial⟩ rfl) (fun n J y9 h=>?_)));unfold cU at h;refine sr (jb (bj rfl) ?_);refine au ?_;refine ci h (fun h=>?_) (fun h=>?_)
    ·refine sk (aJ (Z:=Unit) (α:=(List (List Int))) (fun F l=>[(0,.rep (.slice (.slice (.int .i64))) a0),(2,Pt b1),(3,Pt b2),(4,I y5.2),(6,I y5.2),(9,I y9.2)]) (fun F l=>[.obj b1 70 (.rep (.arr 3 (.arr 5 (.int .i64))) [[0,0,0,0,0],[0,0,0,0,0],[0,0,0,0,0]]),.obj b2 70 (.rep (.arr 3 (.arr 5 (.int .i64))) l)]) h (fun K h=>?_) (fun F l h=>?_))
     ·refine aj (au ?_);obtain⟨VH,x,h⟩:=aa h;refine jb (g8 rfl P1 Am (ay x).1 (ay x).2) ?_;obtain⟨D,ac,h⟩:=aa h;obtain⟨VG,e,h⟩:=aa h;refine jb (g8 rfl S5 cC (ay e).1 (ay e).2) ?_;refine fr 1 ?_;refine a8 rfl rfl (oL (t:=(.int .i64)) (off:=0) (i:=y5.2) (j:=y9.2) (N:=3) (L:=5) rfl cC .int rfl rfl rfl rfl ac (ay e).1 (ay e).2 rfl) ⟨rfl,rfl,trivial⟩ ?_;refine nt (aJ (Z:=Unit) (α:=Bool) (fun E y=>[(0,.rep (.slice (.slice (.int .i64))) a0),(2,Pt b1),(3,Pt b2),(4,I y5.2),(5,I y9.2),(6,I y5.2),(9,I y9.2),(28,.eq (.bool y))]) (fun E y=>[.obj b1 70 (.rep (.arr 3 (.arr 5 (.int .i64))) [[0,0,0,0,0],[0,0,0,0,0],[0,0,0,0,0]]),.obj b2 70 (.rep (.arr 3 (.arr 5 (.int .i64))) (List.set y9.1 (Int.toNat y5.2) (List.set D (Int.toNat y9.2) (-1:Int))))]) h (fun K h=>?_) (fun E y h=>?_))
      ·refine ab (au ?_);refine ol oh ?_;refine jb (bj rfl) ?_;refine mq ?_;refine bY (s:=20) rfl (fun hb=>?_) (fun hb=>?_)
       ·replace h:=cF (oe hb) h;refine au ?_;obtain⟨VC,Y,h⟩:=aa h;refine gb (aG (t:=(.slice (.int .i64))) rfl oh bN Y) ?_;refine ga (ak (t:=(.slice (.int .i64))) rfl bN rfl) ?_;refine ga (jq rfl rfl dB) ?_;refine gb (bj rfl) ?_;refine au ?_;exact jz ((),decide (y9.2 < (VC.length:Int))) h [1,0]
       ·replace h:=bM (nr hb) h;refine au ?_;exact jz ((),false) h [1,0]
      ·refine cv h (fun h=>?_) (fun h=>?_)
       ·refine bD ?_;refine dm ?_;refine dm ?_;refine dm ?_;refine dm ?_;obtain⟨VD,X,h⟩:=aa h;refine db (aG (t:=(.slice (.int .i64))) rfl oh bN X) ?_;refine da (ak (t:=(.slice (.int .i64))) rfl bN rfl) ?_;refine dm ?_;obtain⟨se,U,h⟩:=aa h;refine db (aG (t:=(.int .i64)) rfl dB cC U) ?_;refine da (ak (t:=(.int .i64)) rfl cC rfl) ?_;obtain⟨VF,u,h⟩:=aa h;refine db (g8 rfl P1 Am (ay u).1 (ay u).2) ?_;refine df cG ?_;obtain⟨qt,Q,h⟩:=aa h;obtain⟨VE,c,h⟩:=aa h;refine jb (g8 rfl S5 cC (ay c).1 (ay c).2) ?_;refine fr 1 ?_;refine a8 rfl rfl (oL (t:=(.int .i64)) (off:=0) (i:=y5.2) (j:=y9.2) (N:=3) (L:=5) rfl cC .int rfl rfl rfl rfl Q (ay c).1 (ay c).2 rfl) ⟨rfl,rfl,trivial⟩ ?_;refine au ?_;exact jz ((),List.set (List.set y9.1 (Int.toNat y5.2) (List.set D (Int.toNat y9.2) (-1:Int))) (Int.toNat y5.2) (List.set qt (Int.toNat y9.2) se)) h [1,0]
       ·refine au ?_;exact jz ((),List.set y9.1 (Int.toNat y5.2) (List.set D (Int.toNat y9.2) (-1:Int))) h [0,1]
     ·refine ab ?_;obtain⟨pp,O,h⟩:=aa h;refine jb (a9 rfl O) ?_;refine au ?_;exact jz ((),(l,pp)) h [0,1]
    ·refine au ?_;exact jz ((),y9.1) h [0,1]
   ·refine ab ?_;obtain⟨mc,M,h⟩:=aa h;refine jb (a9 rfl M) ?_;refine au ?_;exact jz ((),(x7,mc)) h [0,1]
  ·refine au ?_;exact jz ((),y5.1) h [0,1]
 ·
  refine sr (fr 1 ?_);refine lo ft ?_;refine fr 1 ?_;refine a8 rfl rfl (aX rfl ft rfl rfl rfl) ⟨rfl,rfl,trivial⟩ ?_;refine au ?_;obtain rfl:=Option.some.inj h;exact aL () [.rep (.arr 3 (.arr 5 (.int .i64))) x3] 0 ⟨⟨_,_,_,_,_,rfl,(.head _),ft,(sT),rfl⟩,trivial⟩ rfl
def cX(k:Nat)(x5:(List Int)):Nat→((List Int)×Int)→Option (List Int)
 |0,_=>none
 |n+1,y6=>
  if y6.2 < 5 then((((aP x5 y6.2).bind fun c=>
  if 0≤c then((cP (bq (List.length y6.1+List.length [c]))).bind fun _=>
  some (y6.1++[c])) else(some y6.1)):Option ((List Int))).bind fun x8=>
  (ck (y6.2+1)).bind fun e=>
  cX k x5 n (x8,e)) else(some y6.1)
def d3(k:Nat)(a0:(List (List Int)))(a1:Int):Option (List Int):=
 (((cP (0≤a1∧a1 < 3)).bind fun _=>
 (aP a0 a1).bind fun x5=>
 cX k x5 k (([]:(List Int)),0)):Option ((List Int))).bind fun x2=>
 some x2
theorem gC(k:Nat)(a0:(List (List Int)))(a1:Int)(r:(List Int))(h:d3 k a0 a1=some r):
 bZ Tryz.prog 55 [.rep (.arr 3 (.arr 5 (.int .i64))) a0,I a1] [] (fun _:Unit=>(bp [Ri r],[])):=by
 unfold d3 at h
 replace h:=ba h
 refine bZ.of 22 Tryz.func55 rfl Tryz.ntmps55 rfl fun S w0=>?_
 refine sr ?_
 refine bx fun b1=>?_
 refine cq ?_
 refine nt ?_
 refine sr ?_
 refine cq ?_
 refine nt ?_
 refine aJ (Z:=Value) (α:=(List Int)) (fun z3 x2=>[(5,.eq z3)]) (fun z3 x2=>[.sl z3 3 (.int .i64) x2]) h (fun K h=>?_) (fun z3 x2 h=>?_)
 ·
  refine au ?_;obtain⟨u4,l,h⟩:=aa h;refine jb (g8 rfl P1 Am (ay l).1 (ay l).2) ?_;obtain⟨x5,y,h⟩:=aa h;refine ka (wh (t:=(.arr 5 (.int .i64))) (off:=0) (i:=a1) (N:=3) rfl Am (sT) rfl rfl rfl rfl y) ?_;refine eI rfl ?_;refine nt (aj (dE (SE.nil 3 (.int .i64)) ?_));refine aH (fun z7 y6=>[(5,.eq z7),(10,.rep (.arr 5 (.int .i64)) x5),(11,I y6.2)]) (fun z7 y6=>[.sl z7 3 (.int .i64) y6.1]) (cX k x5) k (.slice none 0 0) (([]:(List Int)),0) (fun _=>rfl) h (SE.fin [0] ⟨rfl,rfl,rfl,trivial⟩ rfl) (fun n z7 y6 h=>?_);unfold cX at h;refine sr (jb (bj rfl) ?_);refine au ?_;refine ci h (fun h=>?_) (fun h=>?_)
  ·refine sk (aJ (Z:=Value) (α:=(List Int)) (fun z9 x8=>[(5,.eq z9),(10,.rep (.arr 5 (.int .i64)) x5),(11,I y6.2)]) (fun z9 x8=>[.sl z9 3 (.int .i64) x8]) h (fun K h=>?_) (fun z9 x8 h=>?_))
   ·refine aj (sr ?_);obtain⟨c,j,h⟩:=aa h;refine jb (uI (t:=(.int .i64)) rfl S5 cC rfl rfl (fun _=>rfl) j) ?_;refine au ?_;refine jb (pg rfl) ?_;refine nt (ci h (fun h=>?_) (fun h=>?_))
    ·refine ab (au ?_);refine ja (bh (t:=(.int .i64)) [(.tmp 17,_)] [c] rfl rfl de (.cons rfl .int .nil) rfl rfl) ?_;obtain⟨D,s,h⟩:=aa h;refine cp rfl rfl rfl (be rfl rfl de (ay s)) ⟨rfl,rfl,trivial⟩ fun x=>?_;refine au ?_;exact jz (x,y6.1++[c]) h [0]
    ·refine au ?_;exact jz (z7,y6.1) h [0]
   ·refine ab ?_;obtain⟨u,e,h⟩:=aa h;refine jb (a9 rfl e) ?_;refine au ?_;exact jz (z9,(x8,u)) h [0]
  ·refine au ?_;exact jz (z7,y6.1) h [0]
 ·
  refine sr (mq ?_);refine aq (nt (bJ ?_));refine bi (dh [4,5,21] ⟨rfl,rfl,rfl,trivial⟩) ?_;cases h;exact ra
def eD(k:Nat)(a0:dr)(a1:(List (List Int))):Nat→((List (List Int))×Int)→Option (List (List Int))
 |0,_=>none
 |n+1,y6=>
  if y6.2 < ((List.replicate (Int.toNat (a0.1.2.2.length:Int)) ([]:(List Int))).length:Int) then((d3 k a1 y6.2).bind fun r8=>
  (aP y6.1 y6.2).bind fun x9=>
  (ck (y6.2+1)).bind fun c=>
  eD k a0 a1 n (List.set y6.1 (Int.toNat y6.2) r8,c)) else(some y6.1)
def dF(k:Nat)(a0:dr)(a1:(List (List Int))):Option (List (List Int)):=
 (cP (0≤(a0.1.2.2.length:Int)∧bq (Int.toNat (a0.1.2.2.length:Int)))).bind fun _=>
 ((eD k a0 a1 k (List.replicate (Int.toNat (a0.1.2.2.length:Int)) ([]:(List Int)),0)):Option ((List (List Int)))).bind fun x4=>
 some x4
theorem iy(k:Nat)(a0:dr)(a1:(List (List Int)))(r:(List (List Int)))(h:dF k a0 a1=some r):
 bZ Tryz.prog 33 [.at bH a0,.rep (.arr 3 (.arr 5 (.int .i64))) a1] [] (fun z:Value=>(bp [.eq z],[.sl z 23 (.slice (.int .i64)) r])):=by
 unfold dF at h
 replace h:=ba h
 refine bZ.of 27 Tryz.func33 rfl Tryz.ntmps33 rfl fun S w0=>?_
 refine sr ?_
 refine bx fun b1=>?_
 refine au ?_
 refine ja (dR rfl) ?_
 refine ja (aI 3 true rfl km rfl) ?_
 refine ja (aI 1 false rfl cH rfl) ?_
 refine ja (ak (t:=(.slice (.int .i64))) rfl bN rfl) ?_
 refine ol dB ?_
 obtain⟨u2,j,h⟩:=aa h
 refine aD rfl rfl rfl (Do (t:=(.slice (.int .i64))) (d:=([]:(List Int))) rfl lD Td (ay j).1 (ay j).2) ⟨rfl,rfl,trivial⟩ fun v3=>?_
 refine aq ?_
 refine nt ?_
 refine aJ (Z:=Unit) (α:=(List (List Int))) (fun z5 x4=>[(5,.eq v3)]) (fun z5 x4=>[.sl v3 23 (.slice (.int .i64)) x4]) h (fun K h=>?_) (fun z5 x4 h=>?_)
 ·
  refine au ?_;refine ka (cZ rfl rfl oh) ?_;refine eI rfl ?_;refine nt (aj (aH (fun z7 y6=>[(3,Pt b1),(5,.eq v3),(15,I ((List.replicate (Int.toNat (a0.1.2.2.length:Int)) ([]:(List Int))).length:Int)),(16,I y6.2)]) (fun z7 y6=>[.obj b1 70 (.rep (.arr 3 (.arr 5 (.int .i64))) a1),.sl v3 23 (.slice (.int .i64)) y6.1]) (eD k a0 a1) k () (List.replicate (Int.toNat (a0.1.2.2.length:Int)) ([]:(List Int)),0) (fun _=>rfl) h (SE.fin [1,0] ⟨rfl,rfl,rfl,rfl,trivial⟩ rfl) (fun n z7 y6 h=>?_)));unfold eD at h;refine sr (jb (bj rfl) ?_);refine au ?_;refine ci h (fun h=>?_) (fun h=>?_)
  ·refine au ?_;refine aj (au ?_);refine ab (au ?_);refine lo ft ?_;refine mq ?_;obtain⟨r8,s,h⟩:=aa h;refine jb (ao [.tmp 21,.tmp 22] rfl rfl Mc rfl (gC k a1 y6.2 r8 s)) ?_;obtain⟨x9,c,h⟩:=aa h;refine fr 1 ?_;refine kb (aV (t:=(.slice (.int .i64))) rfl oh bN c) ?_;refine a8 rfl rfl (cI (i:=Int.toNat y6.2) rfl bN rfl (gy c) rfl .rep rfl) ⟨rfl,rfl,trivial⟩ ?_;refine au ?_;refine ab ?_;obtain⟨l,e,h⟩:=aa h;refine jb (a9 rfl e) ?_;refine au ?_;exact jz ((),(List.set y6.1 (Int.toNat y6.2) r8,l)) h [1,0]
  ·refine au ?_;exact jz ((),y6.1) h [1]
 ·
  refine au ?_;cases h;exact aL v3 [.eq v3] 1 ⟨rfl,trivial⟩ rfl
def eK(k:Nat)(a0:Int)(a1:Int)(a2:Int):Option Bool:=
 ((if a1≤a0 then(some (decide (a0≤a2))) else(some false)):Option (Bool)).bind fun x1=>
 some x1
theorem eW(k:Nat)(a0:Int)(a1:Int)(a2:Int)(r:Bool)(h:eK k a0 a1 a2=some r):
 bZ Tryz.prog 39 [I a0,I a1,I a2] [] (fun _:Unit=>(bp [.eq (.bool r)],[])):=by
 unfold eK at h
 replace h:=ba h
 refine bZ.of 15 Tryz.func39 rfl Tryz.ntmps39 rfl fun S w0=>?_
 refine sr ?_
 refine cq ?_
 refine nt ?_
 refine aJ (Z:=Unit) (α:=Bool) (fun z2 x1=>[(6,.eq (.bool x1))]) (fun z2 x1=>[]) h (fun K h=>?_) (fun z2 x1 h=>?_)
 ·
  refine ab (au ?_);refine jb (uH rfl) ?_;refine mq ?_;refine bY (s:=10) rfl (fun hb=>?_) (fun hb=>?_)
  ·replace h:=cF (oe hb) h;refine au ?_;refine gb (uH rfl) ?_;refine au ?_;exact jz ((),decide (a0≤a2)) h []
  ·replace h:=bM (nr hb) h;refine au ?_;exact jz ((),false) h []
 ·
  refine bJ ?_;cases h;exact ra
def di(k:Nat)(a0:aQ)(a1:gq):Nat→Int→Option (Except Int Unit)
 |0,_=>none
 |n+1,y6=>
  if y6 < (a1.2.length:Int) then((aP a1.2 y6).bind fun x8=>
  (ck (a0.1 - 1)).bind fun x9=>
  (eK k x8 0 x9).bind fun l=>
  if¬(l=true) then(some (.error 1)) else(((if 0 < y6 then((ck (y6 - 1)).bind fun h=>
  (aP a1.2 h).bind fun e=>
  some (decide (x8≤e))) else(some false)):Option (Bool)).bind fun j=>
  if j=true then(some (.error 5)) else((ck (y6+1)).bind fun c=>
  di k a0 a1 n c))) else(some (.ok ()))
def iM(k:Nat)(a0:aQ)(a1:gq):Option Int:=
 (eK k a1.1 1 3).bind fun r3=>
 if¬(r3=true) then(some 1) else(bE (α:=Unit) (di k a0 a1 k 0) (some) fun _=>
 some 0)
theorem sC(k:Nat)(a0:aQ)(a1:gq)(r:Int)(h:iM k a0 a1=some r):
 bZ Tryz.prog 65 [.rep an a0,.rep aK a1] [] (fun _:Unit=>(bp [I r],[])):=by
 unfold iM at h
 replace h:=ba h
 refine bZ.of 38 Tryz.func65 rfl Tryz.ntmps65 rfl fun S w0=>?_
 refine sr ?_
 refine bx fun b1=>?_
 refine bx fun b2=>?_
 refine au ?_
 refine fl kO ?_
 refine lo cC ?_
 obtain⟨r3,O,h⟩:=aa h
 have Q:=eW k a1.1 1 3 r3 O
 refine jc (ao [.tmp 8,.const (.int .i64 (1)),.const (.int .i64 (3))] rfl rfl Bq rfl Q) ?_
 refine ja (eF rfl) ?_
 refine nt ?_
 refine cw h (fun h=>?_) (fun h=>?_)
 ·
  refine au ?_;cases h;exact ra
 ·
  refine sk (dK (Z:=Unit) (α:=Unit) (fun z5 x4=>[]) (fun z5 x4=>[]) (fun e=>e=r) h (fun e h=>Option.some.inj h) (fun K hR h=>?_) (fun z5 x4 h=>?_))
  ·refine sr (fl kN ?_);refine lo bN ?_;refine ol dB ?_;refine eI rfl ?_;refine nt (aj (aH (fun z7 y6=>[(2,Pt b1),(3,Pt b2),(12,Ri a1.2),(13,I (a1.2.length:Int)),(14,I y6)]) (fun z7 y6=>[.obj b1 25 (.rep an a0),.obj b2 27 (.rep aK a1)]) (di k a0 a1) k () 0 (fun _=>rfl) h (SE.fin [1,0] ⟨rfl,rfl,rfl,rfl,rfl,trivial⟩ rfl) (fun n z7 y6 h=>?_)));unfold di at h;refine sr (jb (bj rfl) ?_);refine au ?_;refine ci h (fun h=>?_) (fun h=>?_)
   ·refine au ?_;refine aj (au ?_);obtain⟨x8,M,h⟩:=aa h;refine jb (aG (t:=(.int .i64)) rfl dB cC M) ?_;refine ja (ak (t:=(.int .i64)) rfl cC rfl) ?_;refine au ?_;refine fl gR ?_;refine lo cC ?_;obtain⟨x9,J,h⟩:=aa h;refine jb (eY rfl J) ?_;obtain⟨F,y,h⟩:=aa h;refine jc (ao [.tmp 19,.const (.int .i64 (0)),.tmp 22] rfl rfl Bq rfl (eW k x8 0 x9 F y)) ?_;refine ja (eF rfl) ?_;refine nt (cw h (fun h=>?_) (fun h=>?_))
    ·refine au ?_;obtain rfl:=hR _ h;exact ra
    ·refine sk (aJ (Z:=Unit) (α:=Bool) (fun j c=>[(2,Pt b1),(3,Pt b2),(12,Ri a1.2),(13,I (a1.2.length:Int)),(14,I y6),(36,.eq (.bool c))]) (fun j c=>[.obj b1 25 (.rep an a0),.obj b2 27 (.rep aK a1)]) h (fun K h=>?_) (fun j c h=>?_))
     ·refine ab (mq ?_);refine jb (i7 rfl) ?_;refine mq ?_;refine bY (s:=27) rfl (fun hb=>?_) (fun hb=>?_)
      ·replace h:=cF (oe hb) h;refine gm ?_;refine ga (av rfl kN) ?_;refine fr 1 ?_;refine gi rfl rfl rfl rfl rfl rfl (ah rfl bN jw rfl) ⟨rfl,trivial⟩ ?_;refine gm ?_;obtain⟨U,x,h⟩:=aa h;refine gb (eY rfl x) ?_;obtain⟨E,u,h⟩:=aa h;refine gb (aG (t:=(.int .i64)) rfl dB cC u) ?_;refine ga (ak (t:=(.int .i64)) rfl cC rfl) ?_;refine gb (uH rfl) ?_;refine au ?_;exact jz ((),decide (x8≤E)) h [1,0]
      ·replace h:=bM (nr hb) h;refine au ?_;exact jz ((),false) h [0,1]
     ·refine cv h (fun h=>?_) (fun h=>?_)
      ·refine au ?_;obtain rfl:=hR _ h;exact ra
      ·refine au ?_;refine ab ?_;obtain⟨D,l,h⟩:=aa h;refine jb (a9 rfl l) ?_;refine au ?_;exact jz ((),D) h [0,1]
   ·refine au ?_;exact jz ((),()) h []
  ·refine au ?_;cases h;exact ra
def fQ(k:Nat)(a0:aQ):Nat→Int→Option (Except Int Unit)
 |0,_=>none
 |n+1,y5=>
  if y5 < (a0.2.1.length:Int) then((aP a0.2.1 y5).bind fun x7=>
  (iM k a0 x7).bind fun r9=>
  if¬(r9=0) then(some (.error r9)) else((ck (y5+1)).bind fun c=>
  fQ k a0 n c)) else(some (.ok ()))
def fP(k:Nat)(a0:aQ):Nat→Int→Option (Except Int Unit)
 |0,_=>none
 |n+1,c=>
  if c < (a0.2.2.length:Int) then((aP a0.2.2 c).bind fun h=>
  (eK k h 0 9).bind fun j=>
  if¬(j=true) then(some (.error 1)) else((ck (c+1)).bind fun e=>
  fP k a0 n e)) else(some (.ok ()))
def kz(k:Nat)(a0:aQ):Option Int:=
 (eK k a0.1 1 6).bind fun r2=>
 if¬(r2=true) then(some 1) else(if 5 < (a0.2.1.length:Int) then(some 6) else(bE (α:=Unit) (fQ k a0 k 0) (some) fun _=>
 if(a0.2.2.length:Int) < 1 then(some 7) else(if 3 < (a0.2.2.length:Int) then(some 6) else(bE (α:=Unit) (fP k a0 k 0) (some) fun _=>
 some 0))))
theorem ow(k:Nat)(a0:aQ)(r:Int)(h:kz k a0=some r):
 bZ Tryz.prog 27 [.rep an a0] [] (fun _:Unit=>(bp [I r],[])):=by
 unfold kz at h
 replace h:=ba h
 refine bZ.of 51 Tryz.func27 rfl Tryz.ntmps27 rfl fun S w0=>?_
 refine sr ?_
 refine bx fun b1=>?_
 refine au ?_
 refine fl gR ?_
 refine lo cC ?_
 obtain⟨r2,U,h⟩:=aa h
 have X:=eW k a0.1 1 6 r2 U
 refine jc (ao [.tmp 10,.const (.int .i64 (1)),.const (.int .i64 (6))] rfl rfl Bq rfl X) ?_
 refine ja (eF rfl) ?_
 refine nt ?_
 refine cw h (fun h=>?_) (fun h=>?_)
 ·
  refine au ?_;cases h;exact ra
 ·
  refine au ?_;refine fl cg ?_;refine lo fR ?_;refine ol nD ?_;refine jb (i7 rfl) ?_;refine nt (ci h (fun h=>?_) (fun h=>?_))
  ·refine au ?_;cases h;exact ra
  ·refine sk (dK (Z:=Unit) (α:=Unit) (fun z4 x3=>[(1,Pt b1)]) (fun z4 x3=>[.obj b1 25 (.rep an a0)]) (fun e=>e=r) h (fun e h=>Option.some.inj h) (fun K hR h=>?_) (fun z4 x3 h=>?_))
   ·refine sr (fl cg ?_);refine lo fR ?_;refine ol nD ?_;refine eI rfl ?_;refine nt (aj (aH (fun z6 y5=>[(1,Pt b1),(18,Rs aK a0.2.1),(19,I (a0.2.1.length:Int)),(20,I y5)]) (fun z6 y5=>[.obj b1 25 (.rep an a0)]) (fQ k a0) k () 0 (fun _=>rfl) h (SE.fin [0] ⟨rfl,rfl,rfl,rfl,trivial⟩ rfl) (fun n z6 y5 h=>?_)));unfold fQ at h;refine sr (jb (bj rfl) ?_);refine au ?_;refine ci h (fun h=>?_) (fun h=>?_)
    ·refine au ?_;refine aj (sr ?_);obtain⟨x7,O,h⟩:=aa h;refine jb (aG (t:=aK) rfl nD ju O) ?_;refine ja (ak (t:=aK) rfl ju rfl) ?_;refine aD rfl rfl rfl (aY rfl vx MU) trivial fun b8=>?_;refine a8 rfl rfl (aX rfl ju rfl rfl rfl) ⟨rfl,rfl,trivial⟩ ?_;refine nt (sr (fr 1 ?_));refine lo du ?_;refine fr 1 ?_;refine lo ju ?_;obtain⟨r9,Q,h⟩:=aa h;refine jb (ao [.tmp 24,.tmp 25] rfl rfl Us rfl (sC k a0 x7 r9 Q)) ?_;refine au ?_;refine jb (iZ rfl) ?_;refine nt (cn h (fun h=>?_) (fun h=>?_))
     ·refine au ?_;obtain rfl:=hR _ h;exact ra
     ·refine au ?_;refine ab ?_;obtain⟨J,y,h⟩:=aa h;refine jb (a9 rfl y) ?_;refine au ?_;exact jz ((),J) h [1]
    ·refine au ?_;exact jz ((),()) h [0]
   ·refine au ?_;refine fl cH ?_;refine lo bN ?_;refine ol dB ?_;refine au ?_;refine aj (au ?_);refine jb (bj rfl) ?_;refine au ?_;refine ci h (fun h=>?_) (fun h=>?_)
    ·refine au ?_;cases h;exact ra
    ·refine au ?_;refine jb (i7 rfl) ?_;refine au ?_;refine ci h (fun h=>?_) (fun h=>?_)
     ·refine au ?_;cases h;exact ra
     ·refine cT (bT (tn (dK (Z:=Unit) (α:=Unit) (fun l s=>[]) (fun l s=>[]) (fun e=>e=r) h (fun e h=>Option.some.inj h) (fun K hR h=>?_) (fun l s h=>?_))))
      ·refine sr (fl cH ?_);refine lo bN ?_;refine ol dB ?_;refine eI rfl ?_;refine nt (aj (aH (fun j c=>[(41,Ri a0.2.2),(42,I (a0.2.2.length:Int)),(43,I c)]) (fun j c=>[]) (fP k a0) k () 0 (fun _=>rfl) h (SE.fin [] ⟨rfl,rfl,rfl,trivial⟩ rfl) (fun n j c h=>?_)));unfold fP at h;refine sr (jb (bj rfl) ?_);refine au ?_;refine ci h (fun h=>?_) (fun h=>?_)
       ·refine au ?_;refine aj (sr ?_);obtain⟨F,x,h⟩:=aa h;refine jb (aG (t:=(.int .i64)) rfl dB cC x) ?_;refine ja (ak (t:=(.int .i64)) rfl cC rfl) ?_;refine au ?_;obtain⟨M,D,h⟩:=aa h;refine jc (ao [.tmp 47,.const (.int .i64 (0)),.const (.int .i64 (9))] rfl rfl Bq rfl (eW k F 0 9 M D)) ?_;refine ja (eF rfl) ?_;refine nt (cw h (fun h=>?_) (fun h=>?_))
        ·refine au ?_;obtain rfl:=hR _ h;exact ra
        ·refine au ?_;refine ab ?_;obtain⟨E,u,h⟩:=aa h;refine jb (a9 rfl u) ?_;refine au ?_;exact jz ((),E) h []
       ·refine au ?_;exact jz ((),()) h []
      ·refine au ?_;cases h;exact ra
def d6(k:Nat)(a0:Int)(a1:Int):Option Bool:=
 (cP (0≤a1)).bind fun _=>
 some (decide ((xu .u8 (iI .u8 a0 a1) 1)=1))
theorem iL(k:Nat)(a0:Int)(a1:Int)(r:Bool)(h:d6 k a0 a1=some r):
 bZ Tryz.prog 41 [.eq (.int .u8 a0),I a1] [] (fun _:Unit=>(bp [.eq (.bool r)],[])):=by
 unfold d6 at h
 replace h:=ba h
 refine bZ.of 10 Tryz.func41 rfl Tryz.ntmps41 rfl fun S w0=>?_
 refine au ?_
 obtain⟨u1,c,h⟩:=aa h
 refine jb (we rfl (ay c)) ?_
 refine jb (QE rfl) ?_
 refine jb (dX rfl) ?_
 refine au ?_
 cases h
 exact ra
def gY(k:Nat)(a0:aQ)(a1:(List Int)):Nat→(Int×Int)→Option Int
 |0,_=>none
 |n+1,y4=>
  if y4.2 < (a1.length:Int) then((aP a1 y4.2).bind fun x6=>
  (aP a0.2.1 x6).bind fun x7=>
  (ck (y4.1+x7.1)).bind fun x8=>
  (ck (y4.2+1)).bind fun x9=>
  gY k a0 a1 n (x8,x9)) else(some y4.1)
def nK(k:Nat)(a0:aQ)(a1:(List Int)):Option Int:=
 ((gY k a0 a1 k (0,0)):Option (Int)).bind fun x2=>
 some x2
theorem uE(k:Nat)(a0:aQ)(a1:(List Int))(r:Int)(h:nK k a0 a1=some r):
 bZ Tryz.prog 68 [.rep an a0,Ri a1] [] (fun _:Unit=>(bp [I r],[])):=by
 unfold nK at h
 replace h:=ba h
 refine bZ.of 24 Tryz.func68 rfl Tryz.ntmps68 rfl fun S w0=>?_
 refine sr ?_
 refine bx fun b1=>?_
 refine cq ?_
 refine nt ?_
 refine sr ?_
 refine cq ?_
 refine nt ?_
 refine aJ (Z:=Unit) (α:=Int) (fun z3 x2=>[(5,I x2)]) (fun z3 x2=>[]) h (fun K h=>?_) (fun z3 x2 h=>?_)
 ·
  refine au ?_;refine ol dB ?_;refine eI rfl ?_;refine nt (aj (aH (fun z5 y4=>[(2,Pt b1),(5,I y4.1),(8,Ri a1),(9,I (a1.length:Int)),(10,I y4.2)]) (fun z5 y4=>[.obj b1 25 (.rep an a0)]) (gY k a0 a1) k () (0,0) (fun _=>rfl) h (SE.fin [0] ⟨rfl,rfl,rfl,rfl,rfl,trivial⟩ rfl) (fun n z5 y4 h=>?_)));unfold gY at h;refine sr (jb (bj rfl) ?_);refine au ?_;refine ci h (fun h=>?_) (fun h=>?_)
  ·refine au ?_;refine aj (sr ?_);obtain⟨x6,l,h⟩:=aa h;refine jb (aG (t:=(.int .i64)) rfl dB cC l) ?_;refine ja (ak (t:=(.int .i64)) rfl cC rfl) ?_;refine au ?_;refine ab (mq ?_);refine fl cg ?_;refine lo fR ?_;refine mq ?_;obtain⟨x7,j,h⟩:=aa h;refine jb (aG (t:=aK) rfl nD ju j) ?_;refine ja (aI 1 false rfl kO rfl) ?_;refine ja (ak (t:=(.int .i64)) rfl cC rfl) ?_;obtain⟨x8,e,h⟩:=aa h;refine jb (a9 rfl e) ?_;refine au ?_;refine ab ?_;obtain⟨x9,c,h⟩:=aa h;refine jb (a9 rfl c) ?_;refine au ?_;exact jz ((),(x8,x9)) h [0]
  ·refine au ?_;exact jz ((),y4.1) h []
 ·
  refine au ?_;cases h;exact ra
def dZ(k:Nat)(a0:Int)(a1:Int):Option Int:=
 (cP (0≤a1)).bind fun _=>
 some (EJ .u8 a0 (np .u8 1 a1))
theorem jG(k:Nat)(a0:Int)(a1:Int)(r:Int)(h:dZ k a0 a1=some r):
 bZ Tryz.prog 69 [.eq (.int .u8 a0),I a1] [] (fun _:Unit=>(bp [.eq (.int .u8 r)],[])):=by
 unfold dZ at h
 replace h:=ba h
 refine bZ.of 9 Tryz.func69 rfl Tryz.ntmps69 rfl fun S w0=>?_
 refine au ?_
 obtain⟨u1,c,h⟩:=aa h
 refine jb (HY rfl (ay c)) ?_
 refine jb (QC rfl) ?_
 refine au ?_
 cases h
 exact ra
def eR(k:Nat)(a0:aQ)(x8:(List Int)):Nat→(Int×Int)→Option (Except Value Int)
 |0,_=>none
 |n+1,c=>
  if c.2 < (x8.length:Int) then((aP x8 c.2).bind fun e=>
  (ck ((a0.2.1.length:Int) - 1)).bind fun j=>
  (eK k e 0 j).bind fun s=>
  if¬(s=true) then(some (.error (.iface 139 (.agg #[.int .i64 3])))) else((d6 k c.1 e).bind fun r=>
  if r=true then(some (.error (.iface 139 (.agg #[.int .i64 4])))) else((dZ k c.1 e).bind fun l=>
  (ck (c.2+1)).bind fun h=>
  eR k a0 x8 n (l,h)))) else(some (.ok c.1))
def fO(k:Nat)(a0:aQ)(a1:(List (List Int))):Nat→(Int×Int)→Option (Except Value Int)
 |0,_=>none
 |n+1,y4=>
  if y4.2 < (a1.length:Int) then(bE (α:=Int) ((aP a1 y4.2).bind fun x8=>
  bE (α:=Int) (eR k a0 x8 k (y4.1,0)) (fun e=>some (.error e)) fun x9=>
  (nK k a0 x8).bind fun j=>
  (aP a0.2.2 y4.2).bind fun h=>
  if h < j then(some (.error (.iface 139 (.agg #[.int .i64 12])))) else(some (.ok x9))) (fun e=>some (.error e)) fun x6=>
  (ck (y4.2+1)).bind fun c=>
  fO k a0 a1 n (x6,c)) else(some (.ok y4.1))
def lU(k:Nat)(a0:aQ)(a1:(List (List Int))):Option Value:=
 if(a1.length:Int) < (a0.2.2.length:Int) then(some (.iface 139 (.agg #[.int .i64 7]))) else(if(a0.2.2.length:Int) < (a1.length:Int) then(some (.iface 139 (.agg #[.int .i64 6]))) else(bE (α:=Int) (fO k a0 a1 k (0,0)) (some) fun x2=>
 (cP (0≤(a0.2.1.length:Int))).bind fun _=>
 if¬(x2=(IntKind.u8.wrap ((np .u8 1 (a0.2.1.length:Int)) - 1))) then(some (.iface 139 (.agg #[.int .i64 7]))) else(some (.nilIface))))
theorem sw(k:Nat)(a0:aQ)(a1:(List (List Int)))(r:Value)(h:lU k a0 a1=some r):
 bZ Tryz.prog 75 [.rep an a0,.rep (.slice (.slice (.int .i64))) a1] [] (fun _:Unit=>(bp [.eq r],[])):=by
 unfold lU at h
 replace h:=ba h
 refine bZ.of 80 Tryz.func75 rfl Tryz.ntmps75 rfl fun S w0=>?_
 refine sr ?_
 refine bx fun b1=>?_
 refine au ?_
 refine fl cH ?_
 refine lo bN ?_
 refine ol dB ?_
 refine au ?_
 refine aj ?_
 refine au ?_
 refine ol oh ?_
 refine mq ?_
 refine jb (bj rfl) ?_
 refine au ?_
 refine ci h (fun h=>?_) (fun h=>?_)
 ·
  refine sr (ja (c9 [(0,.const (.int .i64 (7)),_)] rfl xK vy ux (iN ⟨rfl,trivial⟩) rfl) ?_);refine ja (nU rfl GM) ?_;refine au ?_;cases h;exact ra
 ·
  refine au ?_;refine ol oh ?_;refine mq ?_;refine jb (i7 rfl) ?_;refine au ?_;refine ci h (fun h=>?_) (fun h=>?_)
  ·refine sr (ja (c9 [(0,.const (.int .i64 (6)),_)] rfl xK vy ux (iN ⟨rfl,trivial⟩) rfl) ?_);refine ja (nU rfl GM) ?_;refine au ?_;cases h;exact ra
  ·refine cT (bT (tn (sr (cq (nt ?_)))));refine dK (Z:=Unit) (α:=Int) (fun z3 x2=>[(2,Pt b1),(6,.eq (.int .u8 x2))]) (fun z3 x2=>[.obj b1 25 (.rep an a0)]) (fun e=>e=r) h (fun e h=>Option.some.inj h) (fun K hR h=>?_) (fun z3 x2 h=>?_)
   ·refine au ?_;refine ol oh ?_;refine eI rfl ?_;refine nt (aj (aH (fun z5 y4=>[(2,Pt b1),(6,.eq (.int .u8 y4.1)),(28,.rep (.slice (.slice (.int .i64))) a1),(29,I (a1.length:Int)),(30,I y4.2)]) (fun z5 y4=>[.obj b1 25 (.rep an a0)]) (fO k a0 a1) k () (0,0) (fun _=>rfl) h (SE.fin [0] ⟨rfl,rfl,rfl,rfl,rfl,trivial⟩ rfl) (fun n z5 y4 h=>?_)));unfold fO at h;refine sr (jb (bj rfl) ?_);refine au ?_;refine ci h (fun h=>?_) (fun h=>?_)
    ·refine sk (dK (Z:=Unit) (α:=Int) (fun z7 x6=>[(2,Pt b1),(6,.eq (.int .u8 x6)),(28,.rep (.slice (.slice (.int .i64))) a1),(29,I (a1.length:Int)),(30,I y4.2)]) (fun z7 x6=>[.obj b1 25 (.rep an a0)]) (fun e=>e=r) h (fun e h=>hR e h) (fun K hR h=>?_) (fun z7 x6 h=>?_))
     ·refine aj (au ?_);obtain⟨x8,se,h⟩:=aa h;refine jb (aG (t:=(.slice (.int .i64))) rfl oh bN se) ?_;refine ja (ak (t:=(.slice (.int .i64))) rfl bN rfl) ?_;refine aq ?_;refine aq (nt ?_);refine dK (Z:=Unit) (α:=Int) (fun s x9=>[(2,Pt b1),(6,.eq (.int .u8 x9)),(7,I y4.2),(8,Ri x8),(28,.rep (.slice (.slice (.int .i64))) a1),(29,I (a1.length:Int)),(30,I y4.2)]) (fun s x9=>[.obj b1 25 (.rep an a0)]) (fun e=>e=r) h (fun e h=>hR e h) (fun K hR h=>?_) (fun s x9 h=>?_)
      ·refine au ?_;refine ol dB ?_;refine eI rfl ?_;refine nt (aj (aH (fun l c=>[(2,Pt b1),(6,.eq (.int .u8 c.1)),(7,I y4.2),(8,Ri x8),(28,.rep (.slice (.slice (.int .i64))) a1),(29,I (a1.length:Int)),(30,I y4.2),(35,Ri x8),(36,I (x8.length:Int)),(37,I c.2)]) (fun l c=>[.obj b1 25 (.rep an a0)]) (eR k a0 x8) k () (y4.1,0) (fun _=>rfl) h (SE.fin [0] ⟨rfl,rfl,rfl,rfl,rfl,rfl,rfl,rfl,rfl,rfl,trivial⟩ rfl) (fun n l c h=>?_)));unfold eR at h;refine sr (jb (bj rfl) ?_);refine au ?_;refine ci h (fun h=>?_) (fun h=>?_)
       ·refine au ?_;refine aj (sr ?_);obtain⟨j,F,h⟩:=aa h;refine jb (aG (t:=(.int .i64)) rfl dB cC F) ?_;refine ja (ak (t:=(.int .i64)) rfl cC rfl) ?_;refine au ?_;refine fl cg ?_;refine lo fR ?_;refine ol nD ?_;obtain⟨ac,E,h⟩:=aa h;refine jb (eY rfl E) ?_;obtain⟨qt,U,h⟩:=aa h;refine jc (ao [.tmp 41,.const (.int .i64 (0)),.tmp 45] rfl rfl Bq rfl (eW k j 0 ac qt U)) ?_;refine ja (eF rfl) ?_;refine nt (cw h (fun h=>?_) (fun h=>?_))
        ·refine sr (ja (c9 [(0,.const (.int .i64 (3)),_)] rfl xK vy ux (iN ⟨rfl,trivial⟩) rfl) ?_);refine ja (nU rfl GM) ?_;refine au ?_;obtain rfl:=hR _ h;exact ra
        ·refine au ?_;obtain⟨pp,Q,h⟩:=aa h;refine jb (ao [.tmp 50,.tmp 51] rfl rfl Me rfl (iL k c.1 j pp Q)) ?_;refine nt (cv h (fun h=>?_) (fun h=>?_))
         ·refine sr (ja (c9 [(0,.const (.int .i64 (4)),_)] rfl xK vy ux (iN ⟨rfl,trivial⟩) rfl) ?_);refine ja (nU rfl GM) ?_;refine au ?_;obtain rfl:=hR _ h;exact ra
         ·refine sk (ab (au ?_));obtain⟨u,O,h⟩:=aa h;refine jb (ao [.tmp 55,.tmp 56] rfl rfl L9 rfl (jG k c.1 j u O)) ?_;refine au ?_;refine ab ?_;obtain⟨Y,D,h⟩:=aa h;refine jb (a9 rfl D) ?_;refine au ?_;exact jz ((),(u,Y)) h [0]
       ·refine au ?_;exact jz ((),c.1) h [0]
      ·refine ar (bD ?_);refine ea 0 (ah rfl du (sT) rfl) ?_;refine dm ?_;obtain⟨mc,M,h⟩:=aa h;refine db (ao [.tmp 59,.tmp 60] rfl rfl Ry rfl (uE k a0 x8 mc M)) ?_;refine da (av rfl cH) ?_;refine ea 0 (ah rfl bN jw rfl) ?_;refine dm ?_;obtain⟨VC,y,h⟩:=aa h;refine db (aG (t:=(.int .i64)) rfl dB cC y) ?_;refine da (ak (t:=(.int .i64)) rfl cC rfl) ?_;refine df cG ?_;refine jb (i7 rfl) ?_;refine nt (ci h (fun h=>?_) (fun h=>?_))
       ·refine sr (ja (c9 [(0,.const (.int .i64 (12)),_)] rfl xK vy ux (iN ⟨rfl,trivial⟩) rfl) ?_);refine ja (nU rfl GM) ?_;refine au ?_;obtain rfl:=hR _ h;exact ra
       ·refine au ?_;exact jz ((),x9) h [0]
     ·refine ab ?_;obtain⟨X,x,h⟩:=aa h;refine jb (a9 rfl x) ?_;refine au ?_;exact jz ((),(x6,X)) h [0]
    ·refine au ?_;exact jz ((),y4.1) h [0]
   ·refine au ?_;refine fl cg ?_;refine lo fR ?_;refine ol nD ?_;obtain⟨VD,J,h⟩:=aa h;refine jb (HY rfl (ay J)) ?_;refine jb (HW rfl) ?_;refine jb (iZ rfl) ?_;refine nt (cn h (fun h=>?_) (fun h=>?_))
    ·refine sr (ja (c9 [(0,.const (.int .i64 (7)),_)] rfl xK vy ux (iN ⟨rfl,trivial⟩) rfl) ?_);refine ja (nU rfl GM) ?_;refine au ?_;cases h;exact ra
    ·refine au ?_;cases h;exact ra
def cJ{σ:Type}(k:Nat)(a1:(List Int))(Y:σ→(Int×Int)→Option (σ×Bool)):Nat→(Int×σ)→Option (σ)
 |0,_=>none
 |n+1,y2=>
  if 0≤y2.1 then((aP a1 y2.1).bind fun x4=>
  (Y y2.2 (y2.1,x4)).bind fun r5=>
  if¬(r5.2=true) then(some r5.1) else((ck (y2.1 - 1)).bind fun x7=>
  cJ k a1 Y n (x7,r5.1))) else(some y2.2)
def ic{σ:Type}(k:Nat)(Y:σ→(Int×Int)→Option (σ×Bool))(a1:(List Int))(s0:σ):Option (σ):=
 (ck ((a1.length:Int) - 1)).bind fun x1=>
 cJ k a1 Y k (x1,s0)
theorem pq{M:Md Tryz.prog}{σ Z:Type}(E:Z→σ→List D)(l:Nat)(Y:σ→(Int×Int)→Option (σ×Bool))(k:Nat)(a1:(List Int))(c:Nat)(hY:∀z s p r,Y s p=some r→YT M l [I p.1,I p.2] (E z s) (fun z':Z=>(.eq (.bool r.2),E z' r.1))):
 ∀(z0:Z) (s0:σ) (r:σ),ic k Y a1 s0=some r→dD M 153 [.eq (.func (.yield l) #[] #[]),Pt c] ([.obj c 23 (Ri a1)]++E z0 s0) (fun z:Z=>(bp [],[.obj c 23 (Ri a1)]++E z r)):=by
 intro z0 s0 r h
 unfold ic at h
 replace h:=ba h
 refine dD.of 19 Tryz.func153 rfl Tryz.ntmps153 rfl fun S w0=>?_
 refine sr ?_
 refine lo bN ?_
 refine ol dB ?_
 obtain⟨x1,u,h⟩:=aa h
 refine jb (eY rfl u) ?_
 refine au ?_
 refine aj ?_
 refine aH (Z:=Z) (α:=Int×σ) (fun z3 y2=>[(0,.eq (.func (.yield l) #[] #[])),(1,Pt c),(3,I y2.1)]) (fun z3 y2=>[.obj c 23 (Ri a1)]++E z3 y2.2) (cJ k a1 Y) k z0 (x1,s0) (fun _=>rfl) h (bm [.obj c 23 (Ri a1)] (E z0 s0) [0] ⟨rfl,rfl,rfl,trivial⟩ rfl) (fun n z3 y2 h=>?_)
 unfold cJ at h
 refine au ?_
 refine jb (pg rfl) ?_
 refine nt ?_
 refine ci h (fun h=>?_) (fun h=>?_)
 ·
  refine au ?_;refine aj (au ?_);refine lo bN ?_;refine mq ?_;obtain⟨x4,j,h⟩:=aa h;refine jb (aG (t:=(.int .i64)) rfl dB cC j) ?_;refine ja (ak (t:=(.int .i64)) rfl cC rfl) ?_;obtain⟨r5,x,h⟩:=aa h;refine qx [.obj c 23 (Ri a1)] rfl rfl rfl (yU [.tmp 12,.tmp 16] rfl rfl rfl (hY z3 y2.2 (y2.1,x4) r5 x)) ⟨rfl,rfl,rfl,trivial⟩ fun z6=>?_;refine ja (eF rfl) ?_;refine nt (cw h (fun h=>?_) (fun h=>?_))
  ·refine au ?_;cases h;exact jo z6 [] trivial rfl
  ·refine au ?_;refine ab (mq ?_);obtain⟨x7,e,h⟩:=aa h;refine jb (eY rfl e) ?_;refine au ?_;exact jm (z6,(x7,r5.1)) h (bm [.obj c 23 (Ri a1)] (E z6 r5.1) [0] ⟨rfl,rfl,rfl,trivial⟩ rfl)
 ·
  refine au ?_;refine jE ?_;cases h;exact jo z3 [] trivial rfl
theorem rh(a0:(List Int)):bZ Tryz.prog 134 [Ri a0] [] (fun z:Nat=>(bp [.eq (.func (.func 153) #[] #[(Pv z)])],[.obj z 23 (Ri a0)])):=by
 refine bZ.of 4 Tryz.func134 rfl Tryz.ntmps134 rfl fun S w0=>?_;refine sr (bx fun z=>?_);refine au ?_;refine ja (t6 [] [.tmp 1] [] [(Pv z)] rfl rfl rfl) ?_;refine au ?_;exact aL z [_] 1 ⟨rfl,trivial⟩ rfl
def pC(k:Nat)(a0:(List Int)):Option (List Int):=
 (ic k (mY (fun(y3:(List Int)) (p5:(Int×Int))=>
  some ((p5.2::y3),true))) a0 ([],false)).bind fun r6=>
 if r6.2=true then(none) else(some r6.1)
theorem Af(k:Nat)(a0:(List Int))(r:(List Int))(h:pC k a0=some r):
 bZ Tryz.prog 102 [Ri a0] [] (fun _:Unit=>(bp [.rep (.lst (.int .i64)) r],[])):=by
 unfold pC at h
 replace h:=ba h
 refine zN 15 Tryz.func102 rfl Tryz.ntmps102 rfl fun {M} S w0=>?_
 refine au ?_
 refine aD rfl rfl rfl (aY rfl P7 Sl) trivial fun b1=>?_
 refine au ?_
 refine aD rfl rfl rfl (ao [.tmp 6] rfl rfl RQ rfl (rh a0)) ⟨rfl,trivial⟩ fun b2=>?_
 refine nt ?_
 refine aj ?_
 refine dT 1 rfl ?_
 refine dE (oY (a:=.eq (.pointer none)) (a':=.rep (.lst (.int .i64)) []) (xb .lnil)) ?_
 refine dT 1 rfl ?_
 obtain⟨r6,c,h⟩:=aa h
 refine lS (Δ:=[.obj b2 23 (Ri a0),.obj b1 182 (.rep (.lst (.int .i64)) [])]) (F:=[]) (X:=Unit) (J:=fun _=>G2 r6.2) (E:=fun z4=>[.obj b2 23 (Ri a0),.obj b1 182 (.rep (.lst (.int .i64)) r6.1)]) (r0:=fun _=>.tup .any) rfl rfl RJ (fun rec hp ha hb hs hpe hN hv l=>?_) (fun dl z4=>oy (fun hj=>?_) (fun hj=>?_))
 ·
  rcases rec with⟨st0,pe0,fn0,tm0,ps0,as0,bd0,df0⟩;dsimp only at hp ha hb hs hpe hN hv;subst hp hs hpe;have vN:vf tm0 [(3,Pt b1)]:=⟨congrArg A.eq (hv 3 _ rfl).symm,trivial⟩;refine dD.pick (M:=M) [1,0,2] [1,0,2] (pq (fun(z4:Unit) (q:(List Int)×Bool)=>[.raw l (.loop (jv ⟨.ready,none,fn0,tm0, #[8,9],as0,bd0,df0⟩ (G2 q.2))),.obj b1 182 (.rep (.lst (.int .i64)) q.1)]) l (mY (fun(y3:(List Int)) (p5:(Int×Int))=>
  some ((p5.2::y3),true))) k a0 b2 (fun z4 q p r' h=>?_) () ([],false) r6 c) rfl (fun _=>rfl) (fun _=>rfl)
  obtain⟨rq,hq,h2,rfl⟩:=oz h;obtain⟨y3,b5⟩:=q;obtain rfl:b5=false:=hq;replace h:=ba h2;obtain⟨p5,hpv⟩:∃x,x=p:=⟨_,rfl⟩;subst hpv;refine YT.pick (R':=(fun z4:Unit=>(.eq (.bool rq.2),[.raw l (.loop (jv ⟨.ready,none,fn0,tm0, #[8,9],as0,bd0,df0⟩ (G2 (!rq.2)))),.obj b1 182 (.rep (.lst (.int .i64)) rq.1)]))) [0,1] [0,1] (MZ ha hb (N:=15) (Γ:=[(3,Pt b1)]) rfl hN (by decide) vN (fun S w=>?_)) rfl (fun _=>rfl) (fun _=>rfl);refine ab (au ?_);refine tA rfl rfl ?_;refine aj (ab (mq ?_));refine fr 1 ?_;refine lo An ?_;refine jb (c9 [(0,.tmp 10,_),(1,.tmp 11,_)] rfl Qx P6 PC (iN ⟨rfl,rfl,trivial⟩) rfl) ?_;refine aD rfl rfl rfl (pi rfl trivial) ⟨rfl,trivial⟩ fun b7=>?_;refine co (l8 (t:=Ho) (x:=(p5.2,y3)) [13] (.agg (.pair .int .rep)) ⟨rfl,trivial⟩) ?_;refine a8 rfl rfl (aX rfl An trivial rfl rfl) ⟨rfl,rfl,trivial⟩ ?_;refine ax (bT (bi (oY (a:=.at Ho (p5.2,y3)) (a':=.rep (.lst (.int .i64)) (p5.2::y3)) (xb .lcons)) ?_));refine aW 1 rfl ?_;cases h;exact ma () 1 rfl
 ·
  replace h:=bM (CG hj) h;refine bT (tn (sr (fr 2 ?_)));refine lo An ?_;refine aq (nt (bJ ?_));refine aW 1 rfl ?_;refine tw ?_;cases h;exact ra
 ·
  replace h:=cF (CE hj) h;cases h
def gZ(k:Nat)(a1:Int):Nat→(Int×(List Int)×(List Int)×(List Int))→Option (Int×(List Int))
 |0,_=>none
 |n+1,y2=>
  if List.isEmpty y2.2.2.2=true then((cP (bq (List.length y2.2.2.1+List.length y2.2.1))).bind fun _=>
  some (y2.1,y2.2.2.1++y2.2.1)) else((pA y2.2.2.2).bind fun x6=>
  (d6 k a1 x6.1).bind fun r7=>
  if r7=true then((pA y2.2.2.2).bind fun x8=>
  (cP (bq (List.length y2.2.1+List.length [x8.1]))).bind fun _=>
  (pA y2.2.2.2).bind fun l=>
  gZ k a1 n (y2.1,y2.2.1++[x8.1],y2.2.2.1,l.2)) else(((if 0 < (y2.2.1.length:Int) then((pA y2.2.2.2).bind fun h=>
  (dZ k y2.1 h.1).bind fun r=>
  some r) else(some y2.1)):Option (Int)).bind fun j=>
  (pA y2.2.2.2).bind fun c=>
  (cP (bq (List.length y2.2.2.1+List.length [c.1]))).bind fun _=>
  (pA y2.2.2.2).bind fun e=>
  gZ k a1 n (j,y2.2.1,y2.2.2.1++[c.1],e.2)))
def nL(k:Nat)(a0:(List Int))(a1:Int):Option (Int×(List Int)):=
 (pC k a0).bind fun r1=>
 gZ k a1 k (0,([]:(List Int)),([]:(List Int)),r1)
theorem uF(k:Nat)(a0:(List Int))(a1:Int)(r:Int×(List Int))(h:nL k a0 a1=some r):
 bZ Tryz.prog 76 [Ri a0,.eq (.int .u8 a1)] [] (fun _:Unit=>(bp [.eq (.int .u8 r.1),Ri r.2],[])):=by
 unfold nL at h
 replace h:=ba h
 refine bZ.of 54 Tryz.func76 rfl Tryz.ntmps76 rfl fun S w0=>?_
 refine au ?_
 refine yy rfl (oV (by kernel_rfl) (oV (by kernel_rfl) (Ji Jh))) ?_
 refine au ?_
 obtain⟨r1,mc,h⟩:=aa h
 have pp:=Af k a0 r1 mc
 refine ja (ao [.tmp 9] rfl rfl RY rfl pp) ?_
 refine au ?_
 refine BX ?_
 refine tn ?_
 refine dE (SE.nil 3 (.int .i64)) ?_
 refine dE (SE.nil 3 (.int .i64)) ?_
 refine Ec (Z:=Value×Value) (α:=Int×(List Int)×(List Int)×(List Int)) rfl (fun z3 y2=>[(1,.eq (.int .u8 a1)),(4,.eq (.int .u8 y2.1)),(6,.eq z3.1),(7,.eq z3.2),(8,.rep (.lst (.int .i64)) y2.2.2.2)]) (fun z3 y2=>[.sl z3.1 3 (.int .i64) y2.2.1,.sl z3.2 3 (.int .i64) y2.2.2.1]) (gZ k a1) k ((.slice none 0 0),(.slice none 0 0)) (0,([]:(List Int)),([]:(List Int)),r1) (fun _=>rfl) h (SE.fin [1,0] ⟨rfl,rfl,rfl,rfl,rfl,trivial⟩ rfl) (fun n z3 y2 h=>?_)
 unfold gZ at h
 refine au ?_
 refine jb (H6 rfl UY) ?_
 refine nt ?_
 refine cv h (fun h=>?_) (fun h=>?_)
 ·
  refine sr ?_;iterate 3 refine mq ?_
  refine co (dh [6,15] ⟨rfl,rfl,trivial⟩) ?_;obtain⟨u4,Y,h⟩:=aa h;refine cp rfl rfl rfl (be rfl rfl de (ay Y)) ⟨rfl,rfl,trivial⟩ fun v5=>?_;refine au ?_;refine tz ?_;refine bi (dh [5,16] ⟨rfl,rfl,trivial⟩) ?_;cases h;exact rb
 ·
  refine au ?_;obtain⟨x6,U,h⟩:=aa h;refine ja (lY rfl U) ?_;refine ja (aI 1 false rfl vt rfl) ?_;refine ja (ak (t:=(.int .i64)) rfl cC rfl) ?_;obtain⟨r7,ac,h⟩:=aa h;refine jb (ao [.tmp 17,.tmp 21] rfl rfl Me rfl (iL k a1 x6.1 r7 ac)) ?_;refine nt (cv h (fun h=>?_) (fun h=>?_))
  ·refine au ?_;obtain⟨x8,Q,h⟩:=aa h;refine ja (lY rfl Q) ?_;refine ja (aI 1 false rfl vt rfl) ?_;refine ja (ak (t:=(.int .i64)) rfl cC rfl) ?_;refine ja (bh (t:=(.int .i64)) [(.tmp 27,_)] [x8.1] rfl rfl de (.cons rfl .int .nil) rfl rfl) ?_;obtain⟨u9,X,h⟩:=aa h;refine cp rfl rfl rfl (be rfl rfl de (ay X)) ⟨rfl,rfl,trivial⟩ fun O=>?_;refine au ?_;obtain⟨J,y,h⟩:=aa h;refine ja (lY rfl y) ?_;refine ja (aI 1 false rfl EP rfl) ?_;refine ja (ak (t:=(.lst (.int .i64))) rfl An rfl) ?_;refine au ?_;refine Fa ?_;refine GV ?_;exact E8 ((O,z3.2),(y2.1,y2.2.1++[x8.1],y2.2.2.1,J.2)) h (SE.fin [0,1] ⟨rfl,rfl,rfl,rfl,rfl,trivial⟩ rfl)
  ·refine sk (aJ (Z:=Unit) (α:=Int) (fun e c=>[(1,.eq (.int .u8 a1)),(4,.eq (.int .u8 c)),(6,.eq z3.1),(7,.eq z3.2),(8,.rep (.lst (.int .i64)) y2.2.2.2)]) (fun e c=>[.sl z3.1 3 (.int .i64) y2.2.1,.sl z3.2 3 (.int .i64) y2.2.2.1]) h (fun K h=>?_) (fun e c h=>?_))
   ·refine au ?_;refine ka (cZ rfl rfl dB) ?_;refine jb (i7 rfl) ?_;refine nt (ci h (fun h=>?_) (fun h=>?_))
    ·refine ab (au ?_);obtain⟨I,x,h⟩:=aa h;refine ja (lY rfl x) ?_;refine ja (aI 1 false rfl vt rfl) ?_;refine ja (ak (t:=(.int .i64)) rfl cC rfl) ?_;obtain⟨l,E,h⟩:=aa h;refine jb (ao [.tmp 37,.tmp 41] rfl rfl L9 rfl (jG k y2.1 I.1 l E)) ?_;refine au ?_;exact jz ((),l) h [0,1]
    ·refine au ?_;exact jz ((),y2.1) h [0,1]
   ·refine au ?_;obtain⟨j,u,h⟩:=aa h;refine ja (lY rfl u) ?_;refine ja (aI 1 false rfl vt rfl) ?_;refine ja (ak (t:=(.int .i64)) rfl cC rfl) ?_;refine ja (bh (t:=(.int .i64)) [(.tmp 47,_)] [j.1] rfl rfl de (.cons rfl .int .nil) rfl rfl) ?_;obtain⟨qt,D,h⟩:=aa h;refine fr 1 ?_;refine cp rfl rfl rfl (be rfl rfl de (ay D)) ⟨rfl,rfl,trivial⟩ fun M=>?_;refine au ?_;obtain⟨F,s,h⟩:=aa h;refine ja (lY rfl s) ?_;refine ja (aI 1 false rfl EP rfl) ?_;refine ja (ak (t:=(.lst (.int .i64))) rfl An rfl) ?_;refine au ?_;refine Fa ?_;exact E8 ((z3.1,M),(c,y2.2.1,y2.2.2.1++[j.1],F.2)) h (SE.fin [1,0] ⟨rfl,rfl,rfl,rfl,rfl,trivial⟩ rfl)
def dw(k:Nat)(a0:(List Int))(a1:Int):Nat→Int→Option (Except Int Unit)
 |0,_=>none
 |n+1,y3=>
  if y3 < (a0.length:Int) then((aP a0 y3).bind fun x5=>
  if a1=x5 then(some (.error y3)) else((ck (y3+1)).bind fun x6=>
  dw k a0 a1 n x6)) else(some (.ok ()))
def jA(k:Nat)(a0:(List Int))(a1:Int):Option Int:=
 bE (α:=Unit) (dw k a0 a1 k 0) (some) fun _=>
 some (-1:Int)
theorem tU(k:Nat)(a0:(List Int))(a1:Int)(r:Int)(h:jA k a0 a1=some r):
 bZ Tryz.prog 135 [Ri a0,I a1] [] (fun _:Unit=>(bp [I r],[])):=by
 unfold jA at h
 replace h:=ba h
 refine bZ.of 19 Tryz.func135 rfl Tryz.ntmps135 rfl fun S w0=>?_
 refine sr ?_
 refine cq ?_
 refine nt ?_
 refine dK (Z:=Unit) (α:=Unit) (fun z2 x1=>[]) (fun z2 x1=>[]) (fun e=>e=r) h (fun e h=>Option.some.inj h) (fun K hR h=>?_) (fun z2 x1 h=>?_)
 ·
  refine au ?_;refine ol dB ?_;refine eI rfl ?_;refine nt (aj (aH (fun z4 y3=>[(0,Ri a0),(1,I a1),(7,I (a0.length:Int)),(8,I y3)]) (fun z4 y3=>[]) (dw k a0 a1) k () 0 (fun _=>rfl) h (SE.fin [] ⟨rfl,rfl,rfl,rfl,trivial⟩ rfl) (fun n z4 y3 h=>?_)));unfold dw at h;refine sr (jb (bj rfl) ?_);refine au ?_;refine ci h (fun h=>?_) (fun h=>?_)
  ·refine au ?_;refine aj (au ?_);obtain⟨x5,j,h⟩:=aa h;refine jb (aG (t:=(.int .i64)) rfl dB cC j) ?_;refine ja (ak (t:=(.int .i64)) rfl cC rfl) ?_;refine jb (dX rfl) ?_;refine nt (ci h (fun h=>?_) (fun h=>?_))
   ·refine au ?_;obtain rfl:=hR _ h;exact ra
   ·refine au ?_;refine ab ?_;obtain⟨x6,c,h⟩:=aa h;refine jb (a9 rfl c) ?_;refine au ?_;exact jz ((),x6) h []
  ·refine au ?_;exact jz ((),()) h []
 ·
  refine au ?_;cases h;exact ra
def gG(k:Nat)(a0:(List Int))(a1:Int):Option Bool:=
 (jA k a0 a1).bind fun r1=>
 some (decide (0≤r1))
theorem rc(k:Nat)(a0:(List Int))(a1:Int)(r:Bool)(h:gG k a0 a1=some r):
 bZ Tryz.prog 103 [Ri a0,I a1] [] (fun _:Unit=>(bp [.eq (.bool r)],[])):=by
 unfold gG at h
 replace h:=ba h
 refine bZ.of 9 Tryz.func103 rfl Tryz.ntmps103 rfl fun S w0=>?_
 refine au ?_
 obtain⟨r1,c,h⟩:=aa h
 have e:=tU k a0 a1 r1 c
 refine jb (ao [.tmp 5,.tmp 6] rfl rfl RP rfl e) ?_
 refine jb (pg rfl) ?_
 refine au ?_
 cases h
 exact ra
def fh(k:Nat)(a0:dr)(a1:Int):Nat→(Int×Int)→Option Int
 |0,_=>none
 |n+1,y3=>
  if y3.2 < (a0.1.2.1.length:Int) then((((aP a0.1.2.1 y3.2).bind fun x7=>
  (gG k x7.2 a1).bind fun r9=>
  if r9=true then((dZ k y3.1 y3.2).bind fun e=>
  some e) else(some y3.1)):Option (Int)).bind fun x5=>
  (ck (y3.2+1)).bind fun c=>
  fh k a0 a1 n (x5,c)) else(some y3.1)
def iq(k:Nat)(a0:dr)(a1:Int):Option Int:=
 ((fh k a0 a1 k (0,0)):Option (Int)).bind fun x1=>
 some x1
theorem nJ(k:Nat)(a0:dr)(a1:Int)(r:Int)(h:iq k a0 a1=some r):
 bZ Tryz.prog 77 [.at bH a0,I a1] [] (fun _:Unit=>(bp [.eq (.int .u8 r)],[])):=by
 unfold iq at h
 replace h:=ba h
 refine bZ.of 28 Tryz.func77 rfl Tryz.ntmps77 rfl fun S w0=>?_
 refine sr ?_
 refine cq ?_
 refine nt ?_
 refine sr ?_
 refine cq ?_
 refine nt ?_
 refine aJ (Z:=Unit) (α:=Int) (fun z2 x1=>[(5,.eq (.int .u8 x1))]) (fun z2 x1=>[]) h (fun K h=>?_) (fun z2 x1 h=>?_)
 ·
  refine au ?_;refine ja (dR rfl) ?_;refine ja (aI 3 true rfl km rfl) ?_;refine ja (aI 1 false rfl cg rfl) ?_;refine ja (ak (t:=(.slice aK)) rfl fR rfl) ?_;refine ol nD ?_;refine eI rfl ?_;refine nt (aj (aH (fun z4 y3=>[(1,I a1),(5,.eq (.int .u8 y3.1)),(12,Rs aK a0.1.2.1),(13,I (a0.1.2.1.length:Int)),(14,I y3.2)]) (fun z4 y3=>[]) (fh k a0 a1) k () (0,0) (fun _=>rfl) h (SE.fin [] ⟨rfl,rfl,rfl,rfl,rfl,trivial⟩ rfl) (fun n z4 y3 h=>?_)));unfold fh at h;refine sr (jb (bj rfl) ?_);refine au ?_;refine ci h (fun h=>?_) (fun h=>?_)
  ·refine sk (aJ (Z:=Unit) (α:=Int) (fun z6 x5=>[(1,I a1),(5,.eq (.int .u8 x5)),(12,Rs aK a0.1.2.1),(13,I (a0.1.2.1.length:Int)),(14,I y3.2)]) (fun z6 x5=>[]) h (fun K h=>?_) (fun z6 x5 h=>?_))
   ·refine aj (au ?_);obtain⟨x7,s,h⟩:=aa h;refine jb (aG (t:=aK) rfl nD ju s) ?_;refine ja (ak (t:=aK) rfl ju rfl) ?_;refine aD rfl rfl rfl (aY rfl vx MU) trivial fun b8=>?_;refine aq ?_;refine a8 rfl rfl (aX rfl ju rfl rfl rfl) ⟨rfl,rfl,trivial⟩ ?_;refine au ?_;refine fl kN ?_;refine lo bN ?_;refine mq ?_;obtain⟨r9,u,h⟩:=aa h;refine jb (ao [.tmp 20,.tmp 21] rfl rfl RX rfl (rc k x7.2 a1 r9 u)) ?_;refine nt (cv h (fun h=>?_) (fun h=>?_))
    ·refine ab (au ?_);obtain⟨c,j,h⟩:=aa h;refine jb (ao [.tmp 23,.tmp 24] rfl rfl L9 rfl (jG k y3.1 y3.2 c j)) ?_;refine au ?_;exact jz ((),c) h []
    ·refine au ?_;exact jz ((),y3.1) h []
   ·refine ab ?_;obtain⟨l,e,h⟩:=aa h;refine jb (a9 rfl e) ?_;refine au ?_;exact jz ((),(x5,l)) h []
  ·refine au ?_;exact jz ((),y3.1) h []
 ·
  refine au ?_;cases h;exact ra
def jF(k:Nat)(a0:dr)(a1:(List (List Int)))(a2:Int):Nat→(Int×(List (List Int))×Int)→Option (Int×(List (List Int)))
 |0,_=>none
 |n+1,y5=>
  if y5.2.2 < 3 then((d3 k a1 y5.2.2).bind fun r7=>
  (iq k a0 a2).bind fun r8=>
  (nL k r7 r8).bind fun r9=>
  (cP (bq (List.length y5.2.1+List.length [r9.2]))).bind fun _=>
  (ck (y5.2.2+1)).bind fun c=>
  jF k a0 a1 a2 n (EJ .u8 y5.1 r9.1,y5.2.1++[r9.2],c)) else(some (y5.1,y5.2.1))
def lL(k:Nat)(a0:dr)(a1:(List (List Int)))(a2:Int):Option (Int×(List (List Int))):=
 ((jF k a0 a1 a2 k (0,([]:(List (List Int))),0)):Option (Int×(List (List Int)))).bind fun x3=>
 (dN k x3.2).bind fun c=>
 some (x3.1,c)
theorem o6(k:Nat)(a0:dr)(a1:(List (List Int)))(a2:Int)(r:Int×(List (List Int)))(h:lL k a0 a1 a2=some r):
 bZ Tryz.prog 40 [.at bH a0,.rep (.arr 3 (.arr 5 (.int .i64))) a1,I a2] [] (fun _:Unit=>(bp [.eq (.int .u8 r.1),.rep (.arr 3 (.arr 5 (.int .i64))) r.2],[])):=by
 unfold lL at h
 replace h:=ba h
 refine bZ.of 37 Tryz.func40 rfl Tryz.ntmps40 rfl fun S w0=>?_
 refine sr ?_
 refine bx fun b1=>?_
 refine cq ?_
 refine aD rfl rfl rfl (aY rfl rF sd) trivial fun b2=>?_
 refine nt ?_
 refine sr ?_
 refine cq ?_
 refine nt ?_
 refine sr ?_
 refine cq ?_
 refine nt ?_
 refine aJ (Z:=Value) (α:=Int×(List (List Int))) (fun z4 x3=>[(7,Pt b2),(8,.eq (.int .u8 x3.1)),(9,.eq z4)]) (fun z4 x3=>[.obj b2 70 (.rep (.arr 3 (.arr 5 (.int .i64))) [[0,0,0,0,0],[0,0,0,0,0],[0,0,0,0,0]]),.sl z4 23 (.slice (.int .i64)) x3.2]) h (fun K h=>?_) (fun z4 x3 h=>?_)
 ·
  refine sr (eI rfl ?_);refine nt (aj (dE (SE.nil 23 (.slice (.int .i64))) ?_));refine aH (fun z6 y5=>[(0,.at bH a0),(2,I a2),(4,Pt b1),(7,Pt b2),(8,.eq (.int .u8 y5.1)),(9,.eq z6),(13,I y5.2.2)]) (fun z6 y5=>[.obj b1 70 (.rep (.arr 3 (.arr 5 (.int .i64))) a1),.obj b2 70 (.rep (.arr 3 (.arr 5 (.int .i64))) [[0,0,0,0,0],[0,0,0,0,0],[0,0,0,0,0]]),.sl z6 23 (.slice (.int .i64)) y5.2.1]) (jF k a0 a1 a2) k (.slice none 0 0) (0,([]:(List (List Int))),0) (fun _=>rfl) h (SE.fin [2,1,0] ⟨rfl,rfl,rfl,rfl,rfl,rfl,rfl,trivial⟩ rfl) (fun n z6 y5 h=>?_);unfold jF at h;refine sr (jb (bj rfl) ?_);refine au ?_;refine ci h (fun h=>?_) (fun h=>?_)
  ·refine au ?_;refine aj (au ?_);refine lo ft ?_;refine mq ?_;obtain⟨r7,D,h⟩:=aa h;refine jb (ao [.tmp 17,.tmp 18] rfl rfl Mc rfl (gC k a1 y5.2.2 r7 D)) ?_;refine au ?_;obtain⟨r8,y,h⟩:=aa h;refine jb (ao [.tmp 20,.tmp 21] rfl rfl Um rfl (nJ k a0 a2 r8 y)) ?_;obtain⟨r9,x,h⟩:=aa h;refine jb (ao [.tmp 19,.tmp 22] rfl rfl Un rfl (uF k r7 r8 r9 x)) ?_;refine au ?_;refine jb (QC rfl) ?_;refine au ?_;refine ab (au ?_);refine ja (bh (t:=(.slice (.int .i64))) [(.tmp 30,_)] [r9.2] rfl rfl lD (.cons rfl .rep .nil) rfl rfl) ?_;obtain⟨E,j,h⟩:=aa h;refine fr 2 ?_;refine cp rfl rfl rfl (be rfl rfl lD (ay j)) ⟨rfl,rfl,trivial⟩ fun u=>?_;refine au ?_;refine ab ?_;obtain⟨s,e,h⟩:=aa h;refine jb (a9 rfl e) ?_;refine au ?_;exact jz (u,(EJ .u8 y5.1 r9.1,y5.2.1++[r9.2],s)) h [1,2,0]
  ·refine au ?_;exact jz (z6,(y5.1,y5.2.1)) h [1,2]
 ·
  refine sr ?_;iterate 2 refine mq ?_
  obtain⟨c,l,h⟩:=aa h;refine fr 1 ?_;refine ka (D9 (N:=[(.tmp 35,.eq z4)]) (ao [.tmp 35] rfl rfl D3 rfl (eh k x3.2 c l)) (fun _ _ _ hv hn=>⟨(lend hn.1 hv),trivial⟩) (fun _=>⟨rfl,Jg⟩)) ?_;refine aq ?_;refine fr 1 ?_;refine a8 rfl rfl (aX rfl ft rfl rfl rfl) ⟨rfl,rfl,trivial⟩ ?_;refine au ?_;cases h;exact aL () [_,.rep (.arr 3 (.arr 5 (.int .i64))) c] 0 ⟨rfl,⟨_,_,_,_,_,rfl,(.head _),ft,(sT),rfl⟩,trivial⟩ rfl
def ln(k:Nat)(a0:(List Int)):Option aQ:=
 ((if(a0.length:Int)=0 then(some [3,2]) else(some a0)):Option ((List Int))).bind fun x2=>
 some (3,[(1,[0,2]),(1,[1]),(2,[2]),(1,[0,1])],x2)
theorem jU(k:Nat)(a0:(List Int))(r:aQ)(h:ln k a0=some r):
 bZ Tryz.prog 15 [Ri a0] [] (fun _:Unit=>(bp [.rep an r],[])):=by
 unfold ln at h
 replace h:=ba h
 refine bZ.of 18 Tryz.func15 rfl Tryz.ntmps15 rfl fun S w0=>?_
 refine sr ?_
 refine aD rfl rfl rfl (aY rfl lJ og) trivial fun b1=>?_
 refine nt ?_
 refine aJ (Z:=Unit) (α:=(List Int)) (fun z3 x2=>[(0,Ri x2),(2,Pt b1)]) (fun z3 x2=>[.obj b1 25 (.agg (.pair (I 0) (.pair (.eq (.slice none 0 0)) (.eq (.slice none 0 0)))))]) h (fun K h=>?_) (fun z3 x2 h=>?_)
 ·
  refine au ?_;refine ol dB ?_;refine jb (dX rfl) ?_;refine nt (ci h (fun h=>?_) (fun h=>?_))
  ·refine ab (jb (bh (t:=(.int .i64)) [(.const (.int .i64 (3)),_),(.const (.int .i64 (2)),_)] [3,2] rfl rfl de (.cons rfl .int (.cons rfl .int .nil)) rfl rfl) ?_);refine au ?_;exact jz ((),[3,2]) h [0]
  ·refine au ?_;exact jz ((),a0) h [0]
 ·
  refine sr (jb (bh (t:=(.int .i64)) [(.const (.int .i64 (0)),_),(.const (.int .i64 (2)),_)] [0,2] rfl rfl de (.cons rfl .int (.cons rfl .int .nil)) rfl rfl) ?_);refine jb (c9 [(0,.const (.int .i64 (1)),_),(1,.tmp 7,_)] rfl Dc vx wP (iN ⟨rfl,rfl,trivial⟩) rfl) ?_;refine ja (bh (t:=(.int .i64)) [(.const (.int .i64 (1)),_)] [1] rfl rfl de (.cons rfl .int .nil) rfl rfl) ?_;refine jb (c9 [(0,.const (.int .i64 (1)),_),(1,.tmp 9,_)] rfl Dc vx wP (iN ⟨rfl,rfl,trivial⟩) rfl) ?_;refine ja (bh (t:=(.int .i64)) [(.const (.int .i64 (2)),_)] [2] rfl rfl de (.cons rfl .int .nil) rfl rfl) ?_;refine jb (c9 [(0,.const (.int .i64 (2)),_),(1,.tmp 11,_)] rfl Dc vx wP (iN ⟨rfl,rfl,trivial⟩) rfl) ?_;refine jb (bh (t:=(.int .i64)) [(.const (.int .i64 (0)),_),(.const (.int .i64 (1)),_)] [0,1] rfl rfl de (.cons rfl .int (.cons rfl .int .nil)) rfl rfl) ?_;refine jb (c9 [(0,.const (.int .i64 (1)),_),(1,.tmp 13,_)] rfl Dc vx wP (iN ⟨rfl,rfl,trivial⟩) rfl) ?_;refine aF rfl (bh (t:=aK) [(.tmp 8,_),(.tmp 10,_),(.tmp 12,_),(.tmp 14,_)] [(1,[0,2]),(1,[1]),(2,[2]),(1,[0,1])] rfl rfl CV (.cons trivial (.agg (.pair .int .rep)) (.cons trivial (.agg (.pair .int .rep)) (.cons trivial (.agg (.pair .int .rep)) (.cons trivial (.agg (.pair .int .rep)) .nil)))) rfl rfl) ⟨rfl,rfl,rfl,rfl,trivial⟩ ?_;refine mq ?_;refine jc (c9 [(0,.const (.int .i64 (3)),_),(1,.tmp 15,_),(2,.tmp 16,_)] rfl K0 lJ EX (iN ⟨rfl,rfl,rfl,trivial⟩) rfl) ?_;refine a8 rfl rfl (aX rfl du trivial rfl rfl) ⟨rfl,rfl,trivial⟩ ?_;refine nt (bJ (bi (oY (a:=.agg (.pair (I 3) (.pair (Rs aK [(1,[0,2]),(1,[1]),(2,[2]),(1,[0,1])]) (Ri x2)))) (a':=.rep an (3,[(1,[0,2]),(1,[1]),(2,[2]),(1,[0,1])],x2)) (xb (.agg (.pair .int (.pair .rep .rep))))) ?_));cases h;exact aL () [.rep an (3,[(1,[0,2]),(1,[1]),(2,[2]),(1,[0,1])],x2)] 0 ⟨⟨_,_,_,_,_,rfl,(.head _),du,(sT),rfl⟩,trivial⟩ rfl
def xY(k:Nat):Option (List (List Int)):=
 some [[1,0,3],[2]]
theorem sV(k:Nat)(r:(List (List Int)))(h:xY k=some r):
 bZ Tryz.prog 16 [] [] (fun _:Unit=>(bp [.rep (.slice (.slice (.int .i64))) r],[])):=by
 unfold xY at h
 replace h:=ba h
 refine bZ.of 4 Tryz.func16 rfl Tryz.ntmps16 rfl fun S w0=>?_
 refine au ?_
 refine jc (bh (t:=(.int .i64)) [(.const (.int .i64 (1)),_),(.const (.int .i64 (0)),_),(.const (.int .i64 (3)),_)] [1,0,3] rfl rfl de (.cons rfl .int (.cons rfl .int (.cons rfl .int .nil))) rfl rfl) ?_
 refine ja (bh (t:=(.int .i64)) [(.const (.int .i64 (2)),_)] [2] rfl rfl de (.cons rfl .int .nil) rfl rfl) ?_
 refine jb (bh (t:=(.slice (.int .i64))) [(.tmp 1,_),(.tmp 2,_)] [[1,0,3],[2]] rfl rfl lD (.cons rfl .rep (.cons rfl .rep .nil)) rfl rfl) ?_
 refine au ?_
 cases h
 exact ra
def bU{σ:Type}(k:Nat)(a0:(List (List Int)))(a1:Int)(a2:Int)(a3:dr)(self:(List (List Int))→Int→Int→σ→Option (Bool×σ))(h:(List Int)):Nat→(Int×σ)→Option (Except (Bool×σ) (σ))
 |0,_=>none
 |n+1,c=>
  if c.1 < (a3.1.2.1.length:Int) then(bE (α:=σ) ((aP a3.1.2.1 c.1).bind fun y=>
  (((d6 k a2 c.1).bind fun I=>
  if I=true then(some (true,c.2)) else((nK k a3.1 h).bind fun F=>
  (ck (F+y.1)).bind fun x=>
  (aP a3.1.2.2 a1).bind fun u=>
  some (decide (u < x),c.2))):Option (Bool×σ)).bind fun j=>
  if j.1=true then(some (.ok j.2)) else((cP (0≤a1∧a1 < 3)).bind fun _=>
  (aP a0 a1).bind fun s=>
  (cP (0≤(h.length:Int)∧(h.length:Int) < 5)).bind fun _=>
  (dZ k a2 c.1).bind fun E=>
  (self (List.set a0 (Int.toNat a1) (List.set s (Int.toNat (h.length:Int)) c.1)) a1 E j.2).bind fun l=>
  if¬(l.1=true) then(some (.error (false,l.2))) else(some (.ok l.2)))) (fun e=>some (.error e)) fun D=>
  (ck (c.1+1)).bind fun r=>
  bU k a0 a1 a2 a3 self h n (r,D)) else(some (.ok c.2))
def bQ{σ:Type}(k:Nat)(Y:σ→(List (List Int))→Option (σ×Bool))(a3:dr):Nat→(List (List Int))→Int→Int→σ→Option (Bool×σ)
 |0,_,_,_,_=>none
 |m0+1,a0,a1,a2,s0=>
  if a1=(a3.1.2.2.length:Int) then((((cP (0≤(a3.1.2.1.length:Int))).bind fun _=>
  if¬(a2=(IntKind.u8.wrap ((np .u8 1 (a3.1.2.1.length:Int)) - 1))) then(some (true,s0)) else((Y s0 a0).bind fun r5=>
  some (r5.2,r5.1))):Option (Bool×σ)).bind fun x2=>
  some (x2.1,x2.2)) else((ck (a1+1)).bind fun x7=>
  ((bQ k Y a3 m0) a0 x7 a2 s0).bind fun r8=>
  if¬(r8.1=true) then(some (false,r8.2)) else((d3 k a0 a1).bind fun e=>
  bE (α:=σ) (bU k a0 a1 a2 a3 (bQ k Y a3 m0) e k (0,r8.2)) (some) fun c=>
  some (true,c)))
theorem nn{M:Md Tryz.prog}{σ Z:Type}(E:Z→σ→List D)(l:Nat)(Y:σ→(List (List Int))→Option (σ×Bool))(k:Nat)(a3:dr)(u:Nat)(x:Nat)(c:Nat)(hY:∀z s p r,Y s p=some r→YT M l [.rep (.arr 3 (.arr 5 (.int .i64))) p] (E z s) (fun z':Z=>(.eq (.bool r.2),E z' r.1))):
 ∀(n:Nat) (a0:(List (List Int))) (a1:Int) (a2:Int) (z0:Z) (s0:σ) (r:Bool×σ),bQ k Y a3 n a0 a1 a2 s0=some r→dD M 67 [.rep (.arr 3 (.arr 5 (.int .i64))) a0,I a1,.eq (.int .u8 a2),Pt u,Pt x,Pt c] ([.obj u 66 (.at bH a3),.obj x 130 (.eq (.func (.yield l) #[] #[])),.obj c 131 (.eq (.func (.func 67) #[] #[(Pv u),(Pv x),(Pv c)]))]++E z0 s0) (fun z:Z=>(bp [.eq (.bool r.1)],[.obj u 66 (.at bH a3),.obj x 130 (.eq (.func (.yield l) #[] #[])),.obj c 131 (.eq (.func (.func 67) #[] #[(Pv u),(Pv x),(Pv c)]))]++E z r.2)):=by
 intro n
 induction n with
 |zero=>intro a0 a1 a2 z0 s0 r h;cases h
 |succ m0 ih=>
  intro a0 a1 a2 z0 s0 r h;rw [bQ] at h;replace h:=ba h;refine dD.of 97 Tryz.func67 rfl Tryz.ntmps67 rfl fun S w0=>?_;refine sr (bx fun b1=>?_);refine cq (nt (ar (sr ?_)));refine mq ?_;refine fr 1 ?_;refine lo tP ?_;refine ja (dR rfl) ?_;refine ja (aI 3 true rfl km rfl) ?_;refine ja (aI 1 false rfl cH rfl) ?_;refine ja (ak (t:=(.slice (.int .i64))) rfl bN rfl) ?_;refine ol dB ?_;refine jb (dX rfl) ?_;refine nt (ci h (fun h=>?_) (fun h=>?_))
  ·refine aJ (Z:=Z) (α:=Bool×σ) (fun z3 x2=>[(9,.eq (.bool x2.1))]) (fun z3 x2=>[.obj u 66 (.at bH a3),.obj x 130 (.eq (.func (.yield l) #[] #[])),.obj c 131 (.eq (.func (.func 67) #[] #[(Pv u),(Pv x),(Pv c)]))]++E z3 x2.2) h (fun K h=>?_) (fun z3 x2 h=>?_)
   ·refine ab (mq ?_);refine lo tP ?_;refine ja (dR rfl) ?_;refine ja (aI 3 true rfl km rfl) ?_;refine ja (aI 1 false rfl cg rfl) ?_;refine ja (ak (t:=(.slice aK)) rfl fR rfl) ?_;refine ol nD ?_;obtain⟨u4,V0,h⟩:=aa h;refine jb (HY rfl (ay V0)) ?_;refine jb (HW rfl) ?_;refine jb (iZ rfl) ?_;refine mq ?_;refine bY (s:=32) rfl (fun hb=>?_) (fun hb=>?_)
    ·replace h:=cF (NG hb) h;refine au ?_;exact jm (z0,(true,s0)) h (bm [.obj u 66 (.at bH a3),.obj b1 70 (.rep (.arr 3 (.arr 5 (.int .i64))) a0),.obj x 130 (.eq (.func (.yield l) #[] #[])),.obj c 131 (.eq (.func (.func 67) #[] #[(Pv u),(Pv x),(Pv c)]))] (E z0 s0) [0,2,3] ⟨rfl,trivial⟩ rfl)
    ·replace h:=bM (A2 hb) h;refine fr 2 ?_;refine gi rfl rfl rfl rfl rfl rfl (ah rfl Qu jw rfl) ⟨rfl,trivial⟩ ?_;refine fr 2 ?_;refine gi rfl rfl rfl rfl rfl rfl (ah rfl ft (sT) rfl) ⟨rfl,trivial⟩ ?_;obtain⟨r5,V2,h⟩:=aa h;refine fr 3 ?_;refine fr 3 ?_;refine fr 3 ?_;refine fr 3 ?_;refine GT [.obj b1 70 (.rep (.arr 3 (.arr 5 (.int .i64))) a0),.obj x 130 (.eq (.func (.yield l) #[] #[])),.obj u 66 (.at bH a3),.obj c 131 (.eq (.func (.func 67) #[] #[(Pv u),(Pv x),(Pv c)]))] rfl rfl rfl rfl rfl rfl (yU [.tmp 34] rfl rfl rfl (hY z0 s0 a0 r5 V2)) ⟨rfl,rfl,trivial⟩ fun z6=>?_;refine au ?_;exact jm (z6,(r5.2,r5.1)) h (bm [.obj b1 70 (.rep (.arr 3 (.arr 5 (.int .i64))) a0),.obj x 130 (.eq (.func (.yield l) #[] #[])),.obj u 66 (.at bH a3),.obj c 131 (.eq (.func (.func 67) #[] #[(Pv u),(Pv x),(Pv c)]))] (E z6 r5.1) [2,1,3] ⟨rfl,trivial⟩ rfl)
   ·refine au ?_;cases h;exact jo z3 [_] ⟨rfl,trivial⟩ rfl
  ·refine sk (ar (sr (fr 3 ?_)));refine lo Em ?_;refine fr 2 ?_;refine lo ft ?_;refine mq ?_;obtain⟨x7,VZ,h⟩:=aa h;refine jb (a9 rfl VZ) ?_;refine mq ?_;obtain⟨r8,V1,h⟩:=aa h;refine fr 1 ?_;refine fr 3 ?_;refine fr 3 ?_;refine fr 3 ?_;refine qx [.obj b1 70 (.rep (.arr 3 (.arr 5 (.int .i64))) a0)] rfl rfl rfl (pM (fs:=[]) (cs:=[(Pv u),(Pv x),(Pv c)]) (ags:=[.rep (.arr 3 (.arr 5 (.int .i64))) a0,I x7,.eq (.int .u8 a2)]) [.tmp 38,.tmp 40,.tmp 41] rfl rfl O2 rfl (ih a0 x7 a2 z0 s0 r8 V1)) ⟨rfl,rfl,rfl,rfl,trivial⟩ fun z9=>?_;refine ja (eF rfl) ?_;refine nt (cw h (fun h=>?_) (fun h=>?_))
   ·refine sr (cq (nt (rx ?_)));refine bi (bm (Γ':=[(9,_)]) [.obj b1 70 (.rep (.arr 3 (.arr 5 (.int .i64))) a0),.obj u 66 (.at bH a3),.obj x 130 (.eq (.func (.yield l) #[] #[])),.obj c 131 (.eq (.func (.func 67) #[] #[(Pv u),(Pv x),(Pv c)]))] (E z9 r8.2) [1,2,3] ⟨rfl,trivial⟩ rfl) ?_;cases h;exact jo z9 [_] ⟨rfl,trivial⟩ rfl
   ·refine au ?_;refine lo ft ?_;refine mq ?_;obtain⟨F,VQ,h⟩:=aa h;refine jb (ao [.tmp 44,.tmp 45] rfl rfl Mc rfl (gC k a0 a1 F VQ)) ?_;refine aq (nt ?_);refine dK (Z:=Z) (α:=σ) (fun qt VD=>[]) (fun qt VD=>[.obj u 66 (.at bH a3),.obj x 130 (.eq (.func (.yield l) #[] #[])),.obj c 131 (.eq (.func (.func 67) #[] #[(Pv u),(Pv x),(Pv c)]))]++E qt VD) (fun e=>e=r) h (fun e h=>Option.some.inj h) (fun K hR h=>?_) (fun qt VD h=>?_)
    ·refine sr (fr 1 ?_);refine lo tP ?_;refine ja (dR rfl) ?_;refine ja (aI 3 true rfl km rfl) ?_;refine ja (aI 1 false rfl cg rfl) ?_;refine ja (ak (t:=(.slice aK)) rfl fR rfl) ?_;refine ol nD ?_;refine eI rfl ?_;refine nt (aj (aH (Z:=Z) (α:=Int×σ) (fun J y=>[(1,I a1),(2,.eq (.int .u8 a2)),(3,Pt u),(5,Pt c),(6,Pt b1),(10,Ri F),(51,Rs aK a3.1.2.1),(52,I (a3.1.2.1.length:Int)),(53,I y.1)]) (fun J y=>[.obj u 66 (.at bH a3),.obj c 131 (.eq (.func (.func 67) #[] #[(Pv u),(Pv x),(Pv c)])),.obj x 130 (.eq (.func (.yield l) #[] #[])),.obj b1 70 (.rep (.arr 3 (.arr 5 (.int .i64))) a0)]++E J y.2) (bU k a0 a1 a2 a3 (bQ k Y a3 m0) F) k z9 (0,r8.2) (fun _=>rfl) h (bm [.obj u 66 (.at bH a3),.obj b1 70 (.rep (.arr 3 (.arr 5 (.int .i64))) a0),.obj x 130 (.eq (.func (.yield l) #[] #[])),.obj c 131 (.eq (.func (.func 67) #[] #[(Pv u),(Pv x),(Pv c)]))] (E z9 r8.2) [0,3,2,1] ⟨rfl,rfl,rfl,rfl,rfl,rfl,rfl,rfl,rfl,trivial⟩ rfl) (fun n J y h=>?_)));unfold bU at h;refine sr (jb (bj rfl) ?_);refine au ?_;refine ci h (fun h=>?_) (fun h=>?_)
     ·refine sk (dK (Z:=Z) (α:=σ) (fun X mc=>[(1,I a1),(2,.eq (.int .u8 a2)),(3,Pt u),(5,Pt c),(6,Pt b1),(10,Ri F),(51,Rs aK a3.1.2.1),(52,I (a3.1.2.1.length:Int)),(53,I y.1)]) (fun X mc=>[.obj u 66 (.at bH a3),.obj c 131 (.eq (.func (.func 67) #[] #[(Pv u),(Pv x),(Pv c)])),.obj x 130 (.eq (.func (.yield l) #[] #[])),.obj b1 70 (.rep (.arr 3 (.arr 5 (.int .i64))) a0)]++E X mc) (fun e=>e=r) h (fun e h=>hR e h) (fun K hR h=>?_) (fun X mc h=>?_))
      ·refine aj (au ?_);obtain⟨VG,VL,h⟩:=aa h;refine jb (aG (t:=aK) rfl nD ju VL) ?_;refine ja (ak (t:=aK) rfl ju rfl) ?_;refine aD rfl rfl rfl (aY rfl vx MU) trivial fun VS=>?_;refine aq ?_;refine a8 rfl rfl (aX rfl ju rfl rfl rfl) ⟨rfl,rfl,trivial⟩ ?_;refine nt (ar (aJ (Z:=Z) (α:=Bool×σ) (fun U O=>[(1,I a1),(2,.eq (.int .u8 a2)),(3,Pt u),(5,Pt c),(6,Pt b1),(10,Ri F),(11,I y.1),(51,Rs aK a3.1.2.1),(52,I (a3.1.2.1.length:Int)),(53,I y.1),(80,.eq (.bool O.1))]) (fun U O=>[.obj u 66 (.at bH a3),.obj c 131 (.eq (.func (.func 67) #[] #[(Pv u),(Pv x),(Pv c)])),.obj x 130 (.eq (.func (.yield l) #[] #[])),.obj b1 70 (.rep (.arr 3 (.arr 5 (.int .i64))) a0)]++E U O.2) h (fun K h=>?_) (fun U O h=>?_)))
       ·refine bD ?_;refine dm ?_;refine dm ?_;obtain⟨VY,VP,h⟩:=aa h;refine db (ao [.tmp 58,.tmp 59] rfl rfl Me rfl (iL k a2 y.1 VY VP)) ?_;refine nc rfl rfl rfl (aN rfl) ⟨rfl,trivial⟩ (fun hb=>?_) (fun hb=>?_)
        ·replace h:=cF (CE hb) h;iterate 17 refine dg ?_
         refine df cG ?_;refine au ?_;exact jm (J,(true,y.2)) h (bm [.obj VS 27 (.rep aK VG),.obj u 66 (.at bH a3),.obj c 131 (.eq (.func (.func 67) #[] #[(Pv u),(Pv x),(Pv c)])),.obj x 130 (.eq (.func (.yield l) #[] #[])),.obj b1 70 (.rep (.arr 3 (.arr 5 (.int .i64))) a0)] (E J y.2) [1,2,3,4] ⟨rfl,rfl,rfl,rfl,rfl,rfl,rfl,rfl,rfl,rfl,rfl,trivial⟩ rfl)
        ·replace h:=bM (CG hb) h;refine ku 1 rfl rfl rfl rfl rfl rfl (ah rfl tP jw rfl) ⟨rfl,rfl,trivial⟩ ?_;refine bg rfl rfl rfl rfl rfl (dR rfl) ⟨rfl,rfl,trivial⟩ ?_;refine bg rfl rfl rfl rfl rfl (aI 3 true rfl km rfl) ⟨rfl,rfl,trivial⟩ ?_;refine bg rfl rfl rfl rfl rfl (ak (t:=an) rfl du rfl) ⟨rfl,rfl,trivial⟩ ?_;refine bg rfl rfl rfl rfl rfl (aN rfl) ⟨rfl,rfl,trivial⟩ ?_;obtain⟨VX,VO,h⟩:=aa h;refine bg rfl rfl rfl rfl rfl (ao [.tmp 65,.tmp 66] rfl rfl Ry rfl (uE k a3.1 F VX VO)) ⟨rfl,rfl,rfl,trivial⟩ ?_;refine bg rfl rfl rfl rfl rfl (av rfl kO) ⟨rfl,rfl,trivial⟩ ?_;refine ku 0 rfl rfl rfl rfl rfl rfl (ah rfl cC jw rfl) ⟨rfl,rfl,trivial⟩ ?_;obtain⟨VV,VK,h⟩:=aa h;refine bg rfl rfl rfl rfl rfl (a9 rfl VK) ⟨rfl,rfl,rfl,trivial⟩ ?_;refine ku 1 rfl rfl rfl rfl rfl rfl (ah rfl tP jw rfl) ⟨rfl,rfl,trivial⟩ ?_;refine bg rfl rfl rfl rfl rfl (dR rfl) ⟨rfl,rfl,trivial⟩ ?_;refine bg rfl rfl rfl rfl rfl (aI 3 true rfl km rfl) ⟨rfl,rfl,trivial⟩ ?_;refine bg rfl rfl rfl rfl rfl (aI 1 false rfl cH rfl) ⟨rfl,rfl,trivial⟩ ?_;refine bg rfl rfl rfl rfl rfl (ak (t:=(.slice (.int .i64))) rfl bN rfl) ⟨rfl,rfl,trivial⟩ ?_;refine bg rfl rfl rfl rfl rfl (aN rfl) ⟨rfl,rfl,trivial⟩ ?_;obtain⟨VU,VJ,h⟩:=aa h;refine bg rfl rfl rfl rfl rfl (aG (t:=(.int .i64)) rfl dB cC VJ) ⟨rfl,rfl,rfl,trivial⟩ ?_;refine bg rfl rfl rfl rfl rfl (ak (t:=(.int .i64)) rfl cC rfl) ⟨rfl,rfl,trivial⟩ ?_;refine df cG ?_;refine gb (i7 rfl) ?_;refine au ?_;exact jm (J,(decide (VU < VV),y.2)) h (bm [.obj VS 27 (.rep aK VG),.obj u 66 (.at bH a3),.obj c 131 (.eq (.func (.func 67) #[] #[(Pv u),(Pv x),(Pv c)])),.obj x 130 (.eq (.func (.yield l) #[] #[])),.obj b1 70 (.rep (.arr 3 (.arr 5 (.int .i64))) a0)] (E J y.2) [1,2,3,4] ⟨rfl,rfl,rfl,rfl,rfl,rfl,rfl,rfl,rfl,rfl,rfl,trivial⟩ rfl)
       ·refine cv h (fun h=>?_) (fun h=>?_)
        ·refine au ?_;exact jm (U,O.2) h (bm [.obj u 66 (.at bH a3),.obj c 131 (.eq (.func (.func 67) #[] #[(Pv u),(Pv x),(Pv c)])),.obj x 130 (.eq (.func (.yield l) #[] #[])),.obj b1 70 (.rep (.arr 3 (.arr 5 (.int .i64))) a0)] (E U O.2) [0,1,2,3] ⟨rfl,rfl,rfl,rfl,rfl,rfl,rfl,rfl,rfl,trivial⟩ rfl)
        ·refine sk (sr (fr 3 ?_));refine lo ft ?_;refine aD rfl rfl rfl (aY rfl rF sd) trivial fun VF=>?_;refine a8 rfl rfl (aX rfl ft rfl rfl rfl) ⟨rfl,rfl,trivial⟩ ?_;refine au ?_;refine ol dB ?_;refine mq ?_;obtain⟨V4,VC,h⟩:=aa h;refine jb (g8 rfl P1 Am (ay VC).1 (ay VC).2) ?_;obtain⟨ac,VI,h⟩:=aa h;obtain⟨V3,Q,h⟩:=aa h;refine jb (g8 rfl S5 cC (ay Q).1 (ay Q).2) ?_;refine a8 rfl rfl (oL (t:=(.int .i64)) (off:=0) (i:=a1) (j:=(F.length:Int)) (N:=3) (L:=5) rfl cC .int rfl rfl rfl rfl VI (ay Q).1 (ay Q).2 rfl) ⟨rfl,rfl,trivial⟩ ?_;refine au ?_;refine bD ?_;refine ea 3 (ah rfl Em jw rfl) ?_;refine ea 0 (ah rfl ft (sT) rfl) ?_;refine dm ?_;refine dm ?_;refine dm ?_;obtain⟨VE,VN,h⟩:=aa h;refine db (ao [.tmp 91,.tmp 92] rfl rfl L9 rfl (jG k a2 y.1 VE VN)) ?_;refine df cG ?_;obtain⟨se,VM,h⟩:=aa h;refine fr 3 ?_;refine fr 4 ?_;refine fr 4 ?_;refine fr 4 ?_;refine fr 4 ?_;refine qx [.obj VF 70 (.rep (.arr 3 (.arr 5 (.int .i64))) (List.set a0 (Int.toNat a1) (List.set ac (Int.toNat (F.length:Int)) y.1))),.obj b1 70 (.rep (.arr 3 (.arr 5 (.int .i64))) a0)] rfl rfl rfl (pM (fs:=[]) (cs:=[(Pv u),(Pv x),(Pv c)]) (ags:=[.rep (.arr 3 (.arr 5 (.int .i64))) (List.set a0 (Int.toNat a1) (List.set ac (Int.toNat (F.length:Int)) y.1)),I a1,.eq (.int .u8 VE)]) [.tmp 89,.tmp 90,.tmp 93] rfl rfl O2 rfl (ih (List.set a0 (Int.toNat a1) (List.set ac (Int.toNat (F.length:Int)) y.1)) a1 VE U O.2 se VM)) ⟨rfl,rfl,rfl,rfl,trivial⟩ fun pp=>?_;refine ja (eF rfl) ?_;refine nt (cw h (fun h=>?_) (fun h=>?_))
         ·refine sr (cq (nt (bJ (br (mL (eJ ?_))))));refine bi (bm (Γ':=[(9,_)]) [.obj VF 70 (.rep (.arr 3 (.arr 5 (.int .i64))) (List.set a0 (Int.toNat a1) (List.set ac (Int.toNat (F.length:Int)) y.1))),.obj b1 70 (.rep (.arr 3 (.arr 5 (.int .i64))) a0),.obj u 66 (.at bH a3),.obj x 130 (.eq (.func (.yield l) #[] #[])),.obj c 131 (.eq (.func (.func 67) #[] #[(Pv u),(Pv x),(Pv c)]))] (E pp se.2) [2,3,4] ⟨rfl,trivial⟩ rfl) ?_;obtain rfl:=hR _ h;exact jo pp [_] ⟨rfl,trivial⟩ rfl
         ·refine au ?_;exact jm (pp,se.2) h (bm [.obj VF 70 (.rep (.arr 3 (.arr 5 (.int .i64))) (List.set a0 (Int.toNat a1) (List.set ac (Int.toNat (F.length:Int)) y.1))),.obj b1 70 (.rep (.arr 3 (.arr 5 (.int .i64))) a0),.obj u 66 (.at bH a3),.obj x 130 (.eq (.func (.yield l) #[] #[])),.obj c 131 (.eq (.func (.func 67) #[] #[(Pv u),(Pv x),(Pv c)]))] (E pp se.2) [2,4,3,1] ⟨rfl,rfl,rfl,rfl,rfl,rfl,rfl,rfl,rfl,trivial⟩ rfl)
      ·refine ab ?_;obtain⟨VT,VH,h⟩:=aa h;refine jb (a9 rfl VH) ?_;refine au ?_;exact jm (X,(VT,mc)) h (bm [.obj u 66 (.at bH a3),.obj c 131 (.eq (.func (.func 67) #[] #[(Pv u),(Pv x),(Pv c)])),.obj x 130 (.eq (.func (.yield l) #[] #[])),.obj b1 70 (.rep (.arr 3 (.arr 5 (.int .i64))) a0)] (E X mc) [0,1,2,3] ⟨rfl,rfl,rfl,rfl,rfl,rfl,rfl,rfl,rfl,trivial⟩ rfl)
     ·refine au ?_;exact jm (J,y.2) h (bm [.obj u 66 (.at bH a3),.obj c 131 (.eq (.func (.func 67) #[] #[(Pv u),(Pv x),(Pv c)])),.obj x 130 (.eq (.func (.yield l) #[] #[])),.obj b1 70 (.rep (.arr 3 (.arr 5 (.int .i64))) a0)] (E J y.2) [0,2,1] trivial rfl)
    ·refine au ?_;cases h;exact jo qt [_] ⟨rfl,trivial⟩ rfl
def dL{σ:Type}(k:Nat)(Y:σ→(List (List Int))→Option (σ×Bool))(a1:dr)(s0:σ):Option (σ):=
 (dN k ([]:(List (List Int)))).bind fun r2=>
 (bQ k Y a1 k r2 0 0 s0).bind fun r5=>
 some r5.2
theorem jZ{M:Md Tryz.prog}{σ Z:Type}(E:Z→σ→List D)(l:Nat)(Y:σ→(List (List Int))→Option (σ×Bool))(k:Nat)(a1:dr)(c:Nat)(hY:∀z s p r,Y s p=some r→YT M l [.rep (.arr 3 (.arr 5 (.int .i64))) p] (E z s) (fun z':Z=>(.eq (.bool r.2),E z' r.1))):
 ∀(z0:Z) (s0:σ) (r:σ),dL k Y a1 s0=some r→dD M 66 [.eq (.func (.yield l) #[] #[]),Pt c] ([.obj c 66 (.at bH a1)]++E z0 s0) (fun z:Z=>(bp [],[.obj c 66 (.at bH a1)]++E z r)):=by
 intro z0 s0 r h
 unfold dL at h
 replace h:=ba h
 refine dD.of 10 Tryz.func66 rfl Tryz.ntmps66 rfl fun S w0=>?_
 refine sr ?_
 refine bx fun b1=>?_
 refine au ?_
 obtain⟨r2,j,h⟩:=aa h
 have u:=eh k ([]:(List (List Int))) r2 j
 refine ja (cO (N:=[(.const (.slice none 0 0),.eq (.slice none 0 0))]) (ao [.const (.slice none 0 0)] rfl rfl D3 rfl u) fun _ _ _ hn=>⟨(fN (t:=(.slice (.slice (.int .i64)))) (x:=([]:(List (List Int)))) .nil rfl rfl hn.1),trivial⟩) ?_
 refine aD rfl rfl rfl (aY rfl rF sd) trivial fun b3=>?_
 refine a8 rfl rfl (aX rfl ft rfl rfl rfl) ⟨rfl,rfl,trivial⟩ ?_
 refine au ?_
 refine aD rfl rfl rfl (aY rfl Qc Sv) trivial fun b4=>?_
 refine au ?_
 refine jc (t6 [] [.tmp 1,.tmp 2,.tmp 4] [] [(Pv c),(Pv b1),(Pv b4)] rfl rfl rfl) ?_
 refine a8 rfl rfl (aX rfl Em rfl rfl rfl) ⟨rfl,rfl,trivial⟩ ?_
 refine nt ?_
 refine ab ?_
 refine lo Em ?_
 refine fr 1 ?_
 refine lo ft ?_
 obtain⟨r5,e,h⟩:=aa h
 have n:=nn E l Y k a1 c b1 b4 hY k r2 0 0 z0 s0 r5 e
 refine fr 1 ?_
 refine fr 2 ?_
 refine fr 3 ?_
 refine fr 3 ?_
 refine qx [.obj b3 70 (.rep (.arr 3 (.arr 5 (.int .i64))) r2)] rfl rfl rfl (pM (fs:=[]) (cs:=[(Pv c),(Pv b1),(Pv b4)]) (ags:=[.rep (.arr 3 (.arr 5 (.int .i64))) r2,I 0,.eq (.int .u8 0)]) [.tmp 8,.const (.int .i64 (0)),.const (.int .u8 (0))] rfl rfl O2 rfl n) ⟨rfl,rfl,rfl,rfl,trivial⟩ fun z6=>?_
 refine ax ?_
 refine jE ?_
 refine bi (bm (Γ':=[]) [.obj b3 70 (.rep (.arr 3 (.arr 5 (.int .i64))) r2),.obj c 66 (.at bH a1),.obj b1 130 (.eq (.func (.yield l) #[] #[])),.obj b4 131 (.eq (.func (.func 67) #[] #[(Pv c),(Pv b1),(Pv b4)]))] (E z6 r5.2) [1] trivial rfl) ?_
 cases h
 exact jo z6 [] trivial rfl
theorem lg(a0:dr):bZ Tryz.prog 29 [.at bH a0] [] (fun z:Nat=>(bp [.eq (.func (.func 66) #[] #[(Pv z)])],[.obj z 66 (.at bH a0)])):=by
 refine bZ.of 4 Tryz.func29 rfl Tryz.ntmps29 rfl fun S w0=>?_;refine sr (aD rfl rfl rfl (pi rfl trivial) ⟨rfl,trivial⟩ fun z=>?_);refine au ?_;refine ja (t6 [] [.tmp 1] [] [(Pv z)] rfl rfl rfl) ?_;refine au ?_;exact aL z [_] 1 ⟨rfl,trivial⟩ rfl
def jL(k:Nat)(a1:dr):Option (List (List (List Int))):=
 (dL k (mY (fun(y2:(List (List (List Int)))) (p4:(List (List Int)))=>
  (cP (bq (List.length y2+List.length [p4]))).bind fun _=>
  some (y2++[p4],true))) a1 (([]:(List (List (List Int)))),false)).bind fun r5=>
 if r5.2=true then(none) else(some r5.1)
theorem pr(k:Nat)(a1:dr)(c:Nat)(r:(List (List (List Int))))(h:jL k a1=some r):
 bZ Tryz.prog 78 [.eq (.slice none 0 0),.eq (.func (.func 66) #[] #[(Pv c)])] [.obj c 66 (.at bH a1)] (fun z:Value=>(bp [.eq z],[.sl z 70 (.arr 3 (.arr 5 (.int .i64))) r,.obj c 66 (.at bH a1)])):=by
 unfold jL at h
 replace h:=ba h
 refine zN 13 Tryz.func78 rfl Tryz.ntmps78 rfl fun {M} S w0=>?_
 refine sr ?_
 refine bx fun b1=>?_
 refine au ?_
 refine aj ?_
 refine dE (SE.nil 70 (.arr 3 (.arr 5 (.int .i64)))) ?_
 refine dT 1 rfl ?_
 refine dT 2 rfl ?_
 obtain⟨r5,j,h⟩:=aa h
 refine lS (Δ:=[.obj c 66 (.at bH a1),.obj b1 89 (.eq (.slice none 0 0)),.sl (.slice none 0 0) 70 (.arr 3 (.arr 5 (.int .i64))) ([]:(List (List (List Int))))]) (F:=[]) (X:=Value) (J:=fun _=>G2 r5.2) (E:=fun z3=>[.obj c 66 (.at bH a1),.obj b1 89 (.eq z3),.sl z3 70 (.arr 3 (.arr 5 (.int .i64))) r5.1]) (r0:=fun _=>.tup .any) rfl rfl Rz (fun rec hp ha hb hs hpe hN hv l=>?_) (fun dl z3=>oy (fun hj=>?_) (fun hj=>?_))
 ·
  rcases rec with⟨st0,pe0,fn0,tm0,ps0,as0,bd0,df0⟩;dsimp only at hp ha hb hs hpe hN hv;subst hp hs hpe;have vN:vf tm0 [(2,Pt b1)]:=⟨congrArg A.eq (hv 2 _ rfl).symm,trivial⟩;refine dD.pick (M:=M) [1,0,2,3] [1,0,2,3] (jZ (fun(z3:Value) (q:(List (List (List Int)))×Bool)=>[.raw l (.loop (jv ⟨.ready,none,fn0,tm0, #[7],as0,bd0,df0⟩ (G2 q.2))),.obj b1 89 (.eq z3),.sl z3 70 (.arr 3 (.arr 5 (.int .i64))) q.1]) l (mY (fun(y2:(List (List (List Int)))) (p4:(List (List Int)))=>
  (cP (bq (List.length y2+List.length [p4]))).bind fun _=>
  some (y2++[p4],true))) k a1 c (fun z3 q p r' h=>?_) (.slice none 0 0) (([]:(List (List (List Int)))),false) r5 j) rfl (fun _=>rfl) (fun _=>rfl)
  obtain⟨rq,hq,h2,rfl⟩:=oz h;obtain⟨y2,b5⟩:=q;obtain rfl:b5=false:=hq;replace h:=ba h2;obtain⟨p4,hpv⟩:∃x,x=p:=⟨_,rfl⟩;subst hpv;refine YT.pick (R':=(fun z3:Value=>(.eq (.bool rq.2),[.raw l (.loop (jv ⟨.ready,none,fn0,tm0, #[7],as0,bd0,df0⟩ (G2 (!rq.2)))),.obj b1 89 (.eq z3),.sl z3 70 (.arr 3 (.arr 5 (.int .i64))) rq.1]))) [0,1,2] [0,1,2] (D7 ha hb (N:=13) (Γ:=[(2,Pt b1)]) rfl hN (by decide) vN (fun S w=>?_)) rfl (fun _=>rfl) (fun _=>rfl);refine ab (aD rfl rfl rfl (aY rfl rF sd) trivial fun b6=>?_);refine a8 rfl rfl (aX rfl ft rfl rfl rfl) ⟨rfl,rfl,trivial⟩ ?_;refine nl (aW 1 rfl ?_);refine tA rfl rfl ?_;refine aj (ab (fr 2 ?_));refine lo N4 ?_;refine fr 2 ?_;refine lo ft ?_;refine ja (bh (t:=(.arr 3 (.arr 5 (.int .i64)))) [(.tmp 9,_)] [p4] rfl rfl Qv (.cons rfl .rep .nil) rfl rfl) ?_;obtain⟨u7,e,h⟩:=aa h;refine fr 3 ?_;refine cp rfl rfl rfl (be rfl rfl Qv (ay e)) ⟨rfl,rfl,trivial⟩ fun v8=>?_;refine qy fun o9=>?_;refine fr 2 ?_;refine a8 rfl rfl (aX rfl N4 o9 rfl rfl) ⟨rfl,rfl,trivial⟩ ?_;refine ax (bT (aW 1 rfl ?_));refine aW 1 rfl ?_;refine aW 3 rfl ?_;cases h;exact ma v8 2 rfl
 ·
  replace h:=bM (CG hj) h;refine bT (tn (sr (fr 2 ?_)));refine lo N4 ?_;refine aq (nt (bJ ?_));refine aW 1 rfl ?_;refine tw ?_;refine bi (SE.fin (Γ':=[(4,_)]) [2,1,0] ⟨rfl,trivial⟩ rfl) ?_;cases h;exact aL z3 [.eq z3] 2 ⟨rfl,trivial⟩ rfl
 ·
  replace h:=cF (CE hj) h;cases h
def kB(k:Nat)(a0:dr):Option (List (List (List Int))):=
 (jL k a0).bind fun r1=>
 some r1
theorem rf(k:Nat)(a0:dr)(c:Nat)(r:(List (List (List Int))))(h:kB k a0=some r):
 bZ Tryz.prog 43 [.eq (.func (.func 66) #[] #[(Pv c)])] [.obj c 66 (.at bH a0)] (fun _:Unit=>(bp [.rep (.slice (.arr 3 (.arr 5 (.int .i64)))) r],[.obj c 66 (.at bH a0)])):=by
 unfold kB at h
 replace h:=ba h
 refine bZ.of 5 Tryz.func43 rfl Tryz.ntmps43 rfl fun S w0=>?_
 refine sr ?_
 refine cq ?_
 refine nt ?_
 refine sr ?_
 refine mq ?_
 obtain⟨r1,e,h⟩:=aa h
 have j:=pr k a0 c r1 e
 refine bO (Δ:=[_]) (F:=_) (fun _ _ _=>aA rfl _) rfl rfl (ao [.const (.slice none 0 0),.tmp 3] rfl rfl Ul rfl j) ⟨rfl,rfl,trivial⟩ fun z2=>?_
 refine aq ?_
 refine nt ?_
 refine bJ ?_
 refine bi (dh [2,4] ⟨rfl,rfl,trivial⟩) ?_
 cases h
 exact aL () [_] 1 ⟨rfl,trivial⟩ rfl
def kW(k:Nat)(a0:List Int):Option (List Int):=
 (cP (bq (List.length a0))).bind fun _=>some a0
theorem nO(k:Nat)(a0:List Int)(r:List Int)(h:kW k a0=some r):
 bZ Tryz.prog 44 [Ri a0] [] (fun z:Value=>(bp [.eq z],[.sl z 3 (.int .i64) r])):=by
 unfold kW at h
 replace h:=ba h
 refine bZ.of 8 Tryz.func44 rfl Tryz.ntmps44 rfl fun S w0=>?_
 obtain⟨u1,c,h⟩:=aa h
 cases h
 refine sr ?_
 refine cq ?_
 refine nt ?_
 refine ar ?_
 refine sr ?_
 refine mq ?_
 refine bO (Δ:=[]) (F:=_) (fun _ _ _=>aA rfl _) rfl rfl (K8 rfl dB) ⟨rfl,rfl,trivial⟩ fun b=>?_
 refine nt ?_
 refine bK rfl (fun hb=>?_) (fun hb=>?_)
 ·
  refine sr (cq (nt (rx ?_)));obtain rfl:=b.2 hb;refine bi (SE.nil 3 (.int .i64)) ?_;exact aL (.slice none 0 0) [.eq (.slice none 0 0)] 1 ⟨rfl,trivial⟩ rfl
 ·
  refine au ?_;refine aD rfl rfl rfl (ge (t:=(.int .i64)) [] [] rfl rfl de .nil rfl rfl) trivial fun v1=>?_;refine mq ?_;refine cp rfl rfl rfl (be rfl rfl de (by simpa using ay c)) ⟨rfl,rfl,trivial⟩ fun v2=>?_;refine au ?_;exact aL v2 [.eq v2] 1 ⟨rfl,trivial⟩ rfl
def IR(k:Nat):Option (List (List Int)):=
 some [[0,2],[3,1]]
theorem IQ(k:Nat)(r:(List (List Int)))(h:IR k=some r):
 bZ Tryz.prog 20 [] [] (fun _:Unit=>(bp [.rep (.slice (.slice (.int .i64))) r],[])):=by
 unfold IR at h
 replace h:=ba h
 refine bZ.of 4 Tryz.func20 rfl Tryz.ntmps20 rfl fun S w0=>?_
 refine au ?_
 refine jb (bh (t:=(.int .i64)) [(.const (.int .i64 (0)),_),(.const (.int .i64 (2)),_)] [0,2] rfl rfl de (.cons rfl .int (.cons rfl .int .nil)) rfl rfl) ?_
 refine jb (bh (t:=(.int .i64)) [(.const (.int .i64 (3)),_),(.const (.int .i64 (1)),_)] [3,1] rfl rfl de (.cons rfl .int (.cons rfl .int .nil)) rfl rfl) ?_
 refine jb (bh (t:=(.slice (.int .i64))) [(.tmp 1,_),(.tmp 2,_)] [[0,2],[3,1]] rfl rfl lD (.cons rfl .rep (.cons rfl .rep .nil)) rfl rfl) ?_
 refine au ?_
 cases h
 exact ra
def iC(k:Nat)(a0:dr)(a2:Int):Nat→((List (List Int))×Int)→Option (List (List Int))
 |0,_=>none
 |n+1,y5=>
  if y5.2 < a2 then((lL k a0 y5.1 y5.2).bind fun r7=>
  (ck (y5.2+1)).bind fun x8=>
  iC k a0 a2 n (r7.2,x8)) else(some y5.1)
def mb(k:Nat)(a0:dr)(a1:(List (List Int)))(a2:Int):Option (List (List Int)):=
 ((iC k a0 a2 k (a1,0)):Option ((List (List Int)))).bind fun x3=>
 some x3
theorem sx(k:Nat)(a0:dr)(a1:(List (List Int)))(a2:Int)(r:(List (List Int)))(h:mb k a0 a1 a2=some r):
 bZ Tryz.prog 48 [.at bH a0,.rep (.arr 3 (.arr 5 (.int .i64))) a1,I a2] [] (fun _:Unit=>(bp [.rep (.arr 3 (.arr 5 (.int .i64))) r],[])):=by
 unfold mb at h
 replace h:=ba h
 refine bZ.of 21 Tryz.func48 rfl Tryz.ntmps48 rfl fun S w0=>?_
 refine sr ?_
 refine bx fun b1=>?_
 refine aD rfl rfl rfl (aY rfl rF sd) trivial fun b2=>?_
 refine nt ?_
 refine aJ (Z:=Unit) (α:=(List (List Int))) (fun z4 x3=>[(4,Pt b1),(6,Pt b2)]) (fun z4 x3=>[.obj b1 70 (.rep (.arr 3 (.arr 5 (.int .i64))) x3),.obj b2 70 (.rep (.arr 3 (.arr 5 (.int .i64))) [[0,0,0,0,0],[0,0,0,0,0],[0,0,0,0,0]])]) h (fun K h=>?_) (fun z4 x3 h=>?_)
 ·
  refine au ?_;refine eI rfl ?_;refine nt (aj (aH (fun z6 y5=>[(0,.at bH a0),(4,Pt b1),(6,Pt b2),(8,I a2),(9,I y5.2)]) (fun z6 y5=>[.obj b1 70 (.rep (.arr 3 (.arr 5 (.int .i64))) y5.1),.obj b2 70 (.rep (.arr 3 (.arr 5 (.int .i64))) [[0,0,0,0,0],[0,0,0,0,0],[0,0,0,0,0]])]) (iC k a0 a2) k () (a1,0) (fun _=>rfl) h (SE.fin [1,0] ⟨rfl,rfl,rfl,rfl,rfl,trivial⟩ rfl) (fun n z6 y5 h=>?_)));unfold iC at h;refine sr (jb (bj rfl) ?_);refine au ?_;refine ci h (fun h=>?_) (fun h=>?_)
  ·refine au ?_;refine aj (au ?_);refine ab (mq ?_);refine lo ft ?_;refine mq ?_;obtain⟨r7,e,h⟩:=aa h;refine jc (ao [.tmp 13,.tmp 14,.tmp 15] rfl rfl RF rfl (o6 k a0 y5.1 y5.2 r7 e)) ?_;refine au ?_;refine a8 rfl rfl (aX rfl ft rfl rfl rfl) ⟨rfl,rfl,trivial⟩ ?_;refine au ?_;refine ab ?_;obtain⟨x8,c,h⟩:=aa h;refine jb (a9 rfl c) ?_;refine au ?_;exact jz ((),(r7.2,x8)) h [0,1]
  ·refine au ?_;exact jz ((),y5.1) h [0,1]
 ·
  refine sr (lo ft ?_);refine fr 1 ?_;refine a8 rfl rfl (aX rfl ft rfl rfl rfl) ⟨rfl,rfl,trivial⟩ ?_;refine au ?_;obtain rfl:=Option.some.inj h;exact aL () [.rep (.arr 3 (.arr 5 (.int .i64))) x3] 0 ⟨⟨_,_,_,_,_,rfl,(.head _),ft,(sT),rfl⟩,trivial⟩ rfl
def mn(k:Nat)(a0:List Int)(a1 a2:Int):Option (List Int):=
 (cP (0≤a1∧a1 < a2∧a2≤(a0.length:Int))).bind fun _=>some (a0.take a1.toNat++a0.drop a2.toNat)
theorem sH(k:Nat)(a0:List Int)(v:Value)(a1 a2:Int)(r:List Int)(h:mn k a0 a1 a2=some r):bZ Tryz.prog 86 [.eq v,.eq (.int .i64 a1),.eq (.int .i64 a2)] [.sl v 3 (.int .i64) a0] (fun z:Value=>(bp [.eq z],[.sl z 3 (.int .i64) r])):=by
 unfold mn at h
 replace h:=ba h
 obtain⟨u1,eg,h⟩:=aa h
 obtain⟨h1,h2,h3⟩:=ay eg
 obtain rfl:=Option.some.inj h
 refine bZ.of 33 Tryz.func86 rfl Tryz.ntmps86 rfl fun S w0=>?_
 refine GW (fun e=>by rw [e] at h3;simp at h3;omega) fun b cap hv hcap=>?_
 subst hv
 have hl:(a0.take a1.toNat++a0.drop a2.toNat).length=a1.toNat+(a0.length - a2.toNat):=by simp;omega
 refine ar ?_
 refine ab ?_
 refine dJ rfl ?_
 refine ax (ag ?_)
 show JC _ _ _ _ _
 refine ar ?_
 refine ab ?_
 refine aC rfl rfl ?_
 refine aC rfl rfl ?_
 refine aC rfl rfl ?_
 refine aC rfl rfl ?_
 refine bX rfl rfl rfl (cZ rfl rfl dB) ⟨rfl,trivial⟩ ?_
 refine aF rfl (yV rfl dB cC h1 (by omega) h3 (by omega)) ⟨rfl,rfl,rfl,rfl,trivial⟩ ?_
 refine ax (ag ?_)
 show JC _ _ _ _ _
 refine ar ?_
 refine ar ?_
 refine ab ?_
 refine aC rfl rfl ?_
 refine aC rfl rfl ?_
 refine aF rfl (dX rfl) ⟨rfl,rfl,trivial⟩ ?_
 refine ax (ag ?_)
 show JC _ _ _ _ _
 refine bK rfl (fun hb=>absurd (of_decide_eq_true hb) (by omega)) (fun hb=>?_)
 refine cT (ag ?_)
 show JC _ _ _ _ _
 refine ar ?_
 refine ab ?_
 refine aC rfl rfl ?_
 refine bX rfl rfl rfl (cZ rfl rfl dB) ⟨rfl,trivial⟩ ?_
 refine dk rfl rfl ?_
 refine ax (ag ?_)
 show JC _ _ _ _ _
 refine ar ?_
 refine bD ?_
 refine dt rfl rfl rfl (aN rfl) ⟨rfl,trivial⟩ ?_
 refine dt rfl rfl rfl (aN rfl) ⟨rfl,trivial⟩ ?_
 refine dt rfl rfl rfl (wd rfl dB cC h1 (by omega)) ⟨rfl,rfl,trivial⟩ ?_
 refine dt rfl rfl rfl (aN rfl) ⟨rfl,trivial⟩ ?_
 refine dt rfl rfl rfl (aN rfl) ⟨rfl,trivial⟩ ?_
 refine dt rfl rfl rfl (Dl rfl dB cC (by omega) h3) ⟨rfl,rfl,trivial⟩ ?_
 refine uD (by kernel_rfl) cG ?_
 refine co (tu 22 rfl fun _ _ _ h=>(En▸h:(A.eq (.slice (some ⟨b,0,none⟩) a1.toNat cap)).holds _ _ _)) ?_
 refine bX rfl rfl rfl (yX (t:=.int .i64) (b:=b) (cap:=cap) (l:=a0) (i:=a1.toNat) (j:=a2.toNat) rfl rfl de (by omega) (by omega) hcap) ⟨rfl,rfl,trivial⟩ ?_
 refine dk rfl rfl ?_
 refine ax (ag ?_)
 show JC _ _ _ _ _
 refine ar ?_
 refine ab ?_
 refine aC rfl rfl ?_
 refine aC rfl rfl ?_
 refine bX rfl rfl rfl (cZ rfl rfl dB) ⟨rfl,trivial⟩ ?_
 refine aC rfl rfl ?_
 refine aF rfl (AD rfl dB cC (by omega) (by rw [hl];omega) (by omega)) ⟨rfl,rfl,rfl,trivial⟩ ?_
 refine a8 rfl rfl (AM (t:=.int .i64) (b:=b) (cap:=cap) (l:=a0.take a1.toNat++a0.drop a2.toNat) (n:=a0.length) rfl rfl dB rfl Vk rfl rfl (by rw [hl];omega) hcap) ⟨rfl,trivial⟩ ?_
 refine ax (ag ?_)
 show JC _ _ _ _ _
 refine ar ?_
 refine ab ?_
 refine aC rfl rfl ?_
 refine dk rfl rfl ?_
 refine ax (ag ?_)
 show JC _ _ _ _ _
 refine bJ ?_
 exact aL _ [.eq _] 1 ⟨rfl,trivial⟩ rfl
def kU(k:Nat)(x7:Int)(h:(List (List Int))):Nat→((List (List Int))×Int)→Option (List (List Int))
 |0,_=>none
 |n+1,c=>
  if c.2 < (h.length:Int) then((aP h c.2).bind fun e=>
  (cP (bq (List.length [x7]+List.length e))).bind fun _=>
  (cP (bq (List.length c.1+List.length [[x7]++e]))).bind fun _=>
  (ck (c.2+1)).bind fun j=>
  kU k x7 h n (c.1++[[x7]++e],j)) else(some c.1)
def kV(k:Nat)(a0:(List Int))(self:(List Int)→Option ((List (List Int)))):Nat→((List (List Int))×Int)→Option (List (List Int))
 |0,_=>none
 |n+1,y3=>
  if y3.2 < (a0.length:Int) then((((aP a0 y3.2).bind fun x7=>
  (kW k a0).bind fun r8=>
  (ck (y3.2+1)).bind fun e=>
  (mn k r8 y3.2 e).bind fun j=>
  (self j).bind fun h=>
  kU k x7 h k (y3.1,0)):Option ((List (List Int)))).bind fun x5=>
  (ck (y3.2+1)).bind fun c=>
  kV k a0 self n (x5,c)) else(some y3.1)
def mf(k:Nat):Nat→(List Int)→Option ((List (List Int)))
 |0,_=>none
 |m0+1,a0=>
  if(a0.length:Int)=0 then(some [[]]) else(((kV k a0 (mf k m0) k (([]:(List (List Int))),0)):Option ((List (List Int)))).bind fun x1=>
  some x1)
theorem xe(k:Nat):
 ∀(n:Nat) (a0:(List Int)) (r:(List (List Int))),mf k n a0=some r→bZ Tryz.prog 52 [Ri a0] ([]) (fun _:Unit=>(bp [.rep (.slice (.slice (.int .i64))) r],[])):=by
 intro n
 induction n with
 |zero=>intro a0 r h;cases h
 |succ m0 ih=>
  intro a0 r h;rw [mf] at h;replace h:=ba h;refine bZ.of 41 Tryz.func52 rfl Tryz.ntmps52 rfl fun S w0=>?_;refine au ?_;refine ol dB ?_;refine jb (dX rfl) ?_;refine nt (ci h (fun h=>?_) (fun h=>?_))
  ·refine sr (ja (bh (t:=(.slice (.int .i64))) [(.const (.slice none 0 0),_)] [[]] rfl rfl lD (.cons rfl .nil .nil) rfl rfl) ?_);refine au ?_;cases h;exact ra
  ·refine sk (sr (cq (nt ?_)));refine aJ (Z:=Value) (α:=(List (List Int))) (fun z2 x1=>[(3,.eq z2)]) (fun z2 x1=>[.sl z2 23 (.slice (.int .i64)) x1]) h (fun K h=>?_) (fun z2 x1 h=>?_)
   ·refine au ?_;refine ol dB ?_;refine eI rfl ?_;refine nt (aj (dE (SE.nil 23 (.slice (.int .i64))) ?_));refine aH (fun z4 y3=>[(0,Ri a0),(3,.eq z4),(12,Ri a0),(13,I (a0.length:Int)),(14,I y3.2)]) (fun z4 y3=>[.sl z4 23 (.slice (.int .i64)) y3.1]) (kV k a0 (mf k m0)) k (.slice none 0 0) (([]:(List (List Int))),0) (fun _=>rfl) h (SE.fin [0] ⟨rfl,rfl,rfl,rfl,rfl,trivial⟩ rfl) (fun n z4 y3 h=>?_);unfold kV at h;refine sr (jb (bj rfl) ?_);refine au ?_;refine ci h (fun h=>?_) (fun h=>?_)
    ·refine sk (aJ (Z:=Value) (α:=(List (List Int))) (fun z6 x5=>[(0,Ri a0),(3,.eq z6),(12,Ri a0),(13,I (a0.length:Int)),(14,I y3.2)]) (fun z6 x5=>[.sl z6 23 (.slice (.int .i64)) x5]) h (fun K h=>?_) (fun z6 x5 h=>?_))
     ·refine aj (au ?_);obtain⟨x7,Y,h⟩:=aa h;refine jb (aG (t:=(.int .i64)) rfl dB cC Y) ?_;refine ja (ak (t:=(.int .i64)) rfl cC rfl) ?_;refine au ?_;obtain⟨r8,ac,h⟩:=aa h;refine aD rfl rfl rfl (ao [.tmp 19] rfl rfl UB rfl (nO k a0 r8 ac)) ⟨rfl,trivial⟩ fun v9=>?_;refine au ?_;obtain⟨U,D,h⟩:=aa h;refine jb (a9 rfl D) ?_;obtain⟨s,M,h⟩:=aa h;refine cp rfl rfl rfl (ao [.tmp 20,.tmp 21,.tmp 23] rfl rfl Uk rfl (sH k r8 v9 y3.2 U s M)) ⟨rfl,rfl,rfl,trivial⟩ fun qt=>?_;refine co (dh [24] ⟨rfl,trivial⟩) ?_;obtain⟨j,J,h⟩:=aa h;refine ja (ao [.tmp 24] rfl rfl RD rfl (ih s j J)) ?_;refine ol oh ?_;refine eI rfl ?_;refine nt (aj (aH (fun e c=>[(0,Ri a0),(3,.eq e),(5,I x7),(12,Ri a0),(13,I (a0.length:Int)),(14,I y3.2),(25,.rep (.slice (.slice (.int .i64))) j),(26,I (j.length:Int)),(27,I c.2)]) (fun e c=>[.sl e 23 (.slice (.int .i64)) c.1]) (kU k x7 j) k z4 (y3.1,0) (fun _=>rfl) h (SE.fin [0] ⟨rfl,rfl,rfl,rfl,rfl,rfl,rfl,rfl,rfl,trivial⟩ rfl) (fun n e c h=>?_)));unfold kU at h;refine sr (jb (bj rfl) ?_);refine au ?_;refine ci h (fun h=>?_) (fun h=>?_)
      ·refine au ?_;refine aj (sr ?_);obtain⟨l,y,h⟩:=aa h;refine jb (aG (t:=(.slice (.int .i64))) rfl oh bN y) ?_;refine ja (ak (t:=(.slice (.int .i64))) rfl bN rfl) ?_;refine au ?_;refine ab (au ?_);refine aD rfl rfl rfl (ge (t:=(.int .i64)) [(.tmp 32,_)] [x7] rfl rfl de (.cons rfl .int .nil) rfl rfl) ⟨rfl,trivial⟩ fun pp=>?_;refine mq ?_;obtain⟨VC,F,h⟩:=aa h;refine cp rfl rfl rfl (be rfl rfl de (ay F)) ⟨rfl,rfl,trivial⟩ fun mc=>?_;refine co (dh [35] ⟨rfl,trivial⟩) ?_;refine ja (bh (t:=(.slice (.int .i64))) [(.tmp 35,_)] [[x7]++l] rfl rfl lD (.cons rfl .rep .nil) rfl rfl) ?_;obtain⟨se,E,h⟩:=aa h;refine cp rfl rfl rfl (be rfl rfl lD (ay E)) ⟨rfl,rfl,trivial⟩ fun X=>?_;refine au ?_;refine ab ?_;obtain⟨Q,x,h⟩:=aa h;refine jb (a9 rfl x) ?_;refine au ?_;exact jz (X,(c.1++[[x7]++l],Q)) h [0]
      ·refine au ?_;exact jz (e,c.1) h [0]
     ·refine ab ?_;obtain⟨O,u,h⟩:=aa h;refine jb (a9 rfl u) ?_;refine au ?_;exact jz (z6,(x5,O)) h [0]
    ·refine au ?_;exact jz (z4,y3.1) h [0]
   ·refine sr (mq ?_);refine aq (nt (bJ ?_));refine bi (dh [2,3,40] ⟨rfl,rfl,rfl,trivial⟩) ?_;cases h;exact ra
def gx{σ:Type}(k:Nat)(a1:(List Int))(Y:σ→Int→Option (σ×Bool)):Nat→(Int×σ)→Option (σ)
 |0,_=>none
 |n+1,y1=>
  if y1.1 < (a1.length:Int) then((aP a1 y1.1).bind fun x3=>
  (Y y1.2 x3).bind fun r4=>
  if¬(r4.2=true) then(some r4.1) else((ck (y1.1+1)).bind fun x6=>
  gx k a1 Y n (x6,r4.1))) else(some y1.2)
def kA{σ:Type}(k:Nat)(Y:σ→Int→Option (σ×Bool))(a1:(List Int))(s0:σ):Option (σ):=
 gx k a1 Y k (0,s0)
theorem q9{M:Md Tryz.prog}{σ Z:Type}(E:Z→σ→List D)(l:Nat)(Y:σ→Int→Option (σ×Bool))(k:Nat)(a1:(List Int))(c:Nat)(hY:∀z s p r,Y s p=some r→YT M l [I p] (E z s) (fun z':Z=>(.eq (.bool r.2),E z' r.1))):
 ∀(z0:Z) (s0:σ) (r:σ),kA k Y a1 s0=some r→dD M 89 [.eq (.func (.yield l) #[] #[]),Pt c] ([.obj c 23 (Ri a1)]++E z0 s0) (fun z:Z=>(bp [],[.obj c 23 (Ri a1)]++E z r)):=by
 intro z0 s0 r h
 unfold kA at h
 replace h:=ba h
 refine dD.of 16 Tryz.func89 rfl Tryz.ntmps89 rfl fun S w0=>?_
 refine sr ?_
 refine lo bN ?_
 refine ol dB ?_
 refine eI rfl ?_
 refine nt ?_
 refine aj ?_
 refine aH (Z:=Z) (α:=Int×σ) (fun z2 y1=>[(0,.eq (.func (.yield l) #[] #[])),(5,Ri a1),(6,I (a1.length:Int)),(7,I y1.1)]) (fun z2 y1=>[.obj c 23 (Ri a1)]++E z2 y1.2) (gx k a1 Y) k z0 (0,s0) (fun _=>rfl) h (bm [.obj c 23 (Ri a1)] (E z0 s0) [0] ⟨rfl,rfl,rfl,rfl,trivial⟩ rfl) (fun n z2 y1 h=>?_)
 unfold gx at h
 refine sr ?_
 refine jb (bj rfl) ?_
 refine au ?_
 refine ci h (fun h=>?_) (fun h=>?_)
 ·
  refine au ?_;refine aj (sr ?_);obtain⟨x3,j,h⟩:=aa h;refine jb (aG (t:=(.int .i64)) rfl dB cC j) ?_;refine ja (ak (t:=(.int .i64)) rfl cC rfl) ?_;refine au ?_;obtain⟨r4,u,h⟩:=aa h;refine qx [.obj c 23 (Ri a1)] rfl rfl rfl (yU [.tmp 12] rfl rfl rfl (hY z2 y1.2 x3 r4 u)) ⟨rfl,rfl,trivial⟩ fun z5=>?_;refine ja (eF rfl) ?_;refine nt (cw h (fun h=>?_) (fun h=>?_))
  ·refine au ?_;cases h;exact jo z5 [] trivial rfl
  ·refine au ?_;refine ab ?_;obtain⟨x6,e,h⟩:=aa h;refine jb (a9 rfl e) ?_;refine au ?_;exact jm (z5,(x6,r4.1)) h (bm [.obj c 23 (Ri a1)] (E z5 r4.1) [0] ⟨rfl,rfl,rfl,rfl,trivial⟩ rfl)
 ·
  refine au ?_;refine jE ?_;cases h;exact jo z2 [] trivial rfl
def j9(k:Nat)(a1:(List Int)):Option (List Int):=
 (kA k (mY (fun(y2:(List Int)) (p4:Int)=>
  (cP (bq (List.length y2+List.length [p4]))).bind fun _=>
  some (y2++[p4],true))) a1 (([]:(List Int)),false)).bind fun r5=>
 if r5.2=true then(none) else(some r5.1)
theorem pE(k:Nat)(a1:(List Int))(c:Nat)(r:(List Int))(h:j9 k a1=some r):
 bZ Tryz.prog 124 [.eq (.slice none 0 0),.eq (.func (.func 89) #[] #[(Pv c)])] [.obj c 23 (Ri a1)] (fun z:Value=>(bp [.eq z],[.sl z 3 (.int .i64) r,.obj c 23 (Ri a1)])):=by
 unfold j9 at h
 replace h:=ba h
 refine zN 13 Tryz.func124 rfl Tryz.ntmps124 rfl fun {M} S w0=>?_
 refine sr ?_
 refine bx fun b1=>?_
 refine au ?_
 refine aj ?_
 refine dE (SE.nil 3 (.int .i64)) ?_
 refine dT 1 rfl ?_
 refine dT 2 rfl ?_
 obtain⟨r5,j,h⟩:=aa h
 refine lS (Δ:=[.obj c 23 (Ri a1),.obj b1 23 (.eq (.slice none 0 0)),.sl (.slice none 0 0) 3 (.int .i64) ([]:(List Int))]) (F:=[]) (X:=Value) (J:=fun _=>G2 r5.2) (E:=fun z3=>[.obj c 23 (Ri a1),.obj b1 23 (.eq z3),.sl z3 3 (.int .i64) r5.1]) (r0:=fun _=>.tup .any) rfl rfl Uh (fun rec hp ha hb hs hpe hN hv l=>?_) (fun dl z3=>oy (fun hj=>?_) (fun hj=>?_))
 ·
  rcases rec with⟨st0,pe0,fn0,tm0,ps0,as0,bd0,df0⟩;dsimp only at hp ha hb hs hpe hN hv;subst hp hs hpe;have vN:vf tm0 [(2,Pt b1)]:=⟨congrArg A.eq (hv 2 _ rfl).symm,trivial⟩;refine dD.pick (M:=M) [1,0,2,3] [1,0,2,3] (q9 (fun(z3:Value) (q:(List Int)×Bool)=>[.raw l (.loop (jv ⟨.ready,none,fn0,tm0, #[7],as0,bd0,df0⟩ (G2 q.2))),.obj b1 23 (.eq z3),.sl z3 3 (.int .i64) q.1]) l (mY (fun(y2:(List Int)) (p4:Int)=>
  (cP (bq (List.length y2+List.length [p4]))).bind fun _=>
  some (y2++[p4],true))) k a1 c (fun z3 q p r' h=>?_) (.slice none 0 0) (([]:(List Int)),false) r5 j) rfl (fun _=>rfl) (fun _=>rfl)
  obtain⟨rq,hq,h2,rfl⟩:=oz h;obtain⟨y2,b5⟩:=q;obtain rfl:b5=false:=hq;replace h:=ba h2;obtain⟨p4,hpv⟩:∃x,x=p:=⟨_,rfl⟩;subst hpv;refine YT.pick (R':=(fun z3:Value=>(.eq (.bool rq.2),[.raw l (.loop (jv ⟨.ready,none,fn0,tm0, #[7],as0,bd0,df0⟩ (G2 (!rq.2)))),.obj b1 23 (.eq z3),.sl z3 3 (.int .i64) rq.1]))) [0,1,2] [0,1,2] (D7 ha hb (N:=13) (Γ:=[(2,Pt b1)]) rfl hN (by decide) vN (fun S w=>?_)) rfl (fun _=>rfl) (fun _=>rfl);refine ab (au ?_);refine tA rfl rfl ?_;refine aj (ab (fr 1 ?_));refine lo bN ?_;refine mq ?_;refine ja (bh (t:=(.int .i64)) [(.tmp 9,_)] [p4] rfl rfl de (.cons rfl .int .nil) rfl rfl) ?_;obtain⟨u6,e,h⟩:=aa h;refine fr 2 ?_;refine cp rfl rfl rfl (be rfl rfl de (ay e)) ⟨rfl,rfl,trivial⟩ fun v7=>?_;refine qy fun o8=>?_;refine fr 1 ?_;refine a8 rfl rfl (aX rfl bN o8 rfl rfl) ⟨rfl,rfl,trivial⟩ ?_;refine ax (bT (aW 1 rfl ?_));refine aW 1 rfl ?_;refine aW 2 rfl ?_;cases h;exact ma v7 2 rfl
 ·
  replace h:=bM (CG hj) h;refine bT (tn (sr (fr 2 ?_)));refine lo bN ?_;refine aq (nt (bJ ?_));refine aW 1 rfl ?_;refine tw ?_;refine bi (SE.fin (Γ':=[(4,_)]) [2,1,0] ⟨rfl,trivial⟩ rfl) ?_;cases h;exact aL z3 [.eq z3] 2 ⟨rfl,trivial⟩ rfl
 ·
  replace h:=cF (CE hj) h;cases h
def lC(k:Nat)(a0:(List Int)):Option (List Int):=
 (j9 k a0).bind fun r1=>
 some r1
theorem rM(k:Nat)(a0:(List Int))(c:Nat)(r:(List Int))(h:lC k a0=some r):
 bZ Tryz.prog 87 [.eq (.func (.func 89) #[] #[(Pv c)])] [.obj c 23 (Ri a0)] (fun z:Value=>(bp [.eq z],[.sl z 3 (.int .i64) r,.obj c 23 (Ri a0)])):=by
 unfold lC at h
 replace h:=ba h
 refine bZ.of 5 Tryz.func87 rfl Tryz.ntmps87 rfl fun S w0=>?_
 refine sr ?_
 refine cq ?_
 refine nt ?_
 refine sr ?_
 refine mq ?_
 obtain⟨r1,e,h⟩:=aa h
 have j:=pE k a0 c r1 e
 refine bO (Δ:=[_]) (F:=_) (fun _ _ _=>aA rfl _) rfl rfl (ao [.const (.slice none 0 0),.tmp 3] rfl rfl RV rfl j) ⟨rfl,rfl,trivial⟩ fun z2=>?_
 refine au ?_
 cases h
 exact aL z2 [.eq z2] 2 ⟨rfl,trivial⟩ rfl
def l7(k:Nat)(a0:Int):Option Bool:=
 some (!decide (a0=a0))
theorem lQ(k:Nat)(a0:Int)(r:Bool)(h:l7 k a0=some r):
 bZ Tryz.prog 95 [I a0] [] (fun _:Unit=>(bp [.eq (.bool r)],[])):=by
 unfold l7 at h
 replace h:=ba h
 refine bZ.of 6 Tryz.func95 rfl Tryz.ntmps95 rfl fun S w0=>?_
 refine au ?_
 refine jb (iZ rfl) ?_
 refine au ?_
 cases h
 exact ra
def wL(k:Nat)(a0:Int)(a1:Int):Option Bool:=
 (((l7 k a0).bind fun r3=>
 if r3=true then((l7 k a1).bind fun r4=>
 if¬(r4=true) then(some true) else(some (decide (a0 < a1)))) else(some (decide (a0 < a1)))):Option (Bool)).bind fun x1=>
 some x1
theorem BA(k:Nat)(a0:Int)(a1:Int)(r:Bool)(h:wL k a0 a1=some r):
 bZ Tryz.prog 147 [I a0,I a1] [] (fun _:Unit=>(bp [.eq (.bool r)],[])):=by
 unfold wL at h
 replace h:=ba h
 refine bZ.of 17 Tryz.func147 rfl Tryz.ntmps147 rfl fun S w0=>?_
 refine sr ?_
 refine cq ?_
 refine nt ?_
 refine aJ (Z:=Unit) (α:=Bool) (fun z2 x1=>[(4,.eq (.bool x1))]) (fun z2 x1=>[]) h (fun K h=>?_) (fun z2 x1 h=>?_)
 ·
  refine ab (mq ?_);obtain⟨r3,e,h⟩:=aa h;refine ja (ao [.tmp 5] rfl rfl L6 rfl (lQ k a0 r3 e)) ?_;refine mq ?_;refine bY (s:=7) rfl (fun hb=>?_) (fun hb=>?_)
  ·replace h:=cF (CE hb) h;refine gm ?_;obtain⟨r4,c,h⟩:=aa h;refine ga (ao [.tmp 8] rfl rfl L6 rfl (lQ k a1 r4 c)) ?_;refine ga (eF rfl) ?_;refine pt ?_;refine mq ?_;refine bY (s:=12) rfl (fun hb=>?_) (fun hb=>?_)
   ·replace h:=cF (Dq hb) h;refine au ?_;exact jz ((),true) h []
   ·replace h:=bM (wj hb) h;refine au ?_;refine gb (bj rfl) ?_;refine au ?_;exact jz ((),decide (a0 < a1)) h []
  ·replace h:=bM (CG hb) h;refine au ?_;refine gb (bj rfl) ?_;refine au ?_;exact jz ((),decide (a0 < a1)) h []
 ·
  refine bJ ?_;cases h;exact ra
def cQ(k:Nat)(a1:Int):Nat→((List Int)×Int)→Option (List Int)
 |0,_=>none
 |n+1,y6=>
  ((if a1 < y6.2 then((aP y6.1 y6.2).bind fun u=>
  (ck (y6.2 - 1)).bind fun s=>
  (aP y6.1 s).bind fun r=>
  (wL k u r).bind fun x=>
  some x) else(some false)):Option (Bool)).bind fun x8=>
  if x8=true then((ck (y6.2 - 1)).bind fun e=>
  (ck (y6.2 - 1)).bind fun l=>
  (aP y6.1 l).bind fun c=>
  (aP y6.1 y6.2).bind fun j=>
  (aP y6.1 y6.2).bind fun D=>
  (aP (List.set y6.1 (Int.toNat y6.2) c) e).bind fun y=>
  (ck (y6.2 - 1)).bind fun h=>
  cQ k a1 n (List.set (List.set y6.1 (Int.toNat y6.2) c) (Int.toNat e) j,h)) else(some y6.1)
def cR(k:Nat)(a1:Int)(a2:Int):Nat→((List Int)×Int)→Option (List Int)
 |0,_=>none
 |n+1,y2=>
  if y2.2 < a2 then(((cQ k a1 k (y2.1,y2.2)):Option ((List Int))).bind fun x4=>
  (ck (y2.2+1)).bind fun c=>
  cR k a1 a2 n (x4,c)) else(some y2.1)
def eN(k:Nat)(a0:(List Int))(a1:Int)(a2:Int):Option (List Int):=
 (ck (a1+1)).bind fun x1=>
 cR k a1 a2 k (a0,x1)
theorem kw(k:Nat)(a0:(List Int))(c:Value)(a1:Int)(a2:Int)(r:(List Int))(h:eN k a0 a1 a2=some r):
 bZ Tryz.prog 141 [.eq c,I a1,I a2] [.sl c 3 (.int .i64) a0] (fun _:Unit=>(bp [],[.sl c 3 (.int .i64) r])):=by
 unfold eN at h
 replace h:=ba h
 refine bZ.of 49 Tryz.func141 rfl Tryz.ntmps141 rfl fun S w0=>?_
 refine au ?_
 obtain⟨x1,VS,h⟩:=aa h
 refine jb (a9 rfl VS) ?_
 refine au ?_
 refine aj ?_
 refine aH (fun z3 y2=>[(0,.eq c),(1,I a1),(2,I a2),(6,I y2.2)]) (fun z3 y2=>[.sl c 3 (.int .i64) y2.1]) (cR k a1 a2) k () (a0,x1) (fun _=>rfl) h (SE.fin [0] ⟨rfl,rfl,rfl,rfl,trivial⟩ rfl) (fun n z3 y2 h=>?_)
 unfold cR at h
 refine au ?_
 refine jb (bj rfl) ?_
 refine nt ?_
 refine ci h (fun h=>?_) (fun h=>?_)
 ·
  refine sk (aJ (Z:=Unit) (α:=(List Int)) (fun z5 x4=>[(0,.eq c),(1,I a1),(2,I a2),(6,I y2.2)]) (fun z5 x4=>[.sl c 3 (.int .i64) x4]) h (fun K h=>?_) (fun z5 x4 h=>?_))
  ·refine aj (au ?_);refine aj (aH (fun z7 y6=>[(0,.eq c),(1,I a1),(2,I a2),(6,I y2.2),(7,I y6.2)]) (fun z7 y6=>[.sl c 3 (.int .i64) y6.1]) (cQ k a1) k () (y2.1,y2.2) (fun _=>rfl) h (SE.fin [0] ⟨rfl,rfl,rfl,rfl,rfl,trivial⟩ rfl) (fun n z7 y6 h=>?_));unfold cQ at h;refine ar (aJ (Z:=Unit) (α:=Bool) (fun z9 x8=>[(0,.eq c),(1,I a1),(2,I a2),(6,I y2.2),(7,I y6.2),(30,.eq (.bool x8))]) (fun z9 x8=>[.sl c 3 (.int .i64) y6.1]) h (fun K h=>?_) (fun z9 x8 h=>?_))
   ·refine bD ?_;refine dm ?_;refine dm ?_;refine db (i7 rfl) ?_;refine nc rfl rfl rfl (aN rfl) ⟨rfl,trivial⟩ (fun hb=>?_) (fun hb=>?_)
    ·replace h:=cF (oe hb) h;refine bg rfl rfl rfl rfl rfl (aN rfl) ⟨rfl,rfl,trivial⟩ ?_;refine bg rfl rfl rfl rfl rfl (aN rfl) ⟨rfl,rfl,trivial⟩ ?_;obtain⟨VH,x,h⟩:=aa h;refine ku 0 rfl rfl rfl rfl rfl rfl (aV (t:=(.int .i64)) rfl dB cC x) ⟨rfl,rfl,rfl,trivial⟩ ?_;refine ku 0 rfl rfl rfl rfl rfl rfl (dV (i:=Int.toNat y6.2) (off:=0) rfl cC (fun _=>rfl) rfl (cz x).2.2 rfl) ⟨rfl,rfl,trivial⟩ ?_;refine bg rfl rfl rfl rfl rfl (aN rfl) ⟨rfl,rfl,trivial⟩ ?_;refine bg rfl rfl rfl rfl rfl (aN rfl) ⟨rfl,rfl,trivial⟩ ?_;obtain⟨VG,qt,h⟩:=aa h;refine bg rfl rfl rfl rfl rfl (eY rfl qt) ⟨rfl,rfl,rfl,trivial⟩ ?_;obtain⟨VF,u,h⟩:=aa h;refine ku 0 rfl rfl rfl rfl rfl rfl (aV (t:=(.int .i64)) rfl dB cC u) ⟨rfl,rfl,rfl,trivial⟩ ?_;refine ku 0 rfl rfl rfl rfl rfl rfl (dV (i:=Int.toNat VG) (off:=0) rfl cC (fun _=>rfl) rfl (cz u).2.2 rfl) ⟨rfl,rfl,trivial⟩ ?_;refine df cG ?_;obtain⟨F,se,h⟩:=aa h;refine gb (ao [.tmp 23,.tmp 28] rfl rfl RN rfl (BA k VH VF F se)) ?_;refine au ?_;exact jz ((),F) h [0]
    ·replace h:=bM (nr hb) h;iterate 9 refine dg ?_
     refine df cG ?_;refine au ?_;exact jz ((),false) h [0]
   ·refine cv h (fun h=>?_) (fun h=>?_)
    ·refine au ?_;refine aj (lB ?_);refine aR rfl rfl rfl (aN rfl) ⟨rfl,trivial⟩ ?_;refine aR rfl rfl rfl (aN rfl) ⟨rfl,trivial⟩ ?_;refine aR rfl rfl rfl (aN rfl) ⟨rfl,trivial⟩ ?_;refine aR rfl rfl rfl (aN rfl) ⟨rfl,trivial⟩ ?_;obtain⟨y,pp,h⟩:=aa h;refine aR rfl rfl rfl (eY rfl pp) ⟨rfl,rfl,trivial⟩ ?_;refine aR rfl rfl rfl (aN rfl) ⟨rfl,trivial⟩ ?_;refine aR rfl rfl rfl (aN rfl) ⟨rfl,trivial⟩ ?_;obtain⟨VE,mc,h⟩:=aa h;refine aR rfl rfl rfl (eY rfl mc) ⟨rfl,rfl,trivial⟩ ?_;obtain⟨E,s,h⟩:=aa h;refine dn 0 rfl rfl rfl rfl (aV (t:=(.int .i64)) rfl dB cC s) ⟨rfl,rfl,trivial⟩ ?_;refine dn 0 rfl rfl rfl rfl (dV (i:=Int.toNat VE) (off:=0) rfl cC (fun _=>rfl) rfl (cz s).2.2 rfl) ⟨rfl,trivial⟩ ?_;refine aR rfl rfl rfl (aN rfl) ⟨rfl,trivial⟩ ?_;refine aR rfl rfl rfl (aN rfl) ⟨rfl,trivial⟩ ?_;obtain⟨D,l,h⟩:=aa h;refine dn 0 rfl rfl rfl rfl (aV (t:=(.int .i64)) rfl dB cC l) ⟨rfl,rfl,trivial⟩ ?_;refine dn 0 rfl rfl rfl rfl (dV (i:=Int.toNat y6.2) (off:=0) rfl cC (fun _=>rfl) rfl (cz l).2.2 rfl) ⟨rfl,trivial⟩ ?_;obtain⟨V1,j,h⟩:=aa h;refine dn 0 rfl rfl rfl rfl (aV (t:=(.int .i64)) rfl dB cC j) ⟨rfl,rfl,trivial⟩ ?_;refine nB 15 [true,true,false,false,false,true,true,true,true,true,true,true,true,true,true] [48] [] [] rfl (by kernel_rfl) (by kernel_rfl) (by kernel_rfl) cG (fun vs hv hB=>?_);obtain⟨w0,Wh,rfl,VQ⟩:=ap hv;obtain⟨w1,Wg,rfl,VP⟩:=ap VQ;obtain⟨w2,We,rfl,VO⟩:=ap VP;obtain⟨w3,Wc,rfl,VN⟩:=ap VO;obtain⟨w4,Wb,rfl,VM⟩:=ap VN;obtain⟨w5,Wa,rfl,VL⟩:=ap VM;obtain⟨w6,V9,rfl,VK⟩:=ap VL;obtain⟨w7,V8,rfl,VJ⟩:=ap VK;obtain⟨w8,V7,rfl,VI⟩:=ap VJ;obtain⟨w9,VZ,rfl,X⟩:=ap VI;obtain⟨V6,VY,rfl,U⟩:=ap X;obtain⟨V5,VX,rfl,Q⟩:=ap U;obtain⟨V4,VV,rfl,O⟩:=ap Q;obtain⟨V3,VU,rfl,M⟩:=ap O;obtain⟨V2,VT,rfl,J⟩:=ap M;obtain rfl:=kZ J;refine⟨[0],[.sl c 3 (.int .i64) y6.1],by kernel_rfl,by decide,?_⟩;refine qw rfl rfl (cI (i:=Int.toNat y6.2) rfl cC rfl (gy j) rfl .int rfl) ⟨rfl,rfl,trivial⟩ (by kernel_rfl) ?_;obtain⟨V0,e,h⟩:=aa h;refine wX rfl rfl rfl rfl (aV (t:=(.int .i64)) rfl dB cC e) ⟨rfl,rfl,trivial⟩ (by kernel_rfl) ?_;refine qw rfl rfl (cI (i:=Int.toNat y) rfl cC rfl (gy e) rfl .int rfl) ⟨rfl,rfl,trivial⟩ (by kernel_rfl) ?_;refine uC ?_;refine bi (SE.fin (Γ':=[(0,.eq c),(1,I a1),(2,I a2),(6,I y2.2),(7,I y6.2)]) (Δ':=[.sl c 3 (.int .i64) (List.set (List.set y6.1 (Int.toNat y6.2) E) (Int.toNat y) D)]) [0] ⟨rfl,rfl,rfl,rfl,rfl,trivial⟩ rfl) ?_;refine au ?_;refine ab (mq ?_);obtain⟨VD,ac,h⟩:=aa h;refine jb (eY rfl ac) ?_;refine au ?_;exact jz ((),(List.set (List.set y6.1 (Int.toNat y6.2) E) (Int.toNat y) D,VD)) h [0]
    ·refine au ?_;exact jz ((),y6.1) h [0]
  ·refine ab (mq ?_);obtain⟨VC,Y,h⟩:=aa h;refine jb (a9 rfl Y) ?_;refine au ?_;exact jz ((),(x4,VC)) h [0]
 ·
  refine au ?_;refine jE ?_;cases h;exact aL () [] 1 trivial rfl
def lE(k:Nat)(a0:Int):Option Int:=
 ((if 4294967296≤a0 then(some (iI .u64 a0 32,32)) else(some (a0,0))):Option (Int×Int)).bind fun x1=>
 ((if 65536≤x1.1 then((ck (x1.2+16)).bind fun x5=>
 some (iI .u64 x1.1 16,x5)) else(some (x1.1,x1.2))):Option (Int×Int)).bind fun x3=>
 ((if 256≤x3.1 then((ck (x3.2+8)).bind fun x8=>
 some (iI .u64 x3.1 8,x8)) else(some (x3.1,x3.2))):Option (Int×Int)).bind fun x6=>
 (DI Lt (IntKind.u8.wrap x6.1)).bind fun x9=>
 (ck (x9.toNat:Int)).bind fun e=>
 (ck (x6.2+e)).bind fun c=>
 some c
theorem rX(k:Nat)(a0:Int)(r:Int)(h:lE k a0=some r):
 bZ Tryz.prog 151 [.eq (.int .u64 a0)] [] (fun _:Unit=>(bp [I r],[])):=by
 unfold lE at h
 replace h:=ba h
 refine bZ.of 25 Tryz.func151 rfl Tryz.ntmps151 rfl fun S w0=>?_
 refine sr ?_
 refine cq ?_
 refine nt ?_
 refine aJ (Z:=Unit) (α:=Int×Int) (fun z2 x1=>[(0,.eq (.int .u64 x1.1)),(2,I x1.2)]) (fun z2 x1=>[]) h (fun K h=>?_) (fun z2 x1 h=>?_)
 ·
  refine au ?_;refine jb (pg rfl) ?_;refine nt (ci h (fun h=>?_) (fun h=>?_))
  ·refine au ?_;refine aF rfl (we rfl (by decide)) ⟨rfl,rfl,trivial⟩ ?_;refine au ?_;refine ab (au ?_);exact jz ((),(iI .u64 a0 32,32)) h []
  ·refine au ?_;exact jz ((),(a0,0)) h []
 ·
  refine aJ (Z:=Unit) (α:=Int×Int) (fun z4 x3=>[(0,.eq (.int .u64 x3.1)),(2,I x3.2)]) (fun z4 x3=>[]) h (fun K h=>?_) (fun z4 x3 h=>?_)
  ·refine au ?_;refine jb (pg rfl) ?_;refine nt (ci h (fun h=>?_) (fun h=>?_))
   ·refine au ?_;refine aF rfl (we rfl (by decide)) ⟨rfl,rfl,trivial⟩ ?_;refine au ?_;refine ab (mq ?_);obtain⟨x5,n,h⟩:=aa h;refine jb (a9 rfl n) ?_;refine au ?_;exact jz ((),(iI .u64 x1.1 16,x5)) h []
   ·refine au ?_;exact jz ((),(x1.1,x1.2)) h []
  ·refine aJ (Z:=Unit) (α:=Int×Int) (fun z7 x6=>[(0,.eq (.int .u64 x6.1)),(2,I x6.2)]) (fun z7 x6=>[]) h (fun K h=>?_) (fun z7 x6 h=>?_)
   ·refine au ?_;refine jb (pg rfl) ?_;refine nt (ci h (fun h=>?_) (fun h=>?_))
    ·refine au ?_;refine aF rfl (we rfl (by decide)) ⟨rfl,rfl,trivial⟩ ?_;refine au ?_;refine ab (mq ?_);obtain⟨x8,l,h⟩:=aa h;refine jb (a9 rfl l) ?_;refine au ?_;exact jz ((),(iI .u64 x3.1 8,x8)) h []
    ·refine au ?_;exact jz ((),(x3.1,x3.2)) h []
   ·refine au ?_;refine ja (pL rfl S7 U5) ?_;obtain⟨x9,j,h⟩:=aa h;refine ja (AK rfl U9 j) ?_;obtain⟨u,e,h⟩:=aa h;refine ja (AL rfl U5 U3 e) ?_;obtain⟨s,c,h⟩:=aa h;refine jb (a9 rfl c) ?_;refine au ?_;cases h;exact ra
def zC(k:Nat)(a0:Int):Option Int:=
 (lE k a0).bind fun r1=>
 some r1
theorem D6(k:Nat)(a0:Int)(r:Int)(h:zC k a0=some r):
 bZ Tryz.prog 126 [.eq (.int .u64 a0)] [] (fun _:Unit=>(bp [I r],[])):=by
 unfold zC at h
 replace h:=ba h
 refine bZ.of 8 Tryz.func126 rfl Tryz.ntmps126 rfl fun S w0=>?_
 refine au ?_
 refine J8 (fun hb=>(by cases hb)) (fun hb=>?_)
 refine au ?_
 obtain⟨r1,c,h⟩:=aa h
 have e:=rX k a0 r1 c
 refine ja (ao [.tmp 6] rfl rfl RL rfl e) ?_
 refine au ?_
 cases h
 exact ra
def fF(k:Nat)(a0:(List Int))(a1:Int)(a2:Int)(a3:Int):Nat→Unit→Option (List Int)
 |0,_=>none
 |n+1,y1=>
  (ck (a2 - a1)).bind fun x3=>
  if x3≤12 then((eN k a0 a1 a2).bind fun r4=>
  some r4) else(if a3=0 then(none) else(none))
def ia(k:Nat)(a0:(List Int))(a1:Int)(a2:Int)(a3:Int):Option (List Int):=
 fF k a0 a1 a2 a3 k ()
theorem mO(k:Nat)(a0:(List Int))(c:Value)(a1:Int)(a2:Int)(a3:Int)(r:(List Int))(h:ia k a0 a1 a2 a3=some r):
 bZ Tryz.prog 125 [.eq c,I a1,I a2,I a3] [.sl c 3 (.int .i64) a0] (fun _:Unit=>(bp [],[.sl c 3 (.int .i64) r])):=by
 unfold ia at h
 replace h:=ba h
 refine bZ.of 134 Tryz.func125 rfl Tryz.ntmps125 rfl fun S w0=>?_
 refine au ?_
 refine aj ?_
 refine aH (fun z2 y1=>[(0,.eq c),(1,I a1),(2,I a2),(3,I a3),(8,.eq (.bool true)),(9,.eq (.bool true))]) (fun z2 y1=>[.sl c 3 (.int .i64) a0]) (fF k a0 a1 a2 a3) k () () (fun _=>rfl) h (SE.fin [0] ⟨rfl,rfl,rfl,rfl,rfl,rfl,trivial⟩ rfl) (fun n z2 y1 h=>?_)
 unfold fF at h
 refine aj ?_
 refine au ?_
 obtain⟨x3,e,h⟩:=aa h
 refine jb (eY rfl e) ?_
 refine au ?_
 refine jb (uH rfl) ?_
 refine nt ?_
 refine ci h (fun h=>?_) (fun h=>?_)
 ·
  refine au ?_;obtain⟨r4,j,h⟩:=aa h;refine kc (ao [.tmp 24,.tmp 25,.tmp 26] rfl rfl RO rfl (kw k a0 c a1 a2 r4 j)) ?_;refine au ?_;cases h;exact aL () [] 1 trivial rfl
 ·
  refine au ?_;refine jb (dX rfl) ?_;refine nt (ci h (fun h=>?_) (fun h=>?_))
  ·refine au ?_;cases h
  ·refine au ?_;refine ja (eF rfl) ?_;refine nt (bK rfl (fun hb=>(by cases hb)) (fun hb=>?_));refine au ?_;cases h
def oD(k:Nat)(a0:(List Int)):Option (List Int):=
 (zC k (IntKind.u64.wrap (a0.length:Int))).bind fun r1=>
 (ia k a0 0 (a0.length:Int) r1).bind fun r2=>
 some r2
theorem uX(k:Nat)(a0:(List Int))(c:Value)(r:(List Int))(h:oD k a0=some r):
 bZ Tryz.prog 88 [.eq c] [.sl c 3 (.int .i64) a0] (fun _:Unit=>(bp [],[.sl c 3 (.int .i64) r])):=by
 unfold oD at h
 replace h:=ba h
 refine bZ.of 11 Tryz.func88 rfl Tryz.ntmps88 rfl fun S w0=>?_
 refine au ?_
 refine ka (cZ rfl rfl dB) ?_
 refine au ?_
 refine ab ?_
 refine au ?_
 refine ja (pL rfl U3 UX) ?_
 obtain⟨r1,j,h⟩:=aa h
 have n:=D6 k (IntKind.u64.wrap (a0.length:Int)) r1 j
 refine ja (ao [.tmp 8] rfl rfl RS rfl n) ?_
 obtain⟨r2,e,h⟩:=aa h
 have l:=mO k a0 c 0 (a0.length:Int) r1 r2 e
 refine bX rfl rfl rfl (ao [.tmp 5,.const (.int .i64 (0)),.tmp 6,.tmp 9] rfl rfl RU rfl l) ⟨rfl,rfl,rfl,rfl,trivial⟩ ?_
 refine ax ?_
 refine jE ?_
 cases h
 exact aL () [] 1 trivial rfl
def mm(k:Nat)(a0:(List Int)):Option (List Int):=
 (lC k a0).bind fun r1=>
 (oD k r1).bind fun r3=>
 some r3
theorem sG(k:Nat)(a0:(List Int))(c:Nat)(r:(List Int))(h:mm k a0=some r):
 bZ Tryz.prog 53 [.eq (.func (.func 89) #[] #[(Pv c)])] [.obj c 23 (Ri a0)] (fun _:Unit=>(bp [Ri r],[.obj c 23 (Ri a0)])):=by
 unfold mm at h
 replace h:=ba h
 refine bZ.of 9 Tryz.func53 rfl Tryz.ntmps53 rfl fun S w0=>?_
 refine sr ?_
 refine cq ?_
 refine nt ?_
 refine sr ?_
 refine mq ?_
 obtain⟨r1,j,h⟩:=aa h
 have n:=rM k a0 c r1 j
 refine bO (Δ:=[_]) (F:=_) (fun _ _ _=>aA rfl _) rfl rfl (ao [.tmp 4] rfl rfl Uj rfl n) ⟨rfl,trivial⟩ fun z2=>?_
 refine au ?_
 obtain⟨r3,e,h⟩:=aa h
 have l:=uX k r1 z2 r3 e
 refine ka (ao [.tmp 6] rfl rfl Ui rfl l) ?_
 refine nt ?_
 refine sr ?_
 refine mq ?_
 refine aq ?_
 refine nt ?_
 refine bJ ?_
 refine bi (dh [2,3,5,6,8] ⟨rfl,rfl,rfl,rfl,rfl,trivial⟩) ?_
 cases h
 exact aL () [_] 1 ⟨rfl,trivial⟩ rfl
theorem sF(a0:(List Int)):bZ Tryz.prog 54 [Ri a0] [] (fun z:Nat=>(bp [.eq (.func (.func 89) #[] #[(Pv z)])],[.obj z 23 (Ri a0)])):=by
 refine bZ.of 4 Tryz.func54 rfl Tryz.ntmps54 rfl fun S w0=>?_;refine sr (bx fun z=>?_);refine au ?_;refine ja (t6 [] [.tmp 1] [] [(Pv z)] rfl rfl rfl) ?_;refine au ?_;exact aL z [_] 1 ⟨rfl,trivial⟩ rfl
def fY(k:Nat)(a0:(List Int)):Option (List Int):=
 (cP (bq (List.length ([]:(List Int))+List.length a0))).bind fun _=>
 some (([]:(List Int))++a0)
theorem dp(k:Nat)(a0:(List Int))(r:(List Int))(h:fY k a0=some r):
 bZ Tryz.prog 24 [Ri a0] [] (fun z:Value=>(bp [.eq z],[.sl z 3 (.int .i64) r])):=by
 unfold fY at h
 replace h:=ba h
 refine bZ.of 6 Tryz.func24 rfl Tryz.ntmps24 rfl fun S w0=>?_
 refine au ?_
 refine aD rfl rfl rfl (ge (t:=(.int .i64)) [] ([]:(List Int)) rfl rfl de .nil rfl rfl) trivial fun v1=>?_
 refine mq ?_
 obtain⟨u2,c,h⟩:=aa h
 refine cp rfl rfl rfl (be rfl rfl de (ay c)) ⟨rfl,rfl,trivial⟩ fun v3=>?_
 refine au ?_
 cases h
 exact aL v3 [.eq v3] 1 ⟨rfl,trivial⟩ rfl
def fM(k:Nat)(a0:aQ):Nat→((List gq)×Int)→Option (List gq)
 |0,_=>none
 |n+1,y9=>
  if y9.2 < (a0.2.1.length:Int) then((aP a0.2.1 y9.2).bind fun c=>
  (aP a0.2.1 y9.2).bind fun j=>
  (fY k j.2).bind fun e=>
  (cP (bq (List.length y9.1+List.length [(c.1,e)]))).bind fun _=>
  (ck (y9.2+1)).bind fun h=>
  fM k a0 n (y9.1++[(c.1,e)],h)) else(some y9.1)
def jk(k:Nat)(a0:aQ):Option aQ:=
 (fY k a0.2.2).bind fun r3=>
 ((fM k a0 k (([]:(List gq)),0)):Option ((List gq))).bind fun x7=>
 some (a0.1,x7,r3)
theorem pm(k:Nat)(a0:aQ)(r:aQ)(h:jk k a0=some r):
 bZ Tryz.prog 8 [.rep an a0] [] (fun z:Value×Value=>(bp [.agg (.pair (I r.1) (.pair (.eq z.1) (.eq z.2)))],[.sl z.1 27 aK r.2.1,.sl z.2 3 (.int .i64) r.2.2])):=by
 unfold jk at h
 replace h:=ba h
 refine bZ.of 38 Tryz.func8 rfl Tryz.ntmps8 rfl fun S w0=>?_
 refine sr ?_
 refine bx fun b1=>?_
 refine aD rfl rfl rfl (aY rfl lJ og) trivial fun b2=>?_
 refine nt ?_
 refine ar ?_
 obtain⟨r3,c,h⟩:=aa h
 refine dE (SE.fin (Γ':=[(1,Pt b1),(2,Pt b2)]) (Δ':=[.obj b2 25 (.agg (.pair (I 0) (.pair (.eq (.slice none 0 0)) (.eq (.slice none 0 0))))),.obj b1 25 (.rep an a0)]) [0,1] ⟨rfl,rfl,trivial⟩ rfl) ?_
 refine wZ (I:=Value×Nat) (Ge:=fun i=>[(1,Pt b1),(2,Pt b2),(3,.eq (.pointer (some ⟨i.2,0,none⟩)))]) (De:=fun i=>[.obj b1 25 (.rep an a0),.obj b2 25 (.agg (.pair (I 0) (.pair (.eq (.slice none 0 0)) (.eq (.slice none 0 0))))),.sl i.1 3 (.int .i64) r3,.obj i.2 25 (.agg (.pair (I a0.1) (.pair (.eq (.slice none 0 0)) (.eq i.1))))]) (L:=[true,true,true,true,true,true,true,true]) cG rfl (fun J hJ hE=>?_) (by kernel_rfl) ?_
 ·
  have s127:∀(v4:Value) (b6:Nat),J 1 [true,true,true,true,true,true,true,false] [(1,Pt b1),(2,Pt b2),(3,Pt b6),(10,.agg (.pair (I a0.1) (.pair (.eq (.slice none 0 0)) (.eq v4))))] [.obj b1 25 (.rep an a0),.obj b2 25 (.agg (.pair (I 0) (.pair (.eq (.slice none 0 0)) (.eq (.slice none 0 0))))),.sl v4 3 (.int .i64) r3,.obj b6 25 (.agg (.pair (I 0) (.pair (.eq (.slice none 0 0)) (.eq (.slice none 0 0)))))]:=fun v4 b6=>by
   subst hJ;refine JD.step [7] (by kernel_rfl) rfl ?_;refine ct.cons rfl ?_ ?_
   ·refine fr 3 ?_;refine a8 rfl rfl (aX rfl du trivial rfl rfl) ⟨rfl,rfl,trivial⟩ ?_;exact aB (hE ⟨v4,b6⟩) [1,2,3,0] ⟨rfl,rfl,rfl,trivial⟩
   exact trivial
  have s63:∀(v4:Value),J 2 [true,true,true,true,true,true,false,false] [(1,Pt b1),(2,Pt b2),(10,.agg (.pair (I a0.1) (.pair (.eq (.slice none 0 0)) (.eq v4))))] [.obj b1 25 (.rep an a0),.obj b2 25 (.agg (.pair (I 0) (.pair (.eq (.slice none 0 0)) (.eq (.slice none 0 0))))),.sl v4 3 (.int .i64) r3]:=fun v4=>by
   subst hJ;refine JD.step [6] (by kernel_rfl) rfl ?_;refine ct.cons rfl ?_ ?_
   ·refine aD rfl rfl rfl (aY rfl lJ og) trivial fun b6=>?_;exact aB (s127 v4 b6) [1,2,3,0] ⟨rfl,rfl,rfl,rfl,trivial⟩
   exact trivial
  have s95:∀(v4:Value) (b6:Nat),J 2 [true,true,true,true,true,false,true,false] [(1,Pt b1),(2,Pt b2),(3,Pt b6),(6,I a0.1),(9,.eq v4)] [.obj b1 25 (.rep an a0),.obj b2 25 (.agg (.pair (I 0) (.pair (.eq (.slice none 0 0)) (.eq (.slice none 0 0))))),.sl v4 3 (.int .i64) r3,.obj b6 25 (.agg (.pair (I 0) (.pair (.eq (.slice none 0 0)) (.eq (.slice none 0 0)))))]:=fun v4 b6=>by
   subst hJ;refine JD.step [5] (by kernel_rfl) rfl ?_;refine ct.cons rfl ?_ ?_
   ·refine fr 2 ?_;refine qy fun o5=>?_;refine jb (c9 [(0,.tmp 6,_),(2,.tmp 9,_)] rfl K0 lJ EX (iN ⟨rfl,o5,trivial⟩) rfl) ?_;exact aB (s127 v4 b6) [1,2,0,3] ⟨rfl,rfl,rfl,rfl,trivial⟩
   exact trivial
  have s31:∀(v4:Value),J 3 [true,true,true,true,true,false,false,false] [(1,Pt b1),(2,Pt b2),(6,I a0.1),(9,.eq v4)] [.obj b1 25 (.rep an a0),.obj b2 25 (.agg (.pair (I 0) (.pair (.eq (.slice none 0 0)) (.eq (.slice none 0 0))))),.sl v4 3 (.int .i64) r3]:=fun v4=>by
   subst hJ;refine JD.step [5,6] (by kernel_rfl) rfl ?_;refine ct.cons rfl ?_ ?_
   ·refine fr 2 ?_;refine qy fun o5=>?_;refine jb (c9 [(0,.tmp 6,_),(2,.tmp 9,_)] rfl K0 lJ EX (iN ⟨rfl,o5,trivial⟩) rfl) ?_;exact aB (s63 v4) [1,2,0] ⟨rfl,rfl,rfl,trivial⟩
   refine ct.cons rfl ?_ ?_
   ·refine aD rfl rfl rfl (aY rfl lJ og) trivial fun b6=>?_;exact aB (s95 v4 b6) [1,2,3,0] ⟨rfl,rfl,rfl,rfl,rfl,trivial⟩
   exact trivial
  have s79:∀(b6:Nat),J 3 [true,true,true,true,false,false,true,false] [(1,Pt b1),(2,Pt b2),(3,Pt b6),(6,I a0.1),(8,Ri a0.2.2)] [.obj b1 25 (.rep an a0),.obj b2 25 (.agg (.pair (I 0) (.pair (.eq (.slice none 0 0)) (.eq (.slice none 0 0))))),.obj b6 25 (.agg (.pair (I 0) (.pair (.eq (.slice none 0 0)) (.eq (.slice none 0 0)))))]:=fun b6=>by
   subst hJ;refine JD.step [4] (by kernel_rfl) rfl ?_;refine ct.cons rfl ?_ ?_
   ·refine aD rfl rfl rfl (ao [.tmp 8] rfl rfl zx rfl (dp k a0.2.2 r3 c)) ⟨rfl,trivial⟩ fun v4=>?_;exact aB (s95 v4 b6) [1,2,0,3] ⟨rfl,rfl,rfl,rfl,rfl,trivial⟩
   exact trivial
  have s93:∀(v4:Value) (b6:Nat),J 3 [true,false,true,true,true,false,true,false] [(1,Pt b1),(2,Pt b2),(3,Pt b6),(5,Pt b1),(9,.eq v4)] [.obj b1 25 (.rep an a0),.obj b2 25 (.agg (.pair (I 0) (.pair (.eq (.slice none 0 0)) (.eq (.slice none 0 0))))),.sl v4 3 (.int .i64) r3,.obj b6 25 (.agg (.pair (I 0) (.pair (.eq (.slice none 0 0)) (.eq (.slice none 0 0)))))]:=fun v4 b6=>by
   subst hJ;refine JD.step [1] (by kernel_rfl) rfl ?_;refine ct.cons rfl ?_ ?_
   ·refine lo cC ?_;exact aB (s95 v4 b6) [0,1,2,3] ⟨rfl,rfl,rfl,rfl,rfl,trivial⟩
   exact trivial
  have s15:J 4 [true,true,true,true,false,false,false,false] [(1,Pt b1),(2,Pt b2),(6,I a0.1),(8,Ri a0.2.2)] [.obj b1 25 (.rep an a0),.obj b2 25 (.agg (.pair (I 0) (.pair (.eq (.slice none 0 0)) (.eq (.slice none 0 0)))))]:=by
   subst hJ;refine JD.step [4,6] (by kernel_rfl) rfl ?_;refine ct.cons rfl ?_ ?_
   ·refine aD rfl rfl rfl (ao [.tmp 8] rfl rfl zx rfl (dp k a0.2.2 r3 c)) ⟨rfl,trivial⟩ fun v4=>?_;exact aB (s31 v4) [1,2,0] ⟨rfl,rfl,rfl,rfl,trivial⟩
   refine ct.cons rfl ?_ ?_
   ·refine aD rfl rfl rfl (aY rfl lJ og) trivial fun b6=>?_;exact aB (s79 b6) [1,2,0] ⟨rfl,rfl,rfl,rfl,rfl,trivial⟩
   exact trivial
  have s71:∀(b6:Nat),J 4 [true,true,true,false,false,false,true,false] [(1,Pt b1),(2,Pt b2),(3,Pt b6),(6,I a0.1),(7,.eq (.pointer (some ⟨b1,2,none⟩)))] [.obj b1 25 (.rep an a0),.obj b2 25 (.agg (.pair (I 0) (.pair (.eq (.slice none 0 0)) (.eq (.slice none 0 0))))),.obj b6 25 (.agg (.pair (I 0) (.pair (.eq (.slice none 0 0)) (.eq (.slice none 0 0)))))]:=fun b6=>by
   subst hJ;refine JD.step [3] (by kernel_rfl) rfl ?_;refine ct.cons rfl ?_ ?_
   ·refine lo bN ?_;exact aB (s79 b6) [0,1,2] ⟨rfl,rfl,rfl,rfl,rfl,trivial⟩
   exact trivial
  have s29:∀(v4:Value),J 4 [true,false,true,true,true,false,false,false] [(1,Pt b1),(2,Pt b2),(5,Pt b1),(9,.eq v4)] [.obj b1 25 (.rep an a0),.obj b2 25 (.agg (.pair (I 0) (.pair (.eq (.slice none 0 0)) (.eq (.slice none 0 0))))),.sl v4 3 (.int .i64) r3]:=fun v4=>by
   subst hJ;refine JD.step [1,6] (by kernel_rfl) rfl ?_;refine ct.cons rfl ?_ ?_
   ·refine lo cC ?_;exact aB (s31 v4) [0,1,2] ⟨rfl,rfl,rfl,rfl,trivial⟩
   refine ct.cons rfl ?_ ?_
   ·refine aD rfl rfl rfl (aY rfl lJ og) trivial fun b6=>?_;exact aB (s93 v4 b6) [1,2,3,0] ⟨rfl,rfl,rfl,rfl,rfl,trivial⟩
   exact trivial
  have s77:∀(b6:Nat),J 4 [true,false,true,true,false,false,true,false] [(1,Pt b1),(2,Pt b2),(3,Pt b6),(5,Pt b1),(8,Ri a0.2.2)] [.obj b1 25 (.rep an a0),.obj b2 25 (.agg (.pair (I 0) (.pair (.eq (.slice none 0 0)) (.eq (.slice none 0 0))))),.obj b6 25 (.agg (.pair (I 0) (.pair (.eq (.slice none 0 0)) (.eq (.slice none 0 0)))))]:=fun b6=>by
   subst hJ;refine JD.step [1,4] (by kernel_rfl) rfl ?_;refine ct.cons rfl ?_ ?_
   ·refine lo cC ?_;exact aB (s79 b6) [0,1,2] ⟨rfl,rfl,rfl,rfl,rfl,trivial⟩
   refine ct.cons rfl ?_ ?_
   ·refine aD rfl rfl rfl (ao [.tmp 8] rfl rfl zx rfl (dp k a0.2.2 r3 c)) ⟨rfl,trivial⟩ fun v4=>?_;exact aB (s93 v4 b6) [1,2,0,3] ⟨rfl,rfl,rfl,rfl,rfl,trivial⟩
   exact trivial
  have s92:∀(v4:Value) (b6:Nat),J 4 [false,false,true,true,true,false,true,false] [(1,Pt b1),(2,Pt b2),(3,Pt b6),(9,.eq v4)] [.obj b1 25 (.rep an a0),.obj b2 25 (.agg (.pair (I 0) (.pair (.eq (.slice none 0 0)) (.eq (.slice none 0 0))))),.sl v4 3 (.int .i64) r3,.obj b6 25 (.agg (.pair (I 0) (.pair (.eq (.slice none 0 0)) (.eq (.slice none 0 0)))))]:=fun v4 b6=>by
   subst hJ;refine JD.step [0] (by kernel_rfl) rfl ?_;refine ct.cons rfl ?_ ?_
   ·refine fl gR ?_;exact aB (s93 v4 b6) [0,1,2,3] ⟨rfl,rfl,rfl,rfl,rfl,trivial⟩
   exact trivial
  have s7:J 5 [true,true,true,false,false,false,false,false] [(1,Pt b1),(2,Pt b2),(6,I a0.1),(7,.eq (.pointer (some ⟨b1,2,none⟩)))] [.obj b1 25 (.rep an a0),.obj b2 25 (.agg (.pair (I 0) (.pair (.eq (.slice none 0 0)) (.eq (.slice none 0 0)))))]:=by
   subst hJ;refine JD.step [3,6] (by kernel_rfl) rfl ?_;refine ct.cons rfl ?_ ?_
   ·refine lo bN ?_;exact aB s15 [0,1] ⟨rfl,rfl,rfl,rfl,trivial⟩
   refine ct.cons rfl ?_ ?_
   ·refine aD rfl rfl rfl (aY rfl lJ og) trivial fun b6=>?_;exact aB (s71 b6) [1,2,0] ⟨rfl,rfl,rfl,rfl,rfl,trivial⟩
   exact trivial
  have s67:∀(b6:Nat),J 5 [true,true,false,false,false,false,true,false] [(1,Pt b1),(2,Pt b2),(3,Pt b6),(6,I a0.1)] [.obj b1 25 (.rep an a0),.obj b2 25 (.agg (.pair (I 0) (.pair (.eq (.slice none 0 0)) (.eq (.slice none 0 0))))),.obj b6 25 (.agg (.pair (I 0) (.pair (.eq (.slice none 0 0)) (.eq (.slice none 0 0)))))]:=fun b6=>by
   subst hJ;refine JD.step [2] (by kernel_rfl) rfl ?_;refine ct.cons rfl ?_ ?_
   ·refine fl cH ?_;exact aB (s71 b6) [0,1,2] ⟨rfl,rfl,rfl,rfl,rfl,trivial⟩
   exact trivial
  have s13:J 5 [true,false,true,true,false,false,false,false] [(1,Pt b1),(2,Pt b2),(5,Pt b1),(8,Ri a0.2.2)] [.obj b1 25 (.rep an a0),.obj b2 25 (.agg (.pair (I 0) (.pair (.eq (.slice none 0 0)) (.eq (.slice none 0 0)))))]:=by
   subst hJ;refine JD.step [1,4,6] (by kernel_rfl) rfl ?_;refine ct.cons rfl ?_ ?_
   ·refine lo cC ?_;exact aB s15 [0,1] ⟨rfl,rfl,rfl,rfl,trivial⟩
   refine ct.cons rfl ?_ ?_
   ·refine aD rfl rfl rfl (ao [.tmp 8] rfl rfl zx rfl (dp k a0.2.2 r3 c)) ⟨rfl,trivial⟩ fun v4=>?_;exact aB (s29 v4) [1,2,0] ⟨rfl,rfl,rfl,rfl,trivial⟩
   refine ct.cons rfl ?_ ?_
   ·refine aD rfl rfl rfl (aY rfl lJ og) trivial fun b6=>?_;exact aB (s77 b6) [1,2,0] ⟨rfl,rfl,rfl,rfl,rfl,trivial⟩
   exact trivial
  have s69:∀(b6:Nat),J 5 [true,false,true,false,false,false,true,false] [(1,Pt b1),(2,Pt b2),(3,Pt b6),(5,Pt b1),(7,.eq (.pointer (some ⟨b1,2,none⟩)))] [.obj b1 25 (.rep an a0),.obj b2 25 (.agg (.pair (I 0) (.pair (.eq (.slice none 0 0)) (.eq (.slice none 0 0))))),.obj b6 25 (.agg (.pair (I 0) (.pair (.eq (.slice none 0 0)) (.eq (.slice none 0 0)))))]:=fun b6=>by
   subst hJ;refine JD.step [1,3] (by kernel_rfl) rfl ?_;refine ct.cons rfl ?_ ?_
   ·refine lo cC ?_;exact aB (s71 b6) [0,1,2] ⟨rfl,rfl,rfl,rfl,rfl,trivial⟩
   refine ct.cons rfl ?_ ?_
   ·refine lo bN ?_;exact aB (s77 b6) [0,1,2] ⟨rfl,rfl,rfl,rfl,rfl,trivial⟩
   exact trivial
  have s28:∀(v4:Value),J 5 [false,false,true,true,true,false,false,false] [(1,Pt b1),(2,Pt b2),(9,.eq v4)] [.obj b1 25 (.rep an a0),.obj b2 25 (.agg (.pair (I 0) (.pair (.eq (.slice none 0 0)) (.eq (.slice none 0 0))))),.sl v4 3 (.int .i64) r3]:=fun v4=>by
   subst hJ;refine JD.step [0,6] (by kernel_rfl) rfl ?_;refine ct.cons rfl ?_ ?_
   ·refine fl gR ?_;exact aB (s29 v4) [0,1,2] ⟨rfl,rfl,rfl,rfl,trivial⟩
   refine ct.cons rfl ?_ ?_
   ·refine aD rfl rfl rfl (aY rfl lJ og) trivial fun b6=>?_;exact aB (s92 v4 b6) [1,2,3,0] ⟨rfl,rfl,rfl,rfl,trivial⟩
   exact trivial
  have s76:∀(b6:Nat),J 5 [false,false,true,true,false,false,true,false] [(1,Pt b1),(2,Pt b2),(3,Pt b6),(8,Ri a0.2.2)] [.obj b1 25 (.rep an a0),.obj b2 25 (.agg (.pair (I 0) (.pair (.eq (.slice none 0 0)) (.eq (.slice none 0 0))))),.obj b6 25 (.agg (.pair (I 0) (.pair (.eq (.slice none 0 0)) (.eq (.slice none 0 0)))))]:=fun b6=>by
   subst hJ;refine JD.step [0,4] (by kernel_rfl) rfl ?_;refine ct.cons rfl ?_ ?_
   ·refine fl gR ?_;exact aB (s77 b6) [0,1,2] ⟨rfl,rfl,rfl,rfl,rfl,trivial⟩
   refine ct.cons rfl ?_ ?_
   ·refine aD rfl rfl rfl (ao [.tmp 8] rfl rfl zx rfl (dp k a0.2.2 r3 c)) ⟨rfl,trivial⟩ fun v4=>?_;exact aB (s92 v4 b6) [1,2,0,3] ⟨rfl,rfl,rfl,rfl,trivial⟩
   exact trivial
  have s3:J 6 [true,true,false,false,false,false,false,false] [(1,Pt b1),(2,Pt b2),(6,I a0.1)] [.obj b1 25 (.rep an a0),.obj b2 25 (.agg (.pair (I 0) (.pair (.eq (.slice none 0 0)) (.eq (.slice none 0 0)))))]:=by
   subst hJ;refine JD.step [2,6] (by kernel_rfl) rfl ?_;refine ct.cons rfl ?_ ?_
   ·refine fl cH ?_;exact aB s7 [0,1] ⟨rfl,rfl,rfl,rfl,trivial⟩
   refine ct.cons rfl ?_ ?_
   ·refine aD rfl rfl rfl (aY rfl lJ og) trivial fun b6=>?_;exact aB (s67 b6) [1,2,0] ⟨rfl,rfl,rfl,rfl,trivial⟩
   exact trivial
  have s5:J 6 [true,false,true,false,false,false,false,false] [(1,Pt b1),(2,Pt b2),(5,Pt b1),(7,.eq (.pointer (some ⟨b1,2,none⟩)))] [.obj b1 25 (.rep an a0),.obj b2 25 (.agg (.pair (I 0) (.pair (.eq (.slice none 0 0)) (.eq (.slice none 0 0)))))]:=by
   subst hJ;refine JD.step [1,3,6] (by kernel_rfl) rfl ?_;refine ct.cons rfl ?_ ?_
   ·refine lo cC ?_;exact aB s7 [0,1] ⟨rfl,rfl,rfl,rfl,trivial⟩
   refine ct.cons rfl ?_ ?_
   ·refine lo bN ?_;exact aB s13 [0,1] ⟨rfl,rfl,rfl,rfl,trivial⟩
   refine ct.cons rfl ?_ ?_
   ·refine aD rfl rfl rfl (aY rfl lJ og) trivial fun b6=>?_;exact aB (s69 b6) [1,2,0] ⟨rfl,rfl,rfl,rfl,rfl,trivial⟩
   exact trivial
  have s65:∀(b6:Nat),J 6 [true,false,false,false,false,false,true,false] [(1,Pt b1),(2,Pt b2),(3,Pt b6),(5,Pt b1)] [.obj b1 25 (.rep an a0),.obj b2 25 (.agg (.pair (I 0) (.pair (.eq (.slice none 0 0)) (.eq (.slice none 0 0))))),.obj b6 25 (.agg (.pair (I 0) (.pair (.eq (.slice none 0 0)) (.eq (.slice none 0 0)))))]:=fun b6=>by
   subst hJ;refine JD.step [1,2] (by kernel_rfl) rfl ?_;refine ct.cons rfl ?_ ?_
   ·refine lo cC ?_;exact aB (s67 b6) [0,1,2] ⟨rfl,rfl,rfl,rfl,trivial⟩
   refine ct.cons rfl ?_ ?_
   ·refine fl cH ?_;exact aB (s69 b6) [0,1,2] ⟨rfl,rfl,rfl,rfl,rfl,trivial⟩
   exact trivial
  have s12:J 6 [false,false,true,true,false,false,false,false] [(1,Pt b1),(2,Pt b2),(8,Ri a0.2.2)] [.obj b1 25 (.rep an a0),.obj b2 25 (.agg (.pair (I 0) (.pair (.eq (.slice none 0 0)) (.eq (.slice none 0 0)))))]:=by
   subst hJ;refine JD.step [0,4,6] (by kernel_rfl) rfl ?_;refine ct.cons rfl ?_ ?_
   ·refine fl gR ?_;exact aB s13 [0,1] ⟨rfl,rfl,rfl,rfl,trivial⟩
   refine ct.cons rfl ?_ ?_
   ·refine aD rfl rfl rfl (ao [.tmp 8] rfl rfl zx rfl (dp k a0.2.2 r3 c)) ⟨rfl,trivial⟩ fun v4=>?_;exact aB (s28 v4) [1,2,0] ⟨rfl,rfl,rfl,trivial⟩
   refine ct.cons rfl ?_ ?_
   ·refine aD rfl rfl rfl (aY rfl lJ og) trivial fun b6=>?_;exact aB (s76 b6) [1,2,0] ⟨rfl,rfl,rfl,rfl,trivial⟩
   exact trivial
  have s68:∀(b6:Nat),J 6 [false,false,true,false,false,false,true,false] [(1,Pt b1),(2,Pt b2),(3,Pt b6),(7,.eq (.pointer (some ⟨b1,2,none⟩)))] [.obj b1 25 (.rep an a0),.obj b2 25 (.agg (.pair (I 0) (.pair (.eq (.slice none 0 0)) (.eq (.slice none 0 0))))),.obj b6 25 (.agg (.pair (I 0) (.pair (.eq (.slice none 0 0)) (.eq (.slice none 0 0)))))]:=fun b6=>by
   subst hJ;refine JD.step [0,3] (by kernel_rfl) rfl ?_;refine ct.cons rfl ?_ ?_
   ·refine fl gR ?_;exact aB (s69 b6) [0,1,2] ⟨rfl,rfl,rfl,rfl,rfl,trivial⟩
   refine ct.cons rfl ?_ ?_
   ·refine lo bN ?_;exact aB (s76 b6) [0,1,2] ⟨rfl,rfl,rfl,rfl,trivial⟩
   exact trivial
  have s1:J 7 [true,false,false,false,false,false,false,false] [(1,Pt b1),(2,Pt b2),(5,Pt b1)] [.obj b1 25 (.rep an a0),.obj b2 25 (.agg (.pair (I 0) (.pair (.eq (.slice none 0 0)) (.eq (.slice none 0 0)))))]:=by
   subst hJ;refine JD.step [1,2,6] (by kernel_rfl) rfl ?_;refine ct.cons rfl ?_ ?_
   ·refine lo cC ?_;exact aB s3 [0,1] ⟨rfl,rfl,rfl,trivial⟩
   refine ct.cons rfl ?_ ?_
   ·refine fl cH ?_;exact aB s5 [0,1] ⟨rfl,rfl,rfl,rfl,trivial⟩
   refine ct.cons rfl ?_ ?_
   ·refine aD rfl rfl rfl (aY rfl lJ og) trivial fun b6=>?_;exact aB (s65 b6) [1,2,0] ⟨rfl,rfl,rfl,rfl,trivial⟩
   exact trivial
  have s4:J 7 [false,false,true,false,false,false,false,false] [(1,Pt b1),(2,Pt b2),(7,.eq (.pointer (some ⟨b1,2,none⟩)))] [.obj b1 25 (.rep an a0),.obj b2 25 (.agg (.pair (I 0) (.pair (.eq (.slice none 0 0)) (.eq (.slice none 0 0)))))]:=by
   subst hJ;refine JD.step [0,3,6] (by kernel_rfl) rfl ?_;refine ct.cons rfl ?_ ?_
   ·refine fl gR ?_;exact aB s5 [0,1] ⟨rfl,rfl,rfl,rfl,trivial⟩
   refine ct.cons rfl ?_ ?_
   ·refine lo bN ?_;exact aB s12 [0,1] ⟨rfl,rfl,rfl,trivial⟩
   refine ct.cons rfl ?_ ?_
   ·refine aD rfl rfl rfl (aY rfl lJ og) trivial fun b6=>?_;exact aB (s68 b6) [1,2,0] ⟨rfl,rfl,rfl,rfl,trivial⟩
   exact trivial
  have s64:∀(b6:Nat),J 7 [false,false,false,false,false,false,true,false] [(1,Pt b1),(2,Pt b2),(3,Pt b6)] [.obj b1 25 (.rep an a0),.obj b2 25 (.agg (.pair (I 0) (.pair (.eq (.slice none 0 0)) (.eq (.slice none 0 0))))),.obj b6 25 (.agg (.pair (I 0) (.pair (.eq (.slice none 0 0)) (.eq (.slice none 0 0)))))]:=fun b6=>by
   subst hJ;refine JD.step [0,2] (by kernel_rfl) rfl ?_;refine ct.cons rfl ?_ ?_
   ·refine fl gR ?_;exact aB (s65 b6) [0,1,2] ⟨rfl,rfl,rfl,rfl,trivial⟩
   refine ct.cons rfl ?_ ?_
   ·refine fl cH ?_;exact aB (s68 b6) [0,1,2] ⟨rfl,rfl,rfl,rfl,trivial⟩
   exact trivial
  have s0:J 8 [false,false,false,false,false,false,false,false] [(1,Pt b1),(2,Pt b2)] [.obj b2 25 (.agg (.pair (I 0) (.pair (.eq (.slice none 0 0)) (.eq (.slice none 0 0))))),.obj b1 25 (.rep an a0)]:=by
   subst hJ;refine JD.step [0,2,6] (by kernel_rfl) rfl ?_;refine ct.cons rfl ?_ ?_
   ·refine fl gR ?_;exact aB s1 [1,0] ⟨rfl,rfl,rfl,trivial⟩
   refine ct.cons rfl ?_ ?_
   ·refine fl cH ?_;exact aB s4 [1,0] ⟨rfl,rfl,rfl,trivial⟩
   refine ct.cons rfl ?_ ?_
   ·refine aD rfl rfl rfl (aY rfl lJ og) trivial fun b6=>?_;exact aB (s64 b6) [2,1,0] ⟨rfl,rfl,rfl,trivial⟩
   exact trivial
  exact s0
 rintro⟨v4,b6⟩
 show JN _ _ [(1,Pt b1),(2,Pt b2),(3,Pt b6)] [.obj b1 25 (.rep an a0),.obj b2 25 (.agg (.pair (I 0) (.pair (.eq (.slice none 0 0)) (.eq (.slice none 0 0))))),.sl v4 3 (.int .i64) r3,.obj b6 25 (.agg (.pair (I a0.1) (.pair (.eq (.slice none 0 0)) (.eq v4))))]
 refine tn ?_
 refine aJ (Z:=Value) (α:=(List gq)) (fun z8 x7=>[(2,Pt b2),(3,Pt b6)]) (fun z8 x7=>[.obj b2 25 (.agg (.pair (I 0) (.pair (.eq (.slice none 0 0)) (.eq (.slice none 0 0))))),.obj b6 25 (.agg (.pair (I a0.1) (.pair (.eq z8) (.eq v4)))),.sl z8 27 aK x7,.sl v4 3 (.int .i64) r3]) h (fun K h=>?_) (fun z8 x7 h=>?_)
 ·
  refine au ?_;refine aj (dE (SE.nil 27 aK) ?_);refine aH (fun e y9=>[(1,Pt b1),(2,Pt b2),(3,Pt b6),(4,I y9.2)]) (fun e y9=>[.obj b1 25 (.rep an a0),.obj b2 25 (.agg (.pair (I 0) (.pair (.eq (.slice none 0 0)) (.eq (.slice none 0 0))))),.obj b6 25 (.agg (.pair (I a0.1) (.pair (.eq e) (.eq v4)))),.sl e 27 aK y9.1,.sl v4 3 (.int .i64) r3]) (fM k a0) k (.slice none 0 0) (([]:(List gq)),0) (fun _=>rfl) h (SE.fin [1,2,4,0,3] ⟨rfl,rfl,rfl,rfl,trivial⟩ rfl) (fun n e y9 h=>?_);unfold fM at h;refine au ?_;refine fl cg ?_;refine lo fR ?_;refine ol nD ?_;refine jb (bj rfl) ?_;refine nt (ci h (fun h=>?_) (fun h=>?_))
  ·refine au ?_;refine aj (bD ?_);refine da (av rfl cg) ?_;refine ea 2 (ah rfl fR jw rfl) ?_;refine da (av rfl cg) ?_;refine ea 0 (ah rfl fR jw rfl) ?_;refine dm ?_;obtain⟨l,x,h⟩:=aa h;refine db (aG (t:=aK) rfl nD ju x) ?_;refine da (aI 1 false rfl kO rfl) ?_;refine da (ak (t:=(.int .i64)) rfl cC rfl) ?_;refine da (av rfl cg) ?_;refine ea 0 (ah rfl fR jw rfl) ?_;refine dm ?_;obtain⟨F,u,h⟩:=aa h;refine db (aG (t:=aK) rfl nD ju u) ?_;refine da (aI 1 false rfl kN rfl) ?_;refine da (ak (t:=(.slice (.int .i64))) rfl bN rfl) ?_;obtain⟨j,D,h⟩:=aa h;refine da (zH (ao [.tmp 31] rfl rfl zx rfl (dp k F.2 j D))) ?_;refine db (c9 [(0,.tmp 25,_),(1,.tmp 32,_)] rfl Dc vx wP (iN ⟨rfl,rfl,trivial⟩) rfl) ?_;refine da (bh (t:=aK) [(.tmp 33,_)] [(l.1,j)] rfl rfl CV (.cons trivial (.agg (.pair .int .rep)) .nil) rfl rfl) ?_;refine df cG ?_;obtain⟨O,y,h⟩:=aa h;refine fr 3 ?_;refine cp rfl rfl rfl (be rfl rfl CV (ay y)) ⟨rfl,rfl,trivial⟩ fun M=>?_;refine fl cg ?_;refine qy fun o16=>?_;refine fr 3 ?_;refine a8 rfl rfl (aX rfl fR o16 rfl rfl) ⟨rfl,rfl,trivial⟩ ?_;refine au ?_;refine ab (mq ?_);obtain⟨E,s,h⟩:=aa h;refine jb (a9 rfl s) ?_;refine au ?_;exact jz (M,(y9.1++[(l.1,j)],E)) h [2,3,0,1,4]
  ·refine au ?_;exact jz (e,y9.1) h [1,2,3,4]
 ·
  refine sr (fr 1 ?_);refine lo du ?_;refine fr 1 ?_;refine a8 rfl rfl (aX rfl du trivial rfl rfl) ⟨rfl,rfl,trivial⟩ ?_;refine nt (bJ (bi (SE.fin (Γ':=[(2,_)]) [2,3,0,1] ⟨rfl,trivial⟩ rfl) ?_));cases h;exact aL (z8,v4) [.agg (.pair (I a0.1) (.pair (.eq z8) (.eq v4)))] 2 ⟨⟨_,_,_,_,_,rfl,(.tail _ (.tail _ (.head _))),du,(sT),rfl⟩,trivial⟩ rfl
def jC(k:Nat)(a0:bW):Option (Int×bW):=
 ((if a0.2.1 < (a0.1.length:Int) then((aP a0.1 a0.2.1).bind fun x3=>
 some (IntKind.u64.wrap ((IntKind.u64.wrap ((IntKind.u64.wrap (a0.2.2 * 6364136223846793005))+1442695040888963407))+(IntKind.u64.wrap ((IntKind.u64.wrap x3) * 2862933555777941757))))) else(some (IntKind.u64.wrap ((IntKind.u64.wrap (a0.2.2 * 6364136223846793005))+1442695040888963407)))):Option (Int)).bind fun x1=>
 (ck (a0.2.1+1)).bind fun x4=>
 some (iI .u64 (rY .u64 (IntKind.u64.wrap ((rY .u64 x1 (iI .u64 x1 29)) * 2685821657736338717)) (iI .u64 (IntKind.u64.wrap ((rY .u64 x1 (iI .u64 x1 29)) * 2685821657736338717)) 32)) 8,(a0.1,x4,x1))
theorem ui(k:Nat)(a0:bW)(c:Nat)(r:Int×bW)(h:jC k a0=some r):
 bZ Tryz.prog 94 [Pt c] [.obj c 64 (.agg (.pair (Ri a0.1) (.pair (I a0.2.1) (.eq (.int .u64 a0.2.2)))))] (fun _:Unit=>(bp [.eq (.int .u64 r.1)],[.obj c 64 (.agg (.pair (Ri r.2.1) (.pair (I r.2.2.1) (.eq (.int .u64 r.2.2.2)))))])):=by
 unfold jC at h
 replace h:=ba h
 refine bZ.of 67 Tryz.func94 rfl Tryz.ntmps94 rfl fun S w0=>?_
 refine au ?_
 refine ja (bb rfl) ?_
 refine fl uk ?_
 refine lo FA ?_
 refine jb (Dm rfl) ?_
 refine jb (Dp rfl) ?_
 refine ja (bb rfl) ?_
 refine fl uk ?_
 refine a8 rfl rfl (aX rfl FA rfl rfl rfl) ⟨rfl,rfl,trivial⟩ ?_
 refine nt ?_
 refine aJ (Z:=Unit) (α:=Int) (fun z2 x1=>[(0,Pt c)]) (fun z2 x1=>[.obj c 64 (.agg (.pair (Ri a0.1) (.pair (I a0.2.1) (.eq (.int .u64 x1)))))]) h (fun K h=>?_) (fun z2 x1 h=>?_)
 ·
  refine ar (bD ?_);refine dm ?_;refine da (bb rfl) ?_;refine da (av rfl zq) ?_;refine ea 0 (ah rfl cC jw rfl) ?_;refine dm ?_;refine da (bb rfl) ?_;refine da (av rfl Jf) ?_;refine ea 0 (ah rfl bN jw rfl) ?_;refine da (jq rfl rfl dB) ?_;refine df cG ?_;refine jb (bj rfl) ?_;refine nt (ci h (fun h=>?_) (fun h=>?_))
  ·refine bD ?_;refine dm ?_;refine dm ?_;refine da (bb rfl) ?_;refine da (av rfl uk) ?_;refine ea 0 (ah rfl FA jw rfl) ?_;refine dm ?_;refine da (bb rfl) ?_;refine da (av rfl Jf) ?_;refine ea 0 (ah rfl bN jw rfl) ?_;refine dm ?_;refine da (bb rfl) ?_;refine da (av rfl zq) ?_;refine ea 0 (ah rfl cC jw rfl) ?_;obtain⟨x3,j,h⟩:=aa h;refine db (aG (t:=(.int .i64)) rfl dB cC j) ?_;refine da (ak (t:=(.int .i64)) rfl cC rfl) ?_;refine da (pL rfl U3 S7) ?_;refine db (Dm rfl) ?_;refine db (Dp rfl) ?_;refine df cG ?_;refine ja (bb rfl) ?_;refine fl uk ?_;refine a8 rfl rfl (aX rfl FA rfl rfl rfl) ⟨rfl,rfl,trivial⟩ ?_;refine au ?_;exact jz ((),IntKind.u64.wrap ((IntKind.u64.wrap ((IntKind.u64.wrap (a0.2.2 * 6364136223846793005))+1442695040888963407))+(IntKind.u64.wrap ((IntKind.u64.wrap x3) * 2862933555777941757)))) h [0]
  ·refine au ?_;exact jz ((),IntKind.u64.wrap ((IntKind.u64.wrap (a0.2.2 * 6364136223846793005))+1442695040888963407)) h [0]
 ·
  refine au ?_;refine ja (bb rfl) ?_;refine fl zq ?_;refine lo cC ?_;obtain⟨x4,e,h⟩:=aa h;refine jb (a9 rfl e) ?_;refine ja (bb rfl) ?_;refine fl zq ?_;refine a8 rfl rfl (aX rfl cC rfl rfl rfl) ⟨rfl,rfl,trivial⟩ ?_;refine au ?_;refine bD ?_;refine dm ?_;refine da (bb rfl) ?_;refine da (av rfl uk) ?_;refine ea 0 (ah rfl FA jw rfl) ?_;refine dm ?_;refine da (bb rfl) ?_;refine da (av rfl uk) ?_;refine ea 0 (ah rfl FA jw rfl) ?_;refine dt rfl rfl rfl (we rfl (by decide)) ⟨rfl,rfl,trivial⟩ ?_;refine df cG ?_;refine jb (NE rfl) ?_;refine au ?_;refine jb (Dm rfl) ?_;refine au ?_;refine aF rfl (we rfl (by decide)) ⟨rfl,rfl,trivial⟩ ?_;refine jb (NE rfl) ?_;refine aF rfl (we rfl (by decide)) ⟨rfl,rfl,trivial⟩ ?_;refine au ?_;cases h;exact aL () [_] 1 ⟨rfl,trivial⟩ rfl
def d4(k:Nat)(a0:bW)(a1:Int):Option (Int×bW):=
 if a1 < 1 then(some (0,(a0.1,a0.2.1,a0.2.2))) else((jC k (a0.1,a0.2.1,a0.2.2)).bind fun r1=>
 (ck (a1+1)).bind fun x2=>
 (cP ((IntKind.u64.wrap x2)≠0)).bind fun _=>
 (ck (Int.tmod r1.1 (IntKind.u64.wrap x2))).bind fun x4=>
 some (x4,(r1.2.1,r1.2.2.1,r1.2.2.2)))
theorem gP(k:Nat)(a0:bW)(c:Nat)(a1:Int)(r:Int×bW)(h:d4 k a0 a1=some r):
 bZ Tryz.prog 63 [Pt c,I a1] [.obj c 64 (.agg (.pair (Ri a0.1) (.pair (I a0.2.1) (.eq (.int .u64 a0.2.2)))))] (fun _:Unit=>(bp [I r.1],[.obj c 64 (.agg (.pair (Ri r.2.1) (.pair (I r.2.2.1) (.eq (.int .u64 r.2.2.2)))))])):=by
 unfold d4 at h
 replace h:=ba h
 refine bZ.of 14 Tryz.func63 rfl Tryz.ntmps63 rfl fun S w0=>?_
 refine au ?_
 refine jb (bj rfl) ?_
 refine nt ?_
 refine ci h (fun h=>?_) (fun h=>?_)
 ·
  refine au ?_;cases h;exact aL () [_] 1 ⟨rfl,trivial⟩ rfl
 ·
  refine au ?_;obtain⟨r1,n,h⟩:=aa h;refine ka (ao [.tmp 7] rfl rfl Ug rfl (ui k (a0.1,a0.2.1,a0.2.2) c r1 n)) ?_;refine mq ?_;obtain⟨x2,j,h⟩:=aa h;refine jb (a9 rfl j) ?_;refine ja (pL rfl U3 S7) ?_;obtain⟨u3,l,h⟩:=aa h;refine jb (H2 rfl (ay l)) ?_;obtain⟨x4,e,h⟩:=aa h;refine ja (AL rfl S7 U3 e) ?_;refine au ?_;cases h;exact aL () [_] 1 ⟨rfl,trivial⟩ rfl
def fg(k:Nat)(a0:bW)(a1:Int)(a2:Int):Option (Int×bW):=
 (ck (a2 - a1)).bind fun x1=>
 (d4 k (a0.1,a0.2.1,a0.2.2) x1).bind fun r2=>
 (ck (a1+r2.1)).bind fun x3=>
 some (x3,(r2.2.1,r2.2.2.1,r2.2.2.2))
theorem mF(k:Nat)(a0:bW)(c:Nat)(a1:Int)(a2:Int)(r:Int×bW)(h:fg k a0 a1 a2=some r):
 bZ Tryz.prog 59 [Pt c,I a1,I a2] [.obj c 64 (.agg (.pair (Ri a0.1) (.pair (I a0.2.1) (.eq (.int .u64 a0.2.2)))))] (fun _:Unit=>(bp [I r.1],[.obj c 64 (.agg (.pair (Ri r.2.1) (.pair (I r.2.2.1) (.eq (.int .u64 r.2.2.2)))))])):=by
 unfold fg at h
 replace h:=ba h
 refine bZ.of 14 Tryz.func59 rfl Tryz.ntmps59 rfl fun S w0=>?_
 refine au ?_
 obtain⟨x1,j,h⟩:=aa h
 refine jb (eY rfl j) ?_
 obtain⟨r2,l,h⟩:=aa h
 have n:=gP k (a0.1,a0.2.1,a0.2.2) c x1 r2 l
 refine kb (ao [.tmp 8,.tmp 11] rfl rfl Jr rfl n) ?_
 obtain⟨x3,e,h⟩:=aa h
 refine jb (a9 rfl e) ?_
 refine au ?_
 cases h
 exact aL () [_] 1 ⟨rfl,trivial⟩ rfl
def jV(k:Nat)(a0:bW)(a1:(List Int)):Option (Int×bW):=
 (ck ((a1.length:Int) - 1)).bind fun x1=>
 (d4 k (a0.1,a0.2.1,a0.2.2) x1).bind fun r2=>
 (aP a1 r2.1).bind fun x3=>
 some (x3,(r2.2.1,r2.2.2.1,r2.2.2.2))
theorem pU(k:Nat)(a0:bW)(c:Nat)(a1:(List Int))(r:Int×bW)(h:jV k a0 a1=some r):
 bZ Tryz.prog 60 [Pt c,Ri a1] [.obj c 64 (.agg (.pair (Ri a0.1) (.pair (I a0.2.1) (.eq (.int .u64 a0.2.2)))))] (fun _:Unit=>(bp [I r.1],[.obj c 64 (.agg (.pair (Ri r.2.1) (.pair (I r.2.2.1) (.eq (.int .u64 r.2.2.2)))))])):=by
 unfold jV at h
 replace h:=ba h
 refine bZ.of 13 Tryz.func60 rfl Tryz.ntmps60 rfl fun S w0=>?_
 refine au ?_
 refine ol dB ?_
 obtain⟨x1,j,h⟩:=aa h
 refine jb (eY rfl j) ?_
 obtain⟨r2,l,h⟩:=aa h
 have n:=gP k (a0.1,a0.2.1,a0.2.2) c x1 r2 l
 refine kb (ao [.tmp 6,.tmp 9] rfl rfl Jr rfl n) ?_
 obtain⟨x3,e,h⟩:=aa h
 refine jb (aG (t:=(.int .i64)) rfl dB cC e) ?_
 refine ja (ak (t:=(.int .i64)) rfl cC rfl) ?_
 refine au ?_
 cases h
 exact aL () [_] 1 ⟨rfl,trivial⟩ rfl
def gh(k:Nat)(a0:bW)(a1:Int):Option (Bool×bW):=
 (ck (a1 - 1)).bind fun x1=>
 (d4 k (a0.1,a0.2.1,a0.2.2) x1).bind fun r2=>
 some (decide (r2.1=0),(r2.2.1,r2.2.2.1,r2.2.2.2))
theorem nZ(k:Nat)(a0:bW)(c:Nat)(a1:Int)(r:Bool×bW)(h:gh k a0 a1=some r):
 bZ Tryz.prog 61 [Pt c,I a1] [.obj c 64 (.agg (.pair (Ri a0.1) (.pair (I a0.2.1) (.eq (.int .u64 a0.2.2)))))] (fun _:Unit=>(bp [.eq (.bool r.1)],[.obj c 64 (.agg (.pair (Ri r.2.1) (.pair (I r.2.2.1) (.eq (.int .u64 r.2.2.2)))))])):=by
 unfold gh at h
 replace h:=ba h
 refine bZ.of 10 Tryz.func61 rfl Tryz.ntmps61 rfl fun S w0=>?_
 refine au ?_
 obtain⟨x1,e,h⟩:=aa h
 refine jb (eY rfl e) ?_
 obtain⟨r2,j,h⟩:=aa h
 have l:=gP k (a0.1,a0.2.1,a0.2.2) c x1 r2 j
 refine kb (ao [.tmp 5,.tmp 7] rfl rfl Jr rfl l) ?_
 refine jb (dX rfl) ?_
 refine au ?_
 cases h
 exact aL () [_] 1 ⟨rfl,trivial⟩ rfl
def fa(k:Nat)(r2:Int×bW):Nat→((List Int)×Int×Int×(List Int)×Int)→Option ((List Int)×Int×Int×(List Int))
 |0,_=>none
 |n+1,c=>
  if c.2.2.2.2 < r2.1 then((((gh k (c.1,c.2.1,c.2.2.1) 2).bind fun e=>
  if e.1=true then((cP (bq (List.length c.2.2.2.1+List.length [c.2.2.2.2]))).bind fun _=>
  some (e.2.1,e.2.2.1,e.2.2.2,c.2.2.2.1++[c.2.2.2.2])) else(some (e.2.1,e.2.2.1,e.2.2.2,c.2.2.2.1))):Option ((List Int)×Int×Int×(List Int))).bind fun h=>
  (ck (c.2.2.2.2+1)).bind fun j=>
  fa k r2 n (h.1,h.2.1,h.2.2.1,h.2.2.2,j)) else(some (c.1,c.2.1,c.2.2.1,c.2.2.2.1))
def fe(k:Nat)(r2:Int×bW):Nat→((List Int)×Int×Int×(List gq)×Int×Int)→Option ((List Int)×Int×Int×(List gq)×Int)
 |0,_=>none
 |n+1,y7=>
  if 0 < y7.2.2.2.2.2 then((((jV k (y7.1,y7.2.1,y7.2.2.1) [1,1,1,2,3]).bind fun c=>
  ((fa k r2 k (c.2.1,c.2.2.1,c.2.2.2,([]:(List Int)),0)):Option ((List Int)×Int×Int×(List Int))).bind fun e=>
  (cP (bq (List.length y7.2.2.2.1+List.length [(c.1,e.2.2.2)]))).bind fun _=>
  (ck (y7.2.2.2.2.1+c.1)).bind fun j=>
  some (e.1,e.2.1,e.2.2.1,y7.2.2.2.1++[(c.1,e.2.2.2)],j)):Option ((List Int)×Int×Int×(List gq)×Int)).bind fun x9=>
  (ck (y7.2.2.2.2.2 - 1)).bind fun h=>
  fe k r2 n (x9.1,x9.2.1,x9.2.2.1,x9.2.2.2.1,x9.2.2.2.2,h)) else(some (y7.1,y7.2.1,y7.2.2.1,y7.2.2.2.1,y7.2.2.2.2.1))
def eZ(k:Nat)(x4:(List Int)×Int×Int×(List gq)×Int):Nat→((List Int)×Int×Int×(List Int)×Int)→Option ((List Int)×Int×Int×(List Int))
 |0,_=>none
 |n+1,c=>
  if 0 < c.2.2.2.2 then((ck (x4.2.2.2.2+1)).bind fun j=>
  (jV k (c.1,c.2.1,c.2.2.1) [1,2,3,kl 9 x4.2.2.2.2,kl 9 j]).bind fun e=>
  (cP (bq (List.length c.2.2.2.1+List.length [e.1]))).bind fun _=>
  (ck (c.2.2.2.2 - 1)).bind fun h=>
  eZ k x4 n (e.2.1,e.2.2.1,e.2.2.2,c.2.2.2.1++[e.1],h)) else(some (c.1,c.2.1,c.2.2.1,c.2.2.2.1))
def kJ(k:Nat)(a0:bW)(a1:Int)(a2:Int):Option (aQ×bW):=
 (fg k (a0.1,a0.2.1,a0.2.2) 1 4).bind fun r2=>
 (((fg k (r2.2.1,r2.2.2.1,r2.2.2.2) 0 a1).bind fun r6=>
 fe k r2 k (r6.2.1,r6.2.2.1,r6.2.2.2,([]:(List gq)),0,r6.1)):Option ((List Int)×Int×Int×(List gq)×Int)).bind fun x4=>
 (((fg k (x4.1,x4.2.1,x4.2.2.1) 1 a2).bind fun j=>
 eZ k x4 k (j.2.1,j.2.2.1,j.2.2.2,([]:(List Int)),j.1)):Option ((List Int)×Int×Int×(List Int))).bind fun e=>
 (((gh k (e.1,e.2.1,e.2.2.1) 2).bind fun c=>
 if c.1=true then((aP e.2.2.2 0).bind fun l=>
 some (List.set e.2.2.2 (Int.toNat 0) (kl 9 x4.2.2.2.2),c.2.1,c.2.2.1,c.2.2.2)) else(some (e.2.2.2,c.2.1,c.2.2.1,c.2.2.2))):Option ((List Int)×(List Int)×Int×Int)).bind fun h=>
 some ((r2.1,x4.2.2.2.1,h.1),(h.2.1,h.2.2.1,h.2.2.2))
theorem xt(k:Nat)(a0:bW)(c:Nat)(a1:Int)(a2:Int)(r:aQ×bW)(h:kJ k a0 a1 a2=some r):
 bZ Tryz.prog 23 [Pt c,I a1,I a2] [.obj c 64 (.agg (.pair (Ri a0.1) (.pair (I a0.2.1) (.eq (.int .u64 a0.2.2)))))] (fun _:Unit=>(bp [.rep an r.1],[.obj c 64 (.agg (.pair (Ri r.2.1) (.pair (I r.2.2.1) (.eq (.int .u64 r.2.2.2)))))])):=by
 unfold kJ at h
 replace h:=ba h
 refine bZ.of 79 Tryz.func23 rfl Tryz.ntmps23 rfl fun S w0=>?_
 refine sr ?_
 refine aD rfl rfl rfl (aY rfl lJ og) trivial fun b1=>?_
 refine nt ?_
 refine sr ?_
 refine mq ?_
 obtain⟨r2,V8,h⟩:=aa h
 have V9:=mF k (a0.1,a0.2.1,a0.2.2) c 1 4 r2 V8
 refine fr 1 ?_
 refine kc (ao [.tmp 13,.const (.int .i64 (1)),.const (.int .i64 (4))] rfl rfl O3 rfl V9) ?_
 refine ja (c9 [(0,.tmp 14,_)] rfl K0 lJ EX (iN ⟨rfl,trivial⟩) rfl) ?_
 refine aD rfl rfl rfl (aY rfl lJ og) trivial fun b3=>?_
 refine a8 rfl rfl (aX rfl du trivial rfl rfl) ⟨rfl,rfl,trivial⟩ ?_
 refine nt ?_
 refine sr ?_
 refine cq ?_
 refine nt ?_
 refine aJ (Z:=Value) (α:=(List Int)×Int×Int×(List gq)×Int) (fun z5 x4=>[(0,Pt c),(2,I a2),(6,Pt b1),(7,Pt b3),(8,I x4.2.2.2.2)]) (fun z5 x4=>[.obj c 64 (.agg (.pair (Ri x4.1) (.pair (I x4.2.1) (.eq (.int .u64 x4.2.2.1))))),.obj b1 25 (.agg (.pair (I 0) (.pair (.eq (.slice none 0 0)) (.eq (.slice none 0 0))))),.obj b3 25 (.agg (.pair (I r2.1) (.pair (.eq z5) (.eq (.slice none 0 0))))),.sl z5 27 aK x4.2.2.2.1]) h (fun K h=>?_) (fun z5 x4 h=>?_)
 ·
  refine sr ?_;iterate 2 refine mq ?_
  obtain⟨r6,V7,h⟩:=aa h;refine fr 1 ?_;refine kc (ao [.tmp 16,.const (.int .i64 (0)),.tmp 17] rfl rfl O3 rfl (mF k (r2.2.1,r2.2.2.1,r2.2.2.2) c 0 a1 r6 V7)) ?_;refine au ?_;refine aj (dE (SE.nil 27 aK) ?_);refine aH (fun z8 y7=>[(0,Pt c),(2,I a2),(6,Pt b1),(7,Pt b3),(8,I y7.2.2.2.2.1),(9,I y7.2.2.2.2.2)]) (fun z8 y7=>[.obj c 64 (.agg (.pair (Ri y7.1) (.pair (I y7.2.1) (.eq (.int .u64 y7.2.2.1))))),.obj b1 25 (.agg (.pair (I 0) (.pair (.eq (.slice none 0 0)) (.eq (.slice none 0 0))))),.obj b3 25 (.agg (.pair (I r2.1) (.pair (.eq z8) (.eq (.slice none 0 0))))),.sl z8 27 aK y7.2.2.2.1]) (fe k r2) k (.slice none 0 0) (r6.2.1,r6.2.2.1,r6.2.2.2,([]:(List gq)),0,r6.1) (fun _=>rfl) h (SE.fin [1,3,2,0] ⟨rfl,rfl,rfl,rfl,rfl,rfl,trivial⟩ rfl) (fun n z8 y7 h=>?_);unfold fe at h;refine au ?_;refine jb (i7 rfl) ?_;refine nt (ci h (fun h=>?_) (fun h=>?_))
  ·refine sk (aJ (Z:=Value) (α:=(List Int)×Int×Int×(List gq)×Int) (fun X x9=>[(0,Pt c),(2,I a2),(6,Pt b1),(7,Pt b3),(8,I x9.2.2.2.2),(9,I y7.2.2.2.2.2)]) (fun X x9=>[.obj c 64 (.agg (.pair (Ri x9.1) (.pair (I x9.2.1) (.eq (.int .u64 x9.2.2.1))))),.obj b1 25 (.agg (.pair (I 0) (.pair (.eq (.slice none 0 0)) (.eq (.slice none 0 0))))),.obj b3 25 (.agg (.pair (I r2.1) (.pair (.eq X) (.eq (.slice none 0 0))))),.sl X 27 aK x9.2.2.2.1]) h (fun K h=>?_) (fun X x9 h=>?_))
   ·refine aj (au ?_);refine aF rfl (bh (t:=(.int .i64)) [(.const (.int .i64 (1)),_),(.const (.int .i64 (1)),_),(.const (.int .i64 (1)),_),(.const (.int .i64 (2)),_),(.const (.int .i64 (3)),_)] [1,1,1,2,3] rfl rfl de (.cons rfl .int (.cons rfl .int (.cons rfl .int (.cons rfl .int (.cons rfl .int .nil))))) rfl rfl) ⟨rfl,rfl,rfl,rfl,rfl,trivial⟩ ?_;obtain⟨s,VP,h⟩:=aa h;refine kb (ao [.tmp 23,.tmp 24] rfl rfl RB rfl (pU k (y7.1,y7.2.1,y7.2.2.1) c [1,1,1,2,3] s VP)) ?_;refine ja (c9 [(0,.tmp 25,_)] rfl Dc vx wP (iN ⟨rfl,trivial⟩) rfl) ?_;refine aD rfl rfl rfl (aY rfl vx MU) trivial fun M=>?_;refine a8 rfl rfl (aX rfl ju trivial rfl rfl) ⟨rfl,rfl,trivial⟩ ?_;refine nt (aJ (Z:=Value) (α:=(List Int)×Int×Int×(List Int)) (fun ac j=>[(0,Pt c),(2,I a2),(6,Pt b1),(7,Pt b3),(8,I y7.2.2.2.2.1),(9,I y7.2.2.2.2.2),(10,Pt M)]) (fun ac j=>[.obj c 64 (.agg (.pair (Ri j.1) (.pair (I j.2.1) (.eq (.int .u64 j.2.2.1))))),.obj b1 25 (.agg (.pair (I 0) (.pair (.eq (.slice none 0 0)) (.eq (.slice none 0 0))))),.obj b3 25 (.agg (.pair (I r2.1) (.pair (.eq z8) (.eq (.slice none 0 0))))),.sl z8 27 aK y7.2.2.2.1,.obj M 27 (.agg (.pair (I s.1) (.eq ac))),.sl ac 3 (.int .i64) j.2.2.2]) h (fun K h=>?_) (fun ac j h=>?_))
    ·refine au ?_;refine aj (dE (SE.nil 3 (.int .i64)) ?_);refine aH (fun Q e=>[(0,Pt c),(2,I a2),(6,Pt b1),(7,Pt b3),(8,I y7.2.2.2.2.1),(9,I y7.2.2.2.2.2),(10,Pt M),(11,I e.2.2.2.2)]) (fun Q e=>[.obj c 64 (.agg (.pair (Ri e.1) (.pair (I e.2.1) (.eq (.int .u64 e.2.2.1))))),.obj b1 25 (.agg (.pair (I 0) (.pair (.eq (.slice none 0 0)) (.eq (.slice none 0 0))))),.obj b3 25 (.agg (.pair (I r2.1) (.pair (.eq z8) (.eq (.slice none 0 0))))),.sl z8 27 aK y7.2.2.2.1,.obj M 27 (.agg (.pair (I s.1) (.eq Q))),.sl Q 3 (.int .i64) e.2.2.2.1]) (fa k r2) k (.slice none 0 0) (s.2.1,s.2.2.1,s.2.2.2,([]:(List Int)),0) (fun _=>rfl) h (SE.fin [2,3,4,5,1,0] ⟨rfl,rfl,rfl,rfl,rfl,rfl,rfl,rfl,trivial⟩ rfl) (fun n Q e h=>?_);unfold fa at h;refine au ?_;refine fl gR ?_;refine fr 2 ?_;refine lo cC ?_;refine jb (bj rfl) ?_;refine nt (ci h (fun h=>?_) (fun h=>?_))
     ·refine sk (aJ (Z:=Value) (α:=(List Int)×Int×Int×(List Int)) (fun U x=>[(0,Pt c),(2,I a2),(6,Pt b1),(7,Pt b3),(8,I y7.2.2.2.2.1),(9,I y7.2.2.2.2.2),(10,Pt M),(11,I e.2.2.2.2)]) (fun U x=>[.obj c 64 (.agg (.pair (Ri x.1) (.pair (I x.2.1) (.eq (.int .u64 x.2.2.1))))),.obj b1 25 (.agg (.pair (I 0) (.pair (.eq (.slice none 0 0)) (.eq (.slice none 0 0))))),.obj b3 25 (.agg (.pair (I r2.1) (.pair (.eq z8) (.eq (.slice none 0 0))))),.sl z8 27 aK y7.2.2.2.1,.obj M 27 (.agg (.pair (I s.1) (.eq U))),.sl U 3 (.int .i64) x.2.2.2]) h (fun K h=>?_) (fun U x h=>?_))
      ·refine aj (sr (mq ?_));obtain⟨J,VO,h⟩:=aa h;refine fr 1 ?_;refine kb (ao [.tmp 33,.const (.int .i64 (2))] rfl rfl RA rfl (nZ k (e.1,e.2.1,e.2.2.1) c 2 J VO)) ?_;refine nt (cv h (fun h=>?_) (fun h=>?_))
       ·refine ab (fl kN ?_);refine fr 4 ?_;refine lo bN ?_;refine mq ?_;refine ja (bh (t:=(.int .i64)) [(.tmp 37,_)] [e.2.2.2.2] rfl rfl de (.cons rfl .int .nil) rfl rfl) ?_;obtain⟨Wt,VK,h⟩:=aa h;refine fr 5 ?_;refine cp rfl rfl rfl (be rfl rfl de (ay VK)) ⟨rfl,rfl,trivial⟩ fun VX=>?_;refine fl kN ?_;refine qy fun o22=>?_;refine fr 1 ?_;refine a8 rfl rfl (aX rfl bN o22 rfl rfl) ⟨rfl,rfl,trivial⟩ ?_;refine au ?_;exact jz (VX,(J.2.1,J.2.2.1,J.2.2.2,e.2.2.2.1++[e.2.2.2.2])) h [2,4,3,5,0,1]
       ·refine au ?_;exact jz (Q,(J.2.1,J.2.2.1,J.2.2.2,e.2.2.2.1)) h [0,2,1,3,4,5]
      ·refine ab (mq ?_);obtain⟨VU,VH,h⟩:=aa h;refine jb (a9 rfl VH) ?_;refine au ?_;exact jz (U,(x.1,x.2.1,x.2.2.1,x.2.2.2,VU)) h [0,1,2,3,4,5]
     ·refine au ?_;exact jz (Q,(e.1,e.2.1,e.2.2.1,e.2.2.2.1)) h [1,2,0,3,4,5]
    ·refine dT 4 rfl ?_;refine dT 5 rfl ?_;refine dE (jP (off:=1) [] trivial rfl rfl) ?_;refine lB ?_;refine aR rfl rfl rfl (av rfl cg) ⟨rfl,trivial⟩ ?_;refine dn 3 rfl rfl rfl rfl (ah rfl fR jw rfl) ⟨rfl,trivial⟩ ?_;refine dn 0 rfl rfl rfl rfl (ah rfl ju (sT) rfl) ⟨rfl,trivial⟩ ?_;refine aR rfl rfl rfl (bh (t:=aK) [(.tmp 43,_)] [(s.1,j.2.2.2)] rfl rfl CV (.cons trivial (.agg (.pair .int .rep)) .nil) rfl rfl) ⟨rfl,trivial⟩ ?_;obtain⟨Ws,VJ,h⟩:=aa h;refine xa 4 rfl (fun v=>[.sl v 27 aK (y7.2.2.2.1++[(s.1,j.2.2.2)])]) (fun _=>rfl) rfl rfl rfl (be rfl rfl CV (ay VJ)) ⟨rfl,rfl,trivial⟩ ?_;refine aR rfl rfl rfl (aN rfl) ⟨rfl,trivial⟩ ?_;refine aR rfl rfl rfl (av rfl kO) ⟨rfl,trivial⟩ ?_;refine dn 0 rfl rfl rfl rfl (ah rfl cC jw rfl) ⟨rfl,trivial⟩ ?_;obtain⟨VT,VG,h⟩:=aa h;refine aR rfl rfl rfl (a9 rfl VG) ⟨rfl,rfl,trivial⟩ ?_;refine aR rfl rfl rfl (av rfl cg) ⟨rfl,trivial⟩ ?_;refine nB 10 [true,true,true,true,true,false,false,false,false,true] [] [0] [.obj M 27 (.agg (.pair (I s.1) (Ri j.2.2.2)))] rfl (by kernel_rfl) (by kernel_rfl) (by kernel_rfl) cG (fun vs hv hB=>?_);obtain⟨w0,Wp,rfl,V6⟩:=ap hv;obtain⟨w1,Wn,rfl,V5⟩:=ap V6;obtain⟨w2,Wm,rfl,V4⟩:=ap V5;obtain⟨w3,Wj,rfl,V3⟩:=ap V4;obtain⟨se,Wi,rfl,V2⟩:=ap V3;obtain⟨w5,Wh,rfl,V1⟩:=ap V2;obtain⟨w6,Wg,rfl,V0⟩:=ap V1;obtain⟨w7,We,rfl,VZ⟩:=ap V0;obtain⟨w8,Wc,rfl,VY⟩:=ap VZ;obtain⟨w9,Wa,rfl,VC⟩:=ap VY;obtain rfl:=kZ VC;refine⟨[0,1,2,3,4],[.obj c 64 (.agg (.pair (Ri j.1) (.pair (I j.2.1) (.eq (.int .u64 j.2.2.1))))),.obj b1 25 (.agg (.pair (I 0) (.pair (.eq (.slice none 0 0)) (.eq (.slice none 0 0))))),.obj b3 25 (.agg (.pair (I r2.1) (.pair (.eq z8) (.eq (.slice none 0 0))))),.sl se 27 aK (y7.2.2.2.1++[(s.1,j.2.2.2)])],by kernel_rfl,by decide,?_⟩;refine jh 3 rfl ?_;refine Ea fun o27=>?_;refine jh 3 rfl ?_;refine qw rfl rfl (aX rfl fR o27 rfl rfl) ⟨rfl,rfl,trivial⟩ (by kernel_rfl) ?_;refine zJ (by kernel_rfl) ?_;refine au ?_;exact jz (se,(j.1,j.2.1,j.2.2.1,y7.2.2.2.1++[(s.1,j.2.2.2)],VT)) h [3,4,1,2]
   ·refine ab (mq ?_);obtain⟨VS,VF,h⟩:=aa h;refine jb (eY rfl VF) ?_;refine au ?_;exact jz (X,(x9.1,x9.2.1,x9.2.2.1,x9.2.2.2.1,x9.2.2.2.2,VS)) h [0,1,2,3]
  ·refine au ?_;exact jz (z8,(y7.1,y7.2.1,y7.2.2.1,y7.2.2.2.1,y7.2.2.2.2.1)) h [0,1,2,3]
 ·
  refine aJ (Z:=Value) (α:=(List Int)×Int×Int×(List Int)) (fun O u=>[(0,Pt c),(6,Pt b1),(7,Pt b3),(8,I x4.2.2.2.2)]) (fun O u=>[.obj c 64 (.agg (.pair (Ri u.1) (.pair (I u.2.1) (.eq (.int .u64 u.2.2.1))))),.obj b1 25 (.agg (.pair (I 0) (.pair (.eq (.slice none 0 0)) (.eq (.slice none 0 0))))),.obj b3 25 (.agg (.pair (I r2.1) (.pair (.eq z5) (.eq O)))),.sl z5 27 aK x4.2.2.2.1,.sl O 3 (.int .i64) u.2.2.2]) h (fun K h=>?_) (fun O u h=>?_)
  ·refine au ?_;obtain⟨Y,VN,h⟩:=aa h;refine kc (ao [.tmp 51,.const (.int .i64 (1)),.tmp 52] rfl rfl O3 rfl (mF k (x4.1,x4.2.1,x4.2.2.1) c 1 a2 Y VN)) ?_;refine au ?_;refine aj (dE (SE.nil 3 (.int .i64)) ?_);refine aH (fun E l=>[(0,Pt c),(6,Pt b1),(7,Pt b3),(8,I x4.2.2.2.2),(12,I l.2.2.2.2)]) (fun E l=>[.obj c 64 (.agg (.pair (Ri l.1) (.pair (I l.2.1) (.eq (.int .u64 l.2.2.1))))),.obj b1 25 (.agg (.pair (I 0) (.pair (.eq (.slice none 0 0)) (.eq (.slice none 0 0))))),.obj b3 25 (.agg (.pair (I r2.1) (.pair (.eq z5) (.eq E)))),.sl z5 27 aK x4.2.2.2.1,.sl E 3 (.int .i64) l.2.2.2.1]) (eZ k x4) k (.slice none 0 0) (Y.2.1,Y.2.2.1,Y.2.2.2,([]:(List Int)),Y.1) (fun _=>rfl) h (SE.fin [1,2,3,4,0] ⟨rfl,rfl,rfl,rfl,rfl,trivial⟩ rfl) (fun n E l h=>?_);unfold eZ at h;refine au ?_;refine jb (i7 rfl) ?_;refine nt (ci h (fun h=>?_) (fun h=>?_))
   ·refine au ?_;refine aj (bD ?_);refine da (av rfl cH) ?_;refine ea 2 (ah rfl bN jw rfl) ?_;refine dm ?_;refine dm ?_;refine db (EC rfl rfl) ?_;refine dm ?_;obtain⟨qt,VE,h⟩:=aa h;refine db (a9 rfl VE) ?_;refine db (EC rfl rfl) ?_;refine dt rfl rfl rfl (bh (t:=(.int .i64)) [(.const (.int .i64 (1)),_),(.const (.int .i64 (2)),_),(.const (.int .i64 (3)),_),(.tmp 62,_),(.tmp 65,_)] [1,2,3,kl 9 x4.2.2.2.2,kl 9 qt] rfl rfl de (.cons rfl .int (.cons rfl .int (.cons rfl .int (.cons rfl .int (.cons rfl .int .nil))))) rfl rfl) ⟨rfl,rfl,rfl,rfl,rfl,trivial⟩ ?_;obtain⟨D,VM,h⟩:=aa h;refine Nk 0 rfl rfl rfl rfl (ao [.tmp 60,.tmp 66] rfl rfl RB rfl (pU k (l.1,l.2.1,l.2.2.1) c [1,2,3,kl 9 x4.2.2.2.2,kl 9 qt] D VM)) ⟨rfl,rfl,trivial⟩ ?_;refine da (bh (t:=(.int .i64)) [(.tmp 67,_)] [D.1] rfl rfl de (.cons rfl .int .nil) rfl rfl) ?_;refine Nn (Δ':=[.obj b1 25 (.agg (.pair (I 0) (.pair (.eq (.slice none 0 0)) (.eq (.slice none 0 0))))),.obj b3 25 (.agg (.pair (I r2.1) (.pair (.eq z5) (.eq E)))),.sl z5 27 aK x4.2.2.2.1,.sl E 3 (.int .i64) l.2.2.2.1,.obj c 64 (.agg (.pair (Ri D.2.1) (.pair (I D.2.2.1) (.eq (.int .u64 D.2.2.2)))))]) (by kernel_rfl) cG (by kernel_rfl) ?_;obtain⟨Wq,VI,h⟩:=aa h;refine fr 3 ?_;refine cp rfl rfl rfl (be rfl rfl de (ay VI)) ⟨rfl,rfl,trivial⟩ fun VV=>?_;refine fl cH ?_;refine qy fun o38=>?_;refine fr 2 ?_;refine a8 rfl rfl (aX rfl bN o38 rfl rfl) ⟨rfl,rfl,trivial⟩ ?_;refine au ?_;refine ab (mq ?_);obtain⟨VQ,VD,h⟩:=aa h;refine jb (eY rfl VD) ?_;refine au ?_;exact jz (VV,(D.2.1,D.2.2.1,D.2.2.2,l.2.2.2.1++[D.1],VQ)) h [4,2,0,3,1]
   ·refine au ?_;exact jz (E,(l.1,l.2.1,l.2.2.1,l.2.2.2.1)) h [0,1,2,3,4]
  ·refine aJ (Z:=Unit) (α:=(List Int)×(List Int)×Int×Int) (fun pp y=>[(6,Pt b1),(7,Pt b3)]) (fun pp y=>[.obj b1 25 (.agg (.pair (I 0) (.pair (.eq (.slice none 0 0)) (.eq (.slice none 0 0))))),.obj b3 25 (.agg (.pair (I r2.1) (.pair (.eq z5) (.eq O)))),.sl z5 27 aK x4.2.2.2.1,.sl O 3 (.int .i64) y.1,.obj c 64 (.agg (.pair (Ri y.2.1) (.pair (I y.2.2.1) (.eq (.int .u64 y.2.2.2)))))]) h (fun K h=>?_) (fun pp y h=>?_)
   ·refine au ?_;obtain⟨F,VL,h⟩:=aa h;refine kb (ao [.tmp 71,.const (.int .i64 (2))] rfl rfl RA rfl (nZ k (u.1,u.2.1,u.2.2.1) c 2 F VL)) ?_;refine nt (cv h (fun h=>?_) (fun h=>?_))
    ·refine ab (fl cH ?_);refine fr 2 ?_;refine lo bN ?_;refine mq ?_;refine jb (EC rfl rfl) ?_;obtain⟨Wb,mc,h⟩:=aa h;refine fr 4 ?_;refine kb (aV (t:=(.int .i64)) rfl dB cC mc) ?_;refine a8 rfl rfl (cI (i:=Int.toNat 0) rfl cC rfl (gy mc) rfl .int rfl) ⟨rfl,rfl,trivial⟩ ?_;refine au ?_;exact jz ((),(List.set u.2.2.2 (Int.toNat 0) (kl 9 x4.2.2.2.2),F.2.1,F.2.2.1,F.2.2.2)) h [3,1,4,0,2]
    ·refine au ?_;exact jz ((),(u.2.2.2,F.2.1,F.2.2.1,F.2.2.2)) h [1,2,3,4,0]
   ·refine sr (fr 1 ?_);refine fr 2 ?_;refine co (jP (off:=1) [] trivial rfl rfl) ?_;refine fr 2 ?_;refine co (jP (off:=2) [] trivial rfl rfl) ?_;refine lo du ?_;refine fr 1 ?_;refine a8 rfl rfl (aX rfl du trivial rfl rfl) ⟨rfl,rfl,trivial⟩ ?_;refine nt (bJ (bi (oY (a:=.agg (.pair (I r2.1) (.pair (Rs aK x4.2.2.2.1) (Ri y.1)))) (a':=.rep an (r2.1,x4.2.2.2.1,y.1)) (xb (.agg (.pair .int (.pair .rep .rep))))) ?_));refine bi (SE.fin (Γ':=[(6,_)]) [2,0,1] ⟨rfl,trivial⟩ rfl) ?_;cases h;exact aL () [.rep an (r2.1,x4.2.2.2.1,y.1)] 1 ⟨⟨_,_,_,_,_,rfl,(.tail _ (.head _)),du,(sT),rfl⟩,trivial⟩ rfl
def eG(k:Nat)(a1:Int):Nat→((List Int)×Int×Int×(List Int)×Int)→Option ((List Int)×(List Int)×Int×Int)
 |0,_=>none
 |n+1,y3=>
  if y3.2.2.2.2 < a1 then((d4 k (y3.1,y3.2.1,y3.2.2.1) y3.2.2.2.2).bind fun r5=>
  (cP (bq (List.length y3.2.2.2.1+List.length [y3.2.2.2.2]))).bind fun _=>
  (aP (y3.2.2.2.1++[y3.2.2.2.2]) r5.1).bind fun x8=>
  (aP (y3.2.2.2.1++[y3.2.2.2.2]) y3.2.2.2.2).bind fun x9=>
  (aP (List.set (y3.2.2.2.1++[y3.2.2.2.2]) (Int.toNat y3.2.2.2.2) x8) r5.1).bind fun e=>
  (ck (y3.2.2.2.2+1)).bind fun c=>
  eG k a1 n (r5.2.1,r5.2.2.1,r5.2.2.2,List.set (List.set (y3.2.2.2.1++[y3.2.2.2.2]) (Int.toNat y3.2.2.2.2) x8) (Int.toNat r5.1) y3.2.2.2.2,c)) else(some (y3.2.2.2.1,y3.1,y3.2.1,y3.2.2.1))
def gQ(k:Nat)(a0:bW)(a1:Int):Option ((List Int)×bW):=
 ((eG k a1 k (a0.1,a0.2.1,a0.2.2,([]:(List Int)),0)):Option ((List Int)×(List Int)×Int×Int)).bind fun x1=>
 some (x1.1,(x1.2.1,x1.2.2.1,x1.2.2.2))
theorem sW(k:Nat)(a0:bW)(c:Nat)(a1:Int)(r:(List Int)×bW)(h:gQ k a0 a1=some r):
 bZ Tryz.prog 62 [Pt c,I a1] [.obj c 64 (.agg (.pair (Ri a0.1) (.pair (I a0.2.1) (.eq (.int .u64 a0.2.2)))))] (fun _:Unit=>(bp [Ri r.1],[.obj c 64 (.agg (.pair (Ri r.2.1) (.pair (I r.2.2.1) (.eq (.int .u64 r.2.2.2)))))])):=by
 unfold gQ at h
 replace h:=ba h
 refine bZ.of 32 Tryz.func62 rfl Tryz.ntmps62 rfl fun S w0=>?_
 refine sr ?_
 refine cq ?_
 refine nt ?_
 refine sr ?_
 refine cq ?_
 refine nt ?_
 refine aJ (Z:=Value) (α:=(List Int)×(List Int)×Int×Int) (fun z2 x1=>[(5,.eq z2)]) (fun z2 x1=>[.sl z2 3 (.int .i64) x1.1,.obj c 64 (.agg (.pair (Ri x1.2.1) (.pair (I x1.2.2.1) (.eq (.int .u64 x1.2.2.2)))))]) h (fun K h=>?_) (fun z2 x1 h=>?_)
 ·
  refine au ?_;refine aj (dE (SE.nil 3 (.int .i64)) ?_);refine aH (fun z4 y3=>[(0,Pt c),(1,I a1),(5,.eq z4),(6,I y3.2.2.2.2)]) (fun z4 y3=>[.obj c 64 (.agg (.pair (Ri y3.1) (.pair (I y3.2.1) (.eq (.int .u64 y3.2.2.1))))),.sl z4 3 (.int .i64) y3.2.2.2.1]) (eG k a1) k (.slice none 0 0) (a0.1,a0.2.1,a0.2.2,([]:(List Int)),0) (fun _=>rfl) h (SE.fin [1,0] ⟨rfl,rfl,rfl,rfl,trivial⟩ rfl) (fun n z4 y3 h=>?_);unfold eG at h;refine au ?_;refine jb (bj rfl) ?_;refine nt (ci h (fun h=>?_) (fun h=>?_))
  ·refine au ?_;refine aj (au ?_);obtain⟨r5,y,h⟩:=aa h;refine kb (ao [.tmp 13,.tmp 14] rfl rfl Jr rfl (gP k (y3.1,y3.2.1,y3.2.2.1) c y3.2.2.2.2 r5 y)) ?_;refine au ?_;refine ja (bh (t:=(.int .i64)) [(.tmp 17,_)] [y3.2.2.2.2] rfl rfl de (.cons rfl .int .nil) rfl rfl) ?_;obtain⟨u6,x,h⟩:=aa h;refine fr 1 ?_;refine cp rfl rfl rfl (be rfl rfl de (ay x)) ⟨rfl,rfl,trivial⟩ fun v7=>?_;refine au ?_;refine ab (au ?_);obtain⟨x8,l,h⟩:=aa h;refine kb (aV (t:=(.int .i64)) rfl dB cC l) ?_;refine ka (dV (i:=Int.toNat r5.1) (off:=0) rfl cC (fun _=>rfl) rfl (cz l).2.2 rfl) ?_;refine mq ?_;obtain⟨x9,j,h⟩:=aa h;refine kb (aV (t:=(.int .i64)) rfl dB cC j) ?_;refine a8 rfl rfl (cI (i:=Int.toNat y3.2.2.2.2) rfl cC rfl (gy j) rfl .int rfl) ⟨rfl,rfl,trivial⟩ ?_;obtain⟨D,e,h⟩:=aa h;refine kb (aV (t:=(.int .i64)) rfl dB cC e) ?_;refine a8 rfl rfl (cI (i:=Int.toNat r5.1) rfl cC rfl (gy e) rfl .int rfl) ⟨rfl,rfl,trivial⟩ ?_;refine au ?_;refine ab (mq ?_);obtain⟨u,s,h⟩:=aa h;refine jb (a9 rfl s) ?_;refine au ?_;exact jz (v7,(r5.2.1,r5.2.2.1,r5.2.2.2,List.set (List.set (y3.2.2.2.1++[y3.2.2.2.2]) (Int.toNat y3.2.2.2.2) x8) (Int.toNat r5.1) y3.2.2.2.2,u)) h [1,0]
  ·refine au ?_;exact jz (z4,(y3.2.2.2.1,y3.1,y3.2.1,y3.2.2.1)) h [1,0]
 ·
  refine sr (mq ?_);refine aq (nt (bJ ?_));refine bi (dh [4,5,31] ⟨rfl,rfl,rfl,trivial⟩) ?_;cases h;exact aL () [_] 1 ⟨rfl,trivial⟩ rfl
def pT(k:Nat)(a0:Int)(a1:Int):Option Int:=
 (cP (a1≠0)).bind fun _=>
 (ck ((Int.tmod a0 a1)+a1)).bind fun x2=>
 (cP (a1≠0)).bind fun _=>
 some (Int.tmod x2 a1)
theorem Bd(k:Nat)(a0:Int)(a1:Int)(r:Int)(h:pT k a0 a1=some r):
 bZ Tryz.prog 64 [I a0,I a1] [] (fun _:Unit=>(bp [I r],[])):=by
 unfold pT at h
 replace h:=ba h
 refine bZ.of 12 Tryz.func64 rfl Tryz.ntmps64 rfl fun S w0=>?_
 refine au ?_
 obtain⟨u1,j,h⟩:=aa h
 refine jb (H2 rfl (ay j)) ?_
 refine mq ?_
 obtain⟨x2,c,h⟩:=aa h
 refine jb (a9 rfl c) ?_
 refine mq ?_
 obtain⟨u3,e,h⟩:=aa h
 refine jb (H2 rfl (ay e)) ?_
 refine au ?_
 cases h
 exact ra
def dz(k:Nat)(a1:aQ)(r7:(List Int)×bW)(c:(List Int)×Int×Int×(List Int)×Int×(List (List Int)))(e:Int×bW):Nat→(Int×(List (List Int)))→Option ((List Int)×Int×Int×(List Int)×(List (List Int)))
 |0,_=>none
 |n+1,h=>
  if h.1 < (c.2.2.2.1.length:Int) then((ck (e.1+h.1)).bind fun O=>
  (pT k O (c.2.2.2.1.length:Int)).bind fun j=>
  (((aP c.2.2.2.1 j).bind fun M=>
  (aP r7.1 c.2.2.2.2.1).bind fun J=>
  (aP a1.2.1 J).bind fun I=>
  if I.1≤M then(some (true,h.2)) else((ck ((c.2.2.2.1.length:Int) - 1)).bind fun F=>
  some (decide (h.1=F),h.2))):Option (Bool×(List (List Int)))).bind fun l=>
  if l.1=true then((aP l.2 j).bind fun s=>
  (aP r7.1 c.2.2.2.2.1).bind fun r=>
  (cP (bq (List.length s+List.length [r]))).bind fun _=>
  (aP c.2.2.2.1 j).bind fun E=>
  (aP r7.1 c.2.2.2.2.1).bind fun D=>
  (aP a1.2.1 D).bind fun y=>
  (ck (E - y.1)).bind fun x=>
  (aP c.2.2.2.1 j).bind fun Q=>
  some (e.2.1,e.2.2.1,e.2.2.2,List.set c.2.2.2.1 (Int.toNat j) x,List.set l.2 (Int.toNat j) (s++[r]))) else((ck (h.1+1)).bind fun u=>
  dz k a1 r7 c e n (u,l.2))) else(some (e.2.1,e.2.2.1,e.2.2.2,c.2.2.2.1,h.2))
def fk(k:Nat)(a1:aQ)(r7:(List Int)×bW):Nat→((List Int)×Int×Int×(List Int)×Int×(List (List Int)))→Option ((List Int)×Int×Int×(List (List Int)))
 |0,_=>none
 |n+1,c=>
  if c.2.2.2.2.1 < (r7.1.length:Int) then((((ck ((c.2.2.2.1.length:Int) - 1)).bind fun j=>
  (d4 k (c.1,c.2.1,c.2.2.1) j).bind fun l=>
  dz k a1 r7 c l k (0,c.2.2.2.2.2)):Option ((List Int)×Int×Int×(List Int)×(List (List Int)))).bind fun e=>
  (ck (c.2.2.2.2.1+1)).bind fun h=>
  fk k a1 r7 n (e.1,e.2.1,e.2.2.1,e.2.2.2.1,h,e.2.2.2.2)) else(some (c.1,c.2.1,c.2.2.1,c.2.2.2.2.2))
def ff(k:Nat)(a0:bW)(a1:aQ):Option ((List (List Int))×bW):=
 (cP (0≤(a1.2.2.length:Int)∧bq (Int.toNat (a1.2.2.length:Int)))).bind fun _=>
 (cP (bq (List.length ([]:(List Int))+List.length a1.2.2))).bind fun _=>
 (gQ k (a0.1,a0.2.1,a0.2.2) (a1.2.1.length:Int)).bind fun r7=>
 ((fk k a1 r7 k (r7.2.1,r7.2.2.1,r7.2.2.2,([]:(List Int))++a1.2.2,0,List.replicate (Int.toNat (a1.2.2.length:Int)) ([]:(List Int)))):Option ((List Int)×Int×Int×(List (List Int)))).bind fun x8=>
 some (x8.2.2.2,(x8.1,x8.2.1,x8.2.2.1))
theorem nY(k:Nat)(a0:bW)(e:Nat)(a1:aQ)(r:(List (List Int))×bW)(h:ff k a0 a1=some r):
 bZ Tryz.prog 25 [Pt e,.rep an a1] [.obj e 64 (.agg (.pair (Ri a0.1) (.pair (I a0.2.1) (.eq (.int .u64 a0.2.2)))))] (fun _:Unit=>(bp [.rep (.slice (.slice (.int .i64))) r.1],[.obj e 64 (.agg (.pair (Ri r.2.1) (.pair (I r.2.2.1) (.eq (.int .u64 r.2.2.2)))))])):=by
 unfold ff at h
 replace h:=ba h
 refine bZ.of 100 Tryz.func25 rfl Tryz.ntmps25 rfl fun S w0=>?_
 refine sr ?_
 refine bx fun b1=>?_
 refine au ?_
 refine fl cH ?_
 refine lo bN ?_
 refine ol dB ?_
 obtain⟨u2,V7,h⟩:=aa h
 refine aD rfl rfl rfl (Do (t:=.val) (d:=.slice none 0 0) rfl lD P4 (ay V7).1 (ay V7).2) ⟨rfl,rfl,trivial⟩ fun v3=>?_
 refine co (BN (F:=[.obj b1 25 (.rep an a1),.obj e 64 (.agg (.pair (Ri a0.1) (.pair (I a0.2.1) (.eq (.int .u64 a0.2.2)))))])) ?_
 refine au ?_
 refine aD rfl rfl rfl (ge (t:=(.int .i64)) [] ([]:(List Int)) rfl rfl de .nil rfl rfl) trivial fun v4=>?_
 refine fl cH ?_
 refine fr 1 ?_
 refine lo bN ?_
 obtain⟨u5,Wu,h⟩:=aa h
 refine fr 1 ?_
 refine cp rfl rfl rfl (be rfl rfl de (ay Wu)) ⟨rfl,rfl,trivial⟩ fun v6=>?_
 refine au ?_
 refine fl cg ?_
 refine fr 1 ?_
 refine lo fR ?_
 refine ol nD ?_
 obtain⟨r7,Wv,h⟩:=aa h
 have Wx:=sW k (a0.1,a0.2.1,a0.2.2) e (a1.2.1.length:Int) r7 Wv
 refine fr 2 ?_
 refine kb (ao [.tmp 20,.tmp 23] rfl rfl Uu rfl Wx) ?_
 refine aq ?_
 refine nt ?_
 refine aJ (Z:=(Value×(Nat→Value))) (α:=(List Int)×Int×Int×(List (List Int))) (fun z9 x8=>[(5,.eq z9.1)]) (fun z9 x8=>[.obj e 64 (.agg (.pair (Ri x8.1) (.pair (I x8.2.1) (.eq (.int .u64 x8.2.2.1)))))]++fD 23 z9 x8.2.2.2) h (fun K h=>?_) (fun z9 x8 h=>?_)
 ·
  refine au ?_;refine aj (aH (Z:=(Value×(Nat→Value))) (α:=(List Int)×Int×Int×(List Int)×Int×(List (List Int))) (fun Q j=>[(0,Pt e),(3,Pt b1),(5,.eq Q.1),(6,.eq v6),(7,Ri r7.1),(8,I j.2.2.2.2.1)]) (fun Q j=>[.obj e 64 (.agg (.pair (Ri j.1) (.pair (I j.2.1) (.eq (.int .u64 j.2.2.1))))),.obj b1 25 (.rep an a1),.sl v6 3 (.int .i64) j.2.2.2.1]++fD 23 Q j.2.2.2.2.2) (fk k a1 r7) k (v3,fun _=>.slice none 0 0) (r7.2.1,r7.2.2.1,r7.2.2.2,([]:(List Int))++a1.2.2,0,List.replicate (Int.toNat (a1.2.2.length:Int)) ([]:(List Int))) (fun _=>rfl) h (bm [.obj e 64 (.agg (.pair (Ri r7.2.1) (.pair (I r7.2.2.1) (.eq (.int .u64 r7.2.2.2))))),.obj b1 25 (.rep an a1),.sl v6 3 (.int .i64) (([]:(List Int))++a1.2.2)] (fD 23 (v3,fun _=>.slice none 0 0) (List.replicate (Int.toNat (a1.2.2.length:Int)) ([]:(List Int)))) [0,1,2] ⟨rfl,rfl,rfl,rfl,rfl,rfl,trivial⟩ rfl) (fun n Q j h=>?_));unfold fk at h;refine au ?_;refine ol dB ?_;refine jb (bj rfl) ?_;refine nt (ci h (fun h=>?_) (fun h=>?_))
  ·refine sk (aJ (Z:=(Value×(Nat→Value))) (α:=(List Int)×Int×Int×(List Int)×(List (List Int))) (fun X u=>[(0,Pt e),(3,Pt b1),(5,.eq X.1),(6,.eq v6),(7,Ri r7.1),(8,I j.2.2.2.2.1)]) (fun X u=>[.obj e 64 (.agg (.pair (Ri u.1) (.pair (I u.2.1) (.eq (.int .u64 u.2.2.1))))),.obj b1 25 (.rep an a1),.sl v6 3 (.int .i64) u.2.2.2.1]++fD 23 X u.2.2.2.2) h (fun K h=>?_) (fun X u h=>?_))
   ·refine aj (sr ?_);iterate 2 refine mq ?_
    refine fr 2 ?_;refine ka (cZ rfl rfl dB) ?_;obtain⟨Wg,V5,h⟩:=aa h;refine jb (eY rfl V5) ?_;obtain⟨c,V9,h⟩:=aa h;refine fr 1 ?_;refine kb (ao [.tmp 31,.tmp 34] rfl rfl Jr rfl (gP k (j.1,j.2.1,j.2.2.1) e Wg c V9)) ?_;refine au ?_;refine aj (aH (Z:=(Value×(Nat→Value))) (α:=Int×(List (List Int))) (fun E y=>[(0,Pt e),(3,Pt b1),(5,.eq E.1),(6,.eq v6),(7,Ri r7.1),(8,I j.2.2.2.2.1),(9,I c.1),(10,I y.1)]) (fun E y=>[.obj e 64 (.agg (.pair (Ri c.2.1) (.pair (I c.2.2.1) (.eq (.int .u64 c.2.2.2))))),.obj b1 25 (.rep an a1),.sl v6 3 (.int .i64) j.2.2.2.1]++fD 23 E y.2) (dz k a1 r7 j c) k Q (0,j.2.2.2.2.2) (fun _=>rfl) h (bm [.obj e 64 (.agg (.pair (Ri c.2.1) (.pair (I c.2.2.1) (.eq (.int .u64 c.2.2.2))))),.sl v6 3 (.int .i64) j.2.2.2.1,.obj b1 25 (.rep an a1)] (fD 23 Q j.2.2.2.2.2) [0,2,1] ⟨rfl,rfl,rfl,rfl,rfl,rfl,rfl,rfl,trivial⟩ rfl) (fun n E y h=>?_));unfold dz at h;refine ar (sr ?_);iterate 2 refine mq ?_
    refine fr 2 ?_;refine ka (cZ rfl rfl dB) ?_;refine jb (bj rfl) ?_;refine nt (ci h (fun h=>?_) (fun h=>?_))
    ·refine au ?_;refine aj (au ?_);obtain⟨We,V4,h⟩:=aa h;refine jb (a9 rfl V4) ?_;refine mq ?_;refine ka (cZ rfl rfl dB) ?_;obtain⟨s,V8,h⟩:=aa h;refine jb (ao [.tmp 44,.tmp 46] rfl rfl Ut rfl (Bd k We (j.2.2.2.1.length:Int) s V8)) ?_;refine aq (nt ?_);refine aJ (Z:=(Value×(Nat→Value))) (α:=Bool×(List (List Int))) (fun l x=>[(0,Pt e),(3,Pt b1),(5,.eq l.1),(6,.eq v6),(7,Ri r7.1),(8,I j.2.2.2.2.1),(9,I c.1),(10,I y.1),(11,I s),(68,.eq (.bool x.1))]) (fun l x=>[.obj e 64 (.agg (.pair (Ri c.2.1) (.pair (I c.2.2.1) (.eq (.int .u64 c.2.2.2))))),.obj b1 25 (.rep an a1),.sl v6 3 (.int .i64) j.2.2.2.1]++fD 23 l x.2) h (fun K h=>?_) (fun l x h=>?_)
     ·refine bD ?_;refine dm ?_;refine dm ?_;obtain⟨W2,mc,h⟩:=aa h;refine eb 0 (aV (t:=(.int .i64)) rfl dB cC mc) ?_;refine ea 0 (dV (i:=Int.toNat s) (off:=0) rfl cC (fun _=>rfl) rfl (cz mc).2.2 rfl) ?_;refine da (av rfl cg) ?_;refine ea 2 (ah rfl fR jw rfl) ?_;refine dm ?_;refine dm ?_;obtain⟨W1,V3,h⟩:=aa h;refine db (aG (t:=(.int .i64)) rfl dB cC V3) ?_;refine da (ak (t:=(.int .i64)) rfl cC rfl) ?_;obtain⟨W0,V2,h⟩:=aa h;refine db (aG (t:=aK) rfl nD ju V2) ?_;refine da (aI 1 false rfl kO rfl) ?_;refine da (ak (t:=(.int .i64)) rfl cC rfl) ?_;refine db (pg rfl) ?_;refine nc rfl rfl rfl (aN rfl) ⟨rfl,trivial⟩ (fun hb=>?_) (fun hb=>?_)
      ·replace h:=cF (oe hb) h;iterate 4 refine dg ?_
       refine df cG ?_;refine au ?_;exact jm (E,(true,y.2)) h (bm [.sl v6 3 (.int .i64) j.2.2.2.1,.obj e 64 (.agg (.pair (Ri c.2.1) (.pair (I c.2.2.1) (.eq (.int .u64 c.2.2.2))))),.obj b1 25 (.rep an a1)] (fD 23 E y.2) [1,2,0] ⟨rfl,rfl,rfl,rfl,rfl,rfl,rfl,rfl,rfl,rfl,trivial⟩ rfl)
      ·replace h:=bM (nr hb) h;refine bg rfl rfl rfl rfl rfl (aN rfl) ⟨rfl,rfl,trivial⟩ ?_;refine bg rfl rfl rfl rfl rfl (aN rfl) ⟨rfl,rfl,trivial⟩ ?_;refine ku 0 rfl rfl rfl rfl rfl rfl (cZ rfl rfl dB) ⟨rfl,rfl,trivial⟩ ?_;obtain⟨Wc,V1,h⟩:=aa h;refine bg rfl rfl rfl rfl rfl (eY rfl V1) ⟨rfl,rfl,rfl,trivial⟩ ?_;refine df cG ?_;refine gb (dX rfl) ?_;refine au ?_;exact jm (E,(decide (y.1=Wc),y.2)) h (bm [.sl v6 3 (.int .i64) j.2.2.2.1,.obj e 64 (.agg (.pair (Ri c.2.1) (.pair (I c.2.2.1) (.eq (.int .u64 c.2.2.2))))),.obj b1 25 (.rep an a1)] (fD 23 E y.2) [1,2,0] ⟨rfl,rfl,rfl,rfl,rfl,rfl,rfl,rfl,rfl,rfl,trivial⟩ rfl)
     ·refine cv h (fun h=>?_) (fun h=>?_)
      ·refine ar ?_;obtain⟨O,J,h⟩:=aa h;refine dE (uA (pre:=[.obj e 64 (.agg (.pair (Ri c.2.1) (.pair (I c.2.2.1) (.eq (.int .u64 c.2.2.2))))),.obj b1 25 (.rep an a1),.sl v6 3 (.int .i64) j.2.2.2.1]) (qS J).2) ?_;obtain⟨M,V0,h⟩:=aa h;obtain⟨Xu,V6,h⟩:=aa h;obtain⟨WZ,ac,h⟩:=aa h;obtain⟨WY,VZ,h⟩:=aa h;obtain⟨WX,VY,h⟩:=aa h;obtain⟨U,VX,h⟩:=aa h;obtain⟨WW,Y,h⟩:=aa h;refine tC (Δ:=[.sl (l.2 (Int.toNat s)) 3 (.int .i64) O,.sl l.1 23 .val (eB l.2 0 x.2),.obj e 64 (.agg (.pair (Ri c.2.1) (.pair (I c.2.2.1) (.eq (.int .u64 c.2.2.2))))),.obj b1 25 (.rep an a1),.sl v6 3 (.int .i64) j.2.2.2.1]) (F:=(kY l.2 0 x.2).eraseIdx (Int.toNat s)) (Z:=Value) (fun i=>[(0,Pt e),(3,Pt b1),(5,.eq l.1),(6,.eq v6),(7,Ri r7.1),(8,I j.2.2.2.2.1)]) (fun i=>[.sl v6 3 (.int .i64) (List.set j.2.2.2.1 (Int.toNat s) U),.sl l.1 23 .val (List.set (eB l.2 0 x.2) (Int.toNat s) i),.sl i 3 (.int .i64) (O++[M]),.obj e 64 (.agg (.pair (Ri c.2.1) (.pair (I c.2.2.1) (.eq (.int .u64 c.2.2.2))))),.obj b1 25 (.rep an a1)]) (fun S w=>?_) (fun D=>?_)
       ·refine lB ?_;refine aR rfl rfl rfl (aN rfl) ⟨rfl,trivial⟩ ?_;refine aR rfl rfl rfl (aN rfl) ⟨rfl,trivial⟩ ?_;refine aR rfl rfl rfl (aN rfl) ⟨rfl,trivial⟩ ?_;refine aR rfl rfl rfl (aN rfl) ⟨rfl,trivial⟩ ?_;refine aR rfl rfl rfl (aN rfl) ⟨rfl,trivial⟩ ?_;refine aR rfl rfl rfl (aN rfl) ⟨rfl,trivial⟩ ?_;refine dn 1 rfl rfl rfl rfl (aV (t:=.val) rfl oh bN (kT J)) ⟨rfl,rfl,trivial⟩ ?_;refine dn 1 rfl rfl rfl rfl (dV (i:=Int.toNat s) (off:=0) rfl bN (fun _=>rfl) rfl (cz (kT J)).2.2 rfl) ⟨rfl,trivial⟩ ?_;refine aR rfl rfl rfl (aN rfl) ⟨rfl,trivial⟩ ?_;refine aR rfl rfl rfl (aN rfl) ⟨rfl,trivial⟩ ?_;refine aR rfl rfl rfl (aG (t:=(.int .i64)) rfl dB cC V0) ⟨rfl,rfl,trivial⟩ ?_;refine aR rfl rfl rfl (ak (t:=(.int .i64)) rfl cC rfl) ⟨rfl,trivial⟩ ?_;refine aR rfl rfl rfl (bh (t:=(.int .i64)) [(.tmp 80,_)] [M] rfl rfl de (.cons rfl .int .nil) rfl rfl) ⟨rfl,trivial⟩ ?_;refine xa 0 rfl (fun v=>[.sl v 3 (.int .i64) (O++[M])]) (fun _=>rfl) rfl rfl rfl (be rfl rfl de (ay V6)) ⟨rfl,rfl,trivial⟩ ?_;refine aR rfl rfl rfl (aN rfl) ⟨rfl,trivial⟩ ?_;refine aR rfl rfl rfl (aN rfl) ⟨rfl,trivial⟩ ?_;refine dn 4 rfl rfl rfl rfl (aV (t:=(.int .i64)) rfl dB cC ac) ⟨rfl,rfl,trivial⟩ ?_;refine dn 4 rfl rfl rfl rfl (dV (i:=Int.toNat s) (off:=0) rfl cC (fun _=>rfl) rfl (cz ac).2.2 rfl) ⟨rfl,trivial⟩ ?_;refine aR rfl rfl rfl (av rfl cg) ⟨rfl,trivial⟩ ?_;refine dn 3 rfl rfl rfl rfl (ah rfl fR jw rfl) ⟨rfl,trivial⟩ ?_;refine aR rfl rfl rfl (aN rfl) ⟨rfl,trivial⟩ ?_;refine aR rfl rfl rfl (aN rfl) ⟨rfl,trivial⟩ ?_;refine aR rfl rfl rfl (aG (t:=(.int .i64)) rfl dB cC VZ) ⟨rfl,rfl,trivial⟩ ?_;refine aR rfl rfl rfl (ak (t:=(.int .i64)) rfl cC rfl) ⟨rfl,trivial⟩ ?_;refine aR rfl rfl rfl (aG (t:=aK) rfl nD ju VY) ⟨rfl,rfl,trivial⟩ ?_;refine aR rfl rfl rfl (aI 1 false rfl kO rfl) ⟨rfl,trivial⟩ ?_;refine aR rfl rfl rfl (ak (t:=(.int .i64)) rfl cC rfl) ⟨rfl,trivial⟩ ?_;refine aR rfl rfl rfl (eY rfl VX) ⟨rfl,rfl,trivial⟩ ?_;refine dn 1 rfl rfl rfl rfl (aV (t:=.val) rfl oh bN (kT J)) ⟨rfl,rfl,trivial⟩ ?_;refine nB 29 [true,true,false,false,true,true,true,true,true,true,true,true,true,true,true,true,true,true,true,true,true,true,true,true,true,true,true,false,true] [98] [] [] rfl (by kernel_rfl) (by kernel_rfl) (by kernel_rfl) cG (fun vs hv hB=>?_);obtain⟨w0,Xt,rfl,Wt⟩:=ap hv;obtain⟨w1,Xs,rfl,Ws⟩:=ap Wt;obtain⟨w2,Xr,rfl,Wq⟩:=ap Ws;obtain⟨w3,Xq,rfl,Wp⟩:=ap Wq;obtain⟨w4,Xp,rfl,Wn⟩:=ap Wp;obtain⟨w5,Xo,rfl,Wm⟩:=ap Wn;obtain⟨w6,Xn,rfl,Wj⟩:=ap Wm;obtain⟨w7,Xm,rfl,Wi⟩:=ap Wj;obtain⟨w8,Xl,rfl,Wh⟩:=ap Wi;obtain⟨w9,WU,rfl,VT⟩:=ap Wh;obtain⟨Xk,WT,rfl,VS⟩:=ap VT;obtain⟨Xj,WS,rfl,VQ⟩:=ap VS;obtain⟨Xi,WR,rfl,VP⟩:=ap VQ;obtain⟨D,WQ,rfl,VO⟩:=ap VP;obtain⟨Xh,WP,rfl,VN⟩:=ap VO;obtain⟨Xg,WO,rfl,VM⟩:=ap VN;obtain⟨Xf,WN,rfl,VL⟩:=ap VM;obtain⟨Xe,WM,rfl,VK⟩:=ap VL;obtain⟨Xd,WL,rfl,VJ⟩:=ap VK;obtain⟨Xc,WJ,rfl,VI⟩:=ap VJ;obtain⟨Xb,WI,rfl,VH⟩:=ap VI;obtain⟨Xa,WH,rfl,VG⟩:=ap VH;obtain⟨W9,WG,rfl,VF⟩:=ap VG;obtain⟨W8,WE,rfl,VE⟩:=ap VF;obtain⟨W7,WC,rfl,VD⟩:=ap VE;obtain⟨W6,WB,rfl,VC⟩:=ap VD;obtain⟨W5,WA,rfl,se⟩:=ap VC
        obtain⟨W4,Wz,rfl,qt⟩:=ap se;obtain⟨W3,Wy,rfl,pp⟩:=ap qt;obtain rfl:=kZ pp;refine⟨[0,1,2,3,4],[.sl l.1 23 .val (eB l.2 0 x.2),.obj e 64 (.agg (.pair (Ri c.2.1) (.pair (I c.2.2.1) (.eq (.int .u64 c.2.2.2))))),.obj b1 25 (.rep an a1),.sl v6 3 (.int .i64) j.2.2.2.1,.sl D 3 (.int .i64) (O++[M])],by kernel_rfl,by decide,?_⟩;refine jh 4 rfl ?_;refine Ea fun o34=>?_;refine jh 1 rfl ?_;refine qw rfl rfl (cI (i:=Int.toNat s) rfl bN rfl (gy (kT J)) rfl (.val o34) o34) ⟨rfl,rfl,trivial⟩ (by kernel_rfl) ?_;refine jh 4 rfl ?_;refine wX rfl rfl rfl rfl (aV (t:=(.int .i64)) rfl dB cC Y) ⟨rfl,rfl,trivial⟩ (by kernel_rfl) ?_;refine qw rfl rfl (cI (i:=Int.toNat s) rfl cC rfl (gy Y) rfl .int rfl) ⟨rfl,rfl,trivial⟩ (by kernel_rfl) ?_;refine uC ?_;refine bi (SE.fin (Γ':=[(0,Pt e),(3,Pt b1),(5,.eq l.1),(6,.eq v6),(7,Ri r7.1),(8,I j.2.2.2.2.1)]) (Δ':=[.sl v6 3 (.int .i64) (List.set j.2.2.2.1 (Int.toNat s) U),.sl l.1 23 .val (List.set (eB l.2 0 x.2) (Int.toNat s) D),.sl D 3 (.int .i64) (O++[M]),.obj e 64 (.agg (.pair (Ri c.2.1) (.pair (I c.2.2.1) (.eq (.int .u64 c.2.2.2))))),.obj b1 25 (.rep an a1)]) [0,1,2,3,4] ⟨rfl,rfl,rfl,rfl,rfl,rfl,trivial⟩ rfl) ?_;exact fun a w st=>⟨rfl,(D),(SE.fin (Γ':=[(0,Pt e),(3,Pt b1),(5,.eq l.1),(6,.eq v6),(7,Ri r7.1),(8,I j.2.2.2.2.1)]) (Δ':=[.sl v6 3 (.int .i64) (List.set j.2.2.2.1 (Int.toNat s) U),.sl l.1 23 .val (List.set (eB l.2 0 x.2) (Int.toNat s) D),.sl D 3 (.int .i64) (O++[M]),.obj e 64 (.agg (.pair (Ri c.2.1) (.pair (I c.2.2.1) (.eq (.int .u64 c.2.2.2))))),.obj b1 25 (.rep an a1)]) [0,1,2,3,4] ⟨rfl,rfl,rfl,rfl,rfl,rfl,trivial⟩ rfl) a w st⟩
       ·show JN _ _ [(0,Pt e),(3,Pt b1),(5,.eq l.1),(6,.eq v6),(7,Ri r7.1),(8,I j.2.2.2.2.1)] ([.sl v6 3 (.int .i64) (List.set j.2.2.2.1 (Int.toNat s) U),.sl l.1 23 .val (List.set (eB l.2 0 x.2) (Int.toNat s) D),.sl D 3 (.int .i64) (O++[M]),.obj e 64 (.agg (.pair (Ri c.2.1) (.pair (I c.2.2.1) (.eq (.int .u64 c.2.2.2))))),.obj b1 25 (.rep an a1)]++(kY l.2 0 x.2).eraseIdx (Int.toNat s));refine aW 1 rfl ?_;refine aW 2 rfl ?_;refine bi (wV (pre:=[.sl v6 3 (.int .i64) (List.set j.2.2.2.1 (Int.toNat s) U),.obj e 64 (.agg (.pair (Ri c.2.1) (.pair (I c.2.2.1) (.eq (.int .u64 c.2.2.2))))),.obj b1 25 (.rep an a1)]) (z:=l) (i:=Int.toNat s) (qS J).2) ?_;refine au ?_;refine BW (eq_false (by decide)) ?_;refine au ?_;exact jm ((l.1,nP l.2 (Int.toNat s) D),(c.2.1,c.2.2.1,c.2.2.2,List.set j.2.2.2.1 (Int.toNat s) U,List.set x.2 (Int.toNat s) (O++[M]))) h (bm [.sl v6 3 (.int .i64) (List.set j.2.2.2.1 (Int.toNat s) U),.obj e 64 (.agg (.pair (Ri c.2.1) (.pair (I c.2.2.1) (.eq (.int .u64 c.2.2.2))))),.obj b1 25 (.rep an a1)] (fD 23 (l.1,nP l.2 (Int.toNat s) D) (List.set x.2 (Int.toNat s) (O++[M]))) [1,2,0] ⟨rfl,rfl,rfl,rfl,rfl,rfl,trivial⟩ rfl)
      ·refine au ?_;refine ab (mq ?_);obtain⟨Wb,VV,h⟩:=aa h;refine jb (a9 rfl VV) ?_;refine au ?_;exact jm (l,(Wb,x.2)) h (bm [.obj e 64 (.agg (.pair (Ri c.2.1) (.pair (I c.2.2.1) (.eq (.int .u64 c.2.2.2))))),.obj b1 25 (.rep an a1),.sl v6 3 (.int .i64) j.2.2.2.1] (fD 23 l x.2) [0,1,2] ⟨rfl,rfl,rfl,rfl,rfl,rfl,rfl,rfl,trivial⟩ rfl)
    ·refine au ?_;exact jm (E,(c.2.1,c.2.2.1,c.2.2.2,j.2.2.2.1,y.2)) h (bm [.sl v6 3 (.int .i64) j.2.2.2.1,.obj e 64 (.agg (.pair (Ri c.2.1) (.pair (I c.2.2.1) (.eq (.int .u64 c.2.2.2))))),.obj b1 25 (.rep an a1)] (fD 23 E y.2) [1,2,0] ⟨rfl,rfl,rfl,rfl,rfl,rfl,trivial⟩ rfl)
   ·refine ab (mq ?_);obtain⟨Wa,VU,h⟩:=aa h;refine jb (a9 rfl VU) ?_;refine au ?_;exact jm (X,(u.1,u.2.1,u.2.2.1,u.2.2.2.1,Wa,u.2.2.2.2)) h (bm [.obj e 64 (.agg (.pair (Ri u.1) (.pair (I u.2.1) (.eq (.int .u64 u.2.2.1))))),.obj b1 25 (.rep an a1),.sl v6 3 (.int .i64) u.2.2.2.1] (fD 23 X u.2.2.2.2) [0,1,2] ⟨rfl,rfl,rfl,rfl,rfl,rfl,trivial⟩ rfl)
  ·refine au ?_;exact jm (Q,(j.1,j.2.1,j.2.2.1,j.2.2.2.2.2)) h (bm [.obj e 64 (.agg (.pair (Ri j.1) (.pair (I j.2.1) (.eq (.int .u64 j.2.2.1))))),.obj b1 25 (.rep an a1),.sl v6 3 (.int .i64) j.2.2.2.1] (fD 23 Q j.2.2.2.2.2) [0] ⟨rfl,trivial⟩ rfl)
 ·
  refine sr (mq ?_);refine aq (nt (bJ ?_));refine bi (BO (pre:=[.obj e 64 (.agg (.pair (Ri x8.1) (.pair (I x8.2.1) (.eq (.int .u64 x8.2.2.1)))))])) ?_;refine bi (dh [4,5,99] ⟨rfl,rfl,rfl,trivial⟩) ?_;cases h;exact aL () [_] 1 ⟨rfl,trivial⟩ rfl
def fm(k:Nat)(a0:(List (List Int))):Nat→((List (List Int))×Int)→Option (List (List Int))
 |0,_=>none
 |n+1,y3=>
  if y3.2 < (a0.length:Int) then((aP a0 y3.2).bind fun x5=>
  (fY k x5).bind fun r6=>
  (cP (bq (List.length y3.1+List.length [r6]))).bind fun _=>
  (ck (y3.2+1)).bind fun c=>
  fm k a0 n (y3.1++[r6],c)) else(some y3.1)
def jD(k:Nat)(a0:(List (List Int))):Option (List (List Int)):=
 ((fm k a0 k (([]:(List (List Int))),0)):Option ((List (List Int)))).bind fun x1=>
 some x1
def m7(k:Nat)(a0:(List Int)):Option bW:=
 some (a0,0,1)
theorem kh(k:Nat)(a0:(List Int))(r:bW)(h:m7 k a0=some r):
 bZ Tryz.prog 7 [Ri a0] [] (fun z:Nat=>(bp [Pt z],[.obj z 64 (.agg (.pair (Ri r.1) (.pair (I r.2.1) (.eq (.int .u64 r.2.2)))))])):=by
 unfold m7 at h
 replace h:=ba h
 refine bZ.of 6 Tryz.func7 rfl Tryz.ntmps7 rfl fun S w0=>?_
 refine au ?_
 refine jb (c9 [(0,.tmp 3,_),(2,.const (.int .u64 (1)),_)] rfl TC Tf Si (iN ⟨rfl,rfl,trivial⟩) rfl) ?_
 refine aD rfl rfl rfl (pi rfl trivial) ⟨rfl,trivial⟩ fun b1=>?_
 refine au ?_
 cases h
 exact aL b1 [Pt b1] 1 ⟨rfl,trivial⟩ rfl
def qg(k:Nat)(a0:Int)(a1:Int):Option Int:=
 (l7 k a0).bind fun r1=>
 (l7 k a1).bind fun r2=>
 if r1=true then(if r2=true then(some 0) else(some (-1:Int))) else(if r2=true then(some 1) else(if a0 < a1 then(some (-1:Int)) else(if a1 < a0 then(some 1) else(some 0))))
theorem wM(k:Nat)(a0:Int)(a1:Int)(r:Int)(h:qg k a0 a1=some r):
 bZ Tryz.prog 70 [I a0,I a1] [] (fun _:Unit=>(bp [I r],[])):=by
 unfold qg at h
 replace h:=ba h
 refine bZ.of 20 Tryz.func70 rfl Tryz.ntmps70 rfl fun S w0=>?_
 refine au ?_
 obtain⟨r1,e,h⟩:=aa h
 have l:=lQ k a0 r1 e
 refine ja (ao [.tmp 7] rfl rfl L6 rfl l) ?_
 refine au ?_
 obtain⟨r2,c,h⟩:=aa h
 have j:=lQ k a1 r2 c
 refine ja (ao [.tmp 9] rfl rfl L6 rfl j) ?_
 refine au ?_
 refine cv h (fun h=>?_) (fun h=>?_)
 ·
  refine au ?_;refine cv h (fun h=>?_) (fun h=>?_)
  ·refine au ?_;cases h;exact ra
  ·refine au ?_;cases h;exact ra
 ·
  refine au ?_;refine cv h (fun h=>?_) (fun h=>?_)
  ·refine au ?_;cases h;exact ra
  ·refine au ?_;refine jb (bj rfl) ?_;refine nt (ci h (fun h=>?_) (fun h=>?_))
   ·refine au ?_;cases h;exact ra
   ·refine au ?_;refine jb (i7 rfl) ?_;refine nt (ci h (fun h=>?_) (fun h=>?_))
    ·refine au ?_;cases h;exact ra
    ·refine au ?_;cases h;exact ra
def ib(k:Nat)(a0:(List Int))(a1:(List Int)):Nat→Int→Option (Except Int Unit)
 |0,_=>none
 |n+1,y3=>
  if y3 < (a0.length:Int) then((aP a0 y3).bind fun x5=>
  if(a1.length:Int)≤y3 then(some (.error 1)) else((aP a1 y3).bind fun x6=>
  (qg k x5 x6).bind fun r7=>
  if¬(r7=0) then(some (.error r7)) else((ck (y3+1)).bind fun x8=>
  ib k a0 a1 n x8))) else(some (.ok ()))
def dO(k:Nat)(a0:(List Int))(a1:(List Int)):Option Int:=
 bE (α:=Unit) (ib k a0 a1 k 0) (some) fun _=>
 if(a0.length:Int) < (a1.length:Int) then(some (-1:Int)) else(some 0)
theorem rL(k:Nat)(a0:(List Int))(a1:(List Int))(r:Int)(h:dO k a0 a1=some r):
 bZ Tryz.prog 31 [Ri a0,Ri a1] [] (fun _:Unit=>(bp [I r],[])):=by
 unfold dO at h
 replace h:=ba h
 refine bZ.of 36 Tryz.func31 rfl Tryz.ntmps31 rfl fun S w0=>?_
 refine sr ?_
 refine cq ?_
 refine nt ?_
 refine dK (Z:=Unit) (α:=Unit) (fun z2 x1=>[(0,Ri a0),(1,Ri a1)]) (fun z2 x1=>[]) (fun e=>e=r) h (fun e h=>Option.some.inj h) (fun K hR h=>?_) (fun z2 x1 h=>?_)
 ·
  refine au ?_;refine ol dB ?_;refine eI rfl ?_;refine nt (aj (aH (fun z4 y3=>[(0,Ri a0),(1,Ri a1),(9,Ri a0),(10,I (a0.length:Int)),(11,I y3)]) (fun z4 y3=>[]) (ib k a0 a1) k () 0 (fun _=>rfl) h (SE.fin [] ⟨rfl,rfl,rfl,rfl,rfl,trivial⟩ rfl) (fun n z4 y3 h=>?_)));unfold ib at h;refine sr (jb (bj rfl) ?_);refine au ?_;refine ci h (fun h=>?_) (fun h=>?_)
  ·refine au ?_;refine aj (au ?_);obtain⟨x5,l,h⟩:=aa h;refine jb (aG (t:=(.int .i64)) rfl dB cC l) ?_;refine ja (ak (t:=(.int .i64)) rfl cC rfl) ?_;refine au ?_;refine ol dB ?_;refine jb (pg rfl) ?_;refine nt (ci h (fun h=>?_) (fun h=>?_))
   ·refine au ?_;obtain rfl:=hR _ h;exact ra
   ·refine au ?_;obtain⟨x6,j,h⟩:=aa h;refine jb (aG (t:=(.int .i64)) rfl dB cC j) ?_;refine ja (ak (t:=(.int .i64)) rfl cC rfl) ?_;refine au ?_;obtain⟨r7,s,h⟩:=aa h;refine jb (ao [.tmp 24,.tmp 25] rfl rfl Ur rfl (wM k x5 x6 r7 s)) ?_;refine au ?_;refine jb (iZ rfl) ?_;refine nt (cn h (fun h=>?_) (fun h=>?_))
    ·refine au ?_;obtain rfl:=hR _ h;exact ra
    ·refine au ?_;refine ab ?_;obtain⟨x8,c,h⟩:=aa h;refine jb (a9 rfl c) ?_;refine au ?_;exact jz ((),x8) h []
  ·refine au ?_;exact jz ((),()) h []
 ·
  refine au ?_;refine ol dB ?_;refine mq ?_;refine ol dB ?_;refine jb (bj rfl) ?_;refine nt (ci h (fun h=>?_) (fun h=>?_))
  ·refine au ?_;cases h;exact ra
  ·refine au ?_;cases h;exact ra
def iQ(k:Nat)(a0:Int)(a1:Int)(a2:Int):Option Bool:=
 ((if a1≤a0 then(some (decide (a0≤a2))) else(some false)):Option (Bool)).bind fun x1=>
 some x1
theorem kX(k:Nat)(a0:Int)(a1:Int)(a2:Int)(r:Bool)(h:iQ k a0 a1 a2=some r):
 bZ Tryz.prog 71 [I a0,I a1,I a2] [] (fun _:Unit=>(bp [.eq (.bool r)],[])):=by
 unfold iQ at h
 replace h:=ba h
 refine bZ.of 15 Tryz.func71 rfl Tryz.ntmps71 rfl fun S w0=>?_
 refine sr ?_
 refine cq ?_
 refine nt ?_
 refine aJ (Z:=Unit) (α:=Bool) (fun z2 x1=>[(6,.eq (.bool x1))]) (fun z2 x1=>[]) h (fun K h=>?_) (fun z2 x1 h=>?_)
 ·
  refine ab (au ?_);refine jb (pg rfl) ?_;refine mq ?_;refine bY (s:=10) rfl (fun hb=>?_) (fun hb=>?_)
  ·replace h:=cF (oe hb) h;refine au ?_;refine gb (uH rfl) ?_;refine au ?_;exact jz ((),decide (a0≤a2)) h []
  ·replace h:=bM (nr hb) h;refine au ?_;exact jz ((),false) h []
 ·
  refine bJ ?_;cases h;exact ra
def fV(k:Nat)(a0:aQ)(e:gq):Nat→Int→Option (Except Int Unit)
 |0,_=>none
 |n+1,c=>
  if c < (e.2.length:Int) then((aP e.2 c).bind fun x=>
  (ck (a0.1 - 1)).bind fun u=>
  (iQ k x 0 u).bind fun y=>
  if¬(y=true) then(some (.error 1)) else(((if 0 < c then((aP e.2 c).bind fun r=>
  (ck (c - 1)).bind fun l=>
  (aP e.2 l).bind fun j=>
  some (decide (r≤j))) else(some false)):Option (Bool)).bind fun s=>
  if s=true then(some (.error 5)) else((ck (c+1)).bind fun h=>
  fV k a0 e n h))) else(some (.ok ()))
def fW(k:Nat)(a0:aQ):Nat→Int→Option (Except Int Unit)
 |0,_=>none
 |n+1,y5=>
  if y5 < (a0.2.1.length:Int) then(bE (α:=Unit) ((aP a0.2.1 y5).bind fun x9=>
  (iQ k x9.1 1 3).bind fun j=>
  if¬(j=true) then(some (.error 1)) else((aP a0.2.1 y5).bind fun h=>
  fV k a0 h k 0)) (fun e=>some (.error e)) fun _=>
  (ck (y5+1)).bind fun c=>
  fW k a0 n c) else(some (.ok ()))
def fU(k:Nat)(a0:aQ):Nat→Int→Option (Except Int Unit)
 |0,_=>none
 |n+1,c=>
  if c < (a0.2.2.length:Int) then((aP a0.2.2 c).bind fun h=>
  (iQ k h 0 9).bind fun j=>
  if¬(j=true) then(some (.error 1)) else((ck (c+1)).bind fun e=>
  fU k a0 n e)) else(some (.ok ()))
def nQ(k:Nat)(a0:aQ):Option Int:=
 (iQ k a0.1 1 6).bind fun r2=>
 if¬(r2=true) then(some 1) else(if 5 < (a0.2.1.length:Int) then(some 6) else(bE (α:=Unit) (fW k a0 k 0) (some) fun _=>
 if(a0.2.2.length:Int)=0 then(some 7) else(if 3 < (a0.2.2.length:Int) then(some 6) else(bE (α:=Unit) (fU k a0 k 0) (some) fun _=>
 some 0))))
theorem yO(k:Nat)(a0:aQ)(r:Int)(h:nQ k a0=some r):
 bZ Tryz.prog 34 [.rep an a0] [] (fun _:Unit=>(bp [I r],[])):=by
 unfold nQ at h
 replace h:=ba h
 refine bZ.of 87 Tryz.func34 rfl Tryz.ntmps34 rfl fun S w0=>?_
 refine sr ?_
 refine bx fun b1=>?_
 refine au ?_
 refine fl gR ?_
 refine lo cC ?_
 obtain⟨r2,VO,h⟩:=aa h
 have VP:=kX k a0.1 1 6 r2 VO
 refine jc (ao [.tmp 8,.const (.int .i64 (1)),.const (.int .i64 (6))] rfl rfl L8 rfl VP) ?_
 refine ja (eF rfl) ?_
 refine nt ?_
 refine cw h (fun h=>?_) (fun h=>?_)
 ·
  refine au ?_;cases h;exact ra
 ·
  refine au ?_;refine fl cg ?_;refine lo fR ?_;refine ol nD ?_;refine jb (i7 rfl) ?_;refine nt (ci h (fun h=>?_) (fun h=>?_))
  ·refine au ?_;cases h;exact ra
  ·refine sk (dK (Z:=Unit) (α:=Unit) (fun z4 x3=>[(1,Pt b1)]) (fun z4 x3=>[.obj b1 25 (.rep an a0)]) (fun e=>e=r) h (fun e h=>Option.some.inj h) (fun K hR h=>?_) (fun z4 x3 h=>?_))
   ·refine au ?_;refine aj (aH (fun z6 y5=>[(1,Pt b1),(3,I y5)]) (fun z6 y5=>[.obj b1 25 (.rep an a0)]) (fW k a0) k () 0 (fun _=>rfl) h (SE.fin [0] ⟨rfl,rfl,trivial⟩ rfl) (fun n z6 y5 h=>?_));unfold fW at h;refine au ?_;refine fl cg ?_;refine lo fR ?_;refine ol nD ?_;refine jb (bj rfl) ?_;refine nt (ci h (fun h=>?_) (fun h=>?_))
    ·refine sk (dK (Z:=Unit) (α:=Unit) (fun z8 x7=>[(1,Pt b1),(3,I y5)]) (fun z8 x7=>[.obj b1 25 (.rep an a0)]) (fun e=>e=r) h (fun e h=>hR e h) (fun K hR h=>?_) (fun z8 x7 h=>?_))
     ·refine aj (au ?_);refine fl cg ?_;refine lo fR ?_;refine mq ?_;obtain⟨x9,VN,h⟩:=aa h;refine jb (aG (t:=aK) rfl nD ju VN) ?_;refine ja (aI 1 false rfl kO rfl) ?_;refine ja (ak (t:=(.int .i64)) rfl cC rfl) ?_;obtain⟨VM,se,h⟩:=aa h;refine jc (ao [.tmp 27,.const (.int .i64 (1)),.const (.int .i64 (3))] rfl rfl L8 rfl (kX k x9.1 1 3 VM se)) ?_;refine ja (eF rfl) ?_;refine nt (cw h (fun h=>?_) (fun h=>?_))
      ·refine au ?_;obtain rfl:=hR _ h;exact ra
      ·refine au ?_;refine fl cg ?_;refine lo fR ?_;refine mq ?_;obtain⟨s,mc,h⟩:=aa h;refine jb (aG (t:=aK) rfl nD ju mc) ?_;refine ja (aI 1 false rfl kN rfl) ?_;refine ja (ak (t:=(.slice (.int .i64))) rfl bN rfl) ?_;refine au ?_;refine aj (aH (fun D c=>[(1,Pt b1),(3,I y5),(4,Ri s.2),(5,I c)]) (fun D c=>[.obj b1 25 (.rep an a0)]) (fV k a0 s) k () 0 (fun _=>rfl) h (SE.fin [0] ⟨rfl,rfl,rfl,rfl,trivial⟩ rfl) (fun n D c h=>?_));unfold fV at h;refine au ?_;refine ol dB ?_;refine jb (bj rfl) ?_;refine nt (ci h (fun h=>?_) (fun h=>?_))
       ·refine au ?_;refine aj (au ?_);refine bD ?_;refine dm ?_;refine dm ?_;obtain⟨VJ,ac,h⟩:=aa h;refine db (aG (t:=(.int .i64)) rfl dB cC ac) ?_;refine da (ak (t:=(.int .i64)) rfl cC rfl) ?_;refine da (av rfl gR) ?_;refine ea 0 (ah rfl cC jw rfl) ?_;obtain⟨VI,Y,h⟩:=aa h;refine db (eY rfl Y) ?_;refine df cG ?_;obtain⟨VL,qt,h⟩:=aa h;refine jc (ao [.tmp 45,.const (.int .i64 (0)),.tmp 48] rfl rfl L8 rfl (kX k VJ 0 VI VL qt)) ?_;refine ja (eF rfl) ?_;refine nt (cw h (fun h=>?_) (fun h=>?_))
        ·refine au ?_;obtain rfl:=hR _ h;exact ra
        ·refine sk (aJ (Z:=Unit) (α:=Bool) (fun y l=>[(1,Pt b1),(3,I y5),(4,Ri s.2),(5,I c),(64,.eq (.bool l))]) (fun y l=>[.obj b1 25 (.rep an a0)]) h (fun K h=>?_) (fun y l h=>?_))
         ·refine bD ?_;refine dm ?_;refine db (i7 rfl) ?_;refine nc rfl rfl rfl (aN rfl) ⟨rfl,trivial⟩ (fun hb=>?_) (fun hb=>?_)
          ·replace h:=cF (oe hb) h;refine bg rfl rfl rfl rfl rfl (aN rfl) ⟨rfl,rfl,trivial⟩ ?_;refine bg rfl rfl rfl rfl rfl (aN rfl) ⟨rfl,rfl,trivial⟩ ?_;obtain⟨VH,X,h⟩:=aa h;refine bg rfl rfl rfl rfl rfl (aG (t:=(.int .i64)) rfl dB cC X) ⟨rfl,rfl,rfl,trivial⟩ ?_;refine bg rfl rfl rfl rfl rfl (ak (t:=(.int .i64)) rfl cC rfl) ⟨rfl,rfl,trivial⟩ ?_;refine bg rfl rfl rfl rfl rfl (aN rfl) ⟨rfl,rfl,trivial⟩ ?_;refine bg rfl rfl rfl rfl rfl (aN rfl) ⟨rfl,rfl,trivial⟩ ?_;obtain⟨VQ,U,h⟩:=aa h;refine bg rfl rfl rfl rfl rfl (eY rfl U) ⟨rfl,rfl,rfl,trivial⟩ ?_;obtain⟨VG,Q,h⟩:=aa h;refine bg rfl rfl rfl rfl rfl (aG (t:=(.int .i64)) rfl dB cC Q) ⟨rfl,rfl,rfl,trivial⟩ ?_;refine bg rfl rfl rfl rfl rfl (ak (t:=(.int .i64)) rfl cC rfl) ⟨rfl,rfl,trivial⟩ ?_;refine df cG ?_;refine gb (uH rfl) ?_;refine au ?_;exact jz ((),decide (VH≤VG)) h [0]
          ·replace h:=bM (nr hb) h;iterate 9 refine dg ?_
           refine df cG ?_;refine au ?_;exact jz ((),false) h [0]
         ·refine cv h (fun h=>?_) (fun h=>?_)
          ·refine au ?_;obtain rfl:=hR _ h;exact ra
          ·refine au ?_;refine ab (mq ?_);obtain⟨VF,O,h⟩:=aa h;refine jb (a9 rfl O) ?_;refine au ?_;exact jz ((),VF) h [0]
       ·refine au ?_;exact jz ((),()) h [0]
     ·refine ab (mq ?_);obtain⟨VE,M,h⟩:=aa h;refine jb (a9 rfl M) ?_;refine au ?_;exact jz ((),VE) h [0]
    ·refine au ?_;exact jz ((),()) h [0]
   ·refine au ?_;refine fl cH ?_;refine lo bN ?_;refine ol dB ?_;refine jb (dX rfl) ?_;refine nt (ci h (fun h=>?_) (fun h=>?_))
    ·refine au ?_;cases h;exact ra
    ·refine au ?_;refine fl cH ?_;refine lo bN ?_;refine ol dB ?_;refine jb (i7 rfl) ?_;refine nt (ci h (fun h=>?_) (fun h=>?_))
     ·refine au ?_;cases h;exact ra
     ·refine sk (dK (Z:=Unit) (α:=Unit) (fun x E=>[]) (fun x E=>[]) (fun e=>e=r) h (fun e h=>Option.some.inj h) (fun K hR h=>?_) (fun x E h=>?_))
      ·refine au ?_;refine aj (aH (fun u j=>[(1,Pt b1),(6,I j)]) (fun u j=>[.obj b1 25 (.rep an a0)]) (fU k a0) k () 0 (fun _=>rfl) h (SE.fin [0] ⟨rfl,rfl,trivial⟩ rfl) (fun n u j h=>?_));unfold fU at h;refine au ?_;refine fl cH ?_;refine lo bN ?_;refine ol dB ?_;refine jb (bj rfl) ?_;refine nt (ci h (fun h=>?_) (fun h=>?_))
       ·refine au ?_;refine aj (sr (fl cH ?_));refine lo bN ?_;refine mq ?_;obtain⟨VD,J,h⟩:=aa h;refine jb (aG (t:=(.int .i64)) rfl dB cC J) ?_;refine ja (ak (t:=(.int .i64)) rfl cC rfl) ?_;obtain⟨VK,pp,h⟩:=aa h;refine jc (ao [.tmp 84,.const (.int .i64 (0)),.const (.int .i64 (9))] rfl rfl L8 rfl (kX k VD 0 9 VK pp)) ?_;refine ja (eF rfl) ?_;refine nt (cw h (fun h=>?_) (fun h=>?_))
        ·refine au ?_;obtain rfl:=hR _ h;exact ra
        ·refine au ?_;refine ab (mq ?_);obtain⟨VC,F,h⟩:=aa h;refine jb (a9 rfl F) ?_;refine au ?_;exact jz ((),VC) h [0]
       ·refine au ?_;exact jz ((),()) h []
      ·refine au ?_;cases h;exact ra
def lN(k:Nat)(y3:(List (List Int))×Int)(r9:(List (List Int))):Nat→((List (List Int))×Int)→Option (List (List Int))
 |0,_=>none
 |n+1,c=>
  if c.2 < (r9.length:Int) then((aP r9 c.2).bind fun e=>
  (cP (bq (List.length [y3.2]+List.length e))).bind fun _=>
  (cP (bq (List.length c.1+List.length [[y3.2]++e]))).bind fun _=>
  (ck (c.2+1)).bind fun h=>
  lN k y3 r9 n (c.1++[[y3.2]++e],h)) else(some c.1)
def lO(k:Nat)(a1:Int)(a2:Int)(self:Int→Int→Int→Option ((List (List Int)))):Nat→((List (List Int))×Int)→Option (List (List Int))
 |0,_=>none
 |n+1,y3=>
  if y3.2 < a1 then((((ck (y3.2+1)).bind fun x7=>
  (ck (a2 - 1)).bind fun x8=>
  (self x7 a1 x8).bind fun r9=>
  lN k y3 r9 k (y3.1,0)):Option ((List (List Int)))).bind fun x5=>
  (ck (y3.2+1)).bind fun c=>
  lO k a1 a2 self n (x5,c)) else(some y3.1)
def kD(k:Nat):Nat→Int→Int→Int→Option ((List (List Int)))
 |0,_,_,_=>none
 |m0+1,a0,a1,a2=>
  if a2=0 then(some [[]]) else(((lO k a1 a2 (kD k m0) k (([]:(List (List Int))),a0)):Option ((List (List Int)))).bind fun x1=>
  some x1)
theorem yM(k:Nat):
 ∀(n:Nat) (a0:Int) (a1:Int) (a2:Int) (r:(List (List Int))),kD k n a0 a1 a2=some r→bZ Tryz.prog 35 [I a0,I a1,I a2] ([]) (fun _:Unit=>(bp [.rep (.slice (.slice (.int .i64))) r],[])):=by
 intro n
 induction n with
 |zero=>intro a0 a1 a2 r h;cases h
 |succ m0 ih=>
  intro a0 a1 a2 r h;rw [kD] at h;replace h:=ba h;refine bZ.of 43 Tryz.func35 rfl Tryz.ntmps35 rfl fun S w0=>?_;refine au ?_;refine jb (dX rfl) ?_;refine nt (ci h (fun h=>?_) (fun h=>?_))
  ·refine sr (ja (bh (t:=(.slice (.int .i64))) [(.const (.slice none 0 0),_)] [[]] rfl rfl lD (.cons rfl .nil .nil) rfl rfl) ?_);refine au ?_;cases h;exact ra
  ·refine sk (sr (cq (nt ?_)));refine aJ (Z:=Value) (α:=(List (List Int))) (fun z2 x1=>[(7,.eq z2)]) (fun z2 x1=>[.sl z2 23 (.slice (.int .i64)) x1]) h (fun K h=>?_) (fun z2 x1 h=>?_)
   ·refine au ?_;refine aj (dE (SE.nil 23 (.slice (.int .i64))) ?_);refine aH (fun z4 y3=>[(1,I a1),(2,I a2),(7,.eq z4),(8,I y3.2)]) (fun z4 y3=>[.sl z4 23 (.slice (.int .i64)) y3.1]) (lO k a1 a2 (kD k m0)) k (.slice none 0 0) (([]:(List (List Int))),a0) (fun _=>rfl) h (SE.fin [0] ⟨rfl,rfl,rfl,rfl,trivial⟩ rfl) (fun n z4 y3 h=>?_);unfold lO at h;refine au ?_;refine jb (bj rfl) ?_;refine nt (ci h (fun h=>?_) (fun h=>?_))
    ·refine sk (aJ (Z:=Value) (α:=(List (List Int))) (fun z6 x5=>[(1,I a1),(2,I a2),(7,.eq z6),(8,I y3.2)]) (fun z6 x5=>[.sl z6 23 (.slice (.int .i64)) x5]) h (fun K h=>?_) (fun z6 x5 h=>?_))
     ·refine aj (au ?_);obtain⟨x7,M,h⟩:=aa h;refine jb (a9 rfl M) ?_;refine au ?_;obtain⟨x8,J,h⟩:=aa h;refine jb (eY rfl J) ?_;obtain⟨r9,O,h⟩:=aa h;refine jc (ao [.tmp 21,.tmp 22,.tmp 24] rfl rfl RG rfl (ih x7 a1 x8 r9 O)) ?_;refine au ?_;refine aj (aH (fun e c=>[(1,I a1),(2,I a2),(7,.eq e),(8,I y3.2),(9,.rep (.slice (.slice (.int .i64))) r9),(10,I c.2)]) (fun e c=>[.sl e 23 (.slice (.int .i64)) c.1]) (lN k y3 r9) k z4 (y3.1,0) (fun _=>rfl) h (SE.fin [0] ⟨rfl,rfl,rfl,rfl,rfl,rfl,trivial⟩ rfl) (fun n e c h=>?_));unfold lN at h;refine au ?_;refine ol oh ?_;refine jb (bj rfl) ?_;refine nt (ci h (fun h=>?_) (fun h=>?_))
      ·refine au ?_;refine aj (ab (au ?_));refine aD rfl rfl rfl (ge (t:=(.int .i64)) [(.tmp 33,_)] [y3.2] rfl rfl de (.cons rfl .int .nil) rfl rfl) ⟨rfl,trivial⟩ fun U=>?_;refine au ?_;obtain⟨j,u,h⟩:=aa h;refine jb (aG (t:=(.slice (.int .i64))) rfl oh bN u) ?_;refine ja (ak (t:=(.slice (.int .i64))) rfl bN rfl) ?_;obtain⟨X,y,h⟩:=aa h;refine cp rfl rfl rfl (be rfl rfl de (ay y)) ⟨rfl,rfl,trivial⟩ fun Q=>?_;refine co (dh [39] ⟨rfl,trivial⟩) ?_;refine ja (bh (t:=(.slice (.int .i64))) [(.tmp 39,_)] [[y3.2]++j] rfl rfl lD (.cons rfl .rep .nil) rfl rfl) ?_;obtain⟨u16,x,h⟩:=aa h;refine cp rfl rfl rfl (be rfl rfl lD (ay x)) ⟨rfl,rfl,trivial⟩ fun F=>?_;refine au ?_;refine ab (mq ?_);obtain⟨E,s,h⟩:=aa h;refine jb (a9 rfl s) ?_;refine au ?_;exact jz (F,(c.1++[[y3.2]++j],E)) h [0]
      ·refine au ?_;exact jz (e,c.1) h [0]
     ·refine ab (mq ?_);obtain⟨D,l,h⟩:=aa h;refine jb (a9 rfl l) ?_;refine au ?_;exact jz (z6,(x5,D)) h [0]
    ·refine au ?_;exact jz (z4,y3.1) h [0]
   ·refine sr (mq ?_);refine aq (nt (bJ ?_));refine bi (dh [6,7,42] ⟨rfl,rfl,rfl,trivial⟩) ?_;cases h;exact ra
def iR(k:Nat)(a0:(List Int))(a1:Int):Nat→Int→Option (Except Bool Unit)
 |0,_=>none
 |n+1,y3=>
  if y3 < (a0.length:Int) then((aP a0 y3).bind fun x5=>
  if x5=a1 then(some (.error true)) else((ck (y3+1)).bind fun x6=>
  iR k a0 a1 n x6)) else(some (.ok ()))
def oJ(k:Nat)(a0:(List Int))(a1:Int):Option Bool:=
 bE (α:=Unit) (iR k a0 a1 k 0) (some) fun _=>
 some false
theorem rQ(k:Nat)(a0:(List Int))(a1:Int)(r:Bool)(h:oJ k a0 a1=some r):
 bZ Tryz.prog 96 [Ri a0,I a1] [] (fun _:Unit=>(bp [.eq (.bool r)],[])):=by
 unfold oJ at h
 replace h:=ba h
 refine bZ.of 18 Tryz.func96 rfl Tryz.ntmps96 rfl fun S w0=>?_
 refine sr ?_
 refine cq ?_
 refine nt ?_
 refine dK (Z:=Unit) (α:=Unit) (fun z2 x1=>[]) (fun z2 x1=>[]) (fun e=>e=r) h (fun e h=>Option.some.inj h) (fun K hR h=>?_) (fun z2 x1 h=>?_)
 ·
  refine au ?_;refine aj (aH (fun z4 y3=>[(0,Ri a0),(1,I a1),(5,I y3)]) (fun z4 y3=>[]) (iR k a0 a1) k () 0 (fun _=>rfl) h (SE.fin [] ⟨rfl,rfl,rfl,trivial⟩ rfl) (fun n z4 y3 h=>?_));unfold iR at h;refine au ?_;refine ol dB ?_;refine jb (bj rfl) ?_;refine nt (ci h (fun h=>?_) (fun h=>?_))
  ·refine au ?_;refine aj (au ?_);obtain⟨x5,j,h⟩:=aa h;refine jb (aG (t:=(.int .i64)) rfl dB cC j) ?_;refine ja (ak (t:=(.int .i64)) rfl cC rfl) ?_;refine mq ?_;refine jb (dX rfl) ?_;refine nt (ci h (fun h=>?_) (fun h=>?_))
   ·refine au ?_;obtain rfl:=hR _ h;exact ra
   ·refine au ?_;refine ab (mq ?_);obtain⟨x6,c,h⟩:=aa h;refine jb (a9 rfl c) ?_;refine au ?_;exact jz ((),x6) h []
  ·refine au ?_;exact jz ((),()) h []
 ·
  refine au ?_;cases h;exact ra
def eO(k:Nat)(a0:aQ)(a1:(List Int))(a2:(List (List Int)))(a3:(List Int))(a4:Int)(self:aQ→(List Int)→(List (List Int))→(List Int)→Int→Option ((List (List (List Int)))))(x2:Int):Nat→((List (List (List Int)))×Int)→Option (List (List (List Int)))
 |0,_=>none
 |n+1,c=>
  ((if c.2 < (a0.2.1.length:Int) then((oJ k a1 x2).bind fun E=>
  some E) else(some false)):Option (Bool)).bind fun y=>
  if y=true then((((((oJ k a3 c.2).bind fun D=>
  if D=true then(some true) else((aP a0.2.1 c.2).bind fun s=>
  some (decide (a4 < s.1)))):Option (Bool)).bind fun u=>
  if u=true then(some c.1) else((cP (bq (List.length ([]:(List (List Int)))+List.length a2))).bind fun _=>
  (aP a2 x2).bind fun e=>
  (cP (bq (List.length ([]:(List Int))+List.length e))).bind fun _=>
  (cP (bq (List.length (([]:(List Int))++e)+List.length [c.2]))).bind fun _=>
  (aP (([]:(List (List Int)))++a2) x2).bind fun F=>
  (aP a0.2.1 c.2).bind fun r=>
  (ck (a4 - r.1)).bind fun l=>
  (cP (bq (List.length ([]:(List Int))+List.length a3))).bind fun _=>
  (cP (bq (List.length (([]:(List Int))++a3)+List.length [c.2]))).bind fun _=>
  (self a0 a1 (List.set (([]:(List (List Int)))++a2) (Int.toNat x2) ((([]:(List Int))++e)++[c.2])) ((([]:(List Int))++a3)++[c.2]) l).bind fun h=>
  (cP (bq (List.length c.1+List.length h))).bind fun _=>
  some (c.1++h))):Option ((List (List (List Int))))).bind fun x=>
  (ck (c.2+1)).bind fun j=>
  eO k a0 a1 a2 a3 a4 self x2 n (x,j)) else(some c.1)
def eT(k:Nat):Nat→aQ→(List Int)→(List (List Int))→(List Int)→Int→Option ((List (List (List Int))))
 |0,_,_,_,_,_=>none
 |m0+1,a0,a1,a2,a3,a4=>
  (ck ((a2.length:Int) - 1)).bind fun x2=>
  (((ck ((a0.2.2.length:Int) - 1)).bind fun x5=>
  if x2=x5 then(if(a3.length:Int)=(a0.2.1.length:Int) then((cP (bq (List.length ([]:(List (List (List Int))))+List.length [a2]))).bind fun _=>
  some (([]:(List (List (List Int))))++[a2])) else(some ([]:(List (List (List Int)))))) else((cP (bq (List.length ([]:(List (List Int)))+List.length a2))).bind fun _=>
  (cP (bq (List.length (([]:(List (List Int)))++a2)+List.length ([[]]:(List (List Int)))))).bind fun _=>
  (ck (x2+1)).bind fun j=>
  (aP a0.2.2 j).bind fun h=>
  ((eT k m0) a0 a1 ((([]:(List (List Int)))++a2)++([[]]:(List (List Int)))) a3 h).bind fun c=>
  (cP (bq (List.length ([]:(List (List (List Int))))+List.length c))).bind fun _=>
  some (([]:(List (List (List Int))))++c))):Option ((List (List (List Int))))).bind fun x3=>
  ((eO k a0 a1 a2 a3 a4 (eT k m0) x2 k (x3,0)):Option ((List (List (List Int))))).bind fun e=>
  some e
theorem uZ(k:Nat):
 ∀(n:Nat) (a0:aQ) (a1:(List Int)) (a2:(List (List Int))) (a3:(List Int)) (a4:Int) (r:(List (List (List Int)))),eT k n a0 a1 a2 a3 a4=some r→bZ Tryz.prog 72 [.rep an a0,Ri a1,.rep (.slice (.slice (.int .i64))) a2,Ri a3,I a4] ([]) (fun _:Unit=>(bp [.rep (.slice (.slice (.slice (.int .i64)))) r],[])):=by
 intro n
 induction n with
 |zero=>intro a0 a1 a2 a3 a4 r h;cases h
 |succ m0 ih=>
  intro a0 a1 a2 a3 a4 r h;rw [eT] at h;replace h:=ba h;refine bZ.of 114 Tryz.func72 rfl Tryz.ntmps72 rfl fun S w0=>?_;refine sr (bx fun b1=>?_);refine au ?_;refine ol oh ?_;obtain⟨x2,Wi,h⟩:=aa h;refine jb (eY rfl Wi) ?_;refine aq (nt (sr ?_));refine cq (nt ?_);refine aJ (Z:=Value) (α:=(List (List (List Int)))) (fun z4 x3=>[(1,Ri a1),(2,.rep (.slice (.slice (.int .i64))) a2),(3,Ri a3),(4,I a4),(5,Pt b1),(11,I x2),(12,.eq z4)]) (fun z4 x3=>[.obj b1 25 (.rep an a0),.sl z4 37 (.slice (.slice (.int .i64))) x3]) h (fun K h=>?_) (fun z4 x3 h=>?_)
  ·refine au ?_;refine fl cH ?_;refine lo bN ?_;refine ol dB ?_;obtain⟨x5,Wh,h⟩:=aa h;refine jb (eY rfl Wh) ?_;refine jb (dX rfl) ?_;refine nt (ci h (fun h=>?_) (fun h=>?_))
   ·refine au ?_;refine ol dB ?_;refine fl cg ?_;refine lo fR ?_;refine ol nD ?_;refine jb (dX rfl) ?_;refine nt (ci h (fun h=>?_) (fun h=>?_))
    ·refine ab (au ?_);refine ja (bh (t:=(.slice (.slice (.int .i64)))) [(.tmp 32,_)] [a2] rfl rfl Hz (.cons rfl .rep .nil) rfl rfl) ?_;refine co (SE.nil 37 (.slice (.slice (.int .i64)))) ?_;obtain⟨u6,Wm,h⟩:=aa h;refine cp rfl rfl rfl (be rfl rfl Hz (ay Wm)) ⟨rfl,rfl,trivial⟩ fun v7=>?_;refine au ?_;exact jz (v7,([]:(List (List (List Int))))++[a2]) h [1,0]
    ·refine cT (ag (bi (SE.nil 37 (.slice (.slice (.int .i64)))) ?_));exact jz ((.slice none 0 0),([]:(List (List (List Int))))) h [1,0]
   ·refine sr (aD rfl rfl rfl (ge (t:=(.slice (.int .i64))) [] ([]:(List (List Int))) rfl rfl lD .nil rfl rfl) trivial fun v8=>?_);refine mq ?_;obtain⟨u9,Wj,h⟩:=aa h;refine cp rfl rfl rfl (be rfl rfl lD (ay Wj)) ⟨rfl,rfl,trivial⟩ fun WZ=>?_;refine ja (bh (t:=(.slice (.int .i64))) [(.const (.slice none 0 0),_)] ([[]]:(List (List Int))) rfl rfl lD (.cons rfl .nil .nil) rfl rfl) ?_;obtain⟨W5,VS,h⟩:=aa h;refine cp rfl rfl rfl (be rfl rfl lD (ay VS)) ⟨rfl,rfl,trivial⟩ fun WY=>?_;refine aq (nt ?_);refine dE (dh [13,39] ⟨rfl,rfl,trivial⟩) ?_;refine bD ?_;refine dm ?_;refine ea 0 (ah rfl du (sT) rfl) ?_;refine dm ?_;refine dm ?_;refine dm ?_;refine da (av rfl cH) ?_;refine ea 0 (ah rfl bN jw rfl) ?_;refine dm ?_;obtain⟨Wz,VJ,h⟩:=aa h;refine db (a9 rfl VJ) ?_;obtain⟨V0,VI,h⟩:=aa h;refine db (aG (t:=(.int .i64)) rfl dB cC VI) ?_;refine da (ak (t:=(.int .i64)) rfl cC rfl) ?_;obtain⟨X,VX,h⟩:=aa h;refine dt rfl rfl rfl (ao [.tmp 41,.tmp 42,.tmp 43,.tmp 44,.tmp 50] rfl rfl O1 rfl (ih a0 a1 ((([]:(List (List Int)))++a2)++([[]]:(List (List Int)))) a3 V0 X VX)) ⟨rfl,rfl,rfl,rfl,rfl,trivial⟩ ?_;refine df cG ?_;refine co (SE.nil 37 (.slice (.slice (.int .i64)))) ?_;obtain⟨u16,VQ,h⟩:=aa h;refine cp rfl rfl rfl (be rfl rfl Hz (ay VQ)) ⟨rfl,rfl,trivial⟩ fun V4=>?_;refine au ?_;exact jz (V4,([]:(List (List (List Int))))++X) h [1,0]
  ·refine aJ (Z:=Value) (α:=(List (List (List Int)))) (fun l E=>[(12,.eq l)]) (fun l E=>[.sl l 37 (.slice (.slice (.int .i64))) E]) h (fun K h=>?_) (fun l E h=>?_)
   ·refine au ?_;refine aj (aH (fun e c=>[(1,Ri a1),(2,.rep (.slice (.slice (.int .i64))) a2),(3,Ri a3),(4,I a4),(5,Pt b1),(11,I x2),(12,.eq e),(14,I c.2)]) (fun e c=>[.obj b1 25 (.rep an a0),.sl e 37 (.slice (.slice (.int .i64))) c.1]) (eO k a0 a1 a2 a3 a4 (eT k m0) x2) k z4 (x3,0) (fun _=>rfl) h (SE.fin [0,1] ⟨rfl,rfl,rfl,rfl,rfl,rfl,rfl,rfl,trivial⟩ rfl) (fun n e c h=>?_));unfold eO at h;refine ar (aJ (Z:=Unit) (α:=Bool) (fun J D=>[(1,Ri a1),(2,.rep (.slice (.slice (.int .i64))) a2),(3,Ri a3),(4,I a4),(5,Pt b1),(11,I x2),(12,.eq e),(14,I c.2),(62,.eq (.bool D))]) (fun J D=>[.obj b1 25 (.rep an a0),.sl e 37 (.slice (.slice (.int .i64))) c.1]) h (fun K h=>?_) (fun J D h=>?_))
    ·refine ab (mq ?_);refine fl cg ?_;refine lo fR ?_;refine ol nD ?_;refine jb (bj rfl) ?_;refine mq ?_;refine bY (s:=58) rfl (fun hb=>?_) (fun hb=>?_)
     ·replace h:=cF (oe hb) h;refine au ?_;obtain⟨U,VV,h⟩:=aa h;refine gb (ao [.tmp 59,.tmp 60] rfl rfl O0 rfl (rQ k a1 x2 U VV)) ?_;refine au ?_;exact jz ((),U) h [0,1]
     ·replace h:=bM (nr hb) h;refine au ?_;exact jz ((),false) h [0,1]
    ·refine cv h (fun h=>?_) (fun h=>?_)
     ·refine sk (aJ (Z:=Value) (α:=(List (List (List Int)))) (fun j u=>[(1,Ri a1),(2,.rep (.slice (.slice (.int .i64))) a2),(3,Ri a3),(4,I a4),(5,Pt b1),(11,I x2),(12,.eq j),(14,I c.2)]) (fun j u=>[.obj b1 25 (.rep an a0),.sl j 37 (.slice (.slice (.int .i64))) u]) h (fun K h=>?_) (fun j u h=>?_))
      ·refine aj (ar (aJ (Z:=Unit) (α:=Bool) (fun F y=>[(1,Ri a1),(2,.rep (.slice (.slice (.int .i64))) a2),(3,Ri a3),(4,I a4),(5,Pt b1),(11,I x2),(12,.eq e),(14,I c.2),(77,.eq (.bool y))]) (fun F y=>[.obj b1 25 (.rep an a0),.sl e 37 (.slice (.slice (.int .i64))) c.1]) h (fun K h=>?_) (fun F y h=>?_)))
       ·refine ab (au ?_);obtain⟨V5,VU,h⟩:=aa h;refine jb (ao [.tmp 65,.tmp 66] rfl rfl O0 rfl (rQ k a3 c.2 V5 VU)) ?_;refine mq ?_;refine bY (s:=68) rfl (fun hb=>?_) (fun hb=>?_)
        ·replace h:=cF (CE hb) h;refine au ?_;exact jz ((),true) h [0,1]
        ·replace h:=bM (CG hb) h;refine ga (av rfl cg) ?_;refine gi rfl rfl rfl rfl rfl rfl (ah rfl fR jw rfl) ⟨rfl,trivial⟩ ?_;refine gm ?_;obtain⟨VZ,VH,h⟩:=aa h;refine gb (aG (t:=aK) rfl nD ju VH) ?_;refine ga (aI 1 false rfl kO rfl) ?_;refine ga (ak (t:=(.int .i64)) rfl cC rfl) ?_;refine gm ?_;refine gb (i7 rfl) ?_;refine au ?_;exact jz ((),decide (a4 < VZ.1)) h [0,1]
       ·refine cv h (fun h=>?_) (fun h=>?_)
        ·refine au ?_;exact jz (e,c.1) h [0,1]
        ·refine au ?_;refine aD rfl rfl rfl (ge (t:=(.slice (.int .i64))) [] ([]:(List (List Int))) rfl rfl lD .nil rfl rfl) trivial fun WX=>?_;refine mq ?_;obtain⟨u32,VP,h⟩:=aa h;refine cp rfl rfl rfl (be rfl rfl lD (ay VP)) ⟨rfl,rfl,trivial⟩ fun WW=>?_;refine au ?_;refine aD rfl rfl rfl (ge (t:=(.int .i64)) [] ([]:(List Int)) rfl rfl de .nil rfl rfl) trivial fun WU=>?_;refine au ?_;obtain⟨O,VG,h⟩:=aa h;refine jb (aG (t:=(.slice (.int .i64))) rfl oh bN VG) ?_;refine ja (ak (t:=(.slice (.int .i64))) rfl bN rfl) ?_;obtain⟨W4,VO,h⟩:=aa h;refine cp rfl rfl rfl (be rfl rfl de (ay VO)) ⟨rfl,rfl,trivial⟩ fun WT=>?_;refine mq ?_;refine ja (bh (t:=(.int .i64)) [(.tmp 89,_)] [c.2] rfl rfl de (.cons rfl .int .nil) rfl rfl) ?_;obtain⟨W3,VN,h⟩:=aa h;refine cp rfl rfl rfl (be rfl rfl de (ay VN)) ⟨rfl,rfl,trivial⟩ fun WS=>?_;obtain⟨Wy,x,h⟩:=aa h;refine fr 1 ?_;refine kb (aV (t:=(.slice (.int .i64))) rfl oh bN x) ?_;refine fr 1 ?_;refine co (dh [91] ⟨rfl,trivial⟩) ?_;refine a8 rfl rfl (cI (i:=Int.toNat x2) rfl bN rfl (gy x) rfl .rep rfl) ⟨rfl,rfl,trivial⟩ ?_;refine nt (dE (dh [15,80,81] ⟨rfl,rfl,rfl,trivial⟩) ?_);refine yz [0,1,2,3,5,7,8,10,11,12,13,14,15,16,17,4,6,9,18,19,20] (by kernel_rfl) ?_;refine aR rfl rfl rfl (aN rfl) ⟨rfl,trivial⟩ ?_;refine dn 0 rfl rfl rfl rfl (ah rfl du (sT) rfl) ⟨rfl,trivial⟩ ?_;refine aR rfl rfl rfl (aN rfl) ⟨rfl,trivial⟩ ?_;refine aR rfl rfl rfl (aN rfl) ⟨rfl,trivial⟩ ?_;refine aR rfl rfl rfl (aN rfl) ⟨rfl,trivial⟩ ?_;refine aR rfl rfl rfl (aN rfl) ⟨rfl,trivial⟩ ?_;refine aR rfl rfl rfl (bh (t:=(.int .i64)) [(.tmp 100,_)] [c.2] rfl rfl de (.cons rfl .int .nil) rfl rfl) ⟨rfl,trivial⟩ ?_;refine aR rfl rfl rfl (aN rfl) ⟨rfl,trivial⟩ ?_;refine aR rfl rfl rfl (av rfl cg) ⟨rfl,trivial⟩ ?_;refine dn 0 rfl rfl rfl rfl (ah rfl fR jw rfl) ⟨rfl,trivial⟩ ?_;refine aR rfl rfl rfl (aN rfl) ⟨rfl,trivial⟩ ?_;obtain⟨Wx,VF,h⟩:=aa h;refine aR rfl rfl rfl (aG (t:=aK) rfl nD ju VF) ⟨rfl,rfl,trivial⟩ ?_;refine aR rfl rfl rfl (aI 1 false rfl kO rfl) ⟨rfl,trivial⟩ ?_;refine aR rfl rfl rfl (ak (t:=(.int .i64)) rfl cC rfl) ⟨rfl,trivial⟩ ?_;obtain⟨M,VE,h⟩:=aa h;refine aR rfl rfl rfl (eY rfl VE) ⟨rfl,rfl,trivial⟩ ?_;refine zM (fun v=>[.sl v 3 (.int .i64) ([]:(List Int))]) (fun _=>rfl) rfl rfl rfl (ge (t:=(.int .i64)) [] ([]:(List Int)) rfl rfl de .nil rfl rfl) trivial ?_;refine nB 16 [false,false,false,false,true,false,false,false,false,false,false,false,false,false,false,true] [99,102,111] [0] [.obj b1 25 (.rep an a0)] rfl (by kernel_rfl) (by kernel_rfl) (by kernel_rfl) cG (fun vs hv hB=>?_);obtain⟨w0,WQ,rfl,Wg⟩:=ap hv;obtain⟨w1,WP,rfl,We⟩:=ap Wg;obtain⟨w2,WO,rfl,Wc⟩:=ap We;obtain⟨w3,WN,rfl,Wb⟩:=ap Wc;obtain⟨w4,WM,rfl,Wa⟩:=ap Wb;obtain⟨w5,WL,rfl,V9⟩:=ap Wa;obtain⟨w6,WJ,rfl,V8⟩:=ap V9;obtain⟨w7,WI,rfl,V7⟩:=ap V8;obtain⟨w8,WH,rfl,V6⟩:=ap V7;obtain⟨w9,Wv,rfl,VC⟩:=ap V6;obtain⟨WG,Wu,rfl,se⟩:=ap VC;obtain⟨WE,Wt,rfl,qt⟩:=ap se;obtain⟨WC,Ws,rfl,pp⟩:=ap qt;obtain⟨WB,Wq,rfl,mc⟩:=ap pp;obtain⟨WA,Wp,rfl,ac⟩:=ap mc;obtain⟨V3,Wn,rfl,Y⟩:=ap ac;obtain rfl:=kZ Y;refine⟨[0,1,2],[.sl e 37 (.slice (.slice (.int .i64))) c.1,.sl V3 3 (.int .i64) ([]:(List Int))],by kernel_rfl,by decide,?_⟩;obtain⟨W2,VM,h⟩:=aa h
         refine jh 1 rfl ?_;refine J2 rfl rfl rfl rfl (be rfl rfl de (ay VM)) ⟨rfl,rfl,trivial⟩ (by kernel_rfl) fun WR=>?_;obtain⟨W1,VL,h⟩:=aa h;refine J2 rfl rfl rfl rfl (be rfl rfl de (ay VL)) ⟨rfl,rfl,trivial⟩ (by kernel_rfl) fun V2=>?_;obtain⟨Q,VT,h⟩:=aa h;refine Na (Δu:=[_]) rfl rfl rfl rfl (M9 (N:=[(.tmp 94,.rep an a0),(.tmp 95,Ri a1),(.tmp 96,.rep (.slice (.slice (.int .i64))) (List.set (([]:(List (List Int)))++a2) (Int.toNat x2) ((([]:(List Int))++O)++[c.2]))),(.tmp 102,.eq V2),(.tmp 110,I M)]) (ao [.tmp 94,.tmp 95,.tmp 96,.tmp 102,.tmp 110] rfl rfl O1 rfl (ih a0 a1 (List.set (([]:(List (List Int)))++a2) (Int.toNat x2) ((([]:(List Int))++O)++[c.2])) ((([]:(List Int))++a3)++[c.2]) M Q VT)) (fun _ _ _ hv hn=>⟨hn.1,hn.2.1,hn.2.2.1,(lend hn.2.2.2.1 hv),hn.2.2.2.2.1,trivial⟩)) ⟨rfl,rfl,rfl,rfl,rfl,trivial⟩ (by kernel_rfl) fun _=>?_;refine zJ (by kernel_rfl) ?_;obtain⟨W0,VK,h⟩:=aa h;refine fr 1 ?_;refine cp rfl rfl rfl (be rfl rfl Hz (ay VK)) ⟨rfl,rfl,trivial⟩ fun V1=>?_;refine au ?_;exact jz (V1,c.1++Q) h [1,0]
      ·refine ab (mq ?_);obtain⟨VY,VD,h⟩:=aa h;refine jb (a9 rfl VD) ?_;refine au ?_;exact jz (j,(u,VY)) h [0,1]
     ·refine au ?_;exact jz (e,c.1) h [1]
   ·refine sr (mq ?_);refine aq (nt (bJ ?_));refine bi (dh [10,12,113] ⟨rfl,rfl,rfl,trivial⟩) ?_;cases h;exact ra
def qI(k:Nat)(a0:aQ)(a1:(List Int)):Option (List (List (List Int))):=
 (aP a0.2.2 0).bind fun x2=>
 (eT k k a0 a1 [[]] ([]:(List Int)) x2).bind fun r3=>
 some r3
theorem C7(k:Nat)(a0:aQ)(a1:(List Int))(r:(List (List (List Int))))(h:qI k a0 a1=some r):
 bZ Tryz.prog 36 [.rep an a0,Ri a1] [] (fun _:Unit=>(bp [.rep (.slice (.slice (.slice (.int .i64)))) r],[])):=by
 unfold qI at h
 replace h:=ba h
 refine bZ.of 13 Tryz.func36 rfl Tryz.ntmps36 rfl fun S w0=>?_
 refine sr ?_
 refine bx fun b1=>?_
 refine au ?_
 refine bD ?_
 refine ea 0 (ah rfl du (sT) rfl) ?_
 refine dm ?_
 refine da (bh (t:=(.slice (.int .i64))) [(.const (.slice none 0 0),_)] [[]] rfl rfl lD (.cons rfl .nil .nil) rfl rfl) ?_
 refine da (av rfl cH) ?_
 refine ea 0 (ah rfl bN jw rfl) ?_
 obtain⟨x2,c,h⟩:=aa h
 refine db (aG (t:=(.int .i64)) rfl dB cC c) ?_
 refine da (ak (t:=(.int .i64)) rfl cC rfl) ?_
 refine df cG ?_
 obtain⟨r3,e,h⟩:=aa h
 have j:=uZ k k a0 a1 [[]] ([]:(List Int)) x2 r3 e
 refine aF rfl (cO (N:=[(.tmp 5,.rep an a0),(.tmp 6,Ri a1),(.tmp 7,.rep (.slice (.slice (.int .i64))) [[]]),(.const (.slice none 0 0),.eq (.slice none 0 0)),(.tmp 11,I x2)]) (ao [.tmp 5,.tmp 6,.tmp 7,.const (.slice none 0 0),.tmp 11] rfl rfl O1 rfl j) fun _ _ _ hn=>⟨hn.1,hn.2.1,hn.2.2.1,(fN (t:=(.slice (.int .i64))) (x:=([]:(List Int))) .nil rfl rfl hn.2.2.2.1),hn.2.2.2.2.1,trivial⟩) ⟨rfl,rfl,rfl,rfl,rfl,trivial⟩ ?_
 refine au ?_
 cases h
 exact ra
def pI(k:Nat)(a0:aQ)(a1:Int)(a2:Int):Option Bool:=
 (aP a0.2.1 a1).bind fun x2=>
 (oJ k x2.2 a2).bind fun r3=>
 some r3
theorem As(k:Nat)(a0:aQ)(a1:Int)(a2:Int)(r:Bool)(h:pI k a0 a1 a2=some r):
 bZ Tryz.prog 130 [.rep an a0,I a1,I a2] [] (fun _:Unit=>(bp [.eq (.bool r)],[])):=by
 unfold pI at h
 replace h:=ba h
 refine bZ.of 15 Tryz.func130 rfl Tryz.ntmps130 rfl fun S w0=>?_
 refine sr ?_
 refine bx fun b1=>?_
 refine au ?_
 refine fl cg ?_
 refine lo fR ?_
 refine mq ?_
 obtain⟨x2,c,h⟩:=aa h
 refine jb (aG (t:=aK) rfl nD ju c) ?_
 refine ja (aI 1 false rfl kN rfl) ?_
 refine ja (ak (t:=(.slice (.int .i64))) rfl bN rfl) ?_
 refine mq ?_
 obtain⟨r3,e,h⟩:=aa h
 have j:=rQ k x2.2 a2 r3 e
 refine jb (ao [.tmp 12,.tmp 13] rfl rfl O0 rfl j) ?_
 refine au ?_
 cases h
 exact ra
def jM(k:Nat)(a0:aQ)(a1:(List Int))(a2:Int):Nat→((List Int)×(List Int)×(List Int)×Int)→Option ((List Int)×(List Int)×(List Int))
 |0,_=>none
 |n+1,y4=>
  if y4.2.2.2 < (a1.length:Int) then((((aP a1 y4.2.2.2).bind fun x8=>
  (pI k a0 x8 a2).bind fun r9=>
  if r9=true then((aP a1 y4.2.2.2).bind fun h=>
  (cP (bq (List.length y4.2.2.1+List.length [h]))).bind fun _=>
  some (y4.1,y4.2.1,y4.2.2.1++[h])) else((aP a1 y4.2.2.2).bind fun c=>
  (cP (bq (List.length y4.2.1+List.length [c]))).bind fun _=>
  if 0 < (y4.2.2.1.length:Int) then((aP a1 y4.2.2.2).bind fun e=>
  (cP (bq (List.length y4.1+List.length [e]))).bind fun _=>
  some (y4.1++[e],y4.2.1++[c],y4.2.2.1)) else(some (y4.1,y4.2.1++[c],y4.2.2.1)))):Option ((List Int)×(List Int)×(List Int))).bind fun x6=>
  (ck (y4.2.2.2+1)).bind fun j=>
  jM k a0 a1 a2 n (x6.1,x6.2.1,x6.2.2,j)) else(some (y4.1,y4.2.1,y4.2.2.1))
def sJ(k:Nat)(a0:aQ)(a1:(List Int))(a2:Int):Option ((List Int)×(List Int)):=
 ((jM k a0 a1 a2 k (([]:(List Int)),([]:(List Int)),([]:(List Int)),0)):Option ((List Int)×(List Int)×(List Int))).bind fun x2=>
 (cP (bq (List.length x2.2.1+List.length x2.2.2))).bind fun _=>
 some (x2.1,x2.2.1++x2.2.2)
theorem C5(k:Nat)(a0:aQ)(a1:(List Int))(a2:Int)(r:(List Int)×(List Int))(h:sJ k a0 a1 a2=some r):
 bZ Tryz.prog 97 [.rep an a0,Ri a1,I a2] [] (fun _:Unit=>(bp [Ri r.1,Ri r.2],[])):=by
 unfold sJ at h
 replace h:=ba h
 refine bZ.of 53 Tryz.func97 rfl Tryz.ntmps97 rfl fun S w0=>?_
 refine sr ?_
 refine bx fun b1=>?_
 refine cq ?_
 refine cq ?_
 refine nt ?_
 refine sr ?_
 refine cq ?_
 refine cq ?_
 refine cq ?_
 refine nt ?_
 refine aJ (Z:=Value×Value×Value) (α:=(List Int)×(List Int)×(List Int)) (fun z3 x2=>[(8,.eq z3.1),(9,.eq z3.2.1),(10,.eq z3.2.2)]) (fun z3 x2=>[.sl z3.1 3 (.int .i64) x2.1,.sl z3.2.1 3 (.int .i64) x2.2.1,.sl z3.2.2 3 (.int .i64) x2.2.2]) h (fun K h=>?_) (fun z3 x2 h=>?_)
 ·
  refine au ?_;refine aj (dE (SE.nil 3 (.int .i64)) ?_);refine dE (SE.nil 3 (.int .i64)) ?_;refine dE (SE.nil 3 (.int .i64)) ?_;refine aH (fun z5 y4=>[(1,Ri a1),(2,I a2),(3,Pt b1),(8,.eq z5.1),(9,.eq z5.2.1),(10,.eq z5.2.2),(11,I y4.2.2.2)]) (fun z5 y4=>[.obj b1 25 (.rep an a0),.sl z5.1 3 (.int .i64) y4.1,.sl z5.2.1 3 (.int .i64) y4.2.1,.sl z5.2.2 3 (.int .i64) y4.2.2.1]) (jM k a0 a1 a2) k ((.slice none 0 0),(.slice none 0 0),(.slice none 0 0)) (([]:(List Int)),([]:(List Int)),([]:(List Int)),0) (fun _=>rfl) h (SE.fin [3,2,1,0] ⟨rfl,rfl,rfl,rfl,rfl,rfl,rfl,trivial⟩ rfl) (fun n z5 y4 h=>?_);unfold jM at h;refine au ?_;refine ol dB ?_;refine jb (bj rfl) ?_;refine nt (ci h (fun h=>?_) (fun h=>?_))
  ·refine sk (aJ (Z:=Value×Value×Value) (α:=(List Int)×(List Int)×(List Int)) (fun z7 x6=>[(1,Ri a1),(2,I a2),(3,Pt b1),(8,.eq z7.1),(9,.eq z7.2.1),(10,.eq z7.2.2),(11,I y4.2.2.2)]) (fun z7 x6=>[.obj b1 25 (.rep an a0),.sl z7.1 3 (.int .i64) x6.1,.sl z7.2.1 3 (.int .i64) x6.2.1,.sl z7.2.2 3 (.int .i64) x6.2.2]) h (fun K h=>?_) (fun z7 x6 h=>?_))
   ·refine aj (au ?_);refine bD ?_;refine ea 0 (ah rfl du (sT) rfl) ?_;refine dm ?_;refine dm ?_;obtain⟨x8,U,h⟩:=aa h;refine db (aG (t:=(.int .i64)) rfl dB cC U) ?_;refine da (ak (t:=(.int .i64)) rfl cC rfl) ?_;refine dm ?_;refine df cG ?_;obtain⟨r9,X,h⟩:=aa h;refine jc (ao [.tmp 18,.tmp 22,.tmp 23] rfl rfl RR rfl (As k a0 x8 a2 r9 X)) ?_;refine nt (cv h (fun h=>?_) (fun h=>?_))
    ·refine au ?_;obtain⟨j,y,h⟩:=aa h;refine jb (aG (t:=(.int .i64)) rfl dB cC y) ?_;refine ja (ak (t:=(.int .i64)) rfl cC rfl) ?_;refine ja (bh (t:=(.int .i64)) [(.tmp 29,_)] [j] rfl rfl de (.cons rfl .int .nil) rfl rfl) ?_;obtain⟨qt,J,h⟩:=aa h;refine fr 3 ?_;refine cp rfl rfl rfl (be rfl rfl de (ay J)) ⟨rfl,rfl,trivial⟩ fun Q=>?_;refine au ?_;exact jz ((z5.1,z5.2.1,Q),(y4.1,y4.2.1,y4.2.2.1++[j])) h [1,2,3,0]
    ·refine au ?_;obtain⟨c,x,h⟩:=aa h;refine jb (aG (t:=(.int .i64)) rfl dB cC x) ?_;refine ja (ak (t:=(.int .i64)) rfl cC rfl) ?_;refine ja (bh (t:=(.int .i64)) [(.tmp 36,_)] [c] rfl rfl de (.cons rfl .int .nil) rfl rfl) ?_;obtain⟨pp,F,h⟩:=aa h;refine fr 2 ?_;refine cp rfl rfl rfl (be rfl rfl de (ay F)) ⟨rfl,rfl,trivial⟩ fun l=>?_;refine aq (nt (sr ?_));refine mq ?_;refine fr 3 ?_;refine ka (cZ rfl rfl dB) ?_;refine jb (i7 rfl) ?_;refine nt (ci h (fun h=>?_) (fun h=>?_))
     ·refine ab (au ?_);obtain⟨e,u,h⟩:=aa h;refine jb (aG (t:=(.int .i64)) rfl dB cC u) ?_;refine ja (ak (t:=(.int .i64)) rfl cC rfl) ?_;refine ja (bh (t:=(.int .i64)) [(.tmp 46,_)] [e] rfl rfl de (.cons rfl .int .nil) rfl rfl) ?_;obtain⟨mc,E,h⟩:=aa h;refine fr 3 ?_;refine cp rfl rfl rfl (be rfl rfl de (ay E)) ⟨rfl,rfl,trivial⟩ fun O=>?_;refine au ?_;exact jz ((O,l,z5.2.2),(y4.1++[e],y4.2.1++[c],y4.2.2.1)) h [3,0,2,1]
     ·refine au ?_;exact jz ((z5.1,l,z5.2.2),(y4.1,y4.2.1++[c],y4.2.2.1)) h [2,3,1,0]
   ·refine ab (mq ?_);obtain⟨M,s,h⟩:=aa h;refine jb (a9 rfl s) ?_;refine au ?_;exact jz ((z7.1,z7.2.1,z7.2.2),(x6.1,x6.2.1,x6.2.2,M)) h [0,1,2,3]
  ·refine au ?_;exact jz ((z5.1,z5.2.1,z5.2.2),(y4.1,y4.2.1,y4.2.2.1)) h [1,2,3]
 ·
  refine sr ?_;iterate 3 refine mq ?_
  refine fr 2 ?_;refine co (dh [10,51] ⟨rfl,rfl,trivial⟩) ?_;obtain⟨ac,D,h⟩:=aa h;refine fr 1 ?_;refine cp rfl rfl rfl (be rfl rfl de (ay D)) ⟨rfl,rfl,trivial⟩ fun Y=>?_;refine aq ?_;refine aq (nt (bJ ?_));refine aW 1 rfl ?_;refine bi (dh [6,8,49] ⟨rfl,rfl,rfl,trivial⟩) ?_;refine bi (dh [7,52] ⟨rfl,rfl,trivial⟩) ?_;cases h;exact rb
def iV(k:Nat)(e:(List Int)×(List Int)):Nat→((List Int)×Int)→Option (List Int)
 |0,_=>none
 |n+1,c=>
  if c.2 < (e.1.length:Int) then((aP e.1 c.2).bind fun h=>
  (aP e.1 c.2).bind fun s=>
  (aP c.1 s).bind fun r=>
  (ck (r+1)).bind fun l=>
  (aP c.1 h).bind fun u=>
  (ck (c.2+1)).bind fun j=>
  iV k e n (List.set c.1 (Int.toNat h) l,j)) else(some c.1)
def iW(k:Nat)(a0:aQ)(y6:(List Int)×(List (List Int))×Int):Nat→((List Int)×(List (List Int))×Int)→Option ((List Int)×(List (List Int)))
 |0,_=>none
 |n+1,c=>
  if c.2.2 < (y6.2.1.length:Int) then((((aP y6.2.1 c.2.2).bind fun r=>
  (sJ k a0 r y6.2.2).bind fun e=>
  ((iV k e k (c.1,0)):Option ((List Int))).bind fun l=>
  (cP (bq (List.length c.2.1+List.length [e.2]))).bind fun _=>
  some (l,c.2.1++[e.2])):Option ((List Int)×(List (List Int)))).bind fun h=>
  (ck (c.2.2+1)).bind fun j=>
  iW k a0 y6 n (h.1,h.2,j)) else(some (c.1,c.2.1))
def jS(k:Nat)(a0:aQ)(a3:Int):Nat→((List Int)×(List (List Int))×Int)→Option ((List Int)×(List (List Int)))
 |0,_=>none
 |n+1,y6=>
  if y6.2.2 < a3 then(((((iW k a0 y6 k (y6.1,([]:(List (List Int))),0)):Option ((List Int)×(List (List Int)))).bind fun c=>
  some (c.1,c.2)):Option ((List Int)×(List (List Int)))).bind fun x8=>
  (ck (y6.2.2+1)).bind fun e=>
  jS k a0 a3 n (x8.1,x8.2,e)) else(some (y6.1,y6.2.1))
def pJ(k:Nat)(a0:aQ)(a1:(List (List Int)))(a2:Int)(a3:Int):Option ((List Int)×(List (List Int))):=
 (cP (0≤(a0.2.1.length:Int)∧bq (Int.toNat (a0.2.1.length:Int)))).bind fun _=>
 ((jS k a0 a3 k (List.replicate (Int.toNat (a0.2.1.length:Int)) 0,a1,a2)):Option ((List Int)×(List (List Int)))).bind fun x4=>
 some (x4.1,x4.2)
theorem Au(k:Nat)(a0:aQ)(a1:(List (List Int)))(a2:Int)(a3:Int)(r:(List Int)×(List (List Int)))(h:pJ k a0 a1 a2 a3=some r):
 bZ Tryz.prog 73 [.rep an a0,.rep (.slice (.slice (.int .i64))) a1,I a2,I a3] [] (fun _:Unit=>(bp [Ri r.1,.rep (.slice (.slice (.int .i64))) r.2],[])):=by
 unfold pJ at h
 replace h:=ba h
 refine bZ.of 72 Tryz.func73 rfl Tryz.ntmps73 rfl fun S w0=>?_
 refine sr ?_
 refine bx fun b1=>?_
 refine au ?_
 refine fl cg ?_
 refine lo fR ?_
 refine ol nD ?_
 obtain⟨u2,se,h⟩:=aa h
 refine aD rfl rfl rfl (Do (t:=(.int .i64)) (d:=0) rfl de Vl (ay se).1 (ay se).2) ⟨rfl,rfl,trivial⟩ fun v3=>?_
 refine aq ?_
 refine nt ?_
 refine sr ?_
 refine mq ?_
 refine aq ?_
 refine nt ?_
 refine aJ (Z:=Unit) (α:=(List Int)×(List (List Int))) (fun z5 x4=>[(10,.eq v3),(11,.rep (.slice (.slice (.int .i64))) x4.2)]) (fun z5 x4=>[.sl v3 3 (.int .i64) x4.1]) h (fun K h=>?_) (fun z5 x4 h=>?_)
 ·
  refine au ?_;refine aj (aH (fun z7 y6=>[(3,I a3),(4,Pt b1),(10,.eq v3),(11,.rep (.slice (.slice (.int .i64))) y6.2.1),(12,I y6.2.2)]) (fun z7 y6=>[.obj b1 25 (.rep an a0),.sl v3 3 (.int .i64) y6.1]) (jS k a0 a3) k () (List.replicate (Int.toNat (a0.2.1.length:Int)) 0,a1,a2) (fun _=>rfl) h (SE.fin [1,0] ⟨rfl,rfl,rfl,rfl,rfl,trivial⟩ rfl) (fun n z7 y6 h=>?_));unfold jS at h;refine au ?_;refine jb (bj rfl) ?_;refine nt (ci h (fun h=>?_) (fun h=>?_))
  ·refine sk (aJ (Z:=Value) (α:=(List Int)×(List (List Int))) (fun z9 x8=>[(3,I a3),(4,Pt b1),(10,.eq v3),(11,.eq z9),(12,I y6.2.2)]) (fun z9 x8=>[.obj b1 25 (.rep an a0),.sl v3 3 (.int .i64) x8.1,.sl z9 23 (.slice (.int .i64)) x8.2]) h (fun K h=>?_) (fun z9 x8 h=>?_))
   ·refine aj (sr (cq (nt ?_)));refine aJ (Z:=Value) (α:=(List Int)×(List (List Int))) (fun y u=>[(3,I a3),(4,Pt b1),(10,.eq v3),(12,I y6.2.2),(13,.eq y)]) (fun y u=>[.obj b1 25 (.rep an a0),.sl v3 3 (.int .i64) u.1,.sl y 23 (.slice (.int .i64)) u.2]) h (fun K h=>?_) (fun y u h=>?_)
    ·refine au ?_;refine aj (dE (SE.nil 23 (.slice (.int .i64))) ?_);refine aH (fun e c=>[(3,I a3),(4,Pt b1),(10,.eq v3),(11,.rep (.slice (.slice (.int .i64))) y6.2.1),(12,I y6.2.2),(13,.eq e),(14,I c.2.2)]) (fun e c=>[.obj b1 25 (.rep an a0),.sl v3 3 (.int .i64) c.1,.sl e 23 (.slice (.int .i64)) c.2.1]) (iW k a0 y6) k (.slice none 0 0) (y6.1,([]:(List (List Int))),0) (fun _=>rfl) h (SE.fin [1,2,0] ⟨rfl,rfl,rfl,rfl,rfl,rfl,rfl,trivial⟩ rfl) (fun n e c h=>?_);unfold iW at h;refine au ?_;refine ol oh ?_;refine jb (bj rfl) ?_;refine nt (ci h (fun h=>?_) (fun h=>?_))
     ·refine sk (aJ (Z:=Value) (α:=(List Int)×(List (List Int))) (fun x s=>[(3,I a3),(4,Pt b1),(10,.eq v3),(11,.rep (.slice (.slice (.int .i64))) y6.2.1),(12,I y6.2.2),(13,.eq x),(14,I c.2.2)]) (fun x s=>[.obj b1 25 (.rep an a0),.sl v3 3 (.int .i64) s.1,.sl x 23 (.slice (.int .i64)) s.2]) h (fun K h=>?_) (fun x s h=>?_))
      ·refine aj (ar (bD ?_));refine ea 0 (ah rfl du (sT) rfl) ?_;refine dm ?_;refine dm ?_;obtain⟨VI,pp,h⟩:=aa h;refine db (aG (t:=(.slice (.int .i64))) rfl oh bN pp) ?_;refine da (ak (t:=(.slice (.int .i64))) rfl bN rfl) ?_;refine dm ?_;obtain⟨j,VC,h⟩:=aa h;refine dc (ao [.tmp 36,.tmp 40,.tmp 41] rfl rfl Uf rfl (C5 k a0 VI y6.2.2 j VC)) ?_;refine dm ?_;refine da (fH rfl rfl) ?_;refine da (fH rfl rfl) ?_;refine da (jB rfl) ?_;refine df cG ?_;refine aq (nt ?_);refine aJ (Z:=Unit) (α:=(List Int)) (fun M D=>[(3,I a3),(4,Pt b1),(10,.eq v3),(11,.rep (.slice (.slice (.int .i64))) y6.2.1),(12,I y6.2.2),(13,.eq e),(14,I c.2.2),(16,Ri j.2)]) (fun M D=>[.obj b1 25 (.rep an a0),.sl v3 3 (.int .i64) D,.sl e 23 (.slice (.int .i64)) c.2.1]) h (fun K h=>?_) (fun M D h=>?_)
       ·refine au ?_;refine aj (aH (fun J l=>[(3,I a3),(4,Pt b1),(10,.eq v3),(11,.rep (.slice (.slice (.int .i64))) y6.2.1),(12,I y6.2.2),(13,.eq e),(14,I c.2.2),(15,Ri j.1),(16,Ri j.2),(17,I l.2)]) (fun J l=>[.obj b1 25 (.rep an a0),.sl v3 3 (.int .i64) l.1,.sl e 23 (.slice (.int .i64)) c.2.1]) (iV k j) k () (c.1,0) (fun _=>rfl) h (SE.fin [0,1,2] ⟨rfl,rfl,rfl,rfl,rfl,rfl,rfl,rfl,rfl,rfl,trivial⟩ rfl) (fun n J l h=>?_));unfold iV at h;refine au ?_;refine ol dB ?_;refine jb (bj rfl) ?_;refine nt (ci h (fun h=>?_) (fun h=>?_))
        ·refine au ?_;refine aj (bD ?_);refine dm ?_;refine dm ?_;refine dm ?_;obtain⟨O,mc,h⟩:=aa h;refine db (aG (t:=(.int .i64)) rfl dB cC mc) ?_;refine da (ak (t:=(.int .i64)) rfl cC rfl) ?_;refine dm ?_;refine dm ?_;refine dm ?_;obtain⟨VH,ac,h⟩:=aa h;refine db (aG (t:=(.int .i64)) rfl dB cC ac) ?_;refine da (ak (t:=(.int .i64)) rfl cC rfl) ?_;obtain⟨VL,F,h⟩:=aa h;refine eb 1 (aV (t:=(.int .i64)) rfl dB cC F) ?_;refine ea 1 (dV (i:=Int.toNat VH) (off:=0) rfl cC (fun _=>rfl) rfl (cz F).2.2 rfl) ?_;obtain⟨VG,Y,h⟩:=aa h;refine db (a9 rfl Y) ?_;refine df cG ?_;obtain⟨VK,E,h⟩:=aa h;refine fr 1 ?_;refine kb (aV (t:=(.int .i64)) rfl dB cC E) ?_;refine a8 rfl rfl (cI (i:=Int.toNat O) rfl cC rfl (gy E) rfl .int rfl) ⟨rfl,rfl,trivial⟩ ?_;refine au ?_;refine ab (mq ?_);obtain⟨VF,X,h⟩:=aa h;refine jb (a9 rfl X) ?_;refine au ?_;exact jz ((),(List.set l.1 (Int.toNat O) VG,VF)) h [1,0,2]
        ·refine au ?_;exact jz ((),l.1) h [0,1,2]
       ·refine ab (au ?_);refine ja (bh (t:=(.slice (.int .i64))) [(.tmp 66,_)] [j.2] rfl rfl lD (.cons rfl .rep .nil) rfl rfl) ?_;obtain⟨VM,qt,h⟩:=aa h;refine fr 2 ?_;refine cp rfl rfl rfl (be rfl rfl lD (ay qt)) ⟨rfl,rfl,trivial⟩ fun VJ=>?_;refine au ?_;exact jz (VJ,(D,c.2.1++[j.2])) h [1,2,0]
      ·refine ab (mq ?_);obtain⟨VE,U,h⟩:=aa h;refine jb (a9 rfl U) ?_;refine au ?_;exact jz (x,(s.1,s.2,VE)) h [0,1,2]
     ·refine au ?_;exact jz (e,(c.1,c.2.1)) h [0,1,2]
    ·refine ab (au ?_);exact jz (y,(u.1,u.2)) h [0,1,2]
   ·refine ab (mq ?_);obtain⟨VD,Q,h⟩:=aa h;refine jb (a9 rfl Q) ?_;refine aq (nl ?_);refine aW 2 rfl ?_;refine bi (dh [11] ⟨rfl,trivial⟩) ?_;exact jz ((),(x8.1,x8.2,VD)) h [0,1]
  ·refine au ?_;exact jz ((),(y6.1,y6.2.1)) h [1]
 ·
  refine sr ?_;iterate 2 refine mq ?_
  refine aq ?_;refine aq (nt (bJ ?_));refine bi (dh [8,10,70] ⟨rfl,rfl,rfl,trivial⟩) ?_;cases h;exact rb
def ie(k:Nat)(r2:(List Int)×(List (List Int))):Nat→(Int×Int)→Option Int
 |0,_=>none
 |n+1,y5=>
  if y5.2 < (r2.1.length:Int) then((aP r2.1 y5.2).bind fun x7=>
  (ck (y5.1+x7)).bind fun x8=>
  (ck (y5.2+1)).bind fun x9=>
  ie k r2 n (x8,x9)) else(some y5.1)
def lX(k:Nat)(a0:aQ)(a1:(List (List Int)))(a2:Int):Option Int:=
 (pJ k a0 a1 a2 a0.1).bind fun r2=>
 ((ie k r2 k (0,0)):Option (Int)).bind fun x3=>
 some x3
theorem yN(k:Nat)(a0:aQ)(a1:(List (List Int)))(a2:Int)(r:Int)(h:lX k a0 a1 a2=some r):
 bZ Tryz.prog 37 [.rep an a0,.rep (.slice (.slice (.int .i64))) a1,I a2] [] (fun _:Unit=>(bp [I r],[])):=by
 unfold lX at h
 replace h:=ba h
 refine bZ.of 33 Tryz.func37 rfl Tryz.ntmps37 rfl fun S w0=>?_
 refine sr ?_
 refine bx fun b1=>?_
 refine au ?_
 refine lo du ?_
 refine au ?_
 refine fl gR ?_
 refine lo cC ?_
 obtain⟨r2,l,h⟩:=aa h
 have s:=Au k a0 a1 a2 a0.1 r2 l
 refine aF rfl (ao [.tmp 12,.tmp 13,.tmp 14,.tmp 16] rfl rfl Up rfl s) ⟨rfl,rfl,rfl,rfl,trivial⟩ ?_
 refine mq ?_
 refine xr ?_
 refine xr ?_
 refine aq ?_
 refine aq ?_
 refine nt ?_
 refine sr ?_
 refine cq ?_
 refine nt ?_
 refine aJ (Z:=Unit) (α:=Int) (fun z4 x3=>[(9,I x3)]) (fun z4 x3=>[]) h (fun K h=>?_) (fun z4 x3 h=>?_)
 ·
  refine au ?_;refine aj (aH (fun z6 y5=>[(7,Ri r2.1),(9,I y5.1),(10,I y5.2)]) (fun z6 y5=>[]) (ie k r2) k () (0,0) (fun _=>rfl) h (SE.fin [] ⟨rfl,rfl,rfl,trivial⟩ rfl) (fun n z6 y5 h=>?_));unfold ie at h;refine au ?_;refine ol dB ?_;refine jb (bj rfl) ?_;refine nt (ci h (fun h=>?_) (fun h=>?_))
  ·refine au ?_;refine aj (ab (au ?_));obtain⟨x7,j,h⟩:=aa h;refine jb (aG (t:=(.int .i64)) rfl dB cC j) ?_;refine ja (ak (t:=(.int .i64)) rfl cC rfl) ?_;obtain⟨x8,e,h⟩:=aa h;refine jb (a9 rfl e) ?_;refine au ?_;refine ab (mq ?_);obtain⟨x9,c,h⟩:=aa h;refine jb (a9 rfl c) ?_;refine au ?_;exact jz ((),(x8,x9)) h []
  ·refine au ?_;exact jz ((),y5.1) h []
 ·
  refine au ?_;cases h;exact ra
def iS(k:Nat)(a0:aQ)(r9:(List (List Int)))(h:Int)(e:(List (List (List Int)))):Nat→Int→Option (Except ((List Int)×(List (List Int))×Int) Unit)
 |0,_=>none
 |n+1,c=>
  if c < (e.length:Int) then((aP e c).bind fun s=>
  (lX k a0 s 0).bind fun u=>
  if u=0 then((aP r9 h).bind fun r=>
  (aP e c).bind fun l=>
  some (.error (r,l,0))) else((ck (c+1)).bind fun j=>
  iS k a0 r9 h e n j)) else(some (.ok ()))
def iU(k:Nat)(a0:aQ)(r9:(List (List Int))):Nat→Int→Option (Except ((List Int)×(List (List Int))×Int) Unit)
 |0,_=>none
 |n+1,c=>
  if c < (r9.length:Int) then(bE (α:=Unit) ((aP r9 c).bind fun j=>
  (qI k a0 j).bind fun l=>
  iS k a0 r9 c l k 0) (fun e=>some (.error e)) fun _=>
  (ck (c+1)).bind fun h=>
  iU k a0 r9 n h) else(some (.ok ()))
def jN(k:Nat)(a0:aQ):Nat→Int→Option (Except ((List Int)×(List (List Int))×Int) Unit)
 |0,_=>none
 |n+1,y5=>
  if y5≤(a0.2.2.length:Int) then(bE (α:=Unit) ((kD k k 0 (a0.2.2.length:Int) y5).bind fun r9=>
  iU k a0 r9 k 0) (fun e=>some (.error e)) fun _=>
  (ck (y5+1)).bind fun c=>
  jN k a0 n c) else(some (.ok ()))
def qH(k:Nat)(a0:aQ):Option ((List Int)×(List (List Int))×Int):=
 (nQ k a0).bind fun r2=>
 if¬(r2=0) then(some ([],[],r2)) else(bE (α:=Unit) (jN k a0 k 0) (some) fun _=>
 some ([],[],11))
theorem C6(k:Nat)(a0:aQ)(r:(List Int)×(List (List Int))×Int)(h:qH k a0=some r):
 bZ Tryz.prog 10 [.rep an a0] [] (fun _:Unit=>(bp [Ri r.1,.rep (.slice (.slice (.int .i64))) r.2.1,I r.2.2],[])):=by
 unfold qH at h
 replace h:=ba h
 refine bZ.of 61 Tryz.func10 rfl Tryz.ntmps10 rfl fun S w0=>?_
 refine sr ?_
 refine bx fun b1=>?_
 refine au ?_
 refine lo du ?_
 obtain⟨r2,VE,h⟩:=aa h
 have VF:=yO k a0 r2 VE
 refine ja (ao [.tmp 11] rfl rfl UG rfl VF) ?_
 refine au ?_
 refine jb (iZ rfl) ?_
 refine nt ?_
 refine cn h (fun h=>?_) (fun h=>?_)
 ·
  refine sr (mq ?_);refine cq ?_;refine cq ?_;refine aq (nt (rx ?_));refine bi (jf (t:=(.slice (.int .i64))) (x:=[]) 2 rfl .nil rfl rfl) ?_;refine bi (jf (t:=(.slice (.slice (.int .i64)))) (x:=[]) 3 rfl .nil rfl rfl) ?_;cases h;exact aL () [_,_,_] 0 ⟨rfl,rfl,rfl,trivial⟩ rfl
 ·
  refine sk (dK (Z:=Unit) (α:=Unit) (fun z4 x3=>[]) (fun z4 x3=>[]) (fun e=>e=r) h (fun e h=>Option.some.inj h) (fun K hR h=>?_) (fun z4 x3 h=>?_))
  ·refine au ?_;refine aj (aH (fun z6 y5=>[(1,Pt b1),(6,I y5)]) (fun z6 y5=>[.obj b1 25 (.rep an a0)]) (jN k a0) k () 0 (fun _=>rfl) h (SE.fin [0] ⟨rfl,rfl,trivial⟩ rfl) (fun n z6 y5 h=>?_));unfold jN at h;refine au ?_;refine fl cH ?_;refine lo bN ?_;refine ol dB ?_;refine jb (uH rfl) ?_;refine nt (ci h (fun h=>?_) (fun h=>?_))
   ·refine sk (dK (Z:=Unit) (α:=Unit) (fun z8 x7=>[(1,Pt b1),(6,I y5)]) (fun z8 x7=>[.obj b1 25 (.rep an a0)]) (fun e=>e=r) h (fun e h=>hR e h) (fun K hR h=>?_) (fun z8 x7 h=>?_))
    ·refine aj (sr (fl cH ?_));refine lo bN ?_;refine ol dB ?_;refine mq ?_;obtain⟨r9,VD,h⟩:=aa h;refine jc (ao [.const (.int .i64 (0)),.tmp 25,.tmp 26] rfl rfl RG rfl (yM k k 0 (a0.2.2.length:Int) y5 r9 VD)) ?_;refine au ?_;refine aj (aH (fun y c=>[(1,Pt b1),(6,I y5),(7,.rep (.slice (.slice (.int .i64))) r9),(8,I c)]) (fun y c=>[.obj b1 25 (.rep an a0)]) (iU k a0 r9) k () 0 (fun _=>rfl) h (SE.fin [0] ⟨rfl,rfl,rfl,rfl,trivial⟩ rfl) (fun n y c h=>?_));unfold iU at h;refine au ?_;refine ol oh ?_;refine jb (bj rfl) ?_;refine nt (ci h (fun h=>?_) (fun h=>?_))
     ·refine sk (dK (Z:=Unit) (α:=Unit) (fun u D=>[(1,Pt b1),(6,I y5),(7,.rep (.slice (.slice (.int .i64))) r9),(8,I c)]) (fun u D=>[.obj b1 25 (.rep an a0)]) (fun e=>e=r) h (fun e h=>hR e h) (fun K hR h=>?_) (fun u D h=>?_))
      ·refine aj (ar (bD ?_));refine ea 0 (ah rfl du (sT) rfl) ?_;refine dm ?_;refine dm ?_;obtain⟨se,U,h⟩:=aa h;refine db (aG (t:=(.slice (.int .i64))) rfl oh bN U) ?_;refine da (ak (t:=(.slice (.int .i64))) rfl bN rfl) ?_;refine df cG ?_;obtain⟨l,Y,h⟩:=aa h;refine jb (ao [.tmp 34,.tmp 38] rfl rfl UF rfl (C7 k a0 se l Y)) ?_;refine au ?_;refine aj (aH (fun s j=>[(1,Pt b1),(6,I y5),(7,.rep (.slice (.slice (.int .i64))) r9),(8,I c),(9,.rep (.slice (.slice (.slice (.int .i64)))) l),(10,I j)]) (fun s j=>[.obj b1 25 (.rep an a0)]) (iS k a0 r9 c l) k () 0 (fun _=>rfl) h (SE.fin [0] ⟨rfl,rfl,rfl,rfl,rfl,rfl,trivial⟩ rfl) (fun n s j h=>?_));unfold iS at h;refine au ?_;refine ol PI ?_;refine jb (bj rfl) ?_;refine nt (ci h (fun h=>?_) (fun h=>?_))
       ·refine au ?_;refine aj (ar (bD ?_));refine ea 0 (ah rfl du (sT) rfl) ?_;refine dm ?_;refine dm ?_;obtain⟨qt,Q,h⟩:=aa h;refine db (aG (t:=(.slice (.slice (.int .i64)))) rfl PI uW Q) ?_;refine da (ak (t:=(.slice (.slice (.int .i64)))) rfl uW rfl) ?_;refine df cG ?_;obtain⟨VC,X,h⟩:=aa h;refine jc (ao [.tmp 46,.tmp 50,.const (.int .i64 (0))] rfl rfl UE rfl (yN k a0 qt 0 VC X)) ?_;refine jb (dX rfl) ?_;refine nt (ci h (fun h=>?_) (fun h=>?_))
        ·refine ar (bD ?_);refine dm ?_;refine dm ?_;obtain⟨VH,O,h⟩:=aa h;refine db (aG (t:=(.slice (.int .i64))) rfl oh bN O) ?_;refine da (ak (t:=(.slice (.int .i64))) rfl bN rfl) ?_;refine dm ?_;refine dm ?_;obtain⟨VG,M,h⟩:=aa h;refine db (aG (t:=(.slice (.slice (.int .i64)))) rfl PI uW M) ?_;refine da (ak (t:=(.slice (.slice (.int .i64)))) rfl uW rfl) ?_;refine da (jB rfl) ?_;refine df cG ?_;refine au ?_;obtain rfl:=hR _ h;exact aL () [_,_,_] 0 ⟨rfl,rfl,rfl,trivial⟩ rfl
        ·refine au ?_;refine ab (mq ?_);obtain⟨pp,J,h⟩:=aa h;refine jb (a9 rfl J) ?_;refine au ?_;exact jz ((),pp) h [0]
       ·refine au ?_;exact jz ((),()) h [0]
      ·refine ab (mq ?_);obtain⟨mc,F,h⟩:=aa h;refine jb (a9 rfl F) ?_;refine au ?_;exact jz ((),mc) h [0]
     ·refine au ?_;exact jz ((),()) h [0]
    ·refine ab (mq ?_);obtain⟨ac,E,h⟩:=aa h;refine jb (a9 rfl E) ?_;refine au ?_;exact jz ((),ac) h [0]
   ·refine au ?_;exact jz ((),()) h []
  ·refine sr (cq ?_);refine cq ?_;refine cq (nt (bJ ?_));refine bi (jf (t:=(.slice (.int .i64))) (x:=[]) 2 rfl .nil rfl rfl) ?_;refine bi (jf (t:=(.slice (.slice (.int .i64)))) (x:=[]) 3 rfl .nil rfl rfl) ?_;cases h;exact aL () [_,_,_] 0 ⟨rfl,rfl,rfl,trivial⟩ rfl
def fi(k:Nat)(a0:aQ)(a1:aQ):Nat→Int→Option (Except Bool Unit)
 |0,_=>none
 |n+1,y8=>
  if y8 < (a0.2.1.length:Int) then((((aP a0.2.1 y8).bind fun l=>
  (aP a1.2.1 y8).bind fun j=>
  if¬(l.1=j.1) then(some true) else((aP a0.2.1 y8).bind fun h=>
  (aP a1.2.1 y8).bind fun e=>
  (dH k h.2 e.2).bind fun s=>
  some (!s))):Option (Bool)).bind fun r=>
  if r=true then(some (.error false)) else((ck (y8+1)).bind fun c=>
  fi k a0 a1 n c)) else(some (.ok ()))
def iw(k:Nat)(a0:aQ)(a1:aQ):Option Bool:=
 ((if¬(a0.1=a1.1) then(some true) else(if¬((a0.2.1.length:Int)=(a1.2.1.length:Int)) then(some true) else((dH k a0.2.2 a1.2.2).bind fun r5=>
 some (!r5)))):Option (Bool)).bind fun x3=>
 if x3=true then(some false) else(bE (α:=Unit) (fi k a0 a1 k 0) (some) fun _=>
 some true)
theorem uh(k:Nat)(a0:aQ)(a1:aQ)(r:Bool)(h:iw k a0 a1=some r):
 bZ Tryz.prog 13 [.rep an a0,.rep an a1] [] (fun _:Unit=>(bp [.eq (.bool r)],[])):=by
 unfold iw at h
 replace h:=ba h
 refine bZ.of 64 Tryz.func13 rfl Tryz.ntmps13 rfl fun S w0=>?_
 refine sr ?_
 refine bx fun b1=>?_
 refine bx fun b2=>?_
 refine cq ?_
 refine nt ?_
 refine ar ?_
 refine aJ (Z:=Unit) (α:=Bool) (fun z4 x3=>[(2,Pt b1),(3,Pt b2),(27,.eq (.bool x3))]) (fun z4 x3=>[.obj b1 25 (.rep an a0),.obj b2 25 (.rep an a1)]) h (fun K h=>?_) (fun z4 x3 h=>?_)
 ·
  refine ab (fl gR ?_);refine fr 1 ?_;refine lo cC ?_;refine fl gR ?_;refine fr 1 ?_;refine lo cC ?_;refine jb (iZ rfl) ?_;refine mq ?_;refine bY (s:=11) rfl (fun hb=>?_) (fun hb=>?_)
  ·replace h:=cF (NG hb) h;refine au ?_;exact jz ((),true) h [1,0]
  ·replace h:=bM (A2 hb) h;refine ga (av rfl cg) ?_;refine fr 1 ?_;refine gi rfl rfl rfl rfl rfl rfl (ah rfl fR jw rfl) ⟨rfl,trivial⟩ ?_;refine ga (jq rfl rfl nD) ?_;refine ga (av rfl cg) ?_;refine fr 1 ?_;refine gi rfl rfl rfl rfl rfl rfl (ah rfl fR jw rfl) ⟨rfl,trivial⟩ ?_;refine ga (jq rfl rfl nD) ?_;refine gb (iZ rfl) ?_;refine pf ?_;refine mq ?_;refine bY (s:=20) rfl (fun hb=>?_) (fun hb=>?_)
   ·replace h:=cF (NG hb) h;refine au ?_;exact jz ((),true) h [1,0]
   ·replace h:=bM (A2 hb) h;refine ga (av rfl cH) ?_;refine fr 1 ?_;refine gi rfl rfl rfl rfl rfl rfl (ah rfl bN jw rfl) ⟨rfl,trivial⟩ ?_;refine ga (av rfl cH) ?_;refine fr 1 ?_;refine gi rfl rfl rfl rfl rfl rfl (ah rfl bN jw rfl) ⟨rfl,trivial⟩ ?_;obtain⟨r5,Q,h⟩:=aa h;refine gb (ao [.tmp 22,.tmp 24] rfl rfl Gz rfl (fL k a0.2.2 a1.2.2 r5 Q)) ?_;refine ga (eF rfl) ?_;refine au ?_;exact jz ((), !r5) h [1,0]
 ·
  refine cv h (fun h=>?_) (fun h=>?_)
  ·refine au ?_;cases h;exact ra
  ·refine sk (dK (Z:=Unit) (α:=Unit) (fun z7 x6=>[]) (fun z7 x6=>[]) (fun e=>e=r) h (fun e h=>Option.some.inj h) (fun K hR h=>?_) (fun z7 x6 h=>?_))
   ·refine au ?_;refine aj (aH (fun z9 y8=>[(2,Pt b1),(3,Pt b2),(5,I y8)]) (fun z9 y8=>[.obj b1 25 (.rep an a0),.obj b2 25 (.rep an a1)]) (fi k a0 a1) k () 0 (fun _=>rfl) h (SE.fin [0,1] ⟨rfl,rfl,rfl,trivial⟩ rfl) (fun n z9 y8 h=>?_));unfold fi at h;refine au ?_;refine fl cg ?_;refine lo fR ?_;refine ol nD ?_;refine jb (bj rfl) ?_;refine nt (ci h (fun h=>?_) (fun h=>?_))
    ·refine au ?_;refine aj (aJ (Z:=Unit) (α:=Bool) (fun j c=>[(2,Pt b1),(3,Pt b2),(5,I y8),(63,.eq (.bool c))]) (fun j c=>[.obj b1 25 (.rep an a0),.obj b2 25 (.rep an a1)]) h (fun K h=>?_) (fun j c h=>?_))
     ·refine bD ?_;refine da (av rfl cg) ?_;refine ea 0 (ah rfl fR jw rfl) ?_;refine dm ?_;obtain⟨X,E,h⟩:=aa h;refine db (aG (t:=aK) rfl nD ju E) ?_;refine da (aI 1 false rfl kO rfl) ?_;refine da (ak (t:=(.int .i64)) rfl cC rfl) ?_;refine da (av rfl cg) ?_;refine ea 1 (ah rfl fR jw rfl) ?_;refine dm ?_;obtain⟨U,D,h⟩:=aa h;refine db (aG (t:=aK) rfl nD ju D) ?_;refine da (aI 1 false rfl kO rfl) ?_;refine da (ak (t:=(.int .i64)) rfl cC rfl) ?_;refine db (iZ rfl) ?_;refine nc rfl rfl rfl (aN rfl) ⟨rfl,trivial⟩ (fun hb=>?_) (fun hb=>?_)
      ·replace h:=cF (NG hb) h;iterate 12 refine dg ?_
       refine df cG ?_;refine au ?_;exact jz ((),true) h [0,1]
      ·replace h:=bM (A2 hb) h;refine bg rfl rfl rfl rfl rfl (av rfl cg) ⟨rfl,rfl,trivial⟩ ?_;refine ku 0 rfl rfl rfl rfl rfl rfl (ah rfl fR jw rfl) ⟨rfl,rfl,trivial⟩ ?_;refine bg rfl rfl rfl rfl rfl (aN rfl) ⟨rfl,rfl,trivial⟩ ?_;obtain⟨O,y,h⟩:=aa h;refine bg rfl rfl rfl rfl rfl (aG (t:=aK) rfl nD ju y) ⟨rfl,rfl,rfl,trivial⟩ ?_;refine bg rfl rfl rfl rfl rfl (aI 1 false rfl kN rfl) ⟨rfl,rfl,trivial⟩ ?_;refine bg rfl rfl rfl rfl rfl (ak (t:=(.slice (.int .i64))) rfl bN rfl) ⟨rfl,rfl,trivial⟩ ?_;refine bg rfl rfl rfl rfl rfl (av rfl cg) ⟨rfl,rfl,trivial⟩ ?_;refine ku 1 rfl rfl rfl rfl rfl rfl (ah rfl fR jw rfl) ⟨rfl,rfl,trivial⟩ ?_;refine bg rfl rfl rfl rfl rfl (aN rfl) ⟨rfl,rfl,trivial⟩ ?_;obtain⟨M,x,h⟩:=aa h;refine bg rfl rfl rfl rfl rfl (aG (t:=aK) rfl nD ju x) ⟨rfl,rfl,rfl,trivial⟩ ?_;refine bg rfl rfl rfl rfl rfl (aI 1 false rfl kN rfl) ⟨rfl,rfl,trivial⟩ ?_;refine bg rfl rfl rfl rfl rfl (ak (t:=(.slice (.int .i64))) rfl bN rfl) ⟨rfl,rfl,trivial⟩ ?_;refine df cG ?_;obtain⟨l,F,h⟩:=aa h;refine gb (ao [.tmp 54,.tmp 60] rfl rfl Gz rfl (fL k O.2 M.2 l F)) ?_;refine ga (eF rfl) ?_;refine au ?_;exact jz ((), !l) h [0,1]
     ·refine cv h (fun h=>?_) (fun h=>?_)
      ·refine au ?_;obtain rfl:=hR _ h;exact ra
      ·refine au ?_;refine ab (mq ?_);obtain⟨J,u,h⟩:=aa h;refine jb (a9 rfl u) ?_;refine au ?_;exact jz ((),J) h [0,1]
    ·refine au ?_;exact jz ((),()) h []
   ·refine au ?_;cases h;exact ra
