import Derived.Test.YtlmopgkkijhllaaGreatVBFacts
import Derived.Test.YtlmopgkkijhllaaGreatVBCore34
set_option linter.unusedSimpArgs false
set_option linter.unusedVariables false
set_option maxRecDepth 4000
set_option maxHeartbeats 1000000
namespace Go.Proofs.YtlmopgkkijhllaaGreat
open K Go Go.Proofs
def dz(k:Nat)(a0:Int)(a1:Int)(a2:Int):Option Bool:=
 ((if a1≤a0 then(some (decide (a0≤a2))) else(some false)):Option (Bool)).bind fun x1=>
 some x1
theorem dD(k:Nat)(a0:Int)(a1:Int)(a2:Int)(r:Bool)(h:dz k a0 a1 a2=some r):
 de Tryz.prog 39 [I a0,I a1,I a2] [] (fun _:Unit=>(bv [.eq (.bool r)],[])):=by
 unfold dz at h
 replace h:=aY h
 refine de.of 15 Tryz.func39 rfl Tryz.ntmps39 rfl fun S w0=>?_
 refine sr ?_
 refine cq ?_
 refine nt ?_
 refine aI (Z:=Unit) (α:=Bool) (fun z2 x1=>[(6,.eq (.bool x1))]) (fun z2 x1=>[]) h (fun K h=>?_) (fun z2 x1 h=>?_)
 ·
  refine ae (au ?_);refine jb (C0 rfl) ?_;refine mq ?_;refine cG (s:=10) rfl (fun hb=>?_) (fun hb=>?_)
  ·replace h:=fe (tU hb) h;refine au ?_;refine gb (C0 rfl) ?_;refine au ?_;exact jz ((),decide (a0≤a2)) h []
  ·replace h:=cS (tV hb) h;refine au ?_;exact jz ((),false) h []
 ·
  refine dw ?_;cases h;exact ra
def fL(k:Nat)(a0:Int)(a1:Int):Option Int:=
 (cF (0≤a1)).bind fun _=>
 some (Dl .u8 a0 (oz .u8 1 a1))
theorem ko(k:Nat)(a0:Int)(a1:Int)(r:Int)(h:fL k a0 a1=some r):
 de Tryz.prog 70 [.eq (.int .u8 a0),I a1] [] (fun _:Unit=>(bv [.eq (.int .u8 r)],[])):=by
 unfold fL at h
 replace h:=aY h
 refine de.of 9 Tryz.func70 rfl Tryz.ntmps70 rfl fun S w0=>?_
 refine au ?_
 obtain⟨u1,c,h⟩:=aa h
 refine jb (MR rfl (ao c)) ?_
 refine jb (RQ rfl) ?_
 refine au ?_
 cases h
 exact ra
def eP(k:Nat)(a0:Int)(a1:Int):Option Bool:=
 (cF (0≤a1)).bind fun _=>
 some (decide ((qm .u8 (gf .u8 a0 a1) 1)=1))
theorem gy(k:Nat)(a0:Int)(a1:Int)(r:Bool)(h:eP k a0 a1=some r):
 de Tryz.prog 80 [.eq (.int .u8 a0),I a1] [] (fun _:Unit=>(bv [.eq (.bool r)],[])):=by
 unfold eP at h
 replace h:=aY h
 refine de.of 10 Tryz.func80 rfl Tryz.ntmps80 rfl fun S w0=>?_
 refine au ?_
 obtain⟨u1,c,h⟩:=aa h
 refine jb (uu rfl (ao c)) ?_
 refine jb (P2 rfl) ?_
 refine jb (hP rfl) ?_
 refine au ?_
 cases h
 exact ra
def cQ(k:Nat)(a0:ag)(x8:(List Int)):Nat→(Int×Int)→Option (Except Int Int)
 |0,_=>none
 |n+1,y9=>
  if y9.2 < (x8.length:Int) then((aO x8 y9.2).bind fun c=>
  (ck (a0.1 - 1)).bind fun h=>
  (dz k c 0 h).bind fun r=>
  if¬(r=true) then(some (.error 3)) else((eP k y9.1 c).bind fun l=>
  if l=true then(some (.error 4)) else((fL k y9.1 c).bind fun j=>
  (ck (y9.2+1)).bind fun e=>
  cQ k a0 x8 n (j,e)))) else(some (.ok y9.1))
def cR(k:Nat)(a0:ag)(a1:(List (List Int))):Nat→(Int×Int)→Option (Except Int Unit)
 |0,_=>none
 |n+1,y4=>
  if y4.2 < (a1.length:Int) then(bE (α:=Int) ((aO a1 y4.2).bind fun x8=>
  cQ k a0 x8 k (y4.1,0)) (fun e=>some (.error e)) fun x6=>
  (ck (y4.2+1)).bind fun c=>
  cR k a0 a1 n (x6,c)) else(some (.ok ()))
def iU(k:Nat)(a0:ag)(a1:(List (List Int))):Option Int:=
 if 3 < (a1.length:Int) then(some 6) else(bE (α:=Unit) (cR k a0 a1 k (0,0)) (some) fun _=>
 some 0)
theorem tB(k:Nat)(a0:ag)(a1:(List (List Int)))(r:Int)(h:iU k a0 a1=some r):
 de Tryz.prog 40 [.rep aj a0,.rep (.slice Tl) a1] [] (fun _:Unit=>(bv [I r],[])):=by
 unfold iU at h
 replace h:=aY h
 refine de.of 39 Tryz.func40 rfl Tryz.ntmps40 rfl fun S w0=>?_
 refine sr ?_
 refine bx fun b1=>?_
 refine au ?_
 refine ol qy ?_
 refine jb (nB rfl) ?_
 refine nt ?_
 refine ci h (fun h=>?_) (fun h=>?_)
 ·
  refine au ?_;cases h;exact ra
 ·
  refine sk (sr (cq (nt ?_)));refine dx (Z:=Unit) (α:=Unit) (fun z3 x2=>[]) (fun z3 x2=>[]) (fun e=>e=r) h (fun e h=>Option.some.inj h) (fun K hR h=>?_) (fun z3 x2 h=>?_)
  ·refine au ?_;refine ol qy ?_;refine fa rfl ?_;refine nt (ak (aK (fun z5 y4=>[(2,Pt b1),(5,.eq (.int .u8 y4.1)),(13,.rep (.slice Tl) a1),(14,I (a1.length:Int)),(15,I y4.2)]) (fun z5 y4=>[.obj b1 25 (.rep aj a0)]) (cR k a0 a1) k () (0,0) (fun _=>rfl) h (SE.fin [0] ⟨rfl,rfl,rfl,rfl,rfl,trivial⟩ rfl) (fun n z5 y4 h=>?_)));unfold cR at h;refine sr (jb (bB rfl) ?_);refine au ?_;refine ci h (fun h=>?_) (fun h=>?_)
   ·refine sk (dx (Z:=Unit) (α:=Int) (fun z7 x6=>[(2,Pt b1),(5,.eq (.int .u8 x6)),(13,.rep (.slice Tl) a1),(14,I (a1.length:Int)),(15,I y4.2)]) (fun z7 x6=>[.obj b1 25 (.rep aj a0)]) (fun e=>e=r) h (fun e h=>hR e h) (fun K hR h=>?_) (fun z7 x6 h=>?_))
    ·refine ak (sr ?_);obtain⟨x8,X,h⟩:=aa h;refine jb (aS (t:=Tl) rfl qy gh X) ?_;refine ja (av (t:=Tl) rfl gh rfl) ?_;refine au ?_;refine ol iu ?_;refine fa rfl ?_;refine nt (ak (aK (fun j y9=>[(2,Pt b1),(5,.eq (.int .u8 y9.1)),(13,.rep (.slice Tl) a1),(14,I (a1.length:Int)),(15,I y4.2),(19,.rep Tl x8),(20,I (x8.length:Int)),(21,I y9.2)]) (fun j y9=>[.obj b1 25 (.rep aj a0)]) (cQ k a0 x8) k () (y4.1,0) (fun _=>rfl) h (SE.fin [0] ⟨rfl,rfl,rfl,rfl,rfl,rfl,rfl,rfl,trivial⟩ rfl) (fun n j y9 h=>?_)));unfold cQ at h;refine sr (jb (bB rfl) ?_);refine au ?_;refine ci h (fun h=>?_) (fun h=>?_)
     ·refine au ?_;refine ak (sr ?_);obtain⟨c,y,h⟩:=aa h;refine jb (aS (t:=Ti) rfl iu bV y) ?_;refine ja (av (t:=Ti) rfl bV rfl) ?_;refine au ?_;refine fl gX ?_;refine lo bV ?_;obtain⟨O,x,h⟩:=aa h;refine jb (d4 rfl x) ?_;obtain⟨U,F,h⟩:=aa h;refine jc (ay [.tmp 25,.const (.int .i64 (0)),.tmp 28] rfl rfl ye rfl (dD k c 0 O U F)) ?_;refine ja (iE rfl) ?_;refine nt (cw h (fun h=>?_) (fun h=>?_))
      ·refine au ?_;obtain rfl:=hR _ h;exact ra
      ·refine au ?_;obtain⟨Q,E,h⟩:=aa h;refine jb (ay [.tmp 31,.tmp 32] rfl rfl Ik rfl (gy k y9.1 c Q E)) ?_;refine nt (cv h (fun h=>?_) (fun h=>?_))
       ·refine au ?_;obtain rfl:=hR _ h;exact ra
       ·refine sk (ae (au ?_));obtain⟨l,D,h⟩:=aa h;refine jb (ay [.tmp 34,.tmp 35] rfl rfl OA rfl (ko k y9.1 c l D)) ?_;refine au ?_;refine ae ?_;obtain⟨M,u,h⟩:=aa h;refine jb (bA rfl u) ?_;refine au ?_;exact jz ((),(l,M)) h [0]
     ·refine au ?_;exact jz ((),y9.1) h [0]
    ·refine ae ?_;obtain⟨J,s,h⟩:=aa h;refine jb (bA rfl s) ?_;refine au ?_;exact jz ((),(x6,J)) h [0]
   ·refine au ?_;exact jz ((),()) h []
  ·refine au ?_;cases h;exact ra
def fV(k:Nat)(a0:ag)(a1:bu):Option Int:=
 (((ck (a0.1 - 1)).bind fun x5=>
 (dz k a1.1 0 x5).bind fun r6=>
 if¬(r6=true) then(some true) else((dz k a1.2.1 0 (a0.2.2.2.2.1.length:Int)).bind fun r7=>
 some (!r7))):Option (Bool)).bind fun x3=>
 if x3=true then(some 3) else(some 0)
theorem qf(k:Nat)(a0:ag)(a1:bu)(r:Int)(h:fV k a0 a1=some r):
 de Tryz.prog 41 [.rep aj a0,.rep aZ a1] [] (fun _:Unit=>(bv [I r],[])):=by
 unfold fV at h
 replace h:=aY h
 refine de.of 21 Tryz.func41 rfl Tryz.ntmps41 rfl fun S w0=>?_
 refine sr ?_
 refine bx fun b1=>?_
 refine bx fun b2=>?_
 refine cq ?_
 refine nt ?_
 refine cg ?_
 refine aI (Z:=Unit) (α:=Bool) (fun z4 x3=>[(20,.eq (.bool x3))]) (fun z4 x3=>[]) h (fun K h=>?_) (fun z4 x3 h=>?_)
 ·
  refine ae (fl BO ?_);refine lo bV ?_;refine fl gX ?_;refine fr 1 ?_;refine lo bV ?_;obtain⟨x5,c,h⟩:=aa h;refine jb (d4 rfl c) ?_;obtain⟨r6,j,h⟩:=aa h;refine jc (ay [.tmp 6,.const (.int .i64 (0)),.tmp 9] rfl rfl ye rfl (dD k a1.1 0 x5 r6 j)) ?_;refine ja (iE rfl) ?_;refine mq ?_;refine cG (s:=12) rfl (fun hb=>?_) (fun hb=>?_)
  ·replace h:=fe (Bl hb) h;refine au ?_;exact jz ((),true) h []
  ·replace h:=cS (uw hb) h;refine ga (aG rfl BN) ?_;refine fr 1 ?_;refine oN rfl rfl rfl rfl rfl rfl (aA rfl bV nJ rfl) ⟨rfl,trivial⟩ ?_;refine ga (aG rfl eG) ?_;refine fr 1 ?_;refine oN rfl rfl rfl rfl rfl rfl (aA rfl lG nJ rfl) ⟨rfl,trivial⟩ ?_;refine ga (ta rfl rfl AM) ?_;obtain⟨r7,e,h⟩:=aa h;refine gc (ay [.tmp 14,.const (.int .i64 (0)),.tmp 17] rfl rfl ye rfl (dD k a1.2.1 0 (a0.2.2.2.2.1.length:Int) r7 e)) ?_;refine ga (iE rfl) ?_;refine au ?_;exact jz ((), !r7) h []
 ·
  refine cv h (fun h=>?_) (fun h=>?_)
  ·refine au ?_;cases h;exact ra
  ·refine au ?_;cases h;exact ra
def eU(k:Nat)(a0:ag):Nat→Int→Option (Except Int Unit)
 |0,_=>none
 |n+1,c=>
  if c < (a0.2.2.2.2.1.length:Int) then((aO a0.2.2.2.2.1 c).bind fun j=>
  (iU k a0 j).bind fun e=>
  if¬(e=0) then(some (.error e)) else((ck (c+1)).bind fun h=>
  eU k a0 n h)) else(some (.ok ()))
def eT(k:Nat)(a0:ag):Nat→Int→Option (Except Int Unit)
 |0,_=>none
 |n+1,c=>
  if c < (a0.2.2.2.2.2.length:Int) then((aO a0.2.2.2.2.2 c).bind fun j=>
  (fV k a0 j).bind fun e=>
  if¬(e=0) then(some (.error e)) else((ck (c+1)).bind fun h=>
  eT k a0 n h)) else(some (.ok ()))
def mE(k:Nat)(a0:ag):Option Int:=
 (((dz k a0.1 1 5).bind fun r4=>
 if¬(r4=true) then(some true) else((dz k a0.2.1 0 3).bind fun r5=>
 if¬(r5=true) then(some true) else((dz k a0.2.2.1 0 3).bind fun r6=>
 if¬(r6=true) then(some true) else((dz k a0.2.2.2.1 1 3).bind fun r7=>
 some (!r7))))):Option (Bool)).bind fun x2=>
 if x2=true then(some 1) else(if(a0.2.2.2.2.1.length:Int) < 1 then(some 7) else(if 6 < (a0.2.2.2.2.1.length:Int) then(some 6) else(bE (α:=Unit) (eU k a0 k 0) (some) fun _=>
 if 8 < (a0.2.2.2.2.2.length:Int) then(some 6) else(bE (α:=Unit) (eT k a0 k 0) (some) fun _=>
 some 0))))
theorem xI(k:Nat)(a0:ag)(r:Int)(h:mE k a0=some r):
 de Tryz.prog 15 [.rep aj a0] [] (fun _:Unit=>(bv [I r],[])):=by
 unfold mE at h
 replace h:=aY h
 refine de.of 73 Tryz.func15 rfl Tryz.ntmps15 rfl fun S w0=>?_
 refine sr ?_
 refine bx fun b1=>?_
 refine cq ?_
 refine nt ?_
 refine cg ?_
 refine aI (Z:=Unit) (α:=Bool) (fun z3 x2=>[(1,Pt b1),(31,.eq (.bool x2))]) (fun z3 x2=>[.obj b1 25 (.rep aj a0)]) h (fun K h=>?_) (fun z3 x2 h=>?_)
 ·
  refine ae (fl gX ?_);refine lo bV ?_;obtain⟨r4,zz,h⟩:=aa h;refine jc (ay [.tmp 11,.const (.int .i64 (1)),.const (.int .i64 (5))] rfl rfl ye rfl (dD k a0.1 1 5 r4 zz)) ?_;refine ja (iE rfl) ?_;refine mq ?_;refine cG (s:=14) rfl (fun hb=>?_) (fun hb=>?_)
  ·replace h:=fe (Bl hb) h;refine au ?_;exact jz ((),true) h [0]
  ·replace h:=cS (uw hb) h;refine ga (aG rfl BP) ?_;refine oN rfl rfl rfl rfl rfl rfl (aA rfl bV nJ rfl) ⟨rfl,trivial⟩ ?_;obtain⟨r5,qt,h⟩:=aa h;refine gc (ay [.tmp 16,.const (.int .i64 (0)),.const (.int .i64 (3))] rfl rfl ye rfl (dD k a0.2.1 0 3 r5 qt)) ?_;refine ga (iE rfl) ?_;refine pf ?_;refine mq ?_;refine cG (s:=20) rfl (fun hb=>?_) (fun hb=>?_)
   ·replace h:=fe (Bl hb) h;refine au ?_;exact jz ((),true) h [0]
   ·replace h:=cS (uw hb) h;refine ga (aG rfl dM) ?_;refine oN rfl rfl rfl rfl rfl rfl (aA rfl bV nJ rfl) ⟨rfl,trivial⟩ ?_;obtain⟨r6,mw,h⟩:=aa h;refine gc (ay [.tmp 22,.const (.int .i64 (0)),.const (.int .i64 (3))] rfl rfl ye rfl (dD k a0.2.2.1 0 3 r6 mw)) ?_;refine ga (iE rfl) ?_;refine pf ?_;refine mq ?_;refine cG (s:=26) rfl (fun hb=>?_) (fun hb=>?_)
    ·replace h:=fe (Bl hb) h;refine au ?_;exact jz ((),true) h [0]
    ·replace h:=cS (uw hb) h;refine ga (aG rfl Ig) ?_;refine oN rfl rfl rfl rfl rfl rfl (aA rfl bV nJ rfl) ⟨rfl,trivial⟩ ?_;obtain⟨r7,mc,h⟩:=aa h;refine gc (ay [.tmp 28,.const (.int .i64 (1)),.const (.int .i64 (3))] rfl rfl ye rfl (dD k a0.2.2.2.1 1 3 r7 mc)) ?_;refine ga (iE rfl) ?_;refine au ?_;exact jz ((), !r7) h [0]
 ·
  refine cv h (fun h=>?_) (fun h=>?_)
  ·refine au ?_;cases h;exact ra
  ·refine au ?_;refine fl eG ?_;refine lo lG ?_;refine ol AM ?_;refine au ?_;refine ak (au ?_);refine jb (bB rfl) ?_;refine au ?_;refine ci h (fun h=>?_) (fun h=>?_)
   ·refine au ?_;cases h;exact ra
   ·refine au ?_;refine jb (nB rfl) ?_;refine au ?_;refine ci h (fun h=>?_) (fun h=>?_)
    ·refine au ?_;cases h;exact ra
    ·refine je (gC (tn (dx (Z:=Unit) (α:=Unit) (fun z9 x8=>[(1,Pt b1)]) (fun z9 x8=>[.obj b1 25 (.rep aj a0)]) (fun e=>e=r) h (fun e h=>Option.some.inj h) (fun K hR h=>?_) (fun z9 x8 h=>?_))))
     ·refine sr (fl eG ?_);refine lo lG ?_;refine ol AM ?_;refine fa rfl ?_;refine nt (ak (aK (fun x j=>[(1,Pt b1),(42,.rep (.slice (.slice Tl)) a0.2.2.2.2.1),(43,I (a0.2.2.2.2.1.length:Int)),(44,I j)]) (fun x j=>[.obj b1 25 (.rep aj a0)]) (eU k a0) k () 0 (fun _=>rfl) h (SE.fin [0] ⟨rfl,rfl,rfl,rfl,trivial⟩ rfl) (fun n x j h=>?_)));unfold eU at h;refine sr (jb (bB rfl) ?_);refine au ?_;refine ci h (fun h=>?_) (fun h=>?_)
      ·refine au ?_;refine ak (sr ?_);obtain⟨Y,J,h⟩:=aa h;refine jb (aS (t:=(.slice Tl)) rfl AM yT J) ?_;refine ja (av (t:=(.slice Tl)) rfl yT rfl) ?_;refine au ?_;refine lo g9 ?_;refine mq ?_;obtain⟨gw,O,h⟩:=aa h;refine jb (ay [.tmp 48,.tmp 49] rfl rfl Td rfl (tB k a0 Y gw O)) ?_;refine au ?_;refine jb (fh rfl) ?_;refine nt (cn h (fun h=>?_) (fun h=>?_))
       ·refine au ?_;obtain rfl:=hR _ h;exact ra
       ·refine au ?_;refine ae ?_;obtain⟨X,F,h⟩:=aa h;refine jb (bA rfl F) ?_;refine au ?_;exact jz ((),X) h [0]
      ·refine au ?_;exact jz ((),()) h [0]
     ·refine au ?_;refine fl qp ?_;refine lo AZ ?_;refine ol OW ?_;refine jb (nB rfl) ?_;refine nt (ci h (fun h=>?_) (fun h=>?_))
      ·refine au ?_;cases h;exact ra
      ·refine sk (dx (Z:=Unit) (α:=Unit) (fun u y=>[]) (fun u y=>[]) (fun e=>e=r) h (fun e h=>Option.some.inj h) (fun K hR h=>?_) (fun u y h=>?_))
       ·refine sr (fl qp ?_);refine lo AZ ?_;refine ol OW ?_;refine fa rfl ?_;refine nt (ak (aK (fun l c=>[(1,Pt b1),(60,Rs aZ a0.2.2.2.2.2),(61,I (a0.2.2.2.2.2.length:Int)),(62,I c)]) (fun l c=>[.obj b1 25 (.rep aj a0)]) (eT k a0) k () 0 (fun _=>rfl) h (SE.fin [0] ⟨rfl,rfl,rfl,rfl,trivial⟩ rfl) (fun n l c h=>?_)));unfold eT at h;refine sr (jb (bB rfl) ?_);refine au ?_;refine ci h (fun h=>?_) (fun h=>?_)
        ·refine au ?_;refine ak (sr ?_);obtain⟨U,E,h⟩:=aa h;refine jb (aS (t:=aZ) rfl OW qI E) ?_;refine ja (av (t:=aZ) rfl qI rfl) ?_;refine aW rfl rfl rfl (bj rfl AO IE) trivial fun Uu=>?_;refine aR rfl rfl (aP rfl qI rfl rfl rfl) ⟨rfl,rfl,trivial⟩ ?_;refine nt (sr (fr 1 ?_));refine lo g9 ?_;refine fr 1 ?_;refine lo qI ?_;obtain⟨gq,M,h⟩:=aa h;refine jb (ay [.tmp 66,.tmp 67] rfl rfl Ta rfl (qf k a0 U gq M)) ?_;refine au ?_;refine jb (fh rfl) ?_;refine nt (cn h (fun h=>?_) (fun h=>?_))
         ·refine au ?_;obtain rfl:=hR _ h;exact ra
         ·refine au ?_;refine ae ?_;obtain⟨Q,D,h⟩:=aa h;refine jb (bA rfl D) ?_;refine au ?_;exact jz ((),Q) h [1]
        ·refine au ?_;exact jz ((),()) h []
       ·refine au ?_;cases h;exact ra
def cx(k:Nat)(a0:ag)(a1:Int):Nat→((List Int)×Int)→Option (List Int)
 |0,_=>none
 |n+1,y5=>
  if y5.2 < 5 then((((cF (0≤y5.2∧y5.2 < 5)).bind fun _=>
  (eP k a1 y5.2).bind fun e=>
  if e=true then((cF (0≤y5.2∧y5.2 < 5)).bind fun _=>
  some (List.set (List.set y5.1 (Int.toNat y5.2) (-1:Int)) (Int.toNat y5.2) a0.2.1)) else(some (List.set y5.1 (Int.toNat y5.2) (-1:Int)))):Option ((List Int))).bind fun x7=>
  (ck (y5.2+1)).bind fun c=>
  cx k a0 a1 n (x7,c)) else(some y5.1)
def eK(k:Nat)(a0:ag)(a1:Int):Option (List Int):=
 ((cx k a0 a1 k ([0,0,0,0,0],0)):Option ((List Int))).bind fun x3=>
 some x3
theorem qc{M:Md Tryz.prog}{bm:Nat}{c0 c1 c2 c3 c4 c5:Value}(hK:Kn M bm 0 [c0,c1,c2,c3,c4,c5])(k:Nat)(a0:ag)(a1:Int)(r:(List Int))(h:eK k a0 a1=some r):
 bQ M 75 [.rep (.mo (Pv bm) [c0,c1,c2,c3,c4,c5] aj) a0,.eq (.int .u8 a1)] [] (fun _:Unit=>(bv [.rep Tr r],[])):=by
 unfold eK at h
 replace h:=aY h
 refine bQ.of 24 Tryz.func75 rfl Tryz.ntmps75 rfl fun S w0=>?_
 refine sr ?_
 refine aW rfl rfl rfl (bj rfl Jm LH) trivial fun b1=>?_
 refine au ?_
 refine aW rfl rfl rfl (bj rfl Jm LH) trivial fun b2=>?_
 refine nt ?_
 refine aI (Z:=Unit) (α:=(List Int)) (fun z4 x3=>[(4,Pt b1),(5,Pt b2)]) (fun z4 x3=>[.obj b1 75 (.rep Tr [0,0,0,0,0]),.obj b2 75 (.rep Tr x3)]) h (fun K h=>?_) (fun z4 x3 h=>?_)
 ·
  refine sr (fa rfl ?_);refine nt (ak (aK (fun z6 y5=>[(0,.rep (.mo (Pv bm) [c0,c1,c2,c3,c4,c5] aj) a0),(1,.eq (.int .u8 a1)),(4,Pt b1),(5,Pt b2),(7,I y5.2)]) (fun z6 y5=>[.obj b1 75 (.rep Tr [0,0,0,0,0]),.obj b2 75 (.rep Tr y5.1)]) (cx k a0 a1) k () ([0,0,0,0,0],0) (fun _=>rfl) h (SE.fin [1,0] ⟨rfl,rfl,rfl,rfl,rfl,trivial⟩ rfl) (fun n z6 y5 h=>?_)));unfold cx at h;refine sr (jb (bB rfl) ?_);refine au ?_;refine ci h (fun h=>?_) (fun h=>?_)
  ·refine sk (aI (Z:=Unit) (α:=(List Int)) (fun z8 x7=>[(0,.rep (.mo (Pv bm) [c0,c1,c2,c3,c4,c5] aj) a0),(1,.eq (.int .u8 a1)),(4,Pt b1),(5,Pt b2),(7,I y5.2)]) (fun z8 x7=>[.obj b1 75 (.rep Tr [0,0,0,0,0]),.obj b2 75 (.rep Tr x7)]) h (fun K h=>?_) (fun z8 x7 h=>?_))
   ·refine ak (au ?_);obtain⟨u9,e,h⟩:=aa h;refine jb (dI rfl An bV (ao e).1 (ao e).2) ?_;refine fr 1 ?_;refine aR rfl rfl (gr (t:=Ti) (off:=0) (i:=y5.2) (N:=5) rfl bV .int rfl rfl rfl rfl (ao e).1 (ao e).2 rfl) ⟨rfl,rfl,trivial⟩ ?_;refine au ?_;obtain⟨u,l,h⟩:=aa h;refine jb (ay [.tmp 12,.tmp 13] rfl rfl Ik rfl (gy k a1 y5.2 u l)) ?_;refine nt (cv h (fun h=>?_) (fun h=>?_))
    ·refine ae (au ?_);refine ja (kZ rfl) ?_;refine ja (gx rfl gP) ?_;refine ja (ix 1 false rfl BP rfl rfl) ?_;refine ja (jj (t:=Ti) rfl bV (hK.sub 1 1 rfl (Nat.le_of_ble_eq_true rfl)) rfl rfl) ?_;obtain⟨x,c,h⟩:=aa h;refine jb (dI rfl An bV (ao c).1 (ao c).2) ?_;refine aR rfl rfl (gr (t:=Ti) (off:=0) (i:=y5.2) (N:=5) rfl bV .int rfl rfl rfl rfl (ao c).1 (ao c).2 rfl) ⟨rfl,rfl,trivial⟩ ?_;refine au ?_;exact jz ((),List.set (List.set y5.1 (Int.toNat y5.2) (-1:Int)) (Int.toNat y5.2) a0.2.1) h [1,0]
    ·refine au ?_;exact jz ((),List.set y5.1 (Int.toNat y5.2) (-1:Int)) h [1,0]
   ·refine ae ?_;obtain⟨s,j,h⟩:=aa h;refine jb (bA rfl j) ?_;refine au ?_;exact jz ((),(x7,s)) h [0,1]
  ·refine au ?_;exact jz ((),y5.1) h [0,1]
 ·
  refine sr (fr 1 ?_);refine lo gV ?_;refine fr 1 ?_;refine aR rfl rfl (aP rfl gV rfl rfl rfl) ⟨rfl,rfl,trivial⟩ ?_;refine au ?_;obtain rfl:=Option.some.inj h;exact aM () [.rep Tr x3] 0 ⟨⟨_,_,_,_,_,rfl,(.head _),gV,(qV),rfl⟩,trivial⟩ rfl
def cV(k:Nat)(a0:(List Int))(a1:Int):Nat→Int→Option (Except Int Unit)
 |0,_=>none
 |n+1,y3=>
  if y3 < (a0.length:Int) then((aO a0 y3).bind fun x5=>
  if a1=x5 then(some (.error y3)) else((ck (y3+1)).bind fun x6=>
  cV k a0 a1 n x6)) else(some (.ok ()))
def fY(k:Nat)(a0:(List Int))(a1:Int):Option Int:=
 bE (α:=Unit) (cV k a0 a1 k 0) (some) fun _=>
 some (-1:Int)
theorem mr(k:Nat)(a0:(List Int))(a1:Int)(r:Int)(h:fY k a0 a1=some r):
 de Tryz.prog 63 [.rep Tl a0,I a1] [] (fun _:Unit=>(bv [I r],[])):=by
 unfold fY at h
 replace h:=aY h
 refine de.of 19 Tryz.func63 rfl Tryz.ntmps63 rfl fun S w0=>?_
 refine sr ?_
 refine cq ?_
 refine nt ?_
 refine dx (Z:=Unit) (α:=Unit) (fun z2 x1=>[]) (fun z2 x1=>[]) (fun e=>e=r) h (fun e h=>Option.some.inj h) (fun K hR h=>?_) (fun z2 x1 h=>?_)
 ·
  refine au ?_;refine ol iu ?_;refine fa rfl ?_;refine nt (ak (aK (fun z4 y3=>[(0,.rep Tl a0),(1,I a1),(7,I (a0.length:Int)),(8,I y3)]) (fun z4 y3=>[]) (cV k a0 a1) k () 0 (fun _=>rfl) h (SE.fin [] ⟨rfl,rfl,rfl,rfl,trivial⟩ rfl) (fun n z4 y3 h=>?_)));unfold cV at h;refine sr (jb (bB rfl) ?_);refine au ?_;refine ci h (fun h=>?_) (fun h=>?_)
  ·refine au ?_;refine ak (au ?_);obtain⟨x5,j,h⟩:=aa h;refine jb (aS (t:=Ti) rfl iu bV j) ?_;refine ja (av (t:=Ti) rfl bV rfl) ?_;refine jb (hP rfl) ?_;refine nt (ci h (fun h=>?_) (fun h=>?_))
   ·refine au ?_;obtain rfl:=hR _ h;exact ra
   ·refine au ?_;refine ae ?_;obtain⟨x6,c,h⟩:=aa h;refine jb (bA rfl c) ?_;refine au ?_;exact jz ((),x6) h []
  ·refine au ?_;exact jz ((),()) h []
 ·
  refine au ?_;cases h;exact ra
def kQ(k:Nat)(a0:Int):Option Bool:=
 some (!decide (a0=a0))
theorem rC(k:Nat)(a0:Int)(r:Bool)(h:kQ k a0=some r):
 de Tryz.prog 159 [I a0] [] (fun _:Unit=>(bv [.eq (.bool r)],[])):=by
 unfold kQ at h
 replace h:=aY h
 refine de.of 6 Tryz.func159 rfl Tryz.ntmps159 rfl fun S w0=>?_
 refine au ?_
 refine jb (fh rfl) ?_
 refine au ?_
 cases h
 exact ra
def oI(k:Nat)(a0:Int)(a1:Int):Option Bool:=
 (((kQ k a0).bind fun r3=>
 if r3=true then((kQ k a1).bind fun r4=>
 if¬(r4=true) then(some true) else(some (decide (a0 < a1)))) else(some (decide (a0 < a1)))):Option (Bool)).bind fun x1=>
 some x1
theorem zX(k:Nat)(a0:Int)(a1:Int)(r:Bool)(h:oI k a0 a1=some r):
 de Tryz.prog 149 [I a0,I a1] [] (fun _:Unit=>(bv [.eq (.bool r)],[])):=by
 unfold oI at h
 replace h:=aY h
 refine de.of 17 Tryz.func149 rfl Tryz.ntmps149 rfl fun S w0=>?_
 refine sr ?_
 refine cq ?_
 refine nt ?_
 refine aI (Z:=Unit) (α:=Bool) (fun z2 x1=>[(4,.eq (.bool x1))]) (fun z2 x1=>[]) h (fun K h=>?_) (fun z2 x1 h=>?_)
 ·
  refine ae (mq ?_);obtain⟨r3,e,h⟩:=aa h;refine ja (ay [.tmp 5] rfl rfl MV rfl (rC k a0 r3 e)) ?_;refine mq ?_;refine cG (s:=7) rfl (fun hb=>?_) (fun hb=>?_)
  ·replace h:=fe (MI hb) h;refine gm ?_;obtain⟨r4,c,h⟩:=aa h;refine ga (ay [.tmp 8] rfl rfl MV rfl (rC k a1 r4 c)) ?_;refine ga (iE rfl) ?_;refine pt ?_;refine mq ?_;refine cG (s:=12) rfl (fun hb=>?_) (fun hb=>?_)
   ·replace h:=fe (Bl hb) h;refine au ?_;exact jz ((),true) h []
   ·replace h:=cS (uw hb) h;refine au ?_;refine gb (bB rfl) ?_;refine au ?_;exact jz ((),decide (a0 < a1)) h []
  ·replace h:=cS (MK hb) h;refine au ?_;refine gb (bB rfl) ?_;refine au ?_;exact jz ((),decide (a0 < a1)) h []
 ·
  refine dw ?_;cases h;exact ra
def ba(k:Nat)(a1:Int):Nat→((List Int)×Int)→Option (List Int)
 |0,_=>none
 |n+1,y6=>
  ((if a1 < y6.2 then((aO y6.1 y6.2).bind fun u=>
  (ck (y6.2 - 1)).bind fun s=>
  (aO y6.1 s).bind fun r=>
  (oI k u r).bind fun x=>
  some x) else(some false)):Option (Bool)).bind fun x8=>
  if x8=true then((ck (y6.2 - 1)).bind fun e=>
  (ck (y6.2 - 1)).bind fun l=>
  (aO y6.1 l).bind fun c=>
  (aO y6.1 y6.2).bind fun j=>
  (aO y6.1 y6.2).bind fun D=>
  (aO (List.set y6.1 (Int.toNat y6.2) c) e).bind fun y=>
  (ck (y6.2 - 1)).bind fun h=>
  ba k a1 n (List.set (List.set y6.1 (Int.toNat y6.2) c) (Int.toNat e) j,h)) else(some y6.1)
def bb(k:Nat)(a1:Int)(a2:Int):Nat→((List Int)×Int)→Option (List Int)
 |0,_=>none
 |n+1,y2=>
  if y2.2 < a2 then(((ba k a1 k (y2.1,y2.2)):Option ((List Int))).bind fun x4=>
  (ck (y2.2+1)).bind fun c=>
  bb k a1 a2 n (x4,c)) else(some y2.1)
def bM(k:Nat)(a0:(List Int))(a1:Int)(a2:Int):Option (List Int):=
 (ck (a1+1)).bind fun x1=>
 bb k a1 a2 k (a0,x1)
theorem jh(k:Nat)(a0:(List Int))(c:Value)(a1:Int)(a2:Int)(r:(List Int))(h:bM k a0 a1 a2=some r):
 de Tryz.prog 143 [.eq c,I a1,I a2] [.sl c 3 Ti a0] (fun _:Unit=>(bv [],[.sl c 3 Ti r])):=by
 unfold bM at h
 replace h:=aY h
 refine de.of 49 Tryz.func143 rfl Tryz.ntmps143 rfl fun S w0=>?_
 refine au ?_
 obtain⟨x1,UJ,h⟩:=aa h
 refine jb (bA rfl UJ) ?_
 refine au ?_
 refine ak ?_
 refine aK (fun z3 y2=>[(0,.eq c),(1,I a1),(2,I a2),(6,I y2.2)]) (fun z3 y2=>[.sl c 3 Ti y2.1]) (bb k a1 a2) k () (a0,x1) (fun _=>rfl) h (SE.fin [0] ⟨rfl,rfl,rfl,rfl,trivial⟩ rfl) (fun n z3 y2 h=>?_)
 unfold bb at h
 refine au ?_
 refine jb (bB rfl) ?_
 refine nt ?_
 refine ci h (fun h=>?_) (fun h=>?_)
 ·
  refine sk (aI (Z:=Unit) (α:=(List Int)) (fun z5 x4=>[(0,.eq c),(1,I a1),(2,I a2),(6,I y2.2)]) (fun z5 x4=>[.sl c 3 Ti x4]) h (fun K h=>?_) (fun z5 x4 h=>?_))
  ·refine ak (au ?_);refine ak (aK (fun z7 y6=>[(0,.eq c),(1,I a1),(2,I a2),(6,I y2.2),(7,I y6.2)]) (fun z7 y6=>[.sl c 3 Ti y6.1]) (ba k a1) k () (y2.1,y2.2) (fun _=>rfl) h (SE.fin [0] ⟨rfl,rfl,rfl,rfl,rfl,trivial⟩ rfl) (fun n z7 y6 h=>?_));unfold ba at h;refine cg (aI (Z:=Unit) (α:=Bool) (fun z9 x8=>[(0,.eq c),(1,I a1),(2,I a2),(6,I y2.2),(7,I y6.2),(30,.eq (.bool x8))]) (fun z9 x8=>[.sl c 3 Ti y6.1]) h (fun K h=>?_) (fun z9 x8 h=>?_))
   ·refine cK ?_;refine dm ?_;refine dm ?_;refine db (nB rfl) ?_;refine t3 rfl rfl rfl (bz rfl) ⟨rfl,trivial⟩ (fun hb=>?_) (fun hb=>?_)
    ·replace h:=fe (tU hb) h;refine cz rfl rfl rfl rfl rfl (bz rfl) ⟨rfl,rfl,trivial⟩ ?_;refine cz rfl rfl rfl rfl rfl (bz rfl) ⟨rfl,rfl,trivial⟩ ?_;obtain⟨Uz,x,h⟩:=aa h;refine gR 0 rfl rfl rfl rfl rfl rfl (cE (t:=Ti) rfl iu bV x) ⟨rfl,rfl,rfl,trivial⟩ ?_;refine gR 0 rfl rfl rfl rfl rfl rfl (gJ (i:=Int.toNat y6.2) (off:=0) rfl bV (fun _=>rfl) rfl (dA x).2.2 rfl) ⟨rfl,rfl,trivial⟩ ?_;refine cz rfl rfl rfl rfl rfl (bz rfl) ⟨rfl,rfl,trivial⟩ ?_;refine cz rfl rfl rfl rfl rfl (bz rfl) ⟨rfl,rfl,trivial⟩ ?_;obtain⟨Uy,mw,h⟩:=aa h;refine cz rfl rfl rfl rfl rfl (d4 rfl mw) ⟨rfl,rfl,rfl,trivial⟩ ?_;obtain⟨Ux,u,h⟩:=aa h;refine gR 0 rfl rfl rfl rfl rfl rfl (cE (t:=Ti) rfl iu bV u) ⟨rfl,rfl,rfl,trivial⟩ ?_;refine gR 0 rfl rfl rfl rfl rfl rfl (gJ (i:=Int.toNat Uy) (off:=0) rfl bV (fun _=>rfl) rfl (dA u).2.2 rfl) ⟨rfl,rfl,trivial⟩ ?_;refine df dW ?_;obtain⟨F,qt,h⟩:=aa h;refine gb (ay [.tmp 23,.tmp 28] rfl rfl QO rfl (zX k Uz Ux F qt)) ?_;refine au ?_;exact jz ((),F) h [0]
    ·replace h:=cS (tV hb) h;iterate 9 refine dg ?_
     refine df dW ?_;refine au ?_;exact jz ((),false) h [0]
   ·refine cv h (fun h=>?_) (fun h=>?_)
    ·refine au ?_;refine ak (rJ ?_);refine bJ rfl rfl rfl (bz rfl) ⟨rfl,trivial⟩ ?_;refine bJ rfl rfl rfl (bz rfl) ⟨rfl,trivial⟩ ?_;refine bJ rfl rfl rfl (bz rfl) ⟨rfl,trivial⟩ ?_;refine bJ rfl rfl rfl (bz rfl) ⟨rfl,trivial⟩ ?_;obtain⟨y,mc,h⟩:=aa h;refine bJ rfl rfl rfl (d4 rfl mc) ⟨rfl,rfl,trivial⟩ ?_;refine bJ rfl rfl rfl (bz rfl) ⟨rfl,trivial⟩ ?_;refine bJ rfl rfl rfl (bz rfl) ⟨rfl,trivial⟩ ?_;obtain⟨Uw,gw,h⟩:=aa h;refine bJ rfl rfl rfl (d4 rfl gw) ⟨rfl,rfl,trivial⟩ ?_;obtain⟨E,s,h⟩:=aa h;refine g7 0 rfl rfl rfl rfl (cE (t:=Ti) rfl iu bV s) ⟨rfl,rfl,trivial⟩ ?_;refine g7 0 rfl rfl rfl rfl (gJ (i:=Int.toNat Uw) (off:=0) rfl bV (fun _=>rfl) rfl (dA s).2.2 rfl) ⟨rfl,trivial⟩ ?_;refine bJ rfl rfl rfl (bz rfl) ⟨rfl,trivial⟩ ?_;refine bJ rfl rfl rfl (bz rfl) ⟨rfl,trivial⟩ ?_;obtain⟨D,l,h⟩:=aa h;refine g7 0 rfl rfl rfl rfl (cE (t:=Ti) rfl iu bV l) ⟨rfl,rfl,trivial⟩ ?_;refine g7 0 rfl rfl rfl rfl (gJ (i:=Int.toNat y6.2) (off:=0) rfl bV (fun _=>rfl) rfl (dA l).2.2 rfl) ⟨rfl,trivial⟩ ?_;obtain⟨UR,j,h⟩:=aa h;refine g7 0 rfl rfl rfl rfl (cE (t:=Ti) rfl iu bV j) ⟨rfl,rfl,trivial⟩ ?_;refine vt 15 [true,true,false,false,false,true,true,true,true,true,true,true,true,true,true] [48] [] [] rfl (by kernel_rfl) (by kernel_rfl) (by kernel_rfl) dW (fun vs hv hB=>?_);obtain⟨w0,U8,rfl,UI⟩:=aC hv;obtain⟨w1,U7,rfl,UH⟩:=aC UI;obtain⟨w2,U6,rfl,UG⟩:=aC UH;obtain⟨w3,U2,rfl,UF⟩:=aC UG;obtain⟨w4,U1,rfl,UE⟩:=aC UF;obtain⟨w5,U0,rfl,UD⟩:=aC UE;obtain⟨w6,UZ,rfl,UC⟩:=aC UD;obtain⟨w7,UY,rfl,UB⟩:=aC UC;obtain⟨w8,UX,rfl,UA⟩:=aC UB;obtain⟨w9,UP,rfl,X⟩:=aC UA;obtain⟨UW,UO,rfl,U⟩:=aC X;obtain⟨UV,UN,rfl,Q⟩:=aC U;obtain⟨UU,UM,rfl,O⟩:=aC Q;obtain⟨UT,UL,rfl,M⟩:=aC O;obtain⟨US,UK,rfl,J⟩:=aC M;obtain rfl:=ri J;refine⟨[0],[.sl c 3 Ti y6.1],by kernel_rfl,by decide,?_⟩;refine sX rfl rfl (gp (i:=Int.toNat y6.2) rfl bV rfl (nj j) rfl .int rfl) ⟨rfl,rfl,trivial⟩ (by kernel_rfl) ?_;obtain⟨UQ,e,h⟩:=aa h;refine vn rfl rfl rfl rfl (cE (t:=Ti) rfl iu bV e) ⟨rfl,rfl,trivial⟩ (by kernel_rfl) ?_;refine sX rfl rfl (gp (i:=Int.toNat y) rfl bV rfl (nj e) rfl .int rfl) ⟨rfl,rfl,trivial⟩ (by kernel_rfl) ?_;refine yr ?_;refine bL (SE.fin (Γ':=[(0,.eq c),(1,I a1),(2,I a2),(6,I y2.2),(7,I y6.2)]) (Δ':=[.sl c 3 Ti (List.set (List.set y6.1 (Int.toNat y6.2) E) (Int.toNat y) D)]) [0] ⟨rfl,rfl,rfl,rfl,rfl,trivial⟩ rfl) ?_;refine au ?_;refine ae (mq ?_);obtain⟨Uu,gq,h⟩:=aa h;refine jb (d4 rfl gq) ?_;refine au ?_;exact jz ((),(List.set (List.set y6.1 (Int.toNat y6.2) E) (Int.toNat y) D,Uu)) h [0]
    ·refine au ?_;exact jz ((),y6.1) h [0]
  ·refine ae (mq ?_);obtain⟨zz,Y,h⟩:=aa h;refine jb (bA rfl Y) ?_;refine au ?_;exact jz ((),(x4,zz)) h [0]
 ·
  refine au ?_;refine j8 ?_;cases h;exact aM () [] 1 trivial rfl
def kp(k:Nat)(a0:Int):Option Int:=
 ((if 4294967296≤a0 then(some (gf .u64 a0 32,32)) else(some (a0,0))):Option (Int×Int)).bind fun x1=>
 ((if 65536≤x1.1 then((ck (x1.2+16)).bind fun x5=>
 some (gf .u64 x1.1 16,x5)) else(some (x1.1,x1.2))):Option (Int×Int)).bind fun x3=>
 ((if 256≤x3.1 then((ck (x3.2+8)).bind fun x8=>
 some (gf .u64 x3.1 8,x8)) else(some (x3.1,x3.2))):Option (Int×Int)).bind fun x6=>
 (BJ KY (IntKind.u8.wrap x6.1)).bind fun x9=>
 (ck (x9.toNat:Int)).bind fun e=>
 (ck (x6.2+e)).bind fun c=>
 some c
theorem qj(k:Nat)(a0:Int)(r:Int)(h:kp k a0=some r):
 de Tryz.prog 153 [.eq (.int .u64 a0)] [] (fun _:Unit=>(bv [I r],[])):=by
 unfold kp at h
 replace h:=aY h
 refine de.of 25 Tryz.func153 rfl Tryz.ntmps153 rfl fun S w0=>?_
 refine sr ?_
 refine cq ?_
 refine nt ?_
 refine aI (Z:=Unit) (α:=Int×Int) (fun z2 x1=>[(0,.eq (.int .u64 x1.1)),(2,I x1.2)]) (fun z2 x1=>[]) h (fun K h=>?_) (fun z2 x1 h=>?_)
 ·
  refine au ?_;refine jb (kx rfl) ?_;refine nt (ci h (fun h=>?_) (fun h=>?_))
  ·refine au ?_;refine bY rfl (uu rfl (by decide)) ⟨rfl,rfl,trivial⟩ ?_;refine au ?_;refine ae (au ?_);exact jz ((),(gf .u64 a0 32,32)) h []
  ·refine au ?_;exact jz ((),(a0,0)) h []
 ·
  refine aI (Z:=Unit) (α:=Int×Int) (fun z4 x3=>[(0,.eq (.int .u64 x3.1)),(2,I x3.2)]) (fun z4 x3=>[]) h (fun K h=>?_) (fun z4 x3 h=>?_)
  ·refine au ?_;refine jb (kx rfl) ?_;refine nt (ci h (fun h=>?_) (fun h=>?_))
   ·refine au ?_;refine bY rfl (uu rfl (by decide)) ⟨rfl,rfl,trivial⟩ ?_;refine au ?_;refine ae (mq ?_);obtain⟨x5,n,h⟩:=aa h;refine jb (bA rfl n) ?_;refine au ?_;exact jz ((),(gf .u64 x1.1 16,x5)) h []
   ·refine au ?_;exact jz ((),(x1.1,x1.2)) h []
  ·refine aI (Z:=Unit) (α:=Int×Int) (fun z7 x6=>[(0,.eq (.int .u64 x6.1)),(2,I x6.2)]) (fun z7 x6=>[]) h (fun K h=>?_) (fun z7 x6 h=>?_)
   ·refine au ?_;refine jb (kx rfl) ?_;refine nt (ci h (fun h=>?_) (fun h=>?_))
    ·refine au ?_;refine bY rfl (uu rfl (by decide)) ⟨rfl,rfl,trivial⟩ ?_;refine au ?_;refine ae (mq ?_);obtain⟨x8,l,h⟩:=aa h;refine jb (bA rfl l) ?_;refine au ?_;exact jz ((),(gf .u64 x3.1 8,x8)) h []
    ·refine au ?_;exact jz ((),(x3.1,x3.2)) h []
   ·refine au ?_;refine ja (rW rfl Rz U5) ?_;obtain⟨x9,j,h⟩:=aa h;refine ja (zf rfl U9 j) ?_;obtain⟨u,e,h⟩:=aa h;refine ja (zg rfl U5 U3 e) ?_;obtain⟨s,c,h⟩:=aa h;refine jb (bA rfl c) ?_;refine au ?_;cases h;exact ra
def pm(k:Nat)(a0:Int):Option Int:=
 (kp k a0).bind fun r1=>
 some r1
theorem Cb(k:Nat)(a0:Int)(r:Int)(h:pm k a0=some r):
 de Tryz.prog 142 [.eq (.int .u64 a0)] [] (fun _:Unit=>(bv [I r],[])):=by
 unfold pm at h
 replace h:=aY h
 refine de.of 8 Tryz.func142 rfl Tryz.ntmps142 rfl fun S w0=>?_
 refine au ?_
 refine I9 (fun hb=>(by cases hb)) (fun hb=>?_)
 refine au ?_
 obtain⟨r1,c,h⟩:=aa h
 have e:=qj k a0 r1 c
 refine ja (ay [.tmp 6] rfl rfl QN rfl e) ?_
 refine au ?_
 cases h
 exact ra
def cp(k:Nat)(a0:(List Int))(a1:Int)(a2:Int)(a3:Int):Nat→Unit→Option (List Int)
 |0,_=>none
 |n+1,y1=>
  (ck (a2 - a1)).bind fun x3=>
  if x3≤12 then((bM k a0 a1 a2).bind fun r4=>
  some r4) else(if a3=0 then(none) else(none))
def cM(k:Nat)(a0:(List Int))(a1:Int)(a2:Int)(a3:Int):Option (List Int):=
 cp k a0 a1 a2 a3 k ()
theorem lH(k:Nat)(a0:(List Int))(c:Value)(a1:Int)(a2:Int)(a3:Int)(r:(List Int))(h:cM k a0 a1 a2 a3=some r):
 de Tryz.prog 141 [.eq c,I a1,I a2,I a3] [.sl c 3 Ti a0] (fun _:Unit=>(bv [],[.sl c 3 Ti r])):=by
 unfold cM at h
 replace h:=aY h
 refine de.of 134 Tryz.func141 rfl Tryz.ntmps141 rfl fun S w0=>?_
 refine au ?_
 refine ak ?_
 refine aK (fun z2 y1=>[(0,.eq c),(1,I a1),(2,I a2),(3,I a3),(8,.eq (.bool true)),(9,.eq (.bool true))]) (fun z2 y1=>[.sl c 3 Ti a0]) (cp k a0 a1 a2 a3) k () () (fun _=>rfl) h (SE.fin [0] ⟨rfl,rfl,rfl,rfl,rfl,rfl,trivial⟩ rfl) (fun n z2 y1 h=>?_)
 unfold cp at h
 refine ak ?_
 refine au ?_
 obtain⟨x3,e,h⟩:=aa h
 refine jb (d4 rfl e) ?_
 refine au ?_
 refine jb (C0 rfl) ?_
 refine nt ?_
 refine ci h (fun h=>?_) (fun h=>?_)
 ·
  refine au ?_;obtain⟨r4,j,h⟩:=aa h;refine kc (ay [.tmp 24,.tmp 25,.tmp 26] rfl rfl QP rfl (jh k a0 c a1 a2 r4 j)) ?_;refine au ?_;cases h;exact aM () [] 1 trivial rfl
 ·
  refine au ?_;refine jb (hP rfl) ?_;refine nt (ci h (fun h=>?_) (fun h=>?_))
  ·cases h
  ·cases h
def fF(k:Nat)(a0:(List Int)):Option (List Int):=
 (pm k (IntKind.u64.wrap (a0.length:Int))).bind fun r1=>
 (cM k a0 0 (a0.length:Int) r1).bind fun r2=>
 some r2
theorem tu(k:Nat)(a0:(List Int))(c:Value)(r:(List Int))(h:fF k a0=some r):
 de Tryz.prog 128 [.eq c] [.sl c 3 Ti a0] (fun _:Unit=>(bv [],[.sl c 3 Ti r])):=by
 unfold fF at h
 replace h:=aY h
 refine de.of 11 Tryz.func128 rfl Tryz.ntmps128 rfl fun S w0=>?_
 refine au ?_
 refine ka (mA rfl rfl iu) ?_
 refine au ?_
 refine ae ?_
 refine au ?_
 refine ja (rW rfl U3 TG) ?_
 obtain⟨r1,j,h⟩:=aa h
 have n:=Cb k (IntKind.u64.wrap (a0.length:Int)) r1 j
 refine ja (ay [.tmp 8] rfl rfl QQ rfl n) ?_
 obtain⟨r2,e,h⟩:=aa h
 have l:=lH k a0 c 0 (a0.length:Int) r1 r2 e
 refine mf rfl rfl rfl (ay [.tmp 5,.const (.int .i64 (0)),.tmp 6,.tmp 9] rfl rfl QR rfl l) ⟨rfl,rfl,rfl,rfl,trivial⟩ ?_
 refine be ?_
 refine j8 ?_
 cases h
 exact aM () [] 1 trivial rfl
def cy(k:Nat)(a1:Int)(x3:(List (List Int))):Nat→Int→Option (Except (Int ⊕ (List Int)) Unit)
 |0,_=>none
 |n+1,y4=>
  if y4 < (x3.length:Int) then((aO x3 y4).bind fun x6=>
  (fY k x6 a1).bind fun r7=>
  if 0≤r7 then(((if 0 < r7 then((ck (r7 - 1)).bind fun s=>
  (aO x6 s).bind fun e=>
  (cF (bK (List.length ([]:(List Int))+List.length [e]))).bind fun _=>
  some (([]:(List Int))++[e])) else(some ([]:(List Int)))):Option ((List Int))).bind fun x8=>
  (((ck (r7+1)).bind fun l=>
  if l < (x6.length:Int) then((ck (r7+1)).bind fun j=>
  (aO x6 j).bind fun c=>
  (cF (bK (List.length x8+List.length [c]))).bind fun _=>
  some (x8++[c])) else(some x8)):Option ((List Int))).bind fun r=>
  (fF k r).bind fun u=>
  some (.error (Sum.inr u:(Int ⊕ (List Int))))) else((ck (y4+1)).bind fun h=>
  cy k a1 x3 n h)) else(some (.ok ()))
def dR(k:Nat):Nat→ag→Int→Int→Option ((Int ⊕ (List Int)))
 |0,_,_,_=>none
 |m0+1,a0,a1,a2=>
  bE (α:=Unit) ((aO a0.2.2.2.2.1 a2).bind fun x3=>
  cy k a1 x3 k 0) (some) fun _=>
  ((if 0 < a2 then((ck (a2 - 1)).bind fun h=>
  ((dR k m0) a0 a1 h).bind fun c=>
  if J3 c=true then((ck (1+(PS c))).bind fun e=>
  some e) else(some 1)) else(some 1)):Option (Int)).bind fun j=>
  some (Sum.inl j:(Int ⊕ (List Int)))
theorem lj{M:Md Tryz.prog}{bm:Nat}{c0 c1 c2 c3 c4 c5:Value}(hK:Kn M bm 0 [c0,c1,c2,c3,c4,c5])(k:Nat):
 ∀(n:Nat) (a0:ag) (a1:Int) (a2:Int) (r:(Int ⊕ (List Int))),dR k n a0 a1 a2=some r→bQ M 100 [.rep (.mo (Pv bm) [c0,c1,c2,c3,c4,c5] aj) a0,I a1,I a2] ([]) (fun _:Unit=>(bv [.rep (.pl 154 156 Tl) r],[])):=by
 intro n
 induction n with
 |zero=>intro a0 a1 a2 r h;cases h
 |succ m0 ih=>
  intro a0 a1 a2 r h;rw [dR] at h;replace h:=aY h;refine bQ.of 80 Tryz.func100 rfl Tryz.ntmps100 rfl fun S w0=>?_;refine sr (cq (nt ?_));refine dx (Z:=Unit) (α:=Unit) (fun z2 x1=>[(0,.rep (.mo (Pv bm) [c0,c1,c2,c3,c4,c5] aj) a0),(1,I a1),(2,I a2)]) (fun z2 x1=>[]) (fun e=>e=r) h (fun e h=>Option.some.inj h) (fun K hR h=>?_) (fun z2 x1 h=>?_)
  ·refine au ?_;refine ja (kZ rfl) ?_;refine ja (gx rfl gP) ?_;refine ja (ix 1 false rfl eG rfl rfl) ?_;refine ja (jj (t:=(.slice (.slice Tl))) rfl lG (hK.sub 4 1 rfl (Nat.le_of_ble_eq_true rfl)) rfl rfl) ?_;refine mq ?_;obtain⟨x3,Uz,h⟩:=aa h;refine jb (aS (t:=(.slice Tl)) rfl AM yT Uz) ?_;refine ja (av (t:=(.slice Tl)) rfl yT rfl) ?_;refine ol qy ?_;refine fa rfl ?_;refine nt (ak (aK (fun z5 y4=>[(0,.rep (.mo (Pv bm) [c0,c1,c2,c3,c4,c5] aj) a0),(1,I a1),(2,I a2),(21,.rep (.slice Tl) x3),(22,I (x3.length:Int)),(23,I y4)]) (fun z5 y4=>[]) (cy k a1 x3) k () 0 (fun _=>rfl) h (SE.fin [] ⟨rfl,rfl,rfl,rfl,rfl,rfl,trivial⟩ rfl) (fun n z5 y4 h=>?_)));unfold cy at h;refine sr (jb (bB rfl) ?_);refine au ?_;refine ci h (fun h=>?_) (fun h=>?_)
   ·refine au ?_;refine ak (sr ?_);obtain⟨x6,Uy,h⟩:=aa h;refine jb (aS (t:=Tl) rfl qy gh Uy) ?_;refine ja (av (t:=Tl) rfl gh rfl) ?_;refine au ?_;obtain⟨r7,UA,h⟩:=aa h;refine jb (ay [.tmp 27,.tmp 28] rfl rfl QF rfl (mr k x6 a1 r7 UA)) ?_;refine au ?_;refine jb (kx rfl) ?_;refine nt (ci h (fun h=>?_) (fun h=>?_))
    ·refine sr (cq (nt ?_));refine aI (Z:=Value) (α:=(List Int)) (fun z9 x8=>[(8,.rep Tl x6),(9,I r7),(10,.eq z9)]) (fun z9 x8=>[.sl z9 3 Ti x8]) h (fun K h=>?_) (fun z9 x8 h=>?_)
     ·refine au ?_;refine jb (nB rfl) ?_;refine nt (ci h (fun h=>?_) (fun h=>?_))
      ·refine ae (au ?_);obtain⟨UD,U,h⟩:=aa h;refine jb (d4 rfl U) ?_;obtain⟨x,Q,h⟩:=aa h;refine jb (aS (t:=Ti) rfl iu bV Q) ?_;refine ja (av (t:=Ti) rfl bV rfl) ?_;refine ja (bg (t:=Ti) [(.tmp 39,_)] [x] rfl rfl dG (.cons rfl .int .nil) rfl rfl) ?_;refine eC (SE.nil 3 Ti) ?_;obtain⟨UF,Y,h⟩:=aa h;refine dU rfl rfl rfl (cj rfl rfl dG (ao Y)) ⟨rfl,rfl,trivial⟩ fun Uu=>?_;refine au ?_;exact jz (Uu,([]:(List Int))++[x]) h [0]
      ·refine je (ax (bL (SE.nil 3 Ti) ?_));exact jz ((.slice none 0 0),([]:(List Int))) h [0]
     ·refine aI (Z:=Value) (α:=(List Int)) (fun c j=>[(10,.eq c)]) (fun c j=>[.sl c 3 Ti j]) h (fun K h=>?_) (fun c j h=>?_)
      ·refine au ?_;obtain⟨UC,O,h⟩:=aa h;refine jb (bA rfl O) ?_;refine mq ?_;refine ol iu ?_;refine jb (bB rfl) ?_;refine nt (ci h (fun h=>?_) (fun h=>?_))
       ·refine ae (au ?_);obtain⟨UB,J,h⟩:=aa h;refine jb (bA rfl J) ?_;obtain⟨u,F,h⟩:=aa h;refine jb (aS (t:=Ti) rfl iu bV F) ?_;refine ja (av (t:=Ti) rfl bV rfl) ?_;refine ja (bg (t:=Ti) [(.tmp 52,_)] [u] rfl rfl dG (.cons rfl .int .nil) rfl rfl) ?_;obtain⟨UE,X,h⟩:=aa h;refine dU rfl rfl rfl (cj rfl rfl dG (ao X)) ⟨rfl,rfl,trivial⟩ fun zz=>?_;refine au ?_;exact jz (zz,x8++[u]) h [0]
       ·refine au ?_;exact jz (z9,x8) h [0]
      ·refine au ?_;obtain⟨Ux,gw,h⟩:=aa h;refine ka (ay [.tmp 55] rfl rfl QU rfl (tu k j c Ux gw)) ?_;refine nt (sr (mq ?_));refine eC (gZ [10,55,57] ⟨rfl,rfl,rfl,trivial⟩) ?_;refine ja (dV [(0,.tmp 57,_)] rfl PV MC OM (jK ⟨rfl,trivial⟩) rfl) ?_;refine ja (Ko (t0:=154) (t:=Ti) rfl TJ) ?_;refine au ?_;obtain rfl:=hR _ h;exact ra
    ·refine au ?_;refine ae ?_;obtain⟨qt,E,h⟩:=aa h;refine jb (bA rfl E) ?_;refine au ?_;exact jz ((),qt) h []
   ·refine au ?_;exact jz ((),()) h []
  ·refine sr (cq (nt ?_));refine aI (Z:=Unit) (α:=Int) (fun s l=>[(11,I l)]) (fun s l=>[]) h (fun K h=>?_) (fun s l h=>?_)
   ·refine au ?_;refine jb (nB rfl) ?_;refine nt (ci h (fun h=>?_) (fun h=>?_))
    ·refine au ?_;obtain⟨mw,D,h⟩:=aa h;refine jb (d4 rfl D) ?_;obtain⟨Uw,gq,h⟩:=aa h;refine jc (aJ [.tmp 64,.tmp 65,.tmp 67] rfl rfl Im rfl (ih a0 a1 mw Uw gq)) ?_;refine bY rfl (C3 rfl Gu (by decide)) ⟨rfl,trivial⟩ ?_;refine au ?_;refine aW rfl rfl rfl (bj rfl FO M9) trivial fun UG=>?_;refine aR rfl rfl (aP rfl MO trivial rfl rfl) ⟨rfl,rfl,trivial⟩ ?_;refine au ?_;refine cv h (fun h=>?_) (fun h=>?_)
     ·refine ae (mq ?_);refine fl Dw ?_;refine lo bV ?_;obtain⟨mc,y,h⟩:=aa h;refine jb (bA rfl y) ?_;refine au ?_;exact jz ((),mc) h []
     ·refine au ?_;exact jz ((),1) h []
    ·refine au ?_;exact jz ((),1) h []
   ·refine au ?_;refine ja (dV [(0,.tmp 77,_)] rfl PW FO ON (jK ⟨rfl,trivial⟩) rfl) ?_;refine ja (Kp (t1:=156) (t:=Ti) rfl TK) ?_;refine au ?_;cases h;exact ra
def iq(k:Nat)(a0:MZ):Option (List Int):=
 some ([]:(List Int))
theorem qe(k:Nat)(a0:MZ)(r:(List Int))(h:iq k a0=some r):
 de Tryz.prog 177 [.rep PM a0] [] (fun _:Unit=>(bv [.rep Tl r],[])):=by
 unfold iq at h
 replace h:=aY h
 refine de.of 3 Tryz.func177 rfl Tryz.ntmps177 rfl fun S w0=>?_
 refine sr ?_
 refine bx fun b1=>?_
 refine cq ?_
 refine nt ?_
 refine sr ?_
 refine cq ?_
 refine nt ?_
 refine dw ?_
 refine bL (eA (t:=Tl) (x:=([]:(List Int))) 2 rfl .nil rfl rfl) ?_
 cases h
 exact ra
def io(k:Nat)(a0:MY):Option (List Int):=
 some a0
theorem pY(k:Nat)(a0:MY)(r:(List Int))(h:io k a0=some r):
 de Tryz.prog 178 [.rep PL a0] [] (fun _:Unit=>(bv [.rep Tl r],[])):=by
 unfold io at h
 replace h:=aY h
 refine de.of 5 Tryz.func178 rfl Tryz.ntmps178 rfl fun S w0=>?_
 refine sr ?_
 refine bx fun b1=>?_
 refine au ?_
 refine fl K8 ?_
 refine lo gh ?_
 refine au ?_
 cases h
 exact ra
def bN(k:Nat)(a0:ag)(a1:(List Int))(r5:(List Int)):Nat→Int→Option (Except Int Unit)
 |0,_=>none
 |n+1,y6=>
  if y6 < (r5.length:Int) then((aO r5 y6).bind fun x8=>
  (cF (0≤x8∧x8 < 5)).bind fun _=>
  (aO a1 x8).bind fun e=>
  if(sF 0 a0.2.1)≤e then(some (.error x8)) else((ck (y6+1)).bind fun c=>
  bN k a0 a1 r5 n c)) else(some (.ok ()))
def di(k:Nat)(a0:ag)(a1:(List Int))(a2:Int)(a3:Int):Option Int:=
 bE (α:=Unit) ((dR k k a0 a2 a3).bind fun r4=>
 (Ix r4 (fun n=>iq k n) (fun l=>io k l)).bind fun r5=>
 bN k a0 a1 r5 k 0) (some) fun _=>
 some (-1:Int)
theorem jO{M:Md Tryz.prog}{bm:Nat}{c0 c1 c2 c3 c4 c5:Value}(hK:Kn M bm 0 [c0,c1,c2,c3,c4,c5])(k:Nat)(a0:ag)(a1:(List Int))(a2:Int)(a3:Int)(r:Int)(h:di k a0 a1 a2 a3=some r):
    bQ M 90 [.rep (.mo (Pv bm) [c0,c1,c2,c3,c4,c5] aj) a0,.rep Tr a1,.eq (.int .i64 a2),.eq (.int .i64 a3)] [] (fun _:Unit=>(bv [.eq (.int .i64 r)],[])):=by
  unfold di at h
  replace h:=aY h
  refine bQ.of 33 Tryz.func90 rfl Tryz.ntmps90 rfl fun S w0=>?_
  refine cg ?_
  refine ae ?_
  refine aW rfl rfl rfl (wB rfl rfl) ⟨rfl,trivial⟩ fun b1=>?_
  refine D9 rfl ?_
  refine be ?_
  refine ax ?_
  show JC _ _ _ _ _
  refine dx (Z:=Unit) (α:=Unit) (fun z3 x2=>[]) (fun z3 x2=>[]) (fun e=>e=r) h (fun e h=>Option.some.inj h) (fun K hR h=>?_) (fun z3 x2 h=>?_)
  ·
    refine cg ?_
    refine ae ?_
    refine gU rfl rfl ?_
    refine gU rfl rfl ?_
    refine gU rfl rfl ?_
    obtain⟨r4,D,h⟩:=aa h
    have E:=lj hK k k a0 a2 a3 r4 D
    refine bY rfl (aJ [.tmp 11,.tmp 12,.tmp 13] rfl rfl Im rfl E) ⟨rfl,rfl,rfl,trivial⟩ ?_
    obtain⟨r5,c,h⟩:=aa h
    refine bY rfl (Kq (r:=.rep Tl r5) rfl rfl vO vM (fun n hd=>.agI (qe k n r5 (by rw [hd] at c;exact c))) (fun l hd=>.agS (pY k l r5 (by rw [hd] at c;exact c)))) ⟨rfl,trivial⟩ ?_
    refine bY rfl (ta rfl rfl iu) ⟨rfl,trivial⟩ ?_
    refine fa rfl ?_
    refine be ?_
    refine ax ?_
    show JC _ _ _ _ _
    refine ak ?_
    refine aK (fun z7 y6=>[(0,.rep (.mo (Pv bm) [c0,c1,c2,c3,c4,c5] aj) a0),(5,.eq (Pv b1)),(15,.rep Tl r5),(16,.eq (.int .i64 (r5.length:Int))),(17,.eq (.int .i64 y6))]) (fun z7 y6=>[.obj b1 75 (.rep Tr a1)]) (bN k a0 a1 r5) k () 0 (fun _=>rfl) h (SE.fin [0] ⟨rfl,rfl,rfl,rfl,rfl,trivial⟩ rfl) (fun n z7 y6 h=>?_)
    unfold bN at h
    refine cg ?_
    refine ae ?_
    refine bY rfl (bB rfl) ⟨rfl,rfl,trivial⟩ ?_
    refine be ?_
    refine ax ?_
    show JC _ _ _ _ _
    refine cg ?_
    refine jg rfl (fun hb=>?_) (fun hb=>?_)
    · replace h:=fe (tU hb) h
      refine je ?_
      refine ax ?_
      show JC _ _ _ _ _
      refine cg ?_
      refine ak ?_
      refine cg ?_
      refine ae ?_
      obtain⟨x8,y,h⟩:=aa h
      refine bY rfl (aS (t:=Ti) rfl iu bV y) ⟨rfl,rfl,trivial⟩ ?_
      refine bY rfl (av (t:=Ti) rfl bV rfl) ⟨rfl,trivial⟩ ?_
      refine vo rfl rfl ?_
      refine be ?_
      refine ax ?_
      show JC _ _ _ _ _
      refine cg ?_
      refine cK ?_
      refine fx rfl rfl rfl (bz rfl) ⟨rfl,trivial⟩ ?_
      obtain⟨u9,u,h⟩:=aa h
      refine fx rfl rfl rfl (dI rfl An bV (ao u).1 (ao u).2) ⟨rfl,rfl,trivial⟩ ?_
      obtain⟨F,s,h⟩:=aa h
      refine yw 0 rfl rfl rfl rfl (mY (t:=Ti) (off:=0) (i:=x8) (N:=5) rfl bV (fun _=>rfl) rfl rfl rfl rfl s) ⟨rfl,trivial⟩ ?_
      refine fx rfl rfl rfl (bz rfl) ⟨rfl,trivial⟩ ?_
      refine fx rfl rfl rfl (kZ rfl) ⟨rfl,trivial⟩ ?_
      refine fx rfl rfl rfl (gx rfl gP) ⟨rfl,trivial⟩ ?_
      refine fx rfl rfl rfl (ix 1 false rfl BP rfl rfl) ⟨rfl,trivial⟩ ?_
      refine fx rfl rfl rfl (jj (t:=Ti) rfl bV (hK.sub 1 1 rfl (Nat.le_of_ble_eq_true rfl)) rfl rfl) ⟨rfl,trivial⟩ ?_
      refine fx rfl rfl rfl (Hg rfl rfl) ⟨rfl,rfl,trivial⟩ ?_
      refine CG (by kernel_rfl) dW ?_
      refine bY rfl (kx rfl) ⟨rfl,rfl,trivial⟩ ?_
      refine be ?_
      refine ax ?_
      show JC _ _ _ _ _
      refine jg rfl (fun hb=>?_) (fun hb=>?_)
      · replace h:=fe (tU hb) h
        refine cg ?_
        refine ae ?_
        refine gU rfl rfl ?_
        refine vo rfl rfl ?_
        refine be ?_
        refine ax ?_
        show JC _ _ _ _ _
        refine dw ?_
        refine oO ?_
        refine jy ?_
        refine jy ?_
        refine oO ?_
        refine jy ?_
        obtain rfl:=hR _ h
        exact aM () [_] 0 ⟨rfl,trivial⟩ rfl
      · replace h:=cS (tV hb) h
        refine je ?_
        refine gC ?_
        refine ax ?_
        show JC _ _ _ _ _
        refine ae ?_
        obtain⟨x,j,h⟩:=aa h
        refine bY rfl (bA rfl j) ⟨rfl,rfl,trivial⟩ ?_
        refine gU rfl rfl ?_
        refine be ?_
        refine ax ?_
        exact vp ((),x) h (SE.fin [0] ⟨rfl,rfl,rfl,rfl,rfl,trivial⟩ rfl)
    · replace h:=cS (tV hb) h
      refine yu ?_
      refine mM ?_
      refine mM ?_
      refine qz ?_
      refine ax ?_
      exact vp ((),()) h (SE.fin [] trivial rfl)
  ·
    refine cg ?_
    refine ae ?_
    refine D9 rfl ?_
    refine be ?_
    refine ax ?_
    show JC _ _ _ _ _
    refine dw ?_
    obtain rfl:=Option.some.inj h
    exact aM () [_] 0 ⟨rfl,trivial⟩ rfl
def ce(k:Nat)(a0:ag)(a1:(List Int))(a2:Int):Nat→((List Int)×Int)→Option (List Int)
 |0,_=>none
 |n+1,y6=>
  if y6.2 < a0.1 then((((dR k k a0 y6.2 a2).bind fun c=>
  if J3 c=true then(if a0.2.2.2.1≤(PS c) then((cF (0≤y6.2∧y6.2 < 5)).bind fun _=>
  some (List.set y6.1 (Int.toNat y6.2) (-1:Int))) else(some y6.1)) else(if¬(J3 c=true) then((cF (0≤y6.2∧y6.2 < 5)).bind fun _=>
  (aO a1 y6.2).bind fun l=>
  if 0≤l then((cF (0≤y6.2∧y6.2 < 5)).bind fun _=>
  (aO a1 y6.2).bind fun j=>
  (ck (j+1)).bind fun h=>
  (cF (0≤y6.2∧y6.2 < 5)).bind fun _=>
  some (List.set y6.1 (Int.toNat y6.2) h)) else((di k a0 a1 y6.2 a2).bind fun r=>
  if 0≤r then((cF (0≤y6.2∧y6.2 < 5)).bind fun _=>
  some (List.set y6.1 (Int.toNat y6.2) 0)) else(some y6.1))) else(some y6.1))):Option ((List Int))).bind fun x8=>
  (ck (y6.2+1)).bind fun e=>
  ce k a0 a1 a2 n (x8,e)) else(some y6.1)
def gz(k:Nat)(a0:ag)(a1:(List Int))(a2:Int):Option (List Int):=
 ((ce k a0 a1 a2 k (a1,0)):Option ((List Int))).bind fun x4=>
 some x4
theorem qX{M:Md Tryz.prog}{bm:Nat}{c0 c1 c2 c3 c4 c5:Value}(hK:Kn M bm 0 [c0,c1,c2,c3,c4,c5])(k:Nat)(a0:ag)(a1:(List Int))(a2:Int)(r:(List Int))(h:gz k a0 a1 a2=some r):
 bQ M 76 [.rep (.mo (Pv bm) [c0,c1,c2,c3,c4,c5] aj) a0,.rep Tr a1,I a2] [] (fun _:Unit=>(bv [.rep Tr r],[])):=by
 unfold gz at h
 replace h:=aY h
 refine bQ.of 60 Tryz.func76 rfl Tryz.ntmps76 rfl fun S w0=>?_
 refine sr ?_
 refine bx fun b1=>?_
 refine aW rfl rfl rfl (bj rfl Jm LH) trivial fun b2=>?_
 refine nt ?_
 refine sr ?_
 refine fr 1 ?_
 refine lo gV ?_
 refine aW rfl rfl rfl (bj rfl Jm LH) trivial fun b3=>?_
 refine aR rfl rfl (aP rfl gV rfl rfl rfl) ⟨rfl,rfl,trivial⟩ ?_
 refine nt ?_
 refine aI (Z:=Unit) (α:=(List Int)) (fun z5 x4=>[(6,Pt b2),(7,Pt b3)]) (fun z5 x4=>[.obj b2 75 (.rep Tr [0,0,0,0,0]),.obj b3 75 (.rep Tr x4)]) h (fun K h=>?_) (fun z5 x4 h=>?_)
 ·
  refine au ?_;refine ja (kZ rfl) ?_;refine ja (gx rfl gP) ?_;refine ja (ix 1 false rfl gX rfl rfl) ?_;refine ja (jj (t:=Ti) rfl bV (hK.sub 0 1 rfl (Nat.le_of_ble_eq_true rfl)) rfl rfl) ?_;refine fa rfl ?_;refine nt (ak (aK (fun z7 y6=>[(0,.rep (.mo (Pv bm) [c0,c1,c2,c3,c4,c5] aj) a0),(2,I a2),(4,Pt b1),(6,Pt b2),(7,Pt b3),(16,I a0.1),(17,I y6.2)]) (fun z7 y6=>[.obj b1 75 (.rep Tr a1),.obj b2 75 (.rep Tr [0,0,0,0,0]),.obj b3 75 (.rep Tr y6.1)]) (ce k a0 a1 a2) k () (a1,0) (fun _=>rfl) h (SE.fin [1,2,0] ⟨rfl,rfl,rfl,rfl,rfl,rfl,rfl,trivial⟩ rfl) (fun n z7 y6 h=>?_)));unfold ce at h;refine sr (jb (bB rfl) ?_);refine au ?_;refine ci h (fun h=>?_) (fun h=>?_)
  ·refine sk (aI (Z:=Unit) (α:=(List Int)) (fun z9 x8=>[(0,.rep (.mo (Pv bm) [c0,c1,c2,c3,c4,c5] aj) a0),(2,I a2),(4,Pt b1),(6,Pt b2),(7,Pt b3),(16,I a0.1),(17,I y6.2)]) (fun z9 x8=>[.obj b1 75 (.rep Tr a1),.obj b2 75 (.rep Tr [0,0,0,0,0]),.obj b3 75 (.rep Tr x8)]) h (fun K h=>?_) (fun z9 x8 h=>?_))
   ·refine ak (au ?_);obtain⟨U,F,h⟩:=aa h;refine jc (aJ [.tmp 20,.tmp 21,.tmp 22] rfl rfl Im rfl (lj hK k k a0 y6.2 a2 U F)) ?_;refine nt (ak (sr (bY rfl (C3 rfl Gu (by decide)) ⟨rfl,trivial⟩ ?_)));refine au ?_;refine cv h (fun h=>?_) (fun h=>?_)
    ·refine sr (aW rfl rfl rfl (bj rfl FO M9) trivial fun zz=>?_);refine aR rfl rfl (aP rfl MO trivial rfl rfl) ⟨rfl,rfl,trivial⟩ ?_;refine au ?_;refine cK ?_;refine da (aG rfl Dw) ?_;refine ea 0 (aA rfl bV nJ rfl) ?_;refine dm ?_;refine da (kZ rfl) ?_;refine da (gx rfl gP) ?_;refine da (ix 1 false rfl Ig rfl rfl) ?_;refine da (jj (t:=Ti) rfl bV (hK.sub 3 1 rfl (Nat.le_of_ble_eq_true rfl)) rfl rfl) ?_;refine df dW ?_;refine jb (kx rfl) ?_;refine nt (ci h (fun h=>?_) (fun h=>?_))
     ·refine ae (mq ?_);obtain⟨mw,j,h⟩:=aa h;refine jb (dI rfl An bV (ao j).1 (ao j).2) ?_;refine fr 3 ?_;refine aR rfl rfl (gr (t:=Ti) (off:=0) (i:=y6.2) (N:=5) rfl bV .int rfl rfl rfl rfl (ao j).1 (ao j).2 rfl) ⟨rfl,rfl,trivial⟩ ?_;refine au ?_;exact jz ((),List.set y6.1 (Int.toNat y6.2) (-1:Int)) h [2,3,0]
     ·refine au ?_;exact jz ((),y6.1) h [1,2,3]
    ·refine sr (bY rfl (Ku rfl NA (by decide)) ⟨rfl,trivial⟩ ?_);refine au ?_;refine cw h (fun h=>?_) (fun h=>?_)
     ·refine sr (aW rfl rfl rfl (bj rfl MC Q3) trivial fun qt=>?_);refine aR rfl rfl (aP rfl PN trivial rfl rfl) ⟨rfl,rfl,trivial⟩ ?_;refine au ?_;obtain⟨mc,s,h⟩:=aa h;refine jb (dI rfl An bV (ao s).1 (ao s).2) ?_;obtain⟨Y,D,h⟩:=aa h;refine fr 1 ?_;refine ka (mY (t:=Ti) (off:=0) (i:=y6.2) (N:=5) rfl bV (fun _=>rfl) rfl rfl rfl rfl D) ?_;refine jb (kx rfl) ?_;refine nt (ci h (fun h=>?_) (fun h=>?_))
      ·refine ae (au ?_);obtain⟨u16,l,h⟩:=aa h;refine jb (dI rfl An bV (ao l).1 (ao l).2) ?_;obtain⟨X,y,h⟩:=aa h;refine ka (mY (t:=Ti) (off:=0) (i:=y6.2) (N:=5) rfl bV (fun _=>rfl) rfl rfl rfl rfl y) ?_;obtain⟨O,x,h⟩:=aa h;refine jb (bA rfl x) ?_;obtain⟨gw,e,h⟩:=aa h;refine jb (dI rfl An bV (ao e).1 (ao e).2) ?_;refine fr 3 ?_;refine aR rfl rfl (gr (t:=Ti) (off:=0) (i:=y6.2) (N:=5) rfl bV .int rfl rfl rfl rfl (ao e).1 (ao e).2 rfl) ⟨rfl,rfl,trivial⟩ ?_;refine au ?_;exact jz ((),List.set y6.1 (Int.toNat y6.2) O) h [1,3,0]
      ·refine au ?_;refine lo gV ?_;refine au ?_;obtain⟨Q,E,h⟩:=aa h;refine bY rfl (aJ [.tmp 50,.tmp 51,.tmp 52,.tmp 53] rfl rfl Qz rfl (jO hK k a0 a1 y6.2 a2 Q E)) ⟨rfl,rfl,rfl,rfl,trivial⟩ ?_;refine jb (kx rfl) ?_;refine nt (ci h (fun h=>?_) (fun h=>?_))
       ·refine ae (mq ?_);obtain⟨gq,c,h⟩:=aa h;refine jb (dI rfl An bV (ao c).1 (ao c).2) ?_;refine fr 3 ?_;refine aR rfl rfl (gr (t:=Ti) (off:=0) (i:=y6.2) (N:=5) rfl bV .int rfl rfl rfl rfl (ao c).1 (ao c).2 rfl) ⟨rfl,rfl,trivial⟩ ?_;refine au ?_;exact jz ((),List.set y6.1 (Int.toNat y6.2) 0) h [1,3,0]
       ·refine au ?_;exact jz ((),y6.1) h [0,2,3]
     ·refine au ?_;exact jz ((),y6.1) h [0,1,2]
   ·refine ae ?_;obtain⟨J,u,h⟩:=aa h;refine jb (bA rfl u) ?_;refine au ?_;exact jz ((),(x8,J)) h [0,1,2]
  ·refine au ?_;exact jz ((),y6.1) h [1,2]
 ·
  refine sr (fr 1 ?_);refine lo gV ?_;refine fr 1 ?_;refine aR rfl rfl (aP rfl gV rfl rfl rfl) ⟨rfl,rfl,trivial⟩ ?_;refine au ?_;obtain rfl:=Option.some.inj h;exact aM () [.rep Tr x4] 0 ⟨⟨_,_,_,_,_,rfl,(.head _),gV,(qV),rfl⟩,trivial⟩ rfl
def hH(k:Nat)(a0:List Int):Option (List Int):=
 (cF (bK (List.length a0))).bind fun _=>some a0
theorem rP(k:Nat)(a0:List Int)(r:List Int)(h:hH k a0=some r):
 de Tryz.prog 36 [.rep Tl a0] [] (fun z:Value=>(bv [.eq z],[.sl z 3 Ti r])):=by
 unfold hH at h
 replace h:=aY h
 refine de.of 8 Tryz.func36 rfl Tryz.ntmps36 rfl fun S w0=>?_
 obtain⟨u1,c,h⟩:=aa h
 cases h
 refine sr ?_
 refine cq ?_
 refine nt ?_
 refine cg ?_
 refine sr ?_
 refine mq ?_
 refine aD (Δ:=[]) (F:=_) (fun _ _ _=>ab rfl _) rfl rfl (Ks rfl iu) ⟨rfl,rfl,trivial⟩ fun b=>?_
 refine nt ?_
 refine jg rfl (fun hb=>?_) (fun hb=>?_)
 ·
  refine sr (cq (nt (rx ?_)));obtain rfl:=b.2 hb;refine bL (SE.nil 3 Ti) ?_;exact aM (.slice none 0 0) [.eq (.slice none 0 0)] 1 ⟨rfl,trivial⟩ rfl
 ·
  refine au ?_;refine aW rfl rfl rfl (jk (t:=Ti) [] [] rfl rfl dG .nil rfl rfl) trivial fun v1=>?_;refine mq ?_;refine dU rfl rfl rfl (cj rfl rfl dG (by simpa using ao c)) ⟨rfl,rfl,trivial⟩ fun v2=>?_;refine au ?_;exact aM v2 [.eq v2] 1 ⟨rfl,trivial⟩ rfl
def dq(k:Nat)(a0:(List Int))(a1:(List Int)):Nat→Int→Option (Except Bool Unit)
 |0,_=>none
 |n+1,y3=>
  if y3 < (a0.length:Int) then((aO a0 y3).bind fun x5=>
  (aO a1 y3).bind fun x6=>
  if¬(x5=x6) then(some (.error false)) else((ck (y3+1)).bind fun x7=>
  dq k a0 a1 n x7)) else(some (.ok ()))
def eW(k:Nat)(a0:(List Int))(a1:(List Int)):Option Bool:=
 if¬((a0.length:Int)=(a1.length:Int)) then(some false) else(bE (α:=Unit) (dq k a0 a1 k 0) (some) fun _=>
 some true)
theorem ir(k:Nat)(a0:(List Int))(a1:(List Int))(r:Bool)(h:eW k a0 a1=some r):
 de Tryz.prog 19 [.rep Tl a0,.rep Tl a1] [] (fun _:Unit=>(bv [.eq (.bool r)],[])):=by
 unfold eW at h
 replace h:=aY h
 refine de.of 26 Tryz.func19 rfl Tryz.ntmps19 rfl fun S w0=>?_
 refine au ?_
 refine ol iu ?_
 refine mq ?_
 refine ol iu ?_
 refine jb (fh rfl) ?_
 refine nt ?_
 refine cn h (fun h=>?_) (fun h=>?_)
 ·
  refine au ?_;cases h;exact ra
 ·
  refine sk (dx (Z:=Unit) (α:=Unit) (fun z2 x1=>[]) (fun z2 x1=>[]) (fun e=>e=r) h (fun e h=>Option.some.inj h) (fun K hR h=>?_) (fun z2 x1 h=>?_))
  ·refine au ?_;refine ak (aK (fun z4 y3=>[(0,.rep Tl a0),(1,.rep Tl a1),(5,I y3)]) (fun z4 y3=>[]) (dq k a0 a1) k () 0 (fun _=>rfl) h (SE.fin [] ⟨rfl,rfl,rfl,trivial⟩ rfl) (fun n z4 y3 h=>?_));unfold dq at h;refine au ?_;refine ol iu ?_;refine jb (bB rfl) ?_;refine nt (ci h (fun h=>?_) (fun h=>?_))
   ·refine au ?_;refine ak (cg (cK ?_));refine dm ?_;refine dm ?_;obtain⟨x5,l,h⟩:=aa h;refine db (aS (t:=Ti) rfl iu bV l) ?_;refine da (av (t:=Ti) rfl bV rfl) ?_;refine dm ?_;refine dm ?_;obtain⟨x6,j,h⟩:=aa h;refine db (aS (t:=Ti) rfl iu bV j) ?_;refine da (av (t:=Ti) rfl bV rfl) ?_;refine df dW ?_;refine jb (fh rfl) ?_;refine nt (cn h (fun h=>?_) (fun h=>?_))
    ·refine au ?_;obtain rfl:=hR _ h;exact ra
    ·refine au ?_;refine ae (mq ?_);obtain⟨x7,c,h⟩:=aa h;refine jb (bA rfl c) ?_;refine au ?_;exact jz ((),x7) h []
   ·refine au ?_;exact jz ((),()) h []
  ·refine au ?_;cases h;exact ra
def c6(k:Nat)(a0:(List (List Int)))(a1:(List (List Int))):Nat→Int→Option (Except Bool Unit)
 |0,_=>none
 |n+1,y3=>
  if y3 < (a0.length:Int) then((aO a0 y3).bind fun x5=>
  (aO a1 y3).bind fun x6=>
  (eW k x5 x6).bind fun r7=>
  if¬(r7=true) then(some (.error false)) else((ck (y3+1)).bind fun x8=>
  c6 k a0 a1 n x8)) else(some (.ok ()))
def ee(k:Nat)(a0:(List (List Int)))(a1:(List (List Int))):Option Bool:=
 if¬((a0.length:Int)=(a1.length:Int)) then(some false) else(bE (α:=Unit) (c6 k a0 a1 k 0) (some) fun _=>
 some true)
theorem jr(k:Nat)(a0:(List (List Int)))(a1:(List (List Int)))(r:Bool)(h:ee k a0 a1=some r):
 de Tryz.prog 17 [.rep (.slice Tl) a0,.rep (.slice Tl) a1] [] (fun _:Unit=>(bv [.eq (.bool r)],[])):=by
 unfold ee at h
 replace h:=aY h
 refine de.of 27 Tryz.func17 rfl Tryz.ntmps17 rfl fun S w0=>?_
 refine au ?_
 refine ol qy ?_
 refine mq ?_
 refine ol qy ?_
 refine jb (fh rfl) ?_
 refine nt ?_
 refine cn h (fun h=>?_) (fun h=>?_)
 ·
  refine au ?_;cases h;exact ra
 ·
  refine sk (dx (Z:=Unit) (α:=Unit) (fun z2 x1=>[]) (fun z2 x1=>[]) (fun e=>e=r) h (fun e h=>Option.some.inj h) (fun K hR h=>?_) (fun z2 x1 h=>?_))
  ·refine au ?_;refine ak (aK (fun z4 y3=>[(0,.rep (.slice Tl) a0),(1,.rep (.slice Tl) a1),(5,I y3)]) (fun z4 y3=>[]) (c6 k a0 a1) k () 0 (fun _=>rfl) h (SE.fin [] ⟨rfl,rfl,rfl,trivial⟩ rfl) (fun n z4 y3 h=>?_));unfold c6 at h;refine au ?_;refine ol qy ?_;refine jb (bB rfl) ?_;refine nt (ci h (fun h=>?_) (fun h=>?_))
   ·refine au ?_;refine ak (cg (cK ?_));refine dm ?_;refine dm ?_;obtain⟨x5,l,h⟩:=aa h;refine db (aS (t:=Tl) rfl qy gh l) ?_;refine da (av (t:=Tl) rfl gh rfl) ?_;refine dm ?_;refine dm ?_;obtain⟨x6,j,h⟩:=aa h;refine db (aS (t:=Tl) rfl qy gh j) ?_;refine da (av (t:=Tl) rfl gh rfl) ?_;refine df dW ?_;obtain⟨r7,s,h⟩:=aa h;refine jb (ay [.tmp 20,.tmp 24] rfl rfl Le rfl (ir k x5 x6 r7 s)) ?_;refine ja (iE rfl) ?_;refine nt (cw h (fun h=>?_) (fun h=>?_))
    ·refine au ?_;obtain rfl:=hR _ h;exact ra
    ·refine au ?_;refine ae (mq ?_);obtain⟨x8,c,h⟩:=aa h;refine jb (bA rfl c) ?_;refine au ?_;exact jz ((),x8) h []
   ·refine au ?_;exact jz ((),()) h []
  ·refine au ?_;cases h;exact ra
def cZ{σ:Type}(k:Nat)(a0:Int)(a3:Int)(self:Int→Int→σ→Option (Bool×σ)):Nat→(Int×σ)→Option (Except (Bool×σ) (σ))
 |0,_=>none
 |n+1,y5=>
  if y5.1 < a3 then((fL k a0 y5.1).bind fun r7=>
  (ck (y5.1+1)).bind fun x8=>
  (self r7 x8 y5.2).bind fun r9=>
  if¬(r9.1=true) then(some (.error (false,r9.2))) else((ck (y5.1+1)).bind fun c=>
  cZ k a0 a3 self n (c,r9.2))) else(some (.ok y5.2))
def dh{σ:Type}(k:Nat)(Y:σ→Int→Option (σ×Bool))(a3:Int):Nat→Int→Int→σ→Option (Bool×σ)
 |0,_,_,_=>none
 |m0+1,a0,a1,s0=>
  (Y s0 a0).bind fun r1=>
  if¬(r1.2=true) then(some (false,r1.1)) else(bE (α:=σ) (cZ k a0 a3 (dh k Y a3 m0) k (a1,r1.1)) (some) fun x3=>
  some (true,x3))
theorem sf{M:Md Tryz.prog}{σ Z:Type}(E:Z→σ→List D)(l:Nat)(Y:σ→Int→Option (σ×Bool))(k:Nat)(u:Nat)(a3:Int)(j:Nat)(c:Nat)(hY:∀z s p r,Y s p=some r→YT M l [.eq (.int .u8 p)] (E z s) (fun z':Z=>(.eq (.bool r.2),E z' r.1))):
 ∀(n:Nat) (a0:Int) (a1:Int) (z0:Z) (s0:σ) (r:Bool×σ),dh k Y a3 n a0 a1 s0=some r→bQ M 92 [.eq (.int .u8 a0),I a1,Pt u,Pt j,Pt c] ([.obj u 109 (.eq (.func (.yield l) #[] #[])),.obj j 3 (I a3),.obj c 108 (.eq (.func (.func 92) #[] #[(Pv u),(Pv j),(Pv c)]))]++E z0 s0) (fun z:Z=>(bv [.eq (.bool r.1)],[.obj u 109 (.eq (.func (.yield l) #[] #[])),.obj j 3 (I a3),.obj c 108 (.eq (.func (.func 92) #[] #[(Pv u),(Pv j),(Pv c)]))]++E z r.2)):=by
 intro n
 induction n with
 |zero=>intro a0 a1 z0 s0 r h;cases h
 |succ m0 ih=>
  intro a0 a1 z0 s0 r h;rw [dh] at h;replace h:=aY h;refine bQ.of 27 Tryz.func92 rfl Tryz.ntmps92 rfl fun S w0=>?_;refine au ?_;refine lo PO ?_;refine mq ?_;obtain⟨r1,U,h⟩:=aa h;refine fr 2 ?_;refine fr 2 ?_;refine fr 2 ?_;refine IY [.obj u 109 (.eq (.func (.yield l) #[] #[])),.obj j 3 (I a3),.obj c 108 (.eq (.func (.func 92) #[] #[(Pv u),(Pv j),(Pv c)]))] rfl rfl rfl (J7 [.tmp 10] rfl rfl rfl (hY z0 s0 a0 r1 U)) ⟨rfl,rfl,trivial⟩ fun z2=>?_;refine ja (iE rfl) ?_;refine nt (cw h (fun h=>?_) (fun h=>?_))
  ·refine au ?_;cases h;exact tY z2 [_] ⟨rfl,trivial⟩ rfl
  ·refine sk (dx (Z:=Z) (α:=σ) (fun z4 x3=>[]) (fun z4 x3=>[.obj u 109 (.eq (.func (.yield l) #[] #[])),.obj j 3 (I a3),.obj c 108 (.eq (.func (.func 92) #[] #[(Pv u),(Pv j),(Pv c)]))]++E z4 x3) (fun e=>e=r) h (fun e h=>Option.some.inj h) (fun K hR h=>?_) (fun z4 x3 h=>?_))
   ·refine au ?_;refine ak (aK (Z:=Z) (α:=Int×σ) (fun z6 y5=>[(0,.eq (.int .u8 a0)),(3,Pt j),(4,Pt c),(8,I y5.1)]) (fun z6 y5=>[.obj j 3 (I a3),.obj c 108 (.eq (.func (.func 92) #[] #[(Pv u),(Pv j),(Pv c)])),.obj u 109 (.eq (.func (.yield l) #[] #[]))]++E z6 y5.2) (cZ k a0 a3 (dh k Y a3 m0)) k z2 (a1,r1.1) (fun _=>rfl) h (kK [.obj u 109 (.eq (.func (.yield l) #[] #[])),.obj j 3 (I a3),.obj c 108 (.eq (.func (.func 92) #[] #[(Pv u),(Pv j),(Pv c)]))] (E z2 r1.1) [1,2,0] ⟨rfl,rfl,rfl,rfl,trivial⟩ rfl) (fun n z6 y5 h=>?_));unfold cZ at h;refine au ?_;refine lo bV ?_;refine jb (bB rfl) ?_;refine nt (ci h (fun h=>?_) (fun h=>?_))
    ·refine au ?_;refine ak (cg (cK ?_));refine ea 1 (aA rfl Gz nJ rfl) ?_;refine dm ?_;refine dm ?_;obtain⟨r7,Q,h⟩:=aa h;refine db (ay [.tmp 20,.tmp 21] rfl rfl OA rfl (ko k a0 y5.1 r7 Q)) ?_;refine dm ?_;obtain⟨x8,J,h⟩:=aa h;refine db (bA rfl J) ?_;refine df dW ?_;obtain⟨r9,O,h⟩:=aa h;refine fr 1 ?_;refine fr 1 ?_;refine fr 2 ?_;refine As rfl rfl rfl (qR (fs:=[]) (cs:=[(Pv u),(Pv j),(Pv c)]) (ags:=[.eq (.int .u8 r7),I x8]) [.tmp 22,.tmp 24] rfl rfl Qx rfl (ih r7 x8 z6 y5.2 r9 O)) ⟨rfl,rfl,rfl,trivial⟩ fun x=>?_;refine ja (iE rfl) ?_;refine nt (cw h (fun h=>?_) (fun h=>?_))
     ·refine au ?_;obtain rfl:=hR _ h;exact tY x [_] ⟨rfl,trivial⟩ rfl
     ·refine au ?_;refine ae (mq ?_);obtain⟨F,y,h⟩:=aa h;refine jb (bA rfl y) ?_;refine au ?_;exact vp (x,(F,r9.2)) h (kK [.obj u 109 (.eq (.func (.yield l) #[] #[])),.obj j 3 (I a3),.obj c 108 (.eq (.func (.func 92) #[] #[(Pv u),(Pv j),(Pv c)]))] (E x r9.2) [1,2,0] ⟨rfl,rfl,rfl,rfl,trivial⟩ rfl)
    ·refine au ?_;exact vp (z6,y5.2) h (kK [.obj j 3 (I a3),.obj c 108 (.eq (.func (.func 92) #[] #[(Pv u),(Pv j),(Pv c)])),.obj u 109 (.eq (.func (.yield l) #[] #[]))] (E z6 y5.2) [2,0,1] trivial rfl)
   ·refine au ?_;cases h;exact tY z4 [_] ⟨rfl,trivial⟩ rfl
def jP{σ:Type}(k:Nat)(Y:σ→Int→Option (σ×Bool))(a1:Int)(s0:σ):Option (σ):=
 (dh k Y a1 k 0 0 s0).bind fun r3=>
 some r3.2
theorem ov{M:Md Tryz.prog}{σ Z:Type}(E:Z→σ→List D)(l:Nat)(Y:σ→Int→Option (σ×Bool))(k:Nat)(a1:Int)(c:Nat)(hY:∀z s p r,Y s p=some r→YT M l [.eq (.int .u8 p)] (E z s) (fun z':Z=>(.eq (.bool r.2),E z' r.1))):
 ∀(z0:Z) (s0:σ) (r:σ),jP k Y a1 s0=some r→bQ M 91 [.eq (.func (.yield l) #[] #[]),Pt c] ([.obj c 3 (I a1)]++E z0 s0) (fun z:Z=>(bv [],[.obj c 3 (I a1)]++E z r)):=by
 intro z0 s0 r h
 unfold jP at h
 replace h:=aY h
 refine bQ.of 7 Tryz.func91 rfl Tryz.ntmps91 rfl fun S w0=>?_
 refine sr ?_
 refine bx fun b1=>?_
 refine au ?_
 refine aW rfl rfl rfl (bj rfl Pz Q4) trivial fun b2=>?_
 refine au ?_
 refine jc (pT [] [.tmp 2,.tmp 1,.tmp 3] [] [(Pv b1),(Pv c),(Pv b2)] rfl rfl rfl) ?_
 refine aR rfl rfl (aP rfl Gz rfl rfl rfl) ⟨rfl,rfl,trivial⟩ ?_
 refine nt ?_
 refine ae ?_
 refine lo Gz ?_
 obtain⟨r3,e,h⟩:=aa h
 have j:=sf E l Y k b1 a1 c b2 hY k 0 0 z0 s0 r3 e
 refine fr 2 ?_
 refine fr 2 ?_
 refine As rfl rfl rfl (qR (fs:=[]) (cs:=[(Pv b1),(Pv c),(Pv b2)]) (ags:=[.eq (.int .u8 0),I 0]) [.const (.int .u8 (0)),.const (.int .i64 (0))] rfl rfl Qx rfl j) ⟨rfl,rfl,rfl,trivial⟩ fun z4=>?_
 refine be ?_
 refine j8 ?_
 refine bL (kK (Γ':=[]) [.obj b1 109 (.eq (.func (.yield l) #[] #[])),.obj c 3 (I a1),.obj b2 108 (.eq (.func (.func 92) #[] #[(Pv b1),(Pv c),(Pv b2)]))] (E z4 r3.2) [1] trivial rfl) ?_
 cases h
 exact tY z4 [] trivial rfl
theorem qZ(a0:Int):de Tryz.prog 64 [I a0] [] (fun z:Nat=>(bv [.eq (.func (.func 91) #[] #[(Pv z)])],[.obj z 3 (I a0)])):=by
 refine de.of 4 Tryz.func64 rfl Tryz.ntmps64 rfl fun S w0=>?_;refine sr (bx fun z=>?_);refine au ?_;refine ja (pT [] [.tmp 1] [] [(Pv z)] rfl rfl rfl) ?_;refine au ?_;exact aM z [_] 1 ⟨rfl,trivial⟩ rfl
def dk(k:Nat)(a0:Int):Nat→((List Int)×Int)→Option (List Int)
 |0,_=>none
 |n+1,y3=>
  if y3.2 < 5 then((((eP k a0 y3.2).bind fun r7=>
  if r7=true then((cF (bK (List.length y3.1+List.length [y3.2]))).bind fun _=>
  some (y3.1++[y3.2])) else(some y3.1)):Option ((List Int))).bind fun x5=>
  (ck (y3.2+1)).bind fun c=>
  dk k a0 n (x5,c)) else(some y3.1)
def dX(k:Nat)(a0:Int):Option (List Int):=
 ((dk k a0 k (([]:(List Int)),0)):Option ((List Int))).bind fun x1=>
 some x1
theorem fU(k:Nat)(a0:Int)(r:(List Int))(h:dX k a0=some r):
 de Tryz.prog 46 [.eq (.int .u8 a0)] [] (fun _:Unit=>(bv [.rep Tl r],[])):=by
 unfold dX at h
 replace h:=aY h
 refine de.of 17 Tryz.func46 rfl Tryz.ntmps46 rfl fun S w0=>?_
 refine sr ?_
 refine cq ?_
 refine nt ?_
 refine sr ?_
 refine cq ?_
 refine nt ?_
 refine aI (Z:=Value) (α:=(List Int)) (fun z2 x1=>[(3,.eq z2)]) (fun z2 x1=>[.sl z2 3 Ti x1]) h (fun K h=>?_) (fun z2 x1 h=>?_)
 ·
  refine sr (fa rfl ?_);refine nt (ak (jf (SE.nil 3 Ti) ?_));refine aK (fun z4 y3=>[(0,.eq (.int .u8 a0)),(3,.eq z4),(5,I y3.2)]) (fun z4 y3=>[.sl z4 3 Ti y3.1]) (dk k a0) k (.slice none 0 0) (([]:(List Int)),0) (fun _=>rfl) h (SE.fin [0] ⟨rfl,rfl,rfl,trivial⟩ rfl) (fun n z4 y3 h=>?_);unfold dk at h;refine sr (jb (bB rfl) ?_);refine au ?_;refine ci h (fun h=>?_) (fun h=>?_)
  ·refine sk (aI (Z:=Value) (α:=(List Int)) (fun z6 x5=>[(0,.eq (.int .u8 a0)),(3,.eq z6),(5,I y3.2)]) (fun z6 x5=>[.sl z6 3 Ti x5]) h (fun K h=>?_) (fun z6 x5 h=>?_))
   ·refine ak (au ?_);obtain⟨r7,l,h⟩:=aa h;refine jb (ay [.tmp 8,.tmp 9] rfl rfl Ik rfl (gy k a0 y3.2 r7 l)) ?_;refine nt (cv h (fun h=>?_) (fun h=>?_))
    ·refine ae (au ?_);refine ja (bg (t:=Ti) [(.tmp 12,_)] [y3.2] rfl rfl dG (.cons rfl .int .nil) rfl rfl) ?_;obtain⟨u8,j,h⟩:=aa h;refine dU rfl rfl rfl (cj rfl rfl dG (ao j)) ⟨rfl,rfl,trivial⟩ fun v9=>?_;refine au ?_;exact jz (v9,y3.1++[y3.2]) h [0]
    ·refine au ?_;exact jz (z4,y3.1) h [0]
   ·refine ae ?_;obtain⟨e,c,h⟩:=aa h;refine jb (bA rfl c) ?_;refine au ?_;exact jz (z6,(x5,e)) h [0]
  ·refine au ?_;exact jz (z4,y3.1) h [0]
 ·
  refine sr (mq ?_);refine aq (nt (dw ?_));refine bL (gZ [2,3,16] ⟨rfl,rfl,rfl,trivial⟩) ?_;cases h;exact ra
def lq(k:Nat)(a0:Int)(a1:Int)(a2:Bool):Option bu:=
 some (a0,a1,a2)
theorem l8(k:Nat)(a0:Int)(a1:Int)(a2:Bool)(r:bu)(h:lq k a0 a1 a2=some r):
 de Tryz.prog 57 [I a0,I a1,.eq (.bool a2)] [] (fun _:Unit=>(bv [.rep aZ r],[])):=by
 unfold lq at h
 replace h:=aY h
 refine de.of 11 Tryz.func57 rfl Tryz.ntmps57 rfl fun S w0=>?_
 refine sr ?_
 refine aW rfl rfl rfl (bj rfl AO IE) trivial fun b1=>?_
 refine au ?_
 refine jc (dV [(0,.tmp 7,_),(1,.tmp 8,_),(2,.tmp 9,_)] rfl PT AO M6 (jK ⟨rfl,rfl,rfl,trivial⟩) rfl) ?_
 refine aR rfl rfl (aP rfl qI trivial rfl rfl) ⟨rfl,rfl,trivial⟩ ?_
 refine nt ?_
 refine dw ?_
 refine bL (iv (a:=.agg (.pair (I a0) (.pair (I a1) (.eq (.bool a2))))) (a':=.rep aZ (a0,a1,a2)) (jB (.agg (.pair .int (.pair .int .bool))))) ?_
 cases h
 exact aM () [.rep aZ (a0,a1,a2)] 0 ⟨⟨_,_,_,_,_,rfl,(.head _),qI,(qV),rfl⟩,trivial⟩ rfl
def iH(k:Nat)(a0:(List bu)):Option ag:=
 (lq k 1 2 true).bind fun r2=>
 (lq k 2 1 false).bind fun r3=>
 (lq k 3 3 false).bind fun r4=>
 (cF (bK (List.length [r2,r3,r4]+List.length a0))).bind fun _=>
 some (4,1,1,2,[[[0,1,2],[3]],[[0,1],[2,3]],[[1,2,3]],[[1,3],[2]]],[r2,r3,r4]++a0)
theorem gK(k:Nat)(a0:(List bu))(r:ag)(h:iH k a0=some r):
 de Tryz.prog 27 [Rs aZ a0] [] (fun _:Unit=>(bv [.rep aj r],[])):=by
 unfold iH at h
 replace h:=aY h
 refine de.of 24 Tryz.func27 rfl Tryz.ntmps27 rfl fun S w0=>?_
 refine sr ?_
 refine aW rfl rfl rfl (bj rfl yB E9) trivial fun b1=>?_
 refine au ?_
 obtain⟨r2,l,h⟩:=aa h
 have u:=l8 k 1 2 true r2 l
 refine jc (ay [.const (.int .i64 (1)),.const (.int .i64 (2)),.const (.bool true)] rfl rfl OB rfl u) ?_
 obtain⟨r3,j,h⟩:=aa h
 have s:=l8 k 2 1 false r3 j
 refine jc (ay [.const (.int .i64 (2)),.const (.int .i64 (1)),.const (.bool false)] rfl rfl OB rfl s) ?_
 obtain⟨r4,e,h⟩:=aa h
 have n:=l8 k 3 3 false r4 e
 refine jc (ay [.const (.int .i64 (3)),.const (.int .i64 (3)),.const (.bool false)] rfl rfl OB rfl n) ?_
 refine aW rfl rfl rfl (jk (t:=aZ) [(.tmp 4,_),(.tmp 5,_),(.tmp 6,_)] [r2,r3,r4] rfl rfl JW (.cons rfl .rep (.cons rfl .rep (.cons rfl .rep .nil))) rfl rfl) ⟨rfl,rfl,rfl,trivial⟩ fun v5=>?_
 refine au ?_
 refine jc (bg (t:=Ti) [(.const (.int .i64 (0)),_),(.const (.int .i64 (1)),_),(.const (.int .i64 (2)),_)] [0,1,2] rfl rfl dG (.cons rfl .int (.cons rfl .int (.cons rfl .int .nil))) rfl rfl) ?_
 refine ja (bg (t:=Ti) [(.const (.int .i64 (3)),_)] [3] rfl rfl dG (.cons rfl .int .nil) rfl rfl) ?_
 refine jb (bg (t:=Tl) [(.tmp 8,_),(.tmp 9,_)] [[0,1,2],[3]] rfl rfl my (.cons rfl .rep (.cons rfl .rep .nil)) rfl rfl) ?_
 refine jb (bg (t:=Ti) [(.const (.int .i64 (0)),_),(.const (.int .i64 (1)),_)] [0,1] rfl rfl dG (.cons rfl .int (.cons rfl .int .nil)) rfl rfl) ?_
 refine jb (bg (t:=Ti) [(.const (.int .i64 (2)),_),(.const (.int .i64 (3)),_)] [2,3] rfl rfl dG (.cons rfl .int (.cons rfl .int .nil)) rfl rfl) ?_
 refine jb (bg (t:=Tl) [(.tmp 11,_),(.tmp 12,_)] [[0,1],[2,3]] rfl rfl my (.cons rfl .rep (.cons rfl .rep .nil)) rfl rfl) ?_
 refine jc (bg (t:=Ti) [(.const (.int .i64 (1)),_),(.const (.int .i64 (2)),_),(.const (.int .i64 (3)),_)] [1,2,3] rfl rfl dG (.cons rfl .int (.cons rfl .int (.cons rfl .int .nil))) rfl rfl) ?_
 refine ja (bg (t:=Tl) [(.tmp 14,_)] [[1,2,3]] rfl rfl my (.cons rfl .rep .nil) rfl rfl) ?_
 refine jb (bg (t:=Ti) [(.const (.int .i64 (1)),_),(.const (.int .i64 (3)),_)] [1,3] rfl rfl dG (.cons rfl .int (.cons rfl .int .nil)) rfl rfl) ?_
 refine ja (bg (t:=Ti) [(.const (.int .i64 (2)),_)] [2] rfl rfl dG (.cons rfl .int .nil) rfl rfl) ?_
 refine jb (bg (t:=Tl) [(.tmp 16,_),(.tmp 17,_)] [[1,3],[2]] rfl rfl my (.cons rfl .rep (.cons rfl .rep .nil)) rfl rfl) ?_
 refine bY rfl (bg (t:=(.slice Tl)) [(.tmp 10,_),(.tmp 13,_),(.tmp 15,_),(.tmp 18,_)] [[[0,1,2],[3]],[[0,1],[2,3]],[[1,2,3]],[[1,3],[2]]] rfl rfl A4 (.cons rfl .rep (.cons rfl .rep (.cons rfl .rep (.cons rfl .rep .nil)))) rfl rfl) ⟨rfl,rfl,rfl,rfl,trivial⟩ ?_
 refine au ?_
 obtain⟨u6,c,h⟩:=aa h
 refine dU rfl rfl rfl (cj rfl rfl JW (ao c)) ⟨rfl,rfl,trivial⟩ fun v7=>?_
 refine eC (gZ [22] ⟨rfl,trivial⟩) ?_
 refine bY rfl (dV [(0,.const (.int .i64 (4)),_),(1,.const (.int .i64 (1)),_),(2,.const (.int .i64 (1)),_),(3,.const (.int .i64 (2)),_),(4,.tmp 19,_),(5,.tmp 22,_)] rfl PU yB M7 (jK ⟨rfl,rfl,rfl,rfl,rfl,rfl,trivial⟩) rfl) ⟨rfl,rfl,rfl,rfl,rfl,rfl,trivial⟩ ?_
 refine aR rfl rfl (aP rfl g9 trivial rfl rfl) ⟨rfl,rfl,trivial⟩ ?_
 refine nt ?_
 refine dw ?_
 refine bL (iv (a:=.agg (.pair (I 4) (.pair (I 1) (.pair (I 1) (.pair (I 2) (.pair (.rep (.slice (.slice Tl)) [[[0,1,2],[3]],[[0,1],[2,3]],[[1,2,3]],[[1,3],[2]]]) (Rs aZ ([r2,r3,r4]++a0)))))))) (a':=.rep aj (4,1,1,2,[[[0,1,2],[3]],[[0,1],[2,3]],[[1,2,3]],[[1,3],[2]]],[r2,r3,r4]++a0)) (jB (.agg (.pair .int (.pair .int (.pair .int (.pair .int (.pair .rep .rep)))))))) ?_
 cases h
 exact aM () [.rep aj (4,1,1,2,[[[0,1,2],[3]],[[0,1],[2,3]],[[1,2,3]],[[1,3],[2]]],[r2,r3,r4]++a0)] 0 ⟨⟨_,_,_,_,_,rfl,(.head _),g9,(qV),rfl⟩,trivial⟩ rfl
def iN(k:Nat)(a0:(List Int)):Nat→(Int×Int)→Option Int
 |0,_=>none
 |n+1,y4=>
  if y4.2 < (a0.length:Int) then((aO a0 y4.2).bind fun x6=>
  (ck (y4.2+1)).bind fun x7=>
  iN k a0 n (H4 y4.1 x6,x7)) else(some y4.1)
def lK(k:Nat)(a0:(List Int)):Option Int:=
 if(a0.length:Int) < 1 then(none) else((aO a0 0).bind fun x1=>
 ((iN k a0 k (x1,1)):Option (Int)).bind fun x2=>
 some x2)
theorem nV(k:Nat)(a0:(List Int))(r:Int)(h:lK k a0=some r):
 de Tryz.prog 59 [.rep Tl a0] [] (fun _:Unit=>(bv [I r],[])):=by
 unfold lK at h
 replace h:=aY h
 refine de.of 25 Tryz.func59 rfl Tryz.ntmps59 rfl fun S w0=>?_
 refine au ?_
 refine ol iu ?_
 refine jb (bB rfl) ?_
 refine nt ?_
 refine ci h (fun h=>?_) (fun h=>?_)
 ·
  cases h
 ·
  refine au ?_;obtain⟨x1,j,h⟩:=aa h;refine jb (aS (t:=Ti) rfl iu bV j) ?_;refine ja (av (t:=Ti) rfl bV rfl) ?_;refine aq (nt ?_);refine aI (Z:=Unit) (α:=Int) (fun z3 x2=>[(3,I x2)]) (fun z3 x2=>[]) h (fun K h=>?_) (fun z3 x2 h=>?_)
  ·refine au ?_;refine ak (aK (fun z5 y4=>[(0,.rep Tl a0),(3,I y4.1),(4,I y4.2)]) (fun z5 y4=>[]) (iN k a0) k () (x1,1) (fun _=>rfl) h (SE.fin [] ⟨rfl,rfl,rfl,trivial⟩ rfl) (fun n z5 y4 h=>?_));unfold iN at h;refine au ?_;refine ol iu ?_;refine jb (bB rfl) ?_;refine nt (ci h (fun h=>?_) (fun h=>?_))
   ·refine au ?_;refine ak (ae (au ?_));obtain⟨x6,e,h⟩:=aa h;refine jb (aS (t:=Ti) rfl iu bV e) ?_;refine ja (av (t:=Ti) rfl bV rfl) ?_;refine jb (P0 rfl rfl) ?_;refine au ?_;refine ae (mq ?_);obtain⟨x7,c,h⟩:=aa h;refine jb (bA rfl c) ?_;refine au ?_;exact jz ((),(H4 y4.1 x6,x7)) h []
   ·refine au ?_;exact jz ((),y4.1) h []
  ·refine au ?_;cases h;exact ra
def iO(k:Nat)(a0:(List Int)):Nat→(Int×Int)→Option Int
 |0,_=>none
 |n+1,y4=>
  if y4.2 < (a0.length:Int) then((aO a0 y4.2).bind fun x6=>
  (ck (y4.2+1)).bind fun x7=>
  iO k a0 n (sF y4.1 x6,x7)) else(some y4.1)
def nW(k:Nat)(a0:(List Int)):Option Int:=
 if(a0.length:Int) < 1 then(none) else((aO a0 0).bind fun x1=>
 ((iO k a0 k (x1,1)):Option (Int)).bind fun x2=>
 some x2)
theorem ud(k:Nat)(a0:(List Int))(r:Int)(h:nW k a0=some r):
 de Tryz.prog 60 [.rep Tl a0] [] (fun _:Unit=>(bv [I r],[])):=by
 unfold nW at h
 replace h:=aY h
 refine de.of 25 Tryz.func60 rfl Tryz.ntmps60 rfl fun S w0=>?_
 refine au ?_
 refine ol iu ?_
 refine jb (bB rfl) ?_
 refine nt ?_
 refine ci h (fun h=>?_) (fun h=>?_)
 ·
  cases h
 ·
  refine au ?_;obtain⟨x1,j,h⟩:=aa h;refine jb (aS (t:=Ti) rfl iu bV j) ?_;refine ja (av (t:=Ti) rfl bV rfl) ?_;refine aq (nt ?_);refine aI (Z:=Unit) (α:=Int) (fun z3 x2=>[(3,I x2)]) (fun z3 x2=>[]) h (fun K h=>?_) (fun z3 x2 h=>?_)
  ·refine au ?_;refine ak (aK (fun z5 y4=>[(0,.rep Tl a0),(3,I y4.1),(4,I y4.2)]) (fun z5 y4=>[]) (iO k a0) k () (x1,1) (fun _=>rfl) h (SE.fin [] ⟨rfl,rfl,rfl,trivial⟩ rfl) (fun n z5 y4 h=>?_));unfold iO at h;refine au ?_;refine ol iu ?_;refine jb (bB rfl) ?_;refine nt (ci h (fun h=>?_) (fun h=>?_))
   ·refine au ?_;refine ak (ae (au ?_));obtain⟨x6,e,h⟩:=aa h;refine jb (aS (t:=Ti) rfl iu bV e) ?_;refine ja (av (t:=Ti) rfl bV rfl) ?_;refine jb (Hg rfl rfl) ?_;refine au ?_;refine ae (mq ?_);obtain⟨x7,c,h⟩:=aa h;refine jb (bA rfl c) ?_;refine au ?_;exact jz ((),(sF y4.1 x6,x7)) h []
   ·refine au ?_;exact jz ((),y4.1) h []
  ·refine au ?_;cases h;exact ra
def fG(k:Nat):Nat→((List Int)×Int×Int)→Option (List Int)
 |0,_=>none
 |n+1,y2=>
  if y2.2.1 < y2.2.2 then((aO y2.1 y2.2.2).bind fun x4=>
  (aO y2.1 y2.2.1).bind fun x5=>
  (aO y2.1 y2.2.1).bind fun x6=>
  (aO (List.set y2.1 (Int.toNat y2.2.1) x4) y2.2.2).bind fun x7=>
  (ck (y2.2.1+1)).bind fun x8=>
  (ck (y2.2.2 - 1)).bind fun x9=>
  fG k n (List.set (List.set y2.1 (Int.toNat y2.2.1) x4) (Int.toNat y2.2.2) x5,x8,x9)) else(some y2.1)
def kg(k:Nat)(a0:(List Int)):Option (List Int):=
 (ck ((a0.length:Int) - 1)).bind fun x1=>
 fG k k (a0,0,x1)
theorem pP(k:Nat)(a0:(List Int))(c:Value)(r:(List Int))(h:kg k a0=some r):
 de Tryz.prog 62 [.eq c] [.sl c 3 Ti a0] (fun _:Unit=>(bv [],[.sl c 3 Ti r])):=by
 unfold kg at h
 replace h:=aY h
 refine de.of 28 Tryz.func62 rfl Tryz.ntmps62 rfl fun S w0=>?_
 refine au ?_
 refine ka (mA rfl rfl iu) ?_
 obtain⟨x1,gw,h⟩:=aa h
 refine jb (d4 rfl gw) ?_
 refine au ?_
 refine ak ?_
 refine aK (fun z3 y2=>[(0,.eq c),(2,I y2.2.1),(3,I y2.2.2)]) (fun z3 y2=>[.sl c 3 Ti y2.1]) (fG k) k () (a0,0,x1) (fun _=>rfl) h (SE.fin [0] ⟨rfl,rfl,rfl,trivial⟩ rfl) (fun n z3 y2 h=>?_)
 unfold fG at h
 refine au ?_
 refine jb (bB rfl) ?_
 refine nt ?_
 refine ci h (fun h=>?_) (fun h=>?_)
 ·
  refine au ?_;refine ak (rJ ?_);refine bJ rfl rfl rfl (bz rfl) ⟨rfl,trivial⟩ ?_;refine bJ rfl rfl rfl (bz rfl) ⟨rfl,trivial⟩ ?_;refine bJ rfl rfl rfl (bz rfl) ⟨rfl,trivial⟩ ?_;refine bJ rfl rfl rfl (bz rfl) ⟨rfl,trivial⟩ ?_;refine bJ rfl rfl rfl (bz rfl) ⟨rfl,trivial⟩ ?_;refine bJ rfl rfl rfl (bz rfl) ⟨rfl,trivial⟩ ?_;obtain⟨x4,D,h⟩:=aa h;refine g7 0 rfl rfl rfl rfl (cE (t:=Ti) rfl iu bV D) ⟨rfl,rfl,trivial⟩ ?_;refine g7 0 rfl rfl rfl rfl (gJ (i:=Int.toNat y2.2.2) (off:=0) rfl bV (fun _=>rfl) rfl (dA D).2.2 rfl) ⟨rfl,trivial⟩ ?_;refine bJ rfl rfl rfl (bz rfl) ⟨rfl,trivial⟩ ?_;refine bJ rfl rfl rfl (bz rfl) ⟨rfl,trivial⟩ ?_;obtain⟨x5,y,h⟩:=aa h;refine g7 0 rfl rfl rfl rfl (cE (t:=Ti) rfl iu bV y) ⟨rfl,rfl,trivial⟩ ?_;refine g7 0 rfl rfl rfl rfl (gJ (i:=Int.toNat y2.2.1) (off:=0) rfl bV (fun _=>rfl) rfl (dA y).2.2 rfl) ⟨rfl,trivial⟩ ?_;obtain⟨x6,x,h⟩:=aa h;refine g7 0 rfl rfl rfl rfl (cE (t:=Ti) rfl iu bV x) ⟨rfl,rfl,trivial⟩ ?_;refine vt 13 [true,true,false,false,true,true,true,true,true,true,true,true,true] [27] [] [] rfl (by kernel_rfl) (by kernel_rfl) (by kernel_rfl) dW (fun vs hv hB=>?_);obtain⟨w0,UG,rfl,Y⟩:=aC hv;obtain⟨w1,UF,rfl,X⟩:=aC Y;obtain⟨w2,UE,rfl,U⟩:=aC X;obtain⟨w3,UD,rfl,Q⟩:=aC U;obtain⟨w4,UC,rfl,O⟩:=aC Q;obtain⟨w5,UB,rfl,M⟩:=aC O;obtain⟨w6,UA,rfl,J⟩:=aC M;obtain⟨w7,Uz,rfl,F⟩:=aC J;obtain⟨w8,Uy,rfl,E⟩:=aC F;obtain⟨w9,zz,rfl,s⟩:=aC E;obtain⟨Ux,qt,rfl,l⟩:=aC s;obtain⟨Uw,mw,rfl,j⟩:=aC l;obtain⟨Uu,mc,rfl,e⟩:=aC j;obtain rfl:=ri e;refine⟨[0],[.sl c 3 Ti y2.1],by kernel_rfl,by decide,?_⟩;refine sX rfl rfl (gp (i:=Int.toNat y2.2.1) rfl bV rfl (nj x) rfl .int rfl) ⟨rfl,rfl,trivial⟩ (by kernel_rfl) ?_;obtain⟨x7,u,h⟩:=aa h;refine vn rfl rfl rfl rfl (cE (t:=Ti) rfl iu bV u) ⟨rfl,rfl,trivial⟩ (by kernel_rfl) ?_;refine sX rfl rfl (gp (i:=Int.toNat y2.2.2) rfl bV rfl (nj u) rfl .int rfl) ⟨rfl,rfl,trivial⟩ (by kernel_rfl) ?_;refine yr ?_;refine bL (SE.fin (Γ':=[(0,.eq c),(2,I y2.2.1),(3,I y2.2.2)]) (Δ':=[.sl c 3 Ti (List.set (List.set y2.1 (Int.toNat y2.2.1) x4) (Int.toNat y2.2.2) x5)]) [0] ⟨rfl,rfl,rfl,trivial⟩ rfl) ?_;refine au ?_;refine ae (mq ?_);obtain⟨x8,gq,h⟩:=aa h;refine jb (bA rfl gq) ?_;refine mq ?_;obtain⟨x9,Z,h⟩:=aa h;refine jb (d4 rfl Z) ?_;refine au ?_;exact jz ((),(List.set (List.set y2.1 (Int.toNat y2.2.1) x4) (Int.toNat y2.2.2) x5,x8,x9)) h [0]
 ·
  refine au ?_;refine j8 ?_;cases h;exact aM () [] 1 trivial rfl
def iV(k:Nat)(a0:Int):Option Int:=
 (dX k a0).bind fun r1=>
 some (r1.length:Int)
theorem nF(k:Nat)(a0:Int)(r:Int)(h:iV k a0=some r):
 de Tryz.prog 50 [.eq (.int .u8 a0)] [] (fun _:Unit=>(bv [I r],[])):=by
 unfold iV at h
 replace h:=aY h
 refine de.of 6 Tryz.func50 rfl Tryz.ntmps50 rfl fun S w0=>?_
 refine au ?_
 obtain⟨r1,c,h⟩:=aa h
 have e:=fU k a0 r1 c
 refine ja (ay [.tmp 3] rfl rfl Il rfl e) ?_
 refine ol iu ?_
 refine au ?_
 cases h
 exact ra
def kE(k:Nat)(a0:Int):Option Int:=
 (dX k a0).bind fun r1=>
 some (r1.length:Int)
theorem nE(k:Nat)(a0:Int)(r:Int)(h:kE k a0=some r):
 de Tryz.prog 69 [.eq (.int .u8 a0)] [] (fun _:Unit=>(bv [I r],[])):=by
 unfold kE at h
 replace h:=aY h
 refine de.of 6 Tryz.func69 rfl Tryz.ntmps69 rfl fun S w0=>?_
 refine au ?_
 obtain⟨r1,c,h⟩:=aa h
 have e:=fU k a0 r1 c
 refine ja (ay [.tmp 3] rfl rfl Il rfl e) ?_
 refine ol iu ?_
 refine au ?_
 cases h
 exact ra
def ng(k:Nat)(a0:Int)(a1:Int):Option Int:=
 (kE k a0).bind fun r1=>
 (kE k a1).bind fun r2=>
 (ck (r1 - r2)).bind fun x3=>
 some x3
theorem tA(k:Nat)(a0:Int)(a1:Int)(c:Nat)(r:Int)(h:ng k a0 a1=some r):
 de Tryz.prog 85 [.eq (.int .u8 a0),.eq (.int .u8 a1),Pt c] [.obj c 90 (.eq (.func (.func 69) #[] #[]))] (fun _:Unit=>(bv [I r],[.obj c 90 (.eq (.func (.func 69) #[] #[]))])):=by
 unfold ng at h
 replace h:=aY h
 refine de.of 13 Tryz.func85 rfl Tryz.ntmps85 rfl fun S w0=>?_
 refine au ?_
 refine cK ?_
 refine ea 0 (aA rfl JG nJ rfl) ?_
 refine dm ?_
 obtain⟨r1,l,h⟩:=aa h
 have s:=nE k a0 r1 l
 refine db (mZ (fs:=[]) (cs:=[]) (ags:=[.eq (.int .u8 a0)]) [.tmp 7] rfl rfl QC rfl s) ?_
 refine ea 0 (aA rfl JG nJ rfl) ?_
 refine dm ?_
 refine df dW ?_
 obtain⟨r2,j,h⟩:=aa h
 have n:=nE k a1 r2 j
 refine jb (mZ (fs:=[]) (cs:=[]) (ags:=[.eq (.int .u8 a1)]) [.tmp 10] rfl rfl QC rfl n) ?_
 obtain⟨x3,e,h⟩:=aa h
 refine jb (d4 rfl e) ?_
 refine au ?_
 cases h
 exact aM () [_] 1 ⟨rfl,trivial⟩ rfl
def ib(k:Nat)(a0:Int)(a1:Int):Option Int:=
 (iV k a0).bind fun r1=>
 (iV k a1).bind fun r2=>
 (ck (r1 - r2)).bind fun x3=>
 some x3
theorem sj(k:Nat)(a0:Int)(a1:Int)(c:Nat)(r:Int)(h:ib k a0 a1=some r):
 de Tryz.prog 85 [.eq (.int .u8 a0),.eq (.int .u8 a1),Pt c] [.obj c 90 (.eq (.func (.func 50) #[] #[]))] (fun _:Unit=>(bv [I r],[.obj c 90 (.eq (.func (.func 50) #[] #[]))])):=by
 unfold ib at h
 replace h:=aY h
 refine de.of 13 Tryz.func85 rfl Tryz.ntmps85 rfl fun S w0=>?_
 refine au ?_
 refine cK ?_
 refine ea 0 (aA rfl JG nJ rfl) ?_
 refine dm ?_
 obtain⟨r1,l,h⟩:=aa h
 have s:=nF k a0 r1 l
 refine db (mZ (fs:=[]) (cs:=[]) (ags:=[.eq (.int .u8 a0)]) [.tmp 7] rfl rfl QI rfl s) ?_
 refine ea 0 (aA rfl JG nJ rfl) ?_
 refine dm ?_
 refine df dW ?_
 obtain⟨r2,j,h⟩:=aa h
 have n:=nF k a1 r2 j
 refine jb (mZ (fs:=[]) (cs:=[]) (ags:=[.eq (.int .u8 a1)]) [.tmp 10] rfl rfl QI rfl n) ?_
 obtain⟨x3,e,h⟩:=aa h
 refine jb (d4 rfl e) ?_
 refine au ?_
 cases h
 exact aM () [_] 1 ⟨rfl,trivial⟩ rfl
def fH(k:Nat)(a0:(List Int)):Nat→(Int×Int)→Option Int
 |0,_=>none
 |n+1,y4=>
  if y4.2 < (a0.length:Int) then((((aO a0 y4.2).bind fun x8=>
  (ng k x8 y4.1).bind fun r9=>
  if r9 < 0 then((aO a0 y4.2).bind fun e=>
  some e) else(some y4.1)):Option (Int)).bind fun x6=>
  (ck (y4.2+1)).bind fun c=>
  fH k a0 n (x6,c)) else(some y4.1)
def kh(k:Nat)(a0:(List Int)):Option Int:=
 if(a0.length:Int) < 1 then(none) else((aO a0 0).bind fun x1=>
 ((fH k a0 k (x1,1)):Option (Int)).bind fun x2=>
 some x2)
theorem pQ(k:Nat)(a0:(List Int))(c_a1_0:Nat)(r:Int)(h:kh k a0=some r):
 de Tryz.prog 84 [.rep (.slice (.int .u8)) a0,.eq (.func (.func 85) #[] #[(Pv c_a1_0)])] [.obj c_a1_0 90 (.eq (.func (.func 69) #[] #[]))] (fun _:Unit=>(bv [.eq (.int .u8 r)],[.obj c_a1_0 90 (.eq (.func (.func 69) #[] #[]))])):=by
 unfold kh at h
 replace h:=aY h
 refine de.of 33 Tryz.func84 rfl Tryz.ntmps84 rfl fun S w0=>?_
 refine au ?_
 refine ol vW ?_
 refine jb (bB rfl) ?_
 refine nt ?_
 refine ci h (fun h=>?_) (fun h=>?_)
 ·
  cases h
 ·
  refine au ?_;obtain⟨x1,u,h⟩:=aa h;refine jb (aS (t:=(.int .u8)) rfl vW l7 u) ?_;refine ja (av (t:=(.int .u8)) rfl l7 rfl) ?_;refine aq (nt ?_);refine aI (Z:=Unit) (α:=Int) (fun z3 x2=>[(5,.eq (.int .u8 x2))]) (fun z3 x2=>[.obj c_a1_0 90 (.eq (.func (.func 69) #[] #[]))]) h (fun K h=>?_) (fun z3 x2 h=>?_)
  ·refine au ?_;refine ak (aK (fun z5 y4=>[(0,.rep (.slice (.int .u8)) a0),(1,.eq (.func (.func 85) #[] #[(Pv c_a1_0)])),(5,.eq (.int .u8 y4.1)),(6,I y4.2)]) (fun z5 y4=>[.obj c_a1_0 90 (.eq (.func (.func 69) #[] #[]))]) (fH k a0) k () (x1,1) (fun _=>rfl) h (SE.fin [0] ⟨rfl,rfl,rfl,rfl,trivial⟩ rfl) (fun n z5 y4 h=>?_));unfold fH at h;refine au ?_;refine ol vW ?_;refine jb (bB rfl) ?_;refine nt (ci h (fun h=>?_) (fun h=>?_))
   ·refine sk (aI (Z:=Unit) (α:=Int) (fun z7 x6=>[(0,.rep (.slice (.int .u8)) a0),(1,.eq (.func (.func 85) #[] #[(Pv c_a1_0)])),(5,.eq (.int .u8 x6)),(6,I y4.2)]) (fun z7 x6=>[.obj c_a1_0 90 (.eq (.func (.func 69) #[] #[]))]) h (fun K h=>?_) (fun z7 x6 h=>?_))
    ·refine ak (au ?_);obtain⟨x8,s,h⟩:=aa h;refine jb (aS (t:=(.int .u8)) rfl vW l7 s) ?_;refine ja (av (t:=(.int .u8)) rfl l7 rfl) ?_;refine mq ?_;obtain⟨r9,x,h⟩:=aa h;refine kc (mZ (fs:=[]) (cs:=[(Pv c_a1_0)]) (ags:=[.eq (.int .u8 x8),.eq (.int .u8 y4.1)]) [.tmp 24,.tmp 25] rfl rfl QA rfl (tA k x8 y4.1 c_a1_0 r9 x)) ?_;refine jb (bB rfl) ?_;refine nt (ci h (fun h=>?_) (fun h=>?_))
     ·refine ae (au ?_);obtain⟨l,e,h⟩:=aa h;refine jb (aS (t:=(.int .u8)) rfl vW l7 e) ?_;refine ja (av (t:=(.int .u8)) rfl l7 rfl) ?_;refine au ?_;exact jz ((),l) h [0]
     ·refine au ?_;exact jz ((),y4.1) h [0]
    ·refine ae (mq ?_);obtain⟨j,c,h⟩:=aa h;refine jb (bA rfl c) ?_;refine au ?_;exact jz ((),(x6,j)) h [0]
   ·refine au ?_;exact jz ((),y4.1) h [0]
  ·refine au ?_;cases h;exact aM () [_] 1 ⟨rfl,trivial⟩ rfl
def cD(k:Nat)(a0:(List Int)):Nat→(Int×Int)→Option Int
 |0,_=>none
 |n+1,y4=>
  if y4.2 < (a0.length:Int) then((((aO a0 y4.2).bind fun x8=>
  (ib k x8 y4.1).bind fun r9=>
  if r9 < 0 then((aO a0 y4.2).bind fun e=>
  some e) else(some y4.1)):Option (Int)).bind fun x6=>
  (ck (y4.2+1)).bind fun c=>
  cD k a0 n (x6,c)) else(some y4.1)
def gI(k:Nat)(a0:(List Int)):Option Int:=
 if(a0.length:Int) < 1 then(none) else((aO a0 0).bind fun x1=>
 ((cD k a0 k (x1,1)):Option (Int)).bind fun x2=>
 some x2)
theorem pw(k:Nat)(a0:(List Int))(c_a1_0:Nat)(r:Int)(h:gI k a0=some r):
 de Tryz.prog 84 [.rep (.slice (.int .u8)) a0,.eq (.func (.func 85) #[] #[(Pv c_a1_0)])] [.obj c_a1_0 90 (.eq (.func (.func 50) #[] #[]))] (fun _:Unit=>(bv [.eq (.int .u8 r)],[.obj c_a1_0 90 (.eq (.func (.func 50) #[] #[]))])):=by
 unfold gI at h
 replace h:=aY h
 refine de.of 33 Tryz.func84 rfl Tryz.ntmps84 rfl fun S w0=>?_
 refine au ?_
 refine ol vW ?_
 refine jb (bB rfl) ?_
 refine nt ?_
 refine ci h (fun h=>?_) (fun h=>?_)
 ·
  cases h
 ·
  refine au ?_;obtain⟨x1,u,h⟩:=aa h;refine jb (aS (t:=(.int .u8)) rfl vW l7 u) ?_;refine ja (av (t:=(.int .u8)) rfl l7 rfl) ?_;refine aq (nt ?_);refine aI (Z:=Unit) (α:=Int) (fun z3 x2=>[(5,.eq (.int .u8 x2))]) (fun z3 x2=>[.obj c_a1_0 90 (.eq (.func (.func 50) #[] #[]))]) h (fun K h=>?_) (fun z3 x2 h=>?_)
  ·refine au ?_;refine ak (aK (fun z5 y4=>[(0,.rep (.slice (.int .u8)) a0),(1,.eq (.func (.func 85) #[] #[(Pv c_a1_0)])),(5,.eq (.int .u8 y4.1)),(6,I y4.2)]) (fun z5 y4=>[.obj c_a1_0 90 (.eq (.func (.func 50) #[] #[]))]) (cD k a0) k () (x1,1) (fun _=>rfl) h (SE.fin [0] ⟨rfl,rfl,rfl,rfl,trivial⟩ rfl) (fun n z5 y4 h=>?_));unfold cD at h;refine au ?_;refine ol vW ?_;refine jb (bB rfl) ?_;refine nt (ci h (fun h=>?_) (fun h=>?_))
   ·refine sk (aI (Z:=Unit) (α:=Int) (fun z7 x6=>[(0,.rep (.slice (.int .u8)) a0),(1,.eq (.func (.func 85) #[] #[(Pv c_a1_0)])),(5,.eq (.int .u8 x6)),(6,I y4.2)]) (fun z7 x6=>[.obj c_a1_0 90 (.eq (.func (.func 50) #[] #[]))]) h (fun K h=>?_) (fun z7 x6 h=>?_))
    ·refine ak (au ?_);obtain⟨x8,s,h⟩:=aa h;refine jb (aS (t:=(.int .u8)) rfl vW l7 s) ?_;refine ja (av (t:=(.int .u8)) rfl l7 rfl) ?_;refine mq ?_;obtain⟨r9,x,h⟩:=aa h;refine kc (mZ (fs:=[]) (cs:=[(Pv c_a1_0)]) (ags:=[.eq (.int .u8 x8),.eq (.int .u8 y4.1)]) [.tmp 24,.tmp 25] rfl rfl QA rfl (sj k x8 y4.1 c_a1_0 r9 x)) ?_;refine jb (bB rfl) ?_;refine nt (ci h (fun h=>?_) (fun h=>?_))
     ·refine ae (au ?_);obtain⟨l,e,h⟩:=aa h;refine jb (aS (t:=(.int .u8)) rfl vW l7 e) ?_;refine ja (av (t:=(.int .u8)) rfl l7 rfl) ?_;refine au ?_;exact jz ((),l) h [0]
     ·refine au ?_;exact jz ((),y4.1) h [0]
    ·refine ae (mq ?_);obtain⟨j,c,h⟩:=aa h;refine jb (bA rfl c) ?_;refine au ?_;exact jz ((),(x6,j)) h [0]
   ·refine au ?_;exact jz ((),y4.1) h [0]
  ·refine au ?_;cases h;exact aM () [_] 1 ⟨rfl,trivial⟩ rfl
def qd(k:Nat)(a0:(List Int)):Option Int:=
 (kh k a0).bind fun r2=>
 some r2
theorem vQ(k:Nat)(a0:(List Int))(r:Int)(h:qd k a0=some r):
 de Tryz.prog 49 [.rep (.slice (.int .u8)) a0,.eq (.func (.func 69) #[] #[])] [] (fun _:Unit=>(bv [.eq (.int .u8 r)],[])):=by
 unfold qd at h
 replace h:=aY h
 refine de.of 8 Tryz.func49 rfl Tryz.ntmps49 rfl fun S w0=>?_
 refine sr ?_
 refine bx fun b1=>?_
 refine au ?_
 refine ja (pT [] [.tmp 3] [] [(Pv b1)] rfl rfl rfl) ?_
 obtain⟨r2,c,h⟩:=aa h
 have e:=pQ k a0 b1 r2 c
 refine kb (ay [.tmp 5,.tmp 6] rfl rfl QB rfl e) ?_
 refine au ?_
 cases h
 exact ra
def jQ(k:Nat)(a0:(List Int)):Option Int:=
 (gI k a0).bind fun r2=>
 some r2
theorem uD(k:Nat)(a0:(List Int))(r:Int)(h:jQ k a0=some r):
 de Tryz.prog 49 [.rep (.slice (.int .u8)) a0,.eq (.func (.func 50) #[] #[])] [] (fun _:Unit=>(bv [.eq (.int .u8 r)],[])):=by
 unfold jQ at h
 replace h:=aY h
 refine de.of 8 Tryz.func49 rfl Tryz.ntmps49 rfl fun S w0=>?_
 refine sr ?_
 refine bx fun b1=>?_
 refine au ?_
 refine ja (pT [] [.tmp 3] [] [(Pv b1)] rfl rfl rfl) ?_
 obtain⟨r2,c,h⟩:=aa h
 have e:=pw k a0 b1 r2 c
 refine kb (ay [.tmp 5,.tmp 6] rfl rfl QB rfl e) ?_
 refine au ?_
 cases h
 exact ra
def lT(k:Nat)(a0:(List Int)):Option bP:=
 some (a0,0,1)
theorem uO(k:Nat)(a0:(List Int))(r:bP)(h:lT k a0=some r):
 de Tryz.prog 8 [.rep Tl a0] [] (fun z:Nat=>(bv [Pt z],[.obj z 67 (.agg (.pair (.rep Tl r.1) (.pair (I r.2.1) (.eq (.int .u64 r.2.2)))))])):=by
 unfold lT at h
 replace h:=aY h
 refine de.of 6 Tryz.func8 rfl Tryz.ntmps8 rfl fun S w0=>?_
 refine au ?_
 refine jb (dV [(0,.tmp 3,_),(2,.const (.int .u64 (1)),_)] rfl RP RI Q1 (jK ⟨rfl,rfl,trivial⟩) rfl) ?_
 refine aW rfl rfl rfl (wB rfl trivial) ⟨rfl,trivial⟩ fun b1=>?_
 refine au ?_
 cases h
 exact aM b1 [Pt b1] 1 ⟨rfl,trivial⟩ rfl
def i7(k:Nat)(a0:(List Int)):Option (List Int):=
 (cF (bK (List.length ([]:(List Int))+List.length a0))).bind fun _=>
 some (([]:(List Int))++a0)
theorem tG(k:Nat)(a0:(List Int))(r:(List Int))(h:i7 k a0=some r):
 de Tryz.prog 12 [.rep Tl a0] [] (fun z:Value=>(bv [.eq z],[.sl z 3 Ti r])):=by
 unfold i7 at h
 replace h:=aY h
 refine de.of 6 Tryz.func12 rfl Tryz.ntmps12 rfl fun S w0=>?_
 refine au ?_
 refine aW rfl rfl rfl (jk (t:=Ti) [] ([]:(List Int)) rfl rfl dG .nil rfl rfl) trivial fun v1=>?_
 refine mq ?_
 obtain⟨u2,c,h⟩:=aa h
 refine dU rfl rfl rfl (cj rfl rfl dG (ao c)) ⟨rfl,rfl,trivial⟩ fun v3=>?_
 refine au ?_
 cases h
 exact aM v3 [.eq v3] 1 ⟨rfl,trivial⟩ rfl
def c7(k:Nat)(a0:(List (List Int))):Nat→((List (List Int))×Int)→Option (List (List Int))
 |0,_=>none
 |n+1,y3=>
  if y3.2 < (a0.length:Int) then((aO a0 y3.2).bind fun x5=>
  (i7 k x5).bind fun r6=>
  (cF (bK (List.length y3.1+List.length [r6]))).bind fun _=>
  (ck (y3.2+1)).bind fun c=>
  c7 k a0 n (y3.1++[r6],c)) else(some y3.1)
def ig(k:Nat)(a0:(List (List Int))):Option (List (List Int)):=
 ((c7 k a0 k (([]:(List (List Int))),0)):Option ((List (List Int)))).bind fun x1=>
 some x1
theorem sE(k:Nat)(a0:(List (List Int)))(r:(List (List Int)))(h:ig k a0=some r):
 de Tryz.prog 33 [.rep (.slice Tl) a0] [] (fun z:Value=>(bv [.eq z],[.sl z 28 Tl r])):=by
 unfold ig at h
 replace h:=aY h
 refine de.of 20 Tryz.func33 rfl Tryz.ntmps33 rfl fun S w0=>?_
 refine sr ?_
 refine cq ?_
 refine nt ?_
 refine sr ?_
 refine cq ?_
 refine nt ?_
 refine aI (Z:=Value) (α:=(List (List Int))) (fun z2 x1=>[(3,.eq z2)]) (fun z2 x1=>[.sl z2 28 Tl x1]) h (fun K h=>?_) (fun z2 x1 h=>?_)
 ·
  refine au ?_;refine ak (jf (SE.nil 28 Tl) ?_);refine aK (fun z4 y3=>[(0,.rep (.slice Tl) a0),(3,.eq z4),(4,I y3.2)]) (fun z4 y3=>[.sl z4 28 Tl y3.1]) (c7 k a0) k (.slice none 0 0) (([]:(List (List Int))),0) (fun _=>rfl) h (SE.fin [0] ⟨rfl,rfl,rfl,trivial⟩ rfl) (fun n z4 y3 h=>?_);unfold c7 at h;refine au ?_;refine ol qy ?_;refine jb (bB rfl) ?_;refine nt (ci h (fun h=>?_) (fun h=>?_))
  ·refine au ?_;refine ak (ae (au ?_));obtain⟨x5,j,h⟩:=aa h;refine jb (aS (t:=Tl) rfl qy gh j) ?_;refine ja (av (t:=Tl) rfl gh rfl) ?_;obtain⟨r6,s,h⟩:=aa h;refine aW rfl rfl rfl (ay [.tmp 15] rfl rfl TB rfl (tG k x5 r6 s)) ⟨rfl,trivial⟩ fun v7=>?_;refine eC (gZ [16] ⟨rfl,trivial⟩) ?_;refine ja (bg (t:=Tl) [(.tmp 16,_)] [r6] rfl rfl my (.cons rfl .rep .nil) rfl rfl) ?_;obtain⟨u8,l,h⟩:=aa h;refine dU rfl rfl rfl (cj rfl rfl my (ao l)) ⟨rfl,rfl,trivial⟩ fun v9=>?_;refine au ?_;refine ae (mq ?_);obtain⟨e,c,h⟩:=aa h;refine jb (bA rfl c) ?_;refine au ?_;exact jz (v9,(y3.1++[r6],e)) h [0]
  ·refine au ?_;exact jz (z4,y3.1) h [0]
 ·
  refine au ?_;cases h;exact aM z2 [.eq z2] 1 ⟨rfl,trivial⟩ rfl
def ic(k:Nat)(a0:bP):Option (Int×bP):=
 ((if a0.2.1 < (a0.1.length:Int) then((aO a0.1 a0.2.1).bind fun x3=>
 some (IntKind.u64.wrap ((IntKind.u64.wrap ((IntKind.u64.wrap (a0.2.2 * 6364136223846793005))+1442695040888963407))+(IntKind.u64.wrap ((IntKind.u64.wrap x3) * 2862933555777941757))))) else(some (IntKind.u64.wrap ((IntKind.u64.wrap (a0.2.2 * 6364136223846793005))+1442695040888963407)))):Option (Int)).bind fun x1=>
 (ck (a0.2.1+1)).bind fun x4=>
 some (gf .u64 (ql .u64 (IntKind.u64.wrap ((ql .u64 x1 (gf .u64 x1 29)) * 2685821657736338717)) (gf .u64 (IntKind.u64.wrap ((ql .u64 x1 (gf .u64 x1 29)) * 2685821657736338717)) 32)) 8,(a0.1,x4,x1))
theorem sB(k:Nat)(a0:bP)(c:Nat)(r:Int×bP)(h:ic k a0=some r):
 de Tryz.prog 89 [Pt c] [.obj c 67 (.agg (.pair (.rep Tl a0.1) (.pair (I a0.2.1) (.eq (.int .u64 a0.2.2)))))] (fun _:Unit=>(bv [.eq (.int .u64 r.1)],[.obj c 67 (.agg (.pair (.rep Tl r.2.1) (.pair (I r.2.2.1) (.eq (.int .u64 r.2.2.2)))))])):=by
 unfold ic at h
 replace h:=aY h
 refine de.of 67 Tryz.func89 rfl Tryz.ntmps89 rfl fun S w0=>?_
 refine au ?_
 refine ja (cH rfl) ?_
 refine fl sL ?_
 refine lo Eu ?_
 refine jb (Bi rfl) ?_
 refine jb (Hl rfl) ?_
 refine ja (cH rfl) ?_
 refine fl sL ?_
 refine aR rfl rfl (aP rfl Eu rfl rfl rfl) ⟨rfl,rfl,trivial⟩ ?_
 refine nt ?_
 refine aI (Z:=Unit) (α:=Int) (fun z2 x1=>[(0,Pt c)]) (fun z2 x1=>[.obj c 67 (.agg (.pair (.rep Tl a0.1) (.pair (I a0.2.1) (.eq (.int .u64 x1)))))]) h (fun K h=>?_) (fun z2 x1 h=>?_)
 ·
  refine cg (cK ?_);refine dm ?_;refine da (cH rfl) ?_;refine da (aG rfl xZ) ?_;refine ea 0 (aA rfl bV nJ rfl) ?_;refine dm ?_;refine da (cH rfl) ?_;refine da (aG rfl Ie) ?_;refine ea 0 (aA rfl gh nJ rfl) ?_;refine da (ta rfl rfl iu) ?_;refine df dW ?_;refine jb (bB rfl) ?_;refine nt (ci h (fun h=>?_) (fun h=>?_))
  ·refine cK ?_;refine dm ?_;refine dm ?_;refine da (cH rfl) ?_;refine da (aG rfl sL) ?_;refine ea 0 (aA rfl Eu nJ rfl) ?_;refine dm ?_;refine da (cH rfl) ?_;refine da (aG rfl Ie) ?_;refine ea 0 (aA rfl gh nJ rfl) ?_;refine dm ?_;refine da (cH rfl) ?_;refine da (aG rfl xZ) ?_;refine ea 0 (aA rfl bV nJ rfl) ?_;obtain⟨x3,j,h⟩:=aa h;refine db (aS (t:=Ti) rfl iu bV j) ?_;refine da (av (t:=Ti) rfl bV rfl) ?_;refine da (rW rfl U3 Rz) ?_;refine db (Bi rfl) ?_;refine db (Hl rfl) ?_;refine df dW ?_;refine ja (cH rfl) ?_;refine fl sL ?_;refine aR rfl rfl (aP rfl Eu rfl rfl rfl) ⟨rfl,rfl,trivial⟩ ?_;refine au ?_;exact jz ((),IntKind.u64.wrap ((IntKind.u64.wrap ((IntKind.u64.wrap (a0.2.2 * 6364136223846793005))+1442695040888963407))+(IntKind.u64.wrap ((IntKind.u64.wrap x3) * 2862933555777941757)))) h [0]
  ·refine au ?_;exact jz ((),IntKind.u64.wrap ((IntKind.u64.wrap (a0.2.2 * 6364136223846793005))+1442695040888963407)) h [0]
 ·
  refine au ?_;refine ja (cH rfl) ?_;refine fl xZ ?_;refine lo bV ?_;obtain⟨x4,e,h⟩:=aa h;refine jb (bA rfl e) ?_;refine ja (cH rfl) ?_;refine fl xZ ?_;refine aR rfl rfl (aP rfl bV rfl rfl rfl) ⟨rfl,rfl,trivial⟩ ?_;refine au ?_;refine cK ?_;refine dm ?_;refine da (cH rfl) ?_;refine da (aG rfl sL) ?_;refine ea 0 (aA rfl Eu nJ rfl) ?_;refine dm ?_;refine da (cH rfl) ?_;refine da (aG rfl sL) ?_;refine ea 0 (aA rfl Eu nJ rfl) ?_;refine fx rfl rfl rfl (uu rfl (by decide)) ⟨rfl,rfl,trivial⟩ ?_;refine df dW ?_;refine jb (MQ rfl) ?_;refine au ?_;refine jb (Bi rfl) ?_;refine au ?_;refine bY rfl (uu rfl (by decide)) ⟨rfl,rfl,trivial⟩ ?_;refine jb (MQ rfl) ?_;refine bY rfl (uu rfl (by decide)) ⟨rfl,rfl,trivial⟩ ?_;refine au ?_;cases h;exact aM () [_] 1 ⟨rfl,trivial⟩ rfl
def cf(k:Nat)(a0:bP)(a1:Int):Option (Int×bP):=
 if a1 < 1 then(some (0,(a0.1,a0.2.1,a0.2.2))) else((ic k (a0.1,a0.2.1,a0.2.2)).bind fun r1=>
 (ck (a1+1)).bind fun x2=>
 (cF ((IntKind.u64.wrap x2)≠0)).bind fun _=>
 (ck (Int.tmod r1.1 (IntKind.u64.wrap x2))).bind fun x4=>
 some (x4,(r1.2.1,r1.2.2.1,r1.2.2.2)))
theorem cC(k:Nat)(a0:bP)(c:Nat)(a1:Int)(r:Int×bP)(h:cf k a0 a1=some r):
 de Tryz.prog 53 [Pt c,I a1] [.obj c 67 (.agg (.pair (.rep Tl a0.1) (.pair (I a0.2.1) (.eq (.int .u64 a0.2.2)))))] (fun _:Unit=>(bv [I r.1],[.obj c 67 (.agg (.pair (.rep Tl r.2.1) (.pair (I r.2.2.1) (.eq (.int .u64 r.2.2.2)))))])):=by
 unfold cf at h
 replace h:=aY h
 refine de.of 14 Tryz.func53 rfl Tryz.ntmps53 rfl fun S w0=>?_
 refine au ?_
 refine jb (bB rfl) ?_
 refine nt ?_
 refine ci h (fun h=>?_) (fun h=>?_)
 ·
  refine au ?_;cases h;exact aM () [_] 1 ⟨rfl,trivial⟩ rfl
 ·
  refine au ?_;obtain⟨r1,n,h⟩:=aa h;refine ka (ay [.tmp 7] rfl rfl SL rfl (sB k (a0.1,a0.2.1,a0.2.2) c r1 n)) ?_;refine mq ?_;obtain⟨x2,j,h⟩:=aa h;refine jb (bA rfl j) ?_;refine ja (rW rfl U3 Rz) ?_;obtain⟨u3,l,h⟩:=aa h;refine jb (PZ rfl (ao l)) ?_;obtain⟨x4,e,h⟩:=aa h;refine ja (zg rfl Rz U3 e) ?_;refine au ?_;cases h;exact aM () [_] 1 ⟨rfl,trivial⟩ rfl
def eZ(k:Nat)(a0:bP)(a1:Int):Option (Bool×bP):=
 (ck (a1 - 1)).bind fun x1=>
 (cf k (a0.1,a0.2.1,a0.2.2) x1).bind fun r2=>
 some (decide (r2.1=0),(r2.2.1,r2.2.2.1,r2.2.2.2))
theorem jt(k:Nat)(a0:bP)(c:Nat)(a1:Int)(r:Bool×bP)(h:eZ k a0 a1=some r):
 de Tryz.prog 32 [Pt c,I a1] [.obj c 67 (.agg (.pair (.rep Tl a0.1) (.pair (I a0.2.1) (.eq (.int .u64 a0.2.2)))))] (fun _:Unit=>(bv [.eq (.bool r.1)],[.obj c 67 (.agg (.pair (.rep Tl r.2.1) (.pair (I r.2.2.1) (.eq (.int .u64 r.2.2.2)))))])):=by
 unfold eZ at h
 replace h:=aY h
 refine de.of 10 Tryz.func32 rfl Tryz.ntmps32 rfl fun S w0=>?_
 refine au ?_
 obtain⟨x1,e,h⟩:=aa h
 refine jb (d4 rfl e) ?_
 obtain⟨r2,j,h⟩:=aa h
 have l:=cC k (a0.1,a0.2.1,a0.2.2) c x1 r2 j
 refine kb (ay [.tmp 5,.tmp 7] rfl rfl vU rfl l) ?_
 refine jb (hP rfl) ?_
 refine au ?_
 cases h
 exact aM () [_] 1 ⟨rfl,trivial⟩ rfl
def fB(k:Nat)(a0:bP)(a1:Int)(a2:Int):Option (Int×bP):=
 (ck (a2 - a1)).bind fun x1=>
 (cf k (a0.1,a0.2.1,a0.2.2) x1).bind fun r2=>
 (ck (a1+r2.1)).bind fun x3=>
 some (x3,(r2.2.1,r2.2.2.1,r2.2.2.2))
theorem iZ(k:Nat)(a0:bP)(c:Nat)(a1:Int)(a2:Int)(r:Int×bP)(h:fB k a0 a1 a2=some r):
 de Tryz.prog 86 [Pt c,I a1,I a2] [.obj c 67 (.agg (.pair (.rep Tl a0.1) (.pair (I a0.2.1) (.eq (.int .u64 a0.2.2)))))] (fun _:Unit=>(bv [I r.1],[.obj c 67 (.agg (.pair (.rep Tl r.2.1) (.pair (I r.2.2.1) (.eq (.int .u64 r.2.2.2)))))])):=by
 unfold fB at h
 replace h:=aY h
 refine de.of 14 Tryz.func86 rfl Tryz.ntmps86 rfl fun S w0=>?_
 refine au ?_
 obtain⟨x1,j,h⟩:=aa h
 refine jb (d4 rfl j) ?_
 obtain⟨r2,l,h⟩:=aa h
 have n:=cC k (a0.1,a0.2.1,a0.2.2) c x1 r2 l
 refine kb (ay [.tmp 8,.tmp 11] rfl rfl vU rfl n) ?_
 obtain⟨x3,e,h⟩:=aa h
 refine jb (bA rfl e) ?_
 refine au ?_
 cases h
 exact aM () [_] 1 ⟨rfl,trivial⟩ rfl
def gA(k:Nat)(a0:bP)(a1:(List Int)):Option (Int×bP):=
 (ck ((a1.length:Int) - 1)).bind fun x1=>
 (cf k (a0.1,a0.2.1,a0.2.2) x1).bind fun r2=>
 (aO a1 r2.1).bind fun x3=>
 some (x3,(r2.2.1,r2.2.2.1,r2.2.2.2))
theorem lr(k:Nat)(a0:bP)(c:Nat)(a1:(List Int))(r:Int×bP)(h:gA k a0 a1=some r):
 de Tryz.prog 87 [Pt c,.rep Tl a1] [.obj c 67 (.agg (.pair (.rep Tl a0.1) (.pair (I a0.2.1) (.eq (.int .u64 a0.2.2)))))] (fun _:Unit=>(bv [I r.1],[.obj c 67 (.agg (.pair (.rep Tl r.2.1) (.pair (I r.2.2.1) (.eq (.int .u64 r.2.2.2)))))])):=by
 unfold gA at h
 replace h:=aY h
 refine de.of 13 Tryz.func87 rfl Tryz.ntmps87 rfl fun S w0=>?_
 refine au ?_
 refine ol iu ?_
 obtain⟨x1,j,h⟩:=aa h
 refine jb (d4 rfl j) ?_
 obtain⟨r2,l,h⟩:=aa h
 have n:=cC k (a0.1,a0.2.1,a0.2.2) c x1 r2 l
 refine kb (ay [.tmp 6,.tmp 9] rfl rfl vU rfl n) ?_
 obtain⟨x3,e,h⟩:=aa h
 refine jb (aS (t:=Ti) rfl iu bV e) ?_
 refine ja (av (t:=Ti) rfl bV rfl) ?_
 refine au ?_
 cases h
 exact aM () [_] 1 ⟨rfl,trivial⟩ rfl
def dQ(k:Nat)(a1:Int):Nat→((List Int)×Int×Int×(List Int)×Int)→Option ((List Int)×(List Int)×Int×Int)
 |0,_=>none
 |n+1,y3=>
  if y3.2.2.2.2 < a1 then((cf k (y3.1,y3.2.1,y3.2.2.1) y3.2.2.2.2).bind fun r5=>
  (cF (bK (List.length y3.2.2.2.1+List.length [y3.2.2.2.2]))).bind fun _=>
  (aO (y3.2.2.2.1++[y3.2.2.2.2]) r5.1).bind fun x8=>
  (aO (y3.2.2.2.1++[y3.2.2.2.2]) y3.2.2.2.2).bind fun x9=>
  (aO (List.set (y3.2.2.2.1++[y3.2.2.2.2]) (Int.toNat y3.2.2.2.2) x8) r5.1).bind fun e=>
  (ck (y3.2.2.2.2+1)).bind fun c=>
  dQ k a1 n (r5.2.1,r5.2.2.1,r5.2.2.2,List.set (List.set (y3.2.2.2.1++[y3.2.2.2.2]) (Int.toNat y3.2.2.2.2) x8) (Int.toNat r5.1) y3.2.2.2.2,c)) else(some (y3.2.2.2.1,y3.1,y3.2.1,y3.2.2.1))
def gB(k:Nat)(a0:bP)(a1:Int):Option ((List Int)×bP):=
 ((dQ k a1 k (a0.1,a0.2.1,a0.2.2,([]:(List Int)),0)):Option ((List Int)×(List Int)×Int×Int)).bind fun x1=>
 some (x1.1,(x1.2.1,x1.2.2.1,x1.2.2.2))
theorem rj(k:Nat)(a0:bP)(c:Nat)(a1:Int)(r:(List Int)×bP)(h:gB k a0 a1=some r):
 de Tryz.prog 105 [Pt c,I a1] [.obj c 67 (.agg (.pair (.rep Tl a0.1) (.pair (I a0.2.1) (.eq (.int .u64 a0.2.2)))))] (fun _:Unit=>(bv [.rep Tl r.1],[.obj c 67 (.agg (.pair (.rep Tl r.2.1) (.pair (I r.2.2.1) (.eq (.int .u64 r.2.2.2)))))])):=by
 unfold gB at h
 replace h:=aY h
 refine de.of 32 Tryz.func105 rfl Tryz.ntmps105 rfl fun S w0=>?_
 refine sr ?_
 refine cq ?_
 refine nt ?_
 refine sr ?_
 refine cq ?_
 refine nt ?_
 refine aI (Z:=Value) (α:=(List Int)×(List Int)×Int×Int) (fun z2 x1=>[(5,.eq z2)]) (fun z2 x1=>[.sl z2 3 Ti x1.1,.obj c 67 (.agg (.pair (.rep Tl x1.2.1) (.pair (I x1.2.2.1) (.eq (.int .u64 x1.2.2.2)))))]) h (fun K h=>?_) (fun z2 x1 h=>?_)
 ·
  refine au ?_;refine ak (jf (SE.nil 3 Ti) ?_);refine aK (fun z4 y3=>[(0,Pt c),(1,I a1),(5,.eq z4),(6,I y3.2.2.2.2)]) (fun z4 y3=>[.obj c 67 (.agg (.pair (.rep Tl y3.1) (.pair (I y3.2.1) (.eq (.int .u64 y3.2.2.1))))),.sl z4 3 Ti y3.2.2.2.1]) (dQ k a1) k (.slice none 0 0) (a0.1,a0.2.1,a0.2.2,([]:(List Int)),0) (fun _=>rfl) h (SE.fin [1,0] ⟨rfl,rfl,rfl,rfl,trivial⟩ rfl) (fun n z4 y3 h=>?_);unfold dQ at h;refine au ?_;refine jb (bB rfl) ?_;refine nt (ci h (fun h=>?_) (fun h=>?_))
  ·refine au ?_;refine ak (au ?_);obtain⟨r5,y,h⟩:=aa h;refine kb (ay [.tmp 13,.tmp 14] rfl rfl vU rfl (cC k (y3.1,y3.2.1,y3.2.2.1) c y3.2.2.2.2 r5 y)) ?_;refine au ?_;refine ja (bg (t:=Ti) [(.tmp 17,_)] [y3.2.2.2.2] rfl rfl dG (.cons rfl .int .nil) rfl rfl) ?_;obtain⟨u6,x,h⟩:=aa h;refine fr 1 ?_;refine dU rfl rfl rfl (cj rfl rfl dG (ao x)) ⟨rfl,rfl,trivial⟩ fun v7=>?_;refine au ?_;refine ae (au ?_);obtain⟨x8,l,h⟩:=aa h;refine kb (cE (t:=Ti) rfl iu bV l) ?_;refine ka (gJ (i:=Int.toNat r5.1) (off:=0) rfl bV (fun _=>rfl) rfl (dA l).2.2 rfl) ?_;refine mq ?_;obtain⟨x9,j,h⟩:=aa h;refine kb (cE (t:=Ti) rfl iu bV j) ?_;refine aR rfl rfl (gp (i:=Int.toNat y3.2.2.2.2) rfl bV rfl (nj j) rfl .int rfl) ⟨rfl,rfl,trivial⟩ ?_;obtain⟨D,e,h⟩:=aa h;refine kb (cE (t:=Ti) rfl iu bV e) ?_;refine aR rfl rfl (gp (i:=Int.toNat r5.1) rfl bV rfl (nj e) rfl .int rfl) ⟨rfl,rfl,trivial⟩ ?_;refine au ?_;refine ae (mq ?_);obtain⟨u,s,h⟩:=aa h;refine jb (bA rfl s) ?_;refine au ?_;exact jz (v7,(r5.2.1,r5.2.2.1,r5.2.2.2,List.set (List.set (y3.2.2.2.1++[y3.2.2.2.2]) (Int.toNat y3.2.2.2.2) x8) (Int.toNat r5.1) y3.2.2.2.2,u)) h [1,0]
  ·refine au ?_;exact jz (z4,(y3.2.2.2.1,y3.1,y3.2.1,y3.2.2.1)) h [1,0]
 ·
  refine sr (mq ?_);refine aq (nt (dw ?_));refine bL (gZ [4,5,31] ⟨rfl,rfl,rfl,trivial⟩) ?_;cases h;exact aM () [_] 1 ⟨rfl,trivial⟩ rfl
def ie(k:Nat)(a0:bP)(a1:yf):Option (bu×bP):=
 (ck (a1.1 - 1)).bind fun x3=>
 (cf k (a0.1,a0.2.1,a0.2.2) x3).bind fun r4=>
 (cf k (r4.2.1,r4.2.2.1,r4.2.2.2) (a1.2.2.2.2.1.length:Int)).bind fun r5=>
 (eZ k (r5.2.1,r5.2.2.1,r5.2.2.2) 2).bind fun r6=>
 some ((r4.1,r5.1,r6.1),(r6.2.1,r6.2.2.1,r6.2.2.2))
theorem sD(k:Nat)(a0:bP)(c:Nat)(a1:yf)(r:bu×bP)(h:ie k a0 a1=some r):
 de Tryz.prog 54 [Pt c,.rep CS a1] [.obj c 67 (.agg (.pair (.rep Tl a0.1) (.pair (I a0.2.1) (.eq (.int .u64 a0.2.2)))))] (fun _:Unit=>(bv [.rep aZ r.1],[.obj c 67 (.agg (.pair (.rep Tl r.2.1) (.pair (I r.2.2.1) (.eq (.int .u64 r.2.2.2)))))])):=by
 unfold ie at h
 replace h:=aY h
 refine de.of 18 Tryz.func54 rfl Tryz.ntmps54 rfl fun S w0=>?_
 refine sr ?_
 refine bx fun b1=>?_
 refine aW rfl rfl rfl (bj rfl AO IE) trivial fun b2=>?_
 refine au ?_
 refine Fv [1,2,3,5,6,7,8,10,0,4,9,11,12,13] (by kernel_rfl) ?_
 refine bJ rfl rfl rfl (aG rfl gX) ⟨rfl,trivial⟩ ?_
 refine g7 1 rfl rfl rfl rfl (aA rfl bV nJ rfl) ⟨rfl,trivial⟩ ?_
 obtain⟨x3,E,h⟩:=aa h
 refine bJ rfl rfl rfl (d4 rfl E) ⟨rfl,rfl,trivial⟩ ?_
 refine bJ rfl rfl rfl (bz rfl) ⟨rfl,trivial⟩ ?_
 refine bJ rfl rfl rfl (aG rfl eG) ⟨rfl,trivial⟩ ?_
 refine g7 1 rfl rfl rfl rfl (aA rfl lG nJ rfl) ⟨rfl,trivial⟩ ?_
 refine bJ rfl rfl rfl (ta rfl rfl AM) ⟨rfl,trivial⟩ ?_
 refine bJ rfl rfl rfl (bz rfl) ⟨rfl,trivial⟩ ?_
 refine bJ rfl rfl rfl (bz rfl) ⟨rfl,trivial⟩ ?_
 refine vt 9 [true,true,true,false,false,false,false,false,true] [9,14] [1] [.obj b1 25 (.rep CS a1)] rfl (by kernel_rfl) (by kernel_rfl) (by kernel_rfl) dW (fun vs hv hB=>?_)
 obtain⟨w0,zz,rfl,D⟩:=aC hv
 obtain⟨w1,qt,rfl,y⟩:=aC D
 obtain⟨w2,mw,rfl,x⟩:=aC y
 obtain⟨w3,mc,rfl,u⟩:=aC x
 obtain⟨w4,gw,rfl,s⟩:=aC u
 obtain⟨w5,gq,rfl,n⟩:=aC s
 obtain⟨w6,Z,rfl,l⟩:=aC n
 obtain⟨w7,Y,rfl,j⟩:=aC l
 obtain⟨w8,X,rfl,e⟩:=aC j
 obtain rfl:=ri e
 refine⟨[1,0,2],[.obj b2 27 (.agg (.pair (I 0) (.pair (I 0) (.eq (.bool false))))),.obj c 67 (.agg (.pair (.rep Tl a0.1) (.pair (I a0.2.1) (.eq (.int .u64 a0.2.2)))))],by kernel_rfl,by decide,?_⟩
 obtain⟨r4,M,h⟩:=aa h
 have U:=cC k (a0.1,a0.2.1,a0.2.2) c x3 r4 M
 refine rH 1 rfl ?_
 refine vn rfl rfl rfl rfl (ay [.tmp 5,.tmp 8] rfl rfl vU rfl U) ⟨rfl,rfl,trivial⟩ (by kernel_rfl) ?_
 obtain⟨r5,J,h⟩:=aa h
 have Q:=cC k (r4.2.1,r4.2.2.1,r4.2.2.2) c (a1.2.2.2.2.1.length:Int) r5 J
 refine vn rfl rfl rfl rfl (ay [.tmp 10,.tmp 13] rfl rfl vU rfl Q) ⟨rfl,rfl,trivial⟩ (by kernel_rfl) ?_
 refine O2 (by kernel_rfl) ?_
 obtain⟨r6,F,h⟩:=aa h
 have O:=jt k (r5.2.1,r5.2.2.1,r5.2.2.2) c 2 r6 F
 refine fr 1 ?_
 refine kb (ay [.tmp 15,.const (.int .i64 (2))] rfl rfl OC rfl O) ?_
 refine jc (dV [(0,.tmp 9,_),(1,.tmp 14,_),(2,.tmp 16,_)] rfl PT AO M6 (jK ⟨rfl,rfl,rfl,trivial⟩) rfl) ?_
 refine fr 2 ?_
 refine aR rfl rfl (aP rfl qI trivial rfl rfl) ⟨rfl,rfl,trivial⟩ ?_
 refine nt ?_
 refine dw ?_
 refine bL (iv (a:=.agg (.pair (I r4.1) (.pair (I r5.1) (.eq (.bool r6.1))))) (a':=.rep aZ (r4.1,r5.1,r6.1)) (jB (.agg (.pair .int (.pair .int .bool))))) ?_
 refine bL (SE.fin (Γ':=[(4,_)]) [1,0,2] ⟨rfl,trivial⟩ rfl) ?_
 cases h
 exact aM () [.rep aZ (r4.1,r5.1,r6.1)] 1 ⟨⟨_,_,_,_,_,rfl,(.tail _ (.head _)),qI,(qV),rfl⟩,trivial⟩ rfl
def gi(k:Nat)(a0:Int)(a1:(List Int))(self:Int→(List Int)→Option ((List (List Int)))):Nat→((List (List Int))×Int)→Option (List (List Int))
 |0,_=>none
 |n+1,y9=>
  if y9.2 < a0 then((cF (bK (List.length ([]:(List Int))+List.length a1))).bind fun _=>
  (cF (bK (List.length (([]:(List Int))++a1)+List.length [y9.2]))).bind fun _=>
  (self a0 ((([]:(List Int))++a1)++[y9.2])).bind fun c=>
  (cF (bK (List.length y9.1+List.length c))).bind fun _=>
  (ck (y9.2+1)).bind fun e=>
  gi k a0 a1 self n (y9.1++c,e)) else(some y9.1)
def kB(k:Nat):Nat→Int→(List Int)→Option ((List (List Int)))
 |0,_,_=>none
 |m0+1,a0,a1=>
  ((if 0 < (a1.length:Int) then((ck ((a1.length:Int) - 1)).bind fun x4=>
  (aO a1 x4).bind fun x5=>
  (ck (x5+1)).bind fun x6=>
  some x6) else(some 0)):Option (Int)).bind fun x2=>
  ((gi k a0 a1 (kB k m0) k ([a1],x2)):Option ((List (List Int)))).bind fun x7=>
  some x7
theorem A8(k:Nat):
 ∀(n:Nat) (a0:Int) (a1:(List Int)) (r:(List (List Int))),kB k n a0 a1=some r→de Tryz.prog 25 [I a0,.rep Tl a1] ([]) (fun _:Unit=>(bv [.rep (.slice Tl) r],[])):=by
 intro n
 induction n with
 |zero=>intro a0 a1 r h;cases h
 |succ m0 ih=>
  intro a0 a1 r h;rw [kB] at h;replace h:=aY h;refine de.of 37 Tryz.func25 rfl Tryz.ntmps25 rfl fun S w0=>?_;refine au ?_;refine aW rfl rfl rfl (jk (t:=Tl) [(.tmp 8,_)] [a1] rfl rfl my (.cons rfl .rep .nil) rfl rfl) ⟨rfl,trivial⟩ fun v1=>?_;refine aq (nt (sr ?_));refine cq (nt ?_);refine aI (Z:=Unit) (α:=Int) (fun z3 x2=>[(0,I a0),(1,.rep Tl a1),(5,.eq v1),(6,I x2)]) (fun z3 x2=>[.sl v1 28 Tl [a1]]) h (fun K h=>?_) (fun z3 x2 h=>?_)
  ·refine au ?_;refine ol iu ?_;refine jb (nB rfl) ?_;refine nt (ci h (fun h=>?_) (fun h=>?_))
   ·refine ae (au ?_);refine ol iu ?_;obtain⟨x4,J,h⟩:=aa h;refine jb (d4 rfl J) ?_;obtain⟨x5,F,h⟩:=aa h;refine jb (aS (t:=Ti) rfl iu bV F) ?_;refine ja (av (t:=Ti) rfl bV rfl) ?_;obtain⟨x6,E,h⟩:=aa h;refine jb (bA rfl E) ?_;refine au ?_;exact jz ((),x6) h [0]
   ·refine au ?_;exact jz ((),0) h [0]
  ·refine aI (Z:=Value) (α:=(List (List Int))) (fun z8 x7=>[(5,.eq z8)]) (fun z8 x7=>[.sl z8 28 Tl x7]) h (fun K h=>?_) (fun z8 x7 h=>?_)
   ·refine au ?_;refine ak (aK (fun c y9=>[(0,I a0),(1,.rep Tl a1),(5,.eq c),(7,I y9.2)]) (fun c y9=>[.sl c 28 Tl y9.1]) (gi k a0 a1 (kB k m0)) k v1 ([a1],x2) (fun _=>rfl) h (SE.fin [0] ⟨rfl,rfl,rfl,rfl,trivial⟩ rfl) (fun n c y9 h=>?_));unfold gi at h;refine au ?_;refine jb (bB rfl) ?_;refine nt (ci h (fun h=>?_) (fun h=>?_))
    ·refine au ?_;refine ak (ae (au ?_));refine aW rfl rfl rfl (jk (t:=Ti) [] ([]:(List Int)) rfl rfl dG .nil rfl rfl) trivial fun Q=>?_;refine mq ?_;obtain⟨Y,u,h⟩:=aa h;refine dU rfl rfl rfl (cj rfl rfl dG (ao u)) ⟨rfl,rfl,trivial⟩ fun O=>?_;refine mq ?_;refine ja (bg (t:=Ti) [(.tmp 31,_)] [y9.2] rfl rfl dG (.cons rfl .int .nil) rfl rfl) ?_;obtain⟨X,s,h⟩:=aa h;refine dU rfl rfl rfl (cj rfl rfl dG (ao s)) ⟨rfl,rfl,trivial⟩ fun M=>?_;refine eC (gZ [33] ⟨rfl,trivial⟩) ?_;obtain⟨e,x,h⟩:=aa h;refine jb (ay [.tmp 27,.tmp 33] rfl rfl QL rfl (ih a0 ((([]:(List Int))++a1)++[y9.2]) e x)) ?_;obtain⟨U,l,h⟩:=aa h;refine dU rfl rfl rfl (cj rfl rfl my (ao l)) ⟨rfl,rfl,trivial⟩ fun D=>?_;refine au ?_;refine ae (mq ?_);obtain⟨y,j,h⟩:=aa h;refine jb (bA rfl j) ?_;refine au ?_;exact jz (D,(y9.1++e,y)) h [0]
    ·refine au ?_;exact jz (c,y9.1) h [0]
   ·refine sr (mq ?_);refine aq (nt (dw ?_));refine bL (gZ [4,5,36] ⟨rfl,rfl,rfl,trivial⟩) ?_;cases h;exact ra
def eV(k:Nat)(a0:ag)(a1:(List (List Int))):Nat→Int→Option (Except Bool Unit)
 |0,_=>none
 |n+1,y5=>
  if y5 < (a1.length:Int) then((aO a1 y5).bind fun x7=>
  if¬((x7.length:Int)=a0.1) then(some (.error false)) else((ck (y5+1)).bind fun x8=>
  eV k a0 a1 n x8)) else(some (.ok ()))
def mF(k:Nat)(a0:ag)(a1:(List (List Int))):Option Bool:=
 (ck ((a0.2.2.2.2.1.length:Int)+1)).bind fun x2=>
 if¬((a1.length:Int)=x2) then(some false) else(bE (α:=Unit) (eV k a0 a1 k 0) (some) fun _=>
 some true)
theorem xO(k:Nat)(a0:ag)(a1:(List (List Int)))(r:Bool)(h:mF k a0 a1=some r):
 de Tryz.prog 55 [.rep aj a0,.rep (.slice Tl) a1] [] (fun _:Unit=>(bv [.eq (.bool r)],[])):=by
 unfold mF at h
 replace h:=aY h
 refine de.of 27 Tryz.func55 rfl Tryz.ntmps55 rfl fun S w0=>?_
 refine sr ?_
 refine bx fun b1=>?_
 refine au ?_
 refine ol qy ?_
 refine fl eG ?_
 refine lo lG ?_
 refine ol AM ?_
 obtain⟨x2,l,h⟩:=aa h
 refine jb (bA rfl l) ?_
 refine jb (fh rfl) ?_
 refine nt ?_
 refine cn h (fun h=>?_) (fun h=>?_)
 ·
  refine au ?_;cases h;exact ra
 ·
  refine sk (dx (Z:=Unit) (α:=Unit) (fun z4 x3=>[]) (fun z4 x3=>[]) (fun e=>e=r) h (fun e h=>Option.some.inj h) (fun K hR h=>?_) (fun z4 x3 h=>?_))
  ·refine au ?_;refine ak (aK (fun z6 y5=>[(1,.rep (.slice Tl) a1),(2,Pt b1),(5,I y5)]) (fun z6 y5=>[.obj b1 25 (.rep aj a0)]) (eV k a0 a1) k () 0 (fun _=>rfl) h (SE.fin [0] ⟨rfl,rfl,rfl,trivial⟩ rfl) (fun n z6 y5 h=>?_));unfold eV at h;refine au ?_;refine ol qy ?_;refine jb (bB rfl) ?_;refine nt (ci h (fun h=>?_) (fun h=>?_))
   ·refine au ?_;refine ak (cg (cK ?_));refine dm ?_;refine dm ?_;obtain⟨x7,j,h⟩:=aa h;refine db (aS (t:=Tl) rfl qy gh j) ?_;refine da (av (t:=Tl) rfl gh rfl) ?_;refine da (ta rfl rfl iu) ?_;refine da (aG rfl gX) ?_;refine ea 0 (aA rfl bV nJ rfl) ?_;refine df dW ?_;refine jb (fh rfl) ?_;refine nt (cn h (fun h=>?_) (fun h=>?_))
    ·refine au ?_;obtain rfl:=hR _ h;exact ra
    ·refine au ?_;refine ae (mq ?_);obtain⟨x8,c,h⟩:=aa h;refine jb (bA rfl c) ?_;refine au ?_;exact jz ((),x8) h [0]
   ·refine au ?_;exact jz ((),()) h []
  ·refine au ?_;cases h;exact ra
def kP(k:Nat)(a0:(List Int))(a1:Int):Nat→Int→Option (Except Int Unit)
 |0,_=>none
 |n+1,y3=>
  if y3 < (a0.length:Int) then((aO a0 y3).bind fun x5=>
  if x5=a1 then(some (.error y3)) else((ck (y3+1)).bind fun x6=>
  kP k a0 a1 n x6)) else(some (.ok ()))
def uQ(k:Nat)(a0:(List Int))(a1:Int):Option Int:=
 bE (α:=Unit) (kP k a0 a1 k 0) (some) fun _=>
 some (-1:Int)
theorem EM(k:Nat)(a0:(List Int))(a1:Int)(r:Int)(h:uQ k a0 a1=some r):
 de Tryz.prog 56 [.rep Tl a0,I a1] [] (fun _:Unit=>(bv [I r],[])):=by
 unfold uQ at h
 replace h:=aY h
 refine de.of 19 Tryz.func56 rfl Tryz.ntmps56 rfl fun S w0=>?_
 refine sr ?_
 refine cq ?_
 refine nt ?_
 refine dx (Z:=Unit) (α:=Unit) (fun z2 x1=>[]) (fun z2 x1=>[]) (fun e=>e=r) h (fun e h=>Option.some.inj h) (fun K hR h=>?_) (fun z2 x1 h=>?_)
 ·
  refine au ?_;refine ak (aK (fun z4 y3=>[(0,.rep Tl a0),(1,I a1),(5,I y3)]) (fun z4 y3=>[]) (kP k a0 a1) k () 0 (fun _=>rfl) h (SE.fin [] ⟨rfl,rfl,rfl,trivial⟩ rfl) (fun n z4 y3 h=>?_));unfold kP at h;refine au ?_;refine ol iu ?_;refine jb (bB rfl) ?_;refine nt (ci h (fun h=>?_) (fun h=>?_))
  ·refine au ?_;refine ak (au ?_);obtain⟨x5,j,h⟩:=aa h;refine jb (aS (t:=Ti) rfl iu bV j) ?_;refine ja (av (t:=Ti) rfl bV rfl) ?_;refine mq ?_;refine jb (hP rfl) ?_;refine nt (ci h (fun h=>?_) (fun h=>?_))
   ·refine au ?_;obtain rfl:=hR _ h;exact ra
   ·refine au ?_;refine ae (mq ?_);obtain⟨x6,c,h⟩:=aa h;refine jb (bA rfl c) ?_;refine au ?_;exact jz ((),x6) h []
  ·refine au ?_;exact jz ((),()) h []
 ·
  refine au ?_;cases h;exact ra
