import Derived.Test.YtghkncjelangeaaGreatDoorQDFacts
set_option linter.unusedSimpArgs false
set_option linter.unusedVariables false
set_option maxRecDepth 4000
set_option maxHeartbeats 1000000
namespace Go.Proofs.YtghkncjelangeaaGreatDoor
open K Go Go.Proofs
def jH(k:Nat)(a0:aP):Nat→Int→Option (Except Bool Unit)
 |0,_=>none
 |n+1,y6=>
  if y6 < (a0.2.1.length:Int) then((aS a0.2.1 y6).bind fun x8=>
  if 20 < (x8.2.length:Int) then(some (.error true)) else((ck (y6+1)).bind fun x9=>
  jH k a0 n x9)) else(some (.ok ()))
def nw(k:Nat)(a0:aP):Option Bool:=
 ((if 20 < (a0.2.1.length:Int) then(some true) else(some (decide (20 < (a0.2.2.length:Int))))):Option (Bool)).bind fun x2=>
 if x2=true then(some true) else(bE (α:=Unit) (jH k a0 k 0) (some) fun _=>
 ((if(a0.2.1.length:Int)=5 then(some (decide ((a0.2.2.length:Int)=3))) else(some false)):Option (Bool)).bind fun c=>
 some c)
theorem An(k:Nat)(a0:aP)(r:Bool)(h:nw k a0=some r):
 bZ Tryz.prog 10 [.rep ap a0] [] (fun _:Unit=>(bu [.eq (.bool r)],[])):=by
 unfold nw at h
 replace h:=bb h
 refine bZ.of 39 Tryz.func10 rfl Tryz.ntmps10 rfl fun S w0=>?_
 refine sr ?_
 refine bx fun b1=>?_
 refine cq ?_
 refine nt ?_
 refine ae ?_
 refine aM (Z:=Unit) (α:=Bool) (fun z3 x2=>[(1,Pt b1),(13,.eq (.bool x2))]) (fun z3 x2=>[.obj b1 25 (.rep ap a0)]) h (fun K h=>?_) (fun z3 x2 h=>?_)
 ·
  refine ab (fl bU ?_);refine lo eR ?_;refine ol mB ?_;refine jb (ip rfl) ?_;refine mq ?_;refine ct (s:=8) rfl (fun hb=>?_) (fun hb=>?_)
  ·replace h:=cH (oD hb) h;iterate 4 refine gn ?_
   refine pt (nl ?_);exact jz ((),true) h [0]
  ·replace h:=bS (nI hb) h;refine ga (av rfl cK) ?_;refine jA rfl rfl rfl rfl rfl rfl (aj rfl bR jt rfl) ⟨rfl,trivial⟩ ?_;refine ga (jE rfl rfl dA) ?_;refine gb (ip rfl) ?_;refine pf (nl ?_);exact jz ((),decide (20 < (a0.2.2.length:Int))) h [0]
 ·
  refine cv h (fun h=>?_) (fun h=>?_)
  ·refine sr (cq (nt (rx ?_)));cases h;exact ra
  ·refine sk (dQ (Z:=Unit) (α:=Unit) (fun z5 x4=>[(1,Pt b1)]) (fun z5 x4=>[.obj b1 25 (.rep ap a0)]) (fun e=>e=r) h (fun e h=>Option.some.inj h) (fun K hR h=>?_) (fun z5 x4 h=>?_))
   ·refine sr (cq (nt (ao ?_)));refine aK (fun z7 y6=>[(1,Pt b1),(3,I y6)]) (fun z7 y6=>[.obj b1 25 (.rep ap a0)]) (jH k a0) k () 0 (fun _=>rfl) h (SE.fin [0] ⟨rfl,rfl,trivial⟩ rfl) (fun n z7 y6 h=>?_);unfold jH at h;refine ae (sr (mq ?_));refine fl bU ?_;refine lo eR ?_;refine ol mB ?_;refine jb (bj rfl) ?_;refine nt (ci h (fun h=>?_) (fun h=>?_))
    ·refine sk (ae (ao (sr (fl bU ?_))));refine lo eR ?_;refine mq ?_;obtain⟨x8,u,h⟩:=aa h;refine jb (aF (t:=aH) rfl mB gC u) ?_;refine ja (aJ 1 false rfl j0 rfl) ?_;refine ja (an (t:=(.slice (.int .i64))) rfl bR rfl) ?_;refine ol dA ?_;refine jb (ip rfl) ?_;refine nt (ci h (fun h=>?_) (fun h=>?_))
     ·refine sr (cq (nt (aA (br (bi (aV ?_))))));obtain rfl:=hR _ h;exact ra
     ·refine aY (aN (tn (ab (mq ?_))));obtain⟨x9,l,h⟩:=aa h;refine jb (bg rfl l) ?_;refine aq (nl ?_);exact jz ((),x9) h [0]
    ·refine xa ?_;exact jz ((),()) h [0]
   ·refine aM (Z:=Unit) (α:=Bool) (fun j c=>[(2,.eq (.bool c))]) (fun j c=>[]) h (fun K h=>?_) (fun j c h=>?_)
    ·refine ab (fl bU ?_);refine lo eR ?_;refine ol mB ?_;refine jb (fU rfl) ?_;refine mq ?_;refine ct (s:=33) rfl (fun hb=>?_) (fun hb=>?_)
     ·replace h:=cH (oD hb) h;refine ga (av rfl cK) ?_;refine jA rfl rfl rfl rfl rfl rfl (aj rfl bR jt rfl) ⟨rfl,trivial⟩ ?_;refine ga (jE rfl rfl dA) ?_;refine gb (fU rfl) ?_;refine pt ?_;refine aq (nl ?_);exact jz ((),decide ((a0.2.2.length:Int)=3)) h []
     ·replace h:=bS (nI hb) h;iterate 4 refine gn ?_
      refine pf ?_;refine aq (nl ?_);exact jz ((),false) h []
    ·refine aA ?_;cases h;exact ra
def jG(k:Nat)(a0:(List (List Int))):Nat→Int→Option (Except Bool Unit)
 |0,_=>none
 |n+1,y3=>
  ((if y3 < (a0.length:Int) then(some (decide (y3 < 20))) else(some false)):Option (Bool)).bind fun x5=>
  if x5=true then((aS a0 y3).bind fun x7=>
  if 20 < (x7.length:Int) then(some (.error true)) else((ck (y3+1)).bind fun x8=>
  jG k a0 n x8)) else(some (.ok ()))
def nv(k:Nat)(a0:(List (List Int))):Option Bool:=
 bE (α:=Unit) (jG k a0 k 0) (some) fun _=>
 some (decide (20 < (a0.length:Int)))
theorem Am(k:Nat)(a0:(List (List Int)))(r:Bool)(h:nv k a0=some r):
 bZ Tryz.prog 11 [.rep (.slice (.slice (.int .i64))) a0] [] (fun _:Unit=>(bu [.eq (.bool r)],[])):=by
 unfold nv at h
 replace h:=bb h
 refine bZ.of 23 Tryz.func11 rfl Tryz.ntmps11 rfl fun S w0=>?_
 refine sr ?_
 refine cq ?_
 refine nt ?_
 refine dQ (Z:=Unit) (α:=Unit) (fun z2 x1=>[(0,.rep (.slice (.slice (.int .i64))) a0)]) (fun z2 x1=>[]) (fun e=>e=r) h (fun e h=>Option.some.inj h) (fun K hR h=>?_) (fun z2 x1 h=>?_)
 ·
  refine sr (cq (nt (ao ?_)));refine aK (fun z4 y3=>[(0,.rep (.slice (.slice (.int .i64))) a0),(3,I y3)]) (fun z4 y3=>[]) (jG k a0) k () 0 (fun _=>rfl) h (SE.fin [] ⟨rfl,rfl,trivial⟩ rfl) (fun n z4 y3 h=>?_);unfold jG at h;refine ae (aM (Z:=Unit) (α:=Bool) (fun z6 x5=>[(0,.rep (.slice (.slice (.int .i64))) a0),(3,I y3),(11,.eq (.bool x5))]) (fun z6 x5=>[]) h (fun K h=>?_) (fun z6 x5 h=>?_))
  ·refine ab ?_;iterate 2 refine mq ?_
   refine ol mA ?_;refine jb (bj rfl) ?_;refine mq ?_;refine ct (s:=8) rfl (fun hb=>?_) (fun hb=>?_)
   ·replace h:=cH (oD hb) h;refine gm ?_;refine gb (bj rfl) ?_;refine pt (nl ?_);exact jz ((),decide (y3 < 20)) h []
   ·replace h:=bS (nI hb) h;iterate 2 refine gn ?_
    refine pf (nl ?_);exact jz ((),false) h []
  ·refine cv h (fun h=>?_) (fun h=>?_)
   ·refine sk (ae (ao (sr ?_)));iterate 2 refine mq ?_
    obtain⟨x7,j,h⟩:=aa h;refine jb (aF (t:=(.slice (.int .i64))) rfl mA bR j) ?_;refine ja (an (t:=(.slice (.int .i64))) rfl bR rfl) ?_;refine ol dA ?_;refine jb (ip rfl) ?_;refine nt (ci h (fun h=>?_) (fun h=>?_))
    ·refine sr (cq (nt (aA (br (bi (aV ?_))))));obtain rfl:=hR _ h;exact ra
    ·refine aY (aN (tn (ab (mq ?_))));obtain⟨x8,c,h⟩:=aa h;refine jb (bg rfl c) ?_;refine aq (nl ?_);exact jz ((),x8) h []
   ·refine xa ?_;exact jz ((),()) h []
 ·
  refine sr (mq ?_);refine ol mA ?_;refine jb (ip rfl) ?_;refine aq (nt (aA ?_));cases h;exact ra
def eH(k:Nat)(a0:Int)(a1:Int)(a2:Int):Option Bool:=
 ((if a1≤a0 then(some (decide (a0≤a2))) else(some false)):Option (Bool)).bind fun x1=>
 some x1
theorem eV(k:Nat)(a0:Int)(a1:Int)(a2:Int)(r:Bool)(h:eH k a0 a1 a2=some r):
 bZ Tryz.prog 53 [I a0,I a1,I a2] [] (fun _:Unit=>(bu [.eq (.bool r)],[])):=by
 unfold eH at h
 replace h:=bb h
 refine bZ.of 15 Tryz.func53 rfl Tryz.ntmps53 rfl fun S w0=>?_
 refine sr ?_
 refine cq ?_
 refine nt ?_
 refine aM (Z:=Unit) (α:=Bool) (fun z2 x1=>[(6,.eq (.bool x1))]) (fun z2 x1=>[]) h (fun K h=>?_) (fun z2 x1 h=>?_)
 ·
  refine ab ?_;iterate 2 refine mq ?_
  refine jb (vk rfl) ?_;refine mq ?_;refine ct (s:=10) rfl (fun hb=>?_) (fun hb=>?_)
  ·replace h:=cH (oD hb) h;refine gm ?_;refine gm ?_;refine gb (vk rfl) ?_;refine pt ?_;refine aq (nl ?_);exact jz ((),decide (a0≤a2)) h []
  ·replace h:=bS (nI hb) h;iterate 3 refine gn ?_
   refine pf ?_;refine aq (nl ?_);exact jz ((),false) h []
 ·
  refine aA ?_;cases h;exact ra
def c9(k:Nat)(a0:aP)(a1:eF):Nat→Int→Option (Except Int Unit)
 |0,_=>none
 |n+1,y6=>
  if y6 < (a1.2.length:Int) then((aS a1.2 y6).bind fun x8=>
  (ck (a0.1 - 1)).bind fun x9=>
  (eH k x8 0 x9).bind fun l=>
  if¬(l=true) then(some (.error 1)) else(((if 0 < y6 then((ck (y6 - 1)).bind fun h=>
  (aS a1.2 h).bind fun e=>
  some (decide (x8≤e))) else(some false)):Option (Bool)).bind fun j=>
  if j=true then(some (.error 5)) else((ck (y6+1)).bind fun c=>
  c9 k a0 a1 n c))) else(some (.ok ()))
def iy(k:Nat)(a0:aP)(a1:eF):Option Int:=
 (eH k a1.1 1 3).bind fun r3=>
 if¬(r3=true) then(some 1) else(bE (α:=Unit) (c9 k a0 a1 k 0) (some) fun _=>
 some 0)
theorem rE(k:Nat)(a0:aP)(a1:eF)(r:Int)(h:iy k a0 a1=some r):
 bZ Tryz.prog 62 [.rep ap a0,.rep aH a1] [] (fun _:Unit=>(bu [I r],[])):=by
 unfold iy at h
 replace h:=bb h
 refine bZ.of 38 Tryz.func62 rfl Tryz.ntmps62 rfl fun S w0=>?_
 refine sr ?_
 refine bx fun b1=>?_
 refine bx fun b2=>?_
 refine cq ?_
 refine nt ?_
 refine ae ?_
 refine sr ?_
 refine fl kB ?_
 refine lo cg ?_
 obtain⟨r3,O,h⟩:=aa h
 have Q:=eV k a1.1 1 3 r3 O
 refine jc (ar [.tmp 8,.const (.int .i64 (1)),.const (.int .i64 (3))] rfl rfl AB rfl Q) ?_
 refine ja (eC rfl) ?_
 refine nt ?_
 refine cw h (fun h=>?_) (fun h=>?_)
 ·
  refine sr (cq (nt (rx ?_)));cases h;exact ra
 ·
  refine sk (dQ (Z:=Unit) (α:=Unit) (fun z5 x4=>[]) (fun z5 x4=>[]) (fun e=>e=r) h (fun e h=>Option.some.inj h) (fun K hR h=>?_) (fun z5 x4 h=>?_))
  ·refine sr (fl j0 ?_);refine lo bR ?_;refine ol dA ?_;refine eG rfl ?_;refine nt (ao (aK (fun z7 y6=>[(2,Pt b1),(3,Pt b2),(12,Ri a1.2),(13,I (a1.2.length:Int)),(14,I y6)]) (fun z7 y6=>[.obj b1 25 (.rep ap a0),.obj b2 27 (.rep aH a1)]) (c9 k a0 a1) k () 0 (fun _=>rfl) h (SE.fin [1,0] ⟨rfl,rfl,rfl,rfl,rfl,trivial⟩ rfl) (fun n z7 y6 h=>?_)));unfold c9 at h;refine sr (jb (bj rfl) ?_);refine nt (ae (ci h (fun h=>?_) (fun h=>?_)))
   ·refine sk (ae (ao (sr (mq ?_))));obtain⟨x8,M,h⟩:=aa h;refine jb (aF (t:=(.int .i64)) rfl dA cg M) ?_;refine ja (an (t:=(.int .i64)) rfl cg rfl) ?_;refine aq ?_;refine aq (nt (ae (sr ?_)));refine mq ?_;refine fl fp ?_;refine lo cg ?_;obtain⟨x9,J,h⟩:=aa h;refine jb (fS rfl J) ?_;obtain⟨F,y,h⟩:=aa h;refine jc (ar [.tmp 19,.const (.int .i64 (0)),.tmp 22] rfl rfl AB rfl (eV k x8 0 x9 F y)) ?_;refine ja (eC rfl) ?_;refine nt (cw h (fun h=>?_) (fun h=>?_))
    ·refine sr (cq (nt (rx (br (bi (aV ?_))))));obtain rfl:=hR _ h;exact ra
    ·refine sk (aM (Z:=Unit) (α:=Bool) (fun j c=>[(2,Pt b1),(3,Pt b2),(12,Ri a1.2),(13,I (a1.2.length:Int)),(14,I y6),(36,.eq (.bool c))]) (fun j c=>[.obj b1 25 (.rep ap a0),.obj b2 27 (.rep aH a1)]) h (fun K h=>?_) (fun j c h=>?_))
     ·refine ab (mq ?_);refine jb (ip rfl) ?_;refine mq ?_;refine ct (s:=27) rfl (fun hb=>?_) (fun hb=>?_)
      ·replace h:=cH (oD hb) h;refine gm ?_;refine ga (av rfl j0) ?_;refine fr 1 ?_;refine jA rfl rfl rfl rfl rfl rfl (aj rfl bR jt rfl) ⟨rfl,trivial⟩ ?_;refine gm ?_;obtain⟨U,x,h⟩:=aa h;refine gb (fS rfl x) ?_;obtain⟨E,u,h⟩:=aa h;refine gb (aF (t:=(.int .i64)) rfl dA cg u) ?_;refine ga (an (t:=(.int .i64)) rfl cg rfl) ?_;refine gb (vk rfl) ?_;refine pt (nl ?_);exact jz ((),decide (x8≤E)) h [1,0]
      ·replace h:=bS (nI hb) h;iterate 8 refine gn ?_
       refine pf (nl ?_);exact jz ((),false) h [0,1]
     ·refine cv h (fun h=>?_) (fun h=>?_)
      ·refine sr (cq (nt (aA (br (bi (aV ?_))))));obtain rfl:=hR _ h;exact ra
      ·refine aY (aN (tn (ab ?_)));obtain⟨D,l,h⟩:=aa h;refine jb (bg rfl l) ?_;refine mq (nl ?_);exact jz ((),D) h [0,1]
   ·refine xa ?_;exact jz ((),()) h []
  ·refine sr (cq (nt (aA ?_)));cases h;exact ra
def fM(k:Nat)(a0:aP):Nat→Int→Option (Except Int Unit)
 |0,_=>none
 |n+1,y5=>
  if y5 < (a0.2.1.length:Int) then((aS a0.2.1 y5).bind fun x7=>
  (iy k a0 x7).bind fun r9=>
  if¬(r9=0) then(some (.error r9)) else((ck (y5+1)).bind fun c=>
  fM k a0 n c)) else(some (.ok ()))
def fL(k:Nat)(a0:aP):Nat→Int→Option (Except Int Unit)
 |0,_=>none
 |n+1,c=>
  if c < (a0.2.2.length:Int) then((aS a0.2.2 c).bind fun h=>
  (eH k h 0 9).bind fun j=>
  if¬(j=true) then(some (.error 1)) else((ck (c+1)).bind fun e=>
  fL k a0 n e)) else(some (.ok ()))
def lD(k:Nat)(a0:aP):Option Int:=
 (eH k a0.1 1 6).bind fun r2=>
 if¬(r2=true) then(some 1) else(if 5 < (a0.2.1.length:Int) then(some 6) else(bE (α:=Unit) (fM k a0 k 0) (some) fun _=>
 if(a0.2.2.length:Int) < 1 then(some 7) else(if 3 < (a0.2.2.length:Int) then(some 6) else(bE (α:=Unit) (fL k a0 k 0) (some) fun _=>
 some 0))))
theorem rF(k:Nat)(a0:aP)(r:Int)(h:lD k a0=some r):
 bZ Tryz.prog 20 [.rep ap a0] [] (fun _:Unit=>(bu [I r],[])):=by
 unfold lD at h
 replace h:=bb h
 refine bZ.of 51 Tryz.func20 rfl Tryz.ntmps20 rfl fun S w0=>?_
 refine sr ?_
 refine bx fun b1=>?_
 refine cq ?_
 refine nt ?_
 refine ae ?_
 refine sr ?_
 refine fl fp ?_
 refine lo cg ?_
 obtain⟨r2,U,h⟩:=aa h
 have X:=eV k a0.1 1 6 r2 U
 refine jc (ar [.tmp 10,.const (.int .i64 (1)),.const (.int .i64 (6))] rfl rfl AB rfl X) ?_
 refine ja (eC rfl) ?_
 refine nt ?_
 refine cw h (fun h=>?_) (fun h=>?_)
 ·
  refine sr (cq (nt (rx ?_)));cases h;exact ra
 ·
  refine sk (ae (sr (fl bU ?_)));refine lo eR ?_;refine ol mB ?_;refine jb (ip rfl) ?_;refine nt (ci h (fun h=>?_) (fun h=>?_))
  ·refine sr (cq (nt (rx ?_)));cases h;exact ra
  ·refine sk (dQ (Z:=Unit) (α:=Unit) (fun z4 x3=>[(1,Pt b1)]) (fun z4 x3=>[.obj b1 25 (.rep ap a0)]) (fun e=>e=r) h (fun e h=>Option.some.inj h) (fun K hR h=>?_) (fun z4 x3 h=>?_))
   ·refine sr (fl bU ?_);refine lo eR ?_;refine ol mB ?_;refine eG rfl ?_;refine nt (ao (aK (fun z6 y5=>[(1,Pt b1),(18,Rs aH a0.2.1),(19,I (a0.2.1.length:Int)),(20,I y5)]) (fun z6 y5=>[.obj b1 25 (.rep ap a0)]) (fM k a0) k () 0 (fun _=>rfl) h (SE.fin [0] ⟨rfl,rfl,rfl,rfl,trivial⟩ rfl) (fun n z6 y5 h=>?_)));unfold fM at h;refine sr (jb (bj rfl) ?_);refine nt (ae (ci h (fun h=>?_) (fun h=>?_)))
    ·refine sk (ae (ao (sr ?_)));obtain⟨x7,O,h⟩:=aa h;refine jb (aF (t:=aH) rfl mB gC O) ?_;refine ja (an (t:=aH) rfl gC rfl) ?_;refine aD rfl rfl rfl (a9 rfl uc Lm) trivial fun b8=>?_;refine bf rfl rfl (a8 rfl gC rfl rfl rfl) ⟨rfl,rfl,trivial⟩ ?_;refine nt (sr (fr 1 ?_));refine lo cJ ?_;refine fr 1 ?_;refine lo gC ?_;obtain⟨r9,Q,h⟩:=aa h;refine jb (ar [.tmp 24,.tmp 25] rfl rfl SX rfl (rE k a0 x7 r9 Q)) ?_;refine aq (nt (sr ?_));refine mq ?_;refine jb (gP rfl) ?_;refine nt (cn h (fun h=>?_) (fun h=>?_))
     ·refine sr (mq ?_);refine aq (nt (aA (br (bi (aV ?_)))));obtain rfl:=hR _ h;exact ra
     ·refine aY (aN (tn (ab ?_)));obtain⟨J,y,h⟩:=aa h;refine jb (bg rfl y) ?_;refine mq (nl ?_);exact jz ((),J) h [1]
    ·refine xa ?_;exact jz ((),()) h [0]
   ·refine ae (sr (fl cK ?_));refine lo bR ?_;refine ol dA ?_;refine aq (nt (ao (sr ?_)));refine mq ?_;refine jb (bj rfl) ?_;refine aq (nt ?_);refine ci h (fun h=>?_) (fun h=>?_)
    ·refine sr (cq (nt (aA (bi (aV ?_)))));cases h;exact ra
    ·refine sr (mq ?_);refine jb (ip rfl) ?_;refine aq (nt ?_);refine ci h (fun h=>?_) (fun h=>?_)
     ·refine sr (cq (nt (aA (bi (aV ?_)))));cases h;exact ra
     ·refine aY (aN (tn (dQ (Z:=Unit) (α:=Unit) (fun l s=>[]) (fun l s=>[]) (fun e=>e=r) h (fun e h=>Option.some.inj h) (fun K hR h=>?_) (fun l s h=>?_))))
      ·refine sr (fl cK ?_);refine lo bR ?_;refine ol dA ?_;refine eG rfl ?_;refine nt (ao (aK (fun j c=>[(41,Ri a0.2.2),(42,I (a0.2.2.length:Int)),(43,I c)]) (fun j c=>[]) (fL k a0) k () 0 (fun _=>rfl) h (SE.fin [] ⟨rfl,rfl,rfl,trivial⟩ rfl) (fun n j c h=>?_)));unfold fL at h;refine sr (jb (bj rfl) ?_);refine nt (ae (ci h (fun h=>?_) (fun h=>?_)))
       ·refine sk (ae (ao (sr ?_)));obtain⟨F,x,h⟩:=aa h;refine jb (aF (t:=(.int .i64)) rfl dA cg x) ?_;refine ja (an (t:=(.int .i64)) rfl cg rfl) ?_;refine aq (nt (sr ?_));refine mq ?_;obtain⟨M,D,h⟩:=aa h;refine jc (ar [.tmp 47,.const (.int .i64 (0)),.const (.int .i64 (9))] rfl rfl AB rfl (eV k F 0 9 M D)) ?_;refine ja (eC rfl) ?_;refine nt (cw h (fun h=>?_) (fun h=>?_))
        ·refine sr (cq (nt (aA (br (bi (aV ?_))))));obtain rfl:=hR _ h;exact ra
        ·refine aY (aN (tn (ab ?_)));obtain⟨E,u,h⟩:=aa h;refine jb (bg rfl u) ?_;refine mq (nl ?_);exact jz ((),E) h []
       ·refine xa ?_;exact jz ((),()) h []
      ·refine sr (cq (nt (aA ?_)));cases h;exact ra
def dK(k:Nat)(a0:Int)(a1:Int):Option Bool:=
 (dy (0≤a1)).bind fun _=>
 some (decide ((wy .u8 (iu .u8 a0 a1) 1)=1))
theorem gh(k:Nat)(a0:Int)(a1:Int)(r:Bool)(h:dK k a0 a1=some r):
 bZ Tryz.prog 57 [.eq (.int .u8 a0),I a1] [] (fun _:Unit=>(bu [.eq (.bool r)],[])):=by
 unfold dK at h
 replace h:=bb h
 refine bZ.of 10 Tryz.func57 rfl Tryz.ntmps57 rfl fun S w0=>?_
 refine sr ?_
 refine cq ?_
 refine nt ?_
 refine sr ?_
 iterate 2 refine mq ?_
 obtain⟨u1,c,h⟩:=aa h
 refine jb (vi rfl (aB c)) ?_
 refine jb (Pe rfl) ?_
 refine jb (fU rfl) ?_
 refine aq ?_
 refine nt ?_
 refine aA ?_
 cases h
 exact ra
def eQ(k:Nat)(a0:Int)(a1:Int):Option Int:=
 (dy (0≤a1)).bind fun _=>
 some (DI .u8 a0 (nB .u8 1 a1))
theorem jo(k:Nat)(a0:Int)(a1:Int)(r:Int)(h:eQ k a0 a1=some r):
 bZ Tryz.prog 106 [.eq (.int .u8 a0),I a1] [] (fun _:Unit=>(bu [.eq (.int .u8 r)],[])):=by
 unfold eQ at h
 replace h:=bb h
 refine bZ.of 9 Tryz.func106 rfl Tryz.ntmps106 rfl fun S w0=>?_
 refine sr ?_
 refine cq ?_
 refine nt ?_
 refine sr ?_
 iterate 2 refine mq ?_
 obtain⟨u1,c,h⟩:=aa h
 refine jb (G6 rfl (aB c)) ?_
 refine jb (O8 rfl) ?_
 refine aq ?_
 refine nt ?_
 refine aA ?_
 cases h
 exact ra
def gI(k:Nat)(a0:aP)(a1:(List Int)):Nat→(Int×Int)→Option Int
 |0,_=>none
 |n+1,y4=>
  if y4.2 < (a1.length:Int) then((aS a1 y4.2).bind fun x6=>
  (aS a0.2.1 x6).bind fun x7=>
  (ck (y4.1+x7.1)).bind fun x8=>
  (ck (y4.2+1)).bind fun x9=>
  gI k a0 a1 n (x8,x9)) else(some y4.1)
def na(k:Nat)(a0:aP)(a1:(List Int)):Option Int:=
 ((gI k a0 a1 k (0,0)):Option (Int)).bind fun x2=>
 some x2
theorem tV(k:Nat)(a0:aP)(a1:(List Int))(r:Int)(h:na k a0 a1=some r):
 bZ Tryz.prog 107 [.rep ap a0,Ri a1] [] (fun _:Unit=>(bu [I r],[])):=by
 unfold na at h
 replace h:=bb h
 refine bZ.of 24 Tryz.func107 rfl Tryz.ntmps107 rfl fun S w0=>?_
 refine sr ?_
 refine bx fun b1=>?_
 refine cq ?_
 refine nt ?_
 refine sr ?_
 refine cq ?_
 refine nt ?_
 refine aM (Z:=Unit) (α:=Int) (fun z3 x2=>[(5,I x2)]) (fun z3 x2=>[]) h (fun K h=>?_) (fun z3 x2 h=>?_)
 ·
  refine sr (mq ?_);refine ol dA ?_;refine eG rfl ?_;refine nt (ao (aK (fun z5 y4=>[(2,Pt b1),(5,I y4.1),(8,Ri a1),(9,I (a1.length:Int)),(10,I y4.2)]) (fun z5 y4=>[.obj b1 25 (.rep ap a0)]) (gI k a0 a1) k () (0,0) (fun _=>rfl) h (SE.fin [0] ⟨rfl,rfl,rfl,rfl,rfl,trivial⟩ rfl) (fun n z5 y4 h=>?_)));unfold gI at h;refine sr (jb (bj rfl) ?_);refine nt (ae (ci h (fun h=>?_) (fun h=>?_)))
  ·refine sk (ae (ao (sr ?_)));obtain⟨x6,l,h⟩:=aa h;refine jb (aF (t:=(.int .i64)) rfl dA cg l) ?_;refine ja (an (t:=(.int .i64)) rfl cg rfl) ?_;refine aq (nt (ab ?_));refine mq ?_;refine fl bU ?_;refine lo eR ?_;refine mq ?_;obtain⟨x7,j,h⟩:=aa h;refine jb (aF (t:=aH) rfl mB gC j) ?_;refine ja (aJ 1 false rfl kB rfl) ?_;refine ja (an (t:=(.int .i64)) rfl cg rfl) ?_;obtain⟨x8,e,h⟩:=aa h;refine jb (bg rfl e) ?_;refine aq (au (aN (tn (ab ?_))));obtain⟨x9,c,h⟩:=aa h;refine jb (bg rfl c) ?_;refine mq (nl ?_);exact jz ((),(x8,x9)) h [0]
  ·refine xa ?_;exact jz ((),y4.1) h []
 ·
  refine sr (mq ?_);refine aq (nt (aA ?_));cases h;exact ra
def eP(k:Nat)(a0:aP)(x8:(List Int)):Nat→(Int×Int)→Option (Except Value Int)
 |0,_=>none
 |n+1,c=>
  if c.2 < (x8.length:Int) then((aS x8 c.2).bind fun e=>
  (ck ((a0.2.1.length:Int) - 1)).bind fun j=>
  (eH k e 0 j).bind fun s=>
  if¬(s=true) then(some (.error (.iface 97 (.agg #[.int .i64 3])))) else((dK k c.1 e).bind fun r=>
  if r=true then(some (.error (.iface 97 (.agg #[.int .i64 4])))) else((eQ k c.1 e).bind fun l=>
  (ck (c.2+1)).bind fun h=>
  eP k a0 x8 n (l,h)))) else(some (.ok c.1))
def fK(k:Nat)(a0:aP)(a1:(List (List Int))):Nat→(Int×Int)→Option (Except Value Int)
 |0,_=>none
 |n+1,y4=>
  if y4.2 < (a1.length:Int) then(bE (α:=Int) ((aS a1 y4.2).bind fun x8=>
  bE (α:=Int) (eP k a0 x8 k (y4.1,0)) (fun e=>some (.error e)) fun x9=>
  (na k a0 x8).bind fun j=>
  (aS a0.2.2 y4.2).bind fun h=>
  if h < j then(some (.error (.iface 97 (.agg #[.int .i64 12])))) else(some (.ok x9))) (fun e=>some (.error e)) fun x6=>
  (ck (y4.2+1)).bind fun c=>
  fK k a0 a1 n (x6,c)) else(some (.ok y4.1))
def lC(k:Nat)(a0:aP)(a1:(List (List Int))):Option Value:=
 if(a1.length:Int) < (a0.2.2.length:Int) then(some (.iface 97 (.agg #[.int .i64 7]))) else(if(a0.2.2.length:Int) < (a1.length:Int) then(some (.iface 97 (.agg #[.int .i64 6]))) else(bE (α:=Int) (fK k a0 a1 k (0,0)) (some) fun x2=>
 (dy (0≤(a0.2.1.length:Int))).bind fun _=>
 if¬(x2=(IntKind.u8.wrap ((nB .u8 1 (a0.2.1.length:Int)) - 1))) then(some (.iface 97 (.agg #[.int .i64 7]))) else(some (.nilIface))))
theorem rz(k:Nat)(a0:aP)(a1:(List (List Int)))(r:Value)(h:lC k a0 a1=some r):
 bZ Tryz.prog 64 [.rep ap a0,.rep (.slice (.slice (.int .i64))) a1] [] (fun _:Unit=>(bu [.eq r],[])):=by
 unfold lC at h
 replace h:=bb h
 refine bZ.of 80 Tryz.func64 rfl Tryz.ntmps64 rfl fun S w0=>?_
 refine sr ?_
 refine bx fun b1=>?_
 refine cq ?_
 refine nt ?_
 refine ae ?_
 refine sr ?_
 refine fl cK ?_
 refine lo bR ?_
 refine ol dA ?_
 refine aq ?_
 refine nt ?_
 refine ao ?_
 refine sr ?_
 refine mq ?_
 refine ol mA ?_
 refine mq ?_
 refine jb (bj rfl) ?_
 refine aq ?_
 refine nt ?_
 refine ci h (fun h=>?_) (fun h=>?_)
 ·
  refine sr (ja (cI [(0,.const (.int .i64 (7)),_)] rfl ER Bg xx (ia ⟨rfl,trivial⟩) rfl) ?_);refine ja (nq rfl OC) ?_;refine aq (nt (aA (bi (aV ?_))));cases h;exact ra
 ·
  refine sr (mq ?_);refine ol mA ?_;refine mq ?_;refine jb (ip rfl) ?_;refine aq (nt ?_);refine ci h (fun h=>?_) (fun h=>?_)
  ·refine sr (ja (cI [(0,.const (.int .i64 (6)),_)] rfl ER Bg xx (ia ⟨rfl,trivial⟩) rfl) ?_);refine ja (nq rfl OC) ?_;refine aq (nt (aA (bi (aV ?_))));cases h;exact ra
  ·refine aY (aN (tn (sr (cq (nt ?_)))));refine dQ (Z:=Unit) (α:=Int) (fun z3 x2=>[(2,Pt b1),(6,.eq (.int .u8 x2))]) (fun z3 x2=>[.obj b1 25 (.rep ap a0)]) (fun e=>e=r) h (fun e h=>Option.some.inj h) (fun K hR h=>?_) (fun z3 x2 h=>?_)
   ·refine sr (mq ?_);refine ol mA ?_;refine eG rfl ?_;refine nt (ao (aK (fun z5 y4=>[(2,Pt b1),(6,.eq (.int .u8 y4.1)),(28,.rep (.slice (.slice (.int .i64))) a1),(29,I (a1.length:Int)),(30,I y4.2)]) (fun z5 y4=>[.obj b1 25 (.rep ap a0)]) (fK k a0 a1) k () (0,0) (fun _=>rfl) h (SE.fin [0] ⟨rfl,rfl,rfl,rfl,rfl,trivial⟩ rfl) (fun n z5 y4 h=>?_)));unfold fK at h;refine sr (jb (bj rfl) ?_);refine nt (ae (ci h (fun h=>?_) (fun h=>?_)))
    ·refine sk (dQ (Z:=Unit) (α:=Int) (fun z7 x6=>[(2,Pt b1),(6,.eq (.int .u8 x6)),(28,.rep (.slice (.slice (.int .i64))) a1),(29,I (a1.length:Int)),(30,I y4.2)]) (fun z7 x6=>[.obj b1 25 (.rep ap a0)]) (fun e=>e=r) h (fun e h=>hR e h) (fun K hR h=>?_) (fun z7 x6 h=>?_))
     ·refine ao (sr (mq ?_));obtain⟨x8,se,h⟩:=aa h;refine jb (aF (t:=(.slice (.int .i64))) rfl mA bR se) ?_;refine ja (an (t:=(.slice (.int .i64))) rfl bR rfl) ?_;refine aq ?_;refine aq (nt ?_);refine dQ (Z:=Unit) (α:=Int) (fun s x9=>[(2,Pt b1),(6,.eq (.int .u8 x9)),(7,I y4.2),(8,Ri x8),(28,.rep (.slice (.slice (.int .i64))) a1),(29,I (a1.length:Int)),(30,I y4.2)]) (fun s x9=>[.obj b1 25 (.rep ap a0)]) (fun e=>e=r) h (fun e h=>hR e h) (fun K hR h=>?_) (fun s x9 h=>?_)
      ·refine sr (mq ?_);refine ol dA ?_;refine eG rfl ?_;refine nt (ao (aK (fun l c=>[(2,Pt b1),(6,.eq (.int .u8 c.1)),(7,I y4.2),(8,Ri x8),(28,.rep (.slice (.slice (.int .i64))) a1),(29,I (a1.length:Int)),(30,I y4.2),(35,Ri x8),(36,I (x8.length:Int)),(37,I c.2)]) (fun l c=>[.obj b1 25 (.rep ap a0)]) (eP k a0 x8) k () (y4.1,0) (fun _=>rfl) h (SE.fin [0] ⟨rfl,rfl,rfl,rfl,rfl,rfl,rfl,rfl,rfl,rfl,trivial⟩ rfl) (fun n l c h=>?_)));unfold eP at h;refine sr (jb (bj rfl) ?_);refine nt (ae (ci h (fun h=>?_) (fun h=>?_)))
       ·refine sk (ae (ao (sr ?_)));obtain⟨j,F,h⟩:=aa h;refine jb (aF (t:=(.int .i64)) rfl dA cg F) ?_;refine ja (an (t:=(.int .i64)) rfl cg rfl) ?_;refine aq (nt (ae (sr ?_)));refine mq ?_;refine fl bU ?_;refine lo eR ?_;refine ol mB ?_;obtain⟨ac,E,h⟩:=aa h;refine jb (fS rfl E) ?_;obtain⟨qt,U,h⟩:=aa h;refine jc (ar [.tmp 41,.const (.int .i64 (0)),.tmp 45] rfl rfl AB rfl (eV k j 0 ac qt U)) ?_;refine ja (eC rfl) ?_;refine nt (cw h (fun h=>?_) (fun h=>?_))
        ·refine sr (ja (cI [(0,.const (.int .i64 (3)),_)] rfl ER Bg xx (ia ⟨rfl,trivial⟩) rfl) ?_);refine ja (nq rfl OC) ?_;refine aq (nt (rx (br (bi (aV (br (bi (aV ?_))))))));obtain rfl:=hR _ h;exact ra
        ·refine sk (ae (sr ?_));iterate 2 refine mq ?_
         obtain⟨pp,Q,h⟩:=aa h;refine jb (ar [.tmp 50,.tmp 51] rfl rfl Iy rfl (gh k c.1 j pp Q)) ?_;refine nt (cv h (fun h=>?_) (fun h=>?_))
         ·refine sr (ja (cI [(0,.const (.int .i64 (4)),_)] rfl ER Bg xx (ia ⟨rfl,trivial⟩) rfl) ?_);refine ja (nq rfl OC) ?_;refine aq (nt (rx (br (bi (aV (br (bi (aV ?_))))))));obtain rfl:=hR _ h;exact ra
         ·refine sk (ab ?_);iterate 2 refine mq ?_
          obtain⟨u,O,h⟩:=aa h;refine jb (ar [.tmp 55,.tmp 56] rfl rfl D1 rfl (jo k c.1 j u O)) ?_;refine aq (au (aN (tn (ab ?_))));obtain⟨Y,D,h⟩:=aa h;refine jb (bg rfl D) ?_;refine mq (nl ?_);exact jz ((),(u,Y)) h [0]
       ·refine xa ?_;exact jz ((),c.1) h [0]
      ·refine ae (bO ?_);refine ea 0 (aj rfl cJ (vX) rfl) ?_;refine dm ?_;obtain⟨mc,M,h⟩:=aa h;refine db (ar [.tmp 59,.tmp 60] rfl rfl Mc rfl (tV k a0 x8 mc M)) ?_;refine da (av rfl cK) ?_;refine ea 0 (aj rfl bR jt rfl) ?_;refine dm ?_;obtain⟨Uk,y,h⟩:=aa h;refine db (aF (t:=(.int .i64)) rfl dA cg y) ?_;refine da (an (t:=(.int .i64)) rfl cg rfl) ?_;refine df cD ?_;refine jb (ip rfl) ?_;refine nt (ci h (fun h=>?_) (fun h=>?_))
       ·refine sr (ja (cI [(0,.const (.int .i64 (12)),_)] rfl ER Bg xx (ia ⟨rfl,trivial⟩) rfl) ?_);refine ja (nq rfl OC) ?_;refine aq (nt (aA (br (bi (aV ?_)))));obtain rfl:=hR _ h;exact ra
       ·refine aY (bn ?_);exact jz ((),x9) h [0]
     ·refine ab ?_;obtain⟨X,x,h⟩:=aa h;refine jb (bg rfl x) ?_;refine mq (nl ?_);exact jz ((),(x6,X)) h [0]
    ·refine xa ?_;exact jz ((),y4.1) h [0]
   ·refine ae (sr (mq ?_));refine fl bU ?_;refine lo eR ?_;refine ol mB ?_;obtain⟨Ul,J,h⟩:=aa h;refine jb (G6 rfl (aB J)) ?_;refine jb (G5 rfl) ?_;refine jb (gP rfl) ?_;refine nt (cn h (fun h=>?_) (fun h=>?_))
    ·refine sr (ja (cI [(0,.const (.int .i64 (7)),_)] rfl ER Bg xx (ia ⟨rfl,trivial⟩) rfl) ?_);refine ja (nq rfl OC) ?_;refine aq (nt (rx ?_));cases h;exact ra
    ·refine sk (sr (cq (nt (aA ?_))));cases h;exact ra
def cR(k:Nat)(a0:(List (List Int)))(y5:(List (List Int))×Int):Nat→((List (List Int))×Int)→Option (List (List Int))
 |0,_=>none
 |n+1,y9=>
  if y9.2 < 5 then((((dy (0≤y5.2∧y5.2 < 3)).bind fun _=>
  (aS y9.1 y5.2).bind fun c=>
  (dy (0≤y9.2∧y9.2 < 5)).bind fun _=>
  ((if y5.2 < (a0.length:Int) then((aS a0 y5.2).bind fun r=>
  some (decide (y9.2 < (r.length:Int)))) else(some false)):Option (Bool)).bind fun s=>
  if s=true then((aS a0 y5.2).bind fun l=>
  (aS l y9.2).bind fun j=>
  (dy (0≤y5.2∧y5.2 < 3)).bind fun _=>
  (aS (List.set y9.1 (Int.toNat y5.2) (List.set c (Int.toNat y9.2) (-1:Int))) y5.2).bind fun h=>
  (dy (0≤y9.2∧y9.2 < 5)).bind fun _=>
  some (List.set (List.set y9.1 (Int.toNat y5.2) (List.set c (Int.toNat y9.2) (-1:Int))) (Int.toNat y5.2) (List.set h (Int.toNat y9.2) j))) else(some (List.set y9.1 (Int.toNat y5.2) (List.set c (Int.toNat y9.2) (-1:Int))))):Option ((List (List Int)))).bind fun u=>
  (ck (y9.2+1)).bind fun e=>
  cR k a0 y5 n (u,e)) else(some y9.1)
def di(k:Nat)(a0:(List (List Int))):Nat→((List (List Int))×Int)→Option (List (List Int))
 |0,_=>none
 |n+1,y5=>
  if y5.2 < 3 then(((cR k a0 y5 k (y5.1,0)):Option ((List (List Int)))).bind fun x7=>
  (ck (y5.2+1)).bind fun c=>
  di k a0 n (x7,c)) else(some y5.1)
def dL(k:Nat)(a0:(List (List Int))):Option (List (List Int)):=
 ((di k a0 k ([[0,0,0,0,0],[0,0,0,0,0],[0,0,0,0,0]],0)):Option ((List (List Int)))).bind fun x3=>
 some x3
theorem d5(k:Nat)(a0:(List (List Int)))(r:(List (List Int)))(h:dL k a0=some r):
 bZ Tryz.prog 56 [.rep (.slice (.slice (.int .i64))) a0] [] (fun _:Unit=>(bu [.rep (.arr 3 (.arr 5 (.int .i64))) r],[])):=by
 unfold dL at h
 replace h:=bb h
 refine bZ.of 43 Tryz.func56 rfl Tryz.ntmps56 rfl fun S w0=>?_
 refine sr ?_
 refine aD rfl rfl rfl (a9 rfl qF rh) trivial fun b1=>?_
 refine nt ?_
 refine sr ?_
 refine aD rfl rfl rfl (a9 rfl qF rh) trivial fun b2=>?_
 refine nt ?_
 refine aM (Z:=Unit) (α:=(List (List Int))) (fun z4 x3=>[(2,Pt b1),(3,Pt b2)]) (fun z4 x3=>[.obj b1 86 (.rep (.arr 3 (.arr 5 (.int .i64))) [[0,0,0,0,0],[0,0,0,0,0],[0,0,0,0,0]]),.obj b2 86 (.rep (.arr 3 (.arr 5 (.int .i64))) x3)]) h (fun K h=>?_) (fun z4 x3 h=>?_)
 ·
  refine sr (eG rfl ?_);refine nt (ao (aK (fun z6 y5=>[(0,.rep (.slice (.slice (.int .i64))) a0),(2,Pt b1),(3,Pt b2),(6,I y5.2)]) (fun z6 y5=>[.obj b1 86 (.rep (.arr 3 (.arr 5 (.int .i64))) [[0,0,0,0,0],[0,0,0,0,0],[0,0,0,0,0]]),.obj b2 86 (.rep (.arr 3 (.arr 5 (.int .i64))) y5.1)]) (di k a0) k () ([[0,0,0,0,0],[0,0,0,0,0],[0,0,0,0,0]],0) (fun _=>rfl) h (SE.fin [1,0] ⟨rfl,rfl,rfl,rfl,trivial⟩ rfl) (fun n z6 y5 h=>?_)));unfold di at h;refine sr (jb (bj rfl) ?_);refine nt (ae (ci h (fun h=>?_) (fun h=>?_)))
  ·refine sk (aM (Z:=Unit) (α:=(List (List Int))) (fun z8 x7=>[(0,.rep (.slice (.slice (.int .i64))) a0),(2,Pt b1),(3,Pt b2),(6,I y5.2)]) (fun z8 x7=>[.obj b1 86 (.rep (.arr 3 (.arr 5 (.int .i64))) [[0,0,0,0,0],[0,0,0,0,0],[0,0,0,0,0]]),.obj b2 86 (.rep (.arr 3 (.arr 5 (.int .i64))) x7)]) h (fun K h=>?_) (fun z8 x7 h=>?_))
   ·refine ao (sr (mq ?_));refine aq (nt (sr ?_));refine eG rfl ?_;refine nt (ao (aK (fun J y9=>[(0,.rep (.slice (.slice (.int .i64))) a0),(2,Pt b1),(3,Pt b2),(4,I y5.2),(6,I y5.2),(9,I y9.2)]) (fun J y9=>[.obj b1 86 (.rep (.arr 3 (.arr 5 (.int .i64))) [[0,0,0,0,0],[0,0,0,0,0],[0,0,0,0,0]]),.obj b2 86 (.rep (.arr 3 (.arr 5 (.int .i64))) y9.1)]) (cR k a0 y5) k () (y5.1,0) (fun _=>rfl) h (SE.fin [0,1] ⟨rfl,rfl,rfl,rfl,rfl,rfl,trivial⟩ rfl) (fun n J y9 h=>?_)));unfold cR at h;refine sr (jb (bj rfl) ?_);refine nt (ae (ci h (fun h=>?_) (fun h=>?_)))
    ·refine sk (aM (Z:=Unit) (α:=(List (List Int))) (fun F l=>[(0,.rep (.slice (.slice (.int .i64))) a0),(2,Pt b1),(3,Pt b2),(4,I y5.2),(6,I y5.2),(9,I y9.2)]) (fun F l=>[.obj b1 86 (.rep (.arr 3 (.arr 5 (.int .i64))) [[0,0,0,0,0],[0,0,0,0,0],[0,0,0,0,0]]),.obj b2 86 (.rep (.arr 3 (.arr 5 (.int .i64))) l)]) h (fun K h=>?_) (fun F l h=>?_))
     ·refine ao (sr (mq ?_));refine aq (nt (sr ?_));iterate 2 refine mq ?_
      obtain⟨Up,x,h⟩:=aa h;refine jb (iI rfl Rn Gz (aB x).1 (aB x).2) ?_;obtain⟨D,ac,h⟩:=aa h;obtain⟨Uo,e,h⟩:=aa h;refine jb (iI rfl Ro cg (aB e).1 (aB e).2) ?_;refine fr 1 ?_;refine bf rfl rfl (nW (t:=(.int .i64)) (off:=0) (i:=y5.2) (j:=y9.2) (N:=3) (L:=5) rfl cg .int rfl rfl rfl rfl ac (aB e).1 (aB e).2 rfl) ⟨rfl,rfl,trivial⟩ ?_;refine nt (aM (Z:=Unit) (α:=Bool) (fun E y=>[(0,.rep (.slice (.slice (.int .i64))) a0),(2,Pt b1),(3,Pt b2),(4,I y5.2),(5,I y9.2),(6,I y5.2),(9,I y9.2),(28,.eq (.bool y))]) (fun E y=>[.obj b1 86 (.rep (.arr 3 (.arr 5 (.int .i64))) [[0,0,0,0,0],[0,0,0,0,0],[0,0,0,0,0]]),.obj b2 86 (.rep (.arr 3 (.arr 5 (.int .i64))) (List.set y9.1 (Int.toNat y5.2) (List.set D (Int.toNat y9.2) (-1:Int))))]) h (fun K h=>?_) (fun E y h=>?_))
      ·refine ab ?_;iterate 2 refine mq ?_
       refine ol mA ?_;refine jb (bj rfl) ?_;refine mq ?_;refine ct (s:=20) rfl (fun hb=>?_) (fun hb=>?_)
       ·replace h:=cH (oD hb) h;refine gm ?_;refine gm ?_;refine gm ?_;obtain⟨Uk,Y,h⟩:=aa h;refine gb (aF (t:=(.slice (.int .i64))) rfl mA bR Y) ?_;refine ga (an (t:=(.slice (.int .i64))) rfl bR rfl) ?_;refine ga (jE rfl rfl dA) ?_;refine gb (bj rfl) ?_;refine pt (nl ?_);exact jz ((),decide (y9.2 < (Uk.length:Int))) h [1,0]
       ·replace h:=bS (nI hb) h;iterate 7 refine gn ?_
        refine pf (nl ?_);exact jz ((),false) h [1,0]
      ·refine cv h (fun h=>?_) (fun h=>?_)
       ·refine bO ?_;refine dm ?_;refine dm ?_;refine dm ?_;refine dm ?_;obtain⟨Ul,X,h⟩:=aa h;refine db (aF (t:=(.slice (.int .i64))) rfl mA bR X) ?_;refine da (an (t:=(.slice (.int .i64))) rfl bR rfl) ?_;refine dm ?_;obtain⟨se,U,h⟩:=aa h;refine db (aF (t:=(.int .i64)) rfl dA cg U) ?_;refine da (an (t:=(.int .i64)) rfl cg rfl) ?_;obtain⟨Un,u,h⟩:=aa h;refine db (iI rfl Rn Gz (aB u).1 (aB u).2) ?_;refine df cD ?_;obtain⟨qt,Q,h⟩:=aa h;obtain⟨Um,c,h⟩:=aa h;refine jb (iI rfl Ro cg (aB c).1 (aB c).2) ?_;refine fr 1 ?_;refine bf rfl rfl (nW (t:=(.int .i64)) (off:=0) (i:=y5.2) (j:=y9.2) (N:=3) (L:=5) rfl cg .int rfl rfl rfl rfl Q (aB c).1 (aB c).2 rfl) ⟨rfl,rfl,trivial⟩ ?_;refine au (bn ?_);exact jz ((),List.set (List.set y9.1 (Int.toNat y5.2) (List.set D (Int.toNat y9.2) (-1:Int))) (Int.toNat y5.2) (List.set qt (Int.toNat y9.2) se)) h [1,0]
       ·refine aY (bn ?_);exact jz ((),List.set y9.1 (Int.toNat y5.2) (List.set D (Int.toNat y9.2) (-1:Int))) h [0,1]
     ·refine ab ?_;obtain⟨pp,O,h⟩:=aa h;refine jb (bg rfl O) ?_;refine mq (nl ?_);exact jz ((),(l,pp)) h [0,1]
    ·refine dF (aU (aU (bY (bn ?_))));exact jz ((),y9.1) h [0,1]
   ·refine ab ?_;obtain⟨mc,M,h⟩:=aa h;refine jb (bg rfl M) ?_;refine mq (nl ?_);exact jz ((),(x7,mc)) h [0,1]
  ·refine xa ?_;exact jz ((),y5.1) h [0,1]
 ·
  refine sr (fr 1 ?_);refine lo fm ?_;refine fr 1 ?_;refine bf rfl rfl (a8 rfl fm rfl rfl rfl) ⟨rfl,rfl,trivial⟩ ?_;refine nt (aA ?_);obtain rfl:=Option.some.inj h;exact aQ () [.rep (.arr 3 (.arr 5 (.int .i64))) x3] 0 ⟨⟨_,_,_,_,_,rfl,(.head _),fm,(vX),rfl⟩,trivial⟩ rfl
def cX(k:Nat)(x5:(List Int)):Nat→((List Int)×Int)→Option (List Int)
 |0,_=>none
 |n+1,y6=>
  if y6.2 < 5 then((((aS x5 y6.2).bind fun c=>
  if 0≤c then((dy (bM (List.length y6.1+List.length [c]))).bind fun _=>
  some (y6.1++[c])) else(some y6.1)):Option ((List Int))).bind fun x8=>
  (ck (y6.2+1)).bind fun e=>
  cX k x5 n (x8,e)) else(some y6.1)
def dW(k:Nat)(a0:(List (List Int)))(a1:Int):Option (List Int):=
 (((dy (0≤a1∧a1 < 3)).bind fun _=>
 (aS a0 a1).bind fun x5=>
 cX k x5 k (([]:(List Int)),0)):Option ((List Int))).bind fun x2=>
 some x2
theorem gj(k:Nat)(a0:(List (List Int)))(a1:Int)(r:(List Int))(h:dW k a0 a1=some r):
 bZ Tryz.prog 80 [.rep (.arr 3 (.arr 5 (.int .i64))) a0,I a1] [] (fun _:Unit=>(bu [Ri r],[])):=by
 unfold dW at h
 replace h:=bb h
 refine bZ.of 22 Tryz.func80 rfl Tryz.ntmps80 rfl fun S w0=>?_
 refine sr ?_
 refine bx fun b1=>?_
 refine cq ?_
 refine nt ?_
 refine sr ?_
 refine cq ?_
 refine nt ?_
 refine aM (Z:=Value) (α:=(List Int)) (fun z3 x2=>[(5,.eq z3)]) (fun z3 x2=>[.sl z3 3 (.int .i64) x2]) h (fun K h=>?_) (fun z3 x2 h=>?_)
 ·
  refine sr (mq ?_);obtain⟨u4,l,h⟩:=aa h;refine jb (iI rfl Rn Gz (aB l).1 (aB l).2) ?_;obtain⟨x5,y,h⟩:=aa h;refine ka (BW (t:=(.arr 5 (.int .i64))) (off:=0) (i:=a1) (N:=3) rfl Gz (vX) rfl rfl rfl rfl y) ?_;refine eG rfl ?_;refine nt (ao (dN (SE.nil 3 (.int .i64)) ?_));refine aK (fun z7 y6=>[(5,.eq z7),(10,.rep (.arr 5 (.int .i64)) x5),(11,I y6.2)]) (fun z7 y6=>[.sl z7 3 (.int .i64) y6.1]) (cX k x5) k (.slice none 0 0) (([]:(List Int)),0) (fun _=>rfl) h (SE.fin [0] ⟨rfl,rfl,rfl,trivial⟩ rfl) (fun n z7 y6 h=>?_);unfold cX at h;refine sr (jb (bj rfl) ?_);refine nt (ae (ci h (fun h=>?_) (fun h=>?_)))
  ·refine sk (aM (Z:=Value) (α:=(List Int)) (fun z9 x8=>[(5,.eq z9),(10,.rep (.arr 5 (.int .i64)) x5),(11,I y6.2)]) (fun z9 x8=>[.sl z9 3 (.int .i64) x8]) h (fun K h=>?_) (fun z9 x8 h=>?_))
   ·refine ao (sr ?_);obtain⟨c,j,h⟩:=aa h;refine jb (zM (t:=(.int .i64)) rfl Ro cg rfl rfl (fun _=>rfl) j) ?_;refine aq (nt (sr ?_));refine mq ?_;refine jb (qy rfl) ?_;refine nt (ci h (fun h=>?_) (fun h=>?_))
    ·refine ab ?_;iterate 2 refine mq ?_
     refine ja (bp (t:=(.int .i64)) [(.tmp 17,_)] [c] rfl rfl dI (.cons rfl .int .nil) rfl rfl) ?_;obtain⟨D,s,h⟩:=aa h;refine c6 rfl rfl rfl (bH rfl rfl dI (aB s)) ⟨rfl,rfl,trivial⟩ fun x=>?_;refine aq (au (bn ?_));exact jz (x,y6.1++[c]) h [0]
    ·refine aY (bn ?_);exact jz (z7,y6.1) h [0]
   ·refine ab ?_;obtain⟨u,e,h⟩:=aa h;refine jb (bg rfl e) ?_;refine mq (nl ?_);exact jz (z9,(x8,u)) h [0]
  ·refine xa ?_;exact jz (z7,y6.1) h [0]
 ·
  refine sr (mq ?_);refine aq (nt (aA ?_));refine bv (eK [4,5,21] ⟨rfl,rfl,rfl,trivial⟩) ?_;cases h;exact ra
def cG{σ:Type}(k:Nat)(a1:(List Int))(Y:σ→(Int×Int)→Option (σ×Bool)):Nat→(Int×σ)→Option (σ)
 |0,_=>none
 |n+1,y2=>
  if 0≤y2.1 then((aS a1 y2.1).bind fun x4=>
  (Y y2.2 (y2.1,x4)).bind fun r5=>
  if¬(r5.2=true) then(some r5.1) else((ck (y2.1 - 1)).bind fun x7=>
  cG k a1 Y n (x7,r5.1))) else(some y2.2)
def gZ{σ:Type}(k:Nat)(Y:σ→(Int×Int)→Option (σ×Bool))(a1:(List Int))(s0:σ):Option (σ):=
 (ck ((a1.length:Int) - 1)).bind fun x1=>
 cG k a1 Y k (x1,s0)
theorem oH{M:Md Tryz.prog}{σ Z:Type}(E:Z→σ→List D)(l:Nat)(Y:σ→(Int×Int)→Option (σ×Bool))(k:Nat)(a1:(List Int))(c:Nat)(hY:∀z s p r,Y s p=some r→YT M l [I p.1,I p.2] (E z s) (fun z':Z=>(.eq (.bool r.2),E z' r.1))):
 ∀(z0:Z) (s0:σ) (r:σ),gZ k Y a1 s0=some r→dJ M 180 [.eq (.func (.yield l) #[] #[]),Pt c] ([.obj c 23 (Ri a1)]++E z0 s0) (fun z:Z=>(bu [],[.obj c 23 (Ri a1)]++E z r)):=by
 intro z0 s0 r h
 unfold gZ at h
 replace h:=bb h
 refine dJ.of 19 Tryz.func180 rfl Tryz.ntmps180 rfl fun S w0=>?_
 refine sr ?_
 refine lo bR ?_
 refine ol dA ?_
 obtain⟨x1,u,h⟩:=aa h
 refine jb (fS rfl u) ?_
 refine aq ?_
 refine nt ?_
 refine ao ?_
 refine aK (Z:=Z) (α:=Int×σ) (fun z3 y2=>[(0,.eq (.func (.yield l) #[] #[])),(1,Pt c),(3,I y2.1)]) (fun z3 y2=>[.obj c 23 (Ri a1)]++E z3 y2.2) (cG k a1 Y) k z0 (x1,s0) (fun _=>rfl) h (bq [.obj c 23 (Ri a1)] (E z0 s0) [0] ⟨rfl,rfl,rfl,trivial⟩ rfl) (fun n z3 y2 h=>?_)
 unfold cG at h
 refine ae ?_
 refine sr ?_
 refine mq ?_
 refine jb (qy rfl) ?_
 refine nt ?_
 refine ci h (fun h=>?_) (fun h=>?_)
 ·
  refine sk (ae (ao (sr ?_)));iterate 2 refine mq ?_
  refine lo bR ?_;refine mq ?_;obtain⟨x4,j,h⟩:=aa h;refine jb (aF (t:=(.int .i64)) rfl dA cg j) ?_;refine ja (an (t:=(.int .i64)) rfl cg rfl) ?_;obtain⟨r5,x,h⟩:=aa h;refine pH [.obj c 23 (Ri a1)] rfl rfl rfl (yc [.tmp 12,.tmp 16] rfl rfl rfl (hY z3 y2.2 (y2.1,x4) r5 x)) ⟨rfl,rfl,rfl,trivial⟩ fun z6=>?_;refine ja (eC rfl) ?_;refine nt (cw h (fun h=>?_) (fun h=>?_))
  ·refine aA (br (bi ?_));cases h;exact iY z6 [] trivial rfl
  ·refine aY (aN (tn (ab (mq ?_))));obtain⟨x7,e,h⟩:=aa h;refine jb (fS rfl e) ?_;refine aq (nl ?_);exact iW (z6,(x7,r5.1)) h (bq [.obj c 23 (Ri a1)] (E z6 r5.1) [0] ⟨rfl,rfl,rfl,trivial⟩ rfl)
 ·
  refine dF (aU (aU (bY (jk ?_))));cases h;exact iY z3 [] trivial rfl
theorem qm(a0:(List Int)):bZ Tryz.prog 162 [Ri a0] [] (fun z:Nat=>(bu [.eq (.func (.func 180) #[] #[(Pv z)])],[.obj z 23 (Ri a0)])):=by
 refine bZ.of 4 Tryz.func162 rfl Tryz.ntmps162 rfl fun S w0=>?_;refine sr (bx fun z=>?_);refine cq (nt (sr ?_));refine ja (tf [] [.tmp 1] [] [(Pv z)] rfl rfl rfl) ?_;refine aq (nt (aA ?_));exact aQ z [_] 1 ⟨rfl,trivial⟩ rfl
def oS(k:Nat)(a0:(List Int)):Option (List Int):=
 (gZ k (qx (fun(y3:(List Int)) (p5:(Int×Int))=>
  some ((p5.2::y3),true))) a0 ([],false)).bind fun r6=>
 if r6.2=true then(none) else(some r6.1)
theorem zm(k:Nat)(a0:(List Int))(r:(List Int))(h:oS k a0=some r):
 bZ Tryz.prog 129 [Ri a0] [] (fun _:Unit=>(bu [.rep (.lst (.int .i64)) r],[])):=by
 unfold oS at h
 replace h:=bb h
 refine yU 15 Tryz.func129 rfl Tryz.ntmps129 rfl fun {M} S w0=>?_
 refine sr ?_
 refine cq ?_
 refine nt ?_
 refine sr ?_
 refine aD rfl rfl rfl (a9 rfl OH QT) trivial fun b1=>?_
 refine nt ?_
 refine ae ?_
 refine sr ?_
 refine mq ?_
 refine aD rfl rfl rfl (ar [.tmp 6] rfl rfl Qw rfl (qm a0)) ⟨rfl,trivial⟩ fun b2=>?_
 refine nt ?_
 refine ao ?_
 refine jl 1 rfl ?_
 refine dN (og (a:=.eq (.pointer none)) (a':=.rep (.lst (.int .i64)) []) (vW .lnil)) ?_
 refine jl 1 rfl ?_
 obtain⟨r6,c,h⟩:=aa h
 refine oq (Δ:=[.obj b2 23 (Ri a0),.obj b1 201 (.rep (.lst (.int .i64)) [])]) (F:=[]) (X:=Unit) (J:=fun _=>Kw r6.2) (E:=fun z4=>[.obj b2 23 (Ri a0),.obj b1 201 (.rep (.lst (.int .i64)) r6.1)]) (r0:=fun _=>.tup .any) rfl rfl Qp (fun rec hp ha hb hs hpe hN hv l=>?_) (fun dl z4=>qJ (fun hj=>?_) (fun hj=>?_))
 ·
  rcases rec with⟨st0,pe0,fn0,tm0,ps0,as0,bd0,df0⟩;dsimp only at hp ha hb hs hpe hN hv;subst hp hs hpe;have vN:vL tm0 [(3,Pt b1)]:=⟨congrArg A.eq (hv 3 _ rfl).symm,trivial⟩;refine dJ.pick (M:=M) [1,0,2] [1,0,2] (oH (fun(z4:Unit) (q:(List Int)×Bool)=>[.raw l (.loop (jS ⟨.ready,none,fn0,tm0, #[8,9],as0,bd0,df0⟩ (Kw q.2))),.obj b1 201 (.rep (.lst (.int .i64)) q.1)]) l (qx (fun(y3:(List Int)) (p5:(Int×Int))=>
  some ((p5.2::y3),true))) k a0 b2 (fun z4 q p r' h=>?_) () ([],false) r6 c) rfl (fun _=>rfl) (fun _=>rfl)
  obtain⟨rq,hq,h2,rfl⟩:=qK h;obtain⟨y3,b5⟩:=q;obtain rfl:b5=false:=hq;replace h:=bb h2;obtain⟨p5,hpv⟩:∃x,x=p:=⟨_,rfl⟩;subst hpv;refine YT.pick (R':=(fun z4:Unit=>(.eq (.bool rq.2),[.raw l (.loop (jS ⟨.ready,none,fn0,tm0, #[8,9],as0,bd0,df0⟩ (Kw (!rq.2)))),.obj b1 201 (.rep (.lst (.int .i64)) rq.1)]))) [0,1] [0,1] (Ls ha hb (N:=15) (Γ:=[(3,Pt b1)]) rfl hN (by decide) vN (fun S w=>?_)) rfl (fun _=>rfl) (fun _=>rfl);refine ab (aq (nl ?_));refine vT rfl rfl ?_;refine ao (ab (mq ?_));refine fr 1 ?_;refine lo zr ?_;refine jb (cI [(0,.tmp 10,_),(1,.tmp 11,_)] rfl O4 OG Oa (ia ⟨rfl,rfl,trivial⟩) rfl) ?_;refine aD rfl rfl rfl (oy rfl trivial) ⟨rfl,trivial⟩ fun b7=>?_;refine cC (lK (t:=Gu) (x:=(p5.2,y3)) [13] (.agg (.pair .int .rep)) ⟨rfl,trivial⟩) ?_;refine bf rfl rfl (a8 rfl zr trivial rfl rfl) ⟨rfl,rfl,trivial⟩ ?_;refine au (aN (bv (og (a:=.at Gu (p5.2,y3)) (a':=.rep (.lst (.int .i64)) (p5.2::y3)) (vW .lcons)) ?_));refine dk 1 rfl ?_;cases h;exact tR () 1 rfl
 ·
  replace h:=bS (Ey hj) h;refine aN (tn (sr (fr 2 ?_)));refine lo zr ?_;refine aq (nt (aA ?_));refine dk 1 rfl ?_;refine yS ?_;cases h;exact ra
 ·
  replace h:=cH (Ew hj) h;cases h
def gJ(k:Nat)(a1:Int):Nat→(Int×(List Int)×(List Int)×(List Int))→Option (Int×(List Int))
 |0,_=>none
 |n+1,y2=>
  if List.isEmpty y2.2.2.2=true then((dy (bM (List.length y2.2.2.1+List.length y2.2.1))).bind fun _=>
  some (y2.1,y2.2.2.1++y2.2.1)) else((oP y2.2.2.2).bind fun x6=>
  (dK k a1 x6.1).bind fun r7=>
  if r7=true then((oP y2.2.2.2).bind fun x8=>
  (dy (bM (List.length y2.2.1+List.length [x8.1]))).bind fun _=>
  (oP y2.2.2.2).bind fun l=>
  gJ k a1 n (y2.1,y2.2.1++[x8.1],y2.2.2.1,l.2)) else(((if 0 < (y2.2.1.length:Int) then((oP y2.2.2.2).bind fun h=>
  (eQ k y2.1 h.1).bind fun r=>
  some r) else(some y2.1)):Option (Int)).bind fun j=>
  (oP y2.2.2.2).bind fun c=>
  (dy (bM (List.length y2.2.2.1+List.length [c.1]))).bind fun _=>
  (oP y2.2.2.2).bind fun e=>
  gJ k a1 n (j,y2.2.1,y2.2.2.1++[c.1],e.2)))
def nb(k:Nat)(a0:(List Int))(a1:Int):Option (Int×(List Int)):=
 (oS k a0).bind fun r1=>
 gJ k a1 k (0,([]:(List Int)),([]:(List Int)),r1)
theorem tX(k:Nat)(a0:(List Int))(a1:Int)(r:Int×(List Int))(h:nb k a0 a1=some r):
 bZ Tryz.prog 99 [Ri a0,.eq (.int .u8 a1)] [] (fun _:Unit=>(bu [.eq (.int .u8 r.1),Ri r.2],[])):=by
 unfold nb at h
 replace h:=bb h
 refine bZ.of 54 Tryz.func99 rfl Tryz.ntmps99 rfl fun S w0=>?_
 refine sr ?_
 refine cq ?_
 refine cq ?_
 refine nt ?_
 refine FV rfl (DX (by kernel_rfl) (DX (by kernel_rfl) (NC NA))) ?_
 refine sr ?_
 refine cq ?_
 refine cq ?_
 refine nt ?_
 refine sr ?_
 refine mq ?_
 obtain⟨r1,mc,h⟩:=aa h
 have pp:=zm k a0 r1 mc
 refine ja (ar [.tmp 9] rfl rfl QD rfl pp) ?_
 refine aq ?_
 refine nt ?_
 refine ae ?_
 refine Jc ?_
 refine tn ?_
 refine dN (SE.nil 3 (.int .i64)) ?_
 refine dN (SE.nil 3 (.int .i64)) ?_
 refine C9 (Z:=Value×Value) (α:=Int×(List Int)×(List Int)×(List Int)) rfl (fun z3 y2=>[(1,.eq (.int .u8 a1)),(4,.eq (.int .u8 y2.1)),(6,.eq z3.1),(7,.eq z3.2),(8,.rep (.lst (.int .i64)) y2.2.2.2)]) (fun z3 y2=>[.sl z3.1 3 (.int .i64) y2.2.1,.sl z3.2 3 (.int .i64) y2.2.2.1]) (gJ k a1) k ((.slice none 0 0),(.slice none 0 0)) (0,([]:(List Int)),([]:(List Int)),r1) (fun _=>rfl) h (SE.fin [1,0] ⟨rfl,rfl,rfl,rfl,rfl,trivial⟩ rfl) (fun n z3 y2 h=>?_)
 unfold gJ at h
 refine ae ?_
 refine sr ?_
 refine mq ?_
 refine jb (He rfl TD) ?_
 refine nt ?_
 refine cv h (fun h=>?_) (fun h=>?_)
 ·
  refine sr ?_;iterate 3 refine mq ?_
  refine cC (eK [6,15] ⟨rfl,rfl,trivial⟩) ?_;obtain⟨u4,Y,h⟩:=aa h;refine c6 rfl rfl rfl (bH rfl rfl dI (aB Y)) ⟨rfl,rfl,trivial⟩ fun v5=>?_;refine aq ?_;refine aq (nt (rx ?_));refine Jb ?_;refine bv (eK [5,16] ⟨rfl,rfl,trivial⟩) ?_;cases h;exact rb
 ·
  refine sk (ae (sr ?_));iterate 2 refine mq ?_
  obtain⟨x6,U,h⟩:=aa h;refine ja (lH rfl U) ?_;refine ja (aJ 1 false rfl uA rfl) ?_;refine ja (an (t:=(.int .i64)) rfl cg rfl) ?_;obtain⟨r7,ac,h⟩:=aa h;refine jb (ar [.tmp 17,.tmp 21] rfl rfl Iy rfl (gh k a1 x6.1 r7 ac)) ?_;refine nt (cv h (fun h=>?_) (fun h=>?_))
  ·refine sr ?_;iterate 2 refine mq ?_
   obtain⟨x8,Q,h⟩:=aa h;refine ja (lH rfl Q) ?_;refine ja (aJ 1 false rfl uA rfl) ?_;refine ja (an (t:=(.int .i64)) rfl cg rfl) ?_;refine ja (bp (t:=(.int .i64)) [(.tmp 27,_)] [x8.1] rfl rfl dI (.cons rfl .int .nil) rfl rfl) ?_;obtain⟨u9,X,h⟩:=aa h;refine c6 rfl rfl rfl (bH rfl rfl dI (aB X)) ⟨rfl,rfl,trivial⟩ fun O=>?_;refine aq (nt (sr ?_));refine mq ?_;obtain⟨J,y,h⟩:=aa h;refine ja (lH rfl y) ?_;refine ja (aJ 1 false rfl DT rfl) ?_;refine ja (an (t:=(.lst (.int .i64))) rfl zr rfl) ?_;refine aq (nt ?_);refine Eh ?_;refine FU ?_;exact Ef ((O,z3.2),(y2.1,y2.2.1++[x8.1],y2.2.2.1,J.2)) h (SE.fin [0,1] ⟨rfl,rfl,rfl,rfl,rfl,trivial⟩ rfl)
  ·refine sk (aM (Z:=Unit) (α:=Int) (fun e c=>[(1,.eq (.int .u8 a1)),(4,.eq (.int .u8 c)),(6,.eq z3.1),(7,.eq z3.2),(8,.rep (.lst (.int .i64)) y2.2.2.2)]) (fun e c=>[.sl z3.1 3 (.int .i64) y2.2.1,.sl z3.2 3 (.int .i64) y2.2.2.1]) h (fun K h=>?_) (fun e c h=>?_))
   ·refine sr (mq ?_);refine ka (cY rfl rfl dA) ?_;refine jb (ip rfl) ?_;refine nt (ci h (fun h=>?_) (fun h=>?_))
    ·refine ab ?_;iterate 2 refine mq ?_
     obtain⟨I,x,h⟩:=aa h;refine ja (lH rfl x) ?_;refine ja (aJ 1 false rfl uA rfl) ?_;refine ja (an (t:=(.int .i64)) rfl cg rfl) ?_;obtain⟨l,E,h⟩:=aa h;refine jb (ar [.tmp 37,.tmp 41] rfl rfl D1 rfl (jo k y2.1 I.1 l E)) ?_;refine aq (nl ?_);exact jz ((),l) h [0,1]
    ·refine aY (ag ?_);exact jz ((),y2.1) h [0,1]
   ·refine sr ?_;iterate 2 refine mq ?_
    obtain⟨j,u,h⟩:=aa h;refine ja (lH rfl u) ?_;refine ja (aJ 1 false rfl uA rfl) ?_;refine ja (an (t:=(.int .i64)) rfl cg rfl) ?_;refine ja (bp (t:=(.int .i64)) [(.tmp 47,_)] [j.1] rfl rfl dI (.cons rfl .int .nil) rfl rfl) ?_;obtain⟨qt,D,h⟩:=aa h;refine fr 1 ?_;refine c6 rfl rfl rfl (bH rfl rfl dI (aB D)) ⟨rfl,rfl,trivial⟩ fun M=>?_;refine aq (nt (sr ?_));refine mq ?_;obtain⟨F,s,h⟩:=aa h;refine ja (lH rfl s) ?_;refine ja (aJ 1 false rfl DT rfl) ?_;refine ja (an (t:=(.lst (.int .i64))) rfl zr rfl) ?_;refine aq (nt ?_);refine Eh ?_;exact Ef ((z3.1,M),(c,y2.2.1,y2.2.2.1++[j.1],F.2)) h (SE.fin [1,0] ⟨rfl,rfl,rfl,rfl,rfl,trivial⟩ rfl)
def dq(k:Nat)(a0:(List Int))(a1:Int):Nat→Int→Option (Except Int Unit)
 |0,_=>none
 |n+1,y3=>
  if y3 < (a0.length:Int) then((aS a0 y3).bind fun x5=>
  if a1=x5 then(some (.error y3)) else((ck (y3+1)).bind fun x6=>
  dq k a0 a1 n x6)) else(some (.ok ()))
def je(k:Nat)(a0:(List Int))(a1:Int):Option Int:=
 bE (α:=Unit) (dq k a0 a1 k 0) (some) fun _=>
 some (-1:Int)
theorem sW(k:Nat)(a0:(List Int))(a1:Int)(r:Int)(h:je k a0 a1=some r):
 bZ Tryz.prog 87 [Ri a0,I a1] [] (fun _:Unit=>(bu [I r],[])):=by
 unfold je at h
 replace h:=bb h
 refine bZ.of 19 Tryz.func87 rfl Tryz.ntmps87 rfl fun S w0=>?_
 refine sr ?_
 refine cq ?_
 refine nt ?_
 refine dQ (Z:=Unit) (α:=Unit) (fun z2 x1=>[]) (fun z2 x1=>[]) (fun e=>e=r) h (fun e h=>Option.some.inj h) (fun K hR h=>?_) (fun z2 x1 h=>?_)
 ·
  refine sr (mq ?_);refine ol dA ?_;refine eG rfl ?_;refine nt (ao (aK (fun z4 y3=>[(0,Ri a0),(1,I a1),(7,I (a0.length:Int)),(8,I y3)]) (fun z4 y3=>[]) (dq k a0 a1) k () 0 (fun _=>rfl) h (SE.fin [] ⟨rfl,rfl,rfl,rfl,trivial⟩ rfl) (fun n z4 y3 h=>?_)));unfold dq at h;refine sr (jb (bj rfl) ?_);refine nt (ae (ci h (fun h=>?_) (fun h=>?_)))
  ·refine sk (ae (ao (sr (mq ?_))));refine aq (nt (sr ?_));iterate 3 refine mq ?_
   obtain⟨x5,j,h⟩:=aa h;refine jb (aF (t:=(.int .i64)) rfl dA cg j) ?_;refine ja (an (t:=(.int .i64)) rfl cg rfl) ?_;refine jb (fU rfl) ?_;refine nt (ci h (fun h=>?_) (fun h=>?_))
   ·refine sr (mq ?_);refine aq (nt (aA (br (bi (aV ?_)))));obtain rfl:=hR _ h;exact ra
   ·refine aY (aN (tn (ab ?_)));obtain⟨x6,c,h⟩:=aa h;refine jb (bg rfl c) ?_;refine mq (nl ?_);exact jz ((),x6) h []
  ·refine xa ?_;exact jz ((),()) h []
 ·
  refine sr (cq (nt (aA ?_)));cases h;exact ra
def gl(k:Nat)(a0:(List Int))(a1:Int):Option Bool:=
 (je k a0 a1).bind fun r1=>
 some (decide (0≤r1))
theorem qj(k:Nat)(a0:(List Int))(a1:Int)(r:Bool)(h:gl k a0 a1=some r):
 bZ Tryz.prog 130 [Ri a0,I a1] [] (fun _:Unit=>(bu [.eq (.bool r)],[])):=by
 unfold gl at h
 replace h:=bb h
 refine bZ.of 9 Tryz.func130 rfl Tryz.ntmps130 rfl fun S w0=>?_
 refine sr ?_
 refine cq ?_
 refine nt ?_
 refine sr ?_
 iterate 2 refine mq ?_
 obtain⟨r1,c,h⟩:=aa h
 have e:=sW k a0 a1 r1 c
 refine jb (ar [.tmp 5,.tmp 6] rfl rfl SG rfl e) ?_
 refine jb (qy rfl) ?_
 refine aq ?_
 refine nt ?_
 refine aA ?_
 cases h
 exact ra
def fg(k:Nat)(a0:dp)(a1:Int):Nat→(Int×Int)→Option Int
 |0,_=>none
 |n+1,y3=>
  if y3.2 < (a0.1.2.1.length:Int) then((((aS a0.1.2.1 y3.2).bind fun x7=>
  (gl k x7.2 a1).bind fun r9=>
  if r9=true then((eQ k y3.1 y3.2).bind fun e=>
  some e) else(some y3.1)):Option (Int)).bind fun x5=>
  (ck (y3.2+1)).bind fun c=>
  fg k a0 a1 n (x5,c)) else(some y3.1)
def ic(k:Nat)(a0:dp)(a1:Int):Option Int:=
 ((fg k a0 a1 k (0,0)):Option (Int)).bind fun x1=>
 some x1
theorem m9(k:Nat)(a0:dp)(a1:Int)(r:Int)(h:ic k a0 a1=some r):
 bZ Tryz.prog 100 [.at bL a0,I a1] [] (fun _:Unit=>(bu [.eq (.int .u8 r)],[])):=by
 unfold ic at h
 replace h:=bb h
 refine bZ.of 28 Tryz.func100 rfl Tryz.ntmps100 rfl fun S w0=>?_
 refine sr ?_
 refine cq ?_
 refine nt ?_
 refine sr ?_
 refine cq ?_
 refine nt ?_
 refine aM (Z:=Unit) (α:=Int) (fun z2 x1=>[(5,.eq (.int .u8 x1))]) (fun z2 x1=>[]) h (fun K h=>?_) (fun z2 x1 h=>?_)
 ·
  refine sr (mq ?_);refine ja (dR rfl) ?_;refine ja (aJ 3 true rfl j7 rfl) ?_;refine ja (aJ 1 false rfl bU rfl) ?_;refine ja (an (t:=(.slice aH)) rfl eR rfl) ?_;refine ol mB ?_;refine eG rfl ?_;refine nt (ao (aK (fun z4 y3=>[(1,I a1),(5,.eq (.int .u8 y3.1)),(12,Rs aH a0.1.2.1),(13,I (a0.1.2.1.length:Int)),(14,I y3.2)]) (fun z4 y3=>[]) (fg k a0 a1) k () (0,0) (fun _=>rfl) h (SE.fin [] ⟨rfl,rfl,rfl,rfl,rfl,trivial⟩ rfl) (fun n z4 y3 h=>?_)));unfold fg at h;refine sr (jb (bj rfl) ?_);refine nt (ae (ci h (fun h=>?_) (fun h=>?_)))
  ·refine sk (aM (Z:=Unit) (α:=Int) (fun z6 x5=>[(1,I a1),(5,.eq (.int .u8 x5)),(12,Rs aH a0.1.2.1),(13,I (a0.1.2.1.length:Int)),(14,I y3.2)]) (fun z6 x5=>[]) h (fun K h=>?_) (fun z6 x5 h=>?_))
   ·refine ao (sr (mq ?_));obtain⟨x7,s,h⟩:=aa h;refine jb (aF (t:=aH) rfl mB gC s) ?_;refine ja (an (t:=aH) rfl gC rfl) ?_;refine aD rfl rfl rfl (a9 rfl uc Lm) trivial fun b8=>?_;refine aq ?_;refine bf rfl rfl (a8 rfl gC rfl rfl rfl) ⟨rfl,rfl,trivial⟩ ?_;refine nt (sr (fl j0 ?_));refine lo bR ?_;refine mq ?_;obtain⟨r9,u,h⟩:=aa h;refine jb (ar [.tmp 20,.tmp 21] rfl rfl QC rfl (qj k x7.2 a1 r9 u)) ?_;refine nt (cv h (fun h=>?_) (fun h=>?_))
    ·refine ab ?_;iterate 2 refine mq ?_
     obtain⟨c,j,h⟩:=aa h;refine jb (ar [.tmp 23,.tmp 24] rfl rfl D1 rfl (jo k y3.1 y3.2 c j)) ?_;refine aq (au (bn ?_));exact jz ((),c) h []
    ·refine aY (bn ?_);exact jz ((),y3.1) h []
   ·refine ab ?_;obtain⟨l,e,h⟩:=aa h;refine jb (bg rfl e) ?_;refine mq (nl ?_);exact jz ((),(x5,l)) h []
  ·refine xa ?_;exact jz ((),y3.1) h []
 ·
  refine sr (mq ?_);refine aq (nt (aA ?_));cases h;exact ra
def cV(k:Nat)(a0:dp)(a1:(List (List Int)))(a2:Int):Nat→(Int×(List (List Int))×Int)→Option (Int×(List (List Int)))
 |0,_=>none
 |n+1,y5=>
  if y5.2.2 < 3 then((dW k a1 y5.2.2).bind fun r7=>
  (ic k a0 a2).bind fun r8=>
  (nb k r7 r8).bind fun r9=>
  (dy (bM (List.length y5.2.1+List.length [r9.2]))).bind fun _=>
  (ck (y5.2.2+1)).bind fun c=>
  cV k a0 a1 a2 n (DI .u8 y5.1 r9.1,y5.2.1++[r9.2],c)) else(some (y5.1,y5.2.1))
def gU(k:Nat)(a0:dp)(a1:(List (List Int)))(a2:Int):Option (Int×(List (List Int))):=
 ((cV k a0 a1 a2 k (0,([]:(List (List Int))),0)):Option (Int×(List (List Int)))).bind fun x3=>
 (dL k x3.2).bind fun c=>
 some (x3.1,c)
theorem lh(k:Nat)(a0:dp)(a1:(List (List Int)))(a2:Int)(r:Int×(List (List Int)))(h:gU k a0 a1 a2=some r):
 bZ Tryz.prog 55 [.at bL a0,.rep (.arr 3 (.arr 5 (.int .i64))) a1,I a2] [] (fun _:Unit=>(bu [.eq (.int .u8 r.1),.rep (.arr 3 (.arr 5 (.int .i64))) r.2],[])):=by
 unfold gU at h
 replace h:=bb h
 refine bZ.of 37 Tryz.func55 rfl Tryz.ntmps55 rfl fun S w0=>?_
 refine sr ?_
 refine bx fun b1=>?_
 refine cq ?_
 refine aD rfl rfl rfl (a9 rfl qF rh) trivial fun b2=>?_
 refine nt ?_
 refine sr ?_
 refine cq ?_
 refine nt ?_
 refine sr ?_
 refine cq ?_
 refine nt ?_
 refine aM (Z:=Value) (α:=Int×(List (List Int))) (fun z4 x3=>[(7,Pt b2),(8,.eq (.int .u8 x3.1)),(9,.eq z4)]) (fun z4 x3=>[.obj b2 86 (.rep (.arr 3 (.arr 5 (.int .i64))) [[0,0,0,0,0],[0,0,0,0,0],[0,0,0,0,0]]),.sl z4 23 (.slice (.int .i64)) x3.2]) h (fun K h=>?_) (fun z4 x3 h=>?_)
 ·
  refine sr (eG rfl ?_);refine nt (ao (dN (SE.nil 23 (.slice (.int .i64))) ?_));refine aK (fun z6 y5=>[(0,.at bL a0),(2,I a2),(4,Pt b1),(7,Pt b2),(8,.eq (.int .u8 y5.1)),(9,.eq z6),(13,I y5.2.2)]) (fun z6 y5=>[.obj b1 86 (.rep (.arr 3 (.arr 5 (.int .i64))) a1),.obj b2 86 (.rep (.arr 3 (.arr 5 (.int .i64))) [[0,0,0,0,0],[0,0,0,0,0],[0,0,0,0,0]]),.sl z6 23 (.slice (.int .i64)) y5.2.1]) (cV k a0 a1 a2) k (.slice none 0 0) (0,([]:(List (List Int))),0) (fun _=>rfl) h (SE.fin [2,1,0] ⟨rfl,rfl,rfl,rfl,rfl,rfl,rfl,trivial⟩ rfl) (fun n z6 y5 h=>?_);unfold cV at h;refine sr (jb (bj rfl) ?_);refine nt (ae (ci h (fun h=>?_) (fun h=>?_)))
  ·refine sk (ae (ao (sr (mq ?_))));refine aq (nt (sr ?_));refine lo fm ?_;refine mq ?_;obtain⟨r7,D,h⟩:=aa h;refine jb (ar [.tmp 17,.tmp 18] rfl rfl KY rfl (gj k a1 y5.2.2 r7 D)) ?_;iterate 2 refine mq ?_
   obtain⟨r8,y,h⟩:=aa h;refine jb (ar [.tmp 20,.tmp 21] rfl rfl QN rfl (m9 k a0 a2 r8 y)) ?_;obtain⟨r9,x,h⟩:=aa h;refine jb (ar [.tmp 19,.tmp 22] rfl rfl SB rfl (tX k r7 r8 r9 x)) ?_;refine mq ?_;refine xr ?_;refine xr ?_;refine aq ?_;refine aq (nt (sr ?_));iterate 2 refine mq ?_
   refine jb (O8 rfl) ?_;refine aq (nt (ab ?_));iterate 2 refine mq ?_
   refine ja (bp (t:=(.slice (.int .i64))) [(.tmp 30,_)] [r9.2] rfl rfl oV (.cons rfl .rep .nil) rfl rfl) ?_;obtain⟨E,j,h⟩:=aa h;refine fr 2 ?_;refine c6 rfl rfl rfl (bH rfl rfl oV (aB j)) ⟨rfl,rfl,trivial⟩ fun u=>?_;refine aq (au (aN (tn (ab ?_))));obtain⟨s,e,h⟩:=aa h;refine jb (bg rfl e) ?_;refine mq (nl ?_);exact jz (u,(DI .u8 y5.1 r9.1,y5.2.1++[r9.2],s)) h [1,2,0]
  ·refine xa ?_;exact jz (z6,(y5.1,y5.2.1)) h [1,2]
 ·
  refine sr ?_;iterate 2 refine mq ?_
  obtain⟨c,l,h⟩:=aa h;refine fr 1 ?_;refine ka (vQ (N:=[(.tmp 35,.eq z4)]) (ar [.tmp 35] rfl rfl CU rfl (d5 k x3.2 c l)) (fun _ _ _ hv hn=>⟨(lend hn.1 hv),trivial⟩) (fun _=>⟨rfl,AA⟩)) ?_;refine aq ?_;refine fr 1 ?_;refine bf rfl rfl (a8 rfl fm rfl rfl rfl) ⟨rfl,rfl,trivial⟩ ?_;refine nt (aA ?_);cases h;exact aQ () [_,.rep (.arr 3 (.arr 5 (.int .i64))) c] 0 ⟨rfl,⟨_,_,_,_,_,rfl,(.head _),fm,(vX),rfl⟩,trivial⟩ rfl
def ik(k:Nat)(a0:dp)(a1:(List (List Int))):Nat→((List (List Int))×Int)→Option (List (List Int))
 |0,_=>none
 |n+1,y6=>
  if y6.2 < ((List.replicate (Int.toNat (a0.1.2.2.length:Int)) ([]:(List Int))).length:Int) then((dW k a1 y6.2).bind fun r8=>
  (aS y6.1 y6.2).bind fun x9=>
  (ck (y6.2+1)).bind fun c=>
  ik k a0 a1 n (List.set y6.1 (Int.toNat y6.2) r8,c)) else(some y6.1)
def ix(k:Nat)(a0:dp)(a1:(List (List Int))):Option (List (List Int)):=
 (dy (0≤(a0.1.2.2.length:Int)∧bM (Int.toNat (a0.1.2.2.length:Int)))).bind fun _=>
 ((ik k a0 a1 k (List.replicate (Int.toNat (a0.1.2.2.length:Int)) ([]:(List Int)),0)):Option ((List (List Int)))).bind fun x4=>
 some x4
theorem jN(k:Nat)(a0:dp)(a1:(List (List Int)))(r:(List (List Int)))(h:ix k a0 a1=some r):
 bZ Tryz.prog 58 [.at bL a0,.rep (.arr 3 (.arr 5 (.int .i64))) a1] [] (fun z:Value=>(bu [.eq z],[.sl z 23 (.slice (.int .i64)) r])):=by
 unfold ix at h
 replace h:=bb h
 refine bZ.of 27 Tryz.func58 rfl Tryz.ntmps58 rfl fun S w0=>?_
 refine sr ?_
 refine bx fun b1=>?_
 refine cq ?_
 refine nt ?_
 refine sr ?_
 refine mq ?_
 refine ja (dR rfl) ?_
 refine ja (aJ 3 true rfl j7 rfl) ?_
 refine ja (aJ 1 false rfl cK rfl) ?_
 refine ja (an (t:=(.slice (.int .i64))) rfl bR rfl) ?_
 refine ol dA ?_
 obtain⟨u2,j,h⟩:=aa h
 refine aD rfl rfl rfl (ye (t:=(.slice (.int .i64))) (d:=([]:(List Int))) rfl oV Rx (aB j).1 (aB j).2) ⟨rfl,rfl,trivial⟩ fun v3=>?_
 refine aq ?_
 refine nt ?_
 refine aM (Z:=Unit) (α:=(List (List Int))) (fun z5 x4=>[(5,.eq v3)]) (fun z5 x4=>[.sl v3 23 (.slice (.int .i64)) x4]) h (fun K h=>?_) (fun z5 x4 h=>?_)
 ·
  refine sr (mq ?_);refine ka (cY rfl rfl mA) ?_;refine eG rfl ?_;refine nt (ao (aK (fun z7 y6=>[(3,Pt b1),(5,.eq v3),(15,I ((List.replicate (Int.toNat (a0.1.2.2.length:Int)) ([]:(List Int))).length:Int)),(16,I y6.2)]) (fun z7 y6=>[.obj b1 86 (.rep (.arr 3 (.arr 5 (.int .i64))) a1),.sl v3 23 (.slice (.int .i64)) y6.1]) (ik k a0 a1) k () (List.replicate (Int.toNat (a0.1.2.2.length:Int)) ([]:(List Int)),0) (fun _=>rfl) h (SE.fin [1,0] ⟨rfl,rfl,rfl,rfl,trivial⟩ rfl) (fun n z7 y6 h=>?_)));unfold ik at h;refine sr (jb (bj rfl) ?_);refine nt (ae (ci h (fun h=>?_) (fun h=>?_)))
  ·refine sk (ae (ao (sr (mq ?_))));refine aq (nt (ab ?_));iterate 2 refine mq ?_
   refine lo fm ?_;refine mq ?_;obtain⟨r8,s,h⟩:=aa h;refine jb (ar [.tmp 21,.tmp 22] rfl rfl KY rfl (gj k a1 y6.2 r8 s)) ?_;obtain⟨x9,c,h⟩:=aa h;refine fr 1 ?_;refine kb (aZ (t:=(.slice (.int .i64))) rfl mA bR c) ?_;refine bf rfl rfl (cF (i:=Int.toNat y6.2) rfl bR rfl (gf c) rfl .rep rfl) ⟨rfl,rfl,trivial⟩ ?_;refine au (aN (tn (ab ?_)));obtain⟨l,e,h⟩:=aa h;refine jb (bg rfl e) ?_;refine mq (nl ?_);exact jz ((),(List.set y6.1 (Int.toNat y6.2) r8,l)) h [1,0]
  ·refine xa ?_;exact jz ((),y6.1) h [1]
 ·
  refine sr (mq ?_);refine aq (nt (aA ?_));cases h;exact aQ v3 [.eq v3] 1 ⟨rfl,trivial⟩ rfl
def dM(k:Nat)(a0:(List Int))(a1:(List Int)):Nat→Int→Option (Except Bool Unit)
 |0,_=>none
 |n+1,y3=>
  if y3 < (a0.length:Int) then((aS a0 y3).bind fun x5=>
  (aS a1 y3).bind fun x6=>
  if¬(x5=x6) then(some (.error false)) else((ck (y3+1)).bind fun x7=>
  dM k a0 a1 n x7)) else(some (.ok ()))
def dC(k:Nat)(a0:(List Int))(a1:(List Int)):Option Bool:=
 if¬((a0.length:Int)=(a1.length:Int)) then(some false) else(bE (α:=Unit) (dM k a0 a1 k 0) (some) fun _=>
 some true)
theorem fH(k:Nat)(a0:(List Int))(a1:(List Int))(r:Bool)(h:dC k a0 a1=some r):
 bZ Tryz.prog 24 [Ri a0,Ri a1] [] (fun _:Unit=>(bu [.eq (.bool r)],[])):=by
 unfold dC at h
 replace h:=bb h
 refine bZ.of 26 Tryz.func24 rfl Tryz.ntmps24 rfl fun S w0=>?_
 refine sr ?_
 refine cq ?_
 refine nt ?_
 refine ae ?_
 refine sr ?_
 refine mq ?_
 refine ol dA ?_
 refine mq ?_
 refine ol dA ?_
 refine jb (gP rfl) ?_
 refine nt ?_
 refine cn h (fun h=>?_) (fun h=>?_)
 ·
  refine sr (cq (nt (rx ?_)));cases h;exact ra
 ·
  refine sk (dQ (Z:=Unit) (α:=Unit) (fun z2 x1=>[]) (fun z2 x1=>[]) (fun e=>e=r) h (fun e h=>Option.some.inj h) (fun K hR h=>?_) (fun z2 x1 h=>?_))
  ·refine sr (cq (nt (ao ?_)));refine aK (fun z4 y3=>[(0,Ri a0),(1,Ri a1),(5,I y3)]) (fun z4 y3=>[]) (dM k a0 a1) k () 0 (fun _=>rfl) h (SE.fin [] ⟨rfl,rfl,rfl,trivial⟩ rfl) (fun n z4 y3 h=>?_);unfold dM at h;refine ae (sr ?_);iterate 2 refine mq ?_
   refine ol dA ?_;refine jb (bj rfl) ?_;refine nt (ci h (fun h=>?_) (fun h=>?_))
   ·refine sk (ae (ao (ae (bO ?_))));refine dm ?_;refine dm ?_;obtain⟨x5,l,h⟩:=aa h;refine db (aF (t:=(.int .i64)) rfl dA cg l) ?_;refine da (an (t:=(.int .i64)) rfl cg rfl) ?_;refine dm ?_;refine dm ?_;obtain⟨x6,j,h⟩:=aa h;refine db (aF (t:=(.int .i64)) rfl dA cg j) ?_;refine da (an (t:=(.int .i64)) rfl cg rfl) ?_;refine df cD ?_;refine jb (gP rfl) ?_;refine nt (cn h (fun h=>?_) (fun h=>?_))
    ·refine sr (cq (nt (aA (br (bi (aV ?_))))));obtain rfl:=hR _ h;exact ra
    ·refine aY (aN (tn (ab (mq ?_))));obtain⟨x7,c,h⟩:=aa h;refine jb (bg rfl c) ?_;refine aq (nl ?_);exact jz ((),x7) h []
   ·refine xa ?_;exact jz ((),()) h []
  ·refine sr (cq (nt (aA ?_)));cases h;exact ra
def fi(k:Nat)(a0:(List (List Int)))(a1:(List (List Int))):Nat→Int→Option (Except Bool Unit)
 |0,_=>none
 |n+1,y3=>
  if y3 < (a0.length:Int) then((aS a0 y3).bind fun x5=>
  (aS a1 y3).bind fun x6=>
  (dC k x5 x6).bind fun r7=>
  if¬(r7=true) then(some (.error false)) else((ck (y3+1)).bind fun x8=>
  fi k a0 a1 n x8)) else(some (.ok ()))
def f5(k:Nat)(a0:(List (List Int)))(a1:(List (List Int))):Option Bool:=
 if¬((a0.length:Int)=(a1.length:Int)) then(some false) else(bE (α:=Unit) (fi k a0 a1 k 0) (some) fun _=>
 some true)
theorem ky(k:Nat)(a0:(List (List Int)))(a1:(List (List Int)))(r:Bool)(h:f5 k a0 a1=some r):
 bZ Tryz.prog 25 [.rep (.slice (.slice (.int .i64))) a0,.rep (.slice (.slice (.int .i64))) a1] [] (fun _:Unit=>(bu [.eq (.bool r)],[])):=by
 unfold f5 at h
 replace h:=bb h
 refine bZ.of 27 Tryz.func25 rfl Tryz.ntmps25 rfl fun S w0=>?_
 refine sr ?_
 refine cq ?_
 refine nt ?_
 refine ae ?_
 refine sr ?_
 refine mq ?_
 refine ol mA ?_
 refine mq ?_
 refine ol mA ?_
 refine jb (gP rfl) ?_
 refine nt ?_
 refine cn h (fun h=>?_) (fun h=>?_)
 ·
  refine sr (cq (nt (rx ?_)));cases h;exact ra
 ·
  refine sk (dQ (Z:=Unit) (α:=Unit) (fun z2 x1=>[]) (fun z2 x1=>[]) (fun e=>e=r) h (fun e h=>Option.some.inj h) (fun K hR h=>?_) (fun z2 x1 h=>?_))
  ·refine sr (cq (nt (ao ?_)));refine aK (fun z4 y3=>[(0,.rep (.slice (.slice (.int .i64))) a0),(1,.rep (.slice (.slice (.int .i64))) a1),(5,I y3)]) (fun z4 y3=>[]) (fi k a0 a1) k () 0 (fun _=>rfl) h (SE.fin [] ⟨rfl,rfl,rfl,trivial⟩ rfl) (fun n z4 y3 h=>?_);unfold fi at h;refine ae (sr ?_);iterate 2 refine mq ?_
   refine ol mA ?_;refine jb (bj rfl) ?_;refine nt (ci h (fun h=>?_) (fun h=>?_))
   ·refine sk (ae (ao (ae (bO ?_))));refine dm ?_;refine dm ?_;obtain⟨x5,l,h⟩:=aa h;refine db (aF (t:=(.slice (.int .i64))) rfl mA bR l) ?_;refine da (an (t:=(.slice (.int .i64))) rfl bR rfl) ?_;refine dm ?_;refine dm ?_;obtain⟨x6,j,h⟩:=aa h;refine db (aF (t:=(.slice (.int .i64))) rfl mA bR j) ?_;refine da (an (t:=(.slice (.int .i64))) rfl bR rfl) ?_;refine df cD ?_;obtain⟨r7,s,h⟩:=aa h;refine jb (ar [.tmp 20,.tmp 24] rfl rfl Ft rfl (fH k x5 x6 r7 s)) ?_;refine ja (eC rfl) ?_;refine nt (cw h (fun h=>?_) (fun h=>?_))
    ·refine sr (cq (nt (aA (br (bi (aV ?_))))));obtain rfl:=hR _ h;exact ra
    ·refine aY (aN (tn (ab (mq ?_))));obtain⟨x8,c,h⟩:=aa h;refine jb (bg rfl c) ?_;refine aq (nl ?_);exact jz ((),x8) h []
   ·refine xa ?_;exact jz ((),()) h []
  ·refine sr (cq (nt (aA ?_)));cases h;exact ra
def kL(k:Nat)(a0:List Int):Option (List Int):=
 (dy (bM (List.length a0))).bind fun _=>some a0
theorem nh(k:Nat)(a0:List Int)(r:List Int)(h:kL k a0=some r):
 bZ Tryz.prog 67 [Ri a0] [] (fun z:Value=>(bu [.eq z],[.sl z 3 (.int .i64) r])):=by
 unfold kL at h
 replace h:=bb h
 refine bZ.of 8 Tryz.func67 rfl Tryz.ntmps67 rfl fun S w0=>?_
 obtain⟨u1,c,h⟩:=aa h
 cases h
 refine sr ?_
 refine cq ?_
 refine nt ?_
 refine ae ?_
 refine sr ?_
 refine mq ?_
 refine bT (Δ:=[]) (F:=_) (fun _ _ _=>ay rfl _) rfl rfl (JY rfl dA) ⟨rfl,rfl,trivial⟩ fun b=>?_
 refine nt ?_
 refine bK rfl (fun hb=>?_) (fun hb=>?_)
 ·
  refine sr (cq (nt (rx ?_)));obtain rfl:=b.2 hb;refine bv (SE.nil 3 (.int .i64)) ?_;exact aQ (.slice none 0 0) [.eq (.slice none 0 0)] 1 ⟨rfl,trivial⟩ rfl
 ·
  refine sk (sr (aD rfl rfl rfl (l8 (t:=(.int .i64)) [] [] rfl rfl dI .nil rfl rfl) trivial fun v1=>?_));refine mq ?_;refine c6 rfl rfl rfl (bH rfl rfl dI (by simpa using aB c)) ⟨rfl,rfl,trivial⟩ fun v2=>?_;refine aq (nt (aA ?_));exact aQ v2 [.eq v2] 1 ⟨rfl,trivial⟩ rfl
def il(k:Nat)(a0:dp)(a2:Int):Nat→((List (List Int))×Int)→Option (List (List Int))
 |0,_=>none
 |n+1,y5=>
  if y5.2 < a2 then((gU k a0 y5.1 y5.2).bind fun r7=>
  (ck (y5.2+1)).bind fun x8=>
  il k a0 a2 n (r7.2,x8)) else(some y5.1)
def lM(k:Nat)(a0:dp)(a1:(List (List Int)))(a2:Int):Option (List (List Int)):=
 ((il k a0 a2 k (a1,0)):Option ((List (List Int)))).bind fun x3=>
 some x3
theorem rA(k:Nat)(a0:dp)(a1:(List (List Int)))(a2:Int)(r:(List (List Int)))(h:lM k a0 a1 a2=some r):
 bZ Tryz.prog 73 [.at bL a0,.rep (.arr 3 (.arr 5 (.int .i64))) a1,I a2] [] (fun _:Unit=>(bu [.rep (.arr 3 (.arr 5 (.int .i64))) r],[])):=by
 unfold lM at h
 replace h:=bb h
 refine bZ.of 21 Tryz.func73 rfl Tryz.ntmps73 rfl fun S w0=>?_
 refine sr ?_
 refine bx fun b1=>?_
 refine aD rfl rfl rfl (a9 rfl qF rh) trivial fun b2=>?_
 refine nt ?_
 refine aM (Z:=Unit) (α:=(List (List Int))) (fun z4 x3=>[(4,Pt b1),(6,Pt b2)]) (fun z4 x3=>[.obj b1 86 (.rep (.arr 3 (.arr 5 (.int .i64))) x3),.obj b2 86 (.rep (.arr 3 (.arr 5 (.int .i64))) [[0,0,0,0,0],[0,0,0,0,0],[0,0,0,0,0]])]) h (fun K h=>?_) (fun z4 x3 h=>?_)
 ·
  refine sr (mq ?_);refine eG rfl ?_;refine nt (ao (aK (fun z6 y5=>[(0,.at bL a0),(4,Pt b1),(6,Pt b2),(8,I a2),(9,I y5.2)]) (fun z6 y5=>[.obj b1 86 (.rep (.arr 3 (.arr 5 (.int .i64))) y5.1),.obj b2 86 (.rep (.arr 3 (.arr 5 (.int .i64))) [[0,0,0,0,0],[0,0,0,0,0],[0,0,0,0,0]])]) (il k a0 a2) k () (a1,0) (fun _=>rfl) h (SE.fin [1,0] ⟨rfl,rfl,rfl,rfl,rfl,trivial⟩ rfl) (fun n z6 y5 h=>?_)));unfold il at h;refine sr (jb (bj rfl) ?_);refine nt (ae (ci h (fun h=>?_) (fun h=>?_)))
  ·refine sk (ae (ao (sr (mq ?_))));refine aq (nt (ab ?_));refine mq ?_;refine lo fm ?_;refine mq ?_;obtain⟨r7,e,h⟩:=aa h;refine jc (ar [.tmp 13,.tmp 14,.tmp 15] rfl rfl NT rfl (lh k a0 y5.1 y5.2 r7 e)) ?_;refine mq ?_;refine xr ?_;refine xr ?_;refine bf rfl rfl (a8 rfl fm rfl rfl rfl) ⟨rfl,rfl,trivial⟩ ?_;refine au (aN (tn (ab ?_)));obtain⟨x8,c,h⟩:=aa h;refine jb (bg rfl c) ?_;refine mq (nl ?_);exact jz ((),(r7.2,x8)) h [0,1]
  ·refine xa ?_;exact jz ((),y5.1) h [0,1]
 ·
  refine sr (lo fm ?_);refine fr 1 ?_;refine bf rfl rfl (a8 rfl fm rfl rfl rfl) ⟨rfl,rfl,trivial⟩ ?_;refine nt (aA ?_);obtain rfl:=Option.some.inj h;exact aQ () [.rep (.arr 3 (.arr 5 (.int .i64))) x3] 0 ⟨⟨_,_,_,_,_,rfl,(.head _),fm,(vX),rfl⟩,trivial⟩ rfl
def lV(k:Nat)(a0:List Int)(a1 a2:Int):Option (List Int):=
 (dy (0≤a1∧a1 < a2∧a2≤(a0.length:Int))).bind fun _=>some (a0.take a1.toNat++a0.drop a2.toNat)
theorem rJ(k:Nat)(a0:List Int)(v:Value)(a1 a2:Int)(r:List Int)(h:lV k a0 a1 a2=some r):bZ Tryz.prog 115 [.eq v,.eq (.int .i64 a1),.eq (.int .i64 a2)] [.sl v 3 (.int .i64) a0] (fun z:Value=>(bu [.eq z],[.sl z 3 (.int .i64) r])):=by
 unfold lV at h
 replace h:=bb h
 obtain⟨u1,eg,h⟩:=aa h
 obtain⟨h1,h2,h3⟩:=aB eg
 obtain rfl:=Option.some.inj h
 refine bZ.of 33 Tryz.func115 rfl Tryz.ntmps115 rfl fun S w0=>?_
 refine FW (fun e=>by rw [e] at h3;simp at h3;omega) fun b cap hv hcap=>?_
 subst hv
 have hl:(a0.take a1.toNat++a0.drop a2.toNat).length=a1.toNat+(a0.length - a2.toNat):=by simp;omega
 refine ae ?_
 refine ab ?_
 refine dE rfl ?_
 refine au (ag ?_)
 show JC _ _ _ _ _
 refine ae ?_
 refine ab ?_
 refine aC rfl rfl ?_
 refine aC rfl rfl ?_
 refine aC rfl rfl ?_
 refine aC rfl rfl ?_
 refine bX rfl rfl rfl (cY rfl rfl dA) ⟨rfl,trivial⟩ ?_
 refine aG rfl (yd rfl dA cg h1 (by omega) h3 (by omega)) ⟨rfl,rfl,rfl,rfl,trivial⟩ ?_
 refine au (ag ?_)
 show JC _ _ _ _ _
 refine ae ?_
 refine ae ?_
 refine ab ?_
 refine aC rfl rfl ?_
 refine aC rfl rfl ?_
 refine aG rfl (fU rfl) ⟨rfl,rfl,trivial⟩ ?_
 refine au (ag ?_)
 show JC _ _ _ _ _
 refine bK rfl (fun hb=>absurd (of_decide_eq_true hb) (by omega)) (fun hb=>?_)
 refine aY (ag ?_)
 show JC _ _ _ _ _
 refine ae ?_
 refine ab ?_
 refine aC rfl rfl ?_
 refine bX rfl rfl rfl (cY rfl rfl dA) ⟨rfl,trivial⟩ ?_
 refine dj rfl rfl ?_
 refine au (ag ?_)
 show JC _ _ _ _ _
 refine ae ?_
 refine bO ?_
 refine dz rfl rfl rfl (aL rfl) ⟨rfl,trivial⟩ ?_
 refine dz rfl rfl rfl (aL rfl) ⟨rfl,trivial⟩ ?_
 refine dz rfl rfl rfl (vg rfl dA cg h1 (by omega)) ⟨rfl,rfl,trivial⟩ ?_
 refine dz rfl rfl rfl (aL rfl) ⟨rfl,trivial⟩ ?_
 refine dz rfl rfl rfl (aL rfl) ⟨rfl,trivial⟩ ?_
 refine dz rfl rfl rfl (BU rfl dA cg (by omega) h3) ⟨rfl,rfl,trivial⟩ ?_
 refine tU (by kernel_rfl) cD ?_
 refine cC (sE 22 rfl fun _ _ _ h=>(Dk▸h:(A.eq (.slice (some ⟨b,0,none⟩) a1.toNat cap)).holds _ _ _)) ?_
 refine bX rfl rfl rfl (yg (t:=.int .i64) (b:=b) (cap:=cap) (l:=a0) (i:=a1.toNat) (j:=a2.toNat) rfl rfl dI (by omega) (by omega) hcap) ⟨rfl,rfl,trivial⟩ ?_
 refine dj rfl rfl ?_
 refine au (ag ?_)
 show JC _ _ _ _ _
 refine ae ?_
 refine ab ?_
 refine aC rfl rfl ?_
 refine aC rfl rfl ?_
 refine bX rfl rfl rfl (cY rfl rfl dA) ⟨rfl,trivial⟩ ?_
 refine aC rfl rfl ?_
 refine aG rfl (zI rfl dA cg (by omega) (by rw [hl];omega) (by omega)) ⟨rfl,rfl,rfl,trivial⟩ ?_
 refine bf rfl rfl (zP (t:=.int .i64) (b:=b) (cap:=cap) (l:=a0.take a1.toNat++a0.drop a2.toNat) (n:=a0.length) rfl rfl dA rfl T9 rfl rfl (by rw [hl];omega) hcap) ⟨rfl,trivial⟩ ?_
 refine au (ag ?_)
 show JC _ _ _ _ _
 refine ae ?_
 refine ab ?_
 refine aC rfl rfl ?_
 refine dj rfl rfl ?_
 refine au (ag ?_)
 show JC _ _ _ _ _
 refine aA ?_
 exact aQ _ [.eq _] 1 ⟨rfl,trivial⟩ rfl
def kJ(k:Nat)(x7:Int)(h:(List (List Int))):Nat→((List (List Int))×Int)→Option (List (List Int))
 |0,_=>none
 |n+1,c=>
  if c.2 < (h.length:Int) then((aS h c.2).bind fun e=>
  (dy (bM (List.length [x7]+List.length e))).bind fun _=>
  (dy (bM (List.length c.1+List.length [[x7]++e]))).bind fun _=>
  (ck (c.2+1)).bind fun j=>
  kJ k x7 h n (c.1++[[x7]++e],j)) else(some c.1)
def kK(k:Nat)(a0:(List Int))(self:(List Int)→Option ((List (List Int)))):Nat→((List (List Int))×Int)→Option (List (List Int))
 |0,_=>none
 |n+1,y3=>
  if y3.2 < (a0.length:Int) then((((aS a0 y3.2).bind fun x7=>
  (kL k a0).bind fun r8=>
  (ck (y3.2+1)).bind fun e=>
  (lV k r8 y3.2 e).bind fun j=>
  (self j).bind fun h=>
  kJ k x7 h k (y3.1,0)):Option ((List (List Int)))).bind fun x5=>
  (ck (y3.2+1)).bind fun c=>
  kK k a0 self n (x5,c)) else(some y3.1)
def lO(k:Nat):Nat→(List Int)→Option ((List (List Int)))
 |0,_=>none
 |m0+1,a0=>
  if(a0.length:Int)=0 then(some [[]]) else(((kK k a0 (lO k m0) k (([]:(List (List Int))),0)):Option ((List (List Int)))).bind fun x1=>
  some x1)
theorem wa(k:Nat):
 ∀(n:Nat) (a0:(List Int)) (r:(List (List Int))),lO k n a0=some r→bZ Tryz.prog 77 [Ri a0] ([]) (fun _:Unit=>(bu [.rep (.slice (.slice (.int .i64))) r],[])):=by
 intro n
 induction n with
 |zero=>intro a0 r h;cases h
 |succ m0 ih=>
  intro a0 r h;rw [lO] at h;replace h:=bb h;refine bZ.of 41 Tryz.func77 rfl Tryz.ntmps77 rfl fun S w0=>?_;refine sr (cq (nt (ae (sr ?_))));refine mq ?_;refine ol dA ?_;refine jb (fU rfl) ?_;refine nt (ci h (fun h=>?_) (fun h=>?_))
  ·refine sr (ja (bp (t:=(.slice (.int .i64))) [(.const (.slice none 0 0),_)] [[]] rfl rfl oV (.cons rfl .nil .nil) rfl rfl) ?_);refine aq (nt (rx ?_));cases h;exact ra
  ·refine sk (sr (cq (nt ?_)));refine aM (Z:=Value) (α:=(List (List Int))) (fun z2 x1=>[(3,.eq z2)]) (fun z2 x1=>[.sl z2 23 (.slice (.int .i64)) x1]) h (fun K h=>?_) (fun z2 x1 h=>?_)
   ·refine sr (mq ?_);refine ol dA ?_;refine eG rfl ?_;refine nt (ao (dN (SE.nil 23 (.slice (.int .i64))) ?_));refine aK (fun z4 y3=>[(0,Ri a0),(3,.eq z4),(12,Ri a0),(13,I (a0.length:Int)),(14,I y3.2)]) (fun z4 y3=>[.sl z4 23 (.slice (.int .i64)) y3.1]) (kK k a0 (lO k m0)) k (.slice none 0 0) (([]:(List (List Int))),0) (fun _=>rfl) h (SE.fin [0] ⟨rfl,rfl,rfl,rfl,rfl,trivial⟩ rfl) (fun n z4 y3 h=>?_);unfold kK at h;refine sr (jb (bj rfl) ?_);refine nt (ae (ci h (fun h=>?_) (fun h=>?_)))
    ·refine sk (aM (Z:=Value) (α:=(List (List Int))) (fun z6 x5=>[(0,Ri a0),(3,.eq z6),(12,Ri a0),(13,I (a0.length:Int)),(14,I y3.2)]) (fun z6 x5=>[.sl z6 23 (.slice (.int .i64)) x5]) h (fun K h=>?_) (fun z6 x5 h=>?_))
     ·refine ao (sr (mq ?_));obtain⟨x7,Y,h⟩:=aa h;refine jb (aF (t:=(.int .i64)) rfl dA cg Y) ?_;refine ja (an (t:=(.int .i64)) rfl cg rfl) ?_;refine aq ?_;refine aq (nt (sr ?_));refine mq ?_;obtain⟨r8,ac,h⟩:=aa h;refine aD rfl rfl rfl (ar [.tmp 19] rfl rfl SS rfl (nh k a0 r8 ac)) ⟨rfl,trivial⟩ fun v9=>?_;iterate 2 refine mq ?_
      obtain⟨U,D,h⟩:=aa h;refine jb (bg rfl D) ?_;obtain⟨s,M,h⟩:=aa h;refine c6 rfl rfl rfl (ar [.tmp 20,.tmp 21,.tmp 23] rfl rfl QK rfl (rJ k r8 v9 y3.2 U s M)) ⟨rfl,rfl,rfl,trivial⟩ fun qt=>?_;refine cC (eK [24] ⟨rfl,trivial⟩) ?_;obtain⟨j,J,h⟩:=aa h;refine ja (ar [.tmp 24] rfl rfl Qg rfl (ih s j J)) ?_;refine ol mA ?_;refine eG rfl ?_;refine nt (ao (aK (fun e c=>[(0,Ri a0),(3,.eq e),(5,I x7),(12,Ri a0),(13,I (a0.length:Int)),(14,I y3.2),(25,.rep (.slice (.slice (.int .i64))) j),(26,I (j.length:Int)),(27,I c.2)]) (fun e c=>[.sl e 23 (.slice (.int .i64)) c.1]) (kJ k x7 j) k z4 (y3.1,0) (fun _=>rfl) h (SE.fin [0] ⟨rfl,rfl,rfl,rfl,rfl,rfl,rfl,rfl,rfl,trivial⟩ rfl) (fun n e c h=>?_)));unfold kJ at h;refine sr (jb (bj rfl) ?_);refine nt (ae (ci h (fun h=>?_) (fun h=>?_)))
      ·refine sk (ae (ao (sr ?_)));obtain⟨l,y,h⟩:=aa h;refine jb (aF (t:=(.slice (.int .i64))) rfl mA bR y) ?_;refine ja (an (t:=(.slice (.int .i64))) rfl bR rfl) ?_;refine aq (nt (ab ?_));iterate 2 refine mq ?_
       refine aD rfl rfl rfl (l8 (t:=(.int .i64)) [(.tmp 32,_)] [x7] rfl rfl dI (.cons rfl .int .nil) rfl rfl) ⟨rfl,trivial⟩ fun pp=>?_;refine mq ?_;obtain⟨Uk,F,h⟩:=aa h;refine c6 rfl rfl rfl (bH rfl rfl dI (aB F)) ⟨rfl,rfl,trivial⟩ fun mc=>?_;refine cC (eK [35] ⟨rfl,trivial⟩) ?_;refine ja (bp (t:=(.slice (.int .i64))) [(.tmp 35,_)] [[x7]++l] rfl rfl oV (.cons rfl .rep .nil) rfl rfl) ?_;obtain⟨se,E,h⟩:=aa h;refine c6 rfl rfl rfl (bH rfl rfl oV (aB E)) ⟨rfl,rfl,trivial⟩ fun X=>?_;refine aq (au (aN (tn (ab ?_))));obtain⟨Q,x,h⟩:=aa h;refine jb (bg rfl x) ?_;refine mq (nl ?_);exact jz (X,(c.1++[[x7]++l],Q)) h [0]
      ·refine dF (aU (aU (bY (bn ?_))));exact jz (e,c.1) h [0]
     ·refine ab ?_;obtain⟨O,u,h⟩:=aa h;refine jb (bg rfl u) ?_;refine mq (nl ?_);exact jz (z6,(x5,O)) h [0]
    ·refine xa ?_;exact jz (z4,y3.1) h [0]
   ·refine sr (mq ?_);refine aq (nt (aA ?_));refine bv (eK [2,3,40] ⟨rfl,rfl,rfl,trivial⟩) ?_;cases h;exact ra
def gd{σ:Type}(k:Nat)(a1:(List Int))(Y:σ→Int→Option (σ×Bool)):Nat→(Int×σ)→Option (σ)
 |0,_=>none
 |n+1,y1=>
  if y1.1 < (a1.length:Int) then((aS a1 y1.1).bind fun x3=>
  (Y y1.2 x3).bind fun r4=>
  if¬(r4.2=true) then(some r4.1) else((ck (y1.1+1)).bind fun x6=>
  gd k a1 Y n (x6,r4.1))) else(some y1.2)
def kl{σ:Type}(k:Nat)(Y:σ→Int→Option (σ×Bool))(a1:(List Int))(s0:σ):Option (σ):=
 gd k a1 Y k (0,s0)
theorem qi{M:Md Tryz.prog}{σ Z:Type}(E:Z→σ→List D)(l:Nat)(Y:σ→Int→Option (σ×Bool))(k:Nat)(a1:(List Int))(c:Nat)(hY:∀z s p r,Y s p=some r→YT M l [I p] (E z s) (fun z':Z=>(.eq (.bool r.2),E z' r.1))):
 ∀(z0:Z) (s0:σ) (r:σ),kl k Y a1 s0=some r→dJ M 118 [.eq (.func (.yield l) #[] #[]),Pt c] ([.obj c 23 (Ri a1)]++E z0 s0) (fun z:Z=>(bu [],[.obj c 23 (Ri a1)]++E z r)):=by
 intro z0 s0 r h
 unfold kl at h
 replace h:=bb h
 refine dJ.of 16 Tryz.func118 rfl Tryz.ntmps118 rfl fun S w0=>?_
 refine sr ?_
 refine lo bR ?_
 refine ol dA ?_
 refine eG rfl ?_
 refine nt ?_
 refine ao ?_
 refine aK (Z:=Z) (α:=Int×σ) (fun z2 y1=>[(0,.eq (.func (.yield l) #[] #[])),(5,Ri a1),(6,I (a1.length:Int)),(7,I y1.1)]) (fun z2 y1=>[.obj c 23 (Ri a1)]++E z2 y1.2) (gd k a1 Y) k z0 (0,s0) (fun _=>rfl) h (bq [.obj c 23 (Ri a1)] (E z0 s0) [0] ⟨rfl,rfl,rfl,rfl,trivial⟩ rfl) (fun n z2 y1 h=>?_)
 unfold gd at h
 refine sr ?_
 refine jb (bj rfl) ?_
 refine nt ?_
 refine ae ?_
 refine ci h (fun h=>?_) (fun h=>?_)
 ·
  refine sk (ae (ao (sr ?_)));obtain⟨x3,j,h⟩:=aa h;refine jb (aF (t:=(.int .i64)) rfl dA cg j) ?_;refine ja (an (t:=(.int .i64)) rfl cg rfl) ?_;refine aq (nt (sr ?_));iterate 2 refine mq ?_
  obtain⟨r4,u,h⟩:=aa h;refine pH [.obj c 23 (Ri a1)] rfl rfl rfl (yc [.tmp 12] rfl rfl rfl (hY z2 y1.2 x3 r4 u)) ⟨rfl,rfl,trivial⟩ fun z5=>?_;refine ja (eC rfl) ?_;refine nt (cw h (fun h=>?_) (fun h=>?_))
  ·refine aA (br (bi ?_));cases h;exact iY z5 [] trivial rfl
  ·refine aY (aN (tn (ab ?_)));obtain⟨x6,e,h⟩:=aa h;refine jb (bg rfl e) ?_;refine mq (nl ?_);exact iW (z5,(x6,r4.1)) h (bq [.obj c 23 (Ri a1)] (E z5 r4.1) [0] ⟨rfl,rfl,rfl,rfl,trivial⟩ rfl)
 ·
  refine dF (aU (aU (bY (jk ?_))));cases h;exact iY z2 [] trivial rfl
def jR(k:Nat)(a1:(List Int)):Option (List Int):=
 (kl k (qx (fun(y2:(List Int)) (p4:Int)=>
  (dy (bM (List.length y2+List.length [p4]))).bind fun _=>
  some (y2++[p4],true))) a1 (([]:(List Int)),false)).bind fun r5=>
 if r5.2=true then(none) else(some r5.1)
theorem oU(k:Nat)(a1:(List Int))(c:Nat)(r:(List Int))(h:jR k a1=some r):
 bZ Tryz.prog 155 [.eq (.slice none 0 0),.eq (.func (.func 118) #[] #[(Pv c)])] [.obj c 23 (Ri a1)] (fun z:Value=>(bu [.eq z],[.sl z 3 (.int .i64) r,.obj c 23 (Ri a1)])):=by
 unfold jR at h
 replace h:=bb h
 refine yU 13 Tryz.func155 rfl Tryz.ntmps155 rfl fun {M} S w0=>?_
 refine sr ?_
 refine bx fun b1=>?_
 refine cq ?_
 refine nt ?_
 refine ae ?_
 refine sr ?_
 refine mq ?_
 refine nt ?_
 refine ao ?_
 refine dN (SE.nil 3 (.int .i64)) ?_
 refine jl 1 rfl ?_
 refine jl 2 rfl ?_
 obtain⟨r5,j,h⟩:=aa h
 refine oq (Δ:=[.obj c 23 (Ri a1),.obj b1 23 (.eq (.slice none 0 0)),.sl (.slice none 0 0) 3 (.int .i64) ([]:(List Int))]) (F:=[]) (X:=Value) (J:=fun _=>Kw r5.2) (E:=fun z3=>[.obj c 23 (Ri a1),.obj b1 23 (.eq z3),.sl z3 3 (.int .i64) r5.1]) (r0:=fun _=>.tup .any) rfl rfl QH (fun rec hp ha hb hs hpe hN hv l=>?_) (fun dl z3=>qJ (fun hj=>?_) (fun hj=>?_))
 ·
  rcases rec with⟨st0,pe0,fn0,tm0,ps0,as0,bd0,df0⟩;dsimp only at hp ha hb hs hpe hN hv;subst hp hs hpe;have vN:vL tm0 [(2,Pt b1)]:=⟨congrArg A.eq (hv 2 _ rfl).symm,trivial⟩;refine dJ.pick (M:=M) [1,0,2,3] [1,0,2,3] (qi (fun(z3:Value) (q:(List Int)×Bool)=>[.raw l (.loop (jS ⟨.ready,none,fn0,tm0, #[7],as0,bd0,df0⟩ (Kw q.2))),.obj b1 23 (.eq z3),.sl z3 3 (.int .i64) q.1]) l (qx (fun(y2:(List Int)) (p4:Int)=>
  (dy (bM (List.length y2+List.length [p4]))).bind fun _=>
  some (y2++[p4],true))) k a1 c (fun z3 q p r' h=>?_) (.slice none 0 0) (([]:(List Int)),false) r5 j) rfl (fun _=>rfl) (fun _=>rfl)
  obtain⟨rq,hq,h2,rfl⟩:=qK h;obtain⟨y2,b5⟩:=q;obtain rfl:b5=false:=hq;replace h:=bb h2;obtain⟨p4,hpv⟩:∃x,x=p:=⟨_,rfl⟩;subst hpv;refine YT.pick (R':=(fun z3:Value=>(.eq (.bool rq.2),[.raw l (.loop (jS ⟨.ready,none,fn0,tm0, #[7],as0,bd0,df0⟩ (Kw (!rq.2)))),.obj b1 23 (.eq z3),.sl z3 3 (.int .i64) rq.1]))) [0,1,2] [0,1,2] (IW ha hb (N:=13) (Γ:=[(2,Pt b1)]) rfl hN (by decide) vN (fun S w=>?_)) rfl (fun _=>rfl) (fun _=>rfl);refine ab (aq (nl ?_));refine vT rfl rfl ?_;refine ao (ab (fr 1 ?_));refine lo bR ?_;refine mq ?_;refine ja (bp (t:=(.int .i64)) [(.tmp 9,_)] [p4] rfl rfl dI (.cons rfl .int .nil) rfl rfl) ?_;obtain⟨u6,e,h⟩:=aa h;refine fr 2 ?_;refine c6 rfl rfl rfl (bH rfl rfl dI (aB e)) ⟨rfl,rfl,trivial⟩ fun v7=>?_;refine om fun o8=>?_;refine fr 1 ?_;refine bf rfl rfl (a8 rfl bR o8 rfl rfl) ⟨rfl,rfl,trivial⟩ ?_;refine au (aN (dk 1 rfl ?_));refine dk 1 rfl ?_;refine dk 2 rfl ?_;cases h;exact tR v7 2 rfl
 ·
  replace h:=bS (Ey hj) h;refine aN (tn (sr (fr 2 ?_)));refine lo bR ?_;refine aq (nt (aA ?_));refine dk 1 rfl ?_;refine yS ?_;refine bv (SE.fin (Γ':=[(4,_)]) [2,1,0] ⟨rfl,trivial⟩ rfl) ?_;cases h;exact aQ z3 [.eq z3] 2 ⟨rfl,trivial⟩ rfl
 ·
  replace h:=cH (Ew hj) h;cases h
def li(k:Nat)(a0:(List Int)):Option (List Int):=
 (jR k a0).bind fun r1=>
 some r1
theorem qN(k:Nat)(a0:(List Int))(c:Nat)(r:(List Int))(h:li k a0=some r):
 bZ Tryz.prog 116 [.eq (.func (.func 118) #[] #[(Pv c)])] [.obj c 23 (Ri a0)] (fun z:Value=>(bu [.eq z],[.sl z 3 (.int .i64) r,.obj c 23 (Ri a0)])):=by
 unfold li at h
 replace h:=bb h
 refine bZ.of 5 Tryz.func116 rfl Tryz.ntmps116 rfl fun S w0=>?_
 refine sr ?_
 refine cq ?_
 refine nt ?_
 refine sr ?_
 refine mq ?_
 obtain⟨r1,e,h⟩:=aa h
 have j:=oU k a0 c r1 e
 refine bT (Δ:=[_]) (F:=_) (fun _ _ _=>ay rfl _) rfl rfl (ar [.const (.slice none 0 0),.tmp 3] rfl rfl QA rfl j) ⟨rfl,rfl,trivial⟩ fun z2=>?_
 refine aq ?_
 refine nt ?_
 refine aA ?_
 cases h
 exact aQ z2 [.eq z2] 2 ⟨rfl,trivial⟩ rfl
def qd(k:Nat)(a0:Int):Option Bool:=
 some (!decide (a0=a0))
theorem so(k:Nat)(a0:Int)(r:Bool)(h:qd k a0=some r):
 bZ Tryz.prog 158 [I a0] [] (fun _:Unit=>(bu [.eq (.bool r)],[])):=by
 unfold qd at h
 replace h:=bb h
 refine bZ.of 6 Tryz.func158 rfl Tryz.ntmps158 rfl fun S w0=>?_
 refine sr ?_
 refine cq ?_
 refine nt ?_
 refine sr ?_
 iterate 2 refine mq ?_
 refine jb (gP rfl) ?_
 refine aq ?_
 refine nt ?_
 refine aA ?_
 cases h
 exact ra
def vG(k:Nat)(a0:Int)(a1:Int):Option Bool:=
 (((qd k a0).bind fun r3=>
 if r3=true then((qd k a1).bind fun r4=>
 if¬(r4=true) then(some true) else(some (decide (a0 < a1)))) else(some (decide (a0 < a1)))):Option (Bool)).bind fun x1=>
 some x1
theorem AM(k:Nat)(a0:Int)(a1:Int)(r:Bool)(h:vG k a0 a1=some r):
 bZ Tryz.prog 174 [I a0,I a1] [] (fun _:Unit=>(bu [.eq (.bool r)],[])):=by
 unfold vG at h
 replace h:=bb h
 refine bZ.of 17 Tryz.func174 rfl Tryz.ntmps174 rfl fun S w0=>?_
 refine sr ?_
 refine cq ?_
 refine nt ?_
 refine aM (Z:=Unit) (α:=Bool) (fun z2 x1=>[(4,.eq (.bool x1))]) (fun z2 x1=>[]) h (fun K h=>?_) (fun z2 x1 h=>?_)
 ·
  refine ab (mq ?_);obtain⟨r3,e,h⟩:=aa h;refine ja (ar [.tmp 5] rfl rfl L9 rfl (so k a0 r3 e)) ?_;refine mq ?_;refine ct (s:=7) rfl (fun hb=>?_) (fun hb=>?_)
  ·replace h:=cH (Ew hb) h;refine gm ?_;obtain⟨r4,c,h⟩:=aa h;refine ga (ar [.tmp 8] rfl rfl L9 rfl (so k a1 r4 c)) ?_;refine ga (eC rfl) ?_;refine pt ?_;refine mq ?_;refine ct (s:=12) rfl (fun hb=>?_) (fun hb=>?_)
   ·replace h:=cH (BY hb) h;iterate 3 refine gn ?_
    refine pt ?_;refine aq (nl ?_);exact jz ((),true) h []
   ·replace h:=bS (vn hb) h;refine gm ?_;refine gm ?_;refine gb (bj rfl) ?_;refine pf ?_;refine aq (nl ?_);exact jz ((),decide (a0 < a1)) h []
  ·replace h:=bS (Ey hb) h;iterate 3 refine gn ?_
   refine pf ?_;refine mq ?_;refine gm ?_;refine gm ?_;refine gb (bj rfl) ?_;refine pf ?_;refine aq (nl ?_);exact jz ((),decide (a0 < a1)) h []
 ·
  refine aA ?_;cases h;exact ra
def cO(k:Nat)(a1:Int):Nat→((List Int)×Int)→Option (List Int)
 |0,_=>none
 |n+1,y6=>
  ((if a1 < y6.2 then((aS y6.1 y6.2).bind fun u=>
  (ck (y6.2 - 1)).bind fun s=>
  (aS y6.1 s).bind fun r=>
  (vG k u r).bind fun x=>
  some x) else(some false)):Option (Bool)).bind fun x8=>
  if x8=true then((ck (y6.2 - 1)).bind fun e=>
  (ck (y6.2 - 1)).bind fun l=>
  (aS y6.1 l).bind fun c=>
  (aS y6.1 y6.2).bind fun j=>
  (aS y6.1 y6.2).bind fun D=>
  (aS (List.set y6.1 (Int.toNat y6.2) c) e).bind fun y=>
  (ck (y6.2 - 1)).bind fun h=>
  cO k a1 n (List.set (List.set y6.1 (Int.toNat y6.2) c) (Int.toNat e) j,h)) else(some y6.1)
def cP(k:Nat)(a1:Int)(a2:Int):Nat→((List Int)×Int)→Option (List Int)
 |0,_=>none
 |n+1,y2=>
  if y2.2 < a2 then(((cO k a1 k (y2.1,y2.2)):Option ((List Int))).bind fun x4=>
  (ck (y2.2+1)).bind fun c=>
  cP k a1 a2 n (x4,c)) else(some y2.1)
def eI(k:Nat)(a0:(List Int))(a1:Int)(a2:Int):Option (List Int):=
 (ck (a1+1)).bind fun x1=>
 cP k a1 a2 k (a0,x1)
theorem kf(k:Nat)(a0:(List Int))(c:Value)(a1:Int)(a2:Int)(r:(List Int))(h:eI k a0 a1 a2=some r):
 bZ Tryz.prog 168 [.eq c,I a1,I a2] [.sl c 3 (.int .i64) a0] (fun _:Unit=>(bu [],[.sl c 3 (.int .i64) r])):=by
 unfold eI at h
 replace h:=bb h
 refine bZ.of 49 Tryz.func168 rfl Tryz.ntmps168 rfl fun S w0=>?_
 refine sr ?_
 refine mq ?_
 obtain⟨x1,UB,h⟩:=aa h
 refine jb (bg rfl UB) ?_
 refine aq ?_
 refine nt ?_
 refine ao ?_
 refine aK (fun z3 y2=>[(0,.eq c),(1,I a1),(2,I a2),(6,I y2.2)]) (fun z3 y2=>[.sl c 3 (.int .i64) y2.1]) (cP k a1 a2) k () (a0,x1) (fun _=>rfl) h (SE.fin [0] ⟨rfl,rfl,rfl,rfl,trivial⟩ rfl) (fun n z3 y2 h=>?_)
 unfold cP at h
 refine ae ?_
 refine sr ?_
 iterate 2 refine mq ?_
 refine jb (bj rfl) ?_
 refine nt ?_
 refine ci h (fun h=>?_) (fun h=>?_)
 ·
  refine sk (aM (Z:=Unit) (α:=(List Int)) (fun z5 x4=>[(0,.eq c),(1,I a1),(2,I a2),(6,I y2.2)]) (fun z5 x4=>[.sl c 3 (.int .i64) x4]) h (fun K h=>?_) (fun z5 x4 h=>?_))
  ·refine ao (sr (mq ?_));refine aq (nt (ao ?_));refine aK (fun z7 y6=>[(0,.eq c),(1,I a1),(2,I a2),(6,I y2.2),(7,I y6.2)]) (fun z7 y6=>[.sl c 3 (.int .i64) y6.1]) (cO k a1) k () (y2.1,y2.2) (fun _=>rfl) h (SE.fin [0] ⟨rfl,rfl,rfl,rfl,rfl,trivial⟩ rfl) (fun n z7 y6 h=>?_);unfold cO at h;refine ae (aM (Z:=Unit) (α:=Bool) (fun z9 x8=>[(0,.eq c),(1,I a1),(2,I a2),(6,I y2.2),(7,I y6.2),(30,.eq (.bool x8))]) (fun z9 x8=>[.sl c 3 (.int .i64) y6.1]) h (fun K h=>?_) (fun z9 x8 h=>?_))
   ·refine bO ?_;refine dm ?_;refine dm ?_;refine db (ip rfl) ?_;refine kN rfl rfl rfl (aL rfl) ⟨rfl,trivial⟩ (fun hb=>?_) (fun hb=>?_)
    ·replace h:=cH (oD hb) h;refine aW rfl rfl rfl rfl rfl (aL rfl) ⟨rfl,rfl,trivial⟩ ?_;refine aW rfl rfl rfl rfl rfl (aL rfl) ⟨rfl,rfl,trivial⟩ ?_;obtain⟨Up,x,h⟩:=aa h;refine kd 0 rfl rfl rfl rfl rfl rfl (aZ (t:=(.int .i64)) rfl dA cg x) ⟨rfl,rfl,rfl,trivial⟩ ?_;refine kd 0 rfl rfl rfl rfl rfl rfl (dG (i:=Int.toNat y6.2) (off:=0) rfl cg (fun _=>rfl) rfl (cm x).2.2 rfl) ⟨rfl,rfl,trivial⟩ ?_;refine aW rfl rfl rfl rfl rfl (aL rfl) ⟨rfl,rfl,trivial⟩ ?_;refine aW rfl rfl rfl rfl rfl (aL rfl) ⟨rfl,rfl,trivial⟩ ?_;obtain⟨Uo,qt,h⟩:=aa h;refine aW rfl rfl rfl rfl rfl (fS rfl qt) ⟨rfl,rfl,rfl,trivial⟩ ?_;obtain⟨Un,u,h⟩:=aa h;refine kd 0 rfl rfl rfl rfl rfl rfl (aZ (t:=(.int .i64)) rfl dA cg u) ⟨rfl,rfl,rfl,trivial⟩ ?_;refine kd 0 rfl rfl rfl rfl rfl rfl (dG (i:=Int.toNat Uo) (off:=0) rfl cg (fun _=>rfl) rfl (cm u).2.2 rfl) ⟨rfl,rfl,trivial⟩ ?_;refine df cD ?_;obtain⟨F,se,h⟩:=aa h;refine gb (ar [.tmp 23,.tmp 28] rfl rfl Qs rfl (AM k Up Un F se)) ?_;refine pt (nl ?_);exact jz ((),F) h [0]
    ·replace h:=bS (nI hb) h;iterate 9 refine dg ?_
     refine df cD ?_;refine gn ?_;refine pf (nl ?_);exact jz ((),false) h [0]
   ·refine cv h (fun h=>?_) (fun h=>?_)
    ·refine sk (ae (ao (jm ?_)));refine aI rfl rfl rfl (aL rfl) ⟨rfl,trivial⟩ ?_;refine aI rfl rfl rfl (aL rfl) ⟨rfl,trivial⟩ ?_;refine aI rfl rfl rfl (aL rfl) ⟨rfl,trivial⟩ ?_;refine aI rfl rfl rfl (aL rfl) ⟨rfl,trivial⟩ ?_;obtain⟨y,pp,h⟩:=aa h;refine aI rfl rfl rfl (fS rfl pp) ⟨rfl,rfl,trivial⟩ ?_;refine aI rfl rfl rfl (aL rfl) ⟨rfl,trivial⟩ ?_;refine aI rfl rfl rfl (aL rfl) ⟨rfl,trivial⟩ ?_;obtain⟨Um,mc,h⟩:=aa h;refine aI rfl rfl rfl (fS rfl mc) ⟨rfl,rfl,trivial⟩ ?_;obtain⟨E,s,h⟩:=aa h;refine dn 0 rfl rfl rfl rfl (aZ (t:=(.int .i64)) rfl dA cg s) ⟨rfl,rfl,trivial⟩ ?_;refine dn 0 rfl rfl rfl rfl (dG (i:=Int.toNat Um) (off:=0) rfl cg (fun _=>rfl) rfl (cm s).2.2 rfl) ⟨rfl,trivial⟩ ?_;refine aI rfl rfl rfl (aL rfl) ⟨rfl,trivial⟩ ?_;refine aI rfl rfl rfl (aL rfl) ⟨rfl,trivial⟩ ?_;obtain⟨D,l,h⟩:=aa h;refine dn 0 rfl rfl rfl rfl (aZ (t:=(.int .i64)) rfl dA cg l) ⟨rfl,rfl,trivial⟩ ?_;refine dn 0 rfl rfl rfl rfl (dG (i:=Int.toNat y6.2) (off:=0) rfl cg (fun _=>rfl) rfl (cm l).2.2 rfl) ⟨rfl,trivial⟩ ?_;obtain⟨UJ,j,h⟩:=aa h;refine dn 0 rfl rfl rfl rfl (aZ (t:=(.int .i64)) rfl dA cg j) ⟨rfl,rfl,trivial⟩ ?_;refine mo 15 [true,true,false,false,false,true,true,true,true,true,true,true,true,true,true] [48] [] [] rfl (by kernel_rfl) (by kernel_rfl) (by kernel_rfl) cD (fun vs hv hB=>?_);obtain⟨w0,UX,rfl,UA⟩:=ak hv;obtain⟨w1,UW,rfl,Uz⟩:=ak UA;obtain⟨w2,UV,rfl,Uy⟩:=ak Uz;obtain⟨w3,UU,rfl,Ux⟩:=ak Uy;obtain⟨w4,UT,rfl,Uw⟩:=ak Ux;obtain⟨w5,US,rfl,Uu⟩:=ak Uw;obtain⟨w6,UR,rfl,Ut⟩:=ak Uu;obtain⟨w7,UQ,rfl,Us⟩:=ak Ut;obtain⟨w8,UP,rfl,Ur⟩:=ak Us;obtain⟨w9,UH,rfl,X⟩:=ak Ur;obtain⟨UO,UG,rfl,U⟩:=ak X;obtain⟨UN,UF,rfl,Q⟩:=ak U;obtain⟨UM,UE,rfl,O⟩:=ak Q;obtain⟨UL,UD,rfl,M⟩:=ak O;obtain⟨UK,UC,rfl,J⟩:=ak M;obtain rfl:=jW J;refine⟨[0],[.sl c 3 (.int .i64) y6.1],by kernel_rfl,by decide,?_⟩;refine oh rfl rfl (cF (i:=Int.toNat y6.2) rfl cg rfl (gf j) rfl .int rfl) ⟨rfl,rfl,trivial⟩ (by kernel_rfl) ?_;obtain⟨UI,e,h⟩:=aa h;refine vS rfl rfl rfl rfl (aZ (t:=(.int .i64)) rfl dA cg e) ⟨rfl,rfl,trivial⟩ (by kernel_rfl) ?_;refine oh rfl rfl (cF (i:=Int.toNat y) rfl cg rfl (gf e) rfl .int rfl) ⟨rfl,rfl,trivial⟩ (by kernel_rfl) ?_;refine pG ?_;refine bv (SE.fin (Γ':=[(0,.eq c),(1,I a1),(2,I a2),(6,I y2.2),(7,I y6.2)]) (Δ':=[.sl c 3 (.int .i64) (List.set (List.set y6.1 (Int.toNat y6.2) E) (Int.toNat y) D)]) [0] ⟨rfl,rfl,rfl,rfl,rfl,trivial⟩ rfl) ?_;refine aN (tn (ab (mq ?_)));obtain⟨Ul,ac,h⟩:=aa h;refine jb (fS rfl ac) ?_;refine aq (nl ?_);exact jz ((),(List.set (List.set y6.1 (Int.toNat y6.2) E) (Int.toNat y) D,Ul)) h [0]
    ·refine dF (aU (aU (bY (bn ?_))));exact jz ((),y6.1) h [0]
  ·refine ab (mq ?_);obtain⟨Uk,Y,h⟩:=aa h;refine jb (bg rfl Y) ?_;refine aq (nl ?_);exact jz ((),(x4,Uk)) h [0]
 ·
  refine dF (aU (aU (bY (jk ?_))));cases h;exact aQ () [] 1 trivial rfl
def lj(k:Nat)(a0:Int):Option Int:=
 ((if 4294967296≤a0 then(some (iu .u64 a0 32,32)) else(some (a0,0))):Option (Int×Int)).bind fun x1=>
 ((if 65536≤x1.1 then((ck (x1.2+16)).bind fun x5=>
 some (iu .u64 x1.1 16,x5)) else(some (x1.1,x1.2))):Option (Int×Int)).bind fun x3=>
 ((if 256≤x3.1 then((ck (x3.2+8)).bind fun x8=>
 some (iu .u64 x3.1 8,x8)) else(some (x3.1,x3.2))):Option (Int×Int)).bind fun x6=>
 (CG Kt (IntKind.u8.wrap x6.1)).bind fun x9=>
 (ck (x9.toNat:Int)).bind fun e=>
 (ck (x6.2+e)).bind fun c=>
 some c
theorem qY(k:Nat)(a0:Int)(r:Int)(h:lj k a0=some r):
 bZ Tryz.prog 178 [.eq (.int .u64 a0)] [] (fun _:Unit=>(bu [I r],[])):=by
 unfold lj at h
 replace h:=bb h
 refine bZ.of 25 Tryz.func178 rfl Tryz.ntmps178 rfl fun S w0=>?_
 refine sr ?_
 refine cq ?_
 refine nt ?_
 refine aM (Z:=Unit) (α:=Int×Int) (fun z2 x1=>[(0,.eq (.int .u64 x1.1)),(2,I x1.2)]) (fun z2 x1=>[]) h (fun K h=>?_) (fun z2 x1 h=>?_)
 ·
  refine sr (mq ?_);refine jb (qy rfl) ?_;refine nt (ci h (fun h=>?_) (fun h=>?_))
  ·refine sr (mq ?_);refine aG rfl (vi rfl (by decide)) ⟨rfl,rfl,trivial⟩ ?_;refine aq (nt (ab ?_));refine cq (nl ?_);exact jz ((),(iu .u64 a0 32,32)) h []
  ·refine aY (ag ?_);exact jz ((),(a0,0)) h []
 ·
  refine aM (Z:=Unit) (α:=Int×Int) (fun z4 x3=>[(0,.eq (.int .u64 x3.1)),(2,I x3.2)]) (fun z4 x3=>[]) h (fun K h=>?_) (fun z4 x3 h=>?_)
  ·refine sr (mq ?_);refine jb (qy rfl) ?_;refine nt (ci h (fun h=>?_) (fun h=>?_))
   ·refine sr (mq ?_);refine aG rfl (vi rfl (by decide)) ⟨rfl,rfl,trivial⟩ ?_;refine aq (nt (ab ?_));refine mq ?_;obtain⟨x5,n,h⟩:=aa h;refine jb (bg rfl n) ?_;refine aq (nl ?_);exact jz ((),(iu .u64 x1.1 16,x5)) h []
   ·refine aY (ag ?_);exact jz ((),(x1.1,x1.2)) h []
  ·refine aM (Z:=Unit) (α:=Int×Int) (fun z7 x6=>[(0,.eq (.int .u64 x6.1)),(2,I x6.2)]) (fun z7 x6=>[]) h (fun K h=>?_) (fun z7 x6 h=>?_)
   ·refine sr (mq ?_);refine jb (qy rfl) ?_;refine nt (ci h (fun h=>?_) (fun h=>?_))
    ·refine sr (mq ?_);refine aG rfl (vi rfl (by decide)) ⟨rfl,rfl,trivial⟩ ?_;refine aq (nt (ab ?_));refine mq ?_;obtain⟨x8,l,h⟩:=aa h;refine jb (bg rfl l) ?_;refine aq (nl ?_);exact jz ((),(iu .u64 x3.1 8,x8)) h []
    ·refine aY (ag ?_);exact jz ((),(x3.1,x3.2)) h []
   ·refine sr ?_;iterate 2 refine mq ?_
    refine ja (o4 rfl Rq U5) ?_;obtain⟨x9,j,h⟩:=aa h;refine ja (zN rfl U9 j) ?_;obtain⟨u,e,h⟩:=aa h;refine ja (zO rfl U5 U3 e) ?_;obtain⟨s,c,h⟩:=aa h;refine jb (bg rfl c) ?_;refine aq (nt (aA ?_));cases h;exact ra
def yJ(k:Nat)(a0:Int):Option Int:=
 (lj k a0).bind fun r1=>
 some r1
theorem CZ(k:Nat)(a0:Int)(r:Int)(h:yJ k a0=some r):
 bZ Tryz.prog 157 [.eq (.int .u64 a0)] [] (fun _:Unit=>(bu [I r],[])):=by
 unfold yJ at h
 replace h:=bb h
 refine bZ.of 8 Tryz.func157 rfl Tryz.ntmps157 rfl fun S w0=>?_
 refine sr ?_
 refine cq ?_
 refine nt ?_
 refine ae ?_
 refine Jg (fun hb=>(by cases hb)) (fun hb=>?_)
 refine sk ?_
 refine sr ?_
 refine mq ?_
 obtain⟨r1,c,h⟩:=aa h
 have e:=qY k a0 r1 c
 refine ja (ar [.tmp 6] rfl rfl Qq rfl e) ?_
 refine aq ?_
 refine nt ?_
 refine aA ?_
 cases h
 exact ra
def fE(k:Nat)(a0:(List Int))(a1:Int)(a2:Int)(a3:Int):Nat→Unit→Option (List Int)
 |0,_=>none
 |n+1,y1=>
  (ck (a2 - a1)).bind fun x3=>
  if x3≤12 then((eI k a0 a1 a2).bind fun r4=>
  some r4) else(if a3=0 then(none) else(none))
def gY(k:Nat)(a0:(List Int))(a1:Int)(a2:Int)(a3:Int):Option (List Int):=
 fE k a0 a1 a2 a3 k ()
theorem my(k:Nat)(a0:(List Int))(c:Value)(a1:Int)(a2:Int)(a3:Int)(r:(List Int))(h:gY k a0 a1 a2 a3=some r):
 bZ Tryz.prog 156 [.eq c,I a1,I a2,I a3] [.sl c 3 (.int .i64) a0] (fun _:Unit=>(bu [],[.sl c 3 (.int .i64) r])):=by
 unfold gY at h
 replace h:=bb h
 refine bZ.of 134 Tryz.func156 rfl Tryz.ntmps156 rfl fun S w0=>?_
 refine sr ?_
 refine cq ?_
 refine nt ?_
 refine sr ?_
 refine cq ?_
 refine nt ?_
 refine ao ?_
 refine aK (fun z2 y1=>[(0,.eq c),(1,I a1),(2,I a2),(3,I a3),(8,.eq (.bool true)),(9,.eq (.bool true))]) (fun z2 y1=>[.sl c 3 (.int .i64) a0]) (fE k a0 a1 a2 a3) k () () (fun _=>rfl) h (SE.fin [0] ⟨rfl,rfl,rfl,rfl,rfl,rfl,trivial⟩ rfl) (fun n z2 y1 h=>?_)
 unfold fE at h
 refine ao ?_
 refine sr ?_
 iterate 2 refine mq ?_
 obtain⟨x3,e,h⟩:=aa h
 refine jb (fS rfl e) ?_
 refine aq ?_
 refine nt ?_
 refine ae ?_
 refine sr ?_
 refine mq ?_
 refine jb (vk rfl) ?_
 refine nt ?_
 refine ci h (fun h=>?_) (fun h=>?_)
 ·
  refine sr ?_;iterate 3 refine mq ?_
  obtain⟨r4,j,h⟩:=aa h;refine kc (ar [.tmp 24,.tmp 25,.tmp 26] rfl rfl Qv rfl (kf k a0 c a1 a2 r4 j)) ?_;refine nt (rx (bi (aV (bi ?_))));cases h;exact aQ () [] 1 trivial rfl
 ·
  refine sk (ae (sr (mq ?_)));refine jb (fU rfl) ?_;refine nt (ci h (fun h=>?_) (fun h=>?_))
  ·refine sr ?_;iterate 3 refine mq ?_
   cases h
  ·refine sk (ae (sr (mq ?_)));refine ja (eC rfl) ?_;refine nt (bK rfl (fun hb=>(by cases hb)) (fun hb=>?_));refine sk (sr ?_);iterate 3 refine mq ?_
   cases h
def nR(k:Nat)(a0:(List Int)):Option (List Int):=
 (yJ k (IntKind.u64.wrap (a0.length:Int))).bind fun r1=>
 (gY k a0 0 (a0.length:Int) r1).bind fun r2=>
 some r2
theorem ug(k:Nat)(a0:(List Int))(c:Value)(r:(List Int))(h:nR k a0=some r):
 bZ Tryz.prog 117 [.eq c] [.sl c 3 (.int .i64) a0] (fun _:Unit=>(bu [],[.sl c 3 (.int .i64) r])):=by
 unfold nR at h
 replace h:=bb h
 refine bZ.of 11 Tryz.func117 rfl Tryz.ntmps117 rfl fun S w0=>?_
 refine sr ?_
 refine mq ?_
 refine ka (cY rfl rfl dA) ?_
 refine aq ?_
 refine nt ?_
 refine ab ?_
 iterate 3 refine mq ?_
 refine ja (o4 rfl U3 TF) ?_
 obtain⟨r1,j,h⟩:=aa h
 have n:=CZ k (IntKind.u64.wrap (a0.length:Int)) r1 j
 refine ja (ar [.tmp 8] rfl rfl Qy rfl n) ?_
 obtain⟨r2,e,h⟩:=aa h
 have l:=my k a0 c 0 (a0.length:Int) r1 r2 e
 refine bX rfl rfl rfl (ar [.tmp 5,.const (.int .i64 (0)),.tmp 6,.tmp 9] rfl rfl Qz rfl l) ⟨rfl,rfl,rfl,rfl,trivial⟩ ?_
 refine au ?_
 refine jk ?_
 cases h
 exact aQ () [] 1 trivial rfl
def lU(k:Nat)(a0:(List Int)):Option (List Int):=
 (li k a0).bind fun r1=>
 (nR k r1).bind fun r3=>
 some r3
theorem rI(k:Nat)(a0:(List Int))(c:Nat)(r:(List Int))(h:lU k a0=some r):
 bZ Tryz.prog 78 [.eq (.func (.func 118) #[] #[(Pv c)])] [.obj c 23 (Ri a0)] (fun _:Unit=>(bu [Ri r],[.obj c 23 (Ri a0)])):=by
 unfold lU at h
 replace h:=bb h
 refine bZ.of 9 Tryz.func78 rfl Tryz.ntmps78 rfl fun S w0=>?_
 refine sr ?_
 refine cq ?_
 refine nt ?_
 refine sr ?_
 refine mq ?_
 obtain⟨r1,j,h⟩:=aa h
 have n:=qN k a0 c r1 j
 refine bT (Δ:=[_]) (F:=_) (fun _ _ _=>ay rfl _) rfl rfl (ar [.tmp 4] rfl rfl QJ rfl n) ⟨rfl,trivial⟩ fun z2=>?_
 refine aq ?_
 refine nt ?_
 refine sr ?_
 refine mq ?_
 obtain⟨r3,e,h⟩:=aa h
 have l:=ug k r1 z2 r3 e
 refine ka (ar [.tmp 6] rfl rfl QI rfl l) ?_
 refine nt ?_
 refine sr ?_
 refine mq ?_
 refine aq ?_
 refine nt ?_
 refine aA ?_
 refine bv (eK [2,3,5,6,8] ⟨rfl,rfl,rfl,rfl,rfl,trivial⟩) ?_
 cases h
 exact aQ () [_] 1 ⟨rfl,trivial⟩ rfl
theorem rH(a0:(List Int)):bZ Tryz.prog 79 [Ri a0] [] (fun z:Nat=>(bu [.eq (.func (.func 118) #[] #[(Pv z)])],[.obj z 23 (Ri a0)])):=by
 refine bZ.of 4 Tryz.func79 rfl Tryz.ntmps79 rfl fun S w0=>?_;refine sr (bx fun z=>?_);refine cq (nt (sr ?_));refine ja (tf [] [.tmp 1] [] [(Pv z)] rfl rfl rfl) ?_;refine aq (nt (aA ?_));exact aQ z [_] 1 ⟨rfl,trivial⟩ rfl
def dV{σ:Type}(k:Nat)(a0:(List (List Int)))(a1:Int)(a2:Int)(a3:dp)(self:(List (List Int))→Int→Int→σ→Option (Bool×σ))(h:(List Int)):Nat→(Int×σ)→Option (Except (Bool×σ) (σ))
 |0,_=>none
 |n+1,c=>
  if c.1 < (a3.1.2.1.length:Int) then(bE (α:=σ) ((aS a3.1.2.1 c.1).bind fun y=>
  (((dK k a2 c.1).bind fun I=>
  if I=true then(some (true,c.2)) else((na k a3.1 h).bind fun F=>
  (ck (F+y.1)).bind fun x=>
  (aS a3.1.2.2 a1).bind fun u=>
  some (decide (u < x),c.2))):Option (Bool×σ)).bind fun j=>
  if j.1=true then(some (.ok j.2)) else((dy (0≤a1∧a1 < 3)).bind fun _=>
  (aS a0 a1).bind fun s=>
  (dy (0≤(h.length:Int)∧(h.length:Int) < 5)).bind fun _=>
  (eQ k a2 c.1).bind fun E=>
  (self (List.set a0 (Int.toNat a1) (List.set s (Int.toNat (h.length:Int)) c.1)) a1 E j.2).bind fun l=>
  if¬(l.1=true) then(some (.error (false,l.2))) else(some (.ok l.2)))) (fun e=>some (.error e)) fun D=>
  (ck (c.1+1)).bind fun r=>
  dV k a0 a1 a2 a3 self h n (r,D)) else(some (.ok c.2))
def de{σ:Type}(k:Nat)(Y:σ→(List (List Int))→Option (σ×Bool))(a3:dp):Nat→(List (List Int))→Int→Int→σ→Option (Bool×σ)
 |0,_,_,_,_=>none
 |m0+1,a0,a1,a2,s0=>
  if a1=(a3.1.2.2.length:Int) then((((dy (0≤(a3.1.2.1.length:Int))).bind fun _=>
  if¬(a2=(IntKind.u8.wrap ((nB .u8 1 (a3.1.2.1.length:Int)) - 1))) then(some (true,s0)) else((Y s0 a0).bind fun r5=>
  some (r5.2,r5.1))):Option (Bool×σ)).bind fun x2=>
  some (x2.1,x2.2)) else((ck (a1+1)).bind fun x7=>
  ((de k Y a3 m0) a0 x7 a2 s0).bind fun r8=>
  if¬(r8.1=true) then(some (false,r8.2)) else((dW k a0 a1).bind fun e=>
  bE (α:=σ) (dV k a0 a1 a2 a3 (de k Y a3 m0) e k (0,r8.2)) (some) fun c=>
  some (true,c)))
theorem mX{M:Md Tryz.prog}{σ Z:Type}(E:Z→σ→List D)(l:Nat)(Y:σ→(List (List Int))→Option (σ×Bool))(k:Nat)(a3:dp)(u:Nat)(x:Nat)(c:Nat)(hY:∀z s p r,Y s p=some r→YT M l [.rep (.arr 3 (.arr 5 (.int .i64))) p] (E z s) (fun z':Z=>(.eq (.bool r.2),E z' r.1))):
 ∀(n:Nat) (a0:(List (List Int))) (a1:Int) (a2:Int) (z0:Z) (s0:σ) (r:Bool×σ),de k Y a3 n a0 a1 a2 s0=some r→dJ M 121 [.rep (.arr 3 (.arr 5 (.int .i64))) a0,I a1,.eq (.int .u8 a2),Pt u,Pt x,Pt c] ([.obj u 81 (.at bL a3),.obj x 195 (.eq (.func (.yield l) #[] #[])),.obj c 196 (.eq (.func (.func 121) #[] #[(Pv u),(Pv x),(Pv c)]))]++E z0 s0) (fun z:Z=>(bu [.eq (.bool r.1)],[.obj u 81 (.at bL a3),.obj x 195 (.eq (.func (.yield l) #[] #[])),.obj c 196 (.eq (.func (.func 121) #[] #[(Pv u),(Pv x),(Pv c)]))]++E z r.2)):=by
 intro n
 induction n with
 |zero=>intro a0 a1 a2 z0 s0 r h;cases h
 |succ m0 ih=>
  intro a0 a1 a2 z0 s0 r h;rw [de] at h;replace h:=bb h;refine dJ.of 97 Tryz.func121 rfl Tryz.ntmps121 rfl fun S w0=>?_;refine sr (bx fun b1=>?_);refine cq (nt (ae (sr ?_)));refine mq ?_;refine fr 1 ?_;refine lo xM ?_;refine ja (dR rfl) ?_;refine ja (aJ 3 true rfl j7 rfl) ?_;refine ja (aJ 1 false rfl cK rfl) ?_;refine ja (an (t:=(.slice (.int .i64))) rfl bR rfl) ?_;refine ol dA ?_;refine jb (fU rfl) ?_;refine nt (ci h (fun h=>?_) (fun h=>?_))
  ·refine aM (Z:=Z) (α:=Bool×σ) (fun z3 x2=>[(9,.eq (.bool x2.1))]) (fun z3 x2=>[.obj u 81 (.at bL a3),.obj x 195 (.eq (.func (.yield l) #[] #[])),.obj c 196 (.eq (.func (.func 121) #[] #[(Pv u),(Pv x),(Pv c)]))]++E z3 x2.2) h (fun K h=>?_) (fun z3 x2 h=>?_)
   ·refine ab (mq ?_);refine lo xM ?_;refine ja (dR rfl) ?_;refine ja (aJ 3 true rfl j7 rfl) ?_;refine ja (aJ 1 false rfl bU rfl) ?_;refine ja (an (t:=(.slice aH)) rfl eR rfl) ?_;refine ol mB ?_;obtain⟨u4,UI,h⟩:=aa h;refine jb (G6 rfl (aB UI)) ?_;refine jb (G5 rfl) ?_;refine jb (gP rfl) ?_;refine mq ?_;refine ct (s:=32) rfl (fun hb=>?_) (fun hb=>?_)
    ·replace h:=cH (Jl hb) h;iterate 3 refine gn ?_
     refine pt ?_;refine aq (nl ?_);exact iW (z0,(true,s0)) h (bq [.obj u 81 (.at bL a3),.obj b1 86 (.rep (.arr 3 (.arr 5 (.int .i64))) a0),.obj x 195 (.eq (.func (.yield l) #[] #[])),.obj c 196 (.eq (.func (.func 121) #[] #[(Pv u),(Pv x),(Pv c)]))] (E z0 s0) [0,2,3] ⟨rfl,trivial⟩ rfl)
    ·replace h:=bS (wu hb) h;refine fr 2 ?_;refine jA rfl rfl rfl rfl rfl rfl (aj rfl O2 jt rfl) ⟨rfl,trivial⟩ ?_;refine fr 2 ?_;refine jA rfl rfl rfl rfl rfl rfl (aj rfl fm (vX) rfl) ⟨rfl,trivial⟩ ?_;obtain⟨r5,UK,h⟩:=aa h;refine fr 3 ?_;refine fr 3 ?_;refine fr 3 ?_;refine fr 3 ?_;refine FR [.obj b1 86 (.rep (.arr 3 (.arr 5 (.int .i64))) a0),.obj x 195 (.eq (.func (.yield l) #[] #[])),.obj u 81 (.at bL a3),.obj c 196 (.eq (.func (.func 121) #[] #[(Pv u),(Pv x),(Pv c)]))] rfl rfl rfl rfl rfl rfl (yc [.tmp 34] rfl rfl rfl (hY z0 s0 a0 r5 UK)) ⟨rfl,rfl,trivial⟩ fun z6=>?_;refine pf ?_;refine aq (nl ?_);exact iW (z6,(r5.2,r5.1)) h (bq [.obj b1 86 (.rep (.arr 3 (.arr 5 (.int .i64))) a0),.obj x 195 (.eq (.func (.yield l) #[] #[])),.obj u 81 (.at bL a3),.obj c 196 (.eq (.func (.func 121) #[] #[(Pv u),(Pv x),(Pv c)]))] (E z6 r5.1) [2,1,3] ⟨rfl,trivial⟩ rfl)
   ·refine rx ?_;cases h;exact iY z3 [_] ⟨rfl,trivial⟩ rfl
  ·refine sk (ae (sr (fr 3 ?_)));refine lo Dj ?_;refine fr 2 ?_;refine lo fm ?_;refine mq ?_;obtain⟨x7,UH,h⟩:=aa h;refine jb (bg rfl UH) ?_;refine mq ?_;obtain⟨r8,UJ,h⟩:=aa h;refine fr 1 ?_;refine fr 3 ?_;refine fr 3 ?_;refine fr 3 ?_;refine pH [.obj b1 86 (.rep (.arr 3 (.arr 5 (.int .i64))) a0)] rfl rfl rfl (o6 (fs:=[]) (cs:=[(Pv u),(Pv x),(Pv c)]) (ags:=[.rep (.arr 3 (.arr 5 (.int .i64))) a0,I x7,.eq (.int .u8 a2)]) [.tmp 38,.tmp 40,.tmp 41] rfl rfl IB rfl (ih a0 x7 a2 z0 s0 r8 UJ)) ⟨rfl,rfl,rfl,rfl,trivial⟩ fun z9=>?_;refine ja (eC rfl) ?_;refine nt (cw h (fun h=>?_) (fun h=>?_))
   ·refine sr (cq (nt (rx ?_)));refine bv (bq (Γ':=[(9,_)]) [.obj b1 86 (.rep (.arr 3 (.arr 5 (.int .i64))) a0),.obj u 81 (.at bL a3),.obj x 195 (.eq (.func (.yield l) #[] #[])),.obj c 196 (.eq (.func (.func 121) #[] #[(Pv u),(Pv x),(Pv c)]))] (E z9 r8.2) [1,2,3] ⟨rfl,trivial⟩ rfl) ?_;cases h;exact iY z9 [_] ⟨rfl,trivial⟩ rfl
   ·refine sk (sr (lo fm ?_));refine mq ?_;obtain⟨F,UA,h⟩:=aa h;refine jb (ar [.tmp 44,.tmp 45] rfl rfl KY rfl (gj k a0 a1 F UA)) ?_;refine aq (nt ?_);refine dQ (Z:=Z) (α:=σ) (fun qt Ul=>[]) (fun qt Ul=>[.obj u 81 (.at bL a3),.obj x 195 (.eq (.func (.yield l) #[] #[])),.obj c 196 (.eq (.func (.func 121) #[] #[(Pv u),(Pv x),(Pv c)]))]++E qt Ul) (fun e=>e=r) h (fun e h=>Option.some.inj h) (fun K hR h=>?_) (fun qt Ul h=>?_)
    ·refine sr (fr 1 ?_);refine lo xM ?_;refine ja (dR rfl) ?_;refine ja (aJ 3 true rfl j7 rfl) ?_;refine ja (aJ 1 false rfl bU rfl) ?_;refine ja (an (t:=(.slice aH)) rfl eR rfl) ?_;refine ol mB ?_;refine eG rfl ?_;refine nt (ao (aK (Z:=Z) (α:=Int×σ) (fun J y=>[(1,I a1),(2,.eq (.int .u8 a2)),(3,Pt u),(5,Pt c),(6,Pt b1),(10,Ri F),(51,Rs aH a3.1.2.1),(52,I (a3.1.2.1.length:Int)),(53,I y.1)]) (fun J y=>[.obj u 81 (.at bL a3),.obj c 196 (.eq (.func (.func 121) #[] #[(Pv u),(Pv x),(Pv c)])),.obj x 195 (.eq (.func (.yield l) #[] #[])),.obj b1 86 (.rep (.arr 3 (.arr 5 (.int .i64))) a0)]++E J y.2) (dV k a0 a1 a2 a3 (de k Y a3 m0) F) k z9 (0,r8.2) (fun _=>rfl) h (bq [.obj u 81 (.at bL a3),.obj b1 86 (.rep (.arr 3 (.arr 5 (.int .i64))) a0),.obj x 195 (.eq (.func (.yield l) #[] #[])),.obj c 196 (.eq (.func (.func 121) #[] #[(Pv u),(Pv x),(Pv c)]))] (E z9 r8.2) [0,3,2,1] ⟨rfl,rfl,rfl,rfl,rfl,rfl,rfl,rfl,rfl,trivial⟩ rfl) (fun n J y h=>?_)));unfold dV at h;refine sr (jb (bj rfl) ?_);refine nt (ae (ci h (fun h=>?_) (fun h=>?_)))
     ·refine sk (dQ (Z:=Z) (α:=σ) (fun X mc=>[(1,I a1),(2,.eq (.int .u8 a2)),(3,Pt u),(5,Pt c),(6,Pt b1),(10,Ri F),(51,Rs aH a3.1.2.1),(52,I (a3.1.2.1.length:Int)),(53,I y.1)]) (fun X mc=>[.obj u 81 (.at bL a3),.obj c 196 (.eq (.func (.func 121) #[] #[(Pv u),(Pv x),(Pv c)])),.obj x 195 (.eq (.func (.yield l) #[] #[])),.obj b1 86 (.rep (.arr 3 (.arr 5 (.int .i64))) a0)]++E X mc) (fun e=>e=r) h (fun e h=>hR e h) (fun K hR h=>?_) (fun X mc h=>?_))
      ·refine ao (sr (mq ?_));obtain⟨Uo,Uu,h⟩:=aa h;refine jb (aF (t:=aH) rfl mB gC Uu) ?_;refine ja (an (t:=aH) rfl gC rfl) ?_;refine aD rfl rfl rfl (a9 rfl uc Lm) trivial fun UB=>?_;refine aq ?_;refine bf rfl rfl (a8 rfl gC rfl rfl rfl) ⟨rfl,rfl,trivial⟩ ?_;refine nt (ae (aM (Z:=Z) (α:=Bool×σ) (fun U O=>[(1,I a1),(2,.eq (.int .u8 a2)),(3,Pt u),(5,Pt c),(6,Pt b1),(10,Ri F),(11,I y.1),(51,Rs aH a3.1.2.1),(52,I (a3.1.2.1.length:Int)),(53,I y.1),(80,.eq (.bool O.1))]) (fun U O=>[.obj u 81 (.at bL a3),.obj c 196 (.eq (.func (.func 121) #[] #[(Pv u),(Pv x),(Pv c)])),.obj x 195 (.eq (.func (.yield l) #[] #[])),.obj b1 86 (.rep (.arr 3 (.arr 5 (.int .i64))) a0)]++E U O.2) h (fun K h=>?_) (fun U O h=>?_)))
       ·refine bO ?_;refine dm ?_;refine dm ?_;obtain⟨UG,Uz,h⟩:=aa h;refine db (ar [.tmp 58,.tmp 59] rfl rfl Iy rfl (gh k a2 y.1 UG Uz)) ?_;refine kN rfl rfl rfl (aL rfl) ⟨rfl,trivial⟩ (fun hb=>?_) (fun hb=>?_)
        ·replace h:=cH (Ew hb) h;iterate 17 refine dg ?_
         refine df cD ?_;refine gn ?_;refine pt (nl ?_);exact iW (J,(true,y.2)) h (bq [.obj UB 27 (.rep aH Uo),.obj u 81 (.at bL a3),.obj c 196 (.eq (.func (.func 121) #[] #[(Pv u),(Pv x),(Pv c)])),.obj x 195 (.eq (.func (.yield l) #[] #[])),.obj b1 86 (.rep (.arr 3 (.arr 5 (.int .i64))) a0)] (E J y.2) [1,2,3,4] ⟨rfl,rfl,rfl,rfl,rfl,rfl,rfl,rfl,rfl,rfl,rfl,trivial⟩ rfl)
        ·replace h:=bS (Ey hb) h;refine kd 1 rfl rfl rfl rfl rfl rfl (aj rfl xM jt rfl) ⟨rfl,rfl,trivial⟩ ?_;refine aW rfl rfl rfl rfl rfl (dR rfl) ⟨rfl,rfl,trivial⟩ ?_;refine aW rfl rfl rfl rfl rfl (aJ 3 true rfl j7 rfl) ⟨rfl,rfl,trivial⟩ ?_;refine aW rfl rfl rfl rfl rfl (an (t:=ap) rfl cJ rfl) ⟨rfl,rfl,trivial⟩ ?_;refine aW rfl rfl rfl rfl rfl (aL rfl) ⟨rfl,rfl,trivial⟩ ?_;obtain⟨UF,Uy,h⟩:=aa h;refine aW rfl rfl rfl rfl rfl (ar [.tmp 65,.tmp 66] rfl rfl Mc rfl (tV k a3.1 F UF Uy)) ⟨rfl,rfl,rfl,trivial⟩ ?_;refine aW rfl rfl rfl rfl rfl (av rfl kB) ⟨rfl,rfl,trivial⟩ ?_;refine kd 0 rfl rfl rfl rfl rfl rfl (aj rfl cg jt rfl) ⟨rfl,rfl,trivial⟩ ?_;obtain⟨UE,Ut,h⟩:=aa h;refine aW rfl rfl rfl rfl rfl (bg rfl Ut) ⟨rfl,rfl,rfl,trivial⟩ ?_;refine kd 1 rfl rfl rfl rfl rfl rfl (aj rfl xM jt rfl) ⟨rfl,rfl,trivial⟩ ?_;refine aW rfl rfl rfl rfl rfl (dR rfl) ⟨rfl,rfl,trivial⟩ ?_;refine aW rfl rfl rfl rfl rfl (aJ 3 true rfl j7 rfl) ⟨rfl,rfl,trivial⟩ ?_;refine aW rfl rfl rfl rfl rfl (aJ 1 false rfl cK rfl) ⟨rfl,rfl,trivial⟩ ?_;refine aW rfl rfl rfl rfl rfl (an (t:=(.slice (.int .i64))) rfl bR rfl) ⟨rfl,rfl,trivial⟩ ?_;refine aW rfl rfl rfl rfl rfl (aL rfl) ⟨rfl,rfl,trivial⟩ ?_;obtain⟨UD,Us,h⟩:=aa h;refine aW rfl rfl rfl rfl rfl (aF (t:=(.int .i64)) rfl dA cg Us) ⟨rfl,rfl,rfl,trivial⟩ ?_;refine aW rfl rfl rfl rfl rfl (an (t:=(.int .i64)) rfl cg rfl) ⟨rfl,rfl,trivial⟩ ?_;refine df cD ?_;refine gb (ip rfl) ?_;refine pf (nl ?_);exact iW (J,(decide (UD < UE),y.2)) h (bq [.obj UB 27 (.rep aH Uo),.obj u 81 (.at bL a3),.obj c 196 (.eq (.func (.func 121) #[] #[(Pv u),(Pv x),(Pv c)])),.obj x 195 (.eq (.func (.yield l) #[] #[])),.obj b1 86 (.rep (.arr 3 (.arr 5 (.int .i64))) a0)] (E J y.2) [1,2,3,4] ⟨rfl,rfl,rfl,rfl,rfl,rfl,rfl,rfl,rfl,rfl,rfl,trivial⟩ rfl)
       ·refine cv h (fun h=>?_) (fun h=>?_)
        ·refine dF (aU (bY (ag ?_)));exact iW (U,O.2) h (bq [.obj u 81 (.at bL a3),.obj c 196 (.eq (.func (.func 121) #[] #[(Pv u),(Pv x),(Pv c)])),.obj x 195 (.eq (.func (.yield l) #[] #[])),.obj b1 86 (.rep (.arr 3 (.arr 5 (.int .i64))) a0)] (E U O.2) [0,1,2,3] ⟨rfl,rfl,rfl,rfl,rfl,rfl,rfl,rfl,rfl,trivial⟩ rfl)
        ·refine sk (sr (fr 3 ?_));refine lo fm ?_;refine aD rfl rfl rfl (a9 rfl qF rh) trivial fun Un=>?_;refine bf rfl rfl (a8 rfl fm rfl rfl rfl) ⟨rfl,rfl,trivial⟩ ?_;refine nt (sr ?_);iterate 2 refine mq ?_
         refine ol dA ?_;refine mq ?_;obtain⟨UM,Uk,h⟩:=aa h;refine jb (iI rfl Rn Gz (aB Uk).1 (aB Uk).2) ?_;obtain⟨ac,Ur,h⟩:=aa h;obtain⟨UL,Q,h⟩:=aa h;refine jb (iI rfl Ro cg (aB Q).1 (aB Q).2) ?_;refine bf rfl rfl (nW (t:=(.int .i64)) (off:=0) (i:=a1) (j:=(F.length:Int)) (N:=3) (L:=5) rfl cg .int rfl rfl rfl rfl Ur (aB Q).1 (aB Q).2 rfl) ⟨rfl,rfl,trivial⟩ ?_;refine nt (ae (bO ?_));refine ea 3 (aj rfl Dj jt rfl) ?_;refine ea 0 (aj rfl fm (vX) rfl) ?_;refine dm ?_;refine dm ?_;refine dm ?_;obtain⟨Um,Ux,h⟩:=aa h;refine db (ar [.tmp 91,.tmp 92] rfl rfl D1 rfl (jo k a2 y.1 Um Ux)) ?_;refine df cD ?_;obtain⟨se,Uw,h⟩:=aa h;refine fr 3 ?_;refine fr 4 ?_;refine fr 4 ?_;refine fr 4 ?_;refine fr 4 ?_;refine pH [.obj Un 86 (.rep (.arr 3 (.arr 5 (.int .i64))) (List.set a0 (Int.toNat a1) (List.set ac (Int.toNat (F.length:Int)) y.1))),.obj b1 86 (.rep (.arr 3 (.arr 5 (.int .i64))) a0)] rfl rfl rfl (o6 (fs:=[]) (cs:=[(Pv u),(Pv x),(Pv c)]) (ags:=[.rep (.arr 3 (.arr 5 (.int .i64))) (List.set a0 (Int.toNat a1) (List.set ac (Int.toNat (F.length:Int)) y.1)),I a1,.eq (.int .u8 Um)]) [.tmp 89,.tmp 90,.tmp 93] rfl rfl IB rfl (ih (List.set a0 (Int.toNat a1) (List.set ac (Int.toNat (F.length:Int)) y.1)) a1 Um U O.2 se Uw)) ⟨rfl,rfl,rfl,rfl,trivial⟩ fun pp=>?_;refine ja (eC rfl) ?_;refine nt (cw h (fun h=>?_) (fun h=>?_))
         ·refine sr (cq (nt (aA (br (bi (aV ?_))))));refine bv (bq (Γ':=[(9,_)]) [.obj Un 86 (.rep (.arr 3 (.arr 5 (.int .i64))) (List.set a0 (Int.toNat a1) (List.set ac (Int.toNat (F.length:Int)) y.1))),.obj b1 86 (.rep (.arr 3 (.arr 5 (.int .i64))) a0),.obj u 81 (.at bL a3),.obj x 195 (.eq (.func (.yield l) #[] #[])),.obj c 196 (.eq (.func (.func 121) #[] #[(Pv u),(Pv x),(Pv c)]))] (E pp se.2) [2,3,4] ⟨rfl,trivial⟩ rfl) ?_;obtain rfl:=hR _ h;exact iY pp [_] ⟨rfl,trivial⟩ rfl
         ·refine aY (bn ?_);exact iW (pp,se.2) h (bq [.obj Un 86 (.rep (.arr 3 (.arr 5 (.int .i64))) (List.set a0 (Int.toNat a1) (List.set ac (Int.toNat (F.length:Int)) y.1))),.obj b1 86 (.rep (.arr 3 (.arr 5 (.int .i64))) a0),.obj u 81 (.at bL a3),.obj x 195 (.eq (.func (.yield l) #[] #[])),.obj c 196 (.eq (.func (.func 121) #[] #[(Pv u),(Pv x),(Pv c)]))] (E pp se.2) [2,4,3,1] ⟨rfl,rfl,rfl,rfl,rfl,rfl,rfl,rfl,rfl,trivial⟩ rfl)
      ·refine ab ?_;obtain⟨UC,Up,h⟩:=aa h;refine jb (bg rfl Up) ?_;refine mq (nl ?_);exact iW (X,(UC,mc)) h (bq [.obj u 81 (.at bL a3),.obj c 196 (.eq (.func (.func 121) #[] #[(Pv u),(Pv x),(Pv c)])),.obj x 195 (.eq (.func (.yield l) #[] #[])),.obj b1 86 (.rep (.arr 3 (.arr 5 (.int .i64))) a0)] (E X mc) [0,1,2,3] ⟨rfl,rfl,rfl,rfl,rfl,rfl,rfl,rfl,rfl,trivial⟩ rfl)
     ·refine xa ?_;exact iW (J,y.2) h (bq [.obj u 81 (.at bL a3),.obj c 196 (.eq (.func (.func 121) #[] #[(Pv u),(Pv x),(Pv c)])),.obj x 195 (.eq (.func (.yield l) #[] #[])),.obj b1 86 (.rep (.arr 3 (.arr 5 (.int .i64))) a0)] (E J y.2) [0,2,1] trivial rfl)
    ·refine sr (cq (nt (aA ?_)));cases h;exact iY qt [_] ⟨rfl,trivial⟩ rfl
def i8{σ:Type}(k:Nat)(Y:σ→(List (List Int))→Option (σ×Bool))(a1:dp)(s0:σ):Option (σ):=
 (dL k ([]:(List (List Int)))).bind fun r2=>
 (de k Y a1 k r2 0 0 s0).bind fun r5=>
 some r5.2
theorem nL{M:Md Tryz.prog}{σ Z:Type}(E:Z→σ→List D)(l:Nat)(Y:σ→(List (List Int))→Option (σ×Bool))(k:Nat)(a1:dp)(c:Nat)(hY:∀z s p r,Y s p=some r→YT M l [.rep (.arr 3 (.arr 5 (.int .i64))) p] (E z s) (fun z':Z=>(.eq (.bool r.2),E z' r.1))):
 ∀(z0:Z) (s0:σ) (r:σ),i8 k Y a1 s0=some r→dJ M 120 [.eq (.func (.yield l) #[] #[]),Pt c] ([.obj c 81 (.at bL a1)]++E z0 s0) (fun z:Z=>(bu [],[.obj c 81 (.at bL a1)]++E z r)):=by
 intro z0 s0 r h
 unfold i8 at h
 replace h:=bb h
 refine dJ.of 10 Tryz.func120 rfl Tryz.ntmps120 rfl fun S w0=>?_
 refine sr ?_
 refine bx fun b1=>?_
 refine nt ?_
 refine sr ?_
 obtain⟨r2,j,h⟩:=aa h
 have u:=d5 k ([]:(List (List Int))) r2 j
 refine ja (dS (N:=[(.const (.slice none 0 0),.eq (.slice none 0 0))]) (ar [.const (.slice none 0 0)] rfl rfl CU rfl u) fun _ _ _ hn=>⟨(kD (t:=(.slice (.slice (.int .i64)))) (x:=([]:(List (List Int)))) .nil rfl rfl hn.1),trivial⟩) ?_
 refine aD rfl rfl rfl (a9 rfl qF rh) trivial fun b3=>?_
 refine bf rfl rfl (a8 rfl fm rfl rfl rfl) ⟨rfl,rfl,trivial⟩ ?_
 refine nt ?_
 refine sr ?_
 refine aD rfl rfl rfl (a9 rfl OI QU) trivial fun b4=>?_
 refine nt ?_
 refine sr ?_
 refine jc (tf [] [.tmp 1,.tmp 2,.tmp 4] [] [(Pv c),(Pv b1),(Pv b4)] rfl rfl rfl) ?_
 refine bf rfl rfl (a8 rfl Dj rfl rfl rfl) ⟨rfl,rfl,trivial⟩ ?_
 refine nt ?_
 refine ab ?_
 refine lo Dj ?_
 refine fr 1 ?_
 refine lo fm ?_
 obtain⟨r5,e,h⟩:=aa h
 have n:=mX E l Y k a1 c b1 b4 hY k r2 0 0 z0 s0 r5 e
 refine fr 1 ?_
 refine fr 2 ?_
 refine fr 3 ?_
 refine fr 3 ?_
 refine pH [.obj b3 86 (.rep (.arr 3 (.arr 5 (.int .i64))) r2)] rfl rfl rfl (o6 (fs:=[]) (cs:=[(Pv c),(Pv b1),(Pv b4)]) (ags:=[.rep (.arr 3 (.arr 5 (.int .i64))) r2,I 0,.eq (.int .u8 0)]) [.tmp 8,.const (.int .i64 (0)),.const (.int .u8 (0))] rfl rfl IB rfl n) ⟨rfl,rfl,rfl,rfl,trivial⟩ fun z6=>?_
 refine au ?_
 refine jk ?_
 refine bv (bq (Γ':=[]) [.obj b3 86 (.rep (.arr 3 (.arr 5 (.int .i64))) r2),.obj c 81 (.at bL a1),.obj b1 195 (.eq (.func (.yield l) #[] #[])),.obj b4 196 (.eq (.func (.func 121) #[] #[(Pv c),(Pv b1),(Pv b4)]))] (E z6 r5.2) [1] trivial rfl) ?_
 cases h
 exact iY z6 [] trivial rfl
def jv(k:Nat)(a1:dp):Option (List (List (List Int))):=
 (i8 k (qx (fun(y2:(List (List (List Int)))) (p4:(List (List Int)))=>
  (dy (bM (List.length y2+List.length [p4]))).bind fun _=>
  some (y2++[p4],true))) a1 (([]:(List (List (List Int)))),false)).bind fun r5=>
 if r5.2=true then(none) else(some r5.1)
theorem oI(k:Nat)(a1:dp)(c:Nat)(r:(List (List (List Int))))(h:jv k a1=some r):
 bZ Tryz.prog 119 [.eq (.slice none 0 0),.eq (.func (.func 120) #[] #[(Pv c)])] [.obj c 81 (.at bL a1)] (fun z:Value=>(bu [.eq z],[.sl z 86 (.arr 3 (.arr 5 (.int .i64))) r,.obj c 81 (.at bL a1)])):=by
 unfold jv at h
 replace h:=bb h
 refine yU 13 Tryz.func119 rfl Tryz.ntmps119 rfl fun {M} S w0=>?_
 refine sr ?_
 refine bx fun b1=>?_
 refine cq ?_
 refine nt ?_
 refine ae ?_
 refine sr ?_
 refine mq ?_
 refine nt ?_
 refine ao ?_
 refine dN (SE.nil 86 (.arr 3 (.arr 5 (.int .i64)))) ?_
 refine jl 1 rfl ?_
 refine jl 2 rfl ?_
 obtain⟨r5,j,h⟩:=aa h
 refine oq (Δ:=[.obj c 81 (.at bL a1),.obj b1 132 (.eq (.slice none 0 0)),.sl (.slice none 0 0) 86 (.arr 3 (.arr 5 (.int .i64))) ([]:(List (List (List Int))))]) (F:=[]) (X:=Value) (J:=fun _=>Kw r5.2) (E:=fun z3=>[.obj c 81 (.at bL a1),.obj b1 132 (.eq z3),.sl z3 86 (.arr 3 (.arr 5 (.int .i64))) r5.1]) (r0:=fun _=>.tup .any) rfl rfl QE (fun rec hp ha hb hs hpe hN hv l=>?_) (fun dl z3=>qJ (fun hj=>?_) (fun hj=>?_))
 ·
  rcases rec with⟨st0,pe0,fn0,tm0,ps0,as0,bd0,df0⟩;dsimp only at hp ha hb hs hpe hN hv;subst hp hs hpe;have vN:vL tm0 [(2,Pt b1)]:=⟨congrArg A.eq (hv 2 _ rfl).symm,trivial⟩;refine dJ.pick (M:=M) [1,0,2,3] [1,0,2,3] (nL (fun(z3:Value) (q:(List (List (List Int)))×Bool)=>[.raw l (.loop (jS ⟨.ready,none,fn0,tm0, #[7],as0,bd0,df0⟩ (Kw q.2))),.obj b1 132 (.eq z3),.sl z3 86 (.arr 3 (.arr 5 (.int .i64))) q.1]) l (qx (fun(y2:(List (List (List Int)))) (p4:(List (List Int)))=>
  (dy (bM (List.length y2+List.length [p4]))).bind fun _=>
  some (y2++[p4],true))) k a1 c (fun z3 q p r' h=>?_) (.slice none 0 0) (([]:(List (List (List Int)))),false) r5 j) rfl (fun _=>rfl) (fun _=>rfl)
  obtain⟨rq,hq,h2,rfl⟩:=qK h;obtain⟨y2,b5⟩:=q;obtain rfl:b5=false:=hq;replace h:=bb h2;obtain⟨p4,hpv⟩:∃x,x=p:=⟨_,rfl⟩;subst hpv;refine YT.pick (R':=(fun z3:Value=>(.eq (.bool rq.2),[.raw l (.loop (jS ⟨.ready,none,fn0,tm0, #[7],as0,bd0,df0⟩ (Kw (!rq.2)))),.obj b1 132 (.eq z3),.sl z3 86 (.arr 3 (.arr 5 (.int .i64))) rq.1]))) [0,1,2] [0,1,2] (IW ha hb (N:=13) (Γ:=[(2,Pt b1)]) rfl hN (by decide) vN (fun S w=>?_)) rfl (fun _=>rfl) (fun _=>rfl);refine ab (aD rfl rfl rfl (a9 rfl qF rh) trivial fun b6=>?_);refine bf rfl rfl (a8 rfl fm rfl rfl rfl) ⟨rfl,rfl,trivial⟩ ?_;refine nl (dk 1 rfl ?_);refine vT rfl rfl ?_;refine ao (ab (fr 2 ?_));refine lo GA ?_;refine fr 2 ?_;refine lo fm ?_;refine ja (bp (t:=(.arr 3 (.arr 5 (.int .i64)))) [(.tmp 9,_)] [p4] rfl rfl LR (.cons rfl .rep .nil) rfl rfl) ?_;obtain⟨u7,e,h⟩:=aa h;refine fr 3 ?_;refine c6 rfl rfl rfl (bH rfl rfl LR (aB e)) ⟨rfl,rfl,trivial⟩ fun v8=>?_;refine om fun o9=>?_;refine fr 2 ?_;refine bf rfl rfl (a8 rfl GA o9 rfl rfl) ⟨rfl,rfl,trivial⟩ ?_;refine au (aN (dk 1 rfl ?_));refine dk 1 rfl ?_;refine dk 3 rfl ?_;cases h;exact tR v8 2 rfl
 ·
  replace h:=bS (Ey hj) h;refine aN (tn (sr (fr 2 ?_)));refine lo GA ?_;refine aq (nt (aA ?_));refine dk 1 rfl ?_;refine yS ?_;refine bv (SE.fin (Γ':=[(4,_)]) [2,1,0] ⟨rfl,trivial⟩ rfl) ?_;cases h;exact aQ z3 [.eq z3] 2 ⟨rfl,trivial⟩ rfl
 ·
  replace h:=cH (Ew hj) h;cases h
def km(k:Nat)(a0:dp):Option (List (List (List Int))):=
 (jv k a0).bind fun r1=>
 some r1
theorem qk(k:Nat)(a0:dp)(c:Nat)(r:(List (List (List Int))))(h:km k a0=some r):
 bZ Tryz.prog 84 [.eq (.func (.func 120) #[] #[(Pv c)])] [.obj c 81 (.at bL a0)] (fun _:Unit=>(bu [.rep (.slice (.arr 3 (.arr 5 (.int .i64)))) r],[.obj c 81 (.at bL a0)])):=by
 unfold km at h
 replace h:=bb h
 refine bZ.of 5 Tryz.func84 rfl Tryz.ntmps84 rfl fun S w0=>?_
 refine sr ?_
 refine cq ?_
 refine nt ?_
 refine sr ?_
 refine mq ?_
 obtain⟨r1,e,h⟩:=aa h
 have j:=oI k a0 c r1 e
 refine bT (Δ:=[_]) (F:=_) (fun _ _ _=>ay rfl _) rfl rfl (ar [.const (.slice none 0 0),.tmp 3] rfl rfl QG rfl j) ⟨rfl,rfl,trivial⟩ fun z2=>?_
 refine aq ?_
 refine nt ?_
 refine aA ?_
 refine bv (eK [2,4] ⟨rfl,rfl,trivial⟩) ?_
 cases h
 exact aQ () [_] 1 ⟨rfl,trivial⟩ rfl
theorem oR(a0:dp):bZ Tryz.prog 85 [.at bL a0] [] (fun z:Nat=>(bu [.eq (.func (.func 120) #[] #[(Pv z)])],[.obj z 81 (.at bL a0)])):=by
 refine bZ.of 4 Tryz.func85 rfl Tryz.ntmps85 rfl fun S w0=>?_;refine sr (aD rfl rfl rfl (oy rfl trivial) ⟨rfl,trivial⟩ fun z=>?_);refine cq (nt (sr ?_));refine ja (tf [] [.tmp 1] [] [(Pv z)] rfl rfl rfl) ?_;refine aq (nt (aA ?_));exact aQ z [_] 1 ⟨rfl,trivial⟩ rfl
def kT(k:Nat)(a0:(List Int)):Option aP:=
 ((if(a0.length:Int)=0 then(some [3,2]) else(some a0)):Option ((List Int))).bind fun x2=>
 some (3,[(1,[0,2]),(1,[1]),(2,[2]),(1,[0,1])],x2)
theorem jI(k:Nat)(a0:(List Int))(r:aP)(h:kT k a0=some r):
 bZ Tryz.prog 45 [Ri a0] [] (fun _:Unit=>(bu [.rep ap r],[])):=by
 unfold kT at h
 replace h:=bb h
 refine bZ.of 18 Tryz.func45 rfl Tryz.ntmps45 rfl fun S w0=>?_
 refine sr ?_
 refine aD rfl rfl rfl (a9 rfl kh mz) trivial fun b1=>?_
 refine nt ?_
 refine aM (Z:=Unit) (α:=(List Int)) (fun z3 x2=>[(0,Ri x2),(2,Pt b1)]) (fun z3 x2=>[.obj b1 25 (.agg (.pair (I 0) (.pair (.eq (.slice none 0 0)) (.eq (.slice none 0 0)))))]) h (fun K h=>?_) (fun z3 x2 h=>?_)
 ·
  refine sr (mq ?_);refine ol dA ?_;refine jb (fU rfl) ?_;refine nt (ci h (fun h=>?_) (fun h=>?_))
  ·refine ab (jb (bp (t:=(.int .i64)) [(.const (.int .i64 (3)),_),(.const (.int .i64 (2)),_)] [3,2] rfl rfl dI (.cons rfl .int (.cons rfl .int .nil)) rfl rfl) ?_);refine aq (nl ?_);exact jz ((),[3,2]) h [0]
  ·refine aY (ag ?_);exact jz ((),a0) h [0]
 ·
  refine sr (jb (bp (t:=(.int .i64)) [(.const (.int .i64 (0)),_),(.const (.int .i64 (2)),_)] [0,2] rfl rfl dI (.cons rfl .int (.cons rfl .int .nil)) rfl rfl) ?_);refine jb (cI [(0,.const (.int .i64 (1)),_),(1,.tmp 7,_)] rfl zG uc t9 (ia ⟨rfl,rfl,trivial⟩) rfl) ?_;refine ja (bp (t:=(.int .i64)) [(.const (.int .i64 (1)),_)] [1] rfl rfl dI (.cons rfl .int .nil) rfl rfl) ?_;refine jb (cI [(0,.const (.int .i64 (1)),_),(1,.tmp 9,_)] rfl zG uc t9 (ia ⟨rfl,rfl,trivial⟩) rfl) ?_;refine ja (bp (t:=(.int .i64)) [(.const (.int .i64 (2)),_)] [2] rfl rfl dI (.cons rfl .int .nil) rfl rfl) ?_;refine jb (cI [(0,.const (.int .i64 (2)),_),(1,.tmp 11,_)] rfl zG uc t9 (ia ⟨rfl,rfl,trivial⟩) rfl) ?_;refine jb (bp (t:=(.int .i64)) [(.const (.int .i64 (0)),_),(.const (.int .i64 (1)),_)] [0,1] rfl rfl dI (.cons rfl .int (.cons rfl .int .nil)) rfl rfl) ?_;refine jb (cI [(0,.const (.int .i64 (1)),_),(1,.tmp 13,_)] rfl zG uc t9 (ia ⟨rfl,rfl,trivial⟩) rfl) ?_;refine aG rfl (bp (t:=aH) [(.tmp 8,_),(.tmp 10,_),(.tmp 12,_),(.tmp 14,_)] [(1,[0,2]),(1,[1]),(2,[2]),(1,[0,1])] rfl rfl xN (.cons trivial (.agg (.pair .int .rep)) (.cons trivial (.agg (.pair .int .rep)) (.cons trivial (.agg (.pair .int .rep)) (.cons trivial (.agg (.pair .int .rep)) .nil)))) rfl rfl) ⟨rfl,rfl,rfl,rfl,trivial⟩ ?_;refine mq ?_;refine jc (cI [(0,.const (.int .i64 (3)),_),(1,.tmp 15,_),(2,.tmp 16,_)] rfl GW kh AQ (ia ⟨rfl,rfl,rfl,trivial⟩) rfl) ?_;refine bf rfl rfl (a8 rfl cJ trivial rfl rfl) ⟨rfl,rfl,trivial⟩ ?_;refine nt (aA (bv (og (a:=.agg (.pair (I 3) (.pair (Rs aH [(1,[0,2]),(1,[1]),(2,[2]),(1,[0,1])]) (Ri x2)))) (a':=.rep ap (3,[(1,[0,2]),(1,[1]),(2,[2]),(1,[0,1])],x2)) (vW (.agg (.pair .int (.pair .rep .rep))))) ?_));cases h;exact aQ () [.rep ap (3,[(1,[0,2]),(1,[1]),(2,[2]),(1,[0,1])],x2)] 0 ⟨⟨_,_,_,_,_,rfl,(.head _),cJ,(vX),rfl⟩,trivial⟩ rfl
def wZ(k:Nat):Option (List (List Int)):=
 some [[1,0,3],[2]]
theorem rW(k:Nat)(r:(List (List Int)))(h:wZ k=some r):
 bZ Tryz.prog 46 [] [] (fun _:Unit=>(bu [.rep (.slice (.slice (.int .i64))) r],[])):=by
 unfold wZ at h
 replace h:=bb h
 refine bZ.of 4 Tryz.func46 rfl Tryz.ntmps46 rfl fun S w0=>?_
 refine sr ?_
 refine cq ?_
 refine nt ?_
 refine sr ?_
 refine jc (bp (t:=(.int .i64)) [(.const (.int .i64 (1)),_),(.const (.int .i64 (0)),_),(.const (.int .i64 (3)),_)] [1,0,3] rfl rfl dI (.cons rfl .int (.cons rfl .int (.cons rfl .int .nil))) rfl rfl) ?_
 refine ja (bp (t:=(.int .i64)) [(.const (.int .i64 (2)),_)] [2] rfl rfl dI (.cons rfl .int .nil) rfl rfl) ?_
 refine jb (bp (t:=(.slice (.int .i64))) [(.tmp 1,_),(.tmp 2,_)] [[1,0,3],[2]] rfl rfl oV (.cons rfl .rep (.cons rfl .rep .nil)) rfl rfl) ?_
 refine aq ?_
 refine nt ?_
 refine aA ?_
 cases h
 exact ra
def HV(k:Nat):Option (List (List Int)):=
 some [[0,2],[3,1]]
theorem HU(k:Nat)(r:(List (List Int)))(h:HV k=some r):
 bZ Tryz.prog 47 [] [] (fun _:Unit=>(bu [.rep (.slice (.slice (.int .i64))) r],[])):=by
 unfold HV at h
 replace h:=bb h
 refine bZ.of 4 Tryz.func47 rfl Tryz.ntmps47 rfl fun S w0=>?_
 refine sr ?_
 refine cq ?_
 refine nt ?_
 refine sr ?_
 refine jb (bp (t:=(.int .i64)) [(.const (.int .i64 (0)),_),(.const (.int .i64 (2)),_)] [0,2] rfl rfl dI (.cons rfl .int (.cons rfl .int .nil)) rfl rfl) ?_
 refine jb (bp (t:=(.int .i64)) [(.const (.int .i64 (3)),_),(.const (.int .i64 (1)),_)] [3,1] rfl rfl dI (.cons rfl .int (.cons rfl .int .nil)) rfl rfl) ?_
 refine jb (bp (t:=(.slice (.int .i64))) [(.tmp 1,_),(.tmp 2,_)] [[0,2],[3,1]] rfl rfl oV (.cons rfl .rep (.cons rfl .rep .nil)) rfl rfl) ?_
 refine aq ?_
 refine nt ?_
 refine aA ?_
 cases h
 exact ra
def mO(k:Nat)(a0:(List Int)):Option bW:=
 some (a0,0,1)
theorem eh(k:Nat)(a0:(List Int))(r:bW)(h:mO k a0=some r):
 bZ Tryz.prog 13 [Ri a0] [] (fun z:Nat=>(bu [Pt z],[.obj z 75 (.agg (.pair (Ri r.1) (.pair (I r.2.1) (.eq (.int .u64 r.2.2)))))])):=by
 unfold mO at h
 replace h:=bb h
 refine bZ.of 6 Tryz.func13 rfl Tryz.ntmps13 rfl fun S w0=>?_
 refine sr ?_
 refine cq ?_
 refine nt ?_
 refine sr ?_
 refine mq ?_
 refine jb (cI [(0,.tmp 3,_),(2,.const (.int .u64 (1)),_)] rfl RO Rz QR (ia ⟨rfl,rfl,trivial⟩) rfl) ?_
 refine aD rfl rfl rfl (oy rfl trivial) ⟨rfl,trivial⟩ fun b1=>?_
 refine aq ?_
 refine nt ?_
 refine aA ?_
 cases h
 exact aQ b1 [Pt b1] 1 ⟨rfl,trivial⟩ rfl
def dY(k:Nat)(a0:(List Int)):Option (List Int):=
 (dy (bM (List.length ([]:(List Int))+List.length a0))).bind fun _=>
 some (([]:(List Int))++a0)
theorem cy(k:Nat)(a0:(List Int))(r:(List Int))(h:dY k a0=some r):
 bZ Tryz.prog 50 [Ri a0] [] (fun z:Value=>(bu [.eq z],[.sl z 3 (.int .i64) r])):=by
 unfold dY at h
 replace h:=bb h
 refine bZ.of 6 Tryz.func50 rfl Tryz.ntmps50 rfl fun S w0=>?_
 refine sr ?_
 refine cq ?_
 refine nt ?_
 refine sr ?_
 refine aD rfl rfl rfl (l8 (t:=(.int .i64)) [] ([]:(List Int)) rfl rfl dI .nil rfl rfl) trivial fun v1=>?_
 refine mq ?_
 obtain⟨u2,c,h⟩:=aa h
 refine c6 rfl rfl rfl (bH rfl rfl dI (aB c)) ⟨rfl,rfl,trivial⟩ fun v3=>?_
 refine aq ?_
 refine nt ?_
 refine aA ?_
 cases h
 exact aQ v3 [.eq v3] 1 ⟨rfl,trivial⟩ rfl
def fJ(k:Nat)(a0:aP):Nat→((List eF)×Int)→Option (List eF)
 |0,_=>none
 |n+1,y9=>
  if y9.2 < (a0.2.1.length:Int) then((aS a0.2.1 y9.2).bind fun c=>
  (aS a0.2.1 y9.2).bind fun j=>
  (dY k j.2).bind fun e=>
  (dy (bM (List.length y9.1+List.length [(c.1,e)]))).bind fun _=>
  (ck (y9.2+1)).bind fun h=>
  fJ k a0 n (y9.1++[(c.1,e)],h)) else(some y9.1)
def iU(k:Nat)(a0:aP):Option aP:=
 (dY k a0.2.2).bind fun r3=>
 ((fJ k a0 k (([]:(List eF)),0)):Option ((List eF))).bind fun x7=>
 some (a0.1,x7,r3)
theorem ui(k:Nat)(a0:aP)(r:aP)(h:iU k a0=some r):
 bZ Tryz.prog 16 [.rep ap a0] [] (fun z:Value×Value=>(bu [.agg (.pair (I r.1) (.pair (.eq z.1) (.eq z.2)))],[.sl z.1 27 aH r.2.1,.sl z.2 3 (.int .i64) r.2.2])):=by
 unfold iU at h
 replace h:=bb h
 refine bZ.of 38 Tryz.func16 rfl Tryz.ntmps16 rfl fun S w0=>?_
 refine sr ?_
 refine bx fun b1=>?_
 refine aD rfl rfl rfl (a9 rfl kh mz) trivial fun b2=>?_
 refine nt ?_
 refine ae ?_
 obtain⟨r3,c,h⟩:=aa h
 refine dN (SE.fin (Γ':=[(1,Pt b1),(2,Pt b2)]) (Δ':=[.obj b2 25 (.agg (.pair (I 0) (.pair (.eq (.slice none 0 0)) (.eq (.slice none 0 0))))),.obj b1 25 (.rep ap a0)]) [0,1] ⟨rfl,rfl,trivial⟩ rfl) ?_
 refine vV (I:=Value×Nat) (Ge:=fun i=>[(1,Pt b1),(2,Pt b2),(3,.eq (.pointer (some ⟨i.2,0,none⟩)))]) (De:=fun i=>[.obj b1 25 (.rep ap a0),.obj b2 25 (.agg (.pair (I 0) (.pair (.eq (.slice none 0 0)) (.eq (.slice none 0 0))))),.sl i.1 3 (.int .i64) r3,.obj i.2 25 (.agg (.pair (I a0.1) (.pair (.eq (.slice none 0 0)) (.eq i.1))))]) (L:=[true,true,true,true,true,true,true,true]) cD rfl (fun J hJ hE=>?_) (by kernel_rfl) ?_
 ·
  have s127:∀(v4:Value) (b6:Nat),J 1 [true,true,true,true,true,true,true,false] [(1,Pt b1),(2,Pt b2),(3,Pt b6),(10,.agg (.pair (I a0.1) (.pair (.eq (.slice none 0 0)) (.eq v4))))] [.obj b1 25 (.rep ap a0),.obj b2 25 (.agg (.pair (I 0) (.pair (.eq (.slice none 0 0)) (.eq (.slice none 0 0))))),.sl v4 3 (.int .i64) r3,.obj b6 25 (.agg (.pair (I 0) (.pair (.eq (.slice none 0 0)) (.eq (.slice none 0 0)))))]:=fun v4 b6=>by
   subst hJ;refine JD.step [7] (by kernel_rfl) rfl ?_;refine bQ.cons rfl ?_ ?_
   ·refine fr 3 ?_;refine bf rfl rfl (a8 rfl cJ trivial rfl rfl) ⟨rfl,rfl,trivial⟩ ?_;exact ax (hE ⟨v4,b6⟩) [1,2,3,0] ⟨rfl,rfl,rfl,trivial⟩
   exact trivial
  have s63:∀(v4:Value),J 2 [true,true,true,true,true,true,false,false] [(1,Pt b1),(2,Pt b2),(10,.agg (.pair (I a0.1) (.pair (.eq (.slice none 0 0)) (.eq v4))))] [.obj b1 25 (.rep ap a0),.obj b2 25 (.agg (.pair (I 0) (.pair (.eq (.slice none 0 0)) (.eq (.slice none 0 0))))),.sl v4 3 (.int .i64) r3]:=fun v4=>by
   subst hJ;refine JD.step [6] (by kernel_rfl) rfl ?_;refine bQ.cons rfl ?_ ?_
   ·refine aD rfl rfl rfl (a9 rfl kh mz) trivial fun b6=>?_;exact ax (s127 v4 b6) [1,2,3,0] ⟨rfl,rfl,rfl,rfl,trivial⟩
   exact trivial
  have s95:∀(v4:Value) (b6:Nat),J 2 [true,true,true,true,true,false,true,false] [(1,Pt b1),(2,Pt b2),(3,Pt b6),(6,I a0.1),(9,.eq v4)] [.obj b1 25 (.rep ap a0),.obj b2 25 (.agg (.pair (I 0) (.pair (.eq (.slice none 0 0)) (.eq (.slice none 0 0))))),.sl v4 3 (.int .i64) r3,.obj b6 25 (.agg (.pair (I 0) (.pair (.eq (.slice none 0 0)) (.eq (.slice none 0 0)))))]:=fun v4 b6=>by
   subst hJ;refine JD.step [5] (by kernel_rfl) rfl ?_;refine bQ.cons rfl ?_ ?_
   ·refine fr 2 ?_;refine om fun o5=>?_;refine jb (cI [(0,.tmp 6,_),(2,.tmp 9,_)] rfl GW kh AQ (ia ⟨rfl,o5,trivial⟩) rfl) ?_;exact ax (s127 v4 b6) [1,2,0,3] ⟨rfl,rfl,rfl,rfl,trivial⟩
   exact trivial
  have s31:∀(v4:Value),J 3 [true,true,true,true,true,false,false,false] [(1,Pt b1),(2,Pt b2),(6,I a0.1),(9,.eq v4)] [.obj b1 25 (.rep ap a0),.obj b2 25 (.agg (.pair (I 0) (.pair (.eq (.slice none 0 0)) (.eq (.slice none 0 0))))),.sl v4 3 (.int .i64) r3]:=fun v4=>by
   subst hJ;refine JD.step [5,6] (by kernel_rfl) rfl ?_;refine bQ.cons rfl ?_ ?_
   ·refine fr 2 ?_;refine om fun o5=>?_;refine jb (cI [(0,.tmp 6,_),(2,.tmp 9,_)] rfl GW kh AQ (ia ⟨rfl,o5,trivial⟩) rfl) ?_;exact ax (s63 v4) [1,2,0] ⟨rfl,rfl,rfl,trivial⟩
   refine bQ.cons rfl ?_ ?_
   ·refine aD rfl rfl rfl (a9 rfl kh mz) trivial fun b6=>?_;exact ax (s95 v4 b6) [1,2,3,0] ⟨rfl,rfl,rfl,rfl,rfl,trivial⟩
   exact trivial
  have s79:∀(b6:Nat),J 3 [true,true,true,true,false,false,true,false] [(1,Pt b1),(2,Pt b2),(3,Pt b6),(6,I a0.1),(8,Ri a0.2.2)] [.obj b1 25 (.rep ap a0),.obj b2 25 (.agg (.pair (I 0) (.pair (.eq (.slice none 0 0)) (.eq (.slice none 0 0))))),.obj b6 25 (.agg (.pair (I 0) (.pair (.eq (.slice none 0 0)) (.eq (.slice none 0 0)))))]:=fun b6=>by
   subst hJ;refine JD.step [4] (by kernel_rfl) rfl ?_;refine bQ.cons rfl ?_ ?_
   ·refine aD rfl rfl rfl (ar [.tmp 8] rfl rfl ul rfl (cy k a0.2.2 r3 c)) ⟨rfl,trivial⟩ fun v4=>?_;exact ax (s95 v4 b6) [1,2,0,3] ⟨rfl,rfl,rfl,rfl,rfl,trivial⟩
   exact trivial
  have s93:∀(v4:Value) (b6:Nat),J 3 [true,false,true,true,true,false,true,false] [(1,Pt b1),(2,Pt b2),(3,Pt b6),(5,Pt b1),(9,.eq v4)] [.obj b1 25 (.rep ap a0),.obj b2 25 (.agg (.pair (I 0) (.pair (.eq (.slice none 0 0)) (.eq (.slice none 0 0))))),.sl v4 3 (.int .i64) r3,.obj b6 25 (.agg (.pair (I 0) (.pair (.eq (.slice none 0 0)) (.eq (.slice none 0 0)))))]:=fun v4 b6=>by
   subst hJ;refine JD.step [1] (by kernel_rfl) rfl ?_;refine bQ.cons rfl ?_ ?_
   ·refine lo cg ?_;exact ax (s95 v4 b6) [0,1,2,3] ⟨rfl,rfl,rfl,rfl,rfl,trivial⟩
   exact trivial
  have s15:J 4 [true,true,true,true,false,false,false,false] [(1,Pt b1),(2,Pt b2),(6,I a0.1),(8,Ri a0.2.2)] [.obj b1 25 (.rep ap a0),.obj b2 25 (.agg (.pair (I 0) (.pair (.eq (.slice none 0 0)) (.eq (.slice none 0 0)))))]:=by
   subst hJ;refine JD.step [4,6] (by kernel_rfl) rfl ?_;refine bQ.cons rfl ?_ ?_
   ·refine aD rfl rfl rfl (ar [.tmp 8] rfl rfl ul rfl (cy k a0.2.2 r3 c)) ⟨rfl,trivial⟩ fun v4=>?_;exact ax (s31 v4) [1,2,0] ⟨rfl,rfl,rfl,rfl,trivial⟩
   refine bQ.cons rfl ?_ ?_
   ·refine aD rfl rfl rfl (a9 rfl kh mz) trivial fun b6=>?_;exact ax (s79 b6) [1,2,0] ⟨rfl,rfl,rfl,rfl,rfl,trivial⟩
   exact trivial
  have s71:∀(b6:Nat),J 4 [true,true,true,false,false,false,true,false] [(1,Pt b1),(2,Pt b2),(3,Pt b6),(6,I a0.1),(7,.eq (.pointer (some ⟨b1,2,none⟩)))] [.obj b1 25 (.rep ap a0),.obj b2 25 (.agg (.pair (I 0) (.pair (.eq (.slice none 0 0)) (.eq (.slice none 0 0))))),.obj b6 25 (.agg (.pair (I 0) (.pair (.eq (.slice none 0 0)) (.eq (.slice none 0 0)))))]:=fun b6=>by
   subst hJ;refine JD.step [3] (by kernel_rfl) rfl ?_;refine bQ.cons rfl ?_ ?_
   ·refine lo bR ?_;exact ax (s79 b6) [0,1,2] ⟨rfl,rfl,rfl,rfl,rfl,trivial⟩
   exact trivial
  have s29:∀(v4:Value),J 4 [true,false,true,true,true,false,false,false] [(1,Pt b1),(2,Pt b2),(5,Pt b1),(9,.eq v4)] [.obj b1 25 (.rep ap a0),.obj b2 25 (.agg (.pair (I 0) (.pair (.eq (.slice none 0 0)) (.eq (.slice none 0 0))))),.sl v4 3 (.int .i64) r3]:=fun v4=>by
   subst hJ;refine JD.step [1,6] (by kernel_rfl) rfl ?_;refine bQ.cons rfl ?_ ?_
   ·refine lo cg ?_;exact ax (s31 v4) [0,1,2] ⟨rfl,rfl,rfl,rfl,trivial⟩
   refine bQ.cons rfl ?_ ?_
   ·refine aD rfl rfl rfl (a9 rfl kh mz) trivial fun b6=>?_;exact ax (s93 v4 b6) [1,2,3,0] ⟨rfl,rfl,rfl,rfl,rfl,trivial⟩
   exact trivial
  have s77:∀(b6:Nat),J 4 [true,false,true,true,false,false,true,false] [(1,Pt b1),(2,Pt b2),(3,Pt b6),(5,Pt b1),(8,Ri a0.2.2)] [.obj b1 25 (.rep ap a0),.obj b2 25 (.agg (.pair (I 0) (.pair (.eq (.slice none 0 0)) (.eq (.slice none 0 0))))),.obj b6 25 (.agg (.pair (I 0) (.pair (.eq (.slice none 0 0)) (.eq (.slice none 0 0)))))]:=fun b6=>by
   subst hJ;refine JD.step [1,4] (by kernel_rfl) rfl ?_;refine bQ.cons rfl ?_ ?_
   ·refine lo cg ?_;exact ax (s79 b6) [0,1,2] ⟨rfl,rfl,rfl,rfl,rfl,trivial⟩
   refine bQ.cons rfl ?_ ?_
   ·refine aD rfl rfl rfl (ar [.tmp 8] rfl rfl ul rfl (cy k a0.2.2 r3 c)) ⟨rfl,trivial⟩ fun v4=>?_;exact ax (s93 v4 b6) [1,2,0,3] ⟨rfl,rfl,rfl,rfl,rfl,trivial⟩
   exact trivial
  have s92:∀(v4:Value) (b6:Nat),J 4 [false,false,true,true,true,false,true,false] [(1,Pt b1),(2,Pt b2),(3,Pt b6),(9,.eq v4)] [.obj b1 25 (.rep ap a0),.obj b2 25 (.agg (.pair (I 0) (.pair (.eq (.slice none 0 0)) (.eq (.slice none 0 0))))),.sl v4 3 (.int .i64) r3,.obj b6 25 (.agg (.pair (I 0) (.pair (.eq (.slice none 0 0)) (.eq (.slice none 0 0)))))]:=fun v4 b6=>by
   subst hJ;refine JD.step [0] (by kernel_rfl) rfl ?_;refine bQ.cons rfl ?_ ?_
   ·refine fl fp ?_;exact ax (s93 v4 b6) [0,1,2,3] ⟨rfl,rfl,rfl,rfl,rfl,trivial⟩
   exact trivial
  have s7:J 5 [true,true,true,false,false,false,false,false] [(1,Pt b1),(2,Pt b2),(6,I a0.1),(7,.eq (.pointer (some ⟨b1,2,none⟩)))] [.obj b1 25 (.rep ap a0),.obj b2 25 (.agg (.pair (I 0) (.pair (.eq (.slice none 0 0)) (.eq (.slice none 0 0)))))]:=by
   subst hJ;refine JD.step [3,6] (by kernel_rfl) rfl ?_;refine bQ.cons rfl ?_ ?_
   ·refine lo bR ?_;exact ax s15 [0,1] ⟨rfl,rfl,rfl,rfl,trivial⟩
   refine bQ.cons rfl ?_ ?_
   ·refine aD rfl rfl rfl (a9 rfl kh mz) trivial fun b6=>?_;exact ax (s71 b6) [1,2,0] ⟨rfl,rfl,rfl,rfl,rfl,trivial⟩
   exact trivial
  have s67:∀(b6:Nat),J 5 [true,true,false,false,false,false,true,false] [(1,Pt b1),(2,Pt b2),(3,Pt b6),(6,I a0.1)] [.obj b1 25 (.rep ap a0),.obj b2 25 (.agg (.pair (I 0) (.pair (.eq (.slice none 0 0)) (.eq (.slice none 0 0))))),.obj b6 25 (.agg (.pair (I 0) (.pair (.eq (.slice none 0 0)) (.eq (.slice none 0 0)))))]:=fun b6=>by
   subst hJ;refine JD.step [2] (by kernel_rfl) rfl ?_;refine bQ.cons rfl ?_ ?_
   ·refine fl cK ?_;exact ax (s71 b6) [0,1,2] ⟨rfl,rfl,rfl,rfl,rfl,trivial⟩
   exact trivial
  have s13:J 5 [true,false,true,true,false,false,false,false] [(1,Pt b1),(2,Pt b2),(5,Pt b1),(8,Ri a0.2.2)] [.obj b1 25 (.rep ap a0),.obj b2 25 (.agg (.pair (I 0) (.pair (.eq (.slice none 0 0)) (.eq (.slice none 0 0)))))]:=by
   subst hJ;refine JD.step [1,4,6] (by kernel_rfl) rfl ?_;refine bQ.cons rfl ?_ ?_
   ·refine lo cg ?_;exact ax s15 [0,1] ⟨rfl,rfl,rfl,rfl,trivial⟩
   refine bQ.cons rfl ?_ ?_
   ·refine aD rfl rfl rfl (ar [.tmp 8] rfl rfl ul rfl (cy k a0.2.2 r3 c)) ⟨rfl,trivial⟩ fun v4=>?_;exact ax (s29 v4) [1,2,0] ⟨rfl,rfl,rfl,rfl,trivial⟩
   refine bQ.cons rfl ?_ ?_
   ·refine aD rfl rfl rfl (a9 rfl kh mz) trivial fun b6=>?_;exact ax (s77 b6) [1,2,0] ⟨rfl,rfl,rfl,rfl,rfl,trivial⟩
   exact trivial
  have s69:∀(b6:Nat),J 5 [true,false,true,false,false,false,true,false] [(1,Pt b1),(2,Pt b2),(3,Pt b6),(5,Pt b1),(7,.eq (.pointer (some ⟨b1,2,none⟩)))] [.obj b1 25 (.rep ap a0),.obj b2 25 (.agg (.pair (I 0) (.pair (.eq (.slice none 0 0)) (.eq (.slice none 0 0))))),.obj b6 25 (.agg (.pair (I 0) (.pair (.eq (.slice none 0 0)) (.eq (.slice none 0 0)))))]:=fun b6=>by
   subst hJ;refine JD.step [1,3] (by kernel_rfl) rfl ?_;refine bQ.cons rfl ?_ ?_
   ·refine lo cg ?_;exact ax (s71 b6) [0,1,2] ⟨rfl,rfl,rfl,rfl,rfl,trivial⟩
   refine bQ.cons rfl ?_ ?_
   ·refine lo bR ?_;exact ax (s77 b6) [0,1,2] ⟨rfl,rfl,rfl,rfl,rfl,trivial⟩
   exact trivial
  have s28:∀(v4:Value),J 5 [false,false,true,true,true,false,false,false] [(1,Pt b1),(2,Pt b2),(9,.eq v4)] [.obj b1 25 (.rep ap a0),.obj b2 25 (.agg (.pair (I 0) (.pair (.eq (.slice none 0 0)) (.eq (.slice none 0 0))))),.sl v4 3 (.int .i64) r3]:=fun v4=>by
   subst hJ;refine JD.step [0,6] (by kernel_rfl) rfl ?_;refine bQ.cons rfl ?_ ?_
   ·refine fl fp ?_;exact ax (s29 v4) [0,1,2] ⟨rfl,rfl,rfl,rfl,trivial⟩
   refine bQ.cons rfl ?_ ?_
   ·refine aD rfl rfl rfl (a9 rfl kh mz) trivial fun b6=>?_;exact ax (s92 v4 b6) [1,2,3,0] ⟨rfl,rfl,rfl,rfl,trivial⟩
   exact trivial
  have s76:∀(b6:Nat),J 5 [false,false,true,true,false,false,true,false] [(1,Pt b1),(2,Pt b2),(3,Pt b6),(8,Ri a0.2.2)] [.obj b1 25 (.rep ap a0),.obj b2 25 (.agg (.pair (I 0) (.pair (.eq (.slice none 0 0)) (.eq (.slice none 0 0))))),.obj b6 25 (.agg (.pair (I 0) (.pair (.eq (.slice none 0 0)) (.eq (.slice none 0 0)))))]:=fun b6=>by
   subst hJ;refine JD.step [0,4] (by kernel_rfl) rfl ?_;refine bQ.cons rfl ?_ ?_
   ·refine fl fp ?_;exact ax (s77 b6) [0,1,2] ⟨rfl,rfl,rfl,rfl,rfl,trivial⟩
   refine bQ.cons rfl ?_ ?_
   ·refine aD rfl rfl rfl (ar [.tmp 8] rfl rfl ul rfl (cy k a0.2.2 r3 c)) ⟨rfl,trivial⟩ fun v4=>?_;exact ax (s92 v4 b6) [1,2,0,3] ⟨rfl,rfl,rfl,rfl,trivial⟩
   exact trivial
  have s3:J 6 [true,true,false,false,false,false,false,false] [(1,Pt b1),(2,Pt b2),(6,I a0.1)] [.obj b1 25 (.rep ap a0),.obj b2 25 (.agg (.pair (I 0) (.pair (.eq (.slice none 0 0)) (.eq (.slice none 0 0)))))]:=by
   subst hJ;refine JD.step [2,6] (by kernel_rfl) rfl ?_;refine bQ.cons rfl ?_ ?_
   ·refine fl cK ?_;exact ax s7 [0,1] ⟨rfl,rfl,rfl,rfl,trivial⟩
   refine bQ.cons rfl ?_ ?_
   ·refine aD rfl rfl rfl (a9 rfl kh mz) trivial fun b6=>?_;exact ax (s67 b6) [1,2,0] ⟨rfl,rfl,rfl,rfl,trivial⟩
   exact trivial
  have s5:J 6 [true,false,true,false,false,false,false,false] [(1,Pt b1),(2,Pt b2),(5,Pt b1),(7,.eq (.pointer (some ⟨b1,2,none⟩)))] [.obj b1 25 (.rep ap a0),.obj b2 25 (.agg (.pair (I 0) (.pair (.eq (.slice none 0 0)) (.eq (.slice none 0 0)))))]:=by
   subst hJ;refine JD.step [1,3,6] (by kernel_rfl) rfl ?_;refine bQ.cons rfl ?_ ?_
   ·refine lo cg ?_;exact ax s7 [0,1] ⟨rfl,rfl,rfl,rfl,trivial⟩
   refine bQ.cons rfl ?_ ?_
   ·refine lo bR ?_;exact ax s13 [0,1] ⟨rfl,rfl,rfl,rfl,trivial⟩
   refine bQ.cons rfl ?_ ?_
   ·refine aD rfl rfl rfl (a9 rfl kh mz) trivial fun b6=>?_;exact ax (s69 b6) [1,2,0] ⟨rfl,rfl,rfl,rfl,rfl,trivial⟩
   exact trivial
  have s65:∀(b6:Nat),J 6 [true,false,false,false,false,false,true,false] [(1,Pt b1),(2,Pt b2),(3,Pt b6),(5,Pt b1)] [.obj b1 25 (.rep ap a0),.obj b2 25 (.agg (.pair (I 0) (.pair (.eq (.slice none 0 0)) (.eq (.slice none 0 0))))),.obj b6 25 (.agg (.pair (I 0) (.pair (.eq (.slice none 0 0)) (.eq (.slice none 0 0)))))]:=fun b6=>by
   subst hJ;refine JD.step [1,2] (by kernel_rfl) rfl ?_;refine bQ.cons rfl ?_ ?_
   ·refine lo cg ?_;exact ax (s67 b6) [0,1,2] ⟨rfl,rfl,rfl,rfl,trivial⟩
   refine bQ.cons rfl ?_ ?_
   ·refine fl cK ?_;exact ax (s69 b6) [0,1,2] ⟨rfl,rfl,rfl,rfl,rfl,trivial⟩
   exact trivial
  have s12:J 6 [false,false,true,true,false,false,false,false] [(1,Pt b1),(2,Pt b2),(8,Ri a0.2.2)] [.obj b1 25 (.rep ap a0),.obj b2 25 (.agg (.pair (I 0) (.pair (.eq (.slice none 0 0)) (.eq (.slice none 0 0)))))]:=by
   subst hJ;refine JD.step [0,4,6] (by kernel_rfl) rfl ?_;refine bQ.cons rfl ?_ ?_
   ·refine fl fp ?_;exact ax s13 [0,1] ⟨rfl,rfl,rfl,rfl,trivial⟩
   refine bQ.cons rfl ?_ ?_
   ·refine aD rfl rfl rfl (ar [.tmp 8] rfl rfl ul rfl (cy k a0.2.2 r3 c)) ⟨rfl,trivial⟩ fun v4=>?_;exact ax (s28 v4) [1,2,0] ⟨rfl,rfl,rfl,trivial⟩
   refine bQ.cons rfl ?_ ?_
   ·refine aD rfl rfl rfl (a9 rfl kh mz) trivial fun b6=>?_;exact ax (s76 b6) [1,2,0] ⟨rfl,rfl,rfl,rfl,trivial⟩
   exact trivial
  have s68:∀(b6:Nat),J 6 [false,false,true,false,false,false,true,false] [(1,Pt b1),(2,Pt b2),(3,Pt b6),(7,.eq (.pointer (some ⟨b1,2,none⟩)))] [.obj b1 25 (.rep ap a0),.obj b2 25 (.agg (.pair (I 0) (.pair (.eq (.slice none 0 0)) (.eq (.slice none 0 0))))),.obj b6 25 (.agg (.pair (I 0) (.pair (.eq (.slice none 0 0)) (.eq (.slice none 0 0)))))]:=fun b6=>by
   subst hJ;refine JD.step [0,3] (by kernel_rfl) rfl ?_;refine bQ.cons rfl ?_ ?_
   ·refine fl fp ?_;exact ax (s69 b6) [0,1,2] ⟨rfl,rfl,rfl,rfl,rfl,trivial⟩
   refine bQ.cons rfl ?_ ?_
   ·refine lo bR ?_;exact ax (s76 b6) [0,1,2] ⟨rfl,rfl,rfl,rfl,trivial⟩
   exact trivial
  have s1:J 7 [true,false,false,false,false,false,false,false] [(1,Pt b1),(2,Pt b2),(5,Pt b1)] [.obj b1 25 (.rep ap a0),.obj b2 25 (.agg (.pair (I 0) (.pair (.eq (.slice none 0 0)) (.eq (.slice none 0 0)))))]:=by
   subst hJ;refine JD.step [1,2,6] (by kernel_rfl) rfl ?_;refine bQ.cons rfl ?_ ?_
   ·refine lo cg ?_;exact ax s3 [0,1] ⟨rfl,rfl,rfl,trivial⟩
   refine bQ.cons rfl ?_ ?_
   ·refine fl cK ?_;exact ax s5 [0,1] ⟨rfl,rfl,rfl,rfl,trivial⟩
   refine bQ.cons rfl ?_ ?_
   ·refine aD rfl rfl rfl (a9 rfl kh mz) trivial fun b6=>?_;exact ax (s65 b6) [1,2,0] ⟨rfl,rfl,rfl,rfl,trivial⟩
   exact trivial
  have s4:J 7 [false,false,true,false,false,false,false,false] [(1,Pt b1),(2,Pt b2),(7,.eq (.pointer (some ⟨b1,2,none⟩)))] [.obj b1 25 (.rep ap a0),.obj b2 25 (.agg (.pair (I 0) (.pair (.eq (.slice none 0 0)) (.eq (.slice none 0 0)))))]:=by
   subst hJ;refine JD.step [0,3,6] (by kernel_rfl) rfl ?_;refine bQ.cons rfl ?_ ?_
   ·refine fl fp ?_;exact ax s5 [0,1] ⟨rfl,rfl,rfl,rfl,trivial⟩
   refine bQ.cons rfl ?_ ?_
   ·refine lo bR ?_;exact ax s12 [0,1] ⟨rfl,rfl,rfl,trivial⟩
   refine bQ.cons rfl ?_ ?_
   ·refine aD rfl rfl rfl (a9 rfl kh mz) trivial fun b6=>?_;exact ax (s68 b6) [1,2,0] ⟨rfl,rfl,rfl,rfl,trivial⟩
   exact trivial
  have s64:∀(b6:Nat),J 7 [false,false,false,false,false,false,true,false] [(1,Pt b1),(2,Pt b2),(3,Pt b6)] [.obj b1 25 (.rep ap a0),.obj b2 25 (.agg (.pair (I 0) (.pair (.eq (.slice none 0 0)) (.eq (.slice none 0 0))))),.obj b6 25 (.agg (.pair (I 0) (.pair (.eq (.slice none 0 0)) (.eq (.slice none 0 0)))))]:=fun b6=>by
   subst hJ;refine JD.step [0,2] (by kernel_rfl) rfl ?_;refine bQ.cons rfl ?_ ?_
   ·refine fl fp ?_;exact ax (s65 b6) [0,1,2] ⟨rfl,rfl,rfl,rfl,trivial⟩
   refine bQ.cons rfl ?_ ?_
   ·refine fl cK ?_;exact ax (s68 b6) [0,1,2] ⟨rfl,rfl,rfl,rfl,trivial⟩
   exact trivial
  have s0:J 8 [false,false,false,false,false,false,false,false] [(1,Pt b1),(2,Pt b2)] [.obj b2 25 (.agg (.pair (I 0) (.pair (.eq (.slice none 0 0)) (.eq (.slice none 0 0))))),.obj b1 25 (.rep ap a0)]:=by
   subst hJ;refine JD.step [0,2,6] (by kernel_rfl) rfl ?_;refine bQ.cons rfl ?_ ?_
   ·refine fl fp ?_;exact ax s1 [1,0] ⟨rfl,rfl,rfl,trivial⟩
   refine bQ.cons rfl ?_ ?_
   ·refine fl cK ?_;exact ax s4 [1,0] ⟨rfl,rfl,rfl,trivial⟩
   refine bQ.cons rfl ?_ ?_
   ·refine aD rfl rfl rfl (a9 rfl kh mz) trivial fun b6=>?_;exact ax (s64 b6) [2,1,0] ⟨rfl,rfl,rfl,trivial⟩
   exact trivial
  exact s0
 rintro⟨v4,b6⟩
 show JN _ _ [(1,Pt b1),(2,Pt b2),(3,Pt b6)] [.obj b1 25 (.rep ap a0),.obj b2 25 (.agg (.pair (I 0) (.pair (.eq (.slice none 0 0)) (.eq (.slice none 0 0))))),.sl v4 3 (.int .i64) r3,.obj b6 25 (.agg (.pair (I a0.1) (.pair (.eq (.slice none 0 0)) (.eq v4))))]
 refine tn ?_
 refine aM (Z:=Value) (α:=(List eF)) (fun z8 x7=>[(2,Pt b2),(3,Pt b6)]) (fun z8 x7=>[.obj b2 25 (.agg (.pair (I 0) (.pair (.eq (.slice none 0 0)) (.eq (.slice none 0 0))))),.obj b6 25 (.agg (.pair (I a0.1) (.pair (.eq z8) (.eq v4)))),.sl z8 27 aH x7,.sl v4 3 (.int .i64) r3]) h (fun K h=>?_) (fun z8 x7 h=>?_)
 ·
  refine sr (cq (nt (ao ?_)));refine dN (SE.nil 27 aH) ?_;refine aK (fun e y9=>[(1,Pt b1),(2,Pt b2),(3,Pt b6),(4,I y9.2)]) (fun e y9=>[.obj b1 25 (.rep ap a0),.obj b2 25 (.agg (.pair (I 0) (.pair (.eq (.slice none 0 0)) (.eq (.slice none 0 0))))),.obj b6 25 (.agg (.pair (I a0.1) (.pair (.eq e) (.eq v4)))),.sl e 27 aH y9.1,.sl v4 3 (.int .i64) r3]) (fJ k a0) k (.slice none 0 0) (([]:(List eF)),0) (fun _=>rfl) h (SE.fin [1,2,4,0,3] ⟨rfl,rfl,rfl,rfl,trivial⟩ rfl) (fun n e y9 h=>?_);unfold fJ at h;refine ae (sr (mq ?_));refine fl bU ?_;refine lo eR ?_;refine ol mB ?_;refine jb (bj rfl) ?_;refine nt (ci h (fun h=>?_) (fun h=>?_))
  ·refine sk (ae (ao (bO ?_)));refine da (av rfl bU) ?_;refine ea 2 (aj rfl eR jt rfl) ?_;refine da (av rfl bU) ?_;refine ea 0 (aj rfl eR jt rfl) ?_;refine dm ?_;obtain⟨l,x,h⟩:=aa h;refine db (aF (t:=aH) rfl mB gC x) ?_;refine da (aJ 1 false rfl kB rfl) ?_;refine da (an (t:=(.int .i64)) rfl cg rfl) ?_;refine da (av rfl bU) ?_;refine ea 0 (aj rfl eR jt rfl) ?_;refine dm ?_;obtain⟨F,u,h⟩:=aa h;refine db (aF (t:=aH) rfl mB gC u) ?_;refine da (aJ 1 false rfl j0 rfl) ?_;refine da (an (t:=(.slice (.int .i64))) rfl bR rfl) ?_;obtain⟨j,D,h⟩:=aa h;refine da (sF (ar [.tmp 31] rfl rfl ul rfl (cy k F.2 j D))) ?_;refine db (cI [(0,.tmp 25,_),(1,.tmp 32,_)] rfl zG uc t9 (ia ⟨rfl,rfl,trivial⟩) rfl) ?_;refine da (bp (t:=aH) [(.tmp 33,_)] [(l.1,j)] rfl rfl xN (.cons trivial (.agg (.pair .int .rep)) .nil) rfl rfl) ?_;refine df cD ?_;obtain⟨O,y,h⟩:=aa h;refine fr 3 ?_;refine c6 rfl rfl rfl (bH rfl rfl xN (aB y)) ⟨rfl,rfl,trivial⟩ fun M=>?_;refine fl bU ?_;refine om fun o16=>?_;refine fr 3 ?_;refine bf rfl rfl (a8 rfl eR o16 rfl rfl) ⟨rfl,rfl,trivial⟩ ?_;refine au (aN (tn (ab (mq ?_))));obtain⟨E,s,h⟩:=aa h;refine jb (bg rfl s) ?_;refine aq (nl ?_);exact jz (M,(y9.1++[(l.1,j)],E)) h [2,3,0,1,4]
  ·refine xa ?_;exact jz (e,y9.1) h [1,2,3,4]
 ·
  refine sr (fr 1 ?_);refine lo cJ ?_;refine fr 1 ?_;refine bf rfl rfl (a8 rfl cJ trivial rfl rfl) ⟨rfl,rfl,trivial⟩ ?_;refine nt (aA (bv (SE.fin (Γ':=[(2,_)]) [2,3,0,1] ⟨rfl,trivial⟩ rfl) ?_));cases h;exact aQ (z8,v4) [.agg (.pair (I a0.1) (.pair (.eq z8) (.eq v4)))] 2 ⟨⟨_,_,_,_,_,rfl,(.tail _ (.tail _ (.head _))),cJ,(vX),rfl⟩,trivial⟩ rfl
def iS(k:Nat)(a0:aP):Nat→((List eF)×Int)→Option (List eF)
 |0,_=>none
 |n+1,y7=>
  if y7.2 < (a0.2.1.length:Int) then((aS a0.2.1 y7.2).bind fun x9=>
  (aS a0.2.1 y7.2).bind fun h=>
  (dY k h.2).bind fun c=>
  (dy (bM (List.length y7.1+List.length [(x9.1,c)]))).bind fun _=>
  (ck (y7.2+1)).bind fun e=>
  iS k a0 n (y7.1++[(x9.1,c)],e)) else(some y7.1)
def ji(k:Nat)(a0:aP):Option aP:=
 (dY k a0.2.2).bind fun r3=>
 ((iS k a0 k (([]:(List eF)),0)):Option ((List eF))).bind fun x5=>
 some (a0.1,x5,r3)
theorem tD(k:Nat)(a0:aP)(r:aP)(h:ji k a0=some r):
 bZ Tryz.prog 16 [.rep ap a0] [] (fun _:Unit=>(bu [.rep ap r],[])):=by
 unfold ji at h
 replace h:=bb h
 refine bZ.of 38 Tryz.func16 rfl Tryz.ntmps16 rfl fun S w0=>?_
 refine sr ?_
 refine bx fun b1=>?_
 refine aD rfl rfl rfl (a9 rfl kh mz) trivial fun b2=>?_
 refine nt ?_
 refine ae ?_
 refine jm ?_
 refine aI rfl rfl rfl (av rfl fp) ⟨rfl,trivial⟩ ?_
 refine dn 1 rfl rfl rfl rfl (aj rfl cg jt rfl) ⟨rfl,trivial⟩ ?_
 refine aI rfl rfl rfl (av rfl cK) ⟨rfl,trivial⟩ ?_
 refine dn 1 rfl rfl rfl rfl (aj rfl bR jt rfl) ⟨rfl,trivial⟩ ?_
 obtain⟨r3,X,h⟩:=aa h
 have Y:=cy k a0.2.2 r3 X
 refine aI rfl rfl rfl (sF (ar [.tmp 8] rfl rfl ul rfl Y)) ⟨rfl,trivial⟩ ?_
 refine aI rfl rfl rfl (cI [(0,.tmp 6,_),(2,.tmp 9,_)] rfl GW kh AQ (ia ⟨rfl,rfl,trivial⟩) rfl) ⟨rfl,rfl,trivial⟩ ?_
 refine uC (GR 25 (.agg (.pair (I 0) (.pair (.eq (.slice none 0 0)) (.eq (.slice none 0 0)))))) (fun _=>rfl) rfl rfl rfl (a9 rfl kh mz) trivial ?_
 refine mo 7 [true,true,true,true,true,true,true] [] [] [] rfl (by kernel_rfl) (by kernel_rfl) (by kernel_rfl) cD (fun vs hv hB=>?_)
 obtain⟨w0,Ul,rfl,Q⟩:=ak hv
 obtain⟨w1,Uk,rfl,O⟩:=ak Q
 obtain⟨w2,se,rfl,M⟩:=ak O
 obtain⟨w3,qt,rfl,J⟩:=ak M
 obtain⟨w4,pp,rfl,F⟩:=ak J
 obtain⟨w5,mc,rfl,E⟩:=ak F
 obtain⟨w6,ac,rfl,D⟩:=ak E
 obtain rfl:=jW D
 obtain⟨b4,rfl⟩:=BN hB.2.2.2.2.2.2.1
 refine⟨[0,1,2],[.obj b2 25 (.agg (.pair (I 0) (.pair (.eq (.slice none 0 0)) (.eq (.slice none 0 0))))),.obj b1 25 (.rep ap a0),.obj b4 25 (.agg (.pair (I 0) (.pair (.eq (.slice none 0 0)) (.eq (.slice none 0 0)))))],by kernel_rfl,by decide,?_⟩
 refine iN 2 rfl ?_
 refine oh rfl rfl (a8 rfl cJ trivial rfl rfl) ⟨rfl,rfl,trivial⟩ (by kernel_rfl) ?_
 refine pG ?_
 refine bv (SE.fin (Γ':=[(1,Pt b1),(2,Pt b2),(3,Pt b4)]) (Δ':=[.obj b4 25 (.agg (.pair (I a0.1) (.pair (.eq (.slice none 0 0)) (Ri r3)))),.obj b2 25 (.agg (.pair (I 0) (.pair (.eq (.slice none 0 0)) (.eq (.slice none 0 0))))),.obj b1 25 (.rep ap a0)]) [0,1,2] ⟨rfl,rfl,rfl,trivial⟩ rfl) ?_
 refine tn ?_
 refine aM (Z:=Value) (α:=(List eF)) (fun z6 x5=>[(2,Pt b2),(3,Pt b4)]) (fun z6 x5=>[.obj b2 25 (.agg (.pair (I 0) (.pair (.eq (.slice none 0 0)) (.eq (.slice none 0 0))))),.obj b4 25 (.agg (.pair (I a0.1) (.pair (.eq z6) (Ri r3)))),.sl z6 27 aH x5]) h (fun K h=>?_) (fun z6 x5 h=>?_)
 ·
  refine sr (cq (nt (ao ?_)));refine dN (SE.nil 27 aH) ?_;refine aK (fun z8 y7=>[(1,Pt b1),(2,Pt b2),(3,Pt b4),(4,I y7.2)]) (fun z8 y7=>[.obj b1 25 (.rep ap a0),.obj b2 25 (.agg (.pair (I 0) (.pair (.eq (.slice none 0 0)) (.eq (.slice none 0 0))))),.obj b4 25 (.agg (.pair (I a0.1) (.pair (.eq z8) (Ri r3)))),.sl z8 27 aH y7.1]) (iS k a0) k (.slice none 0 0) (([]:(List eF)),0) (fun _=>rfl) h (SE.fin [3,2,1,0] ⟨rfl,rfl,rfl,rfl,trivial⟩ rfl) (fun n z8 y7 h=>?_);unfold iS at h;refine ae (sr (mq ?_));refine fl bU ?_;refine lo eR ?_;refine ol mB ?_;refine jb (bj rfl) ?_;refine nt (ci h (fun h=>?_) (fun h=>?_))
  ·refine sk (ae (ao (bO ?_)));refine da (av rfl bU) ?_;refine ea 2 (aj rfl eR jt rfl) ?_;refine da (av rfl bU) ?_;refine ea 0 (aj rfl eR jt rfl) ?_;refine dm ?_;obtain⟨x9,U,h⟩:=aa h;refine db (aF (t:=aH) rfl mB gC U) ?_;refine da (aJ 1 false rfl kB rfl) ?_;refine da (an (t:=(.int .i64)) rfl cg rfl) ?_;refine da (av rfl bU) ?_;refine ea 0 (aj rfl eR jt rfl) ?_;refine dm ?_;obtain⟨x,j,h⟩:=aa h;refine db (aF (t:=aH) rfl mB gC j) ?_;refine da (aJ 1 false rfl j0 rfl) ?_;refine da (an (t:=(.slice (.int .i64))) rfl bR rfl) ?_;obtain⟨c,s,h⟩:=aa h;refine da (sF (ar [.tmp 31] rfl rfl ul rfl (cy k x.2 c s))) ?_;refine db (cI [(0,.tmp 25,_),(1,.tmp 32,_)] rfl zG uc t9 (ia ⟨rfl,rfl,trivial⟩) rfl) ?_;refine da (bp (t:=aH) [(.tmp 33,_)] [(x9.1,c)] rfl rfl xN (.cons trivial (.agg (.pair .int .rep)) .nil) rfl rfl) ?_;refine df cD ?_;obtain⟨Um,l,h⟩:=aa h;refine fr 3 ?_;refine c6 rfl rfl rfl (bH rfl rfl xN (aB l)) ⟨rfl,rfl,trivial⟩ fun y=>?_;refine fl bU ?_;refine om fun o14=>?_;refine fr 3 ?_;refine bf rfl rfl (a8 rfl eR o14 rfl rfl) ⟨rfl,rfl,trivial⟩ ?_;refine au (aN (tn (ab (mq ?_))));obtain⟨u,e,h⟩:=aa h;refine jb (bg rfl e) ?_;refine aq (nl ?_);exact jz (y,(y7.1++[(x9.1,c)],u)) h [2,3,0,1]
  ·refine xa ?_;exact jz (z8,y7.1) h [1,2,3]
 ·
  refine sr (fr 1 ?_);refine fr 2 ?_;refine cC (kF (off:=1) [] trivial rfl rfl) ?_;refine lo cJ ?_;refine fr 1 ?_;refine bf rfl rfl (a8 rfl cJ trivial rfl rfl) ⟨rfl,rfl,trivial⟩ ?_;refine nt (aA (bv (og (a:=.agg (.pair (I a0.1) (.pair (Rs aH x5) (Ri r3)))) (a':=.rep ap (a0.1,x5,r3)) (vW (.agg (.pair .int (.pair .rep .rep))))) ?_));cases h;exact aQ () [.rep ap (a0.1,x5,r3)] 0 ⟨⟨_,_,_,_,_,rfl,(.head _),cJ,(vX),rfl⟩,trivial⟩ rfl
def du(k:Nat)(a0:(List (List Int))):Nat→((List (List Int))×Int)→Option (List (List Int))
 |0,_=>none
 |n+1,y3=>
  if y3.2 < (a0.length:Int) then((aS a0 y3.2).bind fun x5=>
  (dY k x5).bind fun r6=>
  (dy (bM (List.length y3.1+List.length [r6]))).bind fun _=>
  (ck (y3.2+1)).bind fun c=>
  du k a0 n (y3.1++[r6],c)) else(some y3.1)
def ff(k:Nat)(a0:(List (List Int))):Option (List (List Int)):=
 ((du k a0 k (([]:(List (List Int))),0)):Option ((List (List Int)))).bind fun x1=>
 some x1
theorem tG(k:Nat)(a0:(List (List Int)))(r:(List (List Int)))(h:ff k a0=some r):
 bZ Tryz.prog 17 [.rep (.slice (.slice (.int .i64))) a0] [] (fun z:Value=>(bu [.eq z],[.sl z 23 (.slice (.int .i64)) r])):=by
 unfold ff at h
 replace h:=bb h
 refine bZ.of 20 Tryz.func17 rfl Tryz.ntmps17 rfl fun S w0=>?_
 refine sr ?_
 refine cq ?_
 refine nt ?_
 refine sr ?_
 refine cq ?_
 refine nt ?_
 refine aM (Z:=Value) (α:=(List (List Int))) (fun z2 x1=>[(3,.eq z2)]) (fun z2 x1=>[.sl z2 23 (.slice (.int .i64)) x1]) h (fun K h=>?_) (fun z2 x1 h=>?_)
 ·
  refine sr (cq (nt (ao ?_)));refine dN (SE.nil 23 (.slice (.int .i64))) ?_;refine aK (fun z4 y3=>[(0,.rep (.slice (.slice (.int .i64))) a0),(3,.eq z4),(4,I y3.2)]) (fun z4 y3=>[.sl z4 23 (.slice (.int .i64)) y3.1]) (du k a0) k (.slice none 0 0) (([]:(List (List Int))),0) (fun _=>rfl) h (SE.fin [0] ⟨rfl,rfl,rfl,trivial⟩ rfl) (fun n z4 y3 h=>?_);unfold du at h;refine ae (sr ?_);iterate 2 refine mq ?_
  refine ol mA ?_;refine jb (bj rfl) ?_;refine nt (ci h (fun h=>?_) (fun h=>?_))
  ·refine sk (ae (ao (ab ?_)));iterate 3 refine mq ?_
   obtain⟨x5,j,h⟩:=aa h;refine jb (aF (t:=(.slice (.int .i64))) rfl mA bR j) ?_;refine ja (an (t:=(.slice (.int .i64))) rfl bR rfl) ?_;obtain⟨r6,s,h⟩:=aa h;refine aD rfl rfl rfl (ar [.tmp 15] rfl rfl ul rfl (cy k x5 r6 s)) ⟨rfl,trivial⟩ fun v7=>?_;refine cC (eK [16] ⟨rfl,trivial⟩) ?_;refine ja (bp (t:=(.slice (.int .i64))) [(.tmp 16,_)] [r6] rfl rfl oV (.cons rfl .rep .nil) rfl rfl) ?_;obtain⟨u8,l,h⟩:=aa h;refine c6 rfl rfl rfl (bH rfl rfl oV (aB l)) ⟨rfl,rfl,trivial⟩ fun v9=>?_;refine aq (au (aN (tn (ab ?_))));refine mq ?_;obtain⟨e,c,h⟩:=aa h;refine jb (bg rfl c) ?_;refine aq (nl ?_);exact jz (v9,(y3.1++[r6],e)) h [0]
  ·refine xa ?_;exact jz (z4,y3.1) h [0]
 ·
  refine sr (mq ?_);refine aq (nt (aA ?_));cases h;exact aQ z2 [.eq z2] 1 ⟨rfl,trivial⟩ rfl
def jh(k:Nat)(a0:bW):Option (Int×bW):=
 ((if a0.2.1 < (a0.1.length:Int) then((aS a0.1 a0.2.1).bind fun x3=>
 some (IntKind.u64.wrap ((IntKind.u64.wrap ((IntKind.u64.wrap (a0.2.2 * 6364136223846793005))+1442695040888963407))+(IntKind.u64.wrap ((IntKind.u64.wrap x3) * 2862933555777941757))))) else(some (IntKind.u64.wrap ((IntKind.u64.wrap (a0.2.2 * 6364136223846793005))+1442695040888963407)))):Option (Int)).bind fun x1=>
 (ck (a0.2.1+1)).bind fun x4=>
 some (iu .u64 (qZ .u64 (IntKind.u64.wrap ((qZ .u64 x1 (iu .u64 x1 29)) * 2685821657736338717)) (iu .u64 (IntKind.u64.wrap ((qZ .u64 x1 (iu .u64 x1 29)) * 2685821657736338717)) 32)) 8,(a0.1,x4,x1))
theorem tC(k:Nat)(a0:bW)(c:Nat)(r:Int×bW)(h:jh k a0=some r):
 bZ Tryz.prog 52 [Pt c] [.obj c 75 (.agg (.pair (Ri a0.1) (.pair (I a0.2.1) (.eq (.int .u64 a0.2.2)))))] (fun _:Unit=>(bu [.eq (.int .u64 r.1)],[.obj c 75 (.agg (.pair (Ri r.2.1) (.pair (I r.2.2.1) (.eq (.int .u64 r.2.2.2)))))])):=by
 unfold jh at h
 replace h:=bb h
 refine bZ.of 67 Tryz.func52 rfl Tryz.ntmps52 rfl fun S w0=>?_
 refine sr ?_
 refine cq ?_
 refine nt ?_
 refine sr ?_
 iterate 2 refine mq ?_
 refine ja (be rfl) ?_
 refine fl tI ?_
 refine lo ED ?_
 refine jb (BV rfl) ?_
 refine jb (BX rfl) ?_
 refine ja (be rfl) ?_
 refine fl tI ?_
 refine bf rfl rfl (a8 rfl ED rfl rfl rfl) ⟨rfl,rfl,trivial⟩ ?_
 refine nt ?_
 refine aM (Z:=Unit) (α:=Int) (fun z2 x1=>[(0,Pt c)]) (fun z2 x1=>[.obj c 75 (.agg (.pair (Ri a0.1) (.pair (I a0.2.1) (.eq (.int .u64 x1)))))]) h (fun K h=>?_) (fun z2 x1 h=>?_)
 ·
  refine ae (bO ?_);refine dm ?_;refine da (be rfl) ?_;refine da (av rfl yB) ?_;refine ea 0 (aj rfl cg jt rfl) ?_;refine dm ?_;refine da (be rfl) ?_;refine da (av rfl Ip) ?_;refine ea 0 (aj rfl bR jt rfl) ?_;refine da (jE rfl rfl dA) ?_;refine df cD ?_;refine jb (bj rfl) ?_;refine nt (ci h (fun h=>?_) (fun h=>?_))
  ·refine bO ?_;refine dm ?_;refine dm ?_;refine da (be rfl) ?_;refine da (av rfl tI) ?_;refine ea 0 (aj rfl ED jt rfl) ?_;refine dm ?_;refine da (be rfl) ?_;refine da (av rfl Ip) ?_;refine ea 0 (aj rfl bR jt rfl) ?_;refine dm ?_;refine da (be rfl) ?_;refine da (av rfl yB) ?_;refine ea 0 (aj rfl cg jt rfl) ?_;obtain⟨x3,j,h⟩:=aa h;refine db (aF (t:=(.int .i64)) rfl dA cg j) ?_;refine da (an (t:=(.int .i64)) rfl cg rfl) ?_;refine da (o4 rfl U3 Rq) ?_;refine db (BV rfl) ?_;refine db (BX rfl) ?_;refine df cD ?_;refine ja (be rfl) ?_;refine fl tI ?_;refine bf rfl rfl (a8 rfl ED rfl rfl rfl) ⟨rfl,rfl,trivial⟩ ?_;refine nl ?_;exact jz ((),IntKind.u64.wrap ((IntKind.u64.wrap ((IntKind.u64.wrap (a0.2.2 * 6364136223846793005))+1442695040888963407))+(IntKind.u64.wrap ((IntKind.u64.wrap x3) * 2862933555777941757)))) h [0]
  ·refine aY (ag ?_);exact jz ((),IntKind.u64.wrap ((IntKind.u64.wrap (a0.2.2 * 6364136223846793005))+1442695040888963407)) h [0]
 ·
  refine sr (mq ?_);refine ja (be rfl) ?_;refine fl yB ?_;refine lo cg ?_;obtain⟨x4,e,h⟩:=aa h;refine jb (bg rfl e) ?_;refine ja (be rfl) ?_;refine fl yB ?_;refine bf rfl rfl (a8 rfl cg rfl rfl rfl) ⟨rfl,rfl,trivial⟩ ?_;refine nt (ae (bO ?_));refine dm ?_;refine da (be rfl) ?_;refine da (av rfl tI) ?_;refine ea 0 (aj rfl ED jt rfl) ?_;refine dm ?_;refine da (be rfl) ?_;refine da (av rfl tI) ?_;refine ea 0 (aj rfl ED jt rfl) ?_;refine dz rfl rfl rfl (vi rfl (by decide)) ⟨rfl,rfl,trivial⟩ ?_;refine df cD ?_;refine jb (LW rfl) ?_;refine aq (nt (sr ?_));refine mq ?_;refine jb (BV rfl) ?_;refine aq (nt (sr ?_));iterate 2 refine mq ?_
  refine aG rfl (vi rfl (by decide)) ⟨rfl,rfl,trivial⟩ ?_;refine jb (LW rfl) ?_;refine aG rfl (vi rfl (by decide)) ⟨rfl,rfl,trivial⟩ ?_;refine aq (nt (aA ?_));cases h;exact aQ () [_] 1 ⟨rfl,trivial⟩ rfl
def dX(k:Nat)(a0:bW)(a1:Int):Option (Int×bW):=
 if a1 < 1 then(some (0,(a0.1,a0.2.1,a0.2.2))) else((jh k (a0.1,a0.2.1,a0.2.2)).bind fun r1=>
 (ck (a1+1)).bind fun x2=>
 (dy ((IntKind.u64.wrap x2)≠0)).bind fun _=>
 (ck (Int.tmod r1.1 (IntKind.u64.wrap x2))).bind fun x4=>
 some (x4,(r1.2.1,r1.2.2.1,r1.2.2.2)))
theorem gx(k:Nat)(a0:bW)(c:Nat)(a1:Int)(r:Int×bW)(h:dX k a0 a1=some r):
 bZ Tryz.prog 15 [Pt c,I a1] [.obj c 75 (.agg (.pair (Ri a0.1) (.pair (I a0.2.1) (.eq (.int .u64 a0.2.2)))))] (fun _:Unit=>(bu [I r.1],[.obj c 75 (.agg (.pair (Ri r.2.1) (.pair (I r.2.2.1) (.eq (.int .u64 r.2.2.2)))))])):=by
 unfold dX at h
 replace h:=bb h
 refine bZ.of 14 Tryz.func15 rfl Tryz.ntmps15 rfl fun S w0=>?_
 refine sr ?_
 refine cq ?_
 refine nt ?_
 refine ae ?_
 refine sr ?_
 refine mq ?_
 refine jb (bj rfl) ?_
 refine nt ?_
 refine ci h (fun h=>?_) (fun h=>?_)
 ·
  refine sr (cq (nt (rx ?_)));cases h;exact aQ () [_] 1 ⟨rfl,trivial⟩ rfl
 ·
  refine sk (sr (mq ?_));obtain⟨r1,n,h⟩:=aa h;refine ka (ar [.tmp 7] rfl rfl SY rfl (tC k (a0.1,a0.2.1,a0.2.2) c r1 n)) ?_;refine mq ?_;obtain⟨x2,j,h⟩:=aa h;refine jb (bg rfl j) ?_;refine ja (o4 rfl U3 Rq) ?_;obtain⟨u3,l,h⟩:=aa h;refine jb (G8 rfl (aB l)) ?_;obtain⟨x4,e,h⟩:=aa h;refine ja (zO rfl Rq U3 e) ?_;refine aq (nt (aA ?_));cases h;exact aQ () [_] 1 ⟨rfl,trivial⟩ rfl
def fe(k:Nat)(a0:bW)(a1:Int)(a2:Int):Option (Int×bW):=
 (ck (a2 - a1)).bind fun x1=>
 (dX k (a0.1,a0.2.1,a0.2.2) x1).bind fun r2=>
 (ck (a1+r2.1)).bind fun x3=>
 some (x3,(r2.2.1,r2.2.2.1,r2.2.2.2))
theorem mf(k:Nat)(a0:bW)(c:Nat)(a1:Int)(a2:Int)(r:Int×bW)(h:fe k a0 a1 a2=some r):
 bZ Tryz.prog 94 [Pt c,I a1,I a2] [.obj c 75 (.agg (.pair (Ri a0.1) (.pair (I a0.2.1) (.eq (.int .u64 a0.2.2)))))] (fun _:Unit=>(bu [I r.1],[.obj c 75 (.agg (.pair (Ri r.2.1) (.pair (I r.2.2.1) (.eq (.int .u64 r.2.2.2)))))])):=by
 unfold fe at h
 replace h:=bb h
 refine bZ.of 14 Tryz.func94 rfl Tryz.ntmps94 rfl fun S w0=>?_
 refine sr ?_
 refine cq ?_
 refine nt ?_
 refine sr ?_
 iterate 4 refine mq ?_
 obtain⟨x1,j,h⟩:=aa h
 refine jb (fS rfl j) ?_
 obtain⟨r2,l,h⟩:=aa h
 have n:=gx k (a0.1,a0.2.1,a0.2.2) c x1 r2 l
 refine kb (ar [.tmp 8,.tmp 11] rfl rfl IA rfl n) ?_
 obtain⟨x3,e,h⟩:=aa h
 refine jb (bg rfl e) ?_
 refine aq ?_
 refine nt ?_
 refine aA ?_
 cases h
 exact aQ () [_] 1 ⟨rfl,trivial⟩ rfl
def jJ(k:Nat)(a0:bW)(a1:(List Int)):Option (Int×bW):=
 (ck ((a1.length:Int) - 1)).bind fun x1=>
 (dX k (a0.1,a0.2.1,a0.2.2) x1).bind fun r2=>
 (aS a1 r2.1).bind fun x3=>
 some (x3,(r2.2.1,r2.2.2.1,r2.2.2.2))
theorem pm(k:Nat)(a0:bW)(c:Nat)(a1:(List Int))(r:Int×bW)(h:jJ k a0 a1=some r):
 bZ Tryz.prog 95 [Pt c,Ri a1] [.obj c 75 (.agg (.pair (Ri a0.1) (.pair (I a0.2.1) (.eq (.int .u64 a0.2.2)))))] (fun _:Unit=>(bu [I r.1],[.obj c 75 (.agg (.pair (Ri r.2.1) (.pair (I r.2.2.1) (.eq (.int .u64 r.2.2.2)))))])):=by
 unfold jJ at h
 replace h:=bb h
 refine bZ.of 13 Tryz.func95 rfl Tryz.ntmps95 rfl fun S w0=>?_
 refine sr ?_
 refine cq ?_
 refine nt ?_
 refine sr ?_
 iterate 3 refine mq ?_
 refine ol dA ?_
 obtain⟨x1,j,h⟩:=aa h
 refine jb (fS rfl j) ?_
 obtain⟨r2,l,h⟩:=aa h
 have n:=gx k (a0.1,a0.2.1,a0.2.2) c x1 r2 l
 refine kb (ar [.tmp 6,.tmp 9] rfl rfl IA rfl n) ?_
 obtain⟨x3,e,h⟩:=aa h
 refine jb (aF (t:=(.int .i64)) rfl dA cg e) ?_
 refine ja (an (t:=(.int .i64)) rfl cg rfl) ?_
 refine aq ?_
 refine nt ?_
 refine aA ?_
 cases h
 exact aQ () [_] 1 ⟨rfl,trivial⟩ rfl
def f6(k:Nat)(a0:bW)(a1:Int):Option (Bool×bW):=
 (ck (a1 - 1)).bind fun x1=>
 (dX k (a0.1,a0.2.1,a0.2.2) x1).bind fun r2=>
 some (decide (r2.1=0),(r2.2.1,r2.2.2.1,r2.2.2.2))
theorem nz(k:Nat)(a0:bW)(c:Nat)(a1:Int)(r:Bool×bW)(h:f6 k a0 a1=some r):
 bZ Tryz.prog 96 [Pt c,I a1] [.obj c 75 (.agg (.pair (Ri a0.1) (.pair (I a0.2.1) (.eq (.int .u64 a0.2.2)))))] (fun _:Unit=>(bu [.eq (.bool r.1)],[.obj c 75 (.agg (.pair (Ri r.2.1) (.pair (I r.2.2.1) (.eq (.int .u64 r.2.2.2)))))])):=by
 unfold f6 at h
 replace h:=bb h
 refine bZ.of 10 Tryz.func96 rfl Tryz.ntmps96 rfl fun S w0=>?_
 refine sr ?_
 refine cq ?_
 refine nt ?_
 refine sr ?_
 iterate 2 refine mq ?_
 obtain⟨x1,e,h⟩:=aa h
 refine jb (fS rfl e) ?_
 obtain⟨r2,j,h⟩:=aa h
 have l:=gx k (a0.1,a0.2.1,a0.2.2) c x1 r2 j
 refine kb (ar [.tmp 5,.tmp 7] rfl rfl IA rfl l) ?_
 refine jb (fU rfl) ?_
 refine aq ?_
 refine nt ?_
 refine aA ?_
 cases h
 exact aQ () [_] 1 ⟨rfl,trivial⟩ rfl
def eY(k:Nat)(r2:Int×bW):Nat→((List Int)×Int×Int×(List Int)×Int)→Option ((List Int)×Int×Int×(List Int))
 |0,_=>none
 |n+1,c=>
  if c.2.2.2.2 < r2.1 then((((f6 k (c.1,c.2.1,c.2.2.1) 2).bind fun e=>
  if e.1=true then((dy (bM (List.length c.2.2.2.1+List.length [c.2.2.2.2]))).bind fun _=>
  some (e.2.1,e.2.2.1,e.2.2.2,c.2.2.2.1++[c.2.2.2.2])) else(some (e.2.1,e.2.2.1,e.2.2.2,c.2.2.2.1))):Option ((List Int)×Int×Int×(List Int))).bind fun h=>
  (ck (c.2.2.2.2+1)).bind fun j=>
  eY k r2 n (h.1,h.2.1,h.2.2.1,h.2.2.2,j)) else(some (c.1,c.2.1,c.2.2.1,c.2.2.2.1))
def eZ(k:Nat)(r2:Int×bW):Nat→((List Int)×Int×Int×(List eF)×Int×Int)→Option ((List Int)×Int×Int×(List eF)×Int)
 |0,_=>none
 |n+1,y7=>
  if 0 < y7.2.2.2.2.2 then((((jJ k (y7.1,y7.2.1,y7.2.2.1) [1,1,1,2,3]).bind fun c=>
  ((eY k r2 k (c.2.1,c.2.2.1,c.2.2.2,([]:(List Int)),0)):Option ((List Int)×Int×Int×(List Int))).bind fun e=>
  (dy (bM (List.length y7.2.2.2.1+List.length [(c.1,e.2.2.2)]))).bind fun _=>
  (ck (y7.2.2.2.2.1+c.1)).bind fun j=>
  some (e.1,e.2.1,e.2.2.1,y7.2.2.2.1++[(c.1,e.2.2.2)],j)):Option ((List Int)×Int×Int×(List eF)×Int)).bind fun x9=>
  (ck (y7.2.2.2.2.2 - 1)).bind fun h=>
  eZ k r2 n (x9.1,x9.2.1,x9.2.2.1,x9.2.2.2.1,x9.2.2.2.2,h)) else(some (y7.1,y7.2.1,y7.2.2.1,y7.2.2.2.1,y7.2.2.2.2.1))
def eX(k:Nat)(x4:(List Int)×Int×Int×(List eF)×Int):Nat→((List Int)×Int×Int×(List Int)×Int)→Option ((List Int)×Int×Int×(List Int))
 |0,_=>none
 |n+1,c=>
  if 0 < c.2.2.2.2 then((ck (x4.2.2.2.2+1)).bind fun j=>
  (jJ k (c.1,c.2.1,c.2.2.1) [1,2,3,jZ 9 x4.2.2.2.2,jZ 9 j]).bind fun e=>
  (dy (bM (List.length c.2.2.2.1+List.length [e.1]))).bind fun _=>
  (ck (c.2.2.2.2 - 1)).bind fun h=>
  eX k x4 n (e.2.1,e.2.2.1,e.2.2.2,c.2.2.2.1++[e.1],h)) else(some (c.1,c.2.1,c.2.2.1,c.2.2.2.1))
def kx(k:Nat)(a0:bW)(a1:Int)(a2:Int):Option (aP×bW):=
 (fe k (a0.1,a0.2.1,a0.2.2) 1 4).bind fun r2=>
 (((fe k (r2.2.1,r2.2.2.1,r2.2.2.2) 0 a1).bind fun r6=>
 eZ k r2 k (r6.2.1,r6.2.2.1,r6.2.2.2,([]:(List eF)),0,r6.1)):Option ((List Int)×Int×Int×(List eF)×Int)).bind fun x4=>
 (((fe k (x4.1,x4.2.1,x4.2.2.1) 1 a2).bind fun j=>
 eX k x4 k (j.2.1,j.2.2.1,j.2.2.2,([]:(List Int)),j.1)):Option ((List Int)×Int×Int×(List Int))).bind fun e=>
 (((f6 k (e.1,e.2.1,e.2.2.1) 2).bind fun c=>
 if c.1=true then((aS e.2.2.2 0).bind fun l=>
 some (List.set e.2.2.2 (Int.toNat 0) (jZ 9 x4.2.2.2.2),c.2.1,c.2.2.1,c.2.2.2)) else(some (e.2.2.2,c.2.1,c.2.2.1,c.2.2.2))):Option ((List Int)×(List Int)×Int×Int)).bind fun h=>
 some ((r2.1,x4.2.2.2.1,h.1),(h.2.1,h.2.2.1,h.2.2.2))
theorem wx(k:Nat)(a0:bW)(c:Nat)(a1:Int)(a2:Int)(r:aP×bW)(h:kx k a0 a1 a2=some r):
 bZ Tryz.prog 49 [Pt c,I a1,I a2] [.obj c 75 (.agg (.pair (Ri a0.1) (.pair (I a0.2.1) (.eq (.int .u64 a0.2.2)))))] (fun _:Unit=>(bu [.rep ap r.1],[.obj c 75 (.agg (.pair (Ri r.2.1) (.pair (I r.2.2.1) (.eq (.int .u64 r.2.2.2)))))])):=by
 unfold kx at h
 replace h:=bb h
 refine bZ.of 79 Tryz.func49 rfl Tryz.ntmps49 rfl fun S w0=>?_
 refine sr ?_
 refine aD rfl rfl rfl (a9 rfl kh mz) trivial fun b1=>?_
 refine nt ?_
 refine sr ?_
 refine mq ?_
 obtain⟨r2,UQ,h⟩:=aa h
 have UR:=mf k (a0.1,a0.2.1,a0.2.2) c 1 4 r2 UQ
 refine fr 1 ?_
 refine kc (ar [.tmp 13,.const (.int .i64 (1)),.const (.int .i64 (4))] rfl rfl NR rfl UR) ?_
 refine ja (cI [(0,.tmp 14,_)] rfl GW kh AQ (ia ⟨rfl,trivial⟩) rfl) ?_
 refine aD rfl rfl rfl (a9 rfl kh mz) trivial fun b3=>?_
 refine bf rfl rfl (a8 rfl cJ trivial rfl rfl) ⟨rfl,rfl,trivial⟩ ?_
 refine nt ?_
 refine sr ?_
 refine cq ?_
 refine nt ?_
 refine aM (Z:=Value) (α:=(List Int)×Int×Int×(List eF)×Int) (fun z5 x4=>[(0,Pt c),(2,I a2),(6,Pt b1),(7,Pt b3),(8,I x4.2.2.2.2)]) (fun z5 x4=>[.obj c 75 (.agg (.pair (Ri x4.1) (.pair (I x4.2.1) (.eq (.int .u64 x4.2.2.1))))),.obj b1 25 (.agg (.pair (I 0) (.pair (.eq (.slice none 0 0)) (.eq (.slice none 0 0))))),.obj b3 25 (.agg (.pair (I r2.1) (.pair (.eq z5) (.eq (.slice none 0 0))))),.sl z5 27 aH x4.2.2.2.1]) h (fun K h=>?_) (fun z5 x4 h=>?_)
 ·
  refine sr ?_;iterate 2 refine mq ?_
  obtain⟨r6,UP,h⟩:=aa h;refine fr 1 ?_;refine kc (ar [.tmp 16,.const (.int .i64 (0)),.tmp 17] rfl rfl NR rfl (mf k (r2.2.1,r2.2.2.1,r2.2.2.2) c 0 a1 r6 UP)) ?_;refine aq (nt (ao ?_));refine dN (SE.nil 27 aH) ?_;refine aK (fun z8 y7=>[(0,Pt c),(2,I a2),(6,Pt b1),(7,Pt b3),(8,I y7.2.2.2.2.1),(9,I y7.2.2.2.2.2)]) (fun z8 y7=>[.obj c 75 (.agg (.pair (Ri y7.1) (.pair (I y7.2.1) (.eq (.int .u64 y7.2.2.1))))),.obj b1 25 (.agg (.pair (I 0) (.pair (.eq (.slice none 0 0)) (.eq (.slice none 0 0))))),.obj b3 25 (.agg (.pair (I r2.1) (.pair (.eq z8) (.eq (.slice none 0 0))))),.sl z8 27 aH y7.2.2.2.1]) (eZ k r2) k (.slice none 0 0) (r6.2.1,r6.2.2.1,r6.2.2.2,([]:(List eF)),0,r6.1) (fun _=>rfl) h (SE.fin [1,3,2,0] ⟨rfl,rfl,rfl,rfl,rfl,rfl,trivial⟩ rfl) (fun n z8 y7 h=>?_);unfold eZ at h;refine ae (sr (mq ?_));refine jb (ip rfl) ?_;refine nt (ci h (fun h=>?_) (fun h=>?_))
  ·refine sk (aM (Z:=Value) (α:=(List Int)×Int×Int×(List eF)×Int) (fun X x9=>[(0,Pt c),(2,I a2),(6,Pt b1),(7,Pt b3),(8,I x9.2.2.2.2),(9,I y7.2.2.2.2.2)]) (fun X x9=>[.obj c 75 (.agg (.pair (Ri x9.1) (.pair (I x9.2.1) (.eq (.int .u64 x9.2.2.1))))),.obj b1 25 (.agg (.pair (I 0) (.pair (.eq (.slice none 0 0)) (.eq (.slice none 0 0))))),.obj b3 25 (.agg (.pair (I r2.1) (.pair (.eq X) (.eq (.slice none 0 0))))),.sl X 27 aH x9.2.2.2.1]) h (fun K h=>?_) (fun X x9 h=>?_))
   ·refine ao (sr (mq ?_));refine aG rfl (bp (t:=(.int .i64)) [(.const (.int .i64 (1)),_),(.const (.int .i64 (1)),_),(.const (.int .i64 (1)),_),(.const (.int .i64 (2)),_),(.const (.int .i64 (3)),_)] [1,1,1,2,3] rfl rfl dI (.cons rfl .int (.cons rfl .int (.cons rfl .int (.cons rfl .int (.cons rfl .int .nil))))) rfl rfl) ⟨rfl,rfl,rfl,rfl,rfl,trivial⟩ ?_;obtain⟨s,Uz,h⟩:=aa h;refine kb (ar [.tmp 23,.tmp 24] rfl rfl Qe rfl (pm k (y7.1,y7.2.1,y7.2.2.1) c [1,1,1,2,3] s Uz)) ?_;refine ja (cI [(0,.tmp 25,_)] rfl zG uc t9 (ia ⟨rfl,trivial⟩) rfl) ?_;refine aD rfl rfl rfl (a9 rfl uc Lm) trivial fun M=>?_;refine bf rfl rfl (a8 rfl gC trivial rfl rfl) ⟨rfl,rfl,trivial⟩ ?_;refine nt (aM (Z:=Value) (α:=(List Int)×Int×Int×(List Int)) (fun ac j=>[(0,Pt c),(2,I a2),(6,Pt b1),(7,Pt b3),(8,I y7.2.2.2.2.1),(9,I y7.2.2.2.2.2),(10,Pt M)]) (fun ac j=>[.obj c 75 (.agg (.pair (Ri j.1) (.pair (I j.2.1) (.eq (.int .u64 j.2.2.1))))),.obj b1 25 (.agg (.pair (I 0) (.pair (.eq (.slice none 0 0)) (.eq (.slice none 0 0))))),.obj b3 25 (.agg (.pair (I r2.1) (.pair (.eq z8) (.eq (.slice none 0 0))))),.sl z8 27 aH y7.2.2.2.1,.obj M 27 (.agg (.pair (I s.1) (.eq ac))),.sl ac 3 (.int .i64) j.2.2.2]) h (fun K h=>?_) (fun ac j h=>?_))
    ·refine sr (cq (nt (ao ?_)));refine dN (SE.nil 3 (.int .i64)) ?_;refine aK (fun Q e=>[(0,Pt c),(2,I a2),(6,Pt b1),(7,Pt b3),(8,I y7.2.2.2.2.1),(9,I y7.2.2.2.2.2),(10,Pt M),(11,I e.2.2.2.2)]) (fun Q e=>[.obj c 75 (.agg (.pair (Ri e.1) (.pair (I e.2.1) (.eq (.int .u64 e.2.2.1))))),.obj b1 25 (.agg (.pair (I 0) (.pair (.eq (.slice none 0 0)) (.eq (.slice none 0 0))))),.obj b3 25 (.agg (.pair (I r2.1) (.pair (.eq z8) (.eq (.slice none 0 0))))),.sl z8 27 aH y7.2.2.2.1,.obj M 27 (.agg (.pair (I s.1) (.eq Q))),.sl Q 3 (.int .i64) e.2.2.2.1]) (eY k r2) k (.slice none 0 0) (s.2.1,s.2.2.1,s.2.2.2,([]:(List Int)),0) (fun _=>rfl) h (SE.fin [2,3,4,5,1,0] ⟨rfl,rfl,rfl,rfl,rfl,rfl,rfl,rfl,trivial⟩ rfl) (fun n Q e h=>?_);unfold eY at h;refine ae (sr (mq ?_));refine fl fp ?_;refine fr 2 ?_;refine lo cg ?_;refine jb (bj rfl) ?_;refine nt (ci h (fun h=>?_) (fun h=>?_))
     ·refine sk (aM (Z:=Value) (α:=(List Int)×Int×Int×(List Int)) (fun U x=>[(0,Pt c),(2,I a2),(6,Pt b1),(7,Pt b3),(8,I y7.2.2.2.2.1),(9,I y7.2.2.2.2.2),(10,Pt M),(11,I e.2.2.2.2)]) (fun U x=>[.obj c 75 (.agg (.pair (Ri x.1) (.pair (I x.2.1) (.eq (.int .u64 x.2.2.1))))),.obj b1 25 (.agg (.pair (I 0) (.pair (.eq (.slice none 0 0)) (.eq (.slice none 0 0))))),.obj b3 25 (.agg (.pair (I r2.1) (.pair (.eq z8) (.eq (.slice none 0 0))))),.sl z8 27 aH y7.2.2.2.1,.obj M 27 (.agg (.pair (I s.1) (.eq U))),.sl U 3 (.int .i64) x.2.2.2]) h (fun K h=>?_) (fun U x h=>?_))
      ·refine ao (sr (mq ?_));obtain⟨J,Uy,h⟩:=aa h;refine fr 1 ?_;refine kb (ar [.tmp 33,.const (.int .i64 (2))] rfl rfl Qd rfl (nz k (e.1,e.2.1,e.2.2.1) c 2 J Uy)) ?_;refine nt (cv h (fun h=>?_) (fun h=>?_))
       ·refine ab (fl j0 ?_);refine fr 4 ?_;refine lo bR ?_;refine mq ?_;refine ja (bp (t:=(.int .i64)) [(.tmp 37,_)] [e.2.2.2.2] rfl rfl dI (.cons rfl .int .nil) rfl rfl) ?_;obtain⟨U7,Ut,h⟩:=aa h;refine fr 5 ?_;refine c6 rfl rfl rfl (bH rfl rfl dI (aB Ut)) ⟨rfl,rfl,trivial⟩ fun UF=>?_;refine fl j0 ?_;refine om fun o22=>?_;refine fr 1 ?_;refine bf rfl rfl (a8 rfl bR o22 rfl rfl) ⟨rfl,rfl,trivial⟩ ?_;refine au (bn ?_);exact jz (UF,(J.2.1,J.2.2.1,J.2.2.2,e.2.2.2.1++[e.2.2.2.2])) h [2,4,3,5,0,1]
       ·refine aY (bn ?_);exact jz (Q,(J.2.1,J.2.2.1,J.2.2.2,e.2.2.2.1)) h [0,2,1,3,4,5]
      ·refine ab (mq ?_);obtain⟨UD,Up,h⟩:=aa h;refine jb (bg rfl Up) ?_;refine aq (nl ?_);exact jz (U,(x.1,x.2.1,x.2.2.1,x.2.2.2,UD)) h [0,1,2,3,4,5]
     ·refine xa ?_;exact jz (Q,(e.1,e.2.1,e.2.2.1,e.2.2.2.1)) h [1,2,0,3,4,5]
    ·refine jl 4 rfl ?_;refine jl 5 rfl ?_;refine dN (kF (off:=1) [] trivial rfl rfl) ?_;refine jm ?_;refine aI rfl rfl rfl (av rfl bU) ⟨rfl,trivial⟩ ?_;refine dn 3 rfl rfl rfl rfl (aj rfl eR jt rfl) ⟨rfl,trivial⟩ ?_;refine dn 0 rfl rfl rfl rfl (aj rfl gC (vX) rfl) ⟨rfl,trivial⟩ ?_;refine aI rfl rfl rfl (bp (t:=aH) [(.tmp 43,_)] [(s.1,j.2.2.2)] rfl rfl xN (.cons trivial (.agg (.pair .int .rep)) .nil) rfl rfl) ⟨rfl,trivial⟩ ?_;obtain⟨U6,Us,h⟩:=aa h;refine sJ 4 rfl (fun v=>[.sl v 27 aH (y7.2.2.2.1++[(s.1,j.2.2.2)])]) (fun _=>rfl) rfl rfl rfl (bH rfl rfl xN (aB Us)) ⟨rfl,rfl,trivial⟩ ?_;refine aI rfl rfl rfl (aL rfl) ⟨rfl,trivial⟩ ?_;refine aI rfl rfl rfl (av rfl kB) ⟨rfl,trivial⟩ ?_;refine dn 0 rfl rfl rfl rfl (aj rfl cg jt rfl) ⟨rfl,trivial⟩ ?_;obtain⟨UC,Uo,h⟩:=aa h;refine aI rfl rfl rfl (bg rfl Uo) ⟨rfl,rfl,trivial⟩ ?_;refine aI rfl rfl rfl (av rfl bU) ⟨rfl,trivial⟩ ?_;refine mo 10 [true,true,true,true,true,false,false,false,false,true] [] [0] [.obj M 27 (.agg (.pair (I s.1) (Ri j.2.2.2)))] rfl (by kernel_rfl) (by kernel_rfl) (by kernel_rfl) cD (fun vs hv hB=>?_);obtain⟨w0,U2,rfl,UO⟩:=ak hv;obtain⟨w1,U1,rfl,UN⟩:=ak UO;obtain⟨w2,U0,rfl,UM⟩:=ak UN;obtain⟨w3,UZ,rfl,UL⟩:=ak UM;obtain⟨se,UY,rfl,UK⟩:=ak UL;obtain⟨w5,UX,rfl,UJ⟩:=ak UK;obtain⟨w6,UW,rfl,UI⟩:=ak UJ;obtain⟨w7,UV,rfl,UH⟩:=ak UI;obtain⟨w8,UU,rfl,UG⟩:=ak UH;obtain⟨w9,US,rfl,Uk⟩:=ak UG;obtain rfl:=jW Uk;refine⟨[0,1,2,3,4],[.obj c 75 (.agg (.pair (Ri j.1) (.pair (I j.2.1) (.eq (.int .u64 j.2.2.1))))),.obj b1 25 (.agg (.pair (I 0) (.pair (.eq (.slice none 0 0)) (.eq (.slice none 0 0))))),.obj b3 25 (.agg (.pair (I r2.1) (.pair (.eq z8) (.eq (.slice none 0 0))))),.sl se 27 aH (y7.2.2.2.1++[(s.1,j.2.2.2)])],by kernel_rfl,by decide,?_⟩;refine iN 3 rfl ?_;refine C5 fun o27=>?_;refine iN 3 rfl ?_;refine oh rfl rfl (a8 rfl eR o27 rfl rfl) ⟨rfl,rfl,trivial⟩ (by kernel_rfl) ?_;refine C6 (by kernel_rfl) ?_;refine aq (au (bn ?_));exact jz (se,(j.1,j.2.1,j.2.2.1,y7.2.2.2.1++[(s.1,j.2.2.2)],UC)) h [3,4,1,2]
   ·refine ab (mq ?_);obtain⟨UB,Un,h⟩:=aa h;refine jb (fS rfl Un) ?_;refine aq (nl ?_);exact jz (X,(x9.1,x9.2.1,x9.2.2.1,x9.2.2.2.1,x9.2.2.2.2,UB)) h [0,1,2,3]
  ·refine xa ?_;exact jz (z8,(y7.1,y7.2.1,y7.2.2.1,y7.2.2.2.1,y7.2.2.2.2.1)) h [0,1,2,3]
 ·
  refine aM (Z:=Value) (α:=(List Int)×Int×Int×(List Int)) (fun O u=>[(0,Pt c),(6,Pt b1),(7,Pt b3),(8,I x4.2.2.2.2)]) (fun O u=>[.obj c 75 (.agg (.pair (Ri u.1) (.pair (I u.2.1) (.eq (.int .u64 u.2.2.1))))),.obj b1 25 (.agg (.pair (I 0) (.pair (.eq (.slice none 0 0)) (.eq (.slice none 0 0))))),.obj b3 25 (.agg (.pair (I r2.1) (.pair (.eq z5) (.eq O)))),.sl z5 27 aH x4.2.2.2.1,.sl O 3 (.int .i64) u.2.2.2]) h (fun K h=>?_) (fun O u h=>?_)
  ·refine sr ?_;iterate 2 refine mq ?_
   obtain⟨Y,Ux,h⟩:=aa h;refine kc (ar [.tmp 51,.const (.int .i64 (1)),.tmp 52] rfl rfl NR rfl (mf k (x4.1,x4.2.1,x4.2.2.1) c 1 a2 Y Ux)) ?_;refine aq (nt (ao ?_));refine dN (SE.nil 3 (.int .i64)) ?_;refine aK (fun E l=>[(0,Pt c),(6,Pt b1),(7,Pt b3),(8,I x4.2.2.2.2),(12,I l.2.2.2.2)]) (fun E l=>[.obj c 75 (.agg (.pair (Ri l.1) (.pair (I l.2.1) (.eq (.int .u64 l.2.2.1))))),.obj b1 25 (.agg (.pair (I 0) (.pair (.eq (.slice none 0 0)) (.eq (.slice none 0 0))))),.obj b3 25 (.agg (.pair (I r2.1) (.pair (.eq z5) (.eq E)))),.sl z5 27 aH x4.2.2.2.1,.sl E 3 (.int .i64) l.2.2.2.1]) (eX k x4) k (.slice none 0 0) (Y.2.1,Y.2.2.1,Y.2.2.2,([]:(List Int)),Y.1) (fun _=>rfl) h (SE.fin [1,2,3,4,0] ⟨rfl,rfl,rfl,rfl,rfl,trivial⟩ rfl) (fun n E l h=>?_);unfold eX at h;refine ae (sr (mq ?_));refine jb (ip rfl) ?_;refine nt (ci h (fun h=>?_) (fun h=>?_))
   ·refine sk (ae (ao (bO ?_)));refine da (av rfl cK) ?_;refine ea 2 (aj rfl bR jt rfl) ?_;refine dm ?_;refine dm ?_;refine db (Dw rfl rfl) ?_;refine dm ?_;obtain⟨qt,Um,h⟩:=aa h;refine db (bg rfl Um) ?_;refine db (Dw rfl rfl) ?_;refine dz rfl rfl rfl (bp (t:=(.int .i64)) [(.const (.int .i64 (1)),_),(.const (.int .i64 (2)),_),(.const (.int .i64 (3)),_),(.tmp 62,_),(.tmp 65,_)] [1,2,3,jZ 9 x4.2.2.2.2,jZ 9 qt] rfl rfl dI (.cons rfl .int (.cons rfl .int (.cons rfl .int (.cons rfl .int (.cons rfl .int .nil))))) rfl rfl) ⟨rfl,rfl,rfl,rfl,rfl,trivial⟩ ?_;obtain⟨D,Uw,h⟩:=aa h;refine LF 0 rfl rfl rfl rfl (ar [.tmp 60,.tmp 66] rfl rfl Qe rfl (pm k (l.1,l.2.1,l.2.2.1) c [1,2,3,jZ 9 x4.2.2.2.2,jZ 9 qt] D Uw)) ⟨rfl,rfl,trivial⟩ ?_;refine da (bp (t:=(.int .i64)) [(.tmp 67,_)] [D.1] rfl rfl dI (.cons rfl .int .nil) rfl rfl) ?_;refine LH (Δ':=[.obj b1 25 (.agg (.pair (I 0) (.pair (.eq (.slice none 0 0)) (.eq (.slice none 0 0))))),.obj b3 25 (.agg (.pair (I r2.1) (.pair (.eq z5) (.eq E)))),.sl z5 27 aH x4.2.2.2.1,.sl E 3 (.int .i64) l.2.2.2.1,.obj c 75 (.agg (.pair (Ri D.2.1) (.pair (I D.2.2.1) (.eq (.int .u64 D.2.2.2)))))]) (by kernel_rfl) cD (by kernel_rfl) ?_;obtain⟨U4,Ur,h⟩:=aa h;refine fr 3 ?_;refine c6 rfl rfl rfl (bH rfl rfl dI (aB Ur)) ⟨rfl,rfl,trivial⟩ fun UE=>?_;refine fl cK ?_;refine om fun o38=>?_;refine fr 2 ?_;refine bf rfl rfl (a8 rfl bR o38 rfl rfl) ⟨rfl,rfl,trivial⟩ ?_;refine au (aN (tn (ab (mq ?_))));obtain⟨UA,Ul,h⟩:=aa h;refine jb (fS rfl Ul) ?_;refine aq (nl ?_);exact jz (UE,(D.2.1,D.2.2.1,D.2.2.2,l.2.2.2.1++[D.1],UA)) h [4,2,0,3,1]
   ·refine xa ?_;exact jz (E,(l.1,l.2.1,l.2.2.1,l.2.2.2.1)) h [0,1,2,3,4]
  ·refine aM (Z:=Unit) (α:=(List Int)×(List Int)×Int×Int) (fun pp y=>[(6,Pt b1),(7,Pt b3)]) (fun pp y=>[.obj b1 25 (.agg (.pair (I 0) (.pair (.eq (.slice none 0 0)) (.eq (.slice none 0 0))))),.obj b3 25 (.agg (.pair (I r2.1) (.pair (.eq z5) (.eq O)))),.sl z5 27 aH x4.2.2.2.1,.sl O 3 (.int .i64) y.1,.obj c 75 (.agg (.pair (Ri y.2.1) (.pair (I y.2.2.1) (.eq (.int .u64 y.2.2.2)))))]) h (fun K h=>?_) (fun pp y h=>?_)
   ·refine sr (mq ?_);obtain⟨F,Uu,h⟩:=aa h;refine kb (ar [.tmp 71,.const (.int .i64 (2))] rfl rfl Qd rfl (nz k (u.1,u.2.1,u.2.2.1) c 2 F Uu)) ?_;refine nt (cv h (fun h=>?_) (fun h=>?_))
    ·refine ab (fl cK ?_);refine fr 2 ?_;refine lo bR ?_;refine mq ?_;refine jb (Dw rfl rfl) ?_;obtain⟨UT,mc,h⟩:=aa h;refine fr 4 ?_;refine kb (aZ (t:=(.int .i64)) rfl dA cg mc) ?_;refine bf rfl rfl (cF (i:=Int.toNat 0) rfl cg rfl (gf mc) rfl .int rfl) ⟨rfl,rfl,trivial⟩ ?_;refine nl ?_;exact jz ((),(List.set u.2.2.2 (Int.toNat 0) (jZ 9 x4.2.2.2.2),F.2.1,F.2.2.1,F.2.2.2)) h [3,1,4,0,2]
    ·refine aY (ag ?_);exact jz ((),(u.2.2.2,F.2.1,F.2.2.1,F.2.2.2)) h [1,2,3,4,0]
   ·refine sr (fr 1 ?_);refine fr 2 ?_;refine cC (kF (off:=1) [] trivial rfl rfl) ?_;refine fr 2 ?_;refine cC (kF (off:=2) [] trivial rfl rfl) ?_;refine lo cJ ?_;refine fr 1 ?_;refine bf rfl rfl (a8 rfl cJ trivial rfl rfl) ⟨rfl,rfl,trivial⟩ ?_;refine nt (aA (bv (og (a:=.agg (.pair (I r2.1) (.pair (Rs aH x4.2.2.2.1) (Ri y.1)))) (a':=.rep ap (r2.1,x4.2.2.2.1,y.1)) (vW (.agg (.pair .int (.pair .rep .rep))))) ?_));refine bv (SE.fin (Γ':=[(6,_)]) [2,0,1] ⟨rfl,trivial⟩ rfl) ?_;cases h;exact aQ () [.rep ap (r2.1,x4.2.2.2.1,y.1)] 1 ⟨⟨_,_,_,_,_,rfl,(.tail _ (.head _)),cJ,(vX),rfl⟩,trivial⟩ rfl
def eD(k:Nat)(a1:Int):Nat→((List Int)×Int×Int×(List Int)×Int)→Option ((List Int)×(List Int)×Int×Int)
 |0,_=>none
 |n+1,y3=>
  if y3.2.2.2.2 < a1 then((dX k (y3.1,y3.2.1,y3.2.2.1) y3.2.2.2.2).bind fun r5=>
  (dy (bM (List.length y3.2.2.2.1+List.length [y3.2.2.2.2]))).bind fun _=>
  (aS (y3.2.2.2.1++[y3.2.2.2.2]) r5.1).bind fun x8=>
  (aS (y3.2.2.2.1++[y3.2.2.2.2]) y3.2.2.2.2).bind fun x9=>
  (aS (List.set (y3.2.2.2.1++[y3.2.2.2.2]) (Int.toNat y3.2.2.2.2) x8) r5.1).bind fun e=>
  (ck (y3.2.2.2.2+1)).bind fun c=>
  eD k a1 n (r5.2.1,r5.2.2.1,r5.2.2.2,List.set (List.set (y3.2.2.2.1++[y3.2.2.2.2]) (Int.toNat y3.2.2.2.2) x8) (Int.toNat r5.1) y3.2.2.2.2,c)) else(some (y3.2.2.2.1,y3.1,y3.2.1,y3.2.2.1))
def gy(k:Nat)(a0:bW)(a1:Int):Option ((List Int)×bW):=
 ((eD k a1 k (a0.1,a0.2.1,a0.2.2,([]:(List Int)),0)):Option ((List Int)×(List Int)×Int×Int)).bind fun x1=>
 some (x1.1,(x1.2.1,x1.2.2.1,x1.2.2.2))
theorem rY(k:Nat)(a0:bW)(c:Nat)(a1:Int)(r:(List Int)×bW)(h:gy k a0 a1=some r):
 bZ Tryz.prog 97 [Pt c,I a1] [.obj c 75 (.agg (.pair (Ri a0.1) (.pair (I a0.2.1) (.eq (.int .u64 a0.2.2)))))] (fun _:Unit=>(bu [Ri r.1],[.obj c 75 (.agg (.pair (Ri r.2.1) (.pair (I r.2.2.1) (.eq (.int .u64 r.2.2.2)))))])):=by
 unfold gy at h
 replace h:=bb h
 refine bZ.of 32 Tryz.func97 rfl Tryz.ntmps97 rfl fun S w0=>?_
 refine sr ?_
 refine cq ?_
 refine nt ?_
 refine sr ?_
 refine cq ?_
 refine nt ?_
 refine aM (Z:=Value) (α:=(List Int)×(List Int)×Int×Int) (fun z2 x1=>[(5,.eq z2)]) (fun z2 x1=>[.sl z2 3 (.int .i64) x1.1,.obj c 75 (.agg (.pair (Ri x1.2.1) (.pair (I x1.2.2.1) (.eq (.int .u64 x1.2.2.2)))))]) h (fun K h=>?_) (fun z2 x1 h=>?_)
 ·
  refine sr (cq (nt (ao ?_)));refine dN (SE.nil 3 (.int .i64)) ?_;refine aK (fun z4 y3=>[(0,Pt c),(1,I a1),(5,.eq z4),(6,I y3.2.2.2.2)]) (fun z4 y3=>[.obj c 75 (.agg (.pair (Ri y3.1) (.pair (I y3.2.1) (.eq (.int .u64 y3.2.2.1))))),.sl z4 3 (.int .i64) y3.2.2.2.1]) (eD k a1) k (.slice none 0 0) (a0.1,a0.2.1,a0.2.2,([]:(List Int)),0) (fun _=>rfl) h (SE.fin [1,0] ⟨rfl,rfl,rfl,rfl,trivial⟩ rfl) (fun n z4 y3 h=>?_);unfold eD at h;refine ae (sr ?_);iterate 2 refine mq ?_
  refine jb (bj rfl) ?_;refine nt (ci h (fun h=>?_) (fun h=>?_))
  ·refine sk (ae (ao (sr ?_)));iterate 2 refine mq ?_
   obtain⟨r5,y,h⟩:=aa h;refine kb (ar [.tmp 13,.tmp 14] rfl rfl IA rfl (gx k (y3.1,y3.2.1,y3.2.2.1) c y3.2.2.2.2 r5 y)) ?_;refine aq (nt (sr ?_));iterate 2 refine mq ?_
   refine ja (bp (t:=(.int .i64)) [(.tmp 17,_)] [y3.2.2.2.2] rfl rfl dI (.cons rfl .int .nil) rfl rfl) ?_;obtain⟨u6,x,h⟩:=aa h;refine fr 1 ?_;refine c6 rfl rfl rfl (bH rfl rfl dI (aB x)) ⟨rfl,rfl,trivial⟩ fun v7=>?_;refine aq (nt (ab ?_));iterate 6 refine mq ?_
   obtain⟨x8,l,h⟩:=aa h;refine kb (aZ (t:=(.int .i64)) rfl dA cg l) ?_;refine ka (dG (i:=Int.toNat r5.1) (off:=0) rfl cg (fun _=>rfl) rfl (cm l).2.2 rfl) ?_;refine mq ?_;obtain⟨x9,j,h⟩:=aa h;refine kb (aZ (t:=(.int .i64)) rfl dA cg j) ?_;refine bf rfl rfl (cF (i:=Int.toNat y3.2.2.2.2) rfl cg rfl (gf j) rfl .int rfl) ⟨rfl,rfl,trivial⟩ ?_;obtain⟨D,e,h⟩:=aa h;refine kb (aZ (t:=(.int .i64)) rfl dA cg e) ?_;refine bf rfl rfl (cF (i:=Int.toNat r5.1) rfl cg rfl (gf e) rfl .int rfl) ⟨rfl,rfl,trivial⟩ ?_;refine au (aN (tn (ab (mq ?_))));obtain⟨u,s,h⟩:=aa h;refine jb (bg rfl s) ?_;refine aq (nl ?_);exact jz (v7,(r5.2.1,r5.2.2.1,r5.2.2.2,List.set (List.set (y3.2.2.2.1++[y3.2.2.2.2]) (Int.toNat y3.2.2.2.2) x8) (Int.toNat r5.1) y3.2.2.2.2,u)) h [1,0]
  ·refine xa ?_;exact jz (z4,(y3.2.2.2.1,y3.1,y3.2.1,y3.2.2.1)) h [1,0]
 ·
  refine sr (mq ?_);refine aq (nt (aA ?_));refine bv (eK [4,5,31] ⟨rfl,rfl,rfl,trivial⟩) ?_;cases h;exact aQ () [_] 1 ⟨rfl,trivial⟩ rfl
def pj(k:Nat)(a0:Int)(a1:Int):Option Int:=
 (dy (a1≠0)).bind fun _=>
 (ck ((Int.tmod a0 a1)+a1)).bind fun x2=>
 (dy (a1≠0)).bind fun _=>
 some (Int.tmod x2 a1)
theorem Aq(k:Nat)(a0:Int)(a1:Int)(r:Int)(h:pj k a0 a1=some r):
 bZ Tryz.prog 98 [I a0,I a1] [] (fun _:Unit=>(bu [I r],[])):=by
 unfold pj at h
 replace h:=bb h
 refine bZ.of 12 Tryz.func98 rfl Tryz.ntmps98 rfl fun S w0=>?_
 refine sr ?_
 refine cq ?_
 refine nt ?_
 refine sr ?_
 iterate 2 refine mq ?_
 obtain⟨u1,j,h⟩:=aa h
 refine jb (G8 rfl (aB j)) ?_
 refine mq ?_
 obtain⟨x2,c,h⟩:=aa h
 refine jb (bg rfl c) ?_
 refine mq ?_
 obtain⟨u3,e,h⟩:=aa h
 refine jb (G8 rfl (aB e)) ?_
 refine aq ?_
 refine nt ?_
 refine aA ?_
 cases h
 exact ra
def dt(k:Nat)(a1:aP)(r7:(List Int)×bW)(c:(List Int)×Int×Int×(List Int)×Int×(List (List Int)))(e:Int×bW):Nat→(Int×(List (List Int)))→Option ((List Int)×Int×Int×(List Int)×(List (List Int)))
 |0,_=>none
 |n+1,h=>
  if h.1 < (c.2.2.2.1.length:Int) then((ck (e.1+h.1)).bind fun O=>
  (pj k O (c.2.2.2.1.length:Int)).bind fun j=>
  (((aS c.2.2.2.1 j).bind fun M=>
  (aS r7.1 c.2.2.2.2.1).bind fun J=>
  (aS a1.2.1 J).bind fun I=>
  if I.1≤M then(some (true,h.2)) else((ck ((c.2.2.2.1.length:Int) - 1)).bind fun F=>
  some (decide (h.1=F),h.2))):Option (Bool×(List (List Int)))).bind fun l=>
  if l.1=true then((aS l.2 j).bind fun s=>
  (aS r7.1 c.2.2.2.2.1).bind fun r=>
  (dy (bM (List.length s+List.length [r]))).bind fun _=>
  (aS c.2.2.2.1 j).bind fun E=>
  (aS r7.1 c.2.2.2.2.1).bind fun D=>
  (aS a1.2.1 D).bind fun y=>
  (ck (E - y.1)).bind fun x=>
  (aS c.2.2.2.1 j).bind fun Q=>
  some (e.2.1,e.2.2.1,e.2.2.2,List.set c.2.2.2.1 (Int.toNat j) x,List.set l.2 (Int.toNat j) (s++[r]))) else((ck (h.1+1)).bind fun u=>
  dt k a1 r7 c e n (u,l.2))) else(some (e.2.1,e.2.2.1,e.2.2.2,c.2.2.2.1,h.2))
def fj(k:Nat)(a1:aP)(r7:(List Int)×bW):Nat→((List Int)×Int×Int×(List Int)×Int×(List (List Int)))→Option ((List Int)×Int×Int×(List (List Int)))
 |0,_=>none
 |n+1,c=>
  if c.2.2.2.2.1 < (r7.1.length:Int) then((((ck ((c.2.2.2.1.length:Int) - 1)).bind fun j=>
  (dX k (c.1,c.2.1,c.2.2.1) j).bind fun l=>
  dt k a1 r7 c l k (0,c.2.2.2.2.2)):Option ((List Int)×Int×Int×(List Int)×(List (List Int)))).bind fun e=>
  (ck (c.2.2.2.2.1+1)).bind fun h=>
  fj k a1 r7 n (e.1,e.2.1,e.2.2.1,e.2.2.2.1,h,e.2.2.2.2)) else(some (c.1,c.2.1,c.2.2.1,c.2.2.2.2.2))
def fa(k:Nat)(a0:bW)(a1:aP):Option ((List (List Int))×bW):=
 (dy (0≤(a1.2.2.length:Int)∧bM (Int.toNat (a1.2.2.length:Int)))).bind fun _=>
 (dy (bM (List.length ([]:(List Int))+List.length a1.2.2))).bind fun _=>
 (gy k (a0.1,a0.2.1,a0.2.2) (a1.2.1.length:Int)).bind fun r7=>
 ((fj k a1 r7 k (r7.2.1,r7.2.2.1,r7.2.2.2,([]:(List Int))++a1.2.2,0,List.replicate (Int.toNat (a1.2.2.length:Int)) ([]:(List Int)))):Option ((List Int)×Int×Int×(List (List Int)))).bind fun x8=>
 some (x8.2.2.2,(x8.1,x8.2.1,x8.2.2.1))
theorem ny(k:Nat)(a0:bW)(e:Nat)(a1:aP)(r:(List (List Int))×bW)(h:fa k a0 a1=some r):
 bZ Tryz.prog 51 [Pt e,.rep ap a1] [.obj e 75 (.agg (.pair (Ri a0.1) (.pair (I a0.2.1) (.eq (.int .u64 a0.2.2)))))] (fun _:Unit=>(bu [.rep (.slice (.slice (.int .i64))) r.1],[.obj e 75 (.agg (.pair (Ri r.2.1) (.pair (I r.2.2.1) (.eq (.int .u64 r.2.2.2)))))])):=by
 unfold fa at h
 replace h:=bb h
 refine bZ.of 100 Tryz.func51 rfl Tryz.ntmps51 rfl fun S w0=>?_
 refine sr ?_
 refine bx fun b1=>?_
 refine cq ?_
 refine nt ?_
 refine sr ?_
 refine fl cK ?_
 refine lo bR ?_
 refine ol dA ?_
 obtain⟨u2,UP,h⟩:=aa h
 refine aD rfl rfl rfl (ye (t:=.val) (d:=.slice none 0 0) rfl oV OF (aB UP).1 (aB UP).2) ⟨rfl,rfl,trivial⟩ fun v3=>?_
 refine cC (AZ (F:=[.obj b1 25 (.rep ap a1),.obj e 75 (.agg (.pair (Ri a0.1) (.pair (I a0.2.1) (.eq (.int .u64 a0.2.2)))))])) ?_
 refine aq ?_
 refine nt ?_
 refine sr ?_
 refine aD rfl rfl rfl (l8 (t:=(.int .i64)) [] ([]:(List Int)) rfl rfl dI .nil rfl rfl) trivial fun v4=>?_
 refine fl cK ?_
 refine fr 1 ?_
 refine lo bR ?_
 obtain⟨u5,U8,h⟩:=aa h
 refine fr 1 ?_
 refine c6 rfl rfl rfl (bH rfl rfl dI (aB U8)) ⟨rfl,rfl,trivial⟩ fun v6=>?_
 refine aq ?_
 refine nt ?_
 refine sr ?_
 refine mq ?_
 refine fl bU ?_
 refine fr 1 ?_
 refine lo eR ?_
 refine ol mB ?_
 obtain⟨r7,Va,h⟩:=aa h
 have Vb:=rY k (a0.1,a0.2.1,a0.2.2) e (a1.2.1.length:Int) r7 Va
 refine fr 2 ?_
 refine kb (ar [.tmp 20,.tmp 23] rfl rfl SD rfl Vb) ?_
 refine aq ?_
 refine nt ?_
 refine aM (Z:=(Value×(Nat→Value))) (α:=(List Int)×Int×Int×(List (List Int))) (fun z9 x8=>[(5,.eq z9.1)]) (fun z9 x8=>[.obj e 75 (.agg (.pair (Ri x8.1) (.pair (I x8.2.1) (.eq (.int .u64 x8.2.2.1)))))]++fB 23 z9 x8.2.2.2) h (fun K h=>?_) (fun z9 x8 h=>?_)
 ·
  refine sr (cq (nt (ao ?_)));refine aK (Z:=(Value×(Nat→Value))) (α:=(List Int)×Int×Int×(List Int)×Int×(List (List Int))) (fun Q j=>[(0,Pt e),(3,Pt b1),(5,.eq Q.1),(6,.eq v6),(7,Ri r7.1),(8,I j.2.2.2.2.1)]) (fun Q j=>[.obj e 75 (.agg (.pair (Ri j.1) (.pair (I j.2.1) (.eq (.int .u64 j.2.2.1))))),.obj b1 25 (.rep ap a1),.sl v6 3 (.int .i64) j.2.2.2.1]++fB 23 Q j.2.2.2.2.2) (fj k a1 r7) k (v3,fun _=>.slice none 0 0) (r7.2.1,r7.2.2.1,r7.2.2.2,([]:(List Int))++a1.2.2,0,List.replicate (Int.toNat (a1.2.2.length:Int)) ([]:(List Int))) (fun _=>rfl) h (bq [.obj e 75 (.agg (.pair (Ri r7.2.1) (.pair (I r7.2.2.1) (.eq (.int .u64 r7.2.2.2))))),.obj b1 25 (.rep ap a1),.sl v6 3 (.int .i64) (([]:(List Int))++a1.2.2)] (fB 23 (v3,fun _=>.slice none 0 0) (List.replicate (Int.toNat (a1.2.2.length:Int)) ([]:(List Int)))) [0,1,2] ⟨rfl,rfl,rfl,rfl,rfl,rfl,trivial⟩ rfl) (fun n Q j h=>?_);unfold fj at h;refine ae (sr ?_);iterate 2 refine mq ?_
  refine ol dA ?_;refine jb (bj rfl) ?_;refine nt (ci h (fun h=>?_) (fun h=>?_))
  ·refine sk (aM (Z:=(Value×(Nat→Value))) (α:=(List Int)×Int×Int×(List Int)×(List (List Int))) (fun X u=>[(0,Pt e),(3,Pt b1),(5,.eq X.1),(6,.eq v6),(7,Ri r7.1),(8,I j.2.2.2.2.1)]) (fun X u=>[.obj e 75 (.agg (.pair (Ri u.1) (.pair (I u.2.1) (.eq (.int .u64 u.2.2.1))))),.obj b1 25 (.rep ap a1),.sl v6 3 (.int .i64) u.2.2.2.1]++fB 23 X u.2.2.2.2) h (fun K h=>?_) (fun X u h=>?_))
   ·refine ao (sr ?_);iterate 2 refine mq ?_
    refine fr 2 ?_;refine ka (cY rfl rfl dA) ?_;obtain⟨UW,UN,h⟩:=aa h;refine jb (fS rfl UN) ?_;obtain⟨c,UR,h⟩:=aa h;refine fr 1 ?_;refine kb (ar [.tmp 31,.tmp 34] rfl rfl IA rfl (gx k (j.1,j.2.1,j.2.2.1) e UW c UR)) ?_;refine aq (nt (sr ?_));refine cq (nt (ao ?_));refine aK (Z:=(Value×(Nat→Value))) (α:=Int×(List (List Int))) (fun E y=>[(0,Pt e),(3,Pt b1),(5,.eq E.1),(6,.eq v6),(7,Ri r7.1),(8,I j.2.2.2.2.1),(9,I c.1),(10,I y.1)]) (fun E y=>[.obj e 75 (.agg (.pair (Ri c.2.1) (.pair (I c.2.2.1) (.eq (.int .u64 c.2.2.2))))),.obj b1 25 (.rep ap a1),.sl v6 3 (.int .i64) j.2.2.2.1]++fB 23 E y.2) (dt k a1 r7 j c) k Q (0,j.2.2.2.2.2) (fun _=>rfl) h (bq [.obj e 75 (.agg (.pair (Ri c.2.1) (.pair (I c.2.2.1) (.eq (.int .u64 c.2.2.2))))),.sl v6 3 (.int .i64) j.2.2.2.1,.obj b1 25 (.rep ap a1)] (fB 23 Q j.2.2.2.2.2) [0,2,1] ⟨rfl,rfl,rfl,rfl,rfl,rfl,rfl,rfl,trivial⟩ rfl) (fun n E y h=>?_);unfold dt at h;refine ae (sr ?_);iterate 2 refine mq ?_
    refine fr 2 ?_;refine ka (cY rfl rfl dA) ?_;refine jb (bj rfl) ?_;refine nt (ci h (fun h=>?_) (fun h=>?_))
    ·refine sk (ae (ao (sr ?_)));iterate 2 refine mq ?_
     obtain⟨UV,UM,h⟩:=aa h;refine jb (bg rfl UM) ?_;refine mq ?_;refine ka (cY rfl rfl dA) ?_;obtain⟨s,UQ,h⟩:=aa h;refine jb (ar [.tmp 44,.tmp 46] rfl rfl SC rfl (Aq k UV (j.2.2.2.1.length:Int) s UQ)) ?_;refine aq (nt ?_);refine aM (Z:=(Value×(Nat→Value))) (α:=Bool×(List (List Int))) (fun l x=>[(0,Pt e),(3,Pt b1),(5,.eq l.1),(6,.eq v6),(7,Ri r7.1),(8,I j.2.2.2.2.1),(9,I c.1),(10,I y.1),(11,I s),(68,.eq (.bool x.1))]) (fun l x=>[.obj e 75 (.agg (.pair (Ri c.2.1) (.pair (I c.2.2.1) (.eq (.int .u64 c.2.2.2))))),.obj b1 25 (.rep ap a1),.sl v6 3 (.int .i64) j.2.2.2.1]++fB 23 l x.2) h (fun K h=>?_) (fun l x h=>?_)
     ·refine bO ?_;refine dm ?_;refine dm ?_;obtain⟨VD,mc,h⟩:=aa h;refine eb 0 (aZ (t:=(.int .i64)) rfl dA cg mc) ?_;refine ea 0 (dG (i:=Int.toNat s) (off:=0) rfl cg (fun _=>rfl) rfl (cm mc).2.2 rfl) ?_;refine da (av rfl bU) ?_;refine ea 2 (aj rfl eR jt rfl) ?_;refine dm ?_;refine dm ?_;obtain⟨VC,UL,h⟩:=aa h;refine db (aF (t:=(.int .i64)) rfl dA cg UL) ?_;refine da (an (t:=(.int .i64)) rfl cg rfl) ?_;obtain⟨VB,UK,h⟩:=aa h;refine db (aF (t:=aH) rfl mB gC UK) ?_;refine da (aJ 1 false rfl kB rfl) ?_;refine da (an (t:=(.int .i64)) rfl cg rfl) ?_;refine db (qy rfl) ?_;refine kN rfl rfl rfl (aL rfl) ⟨rfl,trivial⟩ (fun hb=>?_) (fun hb=>?_)
      ·replace h:=cH (oD hb) h;iterate 4 refine dg ?_
       refine df cD ?_;refine gn ?_;refine pt (nl ?_);exact iW (E,(true,y.2)) h (bq [.sl v6 3 (.int .i64) j.2.2.2.1,.obj e 75 (.agg (.pair (Ri c.2.1) (.pair (I c.2.2.1) (.eq (.int .u64 c.2.2.2))))),.obj b1 25 (.rep ap a1)] (fB 23 E y.2) [1,2,0] ⟨rfl,rfl,rfl,rfl,rfl,rfl,rfl,rfl,rfl,rfl,trivial⟩ rfl)
      ·replace h:=bS (nI hb) h;refine aW rfl rfl rfl rfl rfl (aL rfl) ⟨rfl,rfl,trivial⟩ ?_;refine aW rfl rfl rfl rfl rfl (aL rfl) ⟨rfl,rfl,trivial⟩ ?_;refine kd 0 rfl rfl rfl rfl rfl rfl (cY rfl rfl dA) ⟨rfl,rfl,trivial⟩ ?_;obtain⟨UU,UJ,h⟩:=aa h;refine aW rfl rfl rfl rfl rfl (fS rfl UJ) ⟨rfl,rfl,rfl,trivial⟩ ?_;refine df cD ?_;refine gb (fU rfl) ?_;refine pf (nl ?_);exact iW (E,(decide (y.1=UU),y.2)) h (bq [.sl v6 3 (.int .i64) j.2.2.2.1,.obj e 75 (.agg (.pair (Ri c.2.1) (.pair (I c.2.2.1) (.eq (.int .u64 c.2.2.2))))),.obj b1 25 (.rep ap a1)] (fB 23 E y.2) [1,2,0] ⟨rfl,rfl,rfl,rfl,rfl,rfl,rfl,rfl,rfl,rfl,trivial⟩ rfl)
     ·refine cv h (fun h=>?_) (fun h=>?_)
      ·refine ae ?_;obtain⟨O,J,h⟩:=aa h;refine dN (tQ (pre:=[.obj e 75 (.agg (.pair (Ri c.2.1) (.pair (I c.2.2.1) (.eq (.int .u64 c.2.2.2))))),.obj b1 25 (.rep ap a1),.sl v6 3 (.int .i64) j.2.2.2.1]) (pX J).2) ?_;obtain⟨M,UI,h⟩:=aa h;obtain⟨V7,UO,h⟩:=aa h;obtain⟨VA,ac,h⟩:=aa h;obtain⟨Vz,UH,h⟩:=aa h;obtain⟨Vy,UG,h⟩:=aa h;obtain⟨U,UF,h⟩:=aa h;obtain⟨Vx,Y,h⟩:=aa h;refine sH (Δ:=[.sl (l.2 (Int.toNat s)) 3 (.int .i64) O,.sl l.1 23 .val (eA l.2 0 x.2),.obj e 75 (.agg (.pair (Ri c.2.1) (.pair (I c.2.2.1) (.eq (.int .u64 c.2.2.2))))),.obj b1 25 (.rep ap a1),.sl v6 3 (.int .i64) j.2.2.2.1]) (F:=(kM l.2 0 x.2).eraseIdx (Int.toNat s)) (Z:=Value) (fun i=>[(0,Pt e),(3,Pt b1),(5,.eq l.1),(6,.eq v6),(7,Ri r7.1),(8,I j.2.2.2.2.1)]) (fun i=>[.sl v6 3 (.int .i64) (List.set j.2.2.2.1 (Int.toNat s) U),.sl l.1 23 .val (List.set (eA l.2 0 x.2) (Int.toNat s) i),.sl i 3 (.int .i64) (O++[M]),.obj e 75 (.agg (.pair (Ri c.2.1) (.pair (I c.2.2.1) (.eq (.int .u64 c.2.2.2))))),.obj b1 25 (.rep ap a1)]) (fun S w=>?_) (fun D=>?_)
       ·refine jm ?_;refine aI rfl rfl rfl (aL rfl) ⟨rfl,trivial⟩ ?_;refine aI rfl rfl rfl (aL rfl) ⟨rfl,trivial⟩ ?_;refine aI rfl rfl rfl (aL rfl) ⟨rfl,trivial⟩ ?_;refine aI rfl rfl rfl (aL rfl) ⟨rfl,trivial⟩ ?_;refine aI rfl rfl rfl (aL rfl) ⟨rfl,trivial⟩ ?_;refine aI rfl rfl rfl (aL rfl) ⟨rfl,trivial⟩ ?_;refine dn 1 rfl rfl rfl rfl (aZ (t:=.val) rfl mA bR (kH J)) ⟨rfl,rfl,trivial⟩ ?_;refine dn 1 rfl rfl rfl rfl (dG (i:=Int.toNat s) (off:=0) rfl bR (fun _=>rfl) rfl (cm (kH J)).2.2 rfl) ⟨rfl,trivial⟩ ?_;refine aI rfl rfl rfl (aL rfl) ⟨rfl,trivial⟩ ?_;refine aI rfl rfl rfl (aL rfl) ⟨rfl,trivial⟩ ?_;refine aI rfl rfl rfl (aF (t:=(.int .i64)) rfl dA cg UI) ⟨rfl,rfl,trivial⟩ ?_;refine aI rfl rfl rfl (an (t:=(.int .i64)) rfl cg rfl) ⟨rfl,trivial⟩ ?_;refine aI rfl rfl rfl (bp (t:=(.int .i64)) [(.tmp 80,_)] [M] rfl rfl dI (.cons rfl .int .nil) rfl rfl) ⟨rfl,trivial⟩ ?_;refine sJ 0 rfl (fun v=>[.sl v 3 (.int .i64) (O++[M])]) (fun _=>rfl) rfl rfl rfl (bH rfl rfl dI (aB UO)) ⟨rfl,rfl,trivial⟩ ?_;refine aI rfl rfl rfl (aL rfl) ⟨rfl,trivial⟩ ?_;refine aI rfl rfl rfl (aL rfl) ⟨rfl,trivial⟩ ?_;refine dn 4 rfl rfl rfl rfl (aZ (t:=(.int .i64)) rfl dA cg ac) ⟨rfl,rfl,trivial⟩ ?_;refine dn 4 rfl rfl rfl rfl (dG (i:=Int.toNat s) (off:=0) rfl cg (fun _=>rfl) rfl (cm ac).2.2 rfl) ⟨rfl,trivial⟩ ?_;refine aI rfl rfl rfl (av rfl bU) ⟨rfl,trivial⟩ ?_;refine dn 3 rfl rfl rfl rfl (aj rfl eR jt rfl) ⟨rfl,trivial⟩ ?_;refine aI rfl rfl rfl (aL rfl) ⟨rfl,trivial⟩ ?_;refine aI rfl rfl rfl (aL rfl) ⟨rfl,trivial⟩ ?_;refine aI rfl rfl rfl (aF (t:=(.int .i64)) rfl dA cg UH) ⟨rfl,rfl,trivial⟩ ?_;refine aI rfl rfl rfl (an (t:=(.int .i64)) rfl cg rfl) ⟨rfl,trivial⟩ ?_;refine aI rfl rfl rfl (aF (t:=aH) rfl mB gC UG) ⟨rfl,rfl,trivial⟩ ?_;refine aI rfl rfl rfl (aJ 1 false rfl kB rfl) ⟨rfl,trivial⟩ ?_;refine aI rfl rfl rfl (an (t:=(.int .i64)) rfl cg rfl) ⟨rfl,trivial⟩ ?_;refine aI rfl rfl rfl (fS rfl UF) ⟨rfl,rfl,trivial⟩ ?_;refine dn 1 rfl rfl rfl rfl (aZ (t:=.val) rfl mA bR (kH J)) ⟨rfl,rfl,trivial⟩ ?_;refine mo 29 [true,true,false,false,true,true,true,true,true,true,true,true,true,true,true,true,true,true,true,true,true,true,true,true,true,true,true,false,true] [98] [] [] rfl (by kernel_rfl) (by kernel_rfl) (by kernel_rfl) cD (fun vs hv hB=>?_);obtain⟨w0,V6,rfl,U7⟩:=ak hv;obtain⟨w1,V5,rfl,U6⟩:=ak U7;obtain⟨w2,V4,rfl,U4⟩:=ak U6;obtain⟨w3,V3,rfl,U2⟩:=ak U4;obtain⟨w4,V2,rfl,U1⟩:=ak U2;obtain⟨w5,V1,rfl,U0⟩:=ak U1;obtain⟨w6,V0,rfl,UZ⟩:=ak U0;obtain⟨w7,VZ,rfl,UY⟩:=ak UZ;obtain⟨w8,VY,rfl,UX⟩:=ak UY;obtain⟨w9,Vw,rfl,UC⟩:=ak UX;obtain⟨VX,Vv,rfl,UB⟩:=ak UC;obtain⟨VV,Vu,rfl,UA⟩:=ak UB;obtain⟨VU,Vt,rfl,Uz⟩:=ak UA;obtain⟨D,Vs,rfl,Uy⟩:=ak Uz;obtain⟨VT,Vr,rfl,Ux⟩:=ak Uy;obtain⟨VS,Vq,rfl,Uw⟩:=ak Ux;obtain⟨VQ,Vp,rfl,Uu⟩:=ak Uw;obtain⟨VP,Vo,rfl,Ut⟩:=ak Uu;obtain⟨VO,Vn,rfl,Us⟩:=ak Ut;obtain⟨VN,Vm,rfl,Ur⟩:=ak Us;obtain⟨VM,Vl,rfl,Up⟩:=ak Ur;obtain⟨VL,Vk,rfl,Uo⟩:=ak Up;obtain⟨VK,Vj,rfl,Un⟩:=ak Uo;obtain⟨VJ,Vi,rfl,Um⟩:=ak Un;obtain⟨VI,Vh,rfl,Ul⟩:=ak Um;obtain⟨VH,Vg,rfl,Uk⟩:=ak Ul;obtain⟨VG,Vf,rfl,se⟩:=ak Uk
        obtain⟨VF,Ve,rfl,qt⟩:=ak se;obtain⟨VE,Vd,rfl,pp⟩:=ak qt;obtain rfl:=jW pp;refine⟨[0,1,2,3,4],[.sl l.1 23 .val (eA l.2 0 x.2),.obj e 75 (.agg (.pair (Ri c.2.1) (.pair (I c.2.2.1) (.eq (.int .u64 c.2.2.2))))),.obj b1 25 (.rep ap a1),.sl v6 3 (.int .i64) j.2.2.2.1,.sl D 3 (.int .i64) (O++[M])],by kernel_rfl,by decide,?_⟩;refine iN 4 rfl ?_;refine C5 fun o34=>?_;refine iN 1 rfl ?_;refine oh rfl rfl (cF (i:=Int.toNat s) rfl bR rfl (gf (kH J)) rfl (.val o34) o34) ⟨rfl,rfl,trivial⟩ (by kernel_rfl) ?_;refine iN 4 rfl ?_;refine vS rfl rfl rfl rfl (aZ (t:=(.int .i64)) rfl dA cg Y) ⟨rfl,rfl,trivial⟩ (by kernel_rfl) ?_;refine oh rfl rfl (cF (i:=Int.toNat s) rfl cg rfl (gf Y) rfl .int rfl) ⟨rfl,rfl,trivial⟩ (by kernel_rfl) ?_;refine pG ?_;refine bv (SE.fin (Γ':=[(0,Pt e),(3,Pt b1),(5,.eq l.1),(6,.eq v6),(7,Ri r7.1),(8,I j.2.2.2.2.1)]) (Δ':=[.sl v6 3 (.int .i64) (List.set j.2.2.2.1 (Int.toNat s) U),.sl l.1 23 .val (List.set (eA l.2 0 x.2) (Int.toNat s) D),.sl D 3 (.int .i64) (O++[M]),.obj e 75 (.agg (.pair (Ri c.2.1) (.pair (I c.2.2.1) (.eq (.int .u64 c.2.2.2))))),.obj b1 25 (.rep ap a1)]) [0,1,2,3,4] ⟨rfl,rfl,rfl,rfl,rfl,rfl,trivial⟩ rfl) ?_;exact fun a w st=>⟨rfl,(D),(SE.fin (Γ':=[(0,Pt e),(3,Pt b1),(5,.eq l.1),(6,.eq v6),(7,Ri r7.1),(8,I j.2.2.2.2.1)]) (Δ':=[.sl v6 3 (.int .i64) (List.set j.2.2.2.1 (Int.toNat s) U),.sl l.1 23 .val (List.set (eA l.2 0 x.2) (Int.toNat s) D),.sl D 3 (.int .i64) (O++[M]),.obj e 75 (.agg (.pair (Ri c.2.1) (.pair (I c.2.2.1) (.eq (.int .u64 c.2.2.2))))),.obj b1 25 (.rep ap a1)]) [0,1,2,3,4] ⟨rfl,rfl,rfl,rfl,rfl,rfl,trivial⟩ rfl) a w st⟩
       ·show JN _ _ [(0,Pt e),(3,Pt b1),(5,.eq l.1),(6,.eq v6),(7,Ri r7.1),(8,I j.2.2.2.2.1)] ([.sl v6 3 (.int .i64) (List.set j.2.2.2.1 (Int.toNat s) U),.sl l.1 23 .val (List.set (eA l.2 0 x.2) (Int.toNat s) D),.sl D 3 (.int .i64) (O++[M]),.obj e 75 (.agg (.pair (Ri c.2.1) (.pair (I c.2.2.1) (.eq (.int .u64 c.2.2.2))))),.obj b1 25 (.rep ap a1)]++(kM l.2 0 x.2).eraseIdx (Int.toNat s));refine dk 1 rfl ?_;refine dk 2 rfl ?_;refine bv (vP (pre:=[.sl v6 3 (.int .i64) (List.set j.2.2.2.1 (Int.toNat s) U),.obj e 75 (.agg (.pair (Ri c.2.1) (.pair (I c.2.2.1) (.eq (.int .u64 c.2.2.2))))),.obj b1 25 (.rep ap a1)]) (z:=l) (i:=Int.toNat s) (pX J).2) ?_;refine tn (dF (A6 (eq_false (by decide)) ?_));refine aU (aU (bY (bn ?_)));exact iW ((l.1,ni l.2 (Int.toNat s) D),(c.2.1,c.2.2.1,c.2.2.2,List.set j.2.2.2.1 (Int.toNat s) U,List.set x.2 (Int.toNat s) (O++[M]))) h (bq [.sl v6 3 (.int .i64) (List.set j.2.2.2.1 (Int.toNat s) U),.obj e 75 (.agg (.pair (Ri c.2.1) (.pair (I c.2.2.1) (.eq (.int .u64 c.2.2.2))))),.obj b1 25 (.rep ap a1)] (fB 23 (l.1,ni l.2 (Int.toNat s) D) (List.set x.2 (Int.toNat s) (O++[M]))) [1,2,0] ⟨rfl,rfl,rfl,rfl,rfl,rfl,trivial⟩ rfl)
      ·refine aY (aN (tn (ab (mq ?_))));obtain⟨UT,UE,h⟩:=aa h;refine jb (bg rfl UE) ?_;refine aq (nl ?_);exact iW (l,(UT,x.2)) h (bq [.obj e 75 (.agg (.pair (Ri c.2.1) (.pair (I c.2.2.1) (.eq (.int .u64 c.2.2.2))))),.obj b1 25 (.rep ap a1),.sl v6 3 (.int .i64) j.2.2.2.1] (fB 23 l x.2) [0,1,2] ⟨rfl,rfl,rfl,rfl,rfl,rfl,rfl,rfl,trivial⟩ rfl)
    ·refine dF (aU (aU (bY (bn ?_))));exact iW (E,(c.2.1,c.2.2.1,c.2.2.2,j.2.2.2.1,y.2)) h (bq [.sl v6 3 (.int .i64) j.2.2.2.1,.obj e 75 (.agg (.pair (Ri c.2.1) (.pair (I c.2.2.1) (.eq (.int .u64 c.2.2.2))))),.obj b1 25 (.rep ap a1)] (fB 23 E y.2) [1,2,0] ⟨rfl,rfl,rfl,rfl,rfl,rfl,trivial⟩ rfl)
   ·refine ab (mq ?_);obtain⟨US,UD,h⟩:=aa h;refine jb (bg rfl UD) ?_;refine aq (nl ?_);exact iW (X,(u.1,u.2.1,u.2.2.1,u.2.2.2.1,US,u.2.2.2.2)) h (bq [.obj e 75 (.agg (.pair (Ri u.1) (.pair (I u.2.1) (.eq (.int .u64 u.2.2.1))))),.obj b1 25 (.rep ap a1),.sl v6 3 (.int .i64) u.2.2.2.1] (fB 23 X u.2.2.2.2) [0,1,2] ⟨rfl,rfl,rfl,rfl,rfl,rfl,trivial⟩ rfl)
  ·refine xa ?_;exact iW (Q,(j.1,j.2.1,j.2.2.1,j.2.2.2.2.2)) h (bq [.obj e 75 (.agg (.pair (Ri j.1) (.pair (I j.2.1) (.eq (.int .u64 j.2.2.1))))),.obj b1 25 (.rep ap a1),.sl v6 3 (.int .i64) j.2.2.2.1] (fB 23 Q j.2.2.2.2.2) [0] ⟨rfl,trivial⟩ rfl)
 ·
  refine sr (mq ?_);refine aq (nt (aA ?_));refine bv (A0 (pre:=[.obj e 75 (.agg (.pair (Ri x8.1) (.pair (I x8.2.1) (.eq (.int .u64 x8.2.2.1)))))])) ?_;refine bv (eK [4,5,99] ⟨rfl,rfl,rfl,trivial⟩) ?_;cases h;exact aQ () [_] 1 ⟨rfl,trivial⟩ rfl
def g8(k:Nat)(a0:Int)(a1:Int)(a2:Int):Option Bool:=
 ((if a1≤a0 then(some (decide (a0≤a2))) else(some false)):Option (Bool)).bind fun x1=>
 some x1
theorem jf(k:Nat)(a0:Int)(a1:Int)(a2:Int)(r:Bool)(h:g8 k a0 a1 a2=some r):
 bZ Tryz.prog 60 [I a0,I a1,I a2] [] (fun _:Unit=>(bu [.eq (.bool r)],[])):=by
 unfold g8 at h
 replace h:=bb h
 refine bZ.of 15 Tryz.func60 rfl Tryz.ntmps60 rfl fun S w0=>?_
 refine sr ?_
 refine cq ?_
 refine nt ?_
 refine aM (Z:=Unit) (α:=Bool) (fun z2 x1=>[(6,.eq (.bool x1))]) (fun z2 x1=>[]) h (fun K h=>?_) (fun z2 x1 h=>?_)
 ·
  refine ab ?_;iterate 2 refine mq ?_
  refine jb (qy rfl) ?_;refine mq ?_;refine ct (s:=10) rfl (fun hb=>?_) (fun hb=>?_)
  ·replace h:=cH (oD hb) h;refine gm ?_;refine gm ?_;refine gb (vk rfl) ?_;refine pt ?_;refine aq (nl ?_);exact jz ((),decide (a0≤a2)) h []
  ·replace h:=bS (nI hb) h;iterate 3 refine gn ?_
   refine pf ?_;refine aq (nl ?_);exact jz ((),false) h []
 ·
  refine aA ?_;cases h;exact ra
def fQ(k:Nat)(a0:aP)(e:eF):Nat→Int→Option (Except Int Unit)
 |0,_=>none
 |n+1,c=>
  if c < (e.2.length:Int) then((aS e.2 c).bind fun x=>
  (ck (a0.1 - 1)).bind fun u=>
  (g8 k x 0 u).bind fun y=>
  if¬(y=true) then(some (.error 1)) else(((if 0 < c then((aS e.2 c).bind fun r=>
  (ck (c - 1)).bind fun l=>
  (aS e.2 l).bind fun j=>
  some (decide (r≤j))) else(some false)):Option (Bool)).bind fun s=>
  if s=true then(some (.error 5)) else((ck (c+1)).bind fun h=>
  fQ k a0 e n h))) else(some (.ok ()))
def fR(k:Nat)(a0:aP):Nat→Int→Option (Except Int Unit)
 |0,_=>none
 |n+1,y5=>
  if y5 < (a0.2.1.length:Int) then(bE (α:=Unit) ((aS a0.2.1 y5).bind fun x9=>
  (g8 k x9.1 1 3).bind fun j=>
  if¬(j=true) then(some (.error 1)) else((aS a0.2.1 y5).bind fun h=>
  fQ k a0 h k 0)) (fun e=>some (.error e)) fun _=>
  (ck (y5+1)).bind fun c=>
  fR k a0 n c) else(some (.ok ()))
def fP(k:Nat)(a0:aP):Nat→Int→Option (Except Int Unit)
 |0,_=>none
 |n+1,c=>
  if c < (a0.2.2.length:Int) then((aS a0.2.2 c).bind fun h=>
  (g8 k h 0 9).bind fun j=>
  if¬(j=true) then(some (.error 1)) else((ck (c+1)).bind fun e=>
  fP k a0 n e)) else(some (.ok ()))
def nn(k:Nat)(a0:aP):Option Int:=
 (g8 k a0.1 1 6).bind fun r2=>
 if¬(r2=true) then(some 1) else(if 5 < (a0.2.1.length:Int) then(some 6) else(bE (α:=Unit) (fR k a0 k 0) (some) fun _=>
 if(a0.2.2.length:Int)=0 then(some 7) else(if 3 < (a0.2.2.length:Int) then(some 6) else(bE (α:=Unit) (fP k a0 k 0) (some) fun _=>
 some 0))))
theorem xY(k:Nat)(a0:aP)(r:Int)(h:nn k a0=some r):
 bZ Tryz.prog 21 [.rep ap a0] [] (fun _:Unit=>(bu [I r],[])):=by
 unfold nn at h
 replace h:=bb h
 refine bZ.of 87 Tryz.func21 rfl Tryz.ntmps21 rfl fun S w0=>?_
 refine sr ?_
 refine bx fun b1=>?_
 refine cq ?_
 refine nt ?_
 refine ae ?_
 refine sr ?_
 refine fl fp ?_
 refine lo cg ?_
 obtain⟨r2,Uy,h⟩:=aa h
 have Uz:=jf k a0.1 1 6 r2 Uy
 refine jc (ar [.tmp 8,.const (.int .i64 (1)),.const (.int .i64 (6))] rfl rfl Ix rfl Uz) ?_
 refine ja (eC rfl) ?_
 refine nt ?_
 refine cw h (fun h=>?_) (fun h=>?_)
 ·
  refine sr (cq (nt (rx ?_)));cases h;exact ra
 ·
  refine sk (ae (sr (fl bU ?_)));refine lo eR ?_;refine ol mB ?_;refine jb (ip rfl) ?_;refine nt (ci h (fun h=>?_) (fun h=>?_))
  ·refine sr (cq (nt (rx ?_)));cases h;exact ra
  ·refine sk (dQ (Z:=Unit) (α:=Unit) (fun z4 x3=>[(1,Pt b1)]) (fun z4 x3=>[.obj b1 25 (.rep ap a0)]) (fun e=>e=r) h (fun e h=>Option.some.inj h) (fun K hR h=>?_) (fun z4 x3 h=>?_))
   ·refine sr (cq (nt (ao ?_)));refine aK (fun z6 y5=>[(1,Pt b1),(3,I y5)]) (fun z6 y5=>[.obj b1 25 (.rep ap a0)]) (fR k a0) k () 0 (fun _=>rfl) h (SE.fin [0] ⟨rfl,rfl,trivial⟩ rfl) (fun n z6 y5 h=>?_);unfold fR at h;refine ae (sr (mq ?_));refine fl bU ?_;refine lo eR ?_;refine ol mB ?_;refine jb (bj rfl) ?_;refine nt (ci h (fun h=>?_) (fun h=>?_))
    ·refine sk (dQ (Z:=Unit) (α:=Unit) (fun z8 x7=>[(1,Pt b1),(3,I y5)]) (fun z8 x7=>[.obj b1 25 (.rep ap a0)]) (fun e=>e=r) h (fun e h=>hR e h) (fun K hR h=>?_) (fun z8 x7 h=>?_))
     ·refine ao (ae (sr (fl bU ?_)));refine lo eR ?_;refine mq ?_;obtain⟨x9,Ux,h⟩:=aa h;refine jb (aF (t:=aH) rfl mB gC Ux) ?_;refine ja (aJ 1 false rfl kB rfl) ?_;refine ja (an (t:=(.int .i64)) rfl cg rfl) ?_;obtain⟨Uw,se,h⟩:=aa h;refine jc (ar [.tmp 27,.const (.int .i64 (1)),.const (.int .i64 (3))] rfl rfl Ix rfl (jf k x9.1 1 3 Uw se)) ?_;refine ja (eC rfl) ?_;refine nt (cw h (fun h=>?_) (fun h=>?_))
      ·refine sr (cq (nt (rx (br (bi (aV ?_))))));obtain rfl:=hR _ h;exact ra
      ·refine sk (sr (fl bU ?_));refine lo eR ?_;refine mq ?_;obtain⟨s,mc,h⟩:=aa h;refine jb (aF (t:=aH) rfl mB gC mc) ?_;refine ja (aJ 1 false rfl j0 rfl) ?_;refine ja (an (t:=(.slice (.int .i64))) rfl bR rfl) ?_;refine aq (nt (sr ?_));refine cq (nt (ao ?_));refine aK (fun D c=>[(1,Pt b1),(3,I y5),(4,Ri s.2),(5,I c)]) (fun D c=>[.obj b1 25 (.rep ap a0)]) (fQ k a0 s) k () 0 (fun _=>rfl) h (SE.fin [0] ⟨rfl,rfl,rfl,rfl,trivial⟩ rfl) (fun n D c h=>?_);unfold fQ at h;refine ae (sr ?_);iterate 2 refine mq ?_
       refine ol dA ?_;refine jb (bj rfl) ?_;refine nt (ci h (fun h=>?_) (fun h=>?_))
       ·refine sk (ae (ao (ae (ae (bO ?_)))));refine dm ?_;refine dm ?_;obtain⟨Us,ac,h⟩:=aa h;refine db (aF (t:=(.int .i64)) rfl dA cg ac) ?_;refine da (an (t:=(.int .i64)) rfl cg rfl) ?_;refine da (av rfl fp) ?_;refine ea 0 (aj rfl cg jt rfl) ?_;obtain⟨Ur,Y,h⟩:=aa h;refine db (fS rfl Y) ?_;refine df cD ?_;obtain⟨Uu,qt,h⟩:=aa h;refine jc (ar [.tmp 45,.const (.int .i64 (0)),.tmp 48] rfl rfl Ix rfl (jf k Us 0 Ur Uu qt)) ?_;refine ja (eC rfl) ?_;refine nt (cw h (fun h=>?_) (fun h=>?_))
        ·refine sr (cq (nt (rx (br (bi (br (bi (aV ?_))))))));obtain rfl:=hR _ h;exact ra
        ·refine sk (aM (Z:=Unit) (α:=Bool) (fun y l=>[(1,Pt b1),(3,I y5),(4,Ri s.2),(5,I c),(64,.eq (.bool l))]) (fun y l=>[.obj b1 25 (.rep ap a0)]) h (fun K h=>?_) (fun y l h=>?_))
         ·refine bO ?_;refine dm ?_;refine db (ip rfl) ?_;refine kN rfl rfl rfl (aL rfl) ⟨rfl,trivial⟩ (fun hb=>?_) (fun hb=>?_)
          ·replace h:=cH (oD hb) h;refine aW rfl rfl rfl rfl rfl (aL rfl) ⟨rfl,rfl,trivial⟩ ?_;refine aW rfl rfl rfl rfl rfl (aL rfl) ⟨rfl,rfl,trivial⟩ ?_;obtain⟨Up,X,h⟩:=aa h;refine aW rfl rfl rfl rfl rfl (aF (t:=(.int .i64)) rfl dA cg X) ⟨rfl,rfl,rfl,trivial⟩ ?_;refine aW rfl rfl rfl rfl rfl (an (t:=(.int .i64)) rfl cg rfl) ⟨rfl,rfl,trivial⟩ ?_;refine aW rfl rfl rfl rfl rfl (aL rfl) ⟨rfl,rfl,trivial⟩ ?_;refine aW rfl rfl rfl rfl rfl (aL rfl) ⟨rfl,rfl,trivial⟩ ?_;obtain⟨UA,U,h⟩:=aa h;refine aW rfl rfl rfl rfl rfl (fS rfl U) ⟨rfl,rfl,rfl,trivial⟩ ?_;obtain⟨Uo,Q,h⟩:=aa h;refine aW rfl rfl rfl rfl rfl (aF (t:=(.int .i64)) rfl dA cg Q) ⟨rfl,rfl,rfl,trivial⟩ ?_;refine aW rfl rfl rfl rfl rfl (an (t:=(.int .i64)) rfl cg rfl) ⟨rfl,rfl,trivial⟩ ?_;refine df cD ?_;refine gb (vk rfl) ?_;refine pt (nl ?_);exact jz ((),decide (Up≤Uo)) h [0]
          ·replace h:=bS (nI hb) h;iterate 9 refine dg ?_
           refine df cD ?_;refine gn ?_;refine pf (nl ?_);exact jz ((),false) h [0]
         ·refine cv h (fun h=>?_) (fun h=>?_)
          ·refine sr (cq (nt (aA (br (bi (br (bi (aV ?_))))))));obtain rfl:=hR _ h;exact ra
          ·refine aY (aN (tn (ab (mq ?_))));obtain⟨Un,O,h⟩:=aa h;refine jb (bg rfl O) ?_;refine aq (nl ?_);exact jz ((),Un) h [0]
       ·refine dF (aU (aU (bY (bn ?_))));exact jz ((),()) h [0]
     ·refine ab (mq ?_);obtain⟨Um,M,h⟩:=aa h;refine jb (bg rfl M) ?_;refine aq (nl ?_);exact jz ((),Um) h [0]
    ·refine xa ?_;exact jz ((),()) h [0]
   ·refine ae (sr (fl cK ?_));refine lo bR ?_;refine ol dA ?_;refine jb (fU rfl) ?_;refine nt (ci h (fun h=>?_) (fun h=>?_))
    ·refine sr (cq (nt (rx ?_)));cases h;exact ra
    ·refine sk (ae (sr (fl cK ?_)));refine lo bR ?_;refine ol dA ?_;refine jb (ip rfl) ?_;refine nt (ci h (fun h=>?_) (fun h=>?_))
     ·refine sr (cq (nt (rx ?_)));cases h;exact ra
     ·refine sk (dQ (Z:=Unit) (α:=Unit) (fun x E=>[]) (fun x E=>[]) (fun e=>e=r) h (fun e h=>Option.some.inj h) (fun K hR h=>?_) (fun x E h=>?_))
      ·refine sr (cq (nt (ao ?_)));refine aK (fun u j=>[(1,Pt b1),(6,I j)]) (fun u j=>[.obj b1 25 (.rep ap a0)]) (fP k a0) k () 0 (fun _=>rfl) h (SE.fin [0] ⟨rfl,rfl,trivial⟩ rfl) (fun n u j h=>?_);unfold fP at h;refine ae (sr (mq ?_));refine fl cK ?_;refine lo bR ?_;refine ol dA ?_;refine jb (bj rfl) ?_;refine nt (ci h (fun h=>?_) (fun h=>?_))
       ·refine sk (ae (ao (sr (fl cK ?_))));refine lo bR ?_;refine mq ?_;obtain⟨Ul,J,h⟩:=aa h;refine jb (aF (t:=(.int .i64)) rfl dA cg J) ?_;refine ja (an (t:=(.int .i64)) rfl cg rfl) ?_;obtain⟨Ut,pp,h⟩:=aa h;refine jc (ar [.tmp 84,.const (.int .i64 (0)),.const (.int .i64 (9))] rfl rfl Ix rfl (jf k Ul 0 9 Ut pp)) ?_;refine ja (eC rfl) ?_;refine nt (cw h (fun h=>?_) (fun h=>?_))
        ·refine sr (cq (nt (aA (br (bi (aV ?_))))));obtain rfl:=hR _ h;exact ra
        ·refine aY (aN (tn (ab (mq ?_))));obtain⟨Uk,F,h⟩:=aa h;refine jb (bg rfl F) ?_;refine aq (nl ?_);exact jz ((),Uk) h [0]
       ·refine xa ?_;exact jz ((),()) h []
      ·refine sr (cq (nt (aA ?_)));cases h;exact ra
def kQ(k:Nat)(a0:aP)(a1:Int):Option Bool:=
 (ck ((a0.2.1.length:Int) - 1)).bind fun x2=>
 (g8 k a1 0 x2).bind fun r3=>
 some r3
theorem uT(k:Nat)(a0:aP)(a1:Int)(r:Bool)(h:kQ k a0 a1=some r):
 bZ Tryz.prog 65 [.rep ap a0,I a1] [] (fun _:Unit=>(bu [.eq (.bool r)],[])):=by
 unfold kQ at h
 replace h:=bb h
 refine bZ.of 11 Tryz.func65 rfl Tryz.ntmps65 rfl fun S w0=>?_
 refine sr ?_
 refine bx fun b1=>?_
 refine cq ?_
 refine nt ?_
 refine sr ?_
 refine mq ?_
 refine fl bU ?_
 refine lo eR ?_
 refine ol mB ?_
 obtain⟨x2,c,h⟩:=aa h
 refine jb (fS rfl c) ?_
 obtain⟨r3,e,h⟩:=aa h
 have j:=jf k a1 0 x2 r3 e
 refine jc (ar [.tmp 5,.const (.int .i64 (0)),.tmp 9] rfl rfl Ix rfl j) ?_
 refine aq ?_
 refine nt ?_
 refine aA ?_
 cases h
 exact ra
def iD(k:Nat)(a0:(List Int))(a1:Int):Nat→Int→Option (Except Bool Unit)
 |0,_=>none
 |n+1,y3=>
  if y3 < (a0.length:Int) then((aS a0 y3).bind fun x5=>
  if x5=a1 then(some (.error true)) else((ck (y3+1)).bind fun x6=>
  iD k a0 a1 n x6)) else(some (.ok ()))
def pN(k:Nat)(a0:(List Int))(a1:Int):Option Bool:=
 bE (α:=Unit) (iD k a0 a1 k 0) (some) fun _=>
 some false
theorem uU(k:Nat)(a0:(List Int))(a1:Int)(r:Bool)(h:pN k a0 a1=some r):
 bZ Tryz.prog 66 [Ri a0,I a1] [] (fun _:Unit=>(bu [.eq (.bool r)],[])):=by
 unfold pN at h
 replace h:=bb h
 refine bZ.of 18 Tryz.func66 rfl Tryz.ntmps66 rfl fun S w0=>?_
 refine sr ?_
 refine cq ?_
 refine nt ?_
 refine dQ (Z:=Unit) (α:=Unit) (fun z2 x1=>[]) (fun z2 x1=>[]) (fun e=>e=r) h (fun e h=>Option.some.inj h) (fun K hR h=>?_) (fun z2 x1 h=>?_)
 ·
  refine sr (cq (nt (ao ?_)));refine aK (fun z4 y3=>[(0,Ri a0),(1,I a1),(5,I y3)]) (fun z4 y3=>[]) (iD k a0 a1) k () 0 (fun _=>rfl) h (SE.fin [] ⟨rfl,rfl,rfl,trivial⟩ rfl) (fun n z4 y3 h=>?_);unfold iD at h;refine ae (sr ?_);iterate 2 refine mq ?_
  refine ol dA ?_;refine jb (bj rfl) ?_;refine nt (ci h (fun h=>?_) (fun h=>?_))
  ·refine sk (ae (ao (sr ?_)));iterate 2 refine mq ?_
   obtain⟨x5,j,h⟩:=aa h;refine jb (aF (t:=(.int .i64)) rfl dA cg j) ?_;refine ja (an (t:=(.int .i64)) rfl cg rfl) ?_;refine mq ?_;refine jb (fU rfl) ?_;refine nt (ci h (fun h=>?_) (fun h=>?_))
   ·refine sr (cq (nt (aA (br (bi (aV ?_))))));obtain rfl:=hR _ h;exact ra
   ·refine aY (aN (tn (ab (mq ?_))));obtain⟨x6,c,h⟩:=aa h;refine jb (bg rfl c) ?_;refine aq (nl ?_);exact jz ((),x6) h []
  ·refine xa ?_;exact jz ((),()) h []
 ·
  refine sr (cq (nt (aA ?_)));cases h;exact ra
def cr(k:Nat)(a0:aP)(a1:(List (List Int)))(y5:(List Int)×Int):Nat→((List Int)×Int×Int)→Option (Except Int ((List Int)×Int))
 |0,_=>none
 |n+1,c=>
  (aS a1 y5.2).bind fun F=>
  if c.2.2 < (F.length:Int) then((aS a1 y5.2).bind fun E=>
  (aS E c.2.2).bind fun D=>
  (kQ k a0 D).bind fun J=>
  if¬(J=true) then(some (.error 3)) else((aS a1 y5.2).bind fun y=>
  (aS y c.2.2).bind fun x=>
  (pN k c.1 x).bind fun I=>
  if I=true then(some (.error 4)) else((aS a1 y5.2).bind fun u=>
  (aS u c.2.2).bind fun e=>
  (dy (bM (List.length c.1+List.length [e]))).bind fun _=>
  (aS a1 y5.2).bind fun s=>
  (aS s c.2.2).bind fun r=>
  (aS a0.2.1 r).bind fun l=>
  (ck (c.2.1+l.1)).bind fun j=>
  (ck (c.2.2+1)).bind fun h=>
  cr k a0 a1 y5 n (c.1++[e],j,h)))) else(some (.ok (c.1,c.2.1)))
def cE(k:Nat)(a0:aP)(a1:(List (List Int))):Nat→((List Int)×Int)→Option (Except Int (List Int))
 |0,_=>none
 |n+1,y5=>
  if y5.2 < (a1.length:Int) then(bE (α:=(List Int)) (bE (α:=(List Int)×Int) (cr k a0 a1 y5 k (y5.1,0,0)) (fun e=>some (.error e)) fun x9=>
  (aS a0.2.2 y5.2).bind fun h=>
  if h < x9.2 then(some (.error 12)) else(some (.ok x9.1))) (fun e=>some (.error e)) fun x7=>
  (ck (y5.2+1)).bind fun c=>
  cE k a0 a1 n (x7,c)) else(some (.ok y5.1))
def dT(k:Nat)(a0:aP)(a1:(List (List Int))):Option Int:=
 (nn k a0).bind fun r2=>
 if¬(r2=0) then(some r2) else(if(a1.length:Int) < (a0.2.2.length:Int) then(some 7) else(if(a0.2.2.length:Int) < (a1.length:Int) then(some 6) else(bE (α:=(List Int)) (cE k a0 a1 k (([]:(List Int)),0)) (some) fun x3=>
 if(x3.length:Int) < (a0.2.1.length:Int) then(some 7) else(some 0))))
theorem lp(k:Nat)(a0:aP)(a1:(List (List Int)))(r:Int)(h:dT k a0 a1=some r):
 bZ Tryz.prog 23 [.rep ap a0,.rep (.slice (.slice (.int .i64))) a1] [] (fun _:Unit=>(bu [I r],[])):=by
 unfold dT at h
 replace h:=bb h
 refine bZ.of 98 Tryz.func23 rfl Tryz.ntmps23 rfl fun S w0=>?_
 refine sr ?_
 refine bx fun b1=>?_
 refine cq ?_
 refine nt ?_
 refine ae ?_
 refine sr ?_
 refine lo cJ ?_
 obtain⟨r2,UR,h⟩:=aa h
 have US:=xY k a0 r2 UR
 refine ja (ar [.tmp 10] rfl rfl Tm rfl US) ?_
 refine aq ?_
 refine nt ?_
 refine sr ?_
 refine mq ?_
 refine jb (gP rfl) ?_
 refine nt ?_
 refine cn h (fun h=>?_) (fun h=>?_)
 ·
  refine sr (mq ?_);refine aq (nt (rx ?_));cases h;exact ra
 ·
  refine sk (ae (sr (mq ?_)));refine ol mA ?_;refine fl cK ?_;refine lo bR ?_;refine ol dA ?_;refine jb (bj rfl) ?_;refine nt (ci h (fun h=>?_) (fun h=>?_))
  ·refine sr (cq (nt (rx ?_)));cases h;exact ra
  ·refine sk (ae (sr (mq ?_)));refine ol mA ?_;refine fl cK ?_;refine lo bR ?_;refine ol dA ?_;refine jb (ip rfl) ?_;refine nt (ci h (fun h=>?_) (fun h=>?_))
   ·refine sr (cq (nt (rx ?_)));cases h;exact ra
   ·refine sk (sr (cq (nt ?_)));refine dQ (Z:=Value) (α:=(List Int)) (fun z4 x3=>[(2,Pt b1),(6,.eq z4)]) (fun z4 x3=>[.obj b1 25 (.rep ap a0),.sl z4 3 (.int .i64) x3]) (fun e=>e=r) h (fun e h=>Option.some.inj h) (fun K hR h=>?_) (fun z4 x3 h=>?_)
    ·refine sr (cq (nt (ao ?_)));refine dN (SE.nil 3 (.int .i64)) ?_;refine aK (fun z6 y5=>[(1,.rep (.slice (.slice (.int .i64))) a1),(2,Pt b1),(6,.eq z6),(7,I y5.2)]) (fun z6 y5=>[.obj b1 25 (.rep ap a0),.sl z6 3 (.int .i64) y5.1]) (cE k a0 a1) k (.slice none 0 0) (([]:(List Int)),0) (fun _=>rfl) h (SE.fin [1,0] ⟨rfl,rfl,rfl,rfl,trivial⟩ rfl) (fun n z6 y5 h=>?_);unfold cE at h;refine ae (sr ?_);iterate 2 refine mq ?_
     refine ol mA ?_;refine jb (bj rfl) ?_;refine nt (ci h (fun h=>?_) (fun h=>?_))
     ·refine sk (dQ (Z:=Value) (α:=(List Int)) (fun z8 x7=>[(1,.rep (.slice (.slice (.int .i64))) a1),(2,Pt b1),(6,.eq z8),(7,I y5.2)]) (fun z8 x7=>[.obj b1 25 (.rep ap a0),.sl z8 3 (.int .i64) x7]) (fun e=>e=r) h (fun e h=>hR e h) (fun K hR h=>?_) (fun z8 x7 h=>?_))
      ·refine ao (sr (cq (nt ?_)));refine dQ (Z:=Value) (α:=(List Int)×Int) (fun l x9=>[(1,.rep (.slice (.slice (.int .i64))) a1),(2,Pt b1),(6,.eq l),(7,I y5.2),(8,I x9.2)]) (fun l x9=>[.obj b1 25 (.rep ap a0),.sl l 3 (.int .i64) x9.1]) (fun e=>e=r) h (fun e h=>hR e h) (fun K hR h=>?_) (fun l x9 h=>?_)
       ·refine sr (cq (nt (ao ?_)));refine aK (fun j c=>[(1,.rep (.slice (.slice (.int .i64))) a1),(2,Pt b1),(6,.eq j),(7,I y5.2),(8,I c.2.1),(9,I c.2.2)]) (fun j c=>[.obj b1 25 (.rep ap a0),.sl j 3 (.int .i64) c.1]) (cr k a0 a1 y5) k z6 (y5.1,0,0) (fun _=>rfl) h (SE.fin [0,1] ⟨rfl,rfl,rfl,rfl,rfl,rfl,trivial⟩ rfl) (fun n j c h=>?_);unfold cr at h;refine ae (sr ?_);iterate 3 refine mq ?_
        obtain⟨Vj,Uy,h⟩:=aa h;refine jb (aF (t:=(.slice (.int .i64))) rfl mA bR Uy) ?_;refine ja (an (t:=(.slice (.int .i64))) rfl bR rfl) ?_;refine ol dA ?_;refine jb (bj rfl) ?_;refine nt (ci h (fun h=>?_) (fun h=>?_))
        ·refine sk (ae (ao (ae (ae (bO ?_)))));refine ea 0 (aj rfl cJ (vX) rfl) ?_;refine dm ?_;refine dm ?_;obtain⟨Vi,Ux,h⟩:=aa h;refine db (aF (t:=(.slice (.int .i64))) rfl mA bR Ux) ?_;refine da (an (t:=(.slice (.int .i64))) rfl bR rfl) ?_;refine dm ?_;obtain⟨UF,Uw,h⟩:=aa h;refine db (aF (t:=(.int .i64)) rfl dA cg Uw) ?_;refine da (an (t:=(.int .i64)) rfl cg rfl) ?_;refine df cD ?_;obtain⟨UH,UB,h⟩:=aa h;refine jb (ar [.tmp 42,.tmp 49] rfl rfl SU rfl (uT k a0 UF UH UB)) ?_;refine ja (eC rfl) ?_;refine nt (cw h (fun h=>?_) (fun h=>?_))
         ·refine sr (cq (nt (rx (br (bi (aV (br (bi (aV ?_)))))))));obtain rfl:=hR _ h;exact ra
         ·refine sk (ae (sr ?_));iterate 3 refine mq ?_
          obtain⟨Vh,Uu,h⟩:=aa h;refine jb (aF (t:=(.slice (.int .i64))) rfl mA bR Uu) ?_;refine ja (an (t:=(.slice (.int .i64))) rfl bR rfl) ?_;refine mq ?_;obtain⟨u,Ut,h⟩:=aa h;refine jb (aF (t:=(.int .i64)) rfl dA cg Ut) ?_;refine ja (an (t:=(.int .i64)) rfl cg rfl) ?_;obtain⟨UG,UA,h⟩:=aa h;refine fr 1 ?_;refine kb (vQ (N:=[(.tmp 52,.eq j),(.tmp 59,I u)]) (ar [.tmp 52,.tmp 59] rfl rfl Qi rfl (uU k c.1 u UG UA)) (fun _ _ _ hv hn=>⟨(lend hn.1 hv),hn.2.1,trivial⟩) (fun _=>⟨rfl,AA⟩)) ?_;refine nt (cv h (fun h=>?_) (fun h=>?_))
          ·refine sr (cq (nt (rx (br (bi (aV (br (bi (aV ?_)))))))));obtain rfl:=hR _ h;exact ra
          ·refine sk (jm ?_);refine aI rfl rfl rfl (aL rfl) ⟨rfl,trivial⟩ ?_;refine aI rfl rfl rfl (aL rfl) ⟨rfl,trivial⟩ ?_;refine aI rfl rfl rfl (aL rfl) ⟨rfl,trivial⟩ ?_;obtain⟨Vg,Us,h⟩:=aa h;refine aI rfl rfl rfl (aF (t:=(.slice (.int .i64))) rfl mA bR Us) ⟨rfl,rfl,trivial⟩ ?_;refine aI rfl rfl rfl (an (t:=(.slice (.int .i64))) rfl bR rfl) ⟨rfl,trivial⟩ ?_;refine aI rfl rfl rfl (aL rfl) ⟨rfl,trivial⟩ ?_;obtain⟨s,Ur,h⟩:=aa h;refine aI rfl rfl rfl (aF (t:=(.int .i64)) rfl dA cg Ur) ⟨rfl,rfl,trivial⟩ ?_;refine aI rfl rfl rfl (an (t:=(.int .i64)) rfl cg rfl) ⟨rfl,trivial⟩ ?_;refine aI rfl rfl rfl (bp (t:=(.int .i64)) [(.tmp 68,_)] [s] rfl rfl dI (.cons rfl .int .nil) rfl rfl) ⟨rfl,trivial⟩ ?_;obtain⟨VH,Uz,h⟩:=aa h;refine sJ 0 rfl (fun v=>[.sl v 3 (.int .i64) (c.1++[s])]) (fun _=>rfl) rfl rfl rfl (bH rfl rfl dI (aB Uz)) ⟨rfl,rfl,trivial⟩ ?_;refine aI rfl rfl rfl (aL rfl) ⟨rfl,trivial⟩ ?_;refine aI rfl rfl rfl (av rfl bU) ⟨rfl,trivial⟩ ?_;refine dn 1 rfl rfl rfl rfl (aj rfl eR jt rfl) ⟨rfl,trivial⟩ ?_;refine aI rfl rfl rfl (aL rfl) ⟨rfl,trivial⟩ ?_;refine aI rfl rfl rfl (aL rfl) ⟨rfl,trivial⟩ ?_;obtain⟨Vf,Up,h⟩:=aa h;refine aI rfl rfl rfl (aF (t:=(.slice (.int .i64))) rfl mA bR Up) ⟨rfl,rfl,trivial⟩ ?_;refine aI rfl rfl rfl (an (t:=(.slice (.int .i64))) rfl bR rfl) ⟨rfl,trivial⟩ ?_;refine aI rfl rfl rfl (aL rfl) ⟨rfl,trivial⟩ ?_;obtain⟨Ve,Uo,h⟩:=aa h;refine aI rfl rfl rfl (aF (t:=(.int .i64)) rfl dA cg Uo) ⟨rfl,rfl,trivial⟩ ?_;refine aI rfl rfl rfl (an (t:=(.int .i64)) rfl cg rfl) ⟨rfl,trivial⟩ ?_;obtain⟨Vd,Un,h⟩:=aa h;refine aI rfl rfl rfl (aF (t:=aH) rfl mB gC Un) ⟨rfl,rfl,trivial⟩ ?_;refine aI rfl rfl rfl (aJ 1 false rfl kB rfl) ⟨rfl,trivial⟩ ?_;refine aI rfl rfl rfl (an (t:=(.int .i64)) rfl cg rfl) ⟨rfl,trivial⟩ ?_;obtain⟨UE,Um,h⟩:=aa h;refine aI rfl rfl rfl (bg rfl Um) ⟨rfl,rfl,trivial⟩ ?_;refine mo 24 [true,true,true,true,true,true,true,true,true,true,false,false,false,false,false,false,false,false,false,false,false,false,false,false] [6] [1] [.obj b1 25 (.rep ap a0)] rfl (by kernel_rfl) (by kernel_rfl) (by kernel_rfl) cD (fun vs hv hB=>?_);obtain⟨w0,VG,rfl,UQ⟩:=ak hv;obtain⟨w1,VF,rfl,UP⟩:=ak UQ;obtain⟨w2,VE,rfl,UO⟩:=ak UP;obtain⟨w3,VD,rfl,UN⟩:=ak UO;obtain⟨w4,VC,rfl,UM⟩:=ak UN;obtain⟨w5,VB,rfl,UL⟩:=ak UM;obtain⟨w6,VA,rfl,UK⟩:=ak UL;obtain⟨w7,Vz,rfl,UJ⟩:=ak UK;obtain⟨w8,Vy,rfl,UI⟩:=ak UJ;obtain⟨x,Va,rfl,qt⟩:=ak UI;obtain⟨Vx,U8,rfl,pp⟩:=ak qt;obtain⟨Vw,U7,rfl,mc⟩:=ak pp;obtain⟨Vv,U6,rfl,ac⟩:=ak mc;obtain⟨Vu,U4,rfl,Y⟩:=ak ac;obtain⟨Vt,U2,rfl,X⟩:=ak Y;obtain⟨Vs,U1,rfl,U⟩:=ak X;obtain⟨Vr,U0,rfl,Q⟩:=ak U;obtain⟨Vq,UZ,rfl,O⟩:=ak Q;obtain⟨Vp,UY,rfl,M⟩:=ak O;obtain⟨Vo,UX,rfl,J⟩:=ak M;obtain⟨Vn,UW,rfl,F⟩:=ak J;obtain⟨Vm,UV,rfl,E⟩:=ak F;obtain⟨Vl,UU,rfl,D⟩:=ak E;obtain⟨Vk,UT,rfl,y⟩:=ak D;obtain rfl:=jW y;refine⟨[0,1],[.sl x 3 (.int .i64) (c.1++[s])],by kernel_rfl,by decide,?_⟩;refine pE rfl rfl rfl rfl (gr rfl) ⟨rfl,trivial⟩ (by kernel_rfl) ?_;refine C6 (by kernel_rfl) ?_;refine aq (au (aN (tn (ab ?_))));refine mq ?_;obtain⟨UD,Ul,h⟩:=aa h
           refine jb (bg rfl Ul) ?_;refine aq (nl ?_);exact jz (x,(c.1++[s],UE,UD)) h [0,1]
        ·refine xa ?_;exact jz (j,(c.1,c.2.1)) h [0,1]
       ·refine sr (mq ?_);refine fl cK ?_;refine lo bR ?_;refine mq ?_;obtain⟨Vb,Uk,h⟩:=aa h;refine jb (aF (t:=(.int .i64)) rfl dA cg Uk) ?_;refine ja (an (t:=(.int .i64)) rfl cg rfl) ?_;refine jb (ip rfl) ?_;refine nt (ci h (fun h=>?_) (fun h=>?_))
        ·refine sr (cq (nt (aA (br (bi (aV ?_))))));obtain rfl:=hR _ h;exact ra
        ·refine aY (bn ?_);exact jz (l,x9.1) h [0,1]
      ·refine ab (mq ?_);obtain⟨UC,se,h⟩:=aa h;refine jb (bg rfl se) ?_;refine aq (nl ?_);exact jz (z8,(x7,UC)) h [0,1]
     ·refine xa ?_;exact jz (z6,y5.1) h [0,1]
    ·refine ae (sr (mq ?_));refine fr 1 ?_;refine ka (cY rfl rfl dA) ?_;refine fl bU ?_;refine fr 1 ?_;refine lo eR ?_;refine ol mB ?_;refine jb (bj rfl) ?_;refine nt (ci h (fun h=>?_) (fun h=>?_))
     ·refine sr (cq (nt (rx ?_)));cases h;exact ra
     ·refine sk (sr (cq (nt (aA ?_))));cases h;exact ra
def oZ(k:Nat)(a0:aP)(a1:Int)(a2:Int):Option Bool:=
 (aS a0.2.1 a1).bind fun x2=>
 (pN k x2.2 a2).bind fun r3=>
 some r3
theorem zy(k:Nat)(a0:aP)(a1:Int)(a2:Int)(r:Bool)(h:oZ k a0 a1 a2=some r):
 bZ Tryz.prog 131 [.rep ap a0,I a1,I a2] [] (fun _:Unit=>(bu [.eq (.bool r)],[])):=by
 unfold oZ at h
 replace h:=bb h
 refine bZ.of 15 Tryz.func131 rfl Tryz.ntmps131 rfl fun S w0=>?_
 refine sr ?_
 refine bx fun b1=>?_
 refine cq ?_
 refine nt ?_
 refine sr ?_
 refine fl bU ?_
 refine lo eR ?_
 refine mq ?_
 obtain⟨x2,c,h⟩:=aa h
 refine jb (aF (t:=aH) rfl mB gC c) ?_
 refine ja (aJ 1 false rfl j0 rfl) ?_
 refine ja (an (t:=(.slice (.int .i64))) rfl bR rfl) ?_
 refine mq ?_
 obtain⟨r3,e,h⟩:=aa h
 have j:=uU k x2.2 a2 r3 e
 refine jb (ar [.tmp 12,.tmp 13] rfl rfl Qi rfl j) ?_
 refine aq ?_
 refine nt ?_
 refine aA ?_
 cases h
 exact ra
def jw(k:Nat)(a0:aP)(a1:(List Int))(a2:Int):Nat→((List Int)×(List Int)×(List Int)×Int)→Option ((List Int)×(List Int)×(List Int))
 |0,_=>none
 |n+1,y4=>
  if y4.2.2.2 < (a1.length:Int) then((((aS a1 y4.2.2.2).bind fun x8=>
  (oZ k a0 x8 a2).bind fun r9=>
  if r9=true then((aS a1 y4.2.2.2).bind fun h=>
  (dy (bM (List.length y4.2.2.1+List.length [h]))).bind fun _=>
  some (y4.1,y4.2.1,y4.2.2.1++[h])) else((aS a1 y4.2.2.2).bind fun c=>
  (dy (bM (List.length y4.2.1+List.length [c]))).bind fun _=>
  if 0 < (y4.2.2.1.length:Int) then((aS a1 y4.2.2.2).bind fun e=>
  (dy (bM (List.length y4.1+List.length [e]))).bind fun _=>
  some (y4.1++[e],y4.2.1++[c],y4.2.2.1)) else(some (y4.1,y4.2.1++[c],y4.2.2.1)))):Option ((List Int)×(List Int)×(List Int))).bind fun x6=>
  (ck (y4.2.2.2+1)).bind fun j=>
  jw k a0 a1 a2 n (x6.1,x6.2.1,x6.2.2,j)) else(some (y4.1,y4.2.1,y4.2.2.1))
def rK(k:Nat)(a0:aP)(a1:(List Int))(a2:Int):Option ((List Int)×(List Int)):=
 ((jw k a0 a1 a2 k (([]:(List Int)),([]:(List Int)),([]:(List Int)),0)):Option ((List Int)×(List Int)×(List Int))).bind fun x2=>
 (dy (bM (List.length x2.2.1+List.length x2.2.2))).bind fun _=>
 some (x2.1,x2.2.1++x2.2.2)
theorem BJ(k:Nat)(a0:aP)(a1:(List Int))(a2:Int)(r:(List Int)×(List Int))(h:rK k a0 a1 a2=some r):
 bZ Tryz.prog 101 [.rep ap a0,Ri a1,I a2] [] (fun _:Unit=>(bu [Ri r.1,Ri r.2],[])):=by
 unfold rK at h
 replace h:=bb h
 refine bZ.of 53 Tryz.func101 rfl Tryz.ntmps101 rfl fun S w0=>?_
 refine sr ?_
 refine bx fun b1=>?_
 refine cq ?_
 refine cq ?_
 refine nt ?_
 refine sr ?_
 refine cq ?_
 refine cq ?_
 refine cq ?_
 refine nt ?_
 refine aM (Z:=Value×Value×Value) (α:=(List Int)×(List Int)×(List Int)) (fun z3 x2=>[(8,.eq z3.1),(9,.eq z3.2.1),(10,.eq z3.2.2)]) (fun z3 x2=>[.sl z3.1 3 (.int .i64) x2.1,.sl z3.2.1 3 (.int .i64) x2.2.1,.sl z3.2.2 3 (.int .i64) x2.2.2]) h (fun K h=>?_) (fun z3 x2 h=>?_)
 ·
  refine sr (cq (nt (ao ?_)));refine dN (SE.nil 3 (.int .i64)) ?_;refine dN (SE.nil 3 (.int .i64)) ?_;refine dN (SE.nil 3 (.int .i64)) ?_;refine aK (fun z5 y4=>[(1,Ri a1),(2,I a2),(3,Pt b1),(8,.eq z5.1),(9,.eq z5.2.1),(10,.eq z5.2.2),(11,I y4.2.2.2)]) (fun z5 y4=>[.obj b1 25 (.rep ap a0),.sl z5.1 3 (.int .i64) y4.1,.sl z5.2.1 3 (.int .i64) y4.2.1,.sl z5.2.2 3 (.int .i64) y4.2.2.1]) (jw k a0 a1 a2) k ((.slice none 0 0),(.slice none 0 0),(.slice none 0 0)) (([]:(List Int)),([]:(List Int)),([]:(List Int)),0) (fun _=>rfl) h (SE.fin [3,2,1,0] ⟨rfl,rfl,rfl,rfl,rfl,rfl,rfl,trivial⟩ rfl) (fun n z5 y4 h=>?_);unfold jw at h;refine ae (sr ?_);iterate 2 refine mq ?_
  refine ol dA ?_;refine jb (bj rfl) ?_;refine nt (ci h (fun h=>?_) (fun h=>?_))
  ·refine sk (aM (Z:=Value×Value×Value) (α:=(List Int)×(List Int)×(List Int)) (fun z7 x6=>[(1,Ri a1),(2,I a2),(3,Pt b1),(8,.eq z7.1),(9,.eq z7.2.1),(10,.eq z7.2.2),(11,I y4.2.2.2)]) (fun z7 x6=>[.obj b1 25 (.rep ap a0),.sl z7.1 3 (.int .i64) x6.1,.sl z7.2.1 3 (.int .i64) x6.2.1,.sl z7.2.2 3 (.int .i64) x6.2.2]) h (fun K h=>?_) (fun z7 x6 h=>?_))
   ·refine ao (ae (ae (bO ?_)));refine ea 0 (aj rfl cJ (vX) rfl) ?_;refine dm ?_;refine dm ?_;obtain⟨x8,U,h⟩:=aa h;refine db (aF (t:=(.int .i64)) rfl dA cg U) ?_;refine da (an (t:=(.int .i64)) rfl cg rfl) ?_;refine dm ?_;refine df cD ?_;obtain⟨r9,X,h⟩:=aa h;refine jc (ar [.tmp 18,.tmp 22,.tmp 23] rfl rfl QB rfl (zy k a0 x8 a2 r9 X)) ?_;refine nt (cv h (fun h=>?_) (fun h=>?_))
    ·refine sr ?_;iterate 3 refine mq ?_
     obtain⟨j,y,h⟩:=aa h;refine jb (aF (t:=(.int .i64)) rfl dA cg y) ?_;refine ja (an (t:=(.int .i64)) rfl cg rfl) ?_;refine ja (bp (t:=(.int .i64)) [(.tmp 29,_)] [j] rfl rfl dI (.cons rfl .int .nil) rfl rfl) ?_;obtain⟨qt,J,h⟩:=aa h;refine fr 3 ?_;refine c6 rfl rfl rfl (bH rfl rfl dI (aB J)) ⟨rfl,rfl,trivial⟩ fun Q=>?_;refine aq (nt (dF (aU (bY (ag ?_)))));exact jz ((z5.1,z5.2.1,Q),(y4.1,y4.2.1,y4.2.2.1++[j])) h [1,2,3,0]
    ·refine sk (sr ?_);iterate 3 refine mq ?_
     obtain⟨c,x,h⟩:=aa h;refine jb (aF (t:=(.int .i64)) rfl dA cg x) ?_;refine ja (an (t:=(.int .i64)) rfl cg rfl) ?_;refine ja (bp (t:=(.int .i64)) [(.tmp 36,_)] [c] rfl rfl dI (.cons rfl .int .nil) rfl rfl) ?_;obtain⟨pp,F,h⟩:=aa h;refine fr 2 ?_;refine c6 rfl rfl rfl (bH rfl rfl dI (aB F)) ⟨rfl,rfl,trivial⟩ fun l=>?_;refine aq (nt (sr ?_));refine mq ?_;refine fr 3 ?_;refine ka (cY rfl rfl dA) ?_;refine jb (ip rfl) ?_;refine nt (ci h (fun h=>?_) (fun h=>?_))
     ·refine ab ?_;iterate 3 refine mq ?_
      obtain⟨e,u,h⟩:=aa h;refine jb (aF (t:=(.int .i64)) rfl dA cg u) ?_;refine ja (an (t:=(.int .i64)) rfl cg rfl) ?_;refine ja (bp (t:=(.int .i64)) [(.tmp 46,_)] [e] rfl rfl dI (.cons rfl .int .nil) rfl rfl) ?_;obtain⟨mc,E,h⟩:=aa h;refine fr 3 ?_;refine c6 rfl rfl rfl (bH rfl rfl dI (aB E)) ⟨rfl,rfl,trivial⟩ fun O=>?_;refine aq (au (bn ?_));exact jz ((O,l,z5.2.2),(y4.1++[e],y4.2.1++[c],y4.2.2.1)) h [3,0,2,1]
     ·refine aY (bn ?_);exact jz ((z5.1,l,z5.2.2),(y4.1,y4.2.1++[c],y4.2.2.1)) h [2,3,1,0]
   ·refine ab (mq ?_);obtain⟨M,s,h⟩:=aa h;refine jb (bg rfl s) ?_;refine aq (nl ?_);exact jz ((z7.1,z7.2.1,z7.2.2),(x6.1,x6.2.1,x6.2.2,M)) h [0,1,2,3]
  ·refine xa ?_;exact jz ((z5.1,z5.2.1,z5.2.2),(y4.1,y4.2.1,y4.2.2.1)) h [1,2,3]
 ·
  refine sr ?_;iterate 3 refine mq ?_
  refine fr 2 ?_;refine cC (eK [10,51] ⟨rfl,rfl,trivial⟩) ?_;obtain⟨ac,D,h⟩:=aa h;refine fr 1 ?_;refine c6 rfl rfl rfl (bH rfl rfl dI (aB D)) ⟨rfl,rfl,trivial⟩ fun Y=>?_;refine aq ?_;refine aq (nt (aA ?_));refine dk 1 rfl ?_;refine bv (eK [6,8,49] ⟨rfl,rfl,rfl,trivial⟩) ?_;refine bv (eK [7,52] ⟨rfl,rfl,trivial⟩) ?_;cases h;exact rb
def iE(k:Nat)(e:(List Int)×(List Int)):Nat→((List Int)×Int)→Option (List Int)
 |0,_=>none
 |n+1,c=>
  if c.2 < (e.1.length:Int) then((aS e.1 c.2).bind fun h=>
  (aS e.1 c.2).bind fun s=>
  (aS c.1 s).bind fun r=>
  (ck (r+1)).bind fun l=>
  (aS c.1 h).bind fun u=>
  (ck (c.2+1)).bind fun j=>
  iE k e n (List.set c.1 (Int.toNat h) l,j)) else(some c.1)
def iG(k:Nat)(a0:aP)(y6:(List Int)×(List (List Int))×Int):Nat→((List Int)×(List (List Int))×Int)→Option ((List Int)×(List (List Int)))
 |0,_=>none
 |n+1,c=>
  if c.2.2 < (y6.2.1.length:Int) then((((aS y6.2.1 c.2.2).bind fun r=>
  (rK k a0 r y6.2.2).bind fun e=>
  ((iE k e k (c.1,0)):Option ((List Int))).bind fun l=>
  (dy (bM (List.length c.2.1+List.length [e.2]))).bind fun _=>
  some (l,c.2.1++[e.2])):Option ((List Int)×(List (List Int)))).bind fun h=>
  (ck (c.2.2+1)).bind fun j=>
  iG k a0 y6 n (h.1,h.2,j)) else(some (c.1,c.2.1))
def jD(k:Nat)(a0:aP)(a3:Int):Nat→((List Int)×(List (List Int))×Int)→Option ((List Int)×(List (List Int)))
 |0,_=>none
 |n+1,y6=>
  if y6.2.2 < a3 then(((((iG k a0 y6 k (y6.1,([]:(List (List Int))),0)):Option ((List Int)×(List (List Int)))).bind fun c=>
  some (c.1,c.2)):Option ((List Int)×(List (List Int)))).bind fun x8=>
  (ck (y6.2.2+1)).bind fun e=>
  jD k a0 a3 n (x8.1,x8.2,e)) else(some (y6.1,y6.2.1))
def nk(k:Nat)(a0:aP)(a1:(List (List Int)))(a2:Int)(a3:Int):Option ((List Int)×(List (List Int))):=
 (dy (0≤(a0.2.1.length:Int)∧bM (Int.toNat (a0.2.1.length:Int)))).bind fun _=>
 ((jD k a0 a3 k (List.replicate (Int.toNat (a0.2.1.length:Int)) 0,a1,a2)):Option ((List Int)×(List (List Int)))).bind fun x4=>
 some (x4.1,x4.2)
theorem tZ(k:Nat)(a0:aP)(a1:(List (List Int)))(a2:Int)(a3:Int)(r:(List Int)×(List (List Int)))(h:nk k a0 a1 a2 a3=some r):
 bZ Tryz.prog 61 [.rep ap a0,.rep (.slice (.slice (.int .i64))) a1,I a2,I a3] [] (fun _:Unit=>(bu [Ri r.1,.rep (.slice (.slice (.int .i64))) r.2],[])):=by
 unfold nk at h
 replace h:=bb h
 refine bZ.of 72 Tryz.func61 rfl Tryz.ntmps61 rfl fun S w0=>?_
 refine sr ?_
 refine bx fun b1=>?_
 refine cq ?_
 refine cq ?_
 refine nt ?_
 refine sr ?_
 refine fl bU ?_
 refine lo eR ?_
 refine ol mB ?_
 obtain⟨u2,se,h⟩:=aa h
 refine aD rfl rfl rfl (ye (t:=(.int .i64)) (d:=0) rfl dI TP (aB se).1 (aB se).2) ⟨rfl,rfl,trivial⟩ fun v3=>?_
 refine aq ?_
 refine nt ?_
 refine sr ?_
 refine mq ?_
 refine aq ?_
 refine nt ?_
 refine aM (Z:=Unit) (α:=(List Int)×(List (List Int))) (fun z5 x4=>[(10,.eq v3),(11,.rep (.slice (.slice (.int .i64))) x4.2)]) (fun z5 x4=>[.sl v3 3 (.int .i64) x4.1]) h (fun K h=>?_) (fun z5 x4 h=>?_)
 ·
  refine sr (mq ?_);refine aq (nt (ao ?_));refine aK (fun z7 y6=>[(3,I a3),(4,Pt b1),(10,.eq v3),(11,.rep (.slice (.slice (.int .i64))) y6.2.1),(12,I y6.2.2)]) (fun z7 y6=>[.obj b1 25 (.rep ap a0),.sl v3 3 (.int .i64) y6.1]) (jD k a0 a3) k () (List.replicate (Int.toNat (a0.2.1.length:Int)) 0,a1,a2) (fun _=>rfl) h (SE.fin [1,0] ⟨rfl,rfl,rfl,rfl,rfl,trivial⟩ rfl) (fun n z7 y6 h=>?_);unfold jD at h;refine ae (sr ?_);iterate 2 refine mq ?_
  refine jb (bj rfl) ?_;refine nt (ci h (fun h=>?_) (fun h=>?_))
  ·refine sk (aM (Z:=Value) (α:=(List Int)×(List (List Int))) (fun z9 x8=>[(3,I a3),(4,Pt b1),(10,.eq v3),(11,.eq z9),(12,I y6.2.2)]) (fun z9 x8=>[.obj b1 25 (.rep ap a0),.sl v3 3 (.int .i64) x8.1,.sl z9 23 (.slice (.int .i64)) x8.2]) h (fun K h=>?_) (fun z9 x8 h=>?_))
   ·refine ao (sr (cq (nt ?_)));refine aM (Z:=Value) (α:=(List Int)×(List (List Int))) (fun y u=>[(3,I a3),(4,Pt b1),(10,.eq v3),(12,I y6.2.2),(13,.eq y)]) (fun y u=>[.obj b1 25 (.rep ap a0),.sl v3 3 (.int .i64) u.1,.sl y 23 (.slice (.int .i64)) u.2]) h (fun K h=>?_) (fun y u h=>?_)
    ·refine sr (cq (nt (ao ?_)));refine dN (SE.nil 23 (.slice (.int .i64))) ?_;refine aK (fun e c=>[(3,I a3),(4,Pt b1),(10,.eq v3),(11,.rep (.slice (.slice (.int .i64))) y6.2.1),(12,I y6.2.2),(13,.eq e),(14,I c.2.2)]) (fun e c=>[.obj b1 25 (.rep ap a0),.sl v3 3 (.int .i64) c.1,.sl e 23 (.slice (.int .i64)) c.2.1]) (iG k a0 y6) k (.slice none 0 0) (y6.1,([]:(List (List Int))),0) (fun _=>rfl) h (SE.fin [1,2,0] ⟨rfl,rfl,rfl,rfl,rfl,rfl,rfl,trivial⟩ rfl) (fun n e c h=>?_);unfold iG at h;refine ae (sr ?_);iterate 2 refine mq ?_
     refine ol mA ?_;refine jb (bj rfl) ?_;refine nt (ci h (fun h=>?_) (fun h=>?_))
     ·refine sk (aM (Z:=Value) (α:=(List Int)×(List (List Int))) (fun x s=>[(3,I a3),(4,Pt b1),(10,.eq v3),(11,.rep (.slice (.slice (.int .i64))) y6.2.1),(12,I y6.2.2),(13,.eq x),(14,I c.2.2)]) (fun x s=>[.obj b1 25 (.rep ap a0),.sl v3 3 (.int .i64) s.1,.sl x 23 (.slice (.int .i64)) s.2]) h (fun K h=>?_) (fun x s h=>?_))
      ·refine ao (ae (bO ?_));refine ea 0 (aj rfl cJ (vX) rfl) ?_;refine dm ?_;refine dm ?_;obtain⟨Ur,pp,h⟩:=aa h;refine db (aF (t:=(.slice (.int .i64))) rfl mA bR pp) ?_;refine da (an (t:=(.slice (.int .i64))) rfl bR rfl) ?_;refine dm ?_;obtain⟨j,Uk,h⟩:=aa h;refine dc (ar [.tmp 36,.tmp 40,.tmp 41] rfl rfl QM rfl (BJ k a0 Ur y6.2.2 j Uk)) ?_;refine dm ?_;refine da (dH rfl rfl) ?_;refine da (dH rfl rfl) ?_;refine da (gr rfl) ?_;refine df cD ?_;refine aq (nt ?_);refine aM (Z:=Unit) (α:=(List Int)) (fun M D=>[(3,I a3),(4,Pt b1),(10,.eq v3),(11,.rep (.slice (.slice (.int .i64))) y6.2.1),(12,I y6.2.2),(13,.eq e),(14,I c.2.2),(16,Ri j.2)]) (fun M D=>[.obj b1 25 (.rep ap a0),.sl v3 3 (.int .i64) D,.sl e 23 (.slice (.int .i64)) c.2.1]) h (fun K h=>?_) (fun M D h=>?_)
       ·refine sr (cq (nt (ao ?_)));refine aK (fun J l=>[(3,I a3),(4,Pt b1),(10,.eq v3),(11,.rep (.slice (.slice (.int .i64))) y6.2.1),(12,I y6.2.2),(13,.eq e),(14,I c.2.2),(15,Ri j.1),(16,Ri j.2),(17,I l.2)]) (fun J l=>[.obj b1 25 (.rep ap a0),.sl v3 3 (.int .i64) l.1,.sl e 23 (.slice (.int .i64)) c.2.1]) (iE k j) k () (c.1,0) (fun _=>rfl) h (SE.fin [0,1,2] ⟨rfl,rfl,rfl,rfl,rfl,rfl,rfl,rfl,rfl,rfl,trivial⟩ rfl) (fun n J l h=>?_);unfold iE at h;refine ae (sr ?_);iterate 2 refine mq ?_
        refine ol dA ?_;refine jb (bj rfl) ?_;refine nt (ci h (fun h=>?_) (fun h=>?_))
        ·refine sk (ae (ao (bO ?_)));refine dm ?_;refine dm ?_;refine dm ?_;obtain⟨O,mc,h⟩:=aa h;refine db (aF (t:=(.int .i64)) rfl dA cg mc) ?_;refine da (an (t:=(.int .i64)) rfl cg rfl) ?_;refine dm ?_;refine dm ?_;refine dm ?_;obtain⟨Up,ac,h⟩:=aa h;refine db (aF (t:=(.int .i64)) rfl dA cg ac) ?_;refine da (an (t:=(.int .i64)) rfl cg rfl) ?_;obtain⟨Uu,F,h⟩:=aa h;refine eb 1 (aZ (t:=(.int .i64)) rfl dA cg F) ?_;refine ea 1 (dG (i:=Int.toNat Up) (off:=0) rfl cg (fun _=>rfl) rfl (cm F).2.2 rfl) ?_;obtain⟨Uo,Y,h⟩:=aa h;refine db (bg rfl Y) ?_;refine df cD ?_;obtain⟨Ut,E,h⟩:=aa h;refine fr 1 ?_;refine kb (aZ (t:=(.int .i64)) rfl dA cg E) ?_;refine bf rfl rfl (cF (i:=Int.toNat O) rfl cg rfl (gf E) rfl .int rfl) ⟨rfl,rfl,trivial⟩ ?_;refine au (aN (tn (ab (mq ?_))));obtain⟨Un,X,h⟩:=aa h;refine jb (bg rfl X) ?_;refine aq (nl ?_);exact jz ((),(List.set l.1 (Int.toNat O) Uo,Un)) h [1,0,2]
        ·refine xa ?_;exact jz ((),l.1) h [0,1,2]
       ·refine ab ?_;iterate 2 refine mq ?_
        refine ja (bp (t:=(.slice (.int .i64))) [(.tmp 66,_)] [j.2] rfl rfl oV (.cons rfl .rep .nil) rfl rfl) ?_;obtain⟨Uw,qt,h⟩:=aa h;refine fr 2 ?_;refine c6 rfl rfl rfl (bH rfl rfl oV (aB qt)) ⟨rfl,rfl,trivial⟩ fun Us=>?_;refine aq (au (bn ?_));exact jz (Us,(D,c.2.1++[j.2])) h [1,2,0]
      ·refine ab (mq ?_);obtain⟨Um,U,h⟩:=aa h;refine jb (bg rfl U) ?_;refine aq (nl ?_);exact jz (x,(s.1,s.2,Um)) h [0,1,2]
     ·refine xa ?_;exact jz (e,(c.1,c.2.1)) h [0,1,2]
    ·refine ab (mq ?_);refine aq (au (bn ?_));exact jz (y,(u.1,u.2)) h [0,1,2]
   ·refine ab (mq ?_);obtain⟨Ul,Q,h⟩:=aa h;refine jb (bg rfl Q) ?_;refine aq (nl ?_);refine dk 2 rfl ?_;refine bv (eK [11] ⟨rfl,trivial⟩) ?_;exact jz ((),(x8.1,x8.2,Ul)) h [0,1]
  ·refine xa ?_;exact jz ((),(y6.1,y6.2.1)) h [1]
 ·
  refine sr ?_;iterate 2 refine mq ?_
  refine aq ?_;refine aq (nt (aA ?_));refine bv (eK [8,10,70] ⟨rfl,rfl,rfl,trivial⟩) ?_;cases h;exact rb
def fh(k:Nat)(a0:aP)(a1:aP):Nat→Int→Option (Except Bool Unit)
 |0,_=>none
 |n+1,y8=>
  if y8 < (a0.2.1.length:Int) then((((aS a0.2.1 y8).bind fun l=>
  (aS a1.2.1 y8).bind fun j=>
  if¬(l.1=j.1) then(some true) else((aS a0.2.1 y8).bind fun h=>
  (aS a1.2.1 y8).bind fun e=>
  (dC k h.2 e.2).bind fun s=>
  some (!s))):Option (Bool)).bind fun r=>
  if r=true then(some (.error false)) else((ck (y8+1)).bind fun c=>
  fh k a0 a1 n c)) else(some (.ok ()))
def jg(k:Nat)(a0:aP)(a1:aP):Option Bool:=
 ((if¬(a0.1=a1.1) then(some true) else(if¬((a0.2.1.length:Int)=(a1.2.1.length:Int)) then(some true) else((dC k a0.2.2 a1.2.2).bind fun r5=>
 some (!r5)))):Option (Bool)).bind fun x3=>
 if x3=true then(some false) else(bE (α:=Unit) (fh k a0 a1 k 0) (some) fun _=>
 some true)
theorem tB(k:Nat)(a0:aP)(a1:aP)(r:Bool)(h:jg k a0 a1=some r):
 bZ Tryz.prog 26 [.rep ap a0,.rep ap a1] [] (fun _:Unit=>(bu [.eq (.bool r)],[])):=by
 unfold jg at h
 replace h:=bb h
 refine bZ.of 64 Tryz.func26 rfl Tryz.ntmps26 rfl fun S w0=>?_
 refine sr ?_
 refine bx fun b1=>?_
 refine bx fun b2=>?_
 refine cq ?_
 refine nt ?_
 refine ae ?_
 refine aM (Z:=Unit) (α:=Bool) (fun z4 x3=>[(2,Pt b1),(3,Pt b2),(27,.eq (.bool x3))]) (fun z4 x3=>[.obj b1 25 (.rep ap a0),.obj b2 25 (.rep ap a1)]) h (fun K h=>?_) (fun z4 x3 h=>?_)
 ·
  refine ab (fl fp ?_);refine fr 1 ?_;refine lo cg ?_;refine fl fp ?_;refine fr 1 ?_;refine lo cg ?_;refine jb (gP rfl) ?_;refine mq ?_;refine ct (s:=11) rfl (fun hb=>?_) (fun hb=>?_)
  ·replace h:=cH (Jl hb) h;iterate 7 refine gn ?_
   refine pt ?_;refine mq ?_;iterate 6 refine gn ?_
   refine pt (nl ?_);exact jz ((),true) h [1,0]
  ·replace h:=bS (wu hb) h;refine ga (av rfl bU) ?_;refine fr 1 ?_;refine jA rfl rfl rfl rfl rfl rfl (aj rfl eR jt rfl) ⟨rfl,trivial⟩ ?_;refine ga (jE rfl rfl mB) ?_;refine ga (av rfl bU) ?_;refine fr 1 ?_;refine jA rfl rfl rfl rfl rfl rfl (aj rfl eR jt rfl) ⟨rfl,trivial⟩ ?_;refine ga (jE rfl rfl mB) ?_;refine gb (gP rfl) ?_;refine pf ?_;refine mq ?_;refine ct (s:=20) rfl (fun hb=>?_) (fun hb=>?_)
   ·replace h:=cH (Jl hb) h;iterate 6 refine gn ?_
    refine pt (nl ?_);exact jz ((),true) h [1,0]
   ·replace h:=bS (wu hb) h;refine ga (av rfl cK) ?_;refine fr 1 ?_;refine jA rfl rfl rfl rfl rfl rfl (aj rfl bR jt rfl) ⟨rfl,trivial⟩ ?_;refine ga (av rfl cK) ?_;refine fr 1 ?_;refine jA rfl rfl rfl rfl rfl rfl (aj rfl bR jt rfl) ⟨rfl,trivial⟩ ?_;obtain⟨r5,Q,h⟩:=aa h;refine gb (ar [.tmp 22,.tmp 24] rfl rfl Ft rfl (fH k a0.2.2 a1.2.2 r5 Q)) ?_;refine ga (eC rfl) ?_;refine pf (nl ?_);exact jz ((), !r5) h [1,0]
 ·
  refine cv h (fun h=>?_) (fun h=>?_)
  ·refine sr (cq (nt (rx ?_)));cases h;exact ra
  ·refine sk (dQ (Z:=Unit) (α:=Unit) (fun z7 x6=>[]) (fun z7 x6=>[]) (fun e=>e=r) h (fun e h=>Option.some.inj h) (fun K hR h=>?_) (fun z7 x6 h=>?_))
   ·refine sr (cq (nt (ao ?_)));refine aK (fun z9 y8=>[(2,Pt b1),(3,Pt b2),(5,I y8)]) (fun z9 y8=>[.obj b1 25 (.rep ap a0),.obj b2 25 (.rep ap a1)]) (fh k a0 a1) k () 0 (fun _=>rfl) h (SE.fin [0,1] ⟨rfl,rfl,rfl,trivial⟩ rfl) (fun n z9 y8 h=>?_);unfold fh at h;refine ae (sr (mq ?_));refine fl bU ?_;refine lo eR ?_;refine ol mB ?_;refine jb (bj rfl) ?_;refine nt (ci h (fun h=>?_) (fun h=>?_))
    ·refine sk (ae (ao (aM (Z:=Unit) (α:=Bool) (fun j c=>[(2,Pt b1),(3,Pt b2),(5,I y8),(63,.eq (.bool c))]) (fun j c=>[.obj b1 25 (.rep ap a0),.obj b2 25 (.rep ap a1)]) h (fun K h=>?_) (fun j c h=>?_))))
     ·refine bO ?_;refine da (av rfl bU) ?_;refine ea 0 (aj rfl eR jt rfl) ?_;refine dm ?_;obtain⟨X,E,h⟩:=aa h;refine db (aF (t:=aH) rfl mB gC E) ?_;refine da (aJ 1 false rfl kB rfl) ?_;refine da (an (t:=(.int .i64)) rfl cg rfl) ?_;refine da (av rfl bU) ?_;refine ea 1 (aj rfl eR jt rfl) ?_;refine dm ?_;obtain⟨U,D,h⟩:=aa h;refine db (aF (t:=aH) rfl mB gC D) ?_;refine da (aJ 1 false rfl kB rfl) ?_;refine da (an (t:=(.int .i64)) rfl cg rfl) ?_;refine db (gP rfl) ?_;refine kN rfl rfl rfl (aL rfl) ⟨rfl,trivial⟩ (fun hb=>?_) (fun hb=>?_)
      ·replace h:=cH (Jl hb) h;iterate 12 refine dg ?_
       refine df cD ?_;iterate 2 refine gn ?_
       refine pt (nl ?_);exact jz ((),true) h [0,1]
      ·replace h:=bS (wu hb) h;refine aW rfl rfl rfl rfl rfl (av rfl bU) ⟨rfl,rfl,trivial⟩ ?_;refine kd 0 rfl rfl rfl rfl rfl rfl (aj rfl eR jt rfl) ⟨rfl,rfl,trivial⟩ ?_;refine aW rfl rfl rfl rfl rfl (aL rfl) ⟨rfl,rfl,trivial⟩ ?_;obtain⟨O,y,h⟩:=aa h;refine aW rfl rfl rfl rfl rfl (aF (t:=aH) rfl mB gC y) ⟨rfl,rfl,rfl,trivial⟩ ?_;refine aW rfl rfl rfl rfl rfl (aJ 1 false rfl j0 rfl) ⟨rfl,rfl,trivial⟩ ?_;refine aW rfl rfl rfl rfl rfl (an (t:=(.slice (.int .i64))) rfl bR rfl) ⟨rfl,rfl,trivial⟩ ?_;refine aW rfl rfl rfl rfl rfl (av rfl bU) ⟨rfl,rfl,trivial⟩ ?_;refine kd 1 rfl rfl rfl rfl rfl rfl (aj rfl eR jt rfl) ⟨rfl,rfl,trivial⟩ ?_;refine aW rfl rfl rfl rfl rfl (aL rfl) ⟨rfl,rfl,trivial⟩ ?_;obtain⟨M,x,h⟩:=aa h;refine aW rfl rfl rfl rfl rfl (aF (t:=aH) rfl mB gC x) ⟨rfl,rfl,rfl,trivial⟩ ?_;refine aW rfl rfl rfl rfl rfl (aJ 1 false rfl j0 rfl) ⟨rfl,rfl,trivial⟩ ?_;refine aW rfl rfl rfl rfl rfl (an (t:=(.slice (.int .i64))) rfl bR rfl) ⟨rfl,rfl,trivial⟩ ?_;refine df cD ?_;obtain⟨l,F,h⟩:=aa h;refine gb (ar [.tmp 54,.tmp 60] rfl rfl Ft rfl (fH k O.2 M.2 l F)) ?_;refine ga (eC rfl) ?_;refine pf (nl ?_);exact jz ((), !l) h [0,1]
     ·refine cv h (fun h=>?_) (fun h=>?_)
      ·refine sr (cq (nt (aA (br (bi (aV ?_))))));obtain rfl:=hR _ h;exact ra
      ·refine aY (aN (tn (ab (mq ?_))));obtain⟨J,u,h⟩:=aa h;refine jb (bg rfl u) ?_;refine aq (nl ?_);exact jz ((),J) h [0,1]
    ·refine xa ?_;exact jz ((),()) h []
   ·refine sr (cq (nt (aA ?_)));cases h;exact ra
def g7(k:Nat)(r2:(List Int)×(List (List Int))):Nat→(Int×Int)→Option Int
 |0,_=>none
 |n+1,y5=>
  if y5.2 < (r2.1.length:Int) then((aS r2.1 y5.2).bind fun x7=>
  (ck (y5.1+x7)).bind fun x8=>
  (ck (y5.2+1)).bind fun x9=>
  g7 k r2 n (x8,x9)) else(some y5.1)
def nj(k:Nat)(a0:aP)(a1:(List (List Int)))(a2:Int):Option Int:=
 (nk k a0 a1 a2 a0.1).bind fun r2=>
 ((g7 k r2 k (0,0)):Option (Int)).bind fun x3=>
 some x3
theorem xU(k:Nat)(a0:aP)(a1:(List (List Int)))(a2:Int)(r:Int)(h:nj k a0 a1 a2=some r):
 bZ Tryz.prog 71 [.rep ap a0,.rep (.slice (.slice (.int .i64))) a1,I a2] [] (fun _:Unit=>(bu [I r],[])):=by
 unfold nj at h
 replace h:=bb h
 refine bZ.of 33 Tryz.func71 rfl Tryz.ntmps71 rfl fun S w0=>?_
 refine sr ?_
 refine bx fun b1=>?_
 refine cq ?_
 refine nt ?_
 refine sr ?_
 refine lo cJ ?_
 iterate 2 refine mq ?_
 refine fl fp ?_
 refine lo cg ?_
 obtain⟨r2,l,h⟩:=aa h
 have s:=tZ k a0 a1 a2 a0.1 r2 l
 refine aG rfl (ar [.tmp 12,.tmp 13,.tmp 14,.tmp 16] rfl rfl Qk rfl s) ⟨rfl,rfl,rfl,rfl,trivial⟩ ?_
 refine mq ?_
 refine xr ?_
 refine xr ?_
 refine aq ?_
 refine aq ?_
 refine nt ?_
 refine sr ?_
 refine cq ?_
 refine nt ?_
 refine aM (Z:=Unit) (α:=Int) (fun z4 x3=>[(9,I x3)]) (fun z4 x3=>[]) h (fun K h=>?_) (fun z4 x3 h=>?_)
 ·
  refine sr (cq (nt (ao ?_)));refine aK (fun z6 y5=>[(7,Ri r2.1),(9,I y5.1),(10,I y5.2)]) (fun z6 y5=>[]) (g7 k r2) k () (0,0) (fun _=>rfl) h (SE.fin [] ⟨rfl,rfl,rfl,trivial⟩ rfl) (fun n z6 y5 h=>?_);unfold g7 at h;refine ae (sr ?_);iterate 2 refine mq ?_
  refine ol dA ?_;refine jb (bj rfl) ?_;refine nt (ci h (fun h=>?_) (fun h=>?_))
  ·refine sk (ae (ao (ab ?_)));iterate 3 refine mq ?_
   obtain⟨x7,j,h⟩:=aa h;refine jb (aF (t:=(.int .i64)) rfl dA cg j) ?_;refine ja (an (t:=(.int .i64)) rfl cg rfl) ?_;obtain⟨x8,e,h⟩:=aa h;refine jb (bg rfl e) ?_;refine aq (au (aN (tn (ab ?_))));refine mq ?_;obtain⟨x9,c,h⟩:=aa h;refine jb (bg rfl c) ?_;refine aq (nl ?_);exact jz ((),(x8,x9)) h []
  ·refine xa ?_;exact jz ((),y5.1) h []
 ·
  refine sr (mq ?_);refine aq (nt (aA ?_));cases h;exact ra
def lG(k:Nat)(a0:aP)(a1:(List (List Int))):Option (Int×Int):=
 (dT k a0 a1).bind fun r2=>
 if¬(r2=0) then(some (0,r2)) else((nj k a0 a1 0).bind fun r3=>
 some (r3,0))
theorem xX(k:Nat)(a0:aP)(a1:(List (List Int)))(r:Int×Int)(h:lG k a0 a1=some r):
 bZ Tryz.prog 36 [.rep ap a0,.rep (.slice (.slice (.int .i64))) a1] [] (fun _:Unit=>(bu [I r.1,I r.2],[])):=by
 unfold lG at h
 replace h:=bb h
 refine bZ.of 16 Tryz.func36 rfl Tryz.ntmps36 rfl fun S w0=>?_
 refine sr ?_
 refine bx fun b1=>?_
 refine cq ?_
 refine cq ?_
 refine nt ?_
 refine ae ?_
 refine sr ?_
 refine lo cJ ?_
 refine mq ?_
 obtain⟨r2,e,h⟩:=aa h
 have j:=lp k a0 a1 r2 e
 refine jb (ar [.tmp 7,.tmp 8] rfl rfl Qn rfl j) ?_
 refine aq ?_
 refine nt ?_
 refine sr ?_
 refine mq ?_
 refine jb (gP rfl) ?_
 refine nt ?_
 refine cn h (fun h=>?_) (fun h=>?_)
 ·
  refine sr (mq ?_);refine cq ?_;refine aq (nt (rx ?_));cases h;exact rb
 ·
  refine sk (sr (lo cJ ?_));refine mq ?_;obtain⟨r3,c,h⟩:=aa h;refine jc (ar [.tmp 13,.tmp 14,.const (.int .i64 (0))] rfl rfl SR rfl (xU k a0 a1 0 r3 c)) ?_;refine aq ?_;refine cq (nt (aA ?_));cases h;exact rb
def lF(k:Nat)(a0:aP)(a1:(List (List Int))):Option ((List Int)×Int):=
 (dT k a0 a1).bind fun r2=>
 if¬(r2=0) then(some ([],r2)) else((nk k a0 a1 0 a0.1).bind fun r3=>
 some (r3.1,0))
theorem xW(k:Nat)(a0:aP)(a1:(List (List Int)))(r:(List Int)×Int)(h:lF k a0 a1=some r):
 bZ Tryz.prog 38 [.rep ap a0,.rep (.slice (.slice (.int .i64))) a1] [] (fun _:Unit=>(bu [Ri r.1,I r.2],[])):=by
 unfold lF at h
 replace h:=bb h
 refine bZ.of 24 Tryz.func38 rfl Tryz.ntmps38 rfl fun S w0=>?_
 refine sr ?_
 refine bx fun b1=>?_
 refine cq ?_
 refine cq ?_
 refine nt ?_
 refine ae ?_
 refine sr ?_
 refine lo cJ ?_
 refine mq ?_
 obtain⟨r2,e,h⟩:=aa h
 have j:=lp k a0 a1 r2 e
 refine jb (ar [.tmp 9,.tmp 10] rfl rfl Qn rfl j) ?_
 refine aq ?_
 refine nt ?_
 refine sr ?_
 refine mq ?_
 refine jb (gP rfl) ?_
 refine nt ?_
 refine cn h (fun h=>?_) (fun h=>?_)
 ·
  refine sr (mq ?_);refine cq ?_;refine aq (nt (rx ?_));refine bv (ml (t:=(.slice (.int .i64))) (x:=[]) 4 rfl .nil rfl rfl) ?_;cases h;exact rb
 ·
  refine sk (sr (lo cJ ?_));refine mq ?_;refine fl fp ?_;refine lo cg ?_;obtain⟨r3,c,h⟩:=aa h;refine aG rfl (ar [.tmp 16,.tmp 17,.const (.int .i64 (0)),.tmp 19] rfl rfl Qk rfl (tZ k a0 a1 0 a0.1 r3 c)) ⟨rfl,rfl,rfl,rfl,trivial⟩ ?_;refine mq ?_;refine xr ?_;refine xr ?_;refine aq ?_;refine aq (nt (sr ?_));refine mq ?_;refine aq ?_;refine cq (nt (aA ?_));cases h;exact rb
end Go.Proofs.YtghkncjelangeaaGreatDoor
