import Derived.Test.YtghkncjelangeaaGreatDoorQBFacts
set_option linter.unusedSimpArgs false
set_option linter.unusedVariables false
set_option maxRecDepth 4000
set_option maxHeartbeats 1000000
namespace Go.Proofs.YtghkncjelangeaaGreatDoor
open K Go Go.Proofs
def jW(k:Nat)(a0:aQ):Nat→Int→Option (Except Bool Unit)
 |0,_=>none
 |n+1,y6=>
  if y6 < (a0.2.1.length:Int) then((aP a0.2.1 y6).bind fun x8=>
  if 20 < (x8.2.length:Int) then(some (.error true)) else((ck (y6+1)).bind fun x9=>
  jW k a0 n x9)) else(some (.ok ()))
def nE(k:Nat)(a0:aQ):Option Bool:=
 ((if 20 < (a0.2.1.length:Int) then(some true) else(some (decide (20 < (a0.2.2.length:Int))))):Option (Bool)).bind fun x2=>
 if x2=true then(some true) else(bE (α:=Unit) (jW k a0 k 0) (some) fun _=>
 ((if(a0.2.1.length:Int)=5 then(some (decide ((a0.2.2.length:Int)=3))) else(some false)):Option (Bool)).bind fun c=>
 some c)
theorem AB(k:Nat)(a0:aQ)(r:Bool)(h:nE k a0=some r):
 cd Tryz.prog 10 [.rep av a0] [] (fun _:Unit=>(bv [.eq (.bool r)],[])):=by
 unfold nE at h
 replace h:=a9 h
 refine cd.of 39 Tryz.func10 rfl Tryz.ntmps10 rfl fun S w0=>?_
 refine sr ?_
 refine bx fun b1=>?_
 refine cq ?_
 refine nt ?_
 refine ae ?_
 refine aL (Z:=Unit) (α:=Bool) (fun z3 x2=>[(1,Pt b1),(13,.eq (.bool x2))]) (fun z3 x2=>[.obj b1 25 (.rep av a0)]) h (fun K h=>?_) (fun z3 x2 h=>?_)
 ·
  refine ab (fl bV ?_);refine lo eU ?_;refine ol mG ?_;refine jb (iz rfl) ?_;refine mq ?_;refine cm (s:=8) rfl (fun hb=>?_) (fun hb=>?_)
  ·replace h:=cE (oq hb) h;iterate 4 refine gn ?_
   refine pt (nl ?_);exact jz ((),true) h [0]
  ·replace h:=bQ (nN hb) h;refine ga (ar rfl cK) ?_;refine jR rfl rfl rfl rfl rfl rfl (aj rfl bG jr rfl) ⟨rfl,trivial⟩ ?_;refine ga (jm rfl rfl dE) ?_;refine gb (iz rfl) ?_;refine pf (nl ?_);exact jz ((),decide (20 < (a0.2.2.length:Int))) h [0]
 ·
  refine cv h (fun h=>?_) (fun h=>?_)
  ·refine sr (cq (nt (rx ?_)));cases h;exact ra
  ·refine sk (dS (Z:=Unit) (α:=Unit) (fun z5 x4=>[(1,Pt b1)]) (fun z5 x4=>[.obj b1 25 (.rep av a0)]) (fun e=>e=r) h (fun e h=>Option.some.inj h) (fun K hR h=>?_) (fun z5 x4 h=>?_))
   ·refine sr (cq (nt (ao ?_)));refine aJ (fun z7 y6=>[(1,Pt b1),(3,I y6)]) (fun z7 y6=>[.obj b1 25 (.rep av a0)]) (jW k a0) k () 0 (fun _=>rfl) h (SE.fin [0] ⟨rfl,rfl,trivial⟩ rfl) (fun n z7 y6 h=>?_);unfold jW at h;refine ae (sr (mq ?_));refine fl bV ?_;refine lo eU ?_;refine ol mG ?_;refine jb (bm rfl) ?_;refine nt (ci h (fun h=>?_) (fun h=>?_))
    ·refine sk (ae (ao (sr (fl bV ?_))));refine lo eU ?_;refine mq ?_;obtain⟨x8,u,h⟩:=aa h;refine jb (aC (t:=aZ) rfl mG kh u) ?_;refine ja (aI 1 false rfl kz rfl) ?_;refine ja (ak (t:=(.slice (.int .i64))) rfl bG rfl) ?_;refine ol dE ?_;refine jb (iz rfl) ?_;refine nt (ci h (fun h=>?_) (fun h=>?_))
     ·refine sr (cq (nt (aA (br (bj (aV ?_))))));obtain rfl:=hR _ h;exact ra
     ·refine aW (aM (tn (ab (mq ?_))));obtain⟨x9,l,h⟩:=aa h;refine jb (bb rfl l) ?_;refine aq (nl ?_);exact jz ((),x9) h [0]
    ·refine xa ?_;exact jz ((),()) h [0]
   ·refine aL (Z:=Unit) (α:=Bool) (fun j c=>[(2,.eq (.bool c))]) (fun j c=>[]) h (fun K h=>?_) (fun j c h=>?_)
    ·refine ab (fl bV ?_);refine lo eU ?_;refine ol mG ?_;refine jb (fL rfl) ?_;refine mq ?_;refine cm (s:=33) rfl (fun hb=>?_) (fun hb=>?_)
     ·replace h:=cE (oq hb) h;refine ga (ar rfl cK) ?_;refine jR rfl rfl rfl rfl rfl rfl (aj rfl bG jr rfl) ⟨rfl,trivial⟩ ?_;refine ga (jm rfl rfl dE) ?_;refine gb (fL rfl) ?_;refine pt ?_;refine aq (nl ?_);exact jz ((),decide ((a0.2.2.length:Int)=3)) h []
     ·replace h:=bQ (nN hb) h;iterate 4 refine gn ?_
      refine pf ?_;refine aq (nl ?_);exact jz ((),false) h []
    ·refine aA ?_;cases h;exact ra
def jV(k:Nat)(a0:(List (List Int))):Nat→Int→Option (Except Bool Unit)
 |0,_=>none
 |n+1,y3=>
  ((if y3 < (a0.length:Int) then(some (decide (y3 < 20))) else(some false)):Option (Bool)).bind fun x5=>
  if x5=true then((aP a0 y3).bind fun x7=>
  if 20 < (x7.length:Int) then(some (.error true)) else((ck (y3+1)).bind fun x8=>
  jV k a0 n x8)) else(some (.ok ()))
def nD(k:Nat)(a0:(List (List Int))):Option Bool:=
 bE (α:=Unit) (jV k a0 k 0) (some) fun _=>
 some (decide (20 < (a0.length:Int)))
theorem AA(k:Nat)(a0:(List (List Int)))(r:Bool)(h:nD k a0=some r):
 cd Tryz.prog 11 [.rep (.slice (.slice (.int .i64))) a0] [] (fun _:Unit=>(bv [.eq (.bool r)],[])):=by
 unfold nD at h
 replace h:=a9 h
 refine cd.of 23 Tryz.func11 rfl Tryz.ntmps11 rfl fun S w0=>?_
 refine sr ?_
 refine cq ?_
 refine nt ?_
 refine dS (Z:=Unit) (α:=Unit) (fun z2 x1=>[(0,.rep (.slice (.slice (.int .i64))) a0)]) (fun z2 x1=>[]) (fun e=>e=r) h (fun e h=>Option.some.inj h) (fun K hR h=>?_) (fun z2 x1 h=>?_)
 ·
  refine sr (cq (nt (ao ?_)));refine aJ (fun z4 y3=>[(0,.rep (.slice (.slice (.int .i64))) a0),(3,I y3)]) (fun z4 y3=>[]) (jV k a0) k () 0 (fun _=>rfl) h (SE.fin [] ⟨rfl,rfl,trivial⟩ rfl) (fun n z4 y3 h=>?_);unfold jV at h;refine ae (aL (Z:=Unit) (α:=Bool) (fun z6 x5=>[(0,.rep (.slice (.slice (.int .i64))) a0),(3,I y3),(11,.eq (.bool x5))]) (fun z6 x5=>[]) h (fun K h=>?_) (fun z6 x5 h=>?_))
  ·refine ab ?_;iterate 2 refine mq ?_
   refine ol lE ?_;refine jb (bm rfl) ?_;refine mq ?_;refine cm (s:=8) rfl (fun hb=>?_) (fun hb=>?_)
   ·replace h:=cE (oq hb) h;refine gm ?_;refine gb (bm rfl) ?_;refine pt (nl ?_);exact jz ((),decide (y3 < 20)) h []
   ·replace h:=bQ (nN hb) h;iterate 2 refine gn ?_
    refine pf (nl ?_);exact jz ((),false) h []
  ·refine cv h (fun h=>?_) (fun h=>?_)
   ·refine sk (ae (ao (sr ?_)));iterate 2 refine mq ?_
    obtain⟨x7,j,h⟩:=aa h;refine jb (aC (t:=(.slice (.int .i64))) rfl lE bG j) ?_;refine ja (ak (t:=(.slice (.int .i64))) rfl bG rfl) ?_;refine ol dE ?_;refine jb (iz rfl) ?_;refine nt (ci h (fun h=>?_) (fun h=>?_))
    ·refine sr (cq (nt (aA (br (bj (aV ?_))))));obtain rfl:=hR _ h;exact ra
    ·refine aW (aM (tn (ab (mq ?_))));obtain⟨x8,c,h⟩:=aa h;refine jb (bb rfl c) ?_;refine aq (nl ?_);exact jz ((),x8) h []
   ·refine xa ?_;exact jz ((),()) h []
 ·
  refine sr (mq ?_);refine ol lE ?_;refine jb (iz rfl) ?_;refine aq (nt (aA ?_));cases h;exact ra
def eN(k:Nat)(a0:Int)(a1:Int)(a2:Int):Option Bool:=
 ((if a1≤a0 then(some (decide (a0≤a2))) else(some false)):Option (Bool)).bind fun x1=>
 some x1
theorem eY(k:Nat)(a0:Int)(a1:Int)(a2:Int)(r:Bool)(h:eN k a0 a1 a2=some r):
 cd Tryz.prog 53 [I a0,I a1,I a2] [] (fun _:Unit=>(bv [.eq (.bool r)],[])):=by
 unfold eN at h
 replace h:=a9 h
 refine cd.of 15 Tryz.func53 rfl Tryz.ntmps53 rfl fun S w0=>?_
 refine sr ?_
 refine cq ?_
 refine nt ?_
 refine aL (Z:=Unit) (α:=Bool) (fun z2 x1=>[(6,.eq (.bool x1))]) (fun z2 x1=>[]) h (fun K h=>?_) (fun z2 x1 h=>?_)
 ·
  refine ab ?_;iterate 2 refine mq ?_
  refine jb (vv rfl) ?_;refine mq ?_;refine cm (s:=10) rfl (fun hb=>?_) (fun hb=>?_)
  ·replace h:=cE (oq hb) h;refine gm ?_;refine gm ?_;refine gb (vv rfl) ?_;refine pt ?_;refine aq (nl ?_);exact jz ((),decide (a0≤a2)) h []
  ·replace h:=bQ (nN hb) h;iterate 3 refine gn ?_
   refine pf ?_;refine aq (nl ?_);exact jz ((),false) h []
 ·
  refine aA ?_;cases h;exact ra
def dh(k:Nat)(a0:aQ)(a1:eM):Nat→Int→Option (Except Int Unit)
 |0,_=>none
 |n+1,y6=>
  if y6 < (a1.2.length:Int) then((aP a1.2 y6).bind fun x8=>
  (ck (a0.1 - 1)).bind fun x9=>
  (eN k x8 0 x9).bind fun l=>
  if¬(l=true) then(some (.error 1)) else(((if 0 < y6 then((ck (y6 - 1)).bind fun h=>
  (aP a1.2 h).bind fun e=>
  some (decide (x8≤e))) else(some false)):Option (Bool)).bind fun j=>
  if j=true then(some (.error 5)) else((ck (y6+1)).bind fun c=>
  dh k a0 a1 n c))) else(some (.ok ()))
def iN(k:Nat)(a0:aQ)(a1:eM):Option Int:=
 (eN k a1.1 1 3).bind fun r3=>
 if¬(r3=true) then(some 1) else(bE (α:=Unit) (dh k a0 a1 k 0) (some) fun _=>
 some 0)
theorem rH(k:Nat)(a0:aQ)(a1:eM)(r:Int)(h:iN k a0 a1=some r):
 cd Tryz.prog 62 [.rep av a0,.rep aZ a1] [] (fun _:Unit=>(bv [I r],[])):=by
 unfold iN at h
 replace h:=a9 h
 refine cd.of 38 Tryz.func62 rfl Tryz.ntmps62 rfl fun S w0=>?_
 refine sr ?_
 refine bx fun b1=>?_
 refine bx fun b2=>?_
 refine cq ?_
 refine nt ?_
 refine ae ?_
 refine sr ?_
 refine fl kQ ?_
 refine lo co ?_
 obtain⟨r3,O,h⟩:=aa h
 have Q:=eY k a1.1 1 3 r3 O
 refine jc (ap [.tmp 8,.const (.int .i64 (1)),.const (.int .i64 (3))] rfl rfl AP rfl Q) ?_
 refine ja (dX rfl) ?_
 refine nt ?_
 refine cw h (fun h=>?_) (fun h=>?_)
 ·
  refine sr (cq (nt (rx ?_)));cases h;exact ra
 ·
  refine sk (dS (Z:=Unit) (α:=Unit) (fun z5 x4=>[]) (fun z5 x4=>[]) (fun e=>e=r) h (fun e h=>Option.some.inj h) (fun K hR h=>?_) (fun z5 x4 h=>?_))
  ·refine sr (fl kz ?_);refine lo bG ?_;refine ol dE ?_;refine fk rfl ?_;refine nt (ao (aJ (fun z7 y6=>[(2,Pt b1),(3,Pt b2),(12,Ri a1.2),(13,I (a1.2.length:Int)),(14,I y6)]) (fun z7 y6=>[.obj b1 25 (.rep av a0),.obj b2 27 (.rep aZ a1)]) (dh k a0 a1) k () 0 (fun _=>rfl) h (SE.fin [1,0] ⟨rfl,rfl,rfl,rfl,rfl,trivial⟩ rfl) (fun n z7 y6 h=>?_)));unfold dh at h;refine sr (jb (bm rfl) ?_);refine nt (ae (ci h (fun h=>?_) (fun h=>?_)))
   ·refine sk (ae (ao (sr (mq ?_))));obtain⟨x8,M,h⟩:=aa h;refine jb (aC (t:=(.int .i64)) rfl dE co M) ?_;refine ja (ak (t:=(.int .i64)) rfl co rfl) ?_;refine aq ?_;refine aq (nt (ae (sr ?_)));refine mq ?_;refine fl fP ?_;refine lo co ?_;obtain⟨x9,J,h⟩:=aa h;refine jb (fK rfl J) ?_;obtain⟨F,y,h⟩:=aa h;refine jc (ap [.tmp 19,.const (.int .i64 (0)),.tmp 22] rfl rfl AP rfl (eY k x8 0 x9 F y)) ?_;refine ja (dX rfl) ?_;refine nt (cw h (fun h=>?_) (fun h=>?_))
    ·refine sr (cq (nt (rx (br (bj (aV ?_))))));obtain rfl:=hR _ h;exact ra
    ·refine sk (aL (Z:=Unit) (α:=Bool) (fun j c=>[(2,Pt b1),(3,Pt b2),(12,Ri a1.2),(13,I (a1.2.length:Int)),(14,I y6),(36,.eq (.bool c))]) (fun j c=>[.obj b1 25 (.rep av a0),.obj b2 27 (.rep aZ a1)]) h (fun K h=>?_) (fun j c h=>?_))
     ·refine ab (mq ?_);refine jb (iz rfl) ?_;refine mq ?_;refine cm (s:=27) rfl (fun hb=>?_) (fun hb=>?_)
      ·replace h:=cE (oq hb) h;refine gm ?_;refine ga (ar rfl kz) ?_;refine fr 1 ?_;refine jR rfl rfl rfl rfl rfl rfl (aj rfl bG jr rfl) ⟨rfl,trivial⟩ ?_;refine gm ?_;obtain⟨U,x,h⟩:=aa h;refine gb (fK rfl x) ?_;obtain⟨E,u,h⟩:=aa h;refine gb (aC (t:=(.int .i64)) rfl dE co u) ?_;refine ga (ak (t:=(.int .i64)) rfl co rfl) ?_;refine gb (vv rfl) ?_;refine pt (nl ?_);exact jz ((),decide (x8≤E)) h [1,0]
      ·replace h:=bQ (nN hb) h;iterate 8 refine gn ?_
       refine pf (nl ?_);exact jz ((),false) h [0,1]
     ·refine cv h (fun h=>?_) (fun h=>?_)
      ·refine sr (cq (nt (aA (br (bj (aV ?_))))));obtain rfl:=hR _ h;exact ra
      ·refine aW (aM (tn (ab ?_)));obtain⟨D,l,h⟩:=aa h;refine jb (bb rfl l) ?_;refine mq (nl ?_);exact jz ((),D) h [0,1]
   ·refine xa ?_;exact jz ((),()) h []
  ·refine sr (cq (nt (aA ?_)));cases h;exact ra
def fY(k:Nat)(a0:aQ):Nat→Int→Option (Except Int Unit)
 |0,_=>none
 |n+1,y5=>
  if y5 < (a0.2.1.length:Int) then((aP a0.2.1 y5).bind fun x7=>
  (iN k a0 x7).bind fun r9=>
  if¬(r9=0) then(some (.error r9)) else((ck (y5+1)).bind fun c=>
  fY k a0 n c)) else(some (.ok ()))
def fX(k:Nat)(a0:aQ):Nat→Int→Option (Except Int Unit)
 |0,_=>none
 |n+1,c=>
  if c < (a0.2.2.length:Int) then((aP a0.2.2 c).bind fun h=>
  (eN k h 0 9).bind fun j=>
  if¬(j=true) then(some (.error 1)) else((ck (c+1)).bind fun e=>
  fX k a0 n e)) else(some (.ok ()))
def lP(k:Nat)(a0:aQ):Option Int:=
 (eN k a0.1 1 6).bind fun r2=>
 if¬(r2=true) then(some 1) else(if 5 < (a0.2.1.length:Int) then(some 6) else(bE (α:=Unit) (fY k a0 k 0) (some) fun _=>
 if(a0.2.2.length:Int) < 1 then(some 7) else(if 3 < (a0.2.2.length:Int) then(some 6) else(bE (α:=Unit) (fX k a0 k 0) (some) fun _=>
 some 0))))
theorem rJ(k:Nat)(a0:aQ)(r:Int)(h:lP k a0=some r):
 cd Tryz.prog 20 [.rep av a0] [] (fun _:Unit=>(bv [I r],[])):=by
 unfold lP at h
 replace h:=a9 h
 refine cd.of 51 Tryz.func20 rfl Tryz.ntmps20 rfl fun S w0=>?_
 refine sr ?_
 refine bx fun b1=>?_
 refine cq ?_
 refine nt ?_
 refine ae ?_
 refine sr ?_
 refine fl fP ?_
 refine lo co ?_
 obtain⟨r2,U,h⟩:=aa h
 have X:=eY k a0.1 1 6 r2 U
 refine jc (ap [.tmp 10,.const (.int .i64 (1)),.const (.int .i64 (6))] rfl rfl AP rfl X) ?_
 refine ja (dX rfl) ?_
 refine nt ?_
 refine cw h (fun h=>?_) (fun h=>?_)
 ·
  refine sr (cq (nt (rx ?_)));cases h;exact ra
 ·
  refine sk (ae (sr (fl bV ?_)));refine lo eU ?_;refine ol mG ?_;refine jb (iz rfl) ?_;refine nt (ci h (fun h=>?_) (fun h=>?_))
  ·refine sr (cq (nt (rx ?_)));cases h;exact ra
  ·refine sk (dS (Z:=Unit) (α:=Unit) (fun z4 x3=>[(1,Pt b1)]) (fun z4 x3=>[.obj b1 25 (.rep av a0)]) (fun e=>e=r) h (fun e h=>Option.some.inj h) (fun K hR h=>?_) (fun z4 x3 h=>?_))
   ·refine sr (fl bV ?_);refine lo eU ?_;refine ol mG ?_;refine fk rfl ?_;refine nt (ao (aJ (fun z6 y5=>[(1,Pt b1),(18,Rs aZ a0.2.1),(19,I (a0.2.1.length:Int)),(20,I y5)]) (fun z6 y5=>[.obj b1 25 (.rep av a0)]) (fY k a0) k () 0 (fun _=>rfl) h (SE.fin [0] ⟨rfl,rfl,rfl,rfl,trivial⟩ rfl) (fun n z6 y5 h=>?_)));unfold fY at h;refine sr (jb (bm rfl) ?_);refine nt (ae (ci h (fun h=>?_) (fun h=>?_)))
    ·refine sk (ae (ao (sr ?_)));obtain⟨x7,O,h⟩:=aa h;refine jb (aC (t:=aZ) rfl mG kh O) ?_;refine ja (ak (t:=aZ) rfl kh rfl) ?_;refine aF rfl rfl rfl (bf rfl ug LK) trivial fun b8=>?_;refine bh rfl rfl (be rfl kh rfl rfl rfl) ⟨rfl,rfl,trivial⟩ ?_;refine nt (sr (fr 1 ?_));refine lo dQ ?_;refine fr 1 ?_;refine lo kh ?_;obtain⟨r9,Q,h⟩:=aa h;refine jb (ap [.tmp 24,.tmp 25] rfl rfl TC rfl (rH k a0 x7 r9 Q)) ?_;refine aq (nt (sr ?_));refine mq ?_;refine jb (iy rfl) ?_;refine nt (cn h (fun h=>?_) (fun h=>?_))
     ·refine sr (mq ?_);refine aq (nt (aA (br (bj (aV ?_)))));obtain rfl:=hR _ h;exact ra
     ·refine aW (aM (tn (ab ?_)));obtain⟨J,y,h⟩:=aa h;refine jb (bb rfl y) ?_;refine mq (nl ?_);exact jz ((),J) h [1]
    ·refine xa ?_;exact jz ((),()) h [0]
   ·refine ae (sr (fl cK ?_));refine lo bG ?_;refine ol dE ?_;refine aq (nt (ao (sr ?_)));refine mq ?_;refine jb (bm rfl) ?_;refine aq (nt ?_);refine ci h (fun h=>?_) (fun h=>?_)
    ·refine sr (cq (nt (aA (bj (aV ?_)))));cases h;exact ra
    ·refine sr (mq ?_);refine jb (iz rfl) ?_;refine aq (nt ?_);refine ci h (fun h=>?_) (fun h=>?_)
     ·refine sr (cq (nt (aA (bj (aV ?_)))));cases h;exact ra
     ·refine aW (aM (tn (dS (Z:=Unit) (α:=Unit) (fun l s=>[]) (fun l s=>[]) (fun e=>e=r) h (fun e h=>Option.some.inj h) (fun K hR h=>?_) (fun l s h=>?_))))
      ·refine sr (fl cK ?_);refine lo bG ?_;refine ol dE ?_;refine fk rfl ?_;refine nt (ao (aJ (fun j c=>[(41,Ri a0.2.2),(42,I (a0.2.2.length:Int)),(43,I c)]) (fun j c=>[]) (fX k a0) k () 0 (fun _=>rfl) h (SE.fin [] ⟨rfl,rfl,rfl,trivial⟩ rfl) (fun n j c h=>?_)));unfold fX at h;refine sr (jb (bm rfl) ?_);refine nt (ae (ci h (fun h=>?_) (fun h=>?_)))
       ·refine sk (ae (ao (sr ?_)));obtain⟨F,x,h⟩:=aa h;refine jb (aC (t:=(.int .i64)) rfl dE co x) ?_;refine ja (ak (t:=(.int .i64)) rfl co rfl) ?_;refine aq (nt (sr ?_));refine mq ?_;obtain⟨M,D,h⟩:=aa h;refine jc (ap [.tmp 47,.const (.int .i64 (0)),.const (.int .i64 (9))] rfl rfl AP rfl (eY k F 0 9 M D)) ?_;refine ja (dX rfl) ?_;refine nt (cw h (fun h=>?_) (fun h=>?_))
        ·refine sr (cq (nt (aA (br (bj (aV ?_))))));obtain rfl:=hR _ h;exact ra
        ·refine aW (aM (tn (ab ?_)));obtain⟨E,u,h⟩:=aa h;refine jb (bb rfl u) ?_;refine mq (nl ?_);exact jz ((),E) h []
       ·refine xa ?_;exact jz ((),()) h []
      ·refine sr (cq (nt (aA ?_)));cases h;exact ra
def eA(k:Nat)(a0:Int)(a1:Int):Option Bool:=
 (dt (0≤a1)).bind fun _=>
 some (decide ((wK .u8 (iG .u8 a0 a1) 1)=1))
theorem iJ(k:Nat)(a0:Int)(a1:Int)(r:Bool)(h:eA k a0 a1=some r):
 cd Tryz.prog 57 [.eq (.int .u8 a0),I a1] [] (fun _:Unit=>(bv [.eq (.bool r)],[])):=by
 unfold eA at h
 replace h:=a9 h
 refine cd.of 10 Tryz.func57 rfl Tryz.ntmps57 rfl fun S w0=>?_
 refine sr ?_
 refine cq ?_
 refine nt ?_
 refine sr ?_
 iterate 2 refine mq ?_
 obtain⟨u1,c,h⟩:=aa h
 refine jb (vt rfl (ay c)) ?_
 refine jb (PL rfl) ?_
 refine jb (fL rfl) ?_
 refine aq ?_
 refine nt ?_
 refine aA ?_
 cases h
 exact ra
def eT(k:Nat)(a0:Int)(a1:Int):Option Int:=
 (dt (0≤a1)).bind fun _=>
 some (D4 .u8 a0 (nJ .u8 1 a1))
theorem jG(k:Nat)(a0:Int)(a1:Int)(r:Int)(h:eT k a0 a1=some r):
 cd Tryz.prog 106 [.eq (.int .u8 a0),I a1] [] (fun _:Unit=>(bv [.eq (.int .u8 r)],[])):=by
 unfold eT at h
 replace h:=a9 h
 refine cd.of 9 Tryz.func106 rfl Tryz.ntmps106 rfl fun S w0=>?_
 refine sr ?_
 refine cq ?_
 refine nt ?_
 refine sr ?_
 iterate 2 refine mq ?_
 obtain⟨u1,c,h⟩:=aa h
 refine jb (Hq rfl (ay c)) ?_
 refine jb (PI rfl) ?_
 refine aq ?_
 refine nt ?_
 refine aA ?_
 cases h
 exact ra
def gY(k:Nat)(a0:aQ)(a1:(List Int)):Nat→(Int×Int)→Option Int
 |0,_=>none
 |n+1,y4=>
  if y4.2 < (a1.length:Int) then((aP a1 y4.2).bind fun x6=>
  (aP a0.2.1 x6).bind fun x7=>
  (ck (y4.1+x7.1)).bind fun x8=>
  (ck (y4.2+1)).bind fun x9=>
  gY k a0 a1 n (x8,x9)) else(some y4.1)
def nk(k:Nat)(a0:aQ)(a1:(List Int)):Option Int:=
 ((gY k a0 a1 k (0,0)):Option (Int)).bind fun x2=>
 some x2
theorem t3(k:Nat)(a0:aQ)(a1:(List Int))(r:Int)(h:nk k a0 a1=some r):
 cd Tryz.prog 107 [.rep av a0,Ri a1] [] (fun _:Unit=>(bv [I r],[])):=by
 unfold nk at h
 replace h:=a9 h
 refine cd.of 24 Tryz.func107 rfl Tryz.ntmps107 rfl fun S w0=>?_
 refine sr ?_
 refine bx fun b1=>?_
 refine cq ?_
 refine nt ?_
 refine sr ?_
 refine cq ?_
 refine nt ?_
 refine aL (Z:=Unit) (α:=Int) (fun z3 x2=>[(5,I x2)]) (fun z3 x2=>[]) h (fun K h=>?_) (fun z3 x2 h=>?_)
 ·
  refine sr (mq ?_);refine ol dE ?_;refine fk rfl ?_;refine nt (ao (aJ (fun z5 y4=>[(2,Pt b1),(5,I y4.1),(8,Ri a1),(9,I (a1.length:Int)),(10,I y4.2)]) (fun z5 y4=>[.obj b1 25 (.rep av a0)]) (gY k a0 a1) k () (0,0) (fun _=>rfl) h (SE.fin [0] ⟨rfl,rfl,rfl,rfl,rfl,trivial⟩ rfl) (fun n z5 y4 h=>?_)));unfold gY at h;refine sr (jb (bm rfl) ?_);refine nt (ae (ci h (fun h=>?_) (fun h=>?_)))
  ·refine sk (ae (ao (sr ?_)));obtain⟨x6,l,h⟩:=aa h;refine jb (aC (t:=(.int .i64)) rfl dE co l) ?_;refine ja (ak (t:=(.int .i64)) rfl co rfl) ?_;refine aq (nt (ab ?_));refine mq ?_;refine fl bV ?_;refine lo eU ?_;refine mq ?_;obtain⟨x7,j,h⟩:=aa h;refine jb (aC (t:=aZ) rfl mG kh j) ?_;refine ja (aI 1 false rfl kQ rfl) ?_;refine ja (ak (t:=(.int .i64)) rfl co rfl) ?_;obtain⟨x8,e,h⟩:=aa h;refine jb (bb rfl e) ?_;refine aq (au (aM (tn (ab ?_))));obtain⟨x9,c,h⟩:=aa h;refine jb (bb rfl c) ?_;refine mq (nl ?_);exact jz ((),(x8,x9)) h [0]
  ·refine xa ?_;exact jz ((),y4.1) h []
 ·
  refine sr (mq ?_);refine aq (nt (aA ?_));cases h;exact ra
def eS(k:Nat)(a0:aQ)(x8:(List Int)):Nat→(Int×Int)→Option (Except Value Int)
 |0,_=>none
 |n+1,c=>
  if c.2 < (x8.length:Int) then((aP x8 c.2).bind fun e=>
  (ck ((a0.2.1.length:Int) - 1)).bind fun j=>
  (eN k e 0 j).bind fun s=>
  if¬(s=true) then(some (.error (.iface 97 (.agg #[.int .i64 3])))) else((eA k c.1 e).bind fun r=>
  if r=true then(some (.error (.iface 97 (.agg #[.int .i64 4])))) else((eT k c.1 e).bind fun l=>
  (ck (c.2+1)).bind fun h=>
  eS k a0 x8 n (l,h)))) else(some (.ok c.1))
def fW(k:Nat)(a0:aQ)(a1:(List (List Int))):Nat→(Int×Int)→Option (Except Value Int)
 |0,_=>none
 |n+1,y4=>
  if y4.2 < (a1.length:Int) then(bE (α:=Int) ((aP a1 y4.2).bind fun x8=>
  bE (α:=Int) (eS k a0 x8 k (y4.1,0)) (fun e=>some (.error e)) fun x9=>
  (nk k a0 x8).bind fun j=>
  (aP a0.2.2 y4.2).bind fun h=>
  if h < j then(some (.error (.iface 97 (.agg #[.int .i64 12])))) else(some (.ok x9))) (fun e=>some (.error e)) fun x6=>
  (ck (y4.2+1)).bind fun c=>
  fW k a0 a1 n (x6,c)) else(some (.ok y4.1))
def lO(k:Nat)(a0:aQ)(a1:(List (List Int))):Option Value:=
 if(a1.length:Int) < (a0.2.2.length:Int) then(some (.iface 97 (.agg #[.int .i64 7]))) else(if(a0.2.2.length:Int) < (a1.length:Int) then(some (.iface 97 (.agg #[.int .i64 6]))) else(bE (α:=Int) (fW k a0 a1 k (0,0)) (some) fun x2=>
 (dt (0≤(a0.2.1.length:Int))).bind fun _=>
 if¬(x2=(IntKind.u8.wrap ((nJ .u8 1 (a0.2.1.length:Int)) - 1))) then(some (.iface 97 (.agg #[.int .i64 7]))) else(some (.nilIface))))
theorem rD(k:Nat)(a0:aQ)(a1:(List (List Int)))(r:Value)(h:lO k a0 a1=some r):
 cd Tryz.prog 64 [.rep av a0,.rep (.slice (.slice (.int .i64))) a1] [] (fun _:Unit=>(bv [.eq r],[])):=by
 unfold lO at h
 replace h:=a9 h
 refine cd.of 80 Tryz.func64 rfl Tryz.ntmps64 rfl fun S w0=>?_
 refine sr ?_
 refine bx fun b1=>?_
 refine cq ?_
 refine nt ?_
 refine ae ?_
 refine sr ?_
 refine fl cK ?_
 refine lo bG ?_
 refine ol dE ?_
 refine aq ?_
 refine nt ?_
 refine ao ?_
 refine sr ?_
 refine mq ?_
 refine ol lE ?_
 refine mq ?_
 refine jb (bm rfl) ?_
 refine aq ?_
 refine nt ?_
 refine ci h (fun h=>?_) (fun h=>?_)
 ·
  refine sr (ja (cN [(0,.const (.int .i64 (7)),_)] rfl E3 Bv xJ (il ⟨rfl,trivial⟩) rfl) ?_);refine ja (nz rfl OT) ?_;refine aq (nt (aA (bj (aV ?_))));cases h;exact ra
 ·
  refine sr (mq ?_);refine ol lE ?_;refine mq ?_;refine jb (iz rfl) ?_;refine aq (nt ?_);refine ci h (fun h=>?_) (fun h=>?_)
  ·refine sr (ja (cN [(0,.const (.int .i64 (6)),_)] rfl E3 Bv xJ (il ⟨rfl,trivial⟩) rfl) ?_);refine ja (nz rfl OT) ?_;refine aq (nt (aA (bj (aV ?_))));cases h;exact ra
  ·refine aW (aM (tn (sr (cq (nt ?_)))));refine dS (Z:=Unit) (α:=Int) (fun z3 x2=>[(2,Pt b1),(6,.eq (.int .u8 x2))]) (fun z3 x2=>[.obj b1 25 (.rep av a0)]) (fun e=>e=r) h (fun e h=>Option.some.inj h) (fun K hR h=>?_) (fun z3 x2 h=>?_)
   ·refine sr (mq ?_);refine ol lE ?_;refine fk rfl ?_;refine nt (ao (aJ (fun z5 y4=>[(2,Pt b1),(6,.eq (.int .u8 y4.1)),(28,.rep (.slice (.slice (.int .i64))) a1),(29,I (a1.length:Int)),(30,I y4.2)]) (fun z5 y4=>[.obj b1 25 (.rep av a0)]) (fW k a0 a1) k () (0,0) (fun _=>rfl) h (SE.fin [0] ⟨rfl,rfl,rfl,rfl,rfl,trivial⟩ rfl) (fun n z5 y4 h=>?_)));unfold fW at h;refine sr (jb (bm rfl) ?_);refine nt (ae (ci h (fun h=>?_) (fun h=>?_)))
    ·refine sk (dS (Z:=Unit) (α:=Int) (fun z7 x6=>[(2,Pt b1),(6,.eq (.int .u8 x6)),(28,.rep (.slice (.slice (.int .i64))) a1),(29,I (a1.length:Int)),(30,I y4.2)]) (fun z7 x6=>[.obj b1 25 (.rep av a0)]) (fun e=>e=r) h (fun e h=>hR e h) (fun K hR h=>?_) (fun z7 x6 h=>?_))
     ·refine ao (sr (mq ?_));obtain⟨x8,se,h⟩:=aa h;refine jb (aC (t:=(.slice (.int .i64))) rfl lE bG se) ?_;refine ja (ak (t:=(.slice (.int .i64))) rfl bG rfl) ?_;refine aq ?_;refine aq (nt ?_);refine dS (Z:=Unit) (α:=Int) (fun s x9=>[(2,Pt b1),(6,.eq (.int .u8 x9)),(7,I y4.2),(8,Ri x8),(28,.rep (.slice (.slice (.int .i64))) a1),(29,I (a1.length:Int)),(30,I y4.2)]) (fun s x9=>[.obj b1 25 (.rep av a0)]) (fun e=>e=r) h (fun e h=>hR e h) (fun K hR h=>?_) (fun s x9 h=>?_)
      ·refine sr (mq ?_);refine ol dE ?_;refine fk rfl ?_;refine nt (ao (aJ (fun l c=>[(2,Pt b1),(6,.eq (.int .u8 c.1)),(7,I y4.2),(8,Ri x8),(28,.rep (.slice (.slice (.int .i64))) a1),(29,I (a1.length:Int)),(30,I y4.2),(35,Ri x8),(36,I (x8.length:Int)),(37,I c.2)]) (fun l c=>[.obj b1 25 (.rep av a0)]) (eS k a0 x8) k () (y4.1,0) (fun _=>rfl) h (SE.fin [0] ⟨rfl,rfl,rfl,rfl,rfl,rfl,rfl,rfl,rfl,rfl,trivial⟩ rfl) (fun n l c h=>?_)));unfold eS at h;refine sr (jb (bm rfl) ?_);refine nt (ae (ci h (fun h=>?_) (fun h=>?_)))
       ·refine sk (ae (ao (sr ?_)));obtain⟨j,F,h⟩:=aa h;refine jb (aC (t:=(.int .i64)) rfl dE co F) ?_;refine ja (ak (t:=(.int .i64)) rfl co rfl) ?_;refine aq (nt (ae (sr ?_)));refine mq ?_;refine fl bV ?_;refine lo eU ?_;refine ol mG ?_;obtain⟨ac,E,h⟩:=aa h;refine jb (fK rfl E) ?_;obtain⟨qt,U,h⟩:=aa h;refine jc (ap [.tmp 41,.const (.int .i64 (0)),.tmp 45] rfl rfl AP rfl (eY k j 0 ac qt U)) ?_;refine ja (dX rfl) ?_;refine nt (cw h (fun h=>?_) (fun h=>?_))
        ·refine sr (ja (cN [(0,.const (.int .i64 (3)),_)] rfl E3 Bv xJ (il ⟨rfl,trivial⟩) rfl) ?_);refine ja (nz rfl OT) ?_;refine aq (nt (rx (br (bj (aV (br (bj (aV ?_))))))));obtain rfl:=hR _ h;exact ra
        ·refine sk (ae (sr ?_));iterate 2 refine mq ?_
         obtain⟨pp,Q,h⟩:=aa h;refine jb (ap [.tmp 50,.tmp 51] rfl rfl Lm rfl (iJ k c.1 j pp Q)) ?_;refine nt (cv h (fun h=>?_) (fun h=>?_))
         ·refine sr (ja (cN [(0,.const (.int .i64 (4)),_)] rfl E3 Bv xJ (il ⟨rfl,trivial⟩) rfl) ?_);refine ja (nz rfl OT) ?_;refine aq (nt (rx (br (bj (aV (br (bj (aV ?_))))))));obtain rfl:=hR _ h;exact ra
         ·refine sk (ab ?_);iterate 2 refine mq ?_
          obtain⟨u,O,h⟩:=aa h;refine jb (ap [.tmp 55,.tmp 56] rfl rfl Ee rfl (jG k c.1 j u O)) ?_;refine aq (au (aM (tn (ab ?_))));obtain⟨Y,D,h⟩:=aa h;refine jb (bb rfl D) ?_;refine mq (nl ?_);exact jz ((),(u,Y)) h [0]
       ·refine xa ?_;exact jz ((),c.1) h [0]
      ·refine ae (bJ ?_);refine ea 0 (aj rfl dQ (uD) rfl) ?_;refine dm ?_;obtain⟨mc,M,h⟩:=aa h;refine db (ap [.tmp 59,.tmp 60] rfl rfl MR rfl (t3 k a0 x8 mc M)) ?_;refine da (ar rfl cK) ?_;refine ea 0 (aj rfl bG jr rfl) ?_;refine dm ?_;obtain⟨UG,y,h⟩:=aa h;refine db (aC (t:=(.int .i64)) rfl dE co y) ?_;refine da (ak (t:=(.int .i64)) rfl co rfl) ?_;refine df cD ?_;refine jb (iz rfl) ?_;refine nt (ci h (fun h=>?_) (fun h=>?_))
       ·refine sr (ja (cN [(0,.const (.int .i64 (12)),_)] rfl E3 Bv xJ (il ⟨rfl,trivial⟩) rfl) ?_);refine ja (nz rfl OT) ?_;refine aq (nt (aA (br (bj (aV ?_)))));obtain rfl:=hR _ h;exact ra
       ·refine aW (bn ?_);exact jz ((),x9) h [0]
     ·refine ab ?_;obtain⟨X,x,h⟩:=aa h;refine jb (bb rfl x) ?_;refine mq (nl ?_);exact jz ((),(x6,X)) h [0]
    ·refine xa ?_;exact jz ((),y4.1) h [0]
   ·refine ae (sr (mq ?_));refine fl bV ?_;refine lo eU ?_;refine ol mG ?_;obtain⟨UH,J,h⟩:=aa h;refine jb (Hq rfl (ay J)) ?_;refine jb (Ho rfl) ?_;refine jb (iy rfl) ?_;refine nt (cn h (fun h=>?_) (fun h=>?_))
    ·refine sr (ja (cN [(0,.const (.int .i64 (7)),_)] rfl E3 Bv xJ (il ⟨rfl,trivial⟩) rfl) ?_);refine ja (nz rfl OT) ?_;refine aq (nt (rx ?_));cases h;exact ra
    ·refine sk (sr (cq (nt (aA ?_))));cases h;exact ra
def cT(k:Nat)(a0:(List (List Int)))(y5:(List (List Int))×Int):Nat→((List (List Int))×Int)→Option (List (List Int))
 |0,_=>none
 |n+1,y9=>
  if y9.2 < 5 then((((dt (0≤y5.2∧y5.2 < 3)).bind fun _=>
  (aP y9.1 y5.2).bind fun c=>
  (dt (0≤y9.2∧y9.2 < 5)).bind fun _=>
  ((if y5.2 < (a0.length:Int) then((aP a0 y5.2).bind fun r=>
  some (decide (y9.2 < (r.length:Int)))) else(some false)):Option (Bool)).bind fun s=>
  if s=true then((aP a0 y5.2).bind fun l=>
  (aP l y9.2).bind fun j=>
  (dt (0≤y5.2∧y5.2 < 3)).bind fun _=>
  (aP (List.set y9.1 (Int.toNat y5.2) (List.set c (Int.toNat y9.2) (-1:Int))) y5.2).bind fun h=>
  (dt (0≤y9.2∧y9.2 < 5)).bind fun _=>
  some (List.set (List.set y9.1 (Int.toNat y5.2) (List.set c (Int.toNat y9.2) (-1:Int))) (Int.toNat y5.2) (List.set h (Int.toNat y9.2) j))) else(some (List.set y9.1 (Int.toNat y5.2) (List.set c (Int.toNat y9.2) (-1:Int))))):Option ((List (List Int)))).bind fun u=>
  (ck (y9.2+1)).bind fun e=>
  cT k a0 y5 n (u,e)) else(some y9.1)
def dn(k:Nat)(a0:(List (List Int))):Nat→((List (List Int))×Int)→Option (List (List Int))
 |0,_=>none
 |n+1,y5=>
  if y5.2 < 3 then(((cT k a0 y5 k (y5.1,0)):Option ((List (List Int)))).bind fun x7=>
  (ck (y5.2+1)).bind fun c=>
  dn k a0 n (x7,c)) else(some y5.1)
def dN(k:Nat)(a0:(List (List Int))):Option (List (List Int)):=
 ((dn k a0 k ([[0,0,0,0,0],[0,0,0,0,0],[0,0,0,0,0]],0)):Option ((List (List Int)))).bind fun x3=>
 some x3
theorem fy(k:Nat)(a0:(List (List Int)))(r:(List (List Int)))(h:dN k a0=some r):
 cd Tryz.prog 56 [.rep (.slice (.slice (.int .i64))) a0] [] (fun _:Unit=>(bv [.rep (.arr 3 (.arr 5 (.int .i64))) r],[])):=by
 unfold dN at h
 replace h:=a9 h
 refine cd.of 43 Tryz.func56 rfl Tryz.ntmps56 rfl fun S w0=>?_
 refine sr ?_
 refine aF rfl rfl rfl (bf rfl sS tV) trivial fun b1=>?_
 refine nt ?_
 refine sr ?_
 refine aF rfl rfl rfl (bf rfl sS tV) trivial fun b2=>?_
 refine nt ?_
 refine aL (Z:=Unit) (α:=(List (List Int))) (fun z4 x3=>[(2,Pt b1),(3,Pt b2)]) (fun z4 x3=>[.obj b1 86 (.rep (.arr 3 (.arr 5 (.int .i64))) [[0,0,0,0,0],[0,0,0,0,0],[0,0,0,0,0]]),.obj b2 86 (.rep (.arr 3 (.arr 5 (.int .i64))) x3)]) h (fun K h=>?_) (fun z4 x3 h=>?_)
 ·
  refine sr (fk rfl ?_);refine nt (ao (aJ (fun z6 y5=>[(0,.rep (.slice (.slice (.int .i64))) a0),(2,Pt b1),(3,Pt b2),(6,I y5.2)]) (fun z6 y5=>[.obj b1 86 (.rep (.arr 3 (.arr 5 (.int .i64))) [[0,0,0,0,0],[0,0,0,0,0],[0,0,0,0,0]]),.obj b2 86 (.rep (.arr 3 (.arr 5 (.int .i64))) y5.1)]) (dn k a0) k () ([[0,0,0,0,0],[0,0,0,0,0],[0,0,0,0,0]],0) (fun _=>rfl) h (SE.fin [1,0] ⟨rfl,rfl,rfl,rfl,trivial⟩ rfl) (fun n z6 y5 h=>?_)));unfold dn at h;refine sr (jb (bm rfl) ?_);refine nt (ae (ci h (fun h=>?_) (fun h=>?_)))
  ·refine sk (aL (Z:=Unit) (α:=(List (List Int))) (fun z8 x7=>[(0,.rep (.slice (.slice (.int .i64))) a0),(2,Pt b1),(3,Pt b2),(6,I y5.2)]) (fun z8 x7=>[.obj b1 86 (.rep (.arr 3 (.arr 5 (.int .i64))) [[0,0,0,0,0],[0,0,0,0,0],[0,0,0,0,0]]),.obj b2 86 (.rep (.arr 3 (.arr 5 (.int .i64))) x7)]) h (fun K h=>?_) (fun z8 x7 h=>?_))
   ·refine ao (sr (mq ?_));refine aq (nt (sr ?_));refine fk rfl ?_;refine nt (ao (aJ (fun J y9=>[(0,.rep (.slice (.slice (.int .i64))) a0),(2,Pt b1),(3,Pt b2),(4,I y5.2),(6,I y5.2),(9,I y9.2)]) (fun J y9=>[.obj b1 86 (.rep (.arr 3 (.arr 5 (.int .i64))) [[0,0,0,0,0],[0,0,0,0,0],[0,0,0,0,0]]),.obj b2 86 (.rep (.arr 3 (.arr 5 (.int .i64))) y9.1)]) (cT k a0 y5) k () (y5.1,0) (fun _=>rfl) h (SE.fin [0,1] ⟨rfl,rfl,rfl,rfl,rfl,rfl,trivial⟩ rfl) (fun n J y9 h=>?_)));unfold cT at h;refine sr (jb (bm rfl) ?_);refine nt (ae (ci h (fun h=>?_) (fun h=>?_)))
    ·refine sk (aL (Z:=Unit) (α:=(List (List Int))) (fun F l=>[(0,.rep (.slice (.slice (.int .i64))) a0),(2,Pt b1),(3,Pt b2),(4,I y5.2),(6,I y5.2),(9,I y9.2)]) (fun F l=>[.obj b1 86 (.rep (.arr 3 (.arr 5 (.int .i64))) [[0,0,0,0,0],[0,0,0,0,0],[0,0,0,0,0]]),.obj b2 86 (.rep (.arr 3 (.arr 5 (.int .i64))) l)]) h (fun K h=>?_) (fun F l h=>?_))
     ·refine ao (sr (mq ?_));refine aq (nt (sr ?_));iterate 2 refine mq ?_
      obtain⟨UL,x,h⟩:=aa h;refine jb (iW rfl RL GU (ay x).1 (ay x).2) ?_;obtain⟨D,ac,h⟩:=aa h;obtain⟨UK,e,h⟩:=aa h;refine jb (iW rfl RN co (ay e).1 (ay e).2) ?_;refine fr 1 ?_;refine bh rfl rfl (oa (t:=(.int .i64)) (off:=0) (i:=y5.2) (j:=y9.2) (N:=3) (L:=5) rfl co .int rfl rfl rfl rfl ac (ay e).1 (ay e).2 rfl) ⟨rfl,rfl,trivial⟩ ?_;refine nt (aL (Z:=Unit) (α:=Bool) (fun E y=>[(0,.rep (.slice (.slice (.int .i64))) a0),(2,Pt b1),(3,Pt b2),(4,I y5.2),(5,I y9.2),(6,I y5.2),(9,I y9.2),(28,.eq (.bool y))]) (fun E y=>[.obj b1 86 (.rep (.arr 3 (.arr 5 (.int .i64))) [[0,0,0,0,0],[0,0,0,0,0],[0,0,0,0,0]]),.obj b2 86 (.rep (.arr 3 (.arr 5 (.int .i64))) (List.set y9.1 (Int.toNat y5.2) (List.set D (Int.toNat y9.2) (-1:Int))))]) h (fun K h=>?_) (fun E y h=>?_))
      ·refine ab ?_;iterate 2 refine mq ?_
       refine ol lE ?_;refine jb (bm rfl) ?_;refine mq ?_;refine cm (s:=20) rfl (fun hb=>?_) (fun hb=>?_)
       ·replace h:=cE (oq hb) h;refine gm ?_;refine gm ?_;refine gm ?_;obtain⟨UG,Y,h⟩:=aa h;refine gb (aC (t:=(.slice (.int .i64))) rfl lE bG Y) ?_;refine ga (ak (t:=(.slice (.int .i64))) rfl bG rfl) ?_;refine ga (jm rfl rfl dE) ?_;refine gb (bm rfl) ?_;refine pt (nl ?_);exact jz ((),decide (y9.2 < (UG.length:Int))) h [1,0]
       ·replace h:=bQ (nN hb) h;iterate 7 refine gn ?_
        refine pf (nl ?_);exact jz ((),false) h [1,0]
      ·refine cv h (fun h=>?_) (fun h=>?_)
       ·refine bJ ?_;refine dm ?_;refine dm ?_;refine dm ?_;refine dm ?_;obtain⟨UH,X,h⟩:=aa h;refine db (aC (t:=(.slice (.int .i64))) rfl lE bG X) ?_;refine da (ak (t:=(.slice (.int .i64))) rfl bG rfl) ?_;refine dm ?_;obtain⟨se,U,h⟩:=aa h;refine db (aC (t:=(.int .i64)) rfl dE co U) ?_;refine da (ak (t:=(.int .i64)) rfl co rfl) ?_;obtain⟨UJ,u,h⟩:=aa h;refine db (iW rfl RL GU (ay u).1 (ay u).2) ?_;refine df cD ?_;obtain⟨qt,Q,h⟩:=aa h;obtain⟨UI,c,h⟩:=aa h;refine jb (iW rfl RN co (ay c).1 (ay c).2) ?_;refine fr 1 ?_;refine bh rfl rfl (oa (t:=(.int .i64)) (off:=0) (i:=y5.2) (j:=y9.2) (N:=3) (L:=5) rfl co .int rfl rfl rfl rfl Q (ay c).1 (ay c).2 rfl) ⟨rfl,rfl,trivial⟩ ?_;refine au (bn ?_);exact jz ((),List.set (List.set y9.1 (Int.toNat y5.2) (List.set D (Int.toNat y9.2) (-1:Int))) (Int.toNat y5.2) (List.set qt (Int.toNat y9.2) se)) h [1,0]
       ·refine aW (bn ?_);exact jz ((),List.set y9.1 (Int.toNat y5.2) (List.set D (Int.toNat y9.2) (-1:Int))) h [0,1]
     ·refine ab ?_;obtain⟨pp,O,h⟩:=aa h;refine jb (bb rfl O) ?_;refine mq (nl ?_);exact jz ((),(l,pp)) h [0,1]
    ·refine dM (aU (aU (bZ (bn ?_))));exact jz ((),y9.1) h [0,1]
   ·refine ab ?_;obtain⟨mc,M,h⟩:=aa h;refine jb (bb rfl M) ?_;refine mq (nl ?_);exact jz ((),(x7,mc)) h [0,1]
  ·refine xa ?_;exact jz ((),y5.1) h [0,1]
 ·
  refine sr (fr 1 ?_);refine lo gu ?_;refine fr 1 ?_;refine bh rfl rfl (be rfl gu rfl rfl rfl) ⟨rfl,rfl,trivial⟩ ?_;refine nt (aA ?_);obtain rfl:=Option.some.inj h;exact aO () [.rep (.arr 3 (.arr 5 (.int .i64))) x3] 0 ⟨⟨_,_,_,_,_,rfl,(.head _),gu,(uD),rfl⟩,trivial⟩ rfl
def cZ(k:Nat)(x5:(List Int)):Nat→((List Int)×Int)→Option (List Int)
 |0,_=>none
 |n+1,y6=>
  if y6.2 < 5 then((((aP x5 y6.2).bind fun c=>
  if 0≤c then((dt (bH (List.length y6.1+List.length [c]))).bind fun _=>
  some (y6.1++[c])) else(some y6.1)):Option ((List Int))).bind fun x8=>
  (ck (y6.2+1)).bind fun e=>
  cZ k x5 n (x8,e)) else(some y6.1)
def d6(k:Nat)(a0:(List (List Int)))(a1:Int):Option (List Int):=
 (((dt (0≤a1∧a1 < 3)).bind fun _=>
 (aP a0 a1).bind fun x5=>
 cZ k x5 k (([]:(List Int)),0)):Option ((List Int))).bind fun x2=>
 some x2
theorem gC(k:Nat)(a0:(List (List Int)))(a1:Int)(r:(List Int))(h:d6 k a0 a1=some r):
 cd Tryz.prog 80 [.rep (.arr 3 (.arr 5 (.int .i64))) a0,I a1] [] (fun _:Unit=>(bv [Ri r],[])):=by
 unfold d6 at h
 replace h:=a9 h
 refine cd.of 22 Tryz.func80 rfl Tryz.ntmps80 rfl fun S w0=>?_
 refine sr ?_
 refine bx fun b1=>?_
 refine cq ?_
 refine nt ?_
 refine sr ?_
 refine cq ?_
 refine nt ?_
 refine aL (Z:=Value) (α:=(List Int)) (fun z3 x2=>[(5,.eq z3)]) (fun z3 x2=>[.sl z3 3 (.int .i64) x2]) h (fun K h=>?_) (fun z3 x2 h=>?_)
 ·
  refine sr (mq ?_);obtain⟨u4,l,h⟩:=aa h;refine jb (iW rfl RL GU (ay l).1 (ay l).2) ?_;obtain⟨x5,y,h⟩:=aa h;refine ka (CB (t:=(.arr 5 (.int .i64))) (off:=0) (i:=a1) (N:=3) rfl GU (uD) rfl rfl rfl rfl y) ?_;refine fk rfl ?_;refine nt (ao (dL (SE.nil 3 (.int .i64)) ?_));refine aJ (fun z7 y6=>[(5,.eq z7),(10,.rep (.arr 5 (.int .i64)) x5),(11,I y6.2)]) (fun z7 y6=>[.sl z7 3 (.int .i64) y6.1]) (cZ k x5) k (.slice none 0 0) (([]:(List Int)),0) (fun _=>rfl) h (SE.fin [0] ⟨rfl,rfl,rfl,trivial⟩ rfl) (fun n z7 y6 h=>?_);unfold cZ at h;refine sr (jb (bm rfl) ?_);refine nt (ae (ci h (fun h=>?_) (fun h=>?_)))
  ·refine sk (aL (Z:=Value) (α:=(List Int)) (fun z9 x8=>[(5,.eq z9),(10,.rep (.arr 5 (.int .i64)) x5),(11,I y6.2)]) (fun z9 x8=>[.sl z9 3 (.int .i64) x8]) h (fun K h=>?_) (fun z9 x8 h=>?_))
   ·refine ao (sr ?_);obtain⟨c,j,h⟩:=aa h;refine jb (zW (t:=(.int .i64)) rfl RN co rfl rfl (fun _=>rfl) j) ?_;refine aq (nt (sr ?_));refine mq ?_;refine jb (qD rfl) ?_;refine nt (ci h (fun h=>?_) (fun h=>?_))
    ·refine ab ?_;iterate 2 refine mq ?_
     refine ja (bi (t:=(.int .i64)) [(.tmp 17,_)] [c] rfl rfl dw (.cons rfl .int .nil) rfl rfl) ?_;obtain⟨D,s,h⟩:=aa h;refine cF rfl rfl rfl (bz rfl rfl dw (ay s)) ⟨rfl,rfl,trivial⟩ fun x=>?_;refine aq (au (bn ?_));exact jz (x,y6.1++[c]) h [0]
    ·refine aW (bn ?_);exact jz (z7,y6.1) h [0]
   ·refine ab ?_;obtain⟨u,e,h⟩:=aa h;refine jb (bb rfl e) ?_;refine mq (nl ?_);exact jz (z9,(x8,u)) h [0]
  ·refine xa ?_;exact jz (z7,y6.1) h [0]
 ·
  refine sr (mq ?_);refine aq (nt (aA ?_));refine bC (eD [4,5,21] ⟨rfl,rfl,rfl,trivial⟩) ?_;cases h;exact ra
def cJ{σ:Type}(k:Nat)(a1:(List Int))(Y:σ→(Int×Int)→Option (σ×Bool)):Nat→(Int×σ)→Option (σ)
 |0,_=>none
 |n+1,y2=>
  if 0≤y2.1 then((aP a1 y2.1).bind fun x4=>
  (Y y2.2 (y2.1,x4)).bind fun r5=>
  if¬(r5.2=true) then(some r5.1) else((ck (y2.1 - 1)).bind fun x7=>
  cJ k a1 Y n (x7,r5.1))) else(some y2.2)
def ib{σ:Type}(k:Nat)(Y:σ→(Int×Int)→Option (σ×Bool))(a1:(List Int))(s0:σ):Option (σ):=
 (ck ((a1.length:Int) - 1)).bind fun x1=>
 cJ k a1 Y k (x1,s0)
theorem oL{M:Md Tryz.prog}{σ Z:Type}(E:Z→σ→List D)(l:Nat)(Y:σ→(Int×Int)→Option (σ×Bool))(k:Nat)(a1:(List Int))(c:Nat)(hY:∀z s p r,Y s p=some r→YT M l [I p.1,I p.2] (E z s) (fun z':Z=>(.eq (.bool r.2),E z' r.1))):
 ∀(z0:Z) (s0:σ) (r:σ),ib k Y a1 s0=some r→dy M 180 [.eq (.func (.yield l) #[] #[]),Pt c] ([.obj c 23 (Ri a1)]++E z0 s0) (fun z:Z=>(bv [],[.obj c 23 (Ri a1)]++E z r)):=by
 intro z0 s0 r h
 unfold ib at h
 replace h:=a9 h
 refine dy.of 19 Tryz.func180 rfl Tryz.ntmps180 rfl fun S w0=>?_
 refine sr ?_
 refine lo bG ?_
 refine ol dE ?_
 obtain⟨x1,u,h⟩:=aa h
 refine jb (fK rfl u) ?_
 refine aq ?_
 refine nt ?_
 refine ao ?_
 refine aJ (Z:=Z) (α:=Int×σ) (fun z3 y2=>[(0,.eq (.func (.yield l) #[] #[])),(1,Pt c),(3,I y2.1)]) (fun z3 y2=>[.obj c 23 (Ri a1)]++E z3 y2.2) (cJ k a1 Y) k z0 (x1,s0) (fun _=>rfl) h (bu [.obj c 23 (Ri a1)] (E z0 s0) [0] ⟨rfl,rfl,rfl,trivial⟩ rfl) (fun n z3 y2 h=>?_)
 unfold cJ at h
 refine ae ?_
 refine sr ?_
 refine mq ?_
 refine jb (qD rfl) ?_
 refine nt ?_
 refine ci h (fun h=>?_) (fun h=>?_)
 ·
  refine sk (ae (ao (sr ?_)));iterate 2 refine mq ?_
  refine lo bG ?_;refine mq ?_;obtain⟨x4,j,h⟩:=aa h;refine jb (aC (t:=(.int .i64)) rfl dE co j) ?_;refine ja (ak (t:=(.int .i64)) rfl co rfl) ?_;obtain⟨r5,x,h⟩:=aa h;refine pK [.obj c 23 (Ri a1)] rfl rfl rfl (yl [.tmp 12,.tmp 16] rfl rfl rfl (hY z3 y2.2 (y2.1,x4) r5 x)) ⟨rfl,rfl,rfl,trivial⟩ fun z6=>?_;refine ja (dX rfl) ?_;refine nt (cw h (fun h=>?_) (fun h=>?_))
  ·refine aA (br (bj ?_));cases h;exact jl z6 [] trivial rfl
  ·refine aW (aM (tn (ab (mq ?_))));obtain⟨x7,e,h⟩:=aa h;refine jb (fK rfl e) ?_;refine aq (nl ?_);exact jk (z6,(x7,r5.1)) h (bu [.obj c 23 (Ri a1)] (E z6 r5.1) [0] ⟨rfl,rfl,rfl,trivial⟩ rfl)
 ·
  refine dM (aU (aU (bZ (jD ?_))));cases h;exact jl z3 [] trivial rfl
theorem qo(a0:(List Int)):cd Tryz.prog 162 [Ri a0] [] (fun z:Nat=>(bv [.eq (.func (.func 180) #[] #[(Pv z)])],[.obj z 23 (Ri a0)])):=by
 refine cd.of 4 Tryz.func162 rfl Tryz.ntmps162 rfl fun S w0=>?_;refine sr (bx fun z=>?_);refine cq (nt (sr ?_));refine ja (tj [] [.tmp 1] [] [(Pv z)] rfl rfl rfl) ?_;refine aq (nt (aA ?_));exact aO z [_] 1 ⟨rfl,trivial⟩ rfl
def oW(k:Nat)(a0:(List Int)):Option (List Int):=
 (ib k (qC (fun(y3:(List Int)) (p5:(Int×Int))=>
  some ((p5.2::y3),true))) a0 ([],false)).bind fun r6=>
 if r6.2=true then(none) else(some r6.1)
theorem zy(k:Nat)(a0:(List Int))(r:(List Int))(h:oW k a0=some r):
 cd Tryz.prog 129 [Ri a0] [] (fun _:Unit=>(bv [.rep (.lst (.int .i64)) r],[])):=by
 unfold oW at h
 replace h:=a9 h
 refine ze 15 Tryz.func129 rfl Tryz.ntmps129 rfl fun {M} S w0=>?_
 refine sr ?_
 refine cq ?_
 refine nt ?_
 refine sr ?_
 refine aF rfl rfl rfl (bf rfl OZ Rh) trivial fun b1=>?_
 refine nt ?_
 refine ae ?_
 refine sr ?_
 refine mq ?_
 refine aF rfl rfl rfl (ap [.tmp 6] rfl rfl QQ rfl (qo a0)) ⟨rfl,trivial⟩ fun b2=>?_
 refine nt ?_
 refine ao ?_
 refine jE 1 rfl ?_
 refine dL (ou (a:=.eq (.pointer none)) (a':=.rep (.lst (.int .i64)) []) (wl .lnil)) ?_
 refine jE 1 rfl ?_
 obtain⟨r6,c,h⟩:=aa h
 refine ox (Δ:=[.obj b2 23 (Ri a0),.obj b1 201 (.rep (.lst (.int .i64)) [])]) (F:=[]) (X:=Unit) (J:=fun _=>KQ r6.2) (E:=fun z4=>[.obj b2 23 (Ri a0),.obj b1 201 (.rep (.lst (.int .i64)) r6.1)]) (r0:=fun _=>.tup .any) rfl rfl QL (fun rec hp ha hb hs hpe hN hv l=>?_) (fun dl z4=>qM (fun hj=>?_) (fun hj=>?_))
 ·
  rcases rec with⟨st0,pe0,fn0,tm0,ps0,as0,bd0,df0⟩;dsimp only at hp ha hb hs hpe hN hv;subst hp hs hpe;have vN:vZ tm0 [(3,Pt b1)]:=⟨congrArg A.eq (hv 3 _ rfl).symm,trivial⟩;refine dy.pick (M:=M) [1,0,2] [1,0,2] (oL (fun(z4:Unit) (q:(List Int)×Bool)=>[.raw l (.loop (kl ⟨.ready,none,fn0,tm0, #[8,9],as0,bd0,df0⟩ (KQ q.2))),.obj b1 201 (.rep (.lst (.int .i64)) q.1)]) l (qC (fun(y3:(List Int)) (p5:(Int×Int))=>
  some ((p5.2::y3),true))) k a0 b2 (fun z4 q p r' h=>?_) () ([],false) r6 c) rfl (fun _=>rfl) (fun _=>rfl)
  obtain⟨rq,hq,h2,rfl⟩:=qN h;obtain⟨y3,b5⟩:=q;obtain rfl:b5=false:=hq;replace h:=a9 h2;obtain⟨p5,hpv⟩:∃x,x=p:=⟨_,rfl⟩;subst hpv;refine YT.pick (R':=(fun z4:Unit=>(.eq (.bool rq.2),[.raw l (.loop (kl ⟨.ready,none,fn0,tm0, #[8,9],as0,bd0,df0⟩ (KQ (!rq.2)))),.obj b1 201 (.rep (.lst (.int .i64)) rq.1)]))) [0,1] [0,1] (LP ha hb (N:=15) (Γ:=[(3,Pt b1)]) rfl hN (by decide) vN (fun S w=>?_)) rfl (fun _=>rfl) (fun _=>rfl);refine ab (aq (nl ?_));refine wh rfl rfl ?_;refine ao (ab (mq ?_));refine fr 1 ?_;refine lo zD ?_;refine jb (cN [(0,.tmp 10,_),(1,.tmp 11,_)] rfl PD OY Ov (il ⟨rfl,rfl,trivial⟩) rfl) ?_;refine aF rfl rfl rfl (oH rfl trivial) ⟨rfl,trivial⟩ fun b7=>?_;refine cC (lV (t:=GP) (x:=(p5.2,y3)) [13] (.agg (.pair .int .rep)) ⟨rfl,trivial⟩) ?_;refine bh rfl rfl (be rfl zD trivial rfl rfl) ⟨rfl,rfl,trivial⟩ ?_;refine au (aM (bC (ou (a:=.at GP (p5.2,y3)) (a':=.rep (.lst (.int .i64)) (p5.2::y3)) (wl .lcons)) ?_));refine dq 1 rfl ?_;cases h;exact tY () 1 rfl
 ·
  replace h:=bQ (BE hj) h;refine aM (tn (sr (fr 2 ?_)));refine lo zD ?_;refine aq (nt (aA ?_));refine dq 1 rfl ?_;refine zc ?_;cases h;exact ra
 ·
  replace h:=cE (BD hj) h;cases h
def gZ(k:Nat)(a1:Int):Nat→(Int×(List Int)×(List Int)×(List Int))→Option (Int×(List Int))
 |0,_=>none
 |n+1,y2=>
  if List.isEmpty y2.2.2.2=true then((dt (bH (List.length y2.2.2.1+List.length y2.2.1))).bind fun _=>
  some (y2.1,y2.2.2.1++y2.2.1)) else((oS y2.2.2.2).bind fun x6=>
  (eA k a1 x6.1).bind fun r7=>
  if r7=true then((oS y2.2.2.2).bind fun x8=>
  (dt (bH (List.length y2.2.1+List.length [x8.1]))).bind fun _=>
  (oS y2.2.2.2).bind fun l=>
  gZ k a1 n (y2.1,y2.2.1++[x8.1],y2.2.2.1,l.2)) else(((if 0 < (y2.2.1.length:Int) then((oS y2.2.2.2).bind fun h=>
  (eT k y2.1 h.1).bind fun r=>
  some r) else(some y2.1)):Option (Int)).bind fun j=>
  (oS y2.2.2.2).bind fun c=>
  (dt (bH (List.length y2.2.2.1+List.length [c.1]))).bind fun _=>
  (oS y2.2.2.2).bind fun e=>
  gZ k a1 n (j,y2.2.1,y2.2.2.1++[c.1],e.2)))
def nn(k:Nat)(a0:(List Int))(a1:Int):Option (Int×(List Int)):=
 (oW k a0).bind fun r1=>
 gZ k a1 k (0,([]:(List Int)),([]:(List Int)),r1)
theorem t4(k:Nat)(a0:(List Int))(a1:Int)(r:Int×(List Int))(h:nn k a0 a1=some r):
 cd Tryz.prog 99 [Ri a0,.eq (.int .u8 a1)] [] (fun _:Unit=>(bv [.eq (.int .u8 r.1),Ri r.2],[])):=by
 unfold nn at h
 replace h:=a9 h
 refine cd.of 54 Tryz.func99 rfl Tryz.ntmps99 rfl fun S w0=>?_
 refine sr ?_
 refine cq ?_
 refine cq ?_
 refine nt ?_
 refine Gi rfl (Eb (by kernel_rfl) (Eb (by kernel_rfl) (NV NU))) ?_
 refine sr ?_
 refine cq ?_
 refine cq ?_
 refine nt ?_
 refine sr ?_
 refine mq ?_
 obtain⟨r1,mc,h⟩:=aa h
 have pp:=zy k a0 r1 mc
 refine ja (ap [.tmp 9] rfl rfl QY rfl pp) ?_
 refine aq ?_
 refine nt ?_
 refine ae ?_
 refine Js ?_
 refine tn ?_
 refine dL (SE.nil 3 (.int .i64)) ?_
 refine dL (SE.nil 3 (.int .i64)) ?_
 refine Dq (Z:=Value×Value) (α:=Int×(List Int)×(List Int)×(List Int)) rfl (fun z3 y2=>[(1,.eq (.int .u8 a1)),(4,.eq (.int .u8 y2.1)),(6,.eq z3.1),(7,.eq z3.2),(8,.rep (.lst (.int .i64)) y2.2.2.2)]) (fun z3 y2=>[.sl z3.1 3 (.int .i64) y2.2.1,.sl z3.2 3 (.int .i64) y2.2.2.1]) (gZ k a1) k ((.slice none 0 0),(.slice none 0 0)) (0,([]:(List Int)),([]:(List Int)),r1) (fun _=>rfl) h (SE.fin [1,0] ⟨rfl,rfl,rfl,rfl,rfl,trivial⟩ rfl) (fun n z3 y2 h=>?_)
 unfold gZ at h
 refine ae ?_
 refine sr ?_
 refine mq ?_
 refine jb (Hw rfl Uc) ?_
 refine nt ?_
 refine cv h (fun h=>?_) (fun h=>?_)
 ·
  refine sr ?_;iterate 3 refine mq ?_
  refine cC (eD [6,15] ⟨rfl,rfl,trivial⟩) ?_;obtain⟨u4,Y,h⟩:=aa h;refine cF rfl rfl rfl (bz rfl rfl dw (ay Y)) ⟨rfl,rfl,trivial⟩ fun v5=>?_;refine aq ?_;refine aq (nt (rx ?_));refine Jr ?_;refine bC (eD [5,16] ⟨rfl,rfl,trivial⟩) ?_;cases h;exact rb
 ·
  refine sk (ae (sr ?_));iterate 2 refine mq ?_
  obtain⟨x6,U,h⟩:=aa h;refine ja (lS rfl U) ?_;refine ja (aI 1 false rfl uH rfl) ?_;refine ja (ak (t:=(.int .i64)) rfl co rfl) ?_;obtain⟨r7,ac,h⟩:=aa h;refine jb (ap [.tmp 17,.tmp 21] rfl rfl Lm rfl (iJ k a1 x6.1 r7 ac)) ?_;refine nt (cv h (fun h=>?_) (fun h=>?_))
  ·refine sr ?_;iterate 2 refine mq ?_
   obtain⟨x8,Q,h⟩:=aa h;refine ja (lS rfl Q) ?_;refine ja (aI 1 false rfl uH rfl) ?_;refine ja (ak (t:=(.int .i64)) rfl co rfl) ?_;refine ja (bi (t:=(.int .i64)) [(.tmp 27,_)] [x8.1] rfl rfl dw (.cons rfl .int .nil) rfl rfl) ?_;obtain⟨u9,X,h⟩:=aa h;refine cF rfl rfl rfl (bz rfl rfl dw (ay X)) ⟨rfl,rfl,trivial⟩ fun O=>?_;refine aq (nt (sr ?_));refine mq ?_;obtain⟨J,y,h⟩:=aa h;refine ja (lS rfl y) ?_;refine ja (aI 1 false rfl D9 rfl) ?_;refine ja (ak (t:=(.lst (.int .i64))) rfl zD rfl) ?_;refine aq (nt ?_);refine EA ?_;refine Gh ?_;exact Ey ((O,z3.2),(y2.1,y2.2.1++[x8.1],y2.2.2.1,J.2)) h (SE.fin [0,1] ⟨rfl,rfl,rfl,rfl,rfl,trivial⟩ rfl)
  ·refine sk (aL (Z:=Unit) (α:=Int) (fun e c=>[(1,.eq (.int .u8 a1)),(4,.eq (.int .u8 c)),(6,.eq z3.1),(7,.eq z3.2),(8,.rep (.lst (.int .i64)) y2.2.2.2)]) (fun e c=>[.sl z3.1 3 (.int .i64) y2.2.1,.sl z3.2 3 (.int .i64) y2.2.2.1]) h (fun K h=>?_) (fun e c h=>?_))
   ·refine sr (mq ?_);refine ka (dj rfl rfl dE) ?_;refine jb (iz rfl) ?_;refine nt (ci h (fun h=>?_) (fun h=>?_))
    ·refine ab ?_;iterate 2 refine mq ?_
     obtain⟨I,x,h⟩:=aa h;refine ja (lS rfl x) ?_;refine ja (aI 1 false rfl uH rfl) ?_;refine ja (ak (t:=(.int .i64)) rfl co rfl) ?_;obtain⟨l,E,h⟩:=aa h;refine jb (ap [.tmp 37,.tmp 41] rfl rfl Ee rfl (jG k y2.1 I.1 l E)) ?_;refine aq (nl ?_);exact jz ((),l) h [0,1]
    ·refine aW (ag ?_);exact jz ((),y2.1) h [0,1]
   ·refine sr ?_;iterate 2 refine mq ?_
    obtain⟨j,u,h⟩:=aa h;refine ja (lS rfl u) ?_;refine ja (aI 1 false rfl uH rfl) ?_;refine ja (ak (t:=(.int .i64)) rfl co rfl) ?_;refine ja (bi (t:=(.int .i64)) [(.tmp 47,_)] [j.1] rfl rfl dw (.cons rfl .int .nil) rfl rfl) ?_;obtain⟨qt,D,h⟩:=aa h;refine fr 1 ?_;refine cF rfl rfl rfl (bz rfl rfl dw (ay D)) ⟨rfl,rfl,trivial⟩ fun M=>?_;refine aq (nt (sr ?_));refine mq ?_;obtain⟨F,s,h⟩:=aa h;refine ja (lS rfl s) ?_;refine ja (aI 1 false rfl D9 rfl) ?_;refine ja (ak (t:=(.lst (.int .i64))) rfl zD rfl) ?_;refine aq (nt ?_);refine EA ?_;exact Ey ((z3.1,M),(c,y2.2.1,y2.2.2.1++[j.1],F.2)) h (SE.fin [1,0] ⟨rfl,rfl,rfl,rfl,rfl,trivial⟩ rfl)
def dz(k:Nat)(a0:(List Int))(a1:Int):Nat→Int→Option (Except Int Unit)
 |0,_=>none
 |n+1,y3=>
  if y3 < (a0.length:Int) then((aP a0 y3).bind fun x5=>
  if a1=x5 then(some (.error y3)) else((ck (y3+1)).bind fun x6=>
  dz k a0 a1 n x6)) else(some (.ok ()))
def jw(k:Nat)(a0:(List Int))(a1:Int):Option Int:=
 bE (α:=Unit) (dz k a0 a1 k 0) (some) fun _=>
 some (-1:Int)
theorem ta(k:Nat)(a0:(List Int))(a1:Int)(r:Int)(h:jw k a0 a1=some r):
 cd Tryz.prog 87 [Ri a0,I a1] [] (fun _:Unit=>(bv [I r],[])):=by
 unfold jw at h
 replace h:=a9 h
 refine cd.of 19 Tryz.func87 rfl Tryz.ntmps87 rfl fun S w0=>?_
 refine sr ?_
 refine cq ?_
 refine nt ?_
 refine dS (Z:=Unit) (α:=Unit) (fun z2 x1=>[]) (fun z2 x1=>[]) (fun e=>e=r) h (fun e h=>Option.some.inj h) (fun K hR h=>?_) (fun z2 x1 h=>?_)
 ·
  refine sr (mq ?_);refine ol dE ?_;refine fk rfl ?_;refine nt (ao (aJ (fun z4 y3=>[(0,Ri a0),(1,I a1),(7,I (a0.length:Int)),(8,I y3)]) (fun z4 y3=>[]) (dz k a0 a1) k () 0 (fun _=>rfl) h (SE.fin [] ⟨rfl,rfl,rfl,rfl,trivial⟩ rfl) (fun n z4 y3 h=>?_)));unfold dz at h;refine sr (jb (bm rfl) ?_);refine nt (ae (ci h (fun h=>?_) (fun h=>?_)))
  ·refine sk (ae (ao (sr (mq ?_))));refine aq (nt (sr ?_));iterate 3 refine mq ?_
   obtain⟨x5,j,h⟩:=aa h;refine jb (aC (t:=(.int .i64)) rfl dE co j) ?_;refine ja (ak (t:=(.int .i64)) rfl co rfl) ?_;refine jb (fL rfl) ?_;refine nt (ci h (fun h=>?_) (fun h=>?_))
   ·refine sr (mq ?_);refine aq (nt (aA (br (bj (aV ?_)))));obtain rfl:=hR _ h;exact ra
   ·refine aW (aM (tn (ab ?_)));obtain⟨x6,c,h⟩:=aa h;refine jb (bb rfl c) ?_;refine mq (nl ?_);exact jz ((),x6) h []
  ·refine xa ?_;exact jz ((),()) h []
 ·
  refine sr (cq (nt (aA ?_)));cases h;exact ra
def gI(k:Nat)(a0:(List Int))(a1:Int):Option Bool:=
 (jw k a0 a1).bind fun r1=>
 some (decide (0≤r1))
theorem qm(k:Nat)(a0:(List Int))(a1:Int)(r:Bool)(h:gI k a0 a1=some r):
 cd Tryz.prog 130 [Ri a0,I a1] [] (fun _:Unit=>(bv [.eq (.bool r)],[])):=by
 unfold gI at h
 replace h:=a9 h
 refine cd.of 9 Tryz.func130 rfl Tryz.ntmps130 rfl fun S w0=>?_
 refine sr ?_
 refine cq ?_
 refine nt ?_
 refine sr ?_
 iterate 2 refine mq ?_
 obtain⟨r1,c,h⟩:=aa h
 have e:=ta k a0 a1 r1 c
 refine jb (ap [.tmp 5,.tmp 6] rfl rfl Ta rfl e) ?_
 refine jb (qD rfl) ?_
 refine aq ?_
 refine nt ?_
 refine aA ?_
 cases h
 exact ra
def fm(k:Nat)(a0:du)(a1:Int):Nat→(Int×Int)→Option Int
 |0,_=>none
 |n+1,y3=>
  if y3.2 < (a0.1.2.1.length:Int) then((((aP a0.1.2.1 y3.2).bind fun x7=>
  (gI k x7.2 a1).bind fun r9=>
  if r9=true then((eT k y3.1 y3.2).bind fun e=>
  some e) else(some y3.1)):Option (Int)).bind fun x5=>
  (ck (y3.2+1)).bind fun c=>
  fm k a0 a1 n (x5,c)) else(some y3.1)
def ip(k:Nat)(a0:du)(a1:Int):Option Int:=
 ((fm k a0 a1 k (0,0)):Option (Int)).bind fun x1=>
 some x1
theorem nj(k:Nat)(a0:du)(a1:Int)(r:Int)(h:ip k a0 a1=some r):
 cd Tryz.prog 100 [.at bO a0,I a1] [] (fun _:Unit=>(bv [.eq (.int .u8 r)],[])):=by
 unfold ip at h
 replace h:=a9 h
 refine cd.of 28 Tryz.func100 rfl Tryz.ntmps100 rfl fun S w0=>?_
 refine sr ?_
 refine cq ?_
 refine nt ?_
 refine sr ?_
 refine cq ?_
 refine nt ?_
 refine aL (Z:=Unit) (α:=Int) (fun z2 x1=>[(5,.eq (.int .u8 x1))]) (fun z2 x1=>[]) h (fun K h=>?_) (fun z2 x1 h=>?_)
 ·
  refine sr (mq ?_);refine ja (dT rfl) ?_;refine ja (aI 3 true rfl kA rfl) ?_;refine ja (aI 1 false rfl bV rfl) ?_;refine ja (ak (t:=(.slice aZ)) rfl eU rfl) ?_;refine ol mG ?_;refine fk rfl ?_;refine nt (ao (aJ (fun z4 y3=>[(1,I a1),(5,.eq (.int .u8 y3.1)),(12,Rs aZ a0.1.2.1),(13,I (a0.1.2.1.length:Int)),(14,I y3.2)]) (fun z4 y3=>[]) (fm k a0 a1) k () (0,0) (fun _=>rfl) h (SE.fin [] ⟨rfl,rfl,rfl,rfl,rfl,trivial⟩ rfl) (fun n z4 y3 h=>?_)));unfold fm at h;refine sr (jb (bm rfl) ?_);refine nt (ae (ci h (fun h=>?_) (fun h=>?_)))
  ·refine sk (aL (Z:=Unit) (α:=Int) (fun z6 x5=>[(1,I a1),(5,.eq (.int .u8 x5)),(12,Rs aZ a0.1.2.1),(13,I (a0.1.2.1.length:Int)),(14,I y3.2)]) (fun z6 x5=>[]) h (fun K h=>?_) (fun z6 x5 h=>?_))
   ·refine ao (sr (mq ?_));obtain⟨x7,s,h⟩:=aa h;refine jb (aC (t:=aZ) rfl mG kh s) ?_;refine ja (ak (t:=aZ) rfl kh rfl) ?_;refine aF rfl rfl rfl (bf rfl ug LK) trivial fun b8=>?_;refine aq ?_;refine bh rfl rfl (be rfl kh rfl rfl rfl) ⟨rfl,rfl,trivial⟩ ?_;refine nt (sr (fl kz ?_));refine lo bG ?_;refine mq ?_;obtain⟨r9,u,h⟩:=aa h;refine jb (ap [.tmp 20,.tmp 21] rfl rfl QX rfl (qm k x7.2 a1 r9 u)) ?_;refine nt (cv h (fun h=>?_) (fun h=>?_))
    ·refine ab ?_;iterate 2 refine mq ?_
     obtain⟨c,j,h⟩:=aa h;refine jb (ap [.tmp 23,.tmp 24] rfl rfl Ee rfl (jG k y3.1 y3.2 c j)) ?_;refine aq (au (bn ?_));exact jz ((),c) h []
    ·refine aW (bn ?_);exact jz ((),y3.1) h []
   ·refine ab ?_;obtain⟨l,e,h⟩:=aa h;refine jb (bb rfl e) ?_;refine mq (nl ?_);exact jz ((),(x5,l)) h []
  ·refine xa ?_;exact jz ((),y3.1) h []
 ·
  refine sr (mq ?_);refine aq (nt (aA ?_));cases h;exact ra
def cY(k:Nat)(a0:du)(a1:(List (List Int)))(a2:Int):Nat→(Int×(List (List Int))×Int)→Option (Int×(List (List Int)))
 |0,_=>none
 |n+1,y5=>
  if y5.2.2 < 3 then((d6 k a1 y5.2.2).bind fun r7=>
  (ip k a0 a2).bind fun r8=>
  (nn k r7 r8).bind fun r9=>
  (dt (bH (List.length y5.2.1+List.length [r9.2]))).bind fun _=>
  (ck (y5.2.2+1)).bind fun c=>
  cY k a0 a1 a2 n (D4 .u8 y5.1 r9.1,y5.2.1++[r9.2],c)) else(some (y5.1,y5.2.1))
def jd(k:Nat)(a0:du)(a1:(List (List Int)))(a2:Int):Option (Int×(List (List Int))):=
 ((cY k a0 a1 a2 k (0,([]:(List (List Int))),0)):Option (Int×(List (List Int)))).bind fun x3=>
 (dN k x3.2).bind fun c=>
 some (x3.1,c)
theorem oC(k:Nat)(a0:du)(a1:(List (List Int)))(a2:Int)(r:Int×(List (List Int)))(h:jd k a0 a1 a2=some r):
 cd Tryz.prog 55 [.at bO a0,.rep (.arr 3 (.arr 5 (.int .i64))) a1,I a2] [] (fun _:Unit=>(bv [.eq (.int .u8 r.1),.rep (.arr 3 (.arr 5 (.int .i64))) r.2],[])):=by
 unfold jd at h
 replace h:=a9 h
 refine cd.of 37 Tryz.func55 rfl Tryz.ntmps55 rfl fun S w0=>?_
 refine sr ?_
 refine bx fun b1=>?_
 refine cq ?_
 refine aF rfl rfl rfl (bf rfl sS tV) trivial fun b2=>?_
 refine nt ?_
 refine sr ?_
 refine cq ?_
 refine nt ?_
 refine sr ?_
 refine cq ?_
 refine nt ?_
 refine aL (Z:=Value) (α:=Int×(List (List Int))) (fun z4 x3=>[(7,Pt b2),(8,.eq (.int .u8 x3.1)),(9,.eq z4)]) (fun z4 x3=>[.obj b2 86 (.rep (.arr 3 (.arr 5 (.int .i64))) [[0,0,0,0,0],[0,0,0,0,0],[0,0,0,0,0]]),.sl z4 23 (.slice (.int .i64)) x3.2]) h (fun K h=>?_) (fun z4 x3 h=>?_)
 ·
  refine sr (fk rfl ?_);refine nt (ao (dL (SE.nil 23 (.slice (.int .i64))) ?_));refine aJ (fun z6 y5=>[(0,.at bO a0),(2,I a2),(4,Pt b1),(7,Pt b2),(8,.eq (.int .u8 y5.1)),(9,.eq z6),(13,I y5.2.2)]) (fun z6 y5=>[.obj b1 86 (.rep (.arr 3 (.arr 5 (.int .i64))) a1),.obj b2 86 (.rep (.arr 3 (.arr 5 (.int .i64))) [[0,0,0,0,0],[0,0,0,0,0],[0,0,0,0,0]]),.sl z6 23 (.slice (.int .i64)) y5.2.1]) (cY k a0 a1 a2) k (.slice none 0 0) (0,([]:(List (List Int))),0) (fun _=>rfl) h (SE.fin [2,1,0] ⟨rfl,rfl,rfl,rfl,rfl,rfl,rfl,trivial⟩ rfl) (fun n z6 y5 h=>?_);unfold cY at h;refine sr (jb (bm rfl) ?_);refine nt (ae (ci h (fun h=>?_) (fun h=>?_)))
  ·refine sk (ae (ao (sr (mq ?_))));refine aq (nt (sr ?_));refine lo gu ?_;refine mq ?_;obtain⟨r7,D,h⟩:=aa h;refine jb (ap [.tmp 17,.tmp 18] rfl rfl Lj rfl (gC k a1 y5.2.2 r7 D)) ?_;iterate 2 refine mq ?_
   obtain⟨r8,y,h⟩:=aa h;refine jb (ap [.tmp 20,.tmp 21] rfl rfl Q8 rfl (nj k a0 a2 r8 y)) ?_;obtain⟨r9,x,h⟩:=aa h;refine jb (ap [.tmp 19,.tmp 22] rfl rfl S7 rfl (t4 k r7 r8 r9 x)) ?_;refine mq ?_;refine xr ?_;refine xr ?_;refine aq ?_;refine aq (nt (sr ?_));iterate 2 refine mq ?_
   refine jb (PI rfl) ?_;refine aq (nt (ab ?_));iterate 2 refine mq ?_
   refine ja (bi (t:=(.slice (.int .i64))) [(.tmp 30,_)] [r9.2] rfl rfl m7 (.cons rfl .rep .nil) rfl rfl) ?_;obtain⟨E,j,h⟩:=aa h;refine fr 2 ?_;refine cF rfl rfl rfl (bz rfl rfl m7 (ay j)) ⟨rfl,rfl,trivial⟩ fun u=>?_;refine aq (au (aM (tn (ab ?_))));obtain⟨s,e,h⟩:=aa h;refine jb (bb rfl e) ?_;refine mq (nl ?_);exact jz (u,(D4 .u8 y5.1 r9.1,y5.2.1++[r9.2],s)) h [1,2,0]
  ·refine xa ?_;exact jz (z6,(y5.1,y5.2.1)) h [1,2]
 ·
  refine sr ?_;iterate 2 refine mq ?_
  obtain⟨c,l,h⟩:=aa h;refine fr 1 ?_;refine ka (rn (N:=[(.tmp 35,.eq z4)]) (ap [.tmp 35] rfl rfl FO rfl (fy k x3.2 c l)) (fun _ _ _ hv hn=>⟨(lend hn.1 hv),trivial⟩) (fun _=>⟨rfl,vM⟩)) ?_;refine aq ?_;refine fr 1 ?_;refine bh rfl rfl (be rfl gu rfl rfl rfl) ⟨rfl,rfl,trivial⟩ ?_;refine nt (aA ?_);cases h;exact aO () [_,.rep (.arr 3 (.arr 5 (.int .i64))) c] 0 ⟨rfl,⟨_,_,_,_,_,rfl,(.head _),gu,(uD),rfl⟩,trivial⟩ rfl
def eH(k:Nat)(a0:du)(a1:(List (List Int))):Nat→((List (List Int))×Int)→Option (List (List Int))
 |0,_=>none
 |n+1,y6=>
  if y6.2 < ((List.replicate (Int.toNat (a0.1.2.2.length:Int)) ([]:(List Int))).length:Int) then((d6 k a1 y6.2).bind fun r8=>
  (aP y6.1 y6.2).bind fun x9=>
  (ck (y6.2+1)).bind fun c=>
  eH k a0 a1 n (List.set y6.1 (Int.toNat y6.2) r8,c)) else(some y6.1)
def fw(k:Nat)(a0:du)(a1:(List (List Int))):Option (List (List Int)):=
 (dt (0≤(a0.1.2.2.length:Int)∧bH (Int.toNat (a0.1.2.2.length:Int)))).bind fun _=>
 ((eH k a0 a1 k (List.replicate (Int.toNat (a0.1.2.2.length:Int)) ([]:(List Int)),0)):Option ((List (List Int)))).bind fun x4=>
 some x4
theorem j8(k:Nat)(a0:du)(a1:(List (List Int)))(r:(List (List Int)))(h:fw k a0 a1=some r):
 cd Tryz.prog 58 [.at bO a0,.rep (.arr 3 (.arr 5 (.int .i64))) a1] [] (fun z:Value=>(bv [.eq z],[.sl z 23 (.slice (.int .i64)) r])):=by
 unfold fw at h
 replace h:=a9 h
 refine cd.of 27 Tryz.func58 rfl Tryz.ntmps58 rfl fun S w0=>?_
 refine sr ?_
 refine bx fun b1=>?_
 refine cq ?_
 refine nt ?_
 refine sr ?_
 refine mq ?_
 refine ja (dT rfl) ?_
 refine ja (aI 3 true rfl kA rfl) ?_
 refine ja (aI 1 false rfl cK rfl) ?_
 refine ja (ak (t:=(.slice (.int .i64))) rfl bG rfl) ?_
 refine ol dE ?_
 obtain⟨u2,j,h⟩:=aa h
 refine aF rfl rfl rfl (Cm (t:=(.slice (.int .i64))) (d:=([]:(List Int))) rfl m7 RV (ay j).1 (ay j).2) ⟨rfl,rfl,trivial⟩ fun v3=>?_
 refine aq ?_
 refine nt ?_
 refine aL (Z:=Unit) (α:=(List (List Int))) (fun z5 x4=>[(5,.eq v3)]) (fun z5 x4=>[.sl v3 23 (.slice (.int .i64)) x4]) h (fun K h=>?_) (fun z5 x4 h=>?_)
 ·
  refine sr (mq ?_);refine ka (dj rfl rfl lE) ?_;refine fk rfl ?_;refine nt (ao (aJ (fun z7 y6=>[(3,Pt b1),(5,.eq v3),(15,I ((List.replicate (Int.toNat (a0.1.2.2.length:Int)) ([]:(List Int))).length:Int)),(16,I y6.2)]) (fun z7 y6=>[.obj b1 86 (.rep (.arr 3 (.arr 5 (.int .i64))) a1),.sl v3 23 (.slice (.int .i64)) y6.1]) (eH k a0 a1) k () (List.replicate (Int.toNat (a0.1.2.2.length:Int)) ([]:(List Int)),0) (fun _=>rfl) h (SE.fin [1,0] ⟨rfl,rfl,rfl,rfl,trivial⟩ rfl) (fun n z7 y6 h=>?_)));unfold eH at h;refine sr (jb (bm rfl) ?_);refine nt (ae (ci h (fun h=>?_) (fun h=>?_)))
  ·refine sk (ae (ao (sr (mq ?_))));refine aq (nt (ab ?_));iterate 2 refine mq ?_
   refine lo gu ?_;refine mq ?_;obtain⟨r8,s,h⟩:=aa h;refine jb (ap [.tmp 21,.tmp 22] rfl rfl Lj rfl (gC k a1 y6.2 r8 s)) ?_;obtain⟨x9,c,h⟩:=aa h;refine fr 1 ?_;refine kb (aY (t:=(.slice (.int .i64))) rfl lE bG c) ?_;refine bh rfl rfl (cI (i:=Int.toNat y6.2) rfl bG rfl (gz c) rfl .rep rfl) ⟨rfl,rfl,trivial⟩ ?_;refine au (aM (tn (ab ?_)));obtain⟨l,e,h⟩:=aa h;refine jb (bb rfl e) ?_;refine mq (nl ?_);exact jz ((),(List.set y6.1 (Int.toNat y6.2) r8,l)) h [1,0]
  ·refine xa ?_;exact jz ((),y6.1) h [1]
 ·
  refine sr (mq ?_);refine aq (nt (aA ?_));cases h;exact aO v3 [.eq v3] 1 ⟨rfl,trivial⟩ rfl
def dO(k:Nat)(a0:(List Int))(a1:(List Int)):Nat→Int→Option (Except Bool Unit)
 |0,_=>none
 |n+1,y3=>
  if y3 < (a0.length:Int) then((aP a0 y3).bind fun x5=>
  (aP a1 y3).bind fun x6=>
  if¬(x5=x6) then(some (.error false)) else((ck (y3+1)).bind fun x7=>
  dO k a0 a1 n x7)) else(some (.ok ()))
def dI(k:Nat)(a0:(List Int))(a1:(List Int)):Option Bool:=
 if¬((a0.length:Int)=(a1.length:Int)) then(some false) else(bE (α:=Unit) (dO k a0 a1 k 0) (some) fun _=>
 some true)
theorem fS(k:Nat)(a0:(List Int))(a1:(List Int))(r:Bool)(h:dI k a0 a1=some r):
 cd Tryz.prog 24 [Ri a0,Ri a1] [] (fun _:Unit=>(bv [.eq (.bool r)],[])):=by
 unfold dI at h
 replace h:=a9 h
 refine cd.of 26 Tryz.func24 rfl Tryz.ntmps24 rfl fun S w0=>?_
 refine sr ?_
 refine cq ?_
 refine nt ?_
 refine ae ?_
 refine sr ?_
 refine mq ?_
 refine ol dE ?_
 refine mq ?_
 refine ol dE ?_
 refine jb (iy rfl) ?_
 refine nt ?_
 refine cn h (fun h=>?_) (fun h=>?_)
 ·
  refine sr (cq (nt (rx ?_)));cases h;exact ra
 ·
  refine sk (dS (Z:=Unit) (α:=Unit) (fun z2 x1=>[]) (fun z2 x1=>[]) (fun e=>e=r) h (fun e h=>Option.some.inj h) (fun K hR h=>?_) (fun z2 x1 h=>?_))
  ·refine sr (cq (nt (ao ?_)));refine aJ (fun z4 y3=>[(0,Ri a0),(1,Ri a1),(5,I y3)]) (fun z4 y3=>[]) (dO k a0 a1) k () 0 (fun _=>rfl) h (SE.fin [] ⟨rfl,rfl,rfl,trivial⟩ rfl) (fun n z4 y3 h=>?_);unfold dO at h;refine ae (sr ?_);iterate 2 refine mq ?_
   refine ol dE ?_;refine jb (bm rfl) ?_;refine nt (ci h (fun h=>?_) (fun h=>?_))
   ·refine sk (ae (ao (ae (bJ ?_))));refine dm ?_;refine dm ?_;obtain⟨x5,l,h⟩:=aa h;refine db (aC (t:=(.int .i64)) rfl dE co l) ?_;refine da (ak (t:=(.int .i64)) rfl co rfl) ?_;refine dm ?_;refine dm ?_;obtain⟨x6,j,h⟩:=aa h;refine db (aC (t:=(.int .i64)) rfl dE co j) ?_;refine da (ak (t:=(.int .i64)) rfl co rfl) ?_;refine df cD ?_;refine jb (iy rfl) ?_;refine nt (cn h (fun h=>?_) (fun h=>?_))
    ·refine sr (cq (nt (aA (br (bj (aV ?_))))));obtain rfl:=hR _ h;exact ra
    ·refine aW (aM (tn (ab (mq ?_))));obtain⟨x7,c,h⟩:=aa h;refine jb (bb rfl c) ?_;refine aq (nl ?_);exact jz ((),x7) h []
   ·refine xa ?_;exact jz ((),()) h []
  ·refine sr (cq (nt (aA ?_)));cases h;exact ra
def fq(k:Nat)(a0:(List (List Int)))(a1:(List (List Int))):Nat→Int→Option (Except Bool Unit)
 |0,_=>none
 |n+1,y3=>
  if y3 < (a0.length:Int) then((aP a0 y3).bind fun x5=>
  (aP a1 y3).bind fun x6=>
  (dI k x5 x6).bind fun r7=>
  if¬(r7=true) then(some (.error false)) else((ck (y3+1)).bind fun x8=>
  fq k a0 a1 n x8)) else(some (.ok ()))
def gl(k:Nat)(a0:(List (List Int)))(a1:(List (List Int))):Option Bool:=
 if¬((a0.length:Int)=(a1.length:Int)) then(some false) else(bE (α:=Unit) (fq k a0 a1 k 0) (some) fun _=>
 some true)
theorem kN(k:Nat)(a0:(List (List Int)))(a1:(List (List Int)))(r:Bool)(h:gl k a0 a1=some r):
 cd Tryz.prog 25 [.rep (.slice (.slice (.int .i64))) a0,.rep (.slice (.slice (.int .i64))) a1] [] (fun _:Unit=>(bv [.eq (.bool r)],[])):=by
 unfold gl at h
 replace h:=a9 h
 refine cd.of 27 Tryz.func25 rfl Tryz.ntmps25 rfl fun S w0=>?_
 refine sr ?_
 refine cq ?_
 refine nt ?_
 refine ae ?_
 refine sr ?_
 refine mq ?_
 refine ol lE ?_
 refine mq ?_
 refine ol lE ?_
 refine jb (iy rfl) ?_
 refine nt ?_
 refine cn h (fun h=>?_) (fun h=>?_)
 ·
  refine sr (cq (nt (rx ?_)));cases h;exact ra
 ·
  refine sk (dS (Z:=Unit) (α:=Unit) (fun z2 x1=>[]) (fun z2 x1=>[]) (fun e=>e=r) h (fun e h=>Option.some.inj h) (fun K hR h=>?_) (fun z2 x1 h=>?_))
  ·refine sr (cq (nt (ao ?_)));refine aJ (fun z4 y3=>[(0,.rep (.slice (.slice (.int .i64))) a0),(1,.rep (.slice (.slice (.int .i64))) a1),(5,I y3)]) (fun z4 y3=>[]) (fq k a0 a1) k () 0 (fun _=>rfl) h (SE.fin [] ⟨rfl,rfl,rfl,trivial⟩ rfl) (fun n z4 y3 h=>?_);unfold fq at h;refine ae (sr ?_);iterate 2 refine mq ?_
   refine ol lE ?_;refine jb (bm rfl) ?_;refine nt (ci h (fun h=>?_) (fun h=>?_))
   ·refine sk (ae (ao (ae (bJ ?_))));refine dm ?_;refine dm ?_;obtain⟨x5,l,h⟩:=aa h;refine db (aC (t:=(.slice (.int .i64))) rfl lE bG l) ?_;refine da (ak (t:=(.slice (.int .i64))) rfl bG rfl) ?_;refine dm ?_;refine dm ?_;obtain⟨x6,j,h⟩:=aa h;refine db (aC (t:=(.slice (.int .i64))) rfl lE bG j) ?_;refine da (ak (t:=(.slice (.int .i64))) rfl bG rfl) ?_;refine df cD ?_;obtain⟨r7,s,h⟩:=aa h;refine jb (ap [.tmp 20,.tmp 24] rfl rfl FQ rfl (fS k x5 x6 r7 s)) ?_;refine ja (dX rfl) ?_;refine nt (cw h (fun h=>?_) (fun h=>?_))
    ·refine sr (cq (nt (aA (br (bj (aV ?_))))));obtain rfl:=hR _ h;exact ra
    ·refine aW (aM (tn (ab (mq ?_))));obtain⟨x8,c,h⟩:=aa h;refine jb (bb rfl c) ?_;refine aq (nl ?_);exact jz ((),x8) h []
   ·refine xa ?_;exact jz ((),()) h []
  ·refine sr (cq (nt (aA ?_)));cases h;exact ra
def kX(k:Nat)(a0:List Int):Option (List Int):=
 (dt (bH (List.length a0))).bind fun _=>some a0
theorem nr(k:Nat)(a0:List Int)(r:List Int)(h:kX k a0=some r):
 cd Tryz.prog 67 [Ri a0] [] (fun z:Value=>(bv [.eq z],[.sl z 3 (.int .i64) r])):=by
 unfold kX at h
 replace h:=a9 h
 refine cd.of 8 Tryz.func67 rfl Tryz.ntmps67 rfl fun S w0=>?_
 obtain⟨u1,c,h⟩:=aa h
 cases h
 refine sr ?_
 refine cq ?_
 refine nt ?_
 refine ae ?_
 refine sr ?_
 refine mq ?_
 refine bU (Δ:=[]) (F:=_) (fun _ _ _=>ax rfl _) rfl rfl (Ks rfl dE) ⟨rfl,rfl,trivial⟩ fun b=>?_
 refine nt ?_
 refine bM rfl (fun hb=>?_) (fun hb=>?_)
 ·
  refine sr (cq (nt (rx ?_)));obtain rfl:=b.2 hb;refine bC (SE.nil 3 (.int .i64)) ?_;exact aO (.slice none 0 0) [.eq (.slice none 0 0)] 1 ⟨rfl,trivial⟩ rfl
 ·
  refine sk (sr (aF rfl rfl rfl (jP (t:=(.int .i64)) [] [] rfl rfl dw .nil rfl rfl) trivial fun v1=>?_));refine mq ?_;refine cF rfl rfl rfl (bz rfl rfl dw (by simpa using ay c)) ⟨rfl,rfl,trivial⟩ fun v2=>?_;refine aq (nt (aA ?_));exact aO v2 [.eq v2] 1 ⟨rfl,trivial⟩ rfl
def eI(k:Nat)(a0:du)(a2:Int):Nat→((List (List Int))×Int)→Option (List (List Int))
 |0,_=>none
 |n+1,y5=>
  if y5.2 < a2 then((jd k a0 y5.1 y5.2).bind fun r7=>
  (ck (y5.2+1)).bind fun x8=>
  eI k a0 a2 n (r7.2,x8)) else(some y5.1)
def iI(k:Nat)(a0:du)(a1:(List (List Int)))(a2:Int):Option (List (List Int)):=
 ((eI k a0 a2 k (a1,0)):Option ((List (List Int)))).bind fun x3=>
 some x3
theorem rE(k:Nat)(a0:du)(a1:(List (List Int)))(a2:Int)(r:(List (List Int)))(h:iI k a0 a1 a2=some r):
 cd Tryz.prog 73 [.at bO a0,.rep (.arr 3 (.arr 5 (.int .i64))) a1,I a2] [] (fun _:Unit=>(bv [.rep (.arr 3 (.arr 5 (.int .i64))) r],[])):=by
 unfold iI at h
 replace h:=a9 h
 refine cd.of 21 Tryz.func73 rfl Tryz.ntmps73 rfl fun S w0=>?_
 refine sr ?_
 refine bx fun b1=>?_
 refine aF rfl rfl rfl (bf rfl sS tV) trivial fun b2=>?_
 refine nt ?_
 refine aL (Z:=Unit) (α:=(List (List Int))) (fun z4 x3=>[(4,Pt b1),(6,Pt b2)]) (fun z4 x3=>[.obj b1 86 (.rep (.arr 3 (.arr 5 (.int .i64))) x3),.obj b2 86 (.rep (.arr 3 (.arr 5 (.int .i64))) [[0,0,0,0,0],[0,0,0,0,0],[0,0,0,0,0]])]) h (fun K h=>?_) (fun z4 x3 h=>?_)
 ·
  refine sr (mq ?_);refine fk rfl ?_;refine nt (ao (aJ (fun z6 y5=>[(0,.at bO a0),(4,Pt b1),(6,Pt b2),(8,I a2),(9,I y5.2)]) (fun z6 y5=>[.obj b1 86 (.rep (.arr 3 (.arr 5 (.int .i64))) y5.1),.obj b2 86 (.rep (.arr 3 (.arr 5 (.int .i64))) [[0,0,0,0,0],[0,0,0,0,0],[0,0,0,0,0]])]) (eI k a0 a2) k () (a1,0) (fun _=>rfl) h (SE.fin [1,0] ⟨rfl,rfl,rfl,rfl,rfl,trivial⟩ rfl) (fun n z6 y5 h=>?_)));unfold eI at h;refine sr (jb (bm rfl) ?_);refine nt (ae (ci h (fun h=>?_) (fun h=>?_)))
  ·refine sk (ae (ao (sr (mq ?_))));refine aq (nt (ab ?_));refine mq ?_;refine lo gu ?_;refine mq ?_;obtain⟨r7,e,h⟩:=aa h;refine jc (ap [.tmp 13,.tmp 14,.tmp 15] rfl rfl QH rfl (oC k a0 y5.1 y5.2 r7 e)) ?_;refine mq ?_;refine xr ?_;refine xr ?_;refine bh rfl rfl (be rfl gu rfl rfl rfl) ⟨rfl,rfl,trivial⟩ ?_;refine au (aM (tn (ab ?_)));obtain⟨x8,c,h⟩:=aa h;refine jb (bb rfl c) ?_;refine mq (nl ?_);exact jz ((),(r7.2,x8)) h [0,1]
  ·refine xa ?_;exact jz ((),y5.1) h [0,1]
 ·
  refine sr (lo gu ?_);refine fr 1 ?_;refine bh rfl rfl (be rfl gu rfl rfl rfl) ⟨rfl,rfl,trivial⟩ ?_;refine nt (aA ?_);obtain rfl:=Option.some.inj h;exact aO () [.rep (.arr 3 (.arr 5 (.int .i64))) x3] 0 ⟨⟨_,_,_,_,_,rfl,(.head _),gu,(uD),rfl⟩,trivial⟩ rfl
def l8(k:Nat)(a0:List Int)(a1 a2:Int):Option (List Int):=
 (dt (0≤a1∧a1 < a2∧a2≤(a0.length:Int))).bind fun _=>some (a0.take a1.toNat++a0.drop a2.toNat)
theorem rO(k:Nat)(a0:List Int)(v:Value)(a1 a2:Int)(r:List Int)(h:l8 k a0 a1 a2=some r):cd Tryz.prog 115 [.eq v,.eq (.int .i64 a1),.eq (.int .i64 a2)] [.sl v 3 (.int .i64) a0] (fun z:Value=>(bv [.eq z],[.sl z 3 (.int .i64) r])):=by
 unfold l8 at h
 replace h:=a9 h
 obtain⟨u1,eg,h⟩:=aa h
 obtain⟨h1,h2,h3⟩:=ay eg
 obtain rfl:=Option.some.inj h
 refine cd.of 33 Tryz.func115 rfl Tryz.ntmps115 rfl fun S w0=>?_
 refine Gj (fun e=>by rw [e] at h3;simp at h3;omega) fun b cap hv hcap=>?_
 subst hv
 have hl:(a0.take a1.toNat++a0.drop a2.toNat).length=a1.toNat+(a0.length - a2.toNat):=by simp;omega
 refine ae ?_
 refine ab ?_
 refine dK rfl ?_
 refine au (ag ?_)
 show JC _ _ _ _ _
 refine ae ?_
 refine ab ?_
 refine aB rfl rfl ?_
 refine aB rfl rfl ?_
 refine aB rfl rfl ?_
 refine aB rfl rfl ?_
 refine bY rfl rfl rfl (dj rfl rfl dE) ⟨rfl,trivial⟩ ?_
 refine aE rfl (ym rfl dE co h1 (by omega) h3 (by omega)) ⟨rfl,rfl,rfl,rfl,trivial⟩ ?_
 refine au (ag ?_)
 show JC _ _ _ _ _
 refine ae ?_
 refine ae ?_
 refine ab ?_
 refine aB rfl rfl ?_
 refine aB rfl rfl ?_
 refine aE rfl (fL rfl) ⟨rfl,rfl,trivial⟩ ?_
 refine au (ag ?_)
 show JC _ _ _ _ _
 refine bM rfl (fun hb=>absurd (of_decide_eq_true hb) (by omega)) (fun hb=>?_)
 refine aW (ag ?_)
 show JC _ _ _ _ _
 refine ae ?_
 refine ab ?_
 refine aB rfl rfl ?_
 refine bY rfl rfl rfl (dj rfl rfl dE) ⟨rfl,trivial⟩ ?_
 refine dp rfl rfl ?_
 refine au (ag ?_)
 show JC _ _ _ _ _
 refine ae ?_
 refine bJ ?_
 refine dx rfl rfl rfl (aK rfl) ⟨rfl,trivial⟩ ?_
 refine dx rfl rfl rfl (aK rfl) ⟨rfl,trivial⟩ ?_
 refine dx rfl rfl rfl (vr rfl dE co h1 (by omega)) ⟨rfl,rfl,trivial⟩ ?_
 refine dx rfl rfl rfl (aK rfl) ⟨rfl,trivial⟩ ?_
 refine dx rfl rfl rfl (aK rfl) ⟨rfl,trivial⟩ ?_
 refine dx rfl rfl rfl (Ci rfl dE co (by omega) h3) ⟨rfl,rfl,trivial⟩ ?_
 refine tZ (by kernel_rfl) cD ?_
 refine cC (sK 22 rfl fun _ _ _ h=>(Dz▸h:(A.eq (.slice (some ⟨b,0,none⟩) a1.toNat cap)).holds _ _ _)) ?_
 refine bY rfl rfl rfl (yo (t:=.int .i64) (b:=b) (cap:=cap) (l:=a0) (i:=a1.toNat) (j:=a2.toNat) rfl rfl dw (by omega) (by omega) hcap) ⟨rfl,rfl,trivial⟩ ?_
 refine dp rfl rfl ?_
 refine au (ag ?_)
 show JC _ _ _ _ _
 refine ae ?_
 refine ab ?_
 refine aB rfl rfl ?_
 refine aB rfl rfl ?_
 refine bY rfl rfl rfl (dj rfl rfl dE) ⟨rfl,trivial⟩ ?_
 refine aB rfl rfl ?_
 refine aE rfl (zS rfl dE co (by omega) (by rw [hl];omega) (by omega)) ⟨rfl,rfl,rfl,trivial⟩ ?_
 refine bh rfl rfl (zZ (t:=.int .i64) (b:=b) (cap:=cap) (l:=a0.take a1.toNat++a0.drop a2.toNat) (n:=a0.length) rfl rfl dE rfl Uu rfl rfl (by rw [hl];omega) hcap) ⟨rfl,trivial⟩ ?_
 refine au (ag ?_)
 show JC _ _ _ _ _
 refine ae ?_
 refine ab ?_
 refine aB rfl rfl ?_
 refine dp rfl rfl ?_
 refine au (ag ?_)
 show JC _ _ _ _ _
 refine aA ?_
 exact aO _ [.eq _] 1 ⟨rfl,trivial⟩ rfl
def kV(k:Nat)(x7:Int)(h:(List (List Int))):Nat→((List (List Int))×Int)→Option (List (List Int))
 |0,_=>none
 |n+1,c=>
  if c.2 < (h.length:Int) then((aP h c.2).bind fun e=>
  (dt (bH (List.length [x7]+List.length e))).bind fun _=>
  (dt (bH (List.length c.1+List.length [[x7]++e]))).bind fun _=>
  (ck (c.2+1)).bind fun j=>
  kV k x7 h n (c.1++[[x7]++e],j)) else(some c.1)
def kW(k:Nat)(a0:(List Int))(self:(List Int)→Option ((List (List Int)))):Nat→((List (List Int))×Int)→Option (List (List Int))
 |0,_=>none
 |n+1,y3=>
  if y3.2 < (a0.length:Int) then((((aP a0 y3.2).bind fun x7=>
  (kX k a0).bind fun r8=>
  (ck (y3.2+1)).bind fun e=>
  (l8 k r8 y3.2 e).bind fun j=>
  (self j).bind fun h=>
  kV k x7 h k (y3.1,0)):Option ((List (List Int)))).bind fun x5=>
  (ck (y3.2+1)).bind fun c=>
  kW k a0 self n (x5,c)) else(some y3.1)
def iK(k:Nat):Nat→(List Int)→Option ((List (List Int)))
 |0,_=>none
 |m0+1,a0=>
  if(a0.length:Int)=0 then(some [[]]) else(((kW k a0 (iK k m0) k (([]:(List (List Int))),0)):Option ((List (List Int)))).bind fun x1=>
  some x1)
theorem wq(k:Nat):
 ∀(n:Nat) (a0:(List Int)) (r:(List (List Int))),iK k n a0=some r→cd Tryz.prog 77 [Ri a0] ([]) (fun _:Unit=>(bv [.rep (.slice (.slice (.int .i64))) r],[])):=by
 intro n
 induction n with
 |zero=>intro a0 r h;cases h
 |succ m0 ih=>
  intro a0 r h;rw [iK] at h;replace h:=a9 h;refine cd.of 41 Tryz.func77 rfl Tryz.ntmps77 rfl fun S w0=>?_;refine sr (cq (nt (ae (sr ?_))));refine mq ?_;refine ol dE ?_;refine jb (fL rfl) ?_;refine nt (ci h (fun h=>?_) (fun h=>?_))
  ·refine sr (ja (bi (t:=(.slice (.int .i64))) [(.const (.slice none 0 0),_)] [[]] rfl rfl m7 (.cons rfl .nil .nil) rfl rfl) ?_);refine aq (nt (rx ?_));cases h;exact ra
  ·refine sk (sr (cq (nt ?_)));refine aL (Z:=Value) (α:=(List (List Int))) (fun z2 x1=>[(3,.eq z2)]) (fun z2 x1=>[.sl z2 23 (.slice (.int .i64)) x1]) h (fun K h=>?_) (fun z2 x1 h=>?_)
   ·refine sr (mq ?_);refine ol dE ?_;refine fk rfl ?_;refine nt (ao (dL (SE.nil 23 (.slice (.int .i64))) ?_));refine aJ (fun z4 y3=>[(0,Ri a0),(3,.eq z4),(12,Ri a0),(13,I (a0.length:Int)),(14,I y3.2)]) (fun z4 y3=>[.sl z4 23 (.slice (.int .i64)) y3.1]) (kW k a0 (iK k m0)) k (.slice none 0 0) (([]:(List (List Int))),0) (fun _=>rfl) h (SE.fin [0] ⟨rfl,rfl,rfl,rfl,rfl,trivial⟩ rfl) (fun n z4 y3 h=>?_);unfold kW at h;refine sr (jb (bm rfl) ?_);refine nt (ae (ci h (fun h=>?_) (fun h=>?_)))
    ·refine sk (aL (Z:=Value) (α:=(List (List Int))) (fun z6 x5=>[(0,Ri a0),(3,.eq z6),(12,Ri a0),(13,I (a0.length:Int)),(14,I y3.2)]) (fun z6 x5=>[.sl z6 23 (.slice (.int .i64)) x5]) h (fun K h=>?_) (fun z6 x5 h=>?_))
     ·refine ao (sr (mq ?_));obtain⟨x7,Y,h⟩:=aa h;refine jb (aC (t:=(.int .i64)) rfl dE co Y) ?_;refine ja (ak (t:=(.int .i64)) rfl co rfl) ?_;refine aq ?_;refine aq (nt (sr ?_));refine mq ?_;obtain⟨r8,ac,h⟩:=aa h;refine aF rfl rfl rfl (ap [.tmp 19] rfl rfl Tz rfl (nr k a0 r8 ac)) ⟨rfl,trivial⟩ fun v9=>?_;iterate 2 refine mq ?_
      obtain⟨U,D,h⟩:=aa h;refine jb (bb rfl D) ?_;obtain⟨s,M,h⟩:=aa h;refine cF rfl rfl rfl (ap [.tmp 20,.tmp 21,.tmp 23] rfl rfl Q5 rfl (rO k r8 v9 y3.2 U s M)) ⟨rfl,rfl,rfl,trivial⟩ fun qt=>?_;refine cC (eD [24] ⟨rfl,trivial⟩) ?_;obtain⟨j,J,h⟩:=aa h;refine ja (ap [.tmp 24] rfl rfl QC rfl (ih s j J)) ?_;refine ol lE ?_;refine fk rfl ?_;refine nt (ao (aJ (fun e c=>[(0,Ri a0),(3,.eq e),(5,I x7),(12,Ri a0),(13,I (a0.length:Int)),(14,I y3.2),(25,.rep (.slice (.slice (.int .i64))) j),(26,I (j.length:Int)),(27,I c.2)]) (fun e c=>[.sl e 23 (.slice (.int .i64)) c.1]) (kV k x7 j) k z4 (y3.1,0) (fun _=>rfl) h (SE.fin [0] ⟨rfl,rfl,rfl,rfl,rfl,rfl,rfl,rfl,rfl,trivial⟩ rfl) (fun n e c h=>?_)));unfold kV at h;refine sr (jb (bm rfl) ?_);refine nt (ae (ci h (fun h=>?_) (fun h=>?_)))
      ·refine sk (ae (ao (sr ?_)));obtain⟨l,y,h⟩:=aa h;refine jb (aC (t:=(.slice (.int .i64))) rfl lE bG y) ?_;refine ja (ak (t:=(.slice (.int .i64))) rfl bG rfl) ?_;refine aq (nt (ab ?_));iterate 2 refine mq ?_
       refine aF rfl rfl rfl (jP (t:=(.int .i64)) [(.tmp 32,_)] [x7] rfl rfl dw (.cons rfl .int .nil) rfl rfl) ⟨rfl,trivial⟩ fun pp=>?_;refine mq ?_;obtain⟨UG,F,h⟩:=aa h;refine cF rfl rfl rfl (bz rfl rfl dw (ay F)) ⟨rfl,rfl,trivial⟩ fun mc=>?_;refine cC (eD [35] ⟨rfl,trivial⟩) ?_;refine ja (bi (t:=(.slice (.int .i64))) [(.tmp 35,_)] [[x7]++l] rfl rfl m7 (.cons rfl .rep .nil) rfl rfl) ?_;obtain⟨se,E,h⟩:=aa h;refine cF rfl rfl rfl (bz rfl rfl m7 (ay E)) ⟨rfl,rfl,trivial⟩ fun X=>?_;refine aq (au (aM (tn (ab ?_))));obtain⟨Q,x,h⟩:=aa h;refine jb (bb rfl x) ?_;refine mq (nl ?_);exact jz (X,(c.1++[[x7]++l],Q)) h [0]
      ·refine dM (aU (aU (bZ (bn ?_))));exact jz (e,c.1) h [0]
     ·refine ab ?_;obtain⟨O,u,h⟩:=aa h;refine jb (bb rfl u) ?_;refine mq (nl ?_);exact jz (z6,(x5,O)) h [0]
    ·refine xa ?_;exact jz (z4,y3.1) h [0]
   ·refine sr (mq ?_);refine aq (nt (aA ?_));refine bC (eD [2,3,40] ⟨rfl,rfl,rfl,trivial⟩) ?_;cases h;exact ra
def gx{σ:Type}(k:Nat)(a1:(List Int))(Y:σ→Int→Option (σ×Bool)):Nat→(Int×σ)→Option (σ)
 |0,_=>none
 |n+1,y1=>
  if y1.1 < (a1.length:Int) then((aP a1 y1.1).bind fun x3=>
  (Y y1.2 x3).bind fun r4=>
  if¬(r4.2=true) then(some r4.1) else((ck (y1.1+1)).bind fun x6=>
  gx k a1 Y n (x6,r4.1))) else(some y1.2)
def kG{σ:Type}(k:Nat)(Y:σ→Int→Option (σ×Bool))(a1:(List Int))(s0:σ):Option (σ):=
 gx k a1 Y k (0,s0)
theorem qk{M:Md Tryz.prog}{σ Z:Type}(E:Z→σ→List D)(l:Nat)(Y:σ→Int→Option (σ×Bool))(k:Nat)(a1:(List Int))(c:Nat)(hY:∀z s p r,Y s p=some r→YT M l [I p] (E z s) (fun z':Z=>(.eq (.bool r.2),E z' r.1))):
 ∀(z0:Z) (s0:σ) (r:σ),kG k Y a1 s0=some r→dy M 118 [.eq (.func (.yield l) #[] #[]),Pt c] ([.obj c 23 (Ri a1)]++E z0 s0) (fun z:Z=>(bv [],[.obj c 23 (Ri a1)]++E z r)):=by
 intro z0 s0 r h
 unfold kG at h
 replace h:=a9 h
 refine dy.of 16 Tryz.func118 rfl Tryz.ntmps118 rfl fun S w0=>?_
 refine sr ?_
 refine lo bG ?_
 refine ol dE ?_
 refine fk rfl ?_
 refine nt ?_
 refine ao ?_
 refine aJ (Z:=Z) (α:=Int×σ) (fun z2 y1=>[(0,.eq (.func (.yield l) #[] #[])),(5,Ri a1),(6,I (a1.length:Int)),(7,I y1.1)]) (fun z2 y1=>[.obj c 23 (Ri a1)]++E z2 y1.2) (gx k a1 Y) k z0 (0,s0) (fun _=>rfl) h (bu [.obj c 23 (Ri a1)] (E z0 s0) [0] ⟨rfl,rfl,rfl,rfl,trivial⟩ rfl) (fun n z2 y1 h=>?_)
 unfold gx at h
 refine sr ?_
 refine jb (bm rfl) ?_
 refine nt ?_
 refine ae ?_
 refine ci h (fun h=>?_) (fun h=>?_)
 ·
  refine sk (ae (ao (sr ?_)));obtain⟨x3,j,h⟩:=aa h;refine jb (aC (t:=(.int .i64)) rfl dE co j) ?_;refine ja (ak (t:=(.int .i64)) rfl co rfl) ?_;refine aq (nt (sr ?_));iterate 2 refine mq ?_
  obtain⟨r4,u,h⟩:=aa h;refine pK [.obj c 23 (Ri a1)] rfl rfl rfl (yl [.tmp 12] rfl rfl rfl (hY z2 y1.2 x3 r4 u)) ⟨rfl,rfl,trivial⟩ fun z5=>?_;refine ja (dX rfl) ?_;refine nt (cw h (fun h=>?_) (fun h=>?_))
  ·refine aA (br (bj ?_));cases h;exact jl z5 [] trivial rfl
  ·refine aW (aM (tn (ab ?_)));obtain⟨x6,e,h⟩:=aa h;refine jb (bb rfl e) ?_;refine mq (nl ?_);exact jk (z5,(x6,r4.1)) h (bu [.obj c 23 (Ri a1)] (E z5 r4.1) [0] ⟨rfl,rfl,rfl,rfl,trivial⟩ rfl)
 ·
  refine dM (aU (aU (bZ (jD ?_))));cases h;exact jl z2 [] trivial rfl
def kj(k:Nat)(a1:(List Int)):Option (List Int):=
 (kG k (qC (fun(y2:(List Int)) (p4:Int)=>
  (dt (bH (List.length y2+List.length [p4]))).bind fun _=>
  some (y2++[p4],true))) a1 (([]:(List Int)),false)).bind fun r5=>
 if r5.2=true then(none) else(some r5.1)
theorem oY(k:Nat)(a1:(List Int))(c:Nat)(r:(List Int))(h:kj k a1=some r):
 cd Tryz.prog 155 [.eq (.slice none 0 0),.eq (.func (.func 118) #[] #[(Pv c)])] [.obj c 23 (Ri a1)] (fun z:Value=>(bv [.eq z],[.sl z 3 (.int .i64) r,.obj c 23 (Ri a1)])):=by
 unfold kj at h
 replace h:=a9 h
 refine ze 13 Tryz.func155 rfl Tryz.ntmps155 rfl fun {M} S w0=>?_
 refine sr ?_
 refine bx fun b1=>?_
 refine cq ?_
 refine nt ?_
 refine ae ?_
 refine sr ?_
 refine mq ?_
 refine nt ?_
 refine ao ?_
 refine dL (SE.nil 3 (.int .i64)) ?_
 refine jE 1 rfl ?_
 refine jE 2 rfl ?_
 obtain⟨r5,j,h⟩:=aa h
 refine ox (Δ:=[.obj c 23 (Ri a1),.obj b1 23 (.eq (.slice none 0 0)),.sl (.slice none 0 0) 3 (.int .i64) ([]:(List Int))]) (F:=[]) (X:=Value) (J:=fun _=>KQ r5.2) (E:=fun z3=>[.obj c 23 (Ri a1),.obj b1 23 (.eq z3),.sl z3 3 (.int .i64) r5.1]) (r0:=fun _=>.tup .any) rfl rfl Q2 (fun rec hp ha hb hs hpe hN hv l=>?_) (fun dl z3=>qM (fun hj=>?_) (fun hj=>?_))
 ·
  rcases rec with⟨st0,pe0,fn0,tm0,ps0,as0,bd0,df0⟩;dsimp only at hp ha hb hs hpe hN hv;subst hp hs hpe;have vN:vZ tm0 [(2,Pt b1)]:=⟨congrArg A.eq (hv 2 _ rfl).symm,trivial⟩;refine dy.pick (M:=M) [1,0,2,3] [1,0,2,3] (qk (fun(z3:Value) (q:(List Int)×Bool)=>[.raw l (.loop (kl ⟨.ready,none,fn0,tm0, #[7],as0,bd0,df0⟩ (KQ q.2))),.obj b1 23 (.eq z3),.sl z3 3 (.int .i64) q.1]) l (qC (fun(y2:(List Int)) (p4:Int)=>
  (dt (bH (List.length y2+List.length [p4]))).bind fun _=>
  some (y2++[p4],true))) k a1 c (fun z3 q p r' h=>?_) (.slice none 0 0) (([]:(List Int)),false) r5 j) rfl (fun _=>rfl) (fun _=>rfl)
  obtain⟨rq,hq,h2,rfl⟩:=qN h;obtain⟨y2,b5⟩:=q;obtain rfl:b5=false:=hq;replace h:=a9 h2;obtain⟨p4,hpv⟩:∃x,x=p:=⟨_,rfl⟩;subst hpv;refine YT.pick (R':=(fun z3:Value=>(.eq (.bool rq.2),[.raw l (.loop (kl ⟨.ready,none,fn0,tm0, #[7],as0,bd0,df0⟩ (KQ (!rq.2)))),.obj b1 23 (.eq z3),.sl z3 3 (.int .i64) rq.1]))) [0,1,2] [0,1,2] (Je ha hb (N:=13) (Γ:=[(2,Pt b1)]) rfl hN (by decide) vN (fun S w=>?_)) rfl (fun _=>rfl) (fun _=>rfl);refine ab (aq (nl ?_));refine wh rfl rfl ?_;refine ao (ab (fr 1 ?_));refine lo bG ?_;refine mq ?_;refine ja (bi (t:=(.int .i64)) [(.tmp 9,_)] [p4] rfl rfl dw (.cons rfl .int .nil) rfl rfl) ?_;obtain⟨u6,e,h⟩:=aa h;refine fr 2 ?_;refine cF rfl rfl rfl (bz rfl rfl dw (ay e)) ⟨rfl,rfl,trivial⟩ fun v7=>?_;refine ow fun o8=>?_;refine fr 1 ?_;refine bh rfl rfl (be rfl bG o8 rfl rfl) ⟨rfl,rfl,trivial⟩ ?_;refine au (aM (dq 1 rfl ?_));refine dq 1 rfl ?_;refine dq 2 rfl ?_;cases h;exact tY v7 2 rfl
 ·
  replace h:=bQ (BE hj) h;refine aM (tn (sr (fr 2 ?_)));refine lo bG ?_;refine aq (nt (aA ?_));refine dq 1 rfl ?_;refine zc ?_;refine bC (SE.fin (Γ':=[(4,_)]) [2,1,0] ⟨rfl,trivial⟩ rfl) ?_;cases h;exact aO z3 [.eq z3] 2 ⟨rfl,trivial⟩ rfl
 ·
  replace h:=cE (BD hj) h;cases h
def lx(k:Nat)(a0:(List Int)):Option (List Int):=
 (kj k a0).bind fun r1=>
 some r1
theorem qQ(k:Nat)(a0:(List Int))(c:Nat)(r:(List Int))(h:lx k a0=some r):
 cd Tryz.prog 116 [.eq (.func (.func 118) #[] #[(Pv c)])] [.obj c 23 (Ri a0)] (fun z:Value=>(bv [.eq z],[.sl z 3 (.int .i64) r,.obj c 23 (Ri a0)])):=by
 unfold lx at h
 replace h:=a9 h
 refine cd.of 5 Tryz.func116 rfl Tryz.ntmps116 rfl fun S w0=>?_
 refine sr ?_
 refine cq ?_
 refine nt ?_
 refine sr ?_
 refine mq ?_
 obtain⟨r1,e,h⟩:=aa h
 have j:=oY k a0 c r1 e
 refine bU (Δ:=[_]) (F:=_) (fun _ _ _=>ax rfl _) rfl rfl (ap [.const (.slice none 0 0),.tmp 3] rfl rfl QV rfl j) ⟨rfl,rfl,trivial⟩ fun z2=>?_
 refine aq ?_
 refine nt ?_
 refine aA ?_
 cases h
 exact aO z2 [.eq z2] 2 ⟨rfl,trivial⟩ rfl
def qg(k:Nat)(a0:Int):Option Bool:=
 some (!decide (a0=a0))
theorem sA(k:Nat)(a0:Int)(r:Bool)(h:qg k a0=some r):
 cd Tryz.prog 158 [I a0] [] (fun _:Unit=>(bv [.eq (.bool r)],[])):=by
 unfold qg at h
 replace h:=a9 h
 refine cd.of 6 Tryz.func158 rfl Tryz.ntmps158 rfl fun S w0=>?_
 refine sr ?_
 refine cq ?_
 refine nt ?_
 refine sr ?_
 iterate 2 refine mq ?_
 refine jb (iy rfl) ?_
 refine aq ?_
 refine nt ?_
 refine aA ?_
 cases h
 exact ra
def vR(k:Nat)(a0:Int)(a1:Int):Option Bool:=
 (((qg k a0).bind fun r3=>
 if r3=true then((qg k a1).bind fun r4=>
 if¬(r4=true) then(some true) else(some (decide (a0 < a1)))) else(some (decide (a0 < a1)))):Option (Bool)).bind fun x1=>
 some x1
theorem AX(k:Nat)(a0:Int)(a1:Int)(r:Bool)(h:vR k a0 a1=some r):
 cd Tryz.prog 174 [I a0,I a1] [] (fun _:Unit=>(bv [.eq (.bool r)],[])):=by
 unfold vR at h
 replace h:=a9 h
 refine cd.of 17 Tryz.func174 rfl Tryz.ntmps174 rfl fun S w0=>?_
 refine sr ?_
 refine cq ?_
 refine nt ?_
 refine aL (Z:=Unit) (α:=Bool) (fun z2 x1=>[(4,.eq (.bool x1))]) (fun z2 x1=>[]) h (fun K h=>?_) (fun z2 x1 h=>?_)
 ·
  refine ab (mq ?_);obtain⟨r3,e,h⟩:=aa h;refine ja (ap [.tmp 5] rfl rfl MQ rfl (sA k a0 r3 e)) ?_;refine mq ?_;refine cm (s:=7) rfl (fun hb=>?_) (fun hb=>?_)
  ·replace h:=cE (BD hb) h;refine gm ?_;obtain⟨r4,c,h⟩:=aa h;refine ga (ap [.tmp 8] rfl rfl MQ rfl (sA k a1 r4 c)) ?_;refine ga (dX rfl) ?_;refine pt ?_;refine mq ?_;refine cm (s:=12) rfl (fun hb=>?_) (fun hb=>?_)
   ·replace h:=cE (CE hb) h;iterate 3 refine gn ?_
    refine pt ?_;refine aq (nl ?_);exact jz ((),true) h []
   ·replace h:=bQ (vx hb) h;refine gm ?_;refine gm ?_;refine gb (bm rfl) ?_;refine pf ?_;refine aq (nl ?_);exact jz ((),decide (a0 < a1)) h []
  ·replace h:=bQ (BE hb) h;iterate 3 refine gn ?_
   refine pf ?_;refine mq ?_;refine gm ?_;refine gm ?_;refine gb (bm rfl) ?_;refine pf ?_;refine aq (nl ?_);exact jz ((),decide (a0 < a1)) h []
 ·
  refine aA ?_;cases h;exact ra
def cQ(k:Nat)(a1:Int):Nat→((List Int)×Int)→Option (List Int)
 |0,_=>none
 |n+1,y6=>
  ((if a1 < y6.2 then((aP y6.1 y6.2).bind fun u=>
  (ck (y6.2 - 1)).bind fun s=>
  (aP y6.1 s).bind fun r=>
  (vR k u r).bind fun x=>
  some x) else(some false)):Option (Bool)).bind fun x8=>
  if x8=true then((ck (y6.2 - 1)).bind fun e=>
  (ck (y6.2 - 1)).bind fun l=>
  (aP y6.1 l).bind fun c=>
  (aP y6.1 y6.2).bind fun j=>
  (aP y6.1 y6.2).bind fun D=>
  (aP (List.set y6.1 (Int.toNat y6.2) c) e).bind fun y=>
  (ck (y6.2 - 1)).bind fun h=>
  cQ k a1 n (List.set (List.set y6.1 (Int.toNat y6.2) c) (Int.toNat e) j,h)) else(some y6.1)
def cR(k:Nat)(a1:Int)(a2:Int):Nat→((List Int)×Int)→Option (List Int)
 |0,_=>none
 |n+1,y2=>
  if y2.2 < a2 then(((cQ k a1 k (y2.1,y2.2)):Option ((List Int))).bind fun x4=>
  (ck (y2.2+1)).bind fun c=>
  cR k a1 a2 n (x4,c)) else(some y2.1)
def eO(k:Nat)(a0:(List Int))(a1:Int)(a2:Int):Option (List Int):=
 (ck (a1+1)).bind fun x1=>
 cR k a1 a2 k (a0,x1)
theorem kC(k:Nat)(a0:(List Int))(c:Value)(a1:Int)(a2:Int)(r:(List Int))(h:eO k a0 a1 a2=some r):
 cd Tryz.prog 168 [.eq c,I a1,I a2] [.sl c 3 (.int .i64) a0] (fun _:Unit=>(bv [],[.sl c 3 (.int .i64) r])):=by
 unfold eO at h
 replace h:=a9 h
 refine cd.of 49 Tryz.func168 rfl Tryz.ntmps168 rfl fun S w0=>?_
 refine sr ?_
 refine mq ?_
 obtain⟨x1,UV,h⟩:=aa h
 refine jb (bb rfl UV) ?_
 refine aq ?_
 refine nt ?_
 refine ao ?_
 refine aJ (fun z3 y2=>[(0,.eq c),(1,I a1),(2,I a2),(6,I y2.2)]) (fun z3 y2=>[.sl c 3 (.int .i64) y2.1]) (cR k a1 a2) k () (a0,x1) (fun _=>rfl) h (SE.fin [0] ⟨rfl,rfl,rfl,rfl,trivial⟩ rfl) (fun n z3 y2 h=>?_)
 unfold cR at h
 refine ae ?_
 refine sr ?_
 iterate 2 refine mq ?_
 refine jb (bm rfl) ?_
 refine nt ?_
 refine ci h (fun h=>?_) (fun h=>?_)
 ·
  refine sk (aL (Z:=Unit) (α:=(List Int)) (fun z5 x4=>[(0,.eq c),(1,I a1),(2,I a2),(6,I y2.2)]) (fun z5 x4=>[.sl c 3 (.int .i64) x4]) h (fun K h=>?_) (fun z5 x4 h=>?_))
  ·refine ao (sr (mq ?_));refine aq (nt (ao ?_));refine aJ (fun z7 y6=>[(0,.eq c),(1,I a1),(2,I a2),(6,I y2.2),(7,I y6.2)]) (fun z7 y6=>[.sl c 3 (.int .i64) y6.1]) (cQ k a1) k () (y2.1,y2.2) (fun _=>rfl) h (SE.fin [0] ⟨rfl,rfl,rfl,rfl,rfl,trivial⟩ rfl) (fun n z7 y6 h=>?_);unfold cQ at h;refine ae (aL (Z:=Unit) (α:=Bool) (fun z9 x8=>[(0,.eq c),(1,I a1),(2,I a2),(6,I y2.2),(7,I y6.2),(30,.eq (.bool x8))]) (fun z9 x8=>[.sl c 3 (.int .i64) y6.1]) h (fun K h=>?_) (fun z9 x8 h=>?_))
   ·refine bJ ?_;refine dm ?_;refine dm ?_;refine db (iz rfl) ?_;refine kZ rfl rfl rfl (aK rfl) ⟨rfl,trivial⟩ (fun hb=>?_) (fun hb=>?_)
    ·replace h:=cE (oq hb) h;refine aX rfl rfl rfl rfl rfl (aK rfl) ⟨rfl,rfl,trivial⟩ ?_;refine aX rfl rfl rfl rfl rfl (aK rfl) ⟨rfl,rfl,trivial⟩ ?_;obtain⟨UL,x,h⟩:=aa h;refine jL 0 rfl rfl rfl rfl rfl rfl (aY (t:=(.int .i64)) rfl dE co x) ⟨rfl,rfl,rfl,trivial⟩ ?_;refine jL 0 rfl rfl rfl rfl rfl rfl (dW (i:=Int.toNat y6.2) (off:=0) rfl co (fun _=>rfl) rfl (cy x).2.2 rfl) ⟨rfl,rfl,trivial⟩ ?_;refine aX rfl rfl rfl rfl rfl (aK rfl) ⟨rfl,rfl,trivial⟩ ?_;refine aX rfl rfl rfl rfl rfl (aK rfl) ⟨rfl,rfl,trivial⟩ ?_;obtain⟨UK,qt,h⟩:=aa h;refine aX rfl rfl rfl rfl rfl (fK rfl qt) ⟨rfl,rfl,rfl,trivial⟩ ?_;obtain⟨UJ,u,h⟩:=aa h;refine jL 0 rfl rfl rfl rfl rfl rfl (aY (t:=(.int .i64)) rfl dE co u) ⟨rfl,rfl,rfl,trivial⟩ ?_;refine jL 0 rfl rfl rfl rfl rfl rfl (dW (i:=Int.toNat UK) (off:=0) rfl co (fun _=>rfl) rfl (cy u).2.2 rfl) ⟨rfl,rfl,trivial⟩ ?_;refine df cD ?_;obtain⟨F,se,h⟩:=aa h;refine gb (ap [.tmp 23,.tmp 28] rfl rfl QN rfl (AX k UL UJ F se)) ?_;refine pt (nl ?_);exact jz ((),F) h [0]
    ·replace h:=bQ (nN hb) h;iterate 9 refine dg ?_
     refine df cD ?_;refine gn ?_;refine pf (nl ?_);exact jz ((),false) h [0]
   ·refine cv h (fun h=>?_) (fun h=>?_)
    ·refine sk (ae (ao (jF ?_)));refine aH rfl rfl rfl (aK rfl) ⟨rfl,trivial⟩ ?_;refine aH rfl rfl rfl (aK rfl) ⟨rfl,trivial⟩ ?_;refine aH rfl rfl rfl (aK rfl) ⟨rfl,trivial⟩ ?_;refine aH rfl rfl rfl (aK rfl) ⟨rfl,trivial⟩ ?_;obtain⟨y,pp,h⟩:=aa h;refine aH rfl rfl rfl (fK rfl pp) ⟨rfl,rfl,trivial⟩ ?_;refine aH rfl rfl rfl (aK rfl) ⟨rfl,trivial⟩ ?_;refine aH rfl rfl rfl (aK rfl) ⟨rfl,trivial⟩ ?_;obtain⟨UI,mc,h⟩:=aa h;refine aH rfl rfl rfl (fK rfl mc) ⟨rfl,rfl,trivial⟩ ?_;obtain⟨E,s,h⟩:=aa h;refine dr 0 rfl rfl rfl rfl (aY (t:=(.int .i64)) rfl dE co s) ⟨rfl,rfl,trivial⟩ ?_;refine dr 0 rfl rfl rfl rfl (dW (i:=Int.toNat UI) (off:=0) rfl co (fun _=>rfl) rfl (cy s).2.2 rfl) ⟨rfl,trivial⟩ ?_;refine aH rfl rfl rfl (aK rfl) ⟨rfl,trivial⟩ ?_;refine aH rfl rfl rfl (aK rfl) ⟨rfl,trivial⟩ ?_;obtain⟨D,l,h⟩:=aa h;refine dr 0 rfl rfl rfl rfl (aY (t:=(.int .i64)) rfl dE co l) ⟨rfl,rfl,trivial⟩ ?_;refine dr 0 rfl rfl rfl rfl (dW (i:=Int.toNat y6.2) (off:=0) rfl co (fun _=>rfl) rfl (cy l).2.2 rfl) ⟨rfl,trivial⟩ ?_;obtain⟨U4,j,h⟩:=aa h;refine dr 0 rfl rfl rfl rfl (aY (t:=(.int .i64)) rfl dE co j) ⟨rfl,rfl,trivial⟩ ?_;refine mB 15 [true,true,false,false,false,true,true,true,true,true,true,true,true,true,true] [48] [] [] rfl (by kernel_rfl) (by kernel_rfl) (by kernel_rfl) cD (fun vs hv hB=>?_);obtain⟨w0,Vl,rfl,UU⟩:=an hv;obtain⟨w1,Vk,rfl,UT⟩:=an UU;obtain⟨w2,Vj,rfl,US⟩:=an UT;obtain⟨w3,Vi,rfl,UR⟩:=an US;obtain⟨w4,Vh,rfl,UQ⟩:=an UR;obtain⟨w5,Vg,rfl,UP⟩:=an UQ;obtain⟨w6,Vf,rfl,UO⟩:=an UP;obtain⟨w7,Ve,rfl,UN⟩:=an UO;obtain⟨w8,Vd,rfl,UM⟩:=an UN;obtain⟨w9,U1,rfl,X⟩:=an UM;obtain⟨Vb,U0,rfl,U⟩:=an X;obtain⟨Va,UZ,rfl,Q⟩:=an U;obtain⟨U8,UY,rfl,O⟩:=an Q;obtain⟨U7,UX,rfl,M⟩:=an O;obtain⟨U6,UW,rfl,J⟩:=an M;obtain rfl:=kw J;refine⟨[0],[.sl c 3 (.int .i64) y6.1],by kernel_rfl,by decide,?_⟩;refine ov rfl rfl (cI (i:=Int.toNat y6.2) rfl co rfl (gz j) rfl .int rfl) ⟨rfl,rfl,trivial⟩ (by kernel_rfl) ?_;obtain⟨U2,e,h⟩:=aa h;refine we rfl rfl rfl rfl (aY (t:=(.int .i64)) rfl dE co e) ⟨rfl,rfl,trivial⟩ (by kernel_rfl) ?_;refine ov rfl rfl (cI (i:=Int.toNat y) rfl co rfl (gz e) rfl .int rfl) ⟨rfl,rfl,trivial⟩ (by kernel_rfl) ?_;refine pJ ?_;refine bC (SE.fin (Γ':=[(0,.eq c),(1,I a1),(2,I a2),(6,I y2.2),(7,I y6.2)]) (Δ':=[.sl c 3 (.int .i64) (List.set (List.set y6.1 (Int.toNat y6.2) E) (Int.toNat y) D)]) [0] ⟨rfl,rfl,rfl,rfl,rfl,trivial⟩ rfl) ?_;refine aM (tn (ab (mq ?_)));obtain⟨UH,ac,h⟩:=aa h;refine jb (fK rfl ac) ?_;refine aq (nl ?_);exact jz ((),(List.set (List.set y6.1 (Int.toNat y6.2) E) (Int.toNat y) D,UH)) h [0]
    ·refine dM (aU (aU (bZ (bn ?_))));exact jz ((),y6.1) h [0]
  ·refine ab (mq ?_);obtain⟨UG,Y,h⟩:=aa h;refine jb (bb rfl Y) ?_;refine aq (nl ?_);exact jz ((),(x4,UG)) h [0]
 ·
  refine dM (aU (aU (bZ (jD ?_))));cases h;exact aO () [] 1 trivial rfl
def ly(k:Nat)(a0:Int):Option Int:=
 ((if 4294967296≤a0 then(some (iG .u64 a0 32,32)) else(some (a0,0))):Option (Int×Int)).bind fun x1=>
 ((if 65536≤x1.1 then((ck (x1.2+16)).bind fun x5=>
 some (iG .u64 x1.1 16,x5)) else(some (x1.1,x1.2))):Option (Int×Int)).bind fun x3=>
 ((if 256≤x3.1 then((ck (x3.2+8)).bind fun x8=>
 some (iG .u64 x3.1 8,x8)) else(some (x3.1,x3.2))):Option (Int×Int)).bind fun x6=>
 (CY KL (IntKind.u8.wrap x6.1)).bind fun x9=>
 (ck (x9.toNat:Int)).bind fun e=>
 (ck (x6.2+e)).bind fun c=>
 some c
theorem q8(k:Nat)(a0:Int)(r:Int)(h:ly k a0=some r):
 cd Tryz.prog 178 [.eq (.int .u64 a0)] [] (fun _:Unit=>(bv [I r],[])):=by
 unfold ly at h
 replace h:=a9 h
 refine cd.of 25 Tryz.func178 rfl Tryz.ntmps178 rfl fun S w0=>?_
 refine sr ?_
 refine cq ?_
 refine nt ?_
 refine aL (Z:=Unit) (α:=Int×Int) (fun z2 x1=>[(0,.eq (.int .u64 x1.1)),(2,I x1.2)]) (fun z2 x1=>[]) h (fun K h=>?_) (fun z2 x1 h=>?_)
 ·
  refine sr (mq ?_);refine jb (qD rfl) ?_;refine nt (ci h (fun h=>?_) (fun h=>?_))
  ·refine sr (mq ?_);refine aE rfl (vt rfl (by decide)) ⟨rfl,rfl,trivial⟩ ?_;refine aq (nt (ab ?_));refine cq (nl ?_);exact jz ((),(iG .u64 a0 32,32)) h []
  ·refine aW (ag ?_);exact jz ((),(a0,0)) h []
 ·
  refine aL (Z:=Unit) (α:=Int×Int) (fun z4 x3=>[(0,.eq (.int .u64 x3.1)),(2,I x3.2)]) (fun z4 x3=>[]) h (fun K h=>?_) (fun z4 x3 h=>?_)
  ·refine sr (mq ?_);refine jb (qD rfl) ?_;refine nt (ci h (fun h=>?_) (fun h=>?_))
   ·refine sr (mq ?_);refine aE rfl (vt rfl (by decide)) ⟨rfl,rfl,trivial⟩ ?_;refine aq (nt (ab ?_));refine mq ?_;obtain⟨x5,n,h⟩:=aa h;refine jb (bb rfl n) ?_;refine aq (nl ?_);exact jz ((),(iG .u64 x1.1 16,x5)) h []
   ·refine aW (ag ?_);exact jz ((),(x1.1,x1.2)) h []
  ·refine aL (Z:=Unit) (α:=Int×Int) (fun z7 x6=>[(0,.eq (.int .u64 x6.1)),(2,I x6.2)]) (fun z7 x6=>[]) h (fun K h=>?_) (fun z7 x6 h=>?_)
   ·refine sr (mq ?_);refine jb (qD rfl) ?_;refine nt (ci h (fun h=>?_) (fun h=>?_))
    ·refine sr (mq ?_);refine aE rfl (vt rfl (by decide)) ⟨rfl,rfl,trivial⟩ ?_;refine aq (nt (ab ?_));refine mq ?_;obtain⟨x8,l,h⟩:=aa h;refine jb (bb rfl l) ?_;refine aq (nl ?_);exact jz ((),(iG .u64 x3.1 8,x8)) h []
    ·refine aW (ag ?_);exact jz ((),(x3.1,x3.2)) h []
   ·refine sr ?_;iterate 2 refine mq ?_
    refine ja (pe rfl RO U5) ?_;obtain⟨x9,j,h⟩:=aa h;refine ja (zX rfl U9 j) ?_;obtain⟨u,e,h⟩:=aa h;refine ja (zY rfl U5 U3 e) ?_;obtain⟨s,c,h⟩:=aa h;refine jb (bb rfl c) ?_;refine aq (nt (aA ?_));cases h;exact ra
def yU(k:Nat)(a0:Int):Option Int:=
 (ly k a0).bind fun r1=>
 some r1
theorem Dj(k:Nat)(a0:Int)(r:Int)(h:yU k a0=some r):
 cd Tryz.prog 157 [.eq (.int .u64 a0)] [] (fun _:Unit=>(bv [I r],[])):=by
 unfold yU at h
 replace h:=a9 h
 refine cd.of 8 Tryz.func157 rfl Tryz.ntmps157 rfl fun S w0=>?_
 refine sr ?_
 refine cq ?_
 refine nt ?_
 refine ae ?_
 refine Jw (fun hb=>(by cases hb)) (fun hb=>?_)
 refine sk ?_
 refine sr ?_
 refine mq ?_
 obtain⟨r1,c,h⟩:=aa h
 have e:=q8 k a0 r1 c
 refine ja (ap [.tmp 6] rfl rfl QM rfl e) ?_
 refine aq ?_
 refine nt ?_
 refine aA ?_
 cases h
 exact ra
def fO(k:Nat)(a0:(List Int))(a1:Int)(a2:Int)(a3:Int):Nat→Unit→Option (List Int)
 |0,_=>none
 |n+1,y1=>
  (ck (a2 - a1)).bind fun x3=>
  if x3≤12 then((eO k a0 a1 a2).bind fun r4=>
  some r4) else(if a3=0 then(none) else(none))
def ia(k:Nat)(a0:(List Int))(a1:Int)(a2:Int)(a3:Int):Option (List Int):=
 fO k a0 a1 a2 a3 k ()
theorem mE(k:Nat)(a0:(List Int))(c:Value)(a1:Int)(a2:Int)(a3:Int)(r:(List Int))(h:ia k a0 a1 a2 a3=some r):
 cd Tryz.prog 156 [.eq c,I a1,I a2,I a3] [.sl c 3 (.int .i64) a0] (fun _:Unit=>(bv [],[.sl c 3 (.int .i64) r])):=by
 unfold ia at h
 replace h:=a9 h
 refine cd.of 134 Tryz.func156 rfl Tryz.ntmps156 rfl fun S w0=>?_
 refine sr ?_
 refine cq ?_
 refine nt ?_
 refine sr ?_
 refine cq ?_
 refine nt ?_
 refine ao ?_
 refine aJ (fun z2 y1=>[(0,.eq c),(1,I a1),(2,I a2),(3,I a3),(8,.eq (.bool true)),(9,.eq (.bool true))]) (fun z2 y1=>[.sl c 3 (.int .i64) a0]) (fO k a0 a1 a2 a3) k () () (fun _=>rfl) h (SE.fin [0] ⟨rfl,rfl,rfl,rfl,rfl,rfl,trivial⟩ rfl) (fun n z2 y1 h=>?_)
 unfold fO at h
 refine ao ?_
 refine sr ?_
 iterate 2 refine mq ?_
 obtain⟨x3,e,h⟩:=aa h
 refine jb (fK rfl e) ?_
 refine aq ?_
 refine nt ?_
 refine ae ?_
 refine sr ?_
 refine mq ?_
 refine jb (vv rfl) ?_
 refine nt ?_
 refine ci h (fun h=>?_) (fun h=>?_)
 ·
  refine sr ?_;iterate 3 refine mq ?_
  obtain⟨r4,j,h⟩:=aa h;refine kc (ap [.tmp 24,.tmp 25,.tmp 26] rfl rfl QP rfl (kC k a0 c a1 a2 r4 j)) ?_;refine nt (rx (bj (aV (bj ?_))));cases h;exact aO () [] 1 trivial rfl
 ·
  refine sk (ae (sr (mq ?_)));refine jb (fL rfl) ?_;refine nt (ci h (fun h=>?_) (fun h=>?_))
  ·refine sr ?_;iterate 3 refine mq ?_
   cases h
  ·refine sk (ae (sr (mq ?_)));refine ja (dX rfl) ?_;refine nt (bM rfl (fun hb=>(by cases hb)) (fun hb=>?_));refine sk (sr ?_);iterate 3 refine mq ?_
   cases h
def nV(k:Nat)(a0:(List Int)):Option (List Int):=
 (yU k (IntKind.u64.wrap (a0.length:Int))).bind fun r1=>
 (ia k a0 0 (a0.length:Int) r1).bind fun r2=>
 some r2
theorem uj(k:Nat)(a0:(List Int))(c:Value)(r:(List Int))(h:nV k a0=some r):
 cd Tryz.prog 117 [.eq c] [.sl c 3 (.int .i64) a0] (fun _:Unit=>(bv [],[.sl c 3 (.int .i64) r])):=by
 unfold nV at h
 replace h:=a9 h
 refine cd.of 11 Tryz.func117 rfl Tryz.ntmps117 rfl fun S w0=>?_
 refine sr ?_
 refine mq ?_
 refine ka (dj rfl rfl dE) ?_
 refine aq ?_
 refine nt ?_
 refine ab ?_
 iterate 3 refine mq ?_
 refine ja (pe rfl U3 Ud) ?_
 obtain⟨r1,j,h⟩:=aa h
 have n:=Dj k (IntKind.u64.wrap (a0.length:Int)) r1 j
 refine ja (ap [.tmp 8] rfl rfl QT rfl n) ?_
 obtain⟨r2,e,h⟩:=aa h
 have l:=mE k a0 c 0 (a0.length:Int) r1 r2 e
 refine bY rfl rfl rfl (ap [.tmp 5,.const (.int .i64 (0)),.tmp 6,.tmp 9] rfl rfl QU rfl l) ⟨rfl,rfl,rfl,rfl,trivial⟩ ?_
 refine au ?_
 refine jD ?_
 cases h
 exact aO () [] 1 trivial rfl
def gG(k:Nat)(a0:(List Int)):Option (List Int):=
 (lx k a0).bind fun r1=>
 (nV k r1).bind fun r3=>
 some r3
theorem rN(k:Nat)(a0:(List Int))(c:Nat)(r:(List Int))(h:gG k a0=some r):
 cd Tryz.prog 78 [.eq (.func (.func 118) #[] #[(Pv c)])] [.obj c 23 (Ri a0)] (fun _:Unit=>(bv [Ri r],[.obj c 23 (Ri a0)])):=by
 unfold gG at h
 replace h:=a9 h
 refine cd.of 9 Tryz.func78 rfl Tryz.ntmps78 rfl fun S w0=>?_
 refine sr ?_
 refine cq ?_
 refine nt ?_
 refine sr ?_
 refine mq ?_
 obtain⟨r1,j,h⟩:=aa h
 have n:=qQ k a0 c r1 j
 refine bU (Δ:=[_]) (F:=_) (fun _ _ _=>ax rfl _) rfl rfl (ap [.tmp 4] rfl rfl Q4 rfl n) ⟨rfl,trivial⟩ fun z2=>?_
 refine aq ?_
 refine nt ?_
 refine sr ?_
 refine mq ?_
 obtain⟨r3,e,h⟩:=aa h
 have l:=uj k r1 z2 r3 e
 refine ka (ap [.tmp 6] rfl rfl Q3 rfl l) ?_
 refine nt ?_
 refine sr ?_
 refine mq ?_
 refine aq ?_
 refine nt ?_
 refine aA ?_
 refine bC (eD [2,3,5,6,8] ⟨rfl,rfl,rfl,rfl,rfl,trivial⟩) ?_
 cases h
 exact aO () [_] 1 ⟨rfl,trivial⟩ rfl
theorem rM(a0:(List Int)):cd Tryz.prog 79 [Ri a0] [] (fun z:Nat=>(bv [.eq (.func (.func 118) #[] #[(Pv z)])],[.obj z 23 (Ri a0)])):=by
 refine cd.of 4 Tryz.func79 rfl Tryz.ntmps79 rfl fun S w0=>?_;refine sr (bx fun z=>?_);refine cq (nt (sr ?_));refine ja (tj [] [.tmp 1] [] [(Pv z)] rfl rfl rfl) ?_;refine aq (nt (aA ?_));exact aO z [_] 1 ⟨rfl,trivial⟩ rfl
def dZ{σ:Type}(k:Nat)(a0:(List (List Int)))(a1:Int)(a2:Int)(a3:du)(self:(List (List Int))→Int→Int→σ→Option (Bool×σ))(h:(List Int)):Nat→(Int×σ)→Option (Except (Bool×σ) (σ))
 |0,_=>none
 |n+1,c=>
  if c.1 < (a3.1.2.1.length:Int) then(bE (α:=σ) ((aP a3.1.2.1 c.1).bind fun y=>
  (((eA k a2 c.1).bind fun I=>
  if I=true then(some (true,c.2)) else((nk k a3.1 h).bind fun F=>
  (ck (F+y.1)).bind fun x=>
  (aP a3.1.2.2 a1).bind fun u=>
  some (decide (u < x),c.2))):Option (Bool×σ)).bind fun j=>
  if j.1=true then(some (.ok j.2)) else((dt (0≤a1∧a1 < 3)).bind fun _=>
  (aP a0 a1).bind fun s=>
  (dt (0≤(h.length:Int)∧(h.length:Int) < 5)).bind fun _=>
  (eT k a2 c.1).bind fun E=>
  (self (List.set a0 (Int.toNat a1) (List.set s (Int.toNat (h.length:Int)) c.1)) a1 E j.2).bind fun l=>
  if¬(l.1=true) then(some (.error (false,l.2))) else(some (.ok l.2)))) (fun e=>some (.error e)) fun D=>
  (ck (c.1+1)).bind fun r=>
  dZ k a0 a1 a2 a3 self h n (r,D)) else(some (.ok c.2))
def di{σ:Type}(k:Nat)(Y:σ→(List (List Int))→Option (σ×Bool))(a3:du):Nat→(List (List Int))→Int→Int→σ→Option (Bool×σ)
 |0,_,_,_,_=>none
 |m0+1,a0,a1,a2,s0=>
  if a1=(a3.1.2.2.length:Int) then((((dt (0≤(a3.1.2.1.length:Int))).bind fun _=>
  if¬(a2=(IntKind.u8.wrap ((nJ .u8 1 (a3.1.2.1.length:Int)) - 1))) then(some (true,s0)) else((Y s0 a0).bind fun r5=>
  some (r5.2,r5.1))):Option (Bool×σ)).bind fun x2=>
  some (x2.1,x2.2)) else((ck (a1+1)).bind fun x7=>
  ((di k Y a3 m0) a0 x7 a2 s0).bind fun r8=>
  if¬(r8.1=true) then(some (false,r8.2)) else((d6 k a0 a1).bind fun e=>
  bE (α:=σ) (dZ k a0 a1 a2 a3 (di k Y a3 m0) e k (0,r8.2)) (some) fun c=>
  some (true,c)))
theorem m6{M:Md Tryz.prog}{σ Z:Type}(E:Z→σ→List D)(l:Nat)(Y:σ→(List (List Int))→Option (σ×Bool))(k:Nat)(a3:du)(u:Nat)(x:Nat)(c:Nat)(hY:∀z s p r,Y s p=some r→YT M l [.rep (.arr 3 (.arr 5 (.int .i64))) p] (E z s) (fun z':Z=>(.eq (.bool r.2),E z' r.1))):
 ∀(n:Nat) (a0:(List (List Int))) (a1:Int) (a2:Int) (z0:Z) (s0:σ) (r:Bool×σ),di k Y a3 n a0 a1 a2 s0=some r→dy M 121 [.rep (.arr 3 (.arr 5 (.int .i64))) a0,I a1,.eq (.int .u8 a2),Pt u,Pt x,Pt c] ([.obj u 81 (.at bO a3),.obj x 195 (.eq (.func (.yield l) #[] #[])),.obj c 196 (.eq (.func (.func 121) #[] #[(Pv u),(Pv x),(Pv c)]))]++E z0 s0) (fun z:Z=>(bv [.eq (.bool r.1)],[.obj u 81 (.at bO a3),.obj x 195 (.eq (.func (.yield l) #[] #[])),.obj c 196 (.eq (.func (.func 121) #[] #[(Pv u),(Pv x),(Pv c)]))]++E z r.2)):=by
 intro n
 induction n with
 |zero=>intro a0 a1 a2 z0 s0 r h;cases h
 |succ m0 ih=>
  intro a0 a1 a2 z0 s0 r h;rw [di] at h;replace h:=a9 h;refine dy.of 97 Tryz.func121 rfl Tryz.ntmps121 rfl fun S w0=>?_;refine sr (bx fun b1=>?_);refine cq (nt (ae (sr ?_)));refine mq ?_;refine fr 1 ?_;refine lo xZ ?_;refine ja (dT rfl) ?_;refine ja (aI 3 true rfl kA rfl) ?_;refine ja (aI 1 false rfl cK rfl) ?_;refine ja (ak (t:=(.slice (.int .i64))) rfl bG rfl) ?_;refine ol dE ?_;refine jb (fL rfl) ?_;refine nt (ci h (fun h=>?_) (fun h=>?_))
  ·refine aL (Z:=Z) (α:=Bool×σ) (fun z3 x2=>[(9,.eq (.bool x2.1))]) (fun z3 x2=>[.obj u 81 (.at bO a3),.obj x 195 (.eq (.func (.yield l) #[] #[])),.obj c 196 (.eq (.func (.func 121) #[] #[(Pv u),(Pv x),(Pv c)]))]++E z3 x2.2) h (fun K h=>?_) (fun z3 x2 h=>?_)
   ·refine ab (mq ?_);refine lo xZ ?_;refine ja (dT rfl) ?_;refine ja (aI 3 true rfl kA rfl) ?_;refine ja (aI 1 false rfl bV rfl) ?_;refine ja (ak (t:=(.slice aZ)) rfl eU rfl) ?_;refine ol mG ?_;obtain⟨u4,U2,h⟩:=aa h;refine jb (Hq rfl (ay U2)) ?_;refine jb (Ho rfl) ?_;refine jb (iy rfl) ?_;refine mq ?_;refine cm (s:=32) rfl (fun hb=>?_) (fun hb=>?_)
    ·replace h:=cE (KH hb) h;iterate 3 refine gn ?_
     refine pt ?_;refine aq (nl ?_);exact jk (z0,(true,s0)) h (bu [.obj u 81 (.at bO a3),.obj b1 86 (.rep (.arr 3 (.arr 5 (.int .i64))) a0),.obj x 195 (.eq (.func (.yield l) #[] #[])),.obj c 196 (.eq (.func (.func 121) #[] #[(Pv u),(Pv x),(Pv c)]))] (E z0 s0) [0,2,3] ⟨rfl,trivial⟩ rfl)
    ·replace h:=bQ (yw hb) h;refine fr 2 ?_;refine jR rfl rfl rfl rfl rfl rfl (aj rfl Py jr rfl) ⟨rfl,trivial⟩ ?_;refine fr 2 ?_;refine jR rfl rfl rfl rfl rfl rfl (aj rfl gu (uD) rfl) ⟨rfl,trivial⟩ ?_;obtain⟨r5,U6,h⟩:=aa h;refine fr 3 ?_;refine fr 3 ?_;refine fr 3 ?_;refine fr 3 ?_;refine Gf [.obj b1 86 (.rep (.arr 3 (.arr 5 (.int .i64))) a0),.obj x 195 (.eq (.func (.yield l) #[] #[])),.obj u 81 (.at bO a3),.obj c 196 (.eq (.func (.func 121) #[] #[(Pv u),(Pv x),(Pv c)]))] rfl rfl rfl rfl rfl rfl (yl [.tmp 34] rfl rfl rfl (hY z0 s0 a0 r5 U6)) ⟨rfl,rfl,trivial⟩ fun z6=>?_;refine pf ?_;refine aq (nl ?_);exact jk (z6,(r5.2,r5.1)) h (bu [.obj b1 86 (.rep (.arr 3 (.arr 5 (.int .i64))) a0),.obj x 195 (.eq (.func (.yield l) #[] #[])),.obj u 81 (.at bO a3),.obj c 196 (.eq (.func (.func 121) #[] #[(Pv u),(Pv x),(Pv c)]))] (E z6 r5.1) [2,1,3] ⟨rfl,trivial⟩ rfl)
   ·refine rx ?_;cases h;exact jl z3 [_] ⟨rfl,trivial⟩ rfl
  ·refine sk (ae (sr (fr 3 ?_)));refine lo Dy ?_;refine fr 2 ?_;refine lo gu ?_;refine mq ?_;obtain⟨x7,U1,h⟩:=aa h;refine jb (bb rfl U1) ?_;refine mq ?_;obtain⟨r8,U4,h⟩:=aa h;refine fr 1 ?_;refine fr 3 ?_;refine fr 3 ?_;refine fr 3 ?_;refine pK [.obj b1 86 (.rep (.arr 3 (.arr 5 (.int .i64))) a0)] rfl rfl rfl (pg (fs:=[]) (cs:=[(Pv u),(Pv x),(Pv c)]) (ags:=[.rep (.arr 3 (.arr 5 (.int .i64))) a0,I x7,.eq (.int .u8 a2)]) [.tmp 38,.tmp 40,.tmp 41] rfl rfl IP rfl (ih a0 x7 a2 z0 s0 r8 U4)) ⟨rfl,rfl,rfl,rfl,trivial⟩ fun z9=>?_;refine ja (dX rfl) ?_;refine nt (cw h (fun h=>?_) (fun h=>?_))
   ·refine sr (cq (nt (rx ?_)));refine bC (bu (Γ':=[(9,_)]) [.obj b1 86 (.rep (.arr 3 (.arr 5 (.int .i64))) a0),.obj u 81 (.at bO a3),.obj x 195 (.eq (.func (.yield l) #[] #[])),.obj c 196 (.eq (.func (.func 121) #[] #[(Pv u),(Pv x),(Pv c)]))] (E z9 r8.2) [1,2,3] ⟨rfl,trivial⟩ rfl) ?_;cases h;exact jl z9 [_] ⟨rfl,trivial⟩ rfl
   ·refine sk (sr (lo gu ?_));refine mq ?_;obtain⟨F,UU,h⟩:=aa h;refine jb (ap [.tmp 44,.tmp 45] rfl rfl Lj rfl (gC k a0 a1 F UU)) ?_;refine aq (nt ?_);refine dS (Z:=Z) (α:=σ) (fun qt UH=>[]) (fun qt UH=>[.obj u 81 (.at bO a3),.obj x 195 (.eq (.func (.yield l) #[] #[])),.obj c 196 (.eq (.func (.func 121) #[] #[(Pv u),(Pv x),(Pv c)]))]++E qt UH) (fun e=>e=r) h (fun e h=>Option.some.inj h) (fun K hR h=>?_) (fun qt UH h=>?_)
    ·refine sr (fr 1 ?_);refine lo xZ ?_;refine ja (dT rfl) ?_;refine ja (aI 3 true rfl kA rfl) ?_;refine ja (aI 1 false rfl bV rfl) ?_;refine ja (ak (t:=(.slice aZ)) rfl eU rfl) ?_;refine ol mG ?_;refine fk rfl ?_;refine nt (ao (aJ (Z:=Z) (α:=Int×σ) (fun J y=>[(1,I a1),(2,.eq (.int .u8 a2)),(3,Pt u),(5,Pt c),(6,Pt b1),(10,Ri F),(51,Rs aZ a3.1.2.1),(52,I (a3.1.2.1.length:Int)),(53,I y.1)]) (fun J y=>[.obj u 81 (.at bO a3),.obj c 196 (.eq (.func (.func 121) #[] #[(Pv u),(Pv x),(Pv c)])),.obj x 195 (.eq (.func (.yield l) #[] #[])),.obj b1 86 (.rep (.arr 3 (.arr 5 (.int .i64))) a0)]++E J y.2) (dZ k a0 a1 a2 a3 (di k Y a3 m0) F) k z9 (0,r8.2) (fun _=>rfl) h (bu [.obj u 81 (.at bO a3),.obj b1 86 (.rep (.arr 3 (.arr 5 (.int .i64))) a0),.obj x 195 (.eq (.func (.yield l) #[] #[])),.obj c 196 (.eq (.func (.func 121) #[] #[(Pv u),(Pv x),(Pv c)]))] (E z9 r8.2) [0,3,2,1] ⟨rfl,rfl,rfl,rfl,rfl,rfl,rfl,rfl,rfl,trivial⟩ rfl) (fun n J y h=>?_)));unfold dZ at h;refine sr (jb (bm rfl) ?_);refine nt (ae (ci h (fun h=>?_) (fun h=>?_)))
     ·refine sk (dS (Z:=Z) (α:=σ) (fun X mc=>[(1,I a1),(2,.eq (.int .u8 a2)),(3,Pt u),(5,Pt c),(6,Pt b1),(10,Ri F),(51,Rs aZ a3.1.2.1),(52,I (a3.1.2.1.length:Int)),(53,I y.1)]) (fun X mc=>[.obj u 81 (.at bO a3),.obj c 196 (.eq (.func (.func 121) #[] #[(Pv u),(Pv x),(Pv c)])),.obj x 195 (.eq (.func (.yield l) #[] #[])),.obj b1 86 (.rep (.arr 3 (.arr 5 (.int .i64))) a0)]++E X mc) (fun e=>e=r) h (fun e h=>hR e h) (fun K hR h=>?_) (fun X mc h=>?_))
      ·refine ao (sr (mq ?_));obtain⟨UK,UP,h⟩:=aa h;refine jb (aC (t:=aZ) rfl mG kh UP) ?_;refine ja (ak (t:=aZ) rfl kh rfl) ?_;refine aF rfl rfl rfl (bf rfl ug LK) trivial fun UV=>?_;refine aq ?_;refine bh rfl rfl (be rfl kh rfl rfl rfl) ⟨rfl,rfl,trivial⟩ ?_;refine nt (ae (aL (Z:=Z) (α:=Bool×σ) (fun U O=>[(1,I a1),(2,.eq (.int .u8 a2)),(3,Pt u),(5,Pt c),(6,Pt b1),(10,Ri F),(11,I y.1),(51,Rs aZ a3.1.2.1),(52,I (a3.1.2.1.length:Int)),(53,I y.1),(80,.eq (.bool O.1))]) (fun U O=>[.obj u 81 (.at bO a3),.obj c 196 (.eq (.func (.func 121) #[] #[(Pv u),(Pv x),(Pv c)])),.obj x 195 (.eq (.func (.yield l) #[] #[])),.obj b1 86 (.rep (.arr 3 (.arr 5 (.int .i64))) a0)]++E U O.2) h (fun K h=>?_) (fun U O h=>?_)))
       ·refine bJ ?_;refine dm ?_;refine dm ?_;obtain⟨U0,UT,h⟩:=aa h;refine db (ap [.tmp 58,.tmp 59] rfl rfl Lm rfl (iJ k a2 y.1 U0 UT)) ?_;refine kZ rfl rfl rfl (aK rfl) ⟨rfl,trivial⟩ (fun hb=>?_) (fun hb=>?_)
        ·replace h:=cE (BD hb) h;iterate 17 refine dg ?_
         refine df cD ?_;refine gn ?_;refine pt (nl ?_);exact jk (J,(true,y.2)) h (bu [.obj UV 27 (.rep aZ UK),.obj u 81 (.at bO a3),.obj c 196 (.eq (.func (.func 121) #[] #[(Pv u),(Pv x),(Pv c)])),.obj x 195 (.eq (.func (.yield l) #[] #[])),.obj b1 86 (.rep (.arr 3 (.arr 5 (.int .i64))) a0)] (E J y.2) [1,2,3,4] ⟨rfl,rfl,rfl,rfl,rfl,rfl,rfl,rfl,rfl,rfl,rfl,trivial⟩ rfl)
        ·replace h:=bQ (BE hb) h;refine jL 1 rfl rfl rfl rfl rfl rfl (aj rfl xZ jr rfl) ⟨rfl,rfl,trivial⟩ ?_;refine aX rfl rfl rfl rfl rfl (dT rfl) ⟨rfl,rfl,trivial⟩ ?_;refine aX rfl rfl rfl rfl rfl (aI 3 true rfl kA rfl) ⟨rfl,rfl,trivial⟩ ?_;refine aX rfl rfl rfl rfl rfl (ak (t:=av) rfl dQ rfl) ⟨rfl,rfl,trivial⟩ ?_;refine aX rfl rfl rfl rfl rfl (aK rfl) ⟨rfl,rfl,trivial⟩ ?_;obtain⟨UZ,US,h⟩:=aa h;refine aX rfl rfl rfl rfl rfl (ap [.tmp 65,.tmp 66] rfl rfl MR rfl (t3 k a3.1 F UZ US)) ⟨rfl,rfl,rfl,trivial⟩ ?_;refine aX rfl rfl rfl rfl rfl (ar rfl kQ) ⟨rfl,rfl,trivial⟩ ?_;refine jL 0 rfl rfl rfl rfl rfl rfl (aj rfl co jr rfl) ⟨rfl,rfl,trivial⟩ ?_;obtain⟨UY,UO,h⟩:=aa h;refine aX rfl rfl rfl rfl rfl (bb rfl UO) ⟨rfl,rfl,rfl,trivial⟩ ?_;refine jL 1 rfl rfl rfl rfl rfl rfl (aj rfl xZ jr rfl) ⟨rfl,rfl,trivial⟩ ?_;refine aX rfl rfl rfl rfl rfl (dT rfl) ⟨rfl,rfl,trivial⟩ ?_;refine aX rfl rfl rfl rfl rfl (aI 3 true rfl kA rfl) ⟨rfl,rfl,trivial⟩ ?_;refine aX rfl rfl rfl rfl rfl (aI 1 false rfl cK rfl) ⟨rfl,rfl,trivial⟩ ?_;refine aX rfl rfl rfl rfl rfl (ak (t:=(.slice (.int .i64))) rfl bG rfl) ⟨rfl,rfl,trivial⟩ ?_;refine aX rfl rfl rfl rfl rfl (aK rfl) ⟨rfl,rfl,trivial⟩ ?_;obtain⟨UX,UN,h⟩:=aa h;refine aX rfl rfl rfl rfl rfl (aC (t:=(.int .i64)) rfl dE co UN) ⟨rfl,rfl,rfl,trivial⟩ ?_;refine aX rfl rfl rfl rfl rfl (ak (t:=(.int .i64)) rfl co rfl) ⟨rfl,rfl,trivial⟩ ?_;refine df cD ?_;refine gb (iz rfl) ?_;refine pf (nl ?_);exact jk (J,(decide (UX < UY),y.2)) h (bu [.obj UV 27 (.rep aZ UK),.obj u 81 (.at bO a3),.obj c 196 (.eq (.func (.func 121) #[] #[(Pv u),(Pv x),(Pv c)])),.obj x 195 (.eq (.func (.yield l) #[] #[])),.obj b1 86 (.rep (.arr 3 (.arr 5 (.int .i64))) a0)] (E J y.2) [1,2,3,4] ⟨rfl,rfl,rfl,rfl,rfl,rfl,rfl,rfl,rfl,rfl,rfl,trivial⟩ rfl)
       ·refine cv h (fun h=>?_) (fun h=>?_)
        ·refine dM (aU (bZ (ag ?_)));exact jk (U,O.2) h (bu [.obj u 81 (.at bO a3),.obj c 196 (.eq (.func (.func 121) #[] #[(Pv u),(Pv x),(Pv c)])),.obj x 195 (.eq (.func (.yield l) #[] #[])),.obj b1 86 (.rep (.arr 3 (.arr 5 (.int .i64))) a0)] (E U O.2) [0,1,2,3] ⟨rfl,rfl,rfl,rfl,rfl,rfl,rfl,rfl,rfl,trivial⟩ rfl)
        ·refine sk (sr (fr 3 ?_));refine lo gu ?_;refine aF rfl rfl rfl (bf rfl sS tV) trivial fun UJ=>?_;refine bh rfl rfl (be rfl gu rfl rfl rfl) ⟨rfl,rfl,trivial⟩ ?_;refine nt (sr ?_);iterate 2 refine mq ?_
         refine ol dE ?_;refine mq ?_;obtain⟨U8,UG,h⟩:=aa h;refine jb (iW rfl RL GU (ay UG).1 (ay UG).2) ?_;obtain⟨ac,UM,h⟩:=aa h;obtain⟨U7,Q,h⟩:=aa h;refine jb (iW rfl RN co (ay Q).1 (ay Q).2) ?_;refine bh rfl rfl (oa (t:=(.int .i64)) (off:=0) (i:=a1) (j:=(F.length:Int)) (N:=3) (L:=5) rfl co .int rfl rfl rfl rfl UM (ay Q).1 (ay Q).2 rfl) ⟨rfl,rfl,trivial⟩ ?_;refine nt (ae (bJ ?_));refine ea 3 (aj rfl Dy jr rfl) ?_;refine ea 0 (aj rfl gu (uD) rfl) ?_;refine dm ?_;refine dm ?_;refine dm ?_;obtain⟨UI,UR,h⟩:=aa h;refine db (ap [.tmp 91,.tmp 92] rfl rfl Ee rfl (jG k a2 y.1 UI UR)) ?_;refine df cD ?_;obtain⟨se,UQ,h⟩:=aa h;refine fr 3 ?_;refine fr 4 ?_;refine fr 4 ?_;refine fr 4 ?_;refine fr 4 ?_;refine pK [.obj UJ 86 (.rep (.arr 3 (.arr 5 (.int .i64))) (List.set a0 (Int.toNat a1) (List.set ac (Int.toNat (F.length:Int)) y.1))),.obj b1 86 (.rep (.arr 3 (.arr 5 (.int .i64))) a0)] rfl rfl rfl (pg (fs:=[]) (cs:=[(Pv u),(Pv x),(Pv c)]) (ags:=[.rep (.arr 3 (.arr 5 (.int .i64))) (List.set a0 (Int.toNat a1) (List.set ac (Int.toNat (F.length:Int)) y.1)),I a1,.eq (.int .u8 UI)]) [.tmp 89,.tmp 90,.tmp 93] rfl rfl IP rfl (ih (List.set a0 (Int.toNat a1) (List.set ac (Int.toNat (F.length:Int)) y.1)) a1 UI U O.2 se UQ)) ⟨rfl,rfl,rfl,rfl,trivial⟩ fun pp=>?_;refine ja (dX rfl) ?_;refine nt (cw h (fun h=>?_) (fun h=>?_))
         ·refine sr (cq (nt (aA (br (bj (aV ?_))))));refine bC (bu (Γ':=[(9,_)]) [.obj UJ 86 (.rep (.arr 3 (.arr 5 (.int .i64))) (List.set a0 (Int.toNat a1) (List.set ac (Int.toNat (F.length:Int)) y.1))),.obj b1 86 (.rep (.arr 3 (.arr 5 (.int .i64))) a0),.obj u 81 (.at bO a3),.obj x 195 (.eq (.func (.yield l) #[] #[])),.obj c 196 (.eq (.func (.func 121) #[] #[(Pv u),(Pv x),(Pv c)]))] (E pp se.2) [2,3,4] ⟨rfl,trivial⟩ rfl) ?_;obtain rfl:=hR _ h;exact jl pp [_] ⟨rfl,trivial⟩ rfl
         ·refine aW (bn ?_);exact jk (pp,se.2) h (bu [.obj UJ 86 (.rep (.arr 3 (.arr 5 (.int .i64))) (List.set a0 (Int.toNat a1) (List.set ac (Int.toNat (F.length:Int)) y.1))),.obj b1 86 (.rep (.arr 3 (.arr 5 (.int .i64))) a0),.obj u 81 (.at bO a3),.obj x 195 (.eq (.func (.yield l) #[] #[])),.obj c 196 (.eq (.func (.func 121) #[] #[(Pv u),(Pv x),(Pv c)]))] (E pp se.2) [2,4,3,1] ⟨rfl,rfl,rfl,rfl,rfl,rfl,rfl,rfl,rfl,trivial⟩ rfl)
      ·refine ab ?_;obtain⟨UW,UL,h⟩:=aa h;refine jb (bb rfl UL) ?_;refine mq (nl ?_);exact jk (X,(UW,mc)) h (bu [.obj u 81 (.at bO a3),.obj c 196 (.eq (.func (.func 121) #[] #[(Pv u),(Pv x),(Pv c)])),.obj x 195 (.eq (.func (.yield l) #[] #[])),.obj b1 86 (.rep (.arr 3 (.arr 5 (.int .i64))) a0)] (E X mc) [0,1,2,3] ⟨rfl,rfl,rfl,rfl,rfl,rfl,rfl,rfl,rfl,trivial⟩ rfl)
     ·refine xa ?_;exact jk (J,y.2) h (bu [.obj u 81 (.at bO a3),.obj c 196 (.eq (.func (.func 121) #[] #[(Pv u),(Pv x),(Pv c)])),.obj x 195 (.eq (.func (.yield l) #[] #[])),.obj b1 86 (.rep (.arr 3 (.arr 5 (.int .i64))) a0)] (E J y.2) [0,2,1] trivial rfl)
    ·refine sr (cq (nt (aA ?_)));cases h;exact jl qt [_] ⟨rfl,trivial⟩ rfl
def jq{σ:Type}(k:Nat)(Y:σ→(List (List Int))→Option (σ×Bool))(a1:du)(s0:σ):Option (σ):=
 (dN k ([]:(List (List Int)))).bind fun r2=>
 (di k Y a1 k r2 0 0 s0).bind fun r5=>
 some r5.2
theorem nR{M:Md Tryz.prog}{σ Z:Type}(E:Z→σ→List D)(l:Nat)(Y:σ→(List (List Int))→Option (σ×Bool))(k:Nat)(a1:du)(c:Nat)(hY:∀z s p r,Y s p=some r→YT M l [.rep (.arr 3 (.arr 5 (.int .i64))) p] (E z s) (fun z':Z=>(.eq (.bool r.2),E z' r.1))):
 ∀(z0:Z) (s0:σ) (r:σ),jq k Y a1 s0=some r→dy M 120 [.eq (.func (.yield l) #[] #[]),Pt c] ([.obj c 81 (.at bO a1)]++E z0 s0) (fun z:Z=>(bv [],[.obj c 81 (.at bO a1)]++E z r)):=by
 intro z0 s0 r h
 unfold jq at h
 replace h:=a9 h
 refine dy.of 10 Tryz.func120 rfl Tryz.ntmps120 rfl fun S w0=>?_
 refine sr ?_
 refine bx fun b1=>?_
 refine nt ?_
 refine sr ?_
 obtain⟨r2,j,h⟩:=aa h
 have u:=fy k ([]:(List (List Int))) r2 j
 refine ja (dU (N:=[(.const (.slice none 0 0),.eq (.slice none 0 0))]) (ap [.const (.slice none 0 0)] rfl rfl FO rfl u) fun _ _ _ hn=>⟨(j0 (t:=(.slice (.slice (.int .i64)))) (x:=([]:(List (List Int)))) .nil rfl rfl hn.1),trivial⟩) ?_
 refine aF rfl rfl rfl (bf rfl sS tV) trivial fun b3=>?_
 refine bh rfl rfl (be rfl gu rfl rfl rfl) ⟨rfl,rfl,trivial⟩ ?_
 refine nt ?_
 refine sr ?_
 refine aF rfl rfl rfl (bf rfl O0 Rj) trivial fun b4=>?_
 refine nt ?_
 refine sr ?_
 refine jc (tj [] [.tmp 1,.tmp 2,.tmp 4] [] [(Pv c),(Pv b1),(Pv b4)] rfl rfl rfl) ?_
 refine bh rfl rfl (be rfl Dy rfl rfl rfl) ⟨rfl,rfl,trivial⟩ ?_
 refine nt ?_
 refine ab ?_
 refine lo Dy ?_
 refine fr 1 ?_
 refine lo gu ?_
 obtain⟨r5,e,h⟩:=aa h
 have n:=m6 E l Y k a1 c b1 b4 hY k r2 0 0 z0 s0 r5 e
 refine fr 1 ?_
 refine fr 2 ?_
 refine fr 3 ?_
 refine fr 3 ?_
 refine pK [.obj b3 86 (.rep (.arr 3 (.arr 5 (.int .i64))) r2)] rfl rfl rfl (pg (fs:=[]) (cs:=[(Pv c),(Pv b1),(Pv b4)]) (ags:=[.rep (.arr 3 (.arr 5 (.int .i64))) r2,I 0,.eq (.int .u8 0)]) [.tmp 8,.const (.int .i64 (0)),.const (.int .u8 (0))] rfl rfl IP rfl n) ⟨rfl,rfl,rfl,rfl,trivial⟩ fun z6=>?_
 refine au ?_
 refine jD ?_
 refine bC (bu (Γ':=[]) [.obj b3 86 (.rep (.arr 3 (.arr 5 (.int .i64))) r2),.obj c 81 (.at bO a1),.obj b1 195 (.eq (.func (.yield l) #[] #[])),.obj b4 196 (.eq (.func (.func 121) #[] #[(Pv c),(Pv b1),(Pv b4)]))] (E z6 r5.2) [1] trivial rfl) ?_
 cases h
 exact jl z6 [] trivial rfl
def jM(k:Nat)(a1:du):Option (List (List (List Int))):=
 (jq k (qC (fun(y2:(List (List (List Int)))) (p4:(List (List Int)))=>
  (dt (bH (List.length y2+List.length [p4]))).bind fun _=>
  some (y2++[p4],true))) a1 (([]:(List (List (List Int)))),false)).bind fun r5=>
 if r5.2=true then(none) else(some r5.1)
theorem oM(k:Nat)(a1:du)(c:Nat)(r:(List (List (List Int))))(h:jM k a1=some r):
 cd Tryz.prog 119 [.eq (.slice none 0 0),.eq (.func (.func 120) #[] #[(Pv c)])] [.obj c 81 (.at bO a1)] (fun z:Value=>(bv [.eq z],[.sl z 86 (.arr 3 (.arr 5 (.int .i64))) r,.obj c 81 (.at bO a1)])):=by
 unfold jM at h
 replace h:=a9 h
 refine ze 13 Tryz.func119 rfl Tryz.ntmps119 rfl fun {M} S w0=>?_
 refine sr ?_
 refine bx fun b1=>?_
 refine cq ?_
 refine nt ?_
 refine ae ?_
 refine sr ?_
 refine mq ?_
 refine nt ?_
 refine ao ?_
 refine dL (SE.nil 86 (.arr 3 (.arr 5 (.int .i64)))) ?_
 refine jE 1 rfl ?_
 refine jE 2 rfl ?_
 obtain⟨r5,j,h⟩:=aa h
 refine ox (Δ:=[.obj c 81 (.at bO a1),.obj b1 132 (.eq (.slice none 0 0)),.sl (.slice none 0 0) 86 (.arr 3 (.arr 5 (.int .i64))) ([]:(List (List (List Int))))]) (F:=[]) (X:=Value) (J:=fun _=>KQ r5.2) (E:=fun z3=>[.obj c 81 (.at bO a1),.obj b1 132 (.eq z3),.sl z3 86 (.arr 3 (.arr 5 (.int .i64))) r5.1]) (r0:=fun _=>.tup .any) rfl rfl QZ (fun rec hp ha hb hs hpe hN hv l=>?_) (fun dl z3=>qM (fun hj=>?_) (fun hj=>?_))
 ·
  rcases rec with⟨st0,pe0,fn0,tm0,ps0,as0,bd0,df0⟩;dsimp only at hp ha hb hs hpe hN hv;subst hp hs hpe;have vN:vZ tm0 [(2,Pt b1)]:=⟨congrArg A.eq (hv 2 _ rfl).symm,trivial⟩;refine dy.pick (M:=M) [1,0,2,3] [1,0,2,3] (nR (fun(z3:Value) (q:(List (List (List Int)))×Bool)=>[.raw l (.loop (kl ⟨.ready,none,fn0,tm0, #[7],as0,bd0,df0⟩ (KQ q.2))),.obj b1 132 (.eq z3),.sl z3 86 (.arr 3 (.arr 5 (.int .i64))) q.1]) l (qC (fun(y2:(List (List (List Int)))) (p4:(List (List Int)))=>
  (dt (bH (List.length y2+List.length [p4]))).bind fun _=>
  some (y2++[p4],true))) k a1 c (fun z3 q p r' h=>?_) (.slice none 0 0) (([]:(List (List (List Int)))),false) r5 j) rfl (fun _=>rfl) (fun _=>rfl)
  obtain⟨rq,hq,h2,rfl⟩:=qN h;obtain⟨y2,b5⟩:=q;obtain rfl:b5=false:=hq;replace h:=a9 h2;obtain⟨p4,hpv⟩:∃x,x=p:=⟨_,rfl⟩;subst hpv;refine YT.pick (R':=(fun z3:Value=>(.eq (.bool rq.2),[.raw l (.loop (kl ⟨.ready,none,fn0,tm0, #[7],as0,bd0,df0⟩ (KQ (!rq.2)))),.obj b1 132 (.eq z3),.sl z3 86 (.arr 3 (.arr 5 (.int .i64))) rq.1]))) [0,1,2] [0,1,2] (Je ha hb (N:=13) (Γ:=[(2,Pt b1)]) rfl hN (by decide) vN (fun S w=>?_)) rfl (fun _=>rfl) (fun _=>rfl);refine ab (aF rfl rfl rfl (bf rfl sS tV) trivial fun b6=>?_);refine bh rfl rfl (be rfl gu rfl rfl rfl) ⟨rfl,rfl,trivial⟩ ?_;refine nl (dq 1 rfl ?_);refine wh rfl rfl ?_;refine ao (ab (fr 2 ?_));refine lo GV ?_;refine fr 2 ?_;refine lo gu ?_;refine ja (bi (t:=(.arr 3 (.arr 5 (.int .i64)))) [(.tmp 9,_)] [p4] rfl rfl MD (.cons rfl .rep .nil) rfl rfl) ?_;obtain⟨u7,e,h⟩:=aa h;refine fr 3 ?_;refine cF rfl rfl rfl (bz rfl rfl MD (ay e)) ⟨rfl,rfl,trivial⟩ fun v8=>?_;refine ow fun o9=>?_;refine fr 2 ?_;refine bh rfl rfl (be rfl GV o9 rfl rfl) ⟨rfl,rfl,trivial⟩ ?_;refine au (aM (dq 1 rfl ?_));refine dq 1 rfl ?_;refine dq 3 rfl ?_;cases h;exact tY v8 2 rfl
 ·
  replace h:=bQ (BE hj) h;refine aM (tn (sr (fr 2 ?_)));refine lo GV ?_;refine aq (nt (aA ?_));refine dq 1 rfl ?_;refine zc ?_;refine bC (SE.fin (Γ':=[(4,_)]) [2,1,0] ⟨rfl,trivial⟩ rfl) ?_;cases h;exact aO z3 [.eq z3] 2 ⟨rfl,trivial⟩ rfl
 ·
  replace h:=cE (BD hj) h;cases h
def kH(k:Nat)(a0:du):Option (List (List (List Int))):=
 (jM k a0).bind fun r1=>
 some r1
theorem qn(k:Nat)(a0:du)(c:Nat)(r:(List (List (List Int))))(h:kH k a0=some r):
 cd Tryz.prog 84 [.eq (.func (.func 120) #[] #[(Pv c)])] [.obj c 81 (.at bO a0)] (fun _:Unit=>(bv [.rep (.slice (.arr 3 (.arr 5 (.int .i64)))) r],[.obj c 81 (.at bO a0)])):=by
 unfold kH at h
 replace h:=a9 h
 refine cd.of 5 Tryz.func84 rfl Tryz.ntmps84 rfl fun S w0=>?_
 refine sr ?_
 refine cq ?_
 refine nt ?_
 refine sr ?_
 refine mq ?_
 obtain⟨r1,e,h⟩:=aa h
 have j:=oM k a0 c r1 e
 refine bU (Δ:=[_]) (F:=_) (fun _ _ _=>ax rfl _) rfl rfl (ap [.const (.slice none 0 0),.tmp 3] rfl rfl Q1 rfl j) ⟨rfl,rfl,trivial⟩ fun z2=>?_
 refine aq ?_
 refine nt ?_
 refine aA ?_
 refine bC (eD [2,4] ⟨rfl,rfl,trivial⟩) ?_
 cases h
 exact aO () [_] 1 ⟨rfl,trivial⟩ rfl
theorem oV(a0:du):cd Tryz.prog 85 [.at bO a0] [] (fun z:Nat=>(bv [.eq (.func (.func 120) #[] #[(Pv z)])],[.obj z 81 (.at bO a0)])):=by
 refine cd.of 4 Tryz.func85 rfl Tryz.ntmps85 rfl fun S w0=>?_;refine sr (aF rfl rfl rfl (oH rfl trivial) ⟨rfl,trivial⟩ fun z=>?_);refine cq (nt (sr ?_));refine ja (tj [] [.tmp 1] [] [(Pv z)] rfl rfl rfl) ?_;refine aq (nt (aA ?_));exact aO z [_] 1 ⟨rfl,trivial⟩ rfl
def li(k:Nat)(a0:(List Int)):Option aQ:=
 ((if(a0.length:Int)=0 then(some [3,2]) else(some a0)):Option ((List Int))).bind fun x2=>
 some (3,[(1,[0,2]),(1,[1]),(2,[2]),(1,[0,1])],x2)
theorem jX(k:Nat)(a0:(List Int))(r:aQ)(h:li k a0=some r):
 cd Tryz.prog 45 [Ri a0] [] (fun _:Unit=>(bv [.rep av r],[])):=by
 unfold li at h
 replace h:=a9 h
 refine cd.of 18 Tryz.func45 rfl Tryz.ntmps45 rfl fun S w0=>?_
 refine sr ?_
 refine aF rfl rfl rfl (bf rfl kE mF) trivial fun b1=>?_
 refine nt ?_
 refine aL (Z:=Unit) (α:=(List Int)) (fun z3 x2=>[(0,Ri x2),(2,Pt b1)]) (fun z3 x2=>[.obj b1 25 (.agg (.pair (I 0) (.pair (.eq (.slice none 0 0)) (.eq (.slice none 0 0)))))]) h (fun K h=>?_) (fun z3 x2 h=>?_)
 ·
  refine sr (mq ?_);refine ol dE ?_;refine jb (fL rfl) ?_;refine nt (ci h (fun h=>?_) (fun h=>?_))
  ·refine ab (jb (bi (t:=(.int .i64)) [(.const (.int .i64 (3)),_),(.const (.int .i64 (2)),_)] [3,2] rfl rfl dw (.cons rfl .int (.cons rfl .int .nil)) rfl rfl) ?_);refine aq (nl ?_);exact jz ((),[3,2]) h [0]
  ·refine aW (ag ?_);exact jz ((),a0) h [0]
 ·
  refine sr (jb (bi (t:=(.int .i64)) [(.const (.int .i64 (0)),_),(.const (.int .i64 (2)),_)] [0,2] rfl rfl dw (.cons rfl .int (.cons rfl .int .nil)) rfl rfl) ?_);refine jb (cN [(0,.const (.int .i64 (1)),_),(1,.tmp 7,_)] rfl zQ ug ud (il ⟨rfl,rfl,trivial⟩) rfl) ?_;refine ja (bi (t:=(.int .i64)) [(.const (.int .i64 (1)),_)] [1] rfl rfl dw (.cons rfl .int .nil) rfl rfl) ?_;refine jb (cN [(0,.const (.int .i64 (1)),_),(1,.tmp 9,_)] rfl zQ ug ud (il ⟨rfl,rfl,trivial⟩) rfl) ?_;refine ja (bi (t:=(.int .i64)) [(.const (.int .i64 (2)),_)] [2] rfl rfl dw (.cons rfl .int .nil) rfl rfl) ?_;refine jb (cN [(0,.const (.int .i64 (2)),_),(1,.tmp 11,_)] rfl zQ ug ud (il ⟨rfl,rfl,trivial⟩) rfl) ?_;refine jb (bi (t:=(.int .i64)) [(.const (.int .i64 (0)),_),(.const (.int .i64 (1)),_)] [0,1] rfl rfl dw (.cons rfl .int (.cons rfl .int .nil)) rfl rfl) ?_;refine jb (cN [(0,.const (.int .i64 (1)),_),(1,.tmp 13,_)] rfl zQ ug ud (il ⟨rfl,rfl,trivial⟩) rfl) ?_;refine aE rfl (bi (t:=aZ) [(.tmp 8,_),(.tmp 10,_),(.tmp 12,_),(.tmp 14,_)] [(1,[0,2]),(1,[1]),(2,[2]),(1,[0,1])] rfl rfl ya (.cons trivial (.agg (.pair .int .rep)) (.cons trivial (.agg (.pair .int .rep)) (.cons trivial (.agg (.pair .int .rep)) (.cons trivial (.agg (.pair .int .rep)) .nil)))) rfl rfl) ⟨rfl,rfl,rfl,rfl,trivial⟩ ?_;refine mq ?_;refine jc (cN [(0,.const (.int .i64 (3)),_),(1,.tmp 15,_),(2,.tmp 16,_)] rfl Hh kE A2 (il ⟨rfl,rfl,rfl,trivial⟩) rfl) ?_;refine bh rfl rfl (be rfl dQ trivial rfl rfl) ⟨rfl,rfl,trivial⟩ ?_;refine nt (aA (bC (ou (a:=.agg (.pair (I 3) (.pair (Rs aZ [(1,[0,2]),(1,[1]),(2,[2]),(1,[0,1])]) (Ri x2)))) (a':=.rep av (3,[(1,[0,2]),(1,[1]),(2,[2]),(1,[0,1])],x2)) (wl (.agg (.pair .int (.pair .rep .rep))))) ?_));cases h;exact aO () [.rep av (3,[(1,[0,2]),(1,[1]),(2,[2]),(1,[0,1])],x2)] 0 ⟨⟨_,_,_,_,_,rfl,(.head _),dQ,(uD),rfl⟩,trivial⟩ rfl
def xl(k:Nat):Option (List (List Int)):=
 some [[1,0,3],[2]]
theorem sb(k:Nat)(r:(List (List Int)))(h:xl k=some r):
 cd Tryz.prog 46 [] [] (fun _:Unit=>(bv [.rep (.slice (.slice (.int .i64))) r],[])):=by
 unfold xl at h
 replace h:=a9 h
 refine cd.of 4 Tryz.func46 rfl Tryz.ntmps46 rfl fun S w0=>?_
 refine sr ?_
 refine cq ?_
 refine nt ?_
 refine sr ?_
 refine jc (bi (t:=(.int .i64)) [(.const (.int .i64 (1)),_),(.const (.int .i64 (0)),_),(.const (.int .i64 (3)),_)] [1,0,3] rfl rfl dw (.cons rfl .int (.cons rfl .int (.cons rfl .int .nil))) rfl rfl) ?_
 refine ja (bi (t:=(.int .i64)) [(.const (.int .i64 (2)),_)] [2] rfl rfl dw (.cons rfl .int .nil) rfl rfl) ?_
 refine jb (bi (t:=(.slice (.int .i64))) [(.tmp 1,_),(.tmp 2,_)] [[1,0,3],[2]] rfl rfl m7 (.cons rfl .rep (.cons rfl .rep .nil)) rfl rfl) ?_
 refine aq ?_
 refine nt ?_
 refine aA ?_
 cases h
 exact ra
def Ii(k:Nat):Option (List (List Int)):=
 some [[0,2],[3,1]]
theorem Ih(k:Nat)(r:(List (List Int)))(h:Ii k=some r):
 cd Tryz.prog 47 [] [] (fun _:Unit=>(bv [.rep (.slice (.slice (.int .i64))) r],[])):=by
 unfold Ii at h
 replace h:=a9 h
 refine cd.of 4 Tryz.func47 rfl Tryz.ntmps47 rfl fun S w0=>?_
 refine sr ?_
 refine cq ?_
 refine nt ?_
 refine sr ?_
 refine jb (bi (t:=(.int .i64)) [(.const (.int .i64 (0)),_),(.const (.int .i64 (2)),_)] [0,2] rfl rfl dw (.cons rfl .int (.cons rfl .int .nil)) rfl rfl) ?_
 refine jb (bi (t:=(.int .i64)) [(.const (.int .i64 (3)),_),(.const (.int .i64 (1)),_)] [3,1] rfl rfl dw (.cons rfl .int (.cons rfl .int .nil)) rfl rfl) ?_
 refine jb (bi (t:=(.slice (.int .i64))) [(.tmp 1,_),(.tmp 2,_)] [[0,2],[3,1]] rfl rfl m7 (.cons rfl .rep (.cons rfl .rep .nil)) rfl rfl) ?_
 refine aq ?_
 refine nt ?_
 refine aA ?_
 cases h
 exact ra
def mU(k:Nat)(a0:(List Int)):Option bR:=
 some (a0,0,1)
theorem vE(k:Nat)(a0:(List Int))(r:bR)(h:mU k a0=some r):
 cd Tryz.prog 13 [Ri a0] [] (fun z:Nat=>(bv [Pt z],[.obj z 75 (.agg (.pair (Ri r.1) (.pair (I r.2.1) (.eq (.int .u64 r.2.2)))))])):=by
 unfold mU at h
 replace h:=a9 h
 refine cd.of 6 Tryz.func13 rfl Tryz.ntmps13 rfl fun S w0=>?_
 refine sr ?_
 refine cq ?_
 refine nt ?_
 refine sr ?_
 refine mq ?_
 refine jb (cN [(0,.tmp 3,_),(2,.const (.int .u64 (1)),_)] rfl Sv RY Rf (il ⟨rfl,rfl,trivial⟩) rfl) ?_
 refine aF rfl rfl rfl (oH rfl trivial) ⟨rfl,trivial⟩ fun b1=>?_
 refine aq ?_
 refine nt ?_
 refine aA ?_
 cases h
 exact aO b1 [Pt b1] 1 ⟨rfl,trivial⟩ rfl
def eh(k:Nat)(a0:(List Int)):Option (List Int):=
 (dt (bH (List.length ([]:(List Int))+List.length a0))).bind fun _=>
 some (([]:(List Int))++a0)
theorem cu(k:Nat)(a0:(List Int))(r:(List Int))(h:eh k a0=some r):
 cd Tryz.prog 50 [Ri a0] [] (fun z:Value=>(bv [.eq z],[.sl z 3 (.int .i64) r])):=by
 unfold eh at h
 replace h:=a9 h
 refine cd.of 6 Tryz.func50 rfl Tryz.ntmps50 rfl fun S w0=>?_
 refine sr ?_
 refine cq ?_
 refine nt ?_
 refine sr ?_
 refine aF rfl rfl rfl (jP (t:=(.int .i64)) [] ([]:(List Int)) rfl rfl dw .nil rfl rfl) trivial fun v1=>?_
 refine mq ?_
 obtain⟨u2,c,h⟩:=aa h
 refine cF rfl rfl rfl (bz rfl rfl dw (ay c)) ⟨rfl,rfl,trivial⟩ fun v3=>?_
 refine aq ?_
 refine nt ?_
 refine aA ?_
 cases h
 exact aO v3 [.eq v3] 1 ⟨rfl,trivial⟩ rfl
def fU(k:Nat)(a0:aQ):Nat→((List eM)×Int)→Option (List eM)
 |0,_=>none
 |n+1,y9=>
  if y9.2 < (a0.2.1.length:Int) then((aP a0.2.1 y9.2).bind fun c=>
  (aP a0.2.1 y9.2).bind fun j=>
  (eh k j.2).bind fun e=>
  (dt (bH (List.length y9.1+List.length [(c.1,e)]))).bind fun _=>
  (ck (y9.2+1)).bind fun h=>
  fU k a0 n (y9.1++[(c.1,e)],h)) else(some y9.1)
def ji(k:Nat)(a0:aQ):Option aQ:=
 (eh k a0.2.2).bind fun r3=>
 ((fU k a0 k (([]:(List eM)),0)):Option ((List eM))).bind fun x7=>
 some (a0.1,x7,r3)
theorem uo(k:Nat)(a0:aQ)(r:aQ)(h:ji k a0=some r):
 cd Tryz.prog 16 [.rep av a0] [] (fun z:Value×Value=>(bv [.agg (.pair (I r.1) (.pair (.eq z.1) (.eq z.2)))],[.sl z.1 27 aZ r.2.1,.sl z.2 3 (.int .i64) r.2.2])):=by
 unfold ji at h
 replace h:=a9 h
 refine cd.of 38 Tryz.func16 rfl Tryz.ntmps16 rfl fun S w0=>?_
 refine sr ?_
 refine bx fun b1=>?_
 refine aF rfl rfl rfl (bf rfl kE mF) trivial fun b2=>?_
 refine nt ?_
 refine ae ?_
 obtain⟨r3,c,h⟩:=aa h
 refine dL (SE.fin (Γ':=[(1,Pt b1),(2,Pt b2)]) (Δ':=[.obj b2 25 (.agg (.pair (I 0) (.pair (.eq (.slice none 0 0)) (.eq (.slice none 0 0))))),.obj b1 25 (.rep av a0)]) [0,1] ⟨rfl,rfl,trivial⟩ rfl) ?_
 refine Bi (I:=Value×Nat) (Ge:=fun i=>[(1,Pt b1),(2,Pt b2),(3,.eq (.pointer (some ⟨i.2,0,none⟩)))]) (De:=fun i=>[.obj b1 25 (.rep av a0),.obj b2 25 (.agg (.pair (I 0) (.pair (.eq (.slice none 0 0)) (.eq (.slice none 0 0))))),.sl i.1 3 (.int .i64) r3,.obj i.2 25 (.agg (.pair (I a0.1) (.pair (.eq (.slice none 0 0)) (.eq i.1))))]) (L:=[true,true,true,true,true,true,true,true]) cD rfl (fun J hJ hE=>?_) (by kernel_rfl) ?_
 ·
  have s127:∀(v4:Value) (b6:Nat),J 1 [true,true,true,true,true,true,true,false] [(1,Pt b1),(2,Pt b2),(3,Pt b6),(10,.agg (.pair (I a0.1) (.pair (.eq (.slice none 0 0)) (.eq v4))))] [.obj b1 25 (.rep av a0),.obj b2 25 (.agg (.pair (I 0) (.pair (.eq (.slice none 0 0)) (.eq (.slice none 0 0))))),.sl v4 3 (.int .i64) r3,.obj b6 25 (.agg (.pair (I 0) (.pair (.eq (.slice none 0 0)) (.eq (.slice none 0 0)))))]:=fun v4 b6=>by
   subst hJ;refine JD.step [7] (by kernel_rfl) rfl ?_;refine cP.cons rfl ?_ ?_
   ·refine fr 3 ?_;refine bh rfl rfl (be rfl dQ trivial rfl rfl) ⟨rfl,rfl,trivial⟩ ?_;exact aG (hE ⟨v4,b6⟩) [1,2,3,0] ⟨rfl,rfl,rfl,trivial⟩
   exact trivial
  have s63:∀(v4:Value),J 2 [true,true,true,true,true,true,false,false] [(1,Pt b1),(2,Pt b2),(10,.agg (.pair (I a0.1) (.pair (.eq (.slice none 0 0)) (.eq v4))))] [.obj b1 25 (.rep av a0),.obj b2 25 (.agg (.pair (I 0) (.pair (.eq (.slice none 0 0)) (.eq (.slice none 0 0))))),.sl v4 3 (.int .i64) r3]:=fun v4=>by
   subst hJ;refine JD.step [6] (by kernel_rfl) rfl ?_;refine cP.cons rfl ?_ ?_
   ·refine aF rfl rfl rfl (bf rfl kE mF) trivial fun b6=>?_;exact aG (s127 v4 b6) [1,2,3,0] ⟨rfl,rfl,rfl,rfl,trivial⟩
   exact trivial
  have s95:∀(v4:Value) (b6:Nat),J 2 [true,true,true,true,true,false,true,false] [(1,Pt b1),(2,Pt b2),(3,Pt b6),(6,I a0.1),(9,.eq v4)] [.obj b1 25 (.rep av a0),.obj b2 25 (.agg (.pair (I 0) (.pair (.eq (.slice none 0 0)) (.eq (.slice none 0 0))))),.sl v4 3 (.int .i64) r3,.obj b6 25 (.agg (.pair (I 0) (.pair (.eq (.slice none 0 0)) (.eq (.slice none 0 0)))))]:=fun v4 b6=>by
   subst hJ;refine JD.step [5] (by kernel_rfl) rfl ?_;refine cP.cons rfl ?_ ?_
   ·refine fr 2 ?_;refine ow fun o5=>?_;refine jb (cN [(0,.tmp 6,_),(2,.tmp 9,_)] rfl Hh kE A2 (il ⟨rfl,o5,trivial⟩) rfl) ?_;exact aG (s127 v4 b6) [1,2,0,3] ⟨rfl,rfl,rfl,rfl,trivial⟩
   exact trivial
  have s31:∀(v4:Value),J 3 [true,true,true,true,true,false,false,false] [(1,Pt b1),(2,Pt b2),(6,I a0.1),(9,.eq v4)] [.obj b1 25 (.rep av a0),.obj b2 25 (.agg (.pair (I 0) (.pair (.eq (.slice none 0 0)) (.eq (.slice none 0 0))))),.sl v4 3 (.int .i64) r3]:=fun v4=>by
   subst hJ;refine JD.step [5,6] (by kernel_rfl) rfl ?_;refine cP.cons rfl ?_ ?_
   ·refine fr 2 ?_;refine ow fun o5=>?_;refine jb (cN [(0,.tmp 6,_),(2,.tmp 9,_)] rfl Hh kE A2 (il ⟨rfl,o5,trivial⟩) rfl) ?_;exact aG (s63 v4) [1,2,0] ⟨rfl,rfl,rfl,trivial⟩
   refine cP.cons rfl ?_ ?_
   ·refine aF rfl rfl rfl (bf rfl kE mF) trivial fun b6=>?_;exact aG (s95 v4 b6) [1,2,3,0] ⟨rfl,rfl,rfl,rfl,rfl,trivial⟩
   exact trivial
  have s79:∀(b6:Nat),J 3 [true,true,true,true,false,false,true,false] [(1,Pt b1),(2,Pt b2),(3,Pt b6),(6,I a0.1),(8,Ri a0.2.2)] [.obj b1 25 (.rep av a0),.obj b2 25 (.agg (.pair (I 0) (.pair (.eq (.slice none 0 0)) (.eq (.slice none 0 0))))),.obj b6 25 (.agg (.pair (I 0) (.pair (.eq (.slice none 0 0)) (.eq (.slice none 0 0)))))]:=fun b6=>by
   subst hJ;refine JD.step [4] (by kernel_rfl) rfl ?_;refine cP.cons rfl ?_ ?_
   ·refine aF rfl rfl rfl (ap [.tmp 8] rfl rfl uu rfl (cu k a0.2.2 r3 c)) ⟨rfl,trivial⟩ fun v4=>?_;exact aG (s95 v4 b6) [1,2,0,3] ⟨rfl,rfl,rfl,rfl,rfl,trivial⟩
   exact trivial
  have s93:∀(v4:Value) (b6:Nat),J 3 [true,false,true,true,true,false,true,false] [(1,Pt b1),(2,Pt b2),(3,Pt b6),(5,Pt b1),(9,.eq v4)] [.obj b1 25 (.rep av a0),.obj b2 25 (.agg (.pair (I 0) (.pair (.eq (.slice none 0 0)) (.eq (.slice none 0 0))))),.sl v4 3 (.int .i64) r3,.obj b6 25 (.agg (.pair (I 0) (.pair (.eq (.slice none 0 0)) (.eq (.slice none 0 0)))))]:=fun v4 b6=>by
   subst hJ;refine JD.step [1] (by kernel_rfl) rfl ?_;refine cP.cons rfl ?_ ?_
   ·refine lo co ?_;exact aG (s95 v4 b6) [0,1,2,3] ⟨rfl,rfl,rfl,rfl,rfl,trivial⟩
   exact trivial
  have s15:J 4 [true,true,true,true,false,false,false,false] [(1,Pt b1),(2,Pt b2),(6,I a0.1),(8,Ri a0.2.2)] [.obj b1 25 (.rep av a0),.obj b2 25 (.agg (.pair (I 0) (.pair (.eq (.slice none 0 0)) (.eq (.slice none 0 0)))))]:=by
   subst hJ;refine JD.step [4,6] (by kernel_rfl) rfl ?_;refine cP.cons rfl ?_ ?_
   ·refine aF rfl rfl rfl (ap [.tmp 8] rfl rfl uu rfl (cu k a0.2.2 r3 c)) ⟨rfl,trivial⟩ fun v4=>?_;exact aG (s31 v4) [1,2,0] ⟨rfl,rfl,rfl,rfl,trivial⟩
   refine cP.cons rfl ?_ ?_
   ·refine aF rfl rfl rfl (bf rfl kE mF) trivial fun b6=>?_;exact aG (s79 b6) [1,2,0] ⟨rfl,rfl,rfl,rfl,rfl,trivial⟩
   exact trivial
  have s71:∀(b6:Nat),J 4 [true,true,true,false,false,false,true,false] [(1,Pt b1),(2,Pt b2),(3,Pt b6),(6,I a0.1),(7,.eq (.pointer (some ⟨b1,2,none⟩)))] [.obj b1 25 (.rep av a0),.obj b2 25 (.agg (.pair (I 0) (.pair (.eq (.slice none 0 0)) (.eq (.slice none 0 0))))),.obj b6 25 (.agg (.pair (I 0) (.pair (.eq (.slice none 0 0)) (.eq (.slice none 0 0)))))]:=fun b6=>by
   subst hJ;refine JD.step [3] (by kernel_rfl) rfl ?_;refine cP.cons rfl ?_ ?_
   ·refine lo bG ?_;exact aG (s79 b6) [0,1,2] ⟨rfl,rfl,rfl,rfl,rfl,trivial⟩
   exact trivial
  have s29:∀(v4:Value),J 4 [true,false,true,true,true,false,false,false] [(1,Pt b1),(2,Pt b2),(5,Pt b1),(9,.eq v4)] [.obj b1 25 (.rep av a0),.obj b2 25 (.agg (.pair (I 0) (.pair (.eq (.slice none 0 0)) (.eq (.slice none 0 0))))),.sl v4 3 (.int .i64) r3]:=fun v4=>by
   subst hJ;refine JD.step [1,6] (by kernel_rfl) rfl ?_;refine cP.cons rfl ?_ ?_
   ·refine lo co ?_;exact aG (s31 v4) [0,1,2] ⟨rfl,rfl,rfl,rfl,trivial⟩
   refine cP.cons rfl ?_ ?_
   ·refine aF rfl rfl rfl (bf rfl kE mF) trivial fun b6=>?_;exact aG (s93 v4 b6) [1,2,3,0] ⟨rfl,rfl,rfl,rfl,rfl,trivial⟩
   exact trivial
  have s77:∀(b6:Nat),J 4 [true,false,true,true,false,false,true,false] [(1,Pt b1),(2,Pt b2),(3,Pt b6),(5,Pt b1),(8,Ri a0.2.2)] [.obj b1 25 (.rep av a0),.obj b2 25 (.agg (.pair (I 0) (.pair (.eq (.slice none 0 0)) (.eq (.slice none 0 0))))),.obj b6 25 (.agg (.pair (I 0) (.pair (.eq (.slice none 0 0)) (.eq (.slice none 0 0)))))]:=fun b6=>by
   subst hJ;refine JD.step [1,4] (by kernel_rfl) rfl ?_;refine cP.cons rfl ?_ ?_
   ·refine lo co ?_;exact aG (s79 b6) [0,1,2] ⟨rfl,rfl,rfl,rfl,rfl,trivial⟩
   refine cP.cons rfl ?_ ?_
   ·refine aF rfl rfl rfl (ap [.tmp 8] rfl rfl uu rfl (cu k a0.2.2 r3 c)) ⟨rfl,trivial⟩ fun v4=>?_;exact aG (s93 v4 b6) [1,2,0,3] ⟨rfl,rfl,rfl,rfl,rfl,trivial⟩
   exact trivial
  have s92:∀(v4:Value) (b6:Nat),J 4 [false,false,true,true,true,false,true,false] [(1,Pt b1),(2,Pt b2),(3,Pt b6),(9,.eq v4)] [.obj b1 25 (.rep av a0),.obj b2 25 (.agg (.pair (I 0) (.pair (.eq (.slice none 0 0)) (.eq (.slice none 0 0))))),.sl v4 3 (.int .i64) r3,.obj b6 25 (.agg (.pair (I 0) (.pair (.eq (.slice none 0 0)) (.eq (.slice none 0 0)))))]:=fun v4 b6=>by
   subst hJ;refine JD.step [0] (by kernel_rfl) rfl ?_;refine cP.cons rfl ?_ ?_
   ·refine fl fP ?_;exact aG (s93 v4 b6) [0,1,2,3] ⟨rfl,rfl,rfl,rfl,rfl,trivial⟩
   exact trivial
  have s7:J 5 [true,true,true,false,false,false,false,false] [(1,Pt b1),(2,Pt b2),(6,I a0.1),(7,.eq (.pointer (some ⟨b1,2,none⟩)))] [.obj b1 25 (.rep av a0),.obj b2 25 (.agg (.pair (I 0) (.pair (.eq (.slice none 0 0)) (.eq (.slice none 0 0)))))]:=by
   subst hJ;refine JD.step [3,6] (by kernel_rfl) rfl ?_;refine cP.cons rfl ?_ ?_
   ·refine lo bG ?_;exact aG s15 [0,1] ⟨rfl,rfl,rfl,rfl,trivial⟩
   refine cP.cons rfl ?_ ?_
   ·refine aF rfl rfl rfl (bf rfl kE mF) trivial fun b6=>?_;exact aG (s71 b6) [1,2,0] ⟨rfl,rfl,rfl,rfl,rfl,trivial⟩
   exact trivial
  have s67:∀(b6:Nat),J 5 [true,true,false,false,false,false,true,false] [(1,Pt b1),(2,Pt b2),(3,Pt b6),(6,I a0.1)] [.obj b1 25 (.rep av a0),.obj b2 25 (.agg (.pair (I 0) (.pair (.eq (.slice none 0 0)) (.eq (.slice none 0 0))))),.obj b6 25 (.agg (.pair (I 0) (.pair (.eq (.slice none 0 0)) (.eq (.slice none 0 0)))))]:=fun b6=>by
   subst hJ;refine JD.step [2] (by kernel_rfl) rfl ?_;refine cP.cons rfl ?_ ?_
   ·refine fl cK ?_;exact aG (s71 b6) [0,1,2] ⟨rfl,rfl,rfl,rfl,rfl,trivial⟩
   exact trivial
  have s13:J 5 [true,false,true,true,false,false,false,false] [(1,Pt b1),(2,Pt b2),(5,Pt b1),(8,Ri a0.2.2)] [.obj b1 25 (.rep av a0),.obj b2 25 (.agg (.pair (I 0) (.pair (.eq (.slice none 0 0)) (.eq (.slice none 0 0)))))]:=by
   subst hJ;refine JD.step [1,4,6] (by kernel_rfl) rfl ?_;refine cP.cons rfl ?_ ?_
   ·refine lo co ?_;exact aG s15 [0,1] ⟨rfl,rfl,rfl,rfl,trivial⟩
   refine cP.cons rfl ?_ ?_
   ·refine aF rfl rfl rfl (ap [.tmp 8] rfl rfl uu rfl (cu k a0.2.2 r3 c)) ⟨rfl,trivial⟩ fun v4=>?_;exact aG (s29 v4) [1,2,0] ⟨rfl,rfl,rfl,rfl,trivial⟩
   refine cP.cons rfl ?_ ?_
   ·refine aF rfl rfl rfl (bf rfl kE mF) trivial fun b6=>?_;exact aG (s77 b6) [1,2,0] ⟨rfl,rfl,rfl,rfl,rfl,trivial⟩
   exact trivial
  have s69:∀(b6:Nat),J 5 [true,false,true,false,false,false,true,false] [(1,Pt b1),(2,Pt b2),(3,Pt b6),(5,Pt b1),(7,.eq (.pointer (some ⟨b1,2,none⟩)))] [.obj b1 25 (.rep av a0),.obj b2 25 (.agg (.pair (I 0) (.pair (.eq (.slice none 0 0)) (.eq (.slice none 0 0))))),.obj b6 25 (.agg (.pair (I 0) (.pair (.eq (.slice none 0 0)) (.eq (.slice none 0 0)))))]:=fun b6=>by
   subst hJ;refine JD.step [1,3] (by kernel_rfl) rfl ?_;refine cP.cons rfl ?_ ?_
   ·refine lo co ?_;exact aG (s71 b6) [0,1,2] ⟨rfl,rfl,rfl,rfl,rfl,trivial⟩
   refine cP.cons rfl ?_ ?_
   ·refine lo bG ?_;exact aG (s77 b6) [0,1,2] ⟨rfl,rfl,rfl,rfl,rfl,trivial⟩
   exact trivial
  have s28:∀(v4:Value),J 5 [false,false,true,true,true,false,false,false] [(1,Pt b1),(2,Pt b2),(9,.eq v4)] [.obj b1 25 (.rep av a0),.obj b2 25 (.agg (.pair (I 0) (.pair (.eq (.slice none 0 0)) (.eq (.slice none 0 0))))),.sl v4 3 (.int .i64) r3]:=fun v4=>by
   subst hJ;refine JD.step [0,6] (by kernel_rfl) rfl ?_;refine cP.cons rfl ?_ ?_
   ·refine fl fP ?_;exact aG (s29 v4) [0,1,2] ⟨rfl,rfl,rfl,rfl,trivial⟩
   refine cP.cons rfl ?_ ?_
   ·refine aF rfl rfl rfl (bf rfl kE mF) trivial fun b6=>?_;exact aG (s92 v4 b6) [1,2,3,0] ⟨rfl,rfl,rfl,rfl,trivial⟩
   exact trivial
  have s76:∀(b6:Nat),J 5 [false,false,true,true,false,false,true,false] [(1,Pt b1),(2,Pt b2),(3,Pt b6),(8,Ri a0.2.2)] [.obj b1 25 (.rep av a0),.obj b2 25 (.agg (.pair (I 0) (.pair (.eq (.slice none 0 0)) (.eq (.slice none 0 0))))),.obj b6 25 (.agg (.pair (I 0) (.pair (.eq (.slice none 0 0)) (.eq (.slice none 0 0)))))]:=fun b6=>by
   subst hJ;refine JD.step [0,4] (by kernel_rfl) rfl ?_;refine cP.cons rfl ?_ ?_
   ·refine fl fP ?_;exact aG (s77 b6) [0,1,2] ⟨rfl,rfl,rfl,rfl,rfl,trivial⟩
   refine cP.cons rfl ?_ ?_
   ·refine aF rfl rfl rfl (ap [.tmp 8] rfl rfl uu rfl (cu k a0.2.2 r3 c)) ⟨rfl,trivial⟩ fun v4=>?_;exact aG (s92 v4 b6) [1,2,0,3] ⟨rfl,rfl,rfl,rfl,trivial⟩
   exact trivial
  have s3:J 6 [true,true,false,false,false,false,false,false] [(1,Pt b1),(2,Pt b2),(6,I a0.1)] [.obj b1 25 (.rep av a0),.obj b2 25 (.agg (.pair (I 0) (.pair (.eq (.slice none 0 0)) (.eq (.slice none 0 0)))))]:=by
   subst hJ;refine JD.step [2,6] (by kernel_rfl) rfl ?_;refine cP.cons rfl ?_ ?_
   ·refine fl cK ?_;exact aG s7 [0,1] ⟨rfl,rfl,rfl,rfl,trivial⟩
   refine cP.cons rfl ?_ ?_
   ·refine aF rfl rfl rfl (bf rfl kE mF) trivial fun b6=>?_;exact aG (s67 b6) [1,2,0] ⟨rfl,rfl,rfl,rfl,trivial⟩
   exact trivial
  have s5:J 6 [true,false,true,false,false,false,false,false] [(1,Pt b1),(2,Pt b2),(5,Pt b1),(7,.eq (.pointer (some ⟨b1,2,none⟩)))] [.obj b1 25 (.rep av a0),.obj b2 25 (.agg (.pair (I 0) (.pair (.eq (.slice none 0 0)) (.eq (.slice none 0 0)))))]:=by
   subst hJ;refine JD.step [1,3,6] (by kernel_rfl) rfl ?_;refine cP.cons rfl ?_ ?_
   ·refine lo co ?_;exact aG s7 [0,1] ⟨rfl,rfl,rfl,rfl,trivial⟩
   refine cP.cons rfl ?_ ?_
   ·refine lo bG ?_;exact aG s13 [0,1] ⟨rfl,rfl,rfl,rfl,trivial⟩
   refine cP.cons rfl ?_ ?_
   ·refine aF rfl rfl rfl (bf rfl kE mF) trivial fun b6=>?_;exact aG (s69 b6) [1,2,0] ⟨rfl,rfl,rfl,rfl,rfl,trivial⟩
   exact trivial
  have s65:∀(b6:Nat),J 6 [true,false,false,false,false,false,true,false] [(1,Pt b1),(2,Pt b2),(3,Pt b6),(5,Pt b1)] [.obj b1 25 (.rep av a0),.obj b2 25 (.agg (.pair (I 0) (.pair (.eq (.slice none 0 0)) (.eq (.slice none 0 0))))),.obj b6 25 (.agg (.pair (I 0) (.pair (.eq (.slice none 0 0)) (.eq (.slice none 0 0)))))]:=fun b6=>by
   subst hJ;refine JD.step [1,2] (by kernel_rfl) rfl ?_;refine cP.cons rfl ?_ ?_
   ·refine lo co ?_;exact aG (s67 b6) [0,1,2] ⟨rfl,rfl,rfl,rfl,trivial⟩
   refine cP.cons rfl ?_ ?_
   ·refine fl cK ?_;exact aG (s69 b6) [0,1,2] ⟨rfl,rfl,rfl,rfl,rfl,trivial⟩
   exact trivial
  have s12:J 6 [false,false,true,true,false,false,false,false] [(1,Pt b1),(2,Pt b2),(8,Ri a0.2.2)] [.obj b1 25 (.rep av a0),.obj b2 25 (.agg (.pair (I 0) (.pair (.eq (.slice none 0 0)) (.eq (.slice none 0 0)))))]:=by
   subst hJ;refine JD.step [0,4,6] (by kernel_rfl) rfl ?_;refine cP.cons rfl ?_ ?_
   ·refine fl fP ?_;exact aG s13 [0,1] ⟨rfl,rfl,rfl,rfl,trivial⟩
   refine cP.cons rfl ?_ ?_
   ·refine aF rfl rfl rfl (ap [.tmp 8] rfl rfl uu rfl (cu k a0.2.2 r3 c)) ⟨rfl,trivial⟩ fun v4=>?_;exact aG (s28 v4) [1,2,0] ⟨rfl,rfl,rfl,trivial⟩
   refine cP.cons rfl ?_ ?_
   ·refine aF rfl rfl rfl (bf rfl kE mF) trivial fun b6=>?_;exact aG (s76 b6) [1,2,0] ⟨rfl,rfl,rfl,rfl,trivial⟩
   exact trivial
  have s68:∀(b6:Nat),J 6 [false,false,true,false,false,false,true,false] [(1,Pt b1),(2,Pt b2),(3,Pt b6),(7,.eq (.pointer (some ⟨b1,2,none⟩)))] [.obj b1 25 (.rep av a0),.obj b2 25 (.agg (.pair (I 0) (.pair (.eq (.slice none 0 0)) (.eq (.slice none 0 0))))),.obj b6 25 (.agg (.pair (I 0) (.pair (.eq (.slice none 0 0)) (.eq (.slice none 0 0)))))]:=fun b6=>by
   subst hJ;refine JD.step [0,3] (by kernel_rfl) rfl ?_;refine cP.cons rfl ?_ ?_
   ·refine fl fP ?_;exact aG (s69 b6) [0,1,2] ⟨rfl,rfl,rfl,rfl,rfl,trivial⟩
   refine cP.cons rfl ?_ ?_
   ·refine lo bG ?_;exact aG (s76 b6) [0,1,2] ⟨rfl,rfl,rfl,rfl,trivial⟩
   exact trivial
  have s1:J 7 [true,false,false,false,false,false,false,false] [(1,Pt b1),(2,Pt b2),(5,Pt b1)] [.obj b1 25 (.rep av a0),.obj b2 25 (.agg (.pair (I 0) (.pair (.eq (.slice none 0 0)) (.eq (.slice none 0 0)))))]:=by
   subst hJ;refine JD.step [1,2,6] (by kernel_rfl) rfl ?_;refine cP.cons rfl ?_ ?_
   ·refine lo co ?_;exact aG s3 [0,1] ⟨rfl,rfl,rfl,trivial⟩
   refine cP.cons rfl ?_ ?_
   ·refine fl cK ?_;exact aG s5 [0,1] ⟨rfl,rfl,rfl,rfl,trivial⟩
   refine cP.cons rfl ?_ ?_
   ·refine aF rfl rfl rfl (bf rfl kE mF) trivial fun b6=>?_;exact aG (s65 b6) [1,2,0] ⟨rfl,rfl,rfl,rfl,trivial⟩
   exact trivial
  have s4:J 7 [false,false,true,false,false,false,false,false] [(1,Pt b1),(2,Pt b2),(7,.eq (.pointer (some ⟨b1,2,none⟩)))] [.obj b1 25 (.rep av a0),.obj b2 25 (.agg (.pair (I 0) (.pair (.eq (.slice none 0 0)) (.eq (.slice none 0 0)))))]:=by
   subst hJ;refine JD.step [0,3,6] (by kernel_rfl) rfl ?_;refine cP.cons rfl ?_ ?_
   ·refine fl fP ?_;exact aG s5 [0,1] ⟨rfl,rfl,rfl,rfl,trivial⟩
   refine cP.cons rfl ?_ ?_
   ·refine lo bG ?_;exact aG s12 [0,1] ⟨rfl,rfl,rfl,trivial⟩
   refine cP.cons rfl ?_ ?_
   ·refine aF rfl rfl rfl (bf rfl kE mF) trivial fun b6=>?_;exact aG (s68 b6) [1,2,0] ⟨rfl,rfl,rfl,rfl,trivial⟩
   exact trivial
  have s64:∀(b6:Nat),J 7 [false,false,false,false,false,false,true,false] [(1,Pt b1),(2,Pt b2),(3,Pt b6)] [.obj b1 25 (.rep av a0),.obj b2 25 (.agg (.pair (I 0) (.pair (.eq (.slice none 0 0)) (.eq (.slice none 0 0))))),.obj b6 25 (.agg (.pair (I 0) (.pair (.eq (.slice none 0 0)) (.eq (.slice none 0 0)))))]:=fun b6=>by
   subst hJ;refine JD.step [0,2] (by kernel_rfl) rfl ?_;refine cP.cons rfl ?_ ?_
   ·refine fl fP ?_;exact aG (s65 b6) [0,1,2] ⟨rfl,rfl,rfl,rfl,trivial⟩
   refine cP.cons rfl ?_ ?_
   ·refine fl cK ?_;exact aG (s68 b6) [0,1,2] ⟨rfl,rfl,rfl,rfl,trivial⟩
   exact trivial
  have s0:J 8 [false,false,false,false,false,false,false,false] [(1,Pt b1),(2,Pt b2)] [.obj b2 25 (.agg (.pair (I 0) (.pair (.eq (.slice none 0 0)) (.eq (.slice none 0 0))))),.obj b1 25 (.rep av a0)]:=by
   subst hJ;refine JD.step [0,2,6] (by kernel_rfl) rfl ?_;refine cP.cons rfl ?_ ?_
   ·refine fl fP ?_;exact aG s1 [1,0] ⟨rfl,rfl,rfl,trivial⟩
   refine cP.cons rfl ?_ ?_
   ·refine fl cK ?_;exact aG s4 [1,0] ⟨rfl,rfl,rfl,trivial⟩
   refine cP.cons rfl ?_ ?_
   ·refine aF rfl rfl rfl (bf rfl kE mF) trivial fun b6=>?_;exact aG (s64 b6) [2,1,0] ⟨rfl,rfl,rfl,trivial⟩
   exact trivial
  exact s0
 rintro⟨v4,b6⟩
 show JN _ _ [(1,Pt b1),(2,Pt b2),(3,Pt b6)] [.obj b1 25 (.rep av a0),.obj b2 25 (.agg (.pair (I 0) (.pair (.eq (.slice none 0 0)) (.eq (.slice none 0 0))))),.sl v4 3 (.int .i64) r3,.obj b6 25 (.agg (.pair (I a0.1) (.pair (.eq (.slice none 0 0)) (.eq v4))))]
 refine tn ?_
 refine aL (Z:=Value) (α:=(List eM)) (fun z8 x7=>[(2,Pt b2),(3,Pt b6)]) (fun z8 x7=>[.obj b2 25 (.agg (.pair (I 0) (.pair (.eq (.slice none 0 0)) (.eq (.slice none 0 0))))),.obj b6 25 (.agg (.pair (I a0.1) (.pair (.eq z8) (.eq v4)))),.sl z8 27 aZ x7,.sl v4 3 (.int .i64) r3]) h (fun K h=>?_) (fun z8 x7 h=>?_)
 ·
  refine sr (cq (nt (ao ?_)));refine dL (SE.nil 27 aZ) ?_;refine aJ (fun e y9=>[(1,Pt b1),(2,Pt b2),(3,Pt b6),(4,I y9.2)]) (fun e y9=>[.obj b1 25 (.rep av a0),.obj b2 25 (.agg (.pair (I 0) (.pair (.eq (.slice none 0 0)) (.eq (.slice none 0 0))))),.obj b6 25 (.agg (.pair (I a0.1) (.pair (.eq e) (.eq v4)))),.sl e 27 aZ y9.1,.sl v4 3 (.int .i64) r3]) (fU k a0) k (.slice none 0 0) (([]:(List eM)),0) (fun _=>rfl) h (SE.fin [1,2,4,0,3] ⟨rfl,rfl,rfl,rfl,trivial⟩ rfl) (fun n e y9 h=>?_);unfold fU at h;refine ae (sr (mq ?_));refine fl bV ?_;refine lo eU ?_;refine ol mG ?_;refine jb (bm rfl) ?_;refine nt (ci h (fun h=>?_) (fun h=>?_))
  ·refine sk (ae (ao (bJ ?_)));refine da (ar rfl bV) ?_;refine ea 2 (aj rfl eU jr rfl) ?_;refine da (ar rfl bV) ?_;refine ea 0 (aj rfl eU jr rfl) ?_;refine dm ?_;obtain⟨l,x,h⟩:=aa h;refine db (aC (t:=aZ) rfl mG kh x) ?_;refine da (aI 1 false rfl kQ rfl) ?_;refine da (ak (t:=(.int .i64)) rfl co rfl) ?_;refine da (ar rfl bV) ?_;refine ea 0 (aj rfl eU jr rfl) ?_;refine dm ?_;obtain⟨F,u,h⟩:=aa h;refine db (aC (t:=aZ) rfl mG kh u) ?_;refine da (aI 1 false rfl kz rfl) ?_;refine da (ak (t:=(.slice (.int .i64))) rfl bG rfl) ?_;obtain⟨j,D,h⟩:=aa h;refine da (sL (ap [.tmp 31] rfl rfl uu rfl (cu k F.2 j D))) ?_;refine db (cN [(0,.tmp 25,_),(1,.tmp 32,_)] rfl zQ ug ud (il ⟨rfl,rfl,trivial⟩) rfl) ?_;refine da (bi (t:=aZ) [(.tmp 33,_)] [(l.1,j)] rfl rfl ya (.cons trivial (.agg (.pair .int .rep)) .nil) rfl rfl) ?_;refine df cD ?_;obtain⟨O,y,h⟩:=aa h;refine fr 3 ?_;refine cF rfl rfl rfl (bz rfl rfl ya (ay y)) ⟨rfl,rfl,trivial⟩ fun M=>?_;refine fl bV ?_;refine ow fun o16=>?_;refine fr 3 ?_;refine bh rfl rfl (be rfl eU o16 rfl rfl) ⟨rfl,rfl,trivial⟩ ?_;refine au (aM (tn (ab (mq ?_))));obtain⟨E,s,h⟩:=aa h;refine jb (bb rfl s) ?_;refine aq (nl ?_);exact jz (M,(y9.1++[(l.1,j)],E)) h [2,3,0,1,4]
  ·refine xa ?_;exact jz (e,y9.1) h [1,2,3,4]
 ·
  refine sr (fr 1 ?_);refine lo dQ ?_;refine fr 1 ?_;refine bh rfl rfl (be rfl dQ trivial rfl rfl) ⟨rfl,rfl,trivial⟩ ?_;refine nt (aA (bC (SE.fin (Γ':=[(2,_)]) [2,3,0,1] ⟨rfl,trivial⟩ rfl) ?_));cases h;exact aO (z8,v4) [.agg (.pair (I a0.1) (.pair (.eq z8) (.eq v4)))] 2 ⟨⟨_,_,_,_,_,rfl,(.tail _ (.tail _ (.head _))),dQ,(uD),rfl⟩,trivial⟩ rfl
def jh(k:Nat)(a0:aQ):Nat→((List eM)×Int)→Option (List eM)
 |0,_=>none
 |n+1,y7=>
  if y7.2 < (a0.2.1.length:Int) then((aP a0.2.1 y7.2).bind fun x9=>
  (aP a0.2.1 y7.2).bind fun h=>
  (eh k h.2).bind fun c=>
  (dt (bH (List.length y7.1+List.length [(x9.1,c)]))).bind fun _=>
  (ck (y7.2+1)).bind fun e=>
  jh k a0 n (y7.1++[(x9.1,c)],e)) else(some y7.1)
def jB(k:Nat)(a0:aQ):Option aQ:=
 (eh k a0.2.2).bind fun r3=>
 ((jh k a0 k (([]:(List eM)),0)):Option ((List eM))).bind fun x5=>
 some (a0.1,x5,r3)
theorem tI(k:Nat)(a0:aQ)(r:aQ)(h:jB k a0=some r):
 cd Tryz.prog 16 [.rep av a0] [] (fun _:Unit=>(bv [.rep av r],[])):=by
 unfold jB at h
 replace h:=a9 h
 refine cd.of 38 Tryz.func16 rfl Tryz.ntmps16 rfl fun S w0=>?_
 refine sr ?_
 refine bx fun b1=>?_
 refine aF rfl rfl rfl (bf rfl kE mF) trivial fun b2=>?_
 refine nt ?_
 refine ae ?_
 refine jF ?_
 refine aH rfl rfl rfl (ar rfl fP) ⟨rfl,trivial⟩ ?_
 refine dr 1 rfl rfl rfl rfl (aj rfl co jr rfl) ⟨rfl,trivial⟩ ?_
 refine aH rfl rfl rfl (ar rfl cK) ⟨rfl,trivial⟩ ?_
 refine dr 1 rfl rfl rfl rfl (aj rfl bG jr rfl) ⟨rfl,trivial⟩ ?_
 obtain⟨r3,X,h⟩:=aa h
 have Y:=cu k a0.2.2 r3 X
 refine aH rfl rfl rfl (sL (ap [.tmp 8] rfl rfl uu rfl Y)) ⟨rfl,trivial⟩ ?_
 refine aH rfl rfl rfl (cN [(0,.tmp 6,_),(2,.tmp 9,_)] rfl Hh kE A2 (il ⟨rfl,rfl,trivial⟩) rfl) ⟨rfl,rfl,trivial⟩ ?_
 refine uJ (Ha 25 (.agg (.pair (I 0) (.pair (.eq (.slice none 0 0)) (.eq (.slice none 0 0)))))) (fun _=>rfl) rfl rfl rfl (bf rfl kE mF) trivial ?_
 refine mB 7 [true,true,true,true,true,true,true] [] [] [] rfl (by kernel_rfl) (by kernel_rfl) (by kernel_rfl) cD (fun vs hv hB=>?_)
 obtain⟨w0,UH,rfl,Q⟩:=an hv
 obtain⟨w1,UG,rfl,O⟩:=an Q
 obtain⟨w2,se,rfl,M⟩:=an O
 obtain⟨w3,qt,rfl,J⟩:=an M
 obtain⟨w4,pp,rfl,F⟩:=an J
 obtain⟨w5,mc,rfl,E⟩:=an F
 obtain⟨w6,ac,rfl,D⟩:=an E
 obtain rfl:=kw D
 obtain⟨b4,rfl⟩:=B0 hB.2.2.2.2.2.2.1
 refine⟨[0,1,2],[.obj b2 25 (.agg (.pair (I 0) (.pair (.eq (.slice none 0 0)) (.eq (.slice none 0 0))))),.obj b1 25 (.rep av a0),.obj b4 25 (.agg (.pair (I 0) (.pair (.eq (.slice none 0 0)) (.eq (.slice none 0 0)))))],by kernel_rfl,by decide,?_⟩
 refine i9 2 rfl ?_
 refine ov rfl rfl (be rfl dQ trivial rfl rfl) ⟨rfl,rfl,trivial⟩ (by kernel_rfl) ?_
 refine pJ ?_
 refine bC (SE.fin (Γ':=[(1,Pt b1),(2,Pt b2),(3,Pt b4)]) (Δ':=[.obj b4 25 (.agg (.pair (I a0.1) (.pair (.eq (.slice none 0 0)) (Ri r3)))),.obj b2 25 (.agg (.pair (I 0) (.pair (.eq (.slice none 0 0)) (.eq (.slice none 0 0))))),.obj b1 25 (.rep av a0)]) [0,1,2] ⟨rfl,rfl,rfl,trivial⟩ rfl) ?_
 refine tn ?_
 refine aL (Z:=Value) (α:=(List eM)) (fun z6 x5=>[(2,Pt b2),(3,Pt b4)]) (fun z6 x5=>[.obj b2 25 (.agg (.pair (I 0) (.pair (.eq (.slice none 0 0)) (.eq (.slice none 0 0))))),.obj b4 25 (.agg (.pair (I a0.1) (.pair (.eq z6) (Ri r3)))),.sl z6 27 aZ x5]) h (fun K h=>?_) (fun z6 x5 h=>?_)
 ·
  refine sr (cq (nt (ao ?_)));refine dL (SE.nil 27 aZ) ?_;refine aJ (fun z8 y7=>[(1,Pt b1),(2,Pt b2),(3,Pt b4),(4,I y7.2)]) (fun z8 y7=>[.obj b1 25 (.rep av a0),.obj b2 25 (.agg (.pair (I 0) (.pair (.eq (.slice none 0 0)) (.eq (.slice none 0 0))))),.obj b4 25 (.agg (.pair (I a0.1) (.pair (.eq z8) (Ri r3)))),.sl z8 27 aZ y7.1]) (jh k a0) k (.slice none 0 0) (([]:(List eM)),0) (fun _=>rfl) h (SE.fin [3,2,1,0] ⟨rfl,rfl,rfl,rfl,trivial⟩ rfl) (fun n z8 y7 h=>?_);unfold jh at h;refine ae (sr (mq ?_));refine fl bV ?_;refine lo eU ?_;refine ol mG ?_;refine jb (bm rfl) ?_;refine nt (ci h (fun h=>?_) (fun h=>?_))
  ·refine sk (ae (ao (bJ ?_)));refine da (ar rfl bV) ?_;refine ea 2 (aj rfl eU jr rfl) ?_;refine da (ar rfl bV) ?_;refine ea 0 (aj rfl eU jr rfl) ?_;refine dm ?_;obtain⟨x9,U,h⟩:=aa h;refine db (aC (t:=aZ) rfl mG kh U) ?_;refine da (aI 1 false rfl kQ rfl) ?_;refine da (ak (t:=(.int .i64)) rfl co rfl) ?_;refine da (ar rfl bV) ?_;refine ea 0 (aj rfl eU jr rfl) ?_;refine dm ?_;obtain⟨x,j,h⟩:=aa h;refine db (aC (t:=aZ) rfl mG kh j) ?_;refine da (aI 1 false rfl kz rfl) ?_;refine da (ak (t:=(.slice (.int .i64))) rfl bG rfl) ?_;obtain⟨c,s,h⟩:=aa h;refine da (sL (ap [.tmp 31] rfl rfl uu rfl (cu k x.2 c s))) ?_;refine db (cN [(0,.tmp 25,_),(1,.tmp 32,_)] rfl zQ ug ud (il ⟨rfl,rfl,trivial⟩) rfl) ?_;refine da (bi (t:=aZ) [(.tmp 33,_)] [(x9.1,c)] rfl rfl ya (.cons trivial (.agg (.pair .int .rep)) .nil) rfl rfl) ?_;refine df cD ?_;obtain⟨UI,l,h⟩:=aa h;refine fr 3 ?_;refine cF rfl rfl rfl (bz rfl rfl ya (ay l)) ⟨rfl,rfl,trivial⟩ fun y=>?_;refine fl bV ?_;refine ow fun o14=>?_;refine fr 3 ?_;refine bh rfl rfl (be rfl eU o14 rfl rfl) ⟨rfl,rfl,trivial⟩ ?_;refine au (aM (tn (ab (mq ?_))));obtain⟨u,e,h⟩:=aa h;refine jb (bb rfl e) ?_;refine aq (nl ?_);exact jz (y,(y7.1++[(x9.1,c)],u)) h [2,3,0,1]
  ·refine xa ?_;exact jz (z8,y7.1) h [1,2,3]
 ·
  refine sr (fr 1 ?_);refine fr 2 ?_;refine cC (kS (off:=1) [] trivial rfl rfl) ?_;refine lo dQ ?_;refine fr 1 ?_;refine bh rfl rfl (be rfl dQ trivial rfl rfl) ⟨rfl,rfl,trivial⟩ ?_;refine nt (aA (bC (ou (a:=.agg (.pair (I a0.1) (.pair (Rs aZ x5) (Ri r3)))) (a':=.rep av (a0.1,x5,r3)) (wl (.agg (.pair .int (.pair .rep .rep))))) ?_));cases h;exact aO () [.rep av (a0.1,x5,r3)] 0 ⟨⟨_,_,_,_,_,rfl,(.head _),dQ,(uD),rfl⟩,trivial⟩ rfl
def dC(k:Nat)(a0:(List (List Int))):Nat→((List (List Int))×Int)→Option (List (List Int))
 |0,_=>none
 |n+1,y3=>
  if y3.2 < (a0.length:Int) then((aP a0 y3.2).bind fun x5=>
  (eh k x5).bind fun r6=>
  (dt (bH (List.length y3.1+List.length [r6]))).bind fun _=>
  (ck (y3.2+1)).bind fun c=>
  dC k a0 n (y3.1++[r6],c)) else(some y3.1)
def fj(k:Nat)(a0:(List (List Int))):Option (List (List Int)):=
 ((dC k a0 k (([]:(List (List Int))),0)):Option ((List (List Int)))).bind fun x1=>
 some x1
theorem tJ(k:Nat)(a0:(List (List Int)))(r:(List (List Int)))(h:fj k a0=some r):
 cd Tryz.prog 17 [.rep (.slice (.slice (.int .i64))) a0] [] (fun z:Value=>(bv [.eq z],[.sl z 23 (.slice (.int .i64)) r])):=by
 unfold fj at h
 replace h:=a9 h
 refine cd.of 20 Tryz.func17 rfl Tryz.ntmps17 rfl fun S w0=>?_
 refine sr ?_
 refine cq ?_
 refine nt ?_
 refine sr ?_
 refine cq ?_
 refine nt ?_
 refine aL (Z:=Value) (α:=(List (List Int))) (fun z2 x1=>[(3,.eq z2)]) (fun z2 x1=>[.sl z2 23 (.slice (.int .i64)) x1]) h (fun K h=>?_) (fun z2 x1 h=>?_)
 ·
  refine sr (cq (nt (ao ?_)));refine dL (SE.nil 23 (.slice (.int .i64))) ?_;refine aJ (fun z4 y3=>[(0,.rep (.slice (.slice (.int .i64))) a0),(3,.eq z4),(4,I y3.2)]) (fun z4 y3=>[.sl z4 23 (.slice (.int .i64)) y3.1]) (dC k a0) k (.slice none 0 0) (([]:(List (List Int))),0) (fun _=>rfl) h (SE.fin [0] ⟨rfl,rfl,rfl,trivial⟩ rfl) (fun n z4 y3 h=>?_);unfold dC at h;refine ae (sr ?_);iterate 2 refine mq ?_
  refine ol lE ?_;refine jb (bm rfl) ?_;refine nt (ci h (fun h=>?_) (fun h=>?_))
  ·refine sk (ae (ao (ab ?_)));iterate 3 refine mq ?_
   obtain⟨x5,j,h⟩:=aa h;refine jb (aC (t:=(.slice (.int .i64))) rfl lE bG j) ?_;refine ja (ak (t:=(.slice (.int .i64))) rfl bG rfl) ?_;obtain⟨r6,s,h⟩:=aa h;refine aF rfl rfl rfl (ap [.tmp 15] rfl rfl uu rfl (cu k x5 r6 s)) ⟨rfl,trivial⟩ fun v7=>?_;refine cC (eD [16] ⟨rfl,trivial⟩) ?_;refine ja (bi (t:=(.slice (.int .i64))) [(.tmp 16,_)] [r6] rfl rfl m7 (.cons rfl .rep .nil) rfl rfl) ?_;obtain⟨u8,l,h⟩:=aa h;refine cF rfl rfl rfl (bz rfl rfl m7 (ay l)) ⟨rfl,rfl,trivial⟩ fun v9=>?_;refine aq (au (aM (tn (ab ?_))));refine mq ?_;obtain⟨e,c,h⟩:=aa h;refine jb (bb rfl c) ?_;refine aq (nl ?_);exact jz (v9,(y3.1++[r6],e)) h [0]
  ·refine xa ?_;exact jz (z4,y3.1) h [0]
 ·
  refine sr (mq ?_);refine aq (nt (aA ?_));cases h;exact aO z2 [.eq z2] 1 ⟨rfl,trivial⟩ rfl
def jA(k:Nat)(a0:bR):Option (Int×bR):=
 ((if a0.2.1 < (a0.1.length:Int) then((aP a0.1 a0.2.1).bind fun x3=>
 some (IntKind.u64.wrap ((IntKind.u64.wrap ((IntKind.u64.wrap (a0.2.2 * 6364136223846793005))+1442695040888963407))+(IntKind.u64.wrap ((IntKind.u64.wrap x3) * 2862933555777941757))))) else(some (IntKind.u64.wrap ((IntKind.u64.wrap (a0.2.2 * 6364136223846793005))+1442695040888963407)))):Option (Int)).bind fun x1=>
 (ck (a0.2.1+1)).bind fun x4=>
 some (iG .u64 (q9 .u64 (IntKind.u64.wrap ((q9 .u64 x1 (iG .u64 x1 29)) * 2685821657736338717)) (iG .u64 (IntKind.u64.wrap ((q9 .u64 x1 (iG .u64 x1 29)) * 2685821657736338717)) 32)) 8,(a0.1,x4,x1))
theorem tH(k:Nat)(a0:bR)(c:Nat)(r:Int×bR)(h:jA k a0=some r):
 cd Tryz.prog 52 [Pt c] [.obj c 75 (.agg (.pair (Ri a0.1) (.pair (I a0.2.1) (.eq (.int .u64 a0.2.2)))))] (fun _:Unit=>(bv [.eq (.int .u64 r.1)],[.obj c 75 (.agg (.pair (Ri r.2.1) (.pair (I r.2.2.1) (.eq (.int .u64 r.2.2.2)))))])):=by
 unfold jA at h
 replace h:=a9 h
 refine cd.of 67 Tryz.func52 rfl Tryz.ntmps52 rfl fun S w0=>?_
 refine sr ?_
 refine cq ?_
 refine nt ?_
 refine sr ?_
 iterate 2 refine mq ?_
 refine ja (ba rfl) ?_
 refine fl tL ?_
 refine lo EO ?_
 refine jb (Cj rfl) ?_
 refine jb (CC rfl) ?_
 refine ja (ba rfl) ?_
 refine fl tL ?_
 refine bh rfl rfl (be rfl EO rfl rfl rfl) ⟨rfl,rfl,trivial⟩ ?_
 refine nt ?_
 refine aL (Z:=Unit) (α:=Int) (fun z2 x1=>[(0,Pt c)]) (fun z2 x1=>[.obj c 75 (.agg (.pair (Ri a0.1) (.pair (I a0.2.1) (.eq (.int .u64 x1)))))]) h (fun K h=>?_) (fun z2 x1 h=>?_)
 ·
  refine ae (bJ ?_);refine dm ?_;refine da (ba rfl) ?_;refine da (ar rfl yK) ?_;refine ea 0 (aj rfl co jr rfl) ?_;refine dm ?_;refine da (ba rfl) ?_;refine da (ar rfl II) ?_;refine ea 0 (aj rfl bG jr rfl) ?_;refine da (jm rfl rfl dE) ?_;refine df cD ?_;refine jb (bm rfl) ?_;refine nt (ci h (fun h=>?_) (fun h=>?_))
  ·refine bJ ?_;refine dm ?_;refine dm ?_;refine da (ba rfl) ?_;refine da (ar rfl tL) ?_;refine ea 0 (aj rfl EO jr rfl) ?_;refine dm ?_;refine da (ba rfl) ?_;refine da (ar rfl II) ?_;refine ea 0 (aj rfl bG jr rfl) ?_;refine dm ?_;refine da (ba rfl) ?_;refine da (ar rfl yK) ?_;refine ea 0 (aj rfl co jr rfl) ?_;obtain⟨x3,j,h⟩:=aa h;refine db (aC (t:=(.int .i64)) rfl dE co j) ?_;refine da (ak (t:=(.int .i64)) rfl co rfl) ?_;refine da (pe rfl U3 RO) ?_;refine db (Cj rfl) ?_;refine db (CC rfl) ?_;refine df cD ?_;refine ja (ba rfl) ?_;refine fl tL ?_;refine bh rfl rfl (be rfl EO rfl rfl rfl) ⟨rfl,rfl,trivial⟩ ?_;refine nl ?_;exact jz ((),IntKind.u64.wrap ((IntKind.u64.wrap ((IntKind.u64.wrap (a0.2.2 * 6364136223846793005))+1442695040888963407))+(IntKind.u64.wrap ((IntKind.u64.wrap x3) * 2862933555777941757)))) h [0]
  ·refine aW (ag ?_);exact jz ((),IntKind.u64.wrap ((IntKind.u64.wrap (a0.2.2 * 6364136223846793005))+1442695040888963407)) h [0]
 ·
  refine sr (mq ?_);refine ja (ba rfl) ?_;refine fl yK ?_;refine lo co ?_;obtain⟨x4,e,h⟩:=aa h;refine jb (bb rfl e) ?_;refine ja (ba rfl) ?_;refine fl yK ?_;refine bh rfl rfl (be rfl co rfl rfl rfl) ⟨rfl,rfl,trivial⟩ ?_;refine nt (ae (bJ ?_));refine dm ?_;refine da (ba rfl) ?_;refine da (ar rfl tL) ?_;refine ea 0 (aj rfl EO jr rfl) ?_;refine dm ?_;refine da (ba rfl) ?_;refine da (ar rfl tL) ?_;refine ea 0 (aj rfl EO jr rfl) ?_;refine dx rfl rfl rfl (vt rfl (by decide)) ⟨rfl,rfl,trivial⟩ ?_;refine df cD ?_;refine jb (MH rfl) ?_;refine aq (nt (sr ?_));refine mq ?_;refine jb (Cj rfl) ?_;refine aq (nt (sr ?_));iterate 2 refine mq ?_
  refine aE rfl (vt rfl (by decide)) ⟨rfl,rfl,trivial⟩ ?_;refine jb (MH rfl) ?_;refine aE rfl (vt rfl (by decide)) ⟨rfl,rfl,trivial⟩ ?_;refine aq (nt (aA ?_));cases h;exact aO () [_] 1 ⟨rfl,trivial⟩ rfl
def bW(k:Nat)(a0:bR)(a1:Int):Option (Int×bR):=
 if a1 < 1 then(some (0,(a0.1,a0.2.1,a0.2.2))) else((jA k (a0.1,a0.2.1,a0.2.2)).bind fun r1=>
 (ck (a1+1)).bind fun x2=>
 (dt ((IntKind.u64.wrap x2)≠0)).bind fun _=>
 (ck (Int.tmod r1.1 (IntKind.u64.wrap x2))).bind fun x4=>
 some (x4,(r1.2.1,r1.2.2.1,r1.2.2.2)))
theorem c9(k:Nat)(a0:bR)(c:Nat)(a1:Int)(r:Int×bR)(h:bW k a0 a1=some r):
 cd Tryz.prog 15 [Pt c,I a1] [.obj c 75 (.agg (.pair (Ri a0.1) (.pair (I a0.2.1) (.eq (.int .u64 a0.2.2)))))] (fun _:Unit=>(bv [I r.1],[.obj c 75 (.agg (.pair (Ri r.2.1) (.pair (I r.2.2.1) (.eq (.int .u64 r.2.2.2)))))])):=by
 unfold bW at h
 replace h:=a9 h
 refine cd.of 14 Tryz.func15 rfl Tryz.ntmps15 rfl fun S w0=>?_
 refine sr ?_
 refine cq ?_
 refine nt ?_
 refine ae ?_
 refine sr ?_
 refine mq ?_
 refine jb (bm rfl) ?_
 refine nt ?_
 refine ci h (fun h=>?_) (fun h=>?_)
 ·
  refine sr (cq (nt (rx ?_)));cases h;exact aO () [_] 1 ⟨rfl,trivial⟩ rfl
 ·
  refine sk (sr (mq ?_));obtain⟨r1,n,h⟩:=aa h;refine ka (ap [.tmp 7] rfl rfl TD rfl (tH k (a0.1,a0.2.1,a0.2.2) c r1 n)) ?_;refine mq ?_;obtain⟨x2,j,h⟩:=aa h;refine jb (bb rfl j) ?_;refine ja (pe rfl U3 RO) ?_;obtain⟨u3,l,h⟩:=aa h;refine jb (Ht rfl (ay l)) ?_;obtain⟨x4,e,h⟩:=aa h;refine ja (zY rfl RO U3 e) ?_;refine aq (nt (aA ?_));cases h;exact aO () [_] 1 ⟨rfl,trivial⟩ rfl
def fi(k:Nat)(a0:bR)(a1:Int)(a2:Int):Option (Int×bR):=
 (ck (a2 - a1)).bind fun x1=>
 (bW k (a0.1,a0.2.1,a0.2.2) x1).bind fun r2=>
 (ck (a1+r2.1)).bind fun x3=>
 some (x3,(r2.2.1,r2.2.2.1,r2.2.2.2))
theorem mn(k:Nat)(a0:bR)(c:Nat)(a1:Int)(a2:Int)(r:Int×bR)(h:fi k a0 a1 a2=some r):
 cd Tryz.prog 94 [Pt c,I a1,I a2] [.obj c 75 (.agg (.pair (Ri a0.1) (.pair (I a0.2.1) (.eq (.int .u64 a0.2.2)))))] (fun _:Unit=>(bv [I r.1],[.obj c 75 (.agg (.pair (Ri r.2.1) (.pair (I r.2.2.1) (.eq (.int .u64 r.2.2.2)))))])):=by
 unfold fi at h
 replace h:=a9 h
 refine cd.of 14 Tryz.func94 rfl Tryz.ntmps94 rfl fun S w0=>?_
 refine sr ?_
 refine cq ?_
 refine nt ?_
 refine sr ?_
 iterate 4 refine mq ?_
 obtain⟨x1,j,h⟩:=aa h
 refine jb (fK rfl j) ?_
 obtain⟨r2,l,h⟩:=aa h
 have n:=c9 k (a0.1,a0.2.1,a0.2.2) c x1 r2 l
 refine kb (ap [.tmp 8,.tmp 11] rfl rfl yN rfl n) ?_
 obtain⟨x3,e,h⟩:=aa h
 refine jb (bb rfl e) ?_
 refine aq ?_
 refine nt ?_
 refine aA ?_
 cases h
 exact aO () [_] 1 ⟨rfl,trivial⟩ rfl
def jY(k:Nat)(a0:bR)(a1:(List Int)):Option (Int×bR):=
 (ck ((a1.length:Int) - 1)).bind fun x1=>
 (bW k (a0.1,a0.2.1,a0.2.2) x1).bind fun r2=>
 (aP a1 r2.1).bind fun x3=>
 some (x3,(r2.2.1,r2.2.2.1,r2.2.2.2))
theorem pq(k:Nat)(a0:bR)(c:Nat)(a1:(List Int))(r:Int×bR)(h:jY k a0 a1=some r):
 cd Tryz.prog 95 [Pt c,Ri a1] [.obj c 75 (.agg (.pair (Ri a0.1) (.pair (I a0.2.1) (.eq (.int .u64 a0.2.2)))))] (fun _:Unit=>(bv [I r.1],[.obj c 75 (.agg (.pair (Ri r.2.1) (.pair (I r.2.2.1) (.eq (.int .u64 r.2.2.2)))))])):=by
 unfold jY at h
 replace h:=a9 h
 refine cd.of 13 Tryz.func95 rfl Tryz.ntmps95 rfl fun S w0=>?_
 refine sr ?_
 refine cq ?_
 refine nt ?_
 refine sr ?_
 iterate 3 refine mq ?_
 refine ol dE ?_
 obtain⟨x1,j,h⟩:=aa h
 refine jb (fK rfl j) ?_
 obtain⟨r2,l,h⟩:=aa h
 have n:=c9 k (a0.1,a0.2.1,a0.2.2) c x1 r2 l
 refine kb (ap [.tmp 6,.tmp 9] rfl rfl yN rfl n) ?_
 obtain⟨x3,e,h⟩:=aa h
 refine jb (aC (t:=(.int .i64)) rfl dE co e) ?_
 refine ja (ak (t:=(.int .i64)) rfl co rfl) ?_
 refine aq ?_
 refine nt ?_
 refine aA ?_
 cases h
 exact aO () [_] 1 ⟨rfl,trivial⟩ rfl
def gq(k:Nat)(a0:bR)(a1:Int):Option (Bool×bR):=
 (ck (a1 - 1)).bind fun x1=>
 (bW k (a0.1,a0.2.1,a0.2.2) x1).bind fun r2=>
 some (decide (r2.1=0),(r2.2.1,r2.2.2.1,r2.2.2.2))
theorem nI(k:Nat)(a0:bR)(c:Nat)(a1:Int)(r:Bool×bR)(h:gq k a0 a1=some r):
 cd Tryz.prog 96 [Pt c,I a1] [.obj c 75 (.agg (.pair (Ri a0.1) (.pair (I a0.2.1) (.eq (.int .u64 a0.2.2)))))] (fun _:Unit=>(bv [.eq (.bool r.1)],[.obj c 75 (.agg (.pair (Ri r.2.1) (.pair (I r.2.2.1) (.eq (.int .u64 r.2.2.2)))))])):=by
 unfold gq at h
 replace h:=a9 h
 refine cd.of 10 Tryz.func96 rfl Tryz.ntmps96 rfl fun S w0=>?_
 refine sr ?_
 refine cq ?_
 refine nt ?_
 refine sr ?_
 iterate 2 refine mq ?_
 obtain⟨x1,e,h⟩:=aa h
 refine jb (fK rfl e) ?_
 obtain⟨r2,j,h⟩:=aa h
 have l:=c9 k (a0.1,a0.2.1,a0.2.2) c x1 r2 j
 refine kb (ap [.tmp 5,.tmp 7] rfl rfl yN rfl l) ?_
 refine jb (fL rfl) ?_
 refine aq ?_
 refine nt ?_
 refine aA ?_
 cases h
 exact aO () [_] 1 ⟨rfl,trivial⟩ rfl
def ff(k:Nat)(r2:Int×bR):Nat→((List Int)×Int×Int×(List Int)×Int)→Option ((List Int)×Int×Int×(List Int))
 |0,_=>none
 |n+1,c=>
  if c.2.2.2.2 < r2.1 then((((gq k (c.1,c.2.1,c.2.2.1) 2).bind fun e=>
  if e.1=true then((dt (bH (List.length c.2.2.2.1+List.length [c.2.2.2.2]))).bind fun _=>
  some (e.2.1,e.2.2.1,e.2.2.2,c.2.2.2.1++[c.2.2.2.2])) else(some (e.2.1,e.2.2.1,e.2.2.2,c.2.2.2.1))):Option ((List Int)×Int×Int×(List Int))).bind fun h=>
  (ck (c.2.2.2.2+1)).bind fun j=>
  ff k r2 n (h.1,h.2.1,h.2.2.1,h.2.2.2,j)) else(some (c.1,c.2.1,c.2.2.1,c.2.2.2.1))
def fg(k:Nat)(r2:Int×bR):Nat→((List Int)×Int×Int×(List eM)×Int×Int)→Option ((List Int)×Int×Int×(List eM)×Int)
 |0,_=>none
 |n+1,y7=>
  if 0 < y7.2.2.2.2.2 then((((jY k (y7.1,y7.2.1,y7.2.2.1) [1,1,1,2,3]).bind fun c=>
  ((ff k r2 k (c.2.1,c.2.2.1,c.2.2.2,([]:(List Int)),0)):Option ((List Int)×Int×Int×(List Int))).bind fun e=>
  (dt (bH (List.length y7.2.2.2.1+List.length [(c.1,e.2.2.2)]))).bind fun _=>
  (ck (y7.2.2.2.2.1+c.1)).bind fun j=>
  some (e.1,e.2.1,e.2.2.1,y7.2.2.2.1++[(c.1,e.2.2.2)],j)):Option ((List Int)×Int×Int×(List eM)×Int)).bind fun x9=>
  (ck (y7.2.2.2.2.2 - 1)).bind fun h=>
  fg k r2 n (x9.1,x9.2.1,x9.2.2.1,x9.2.2.2.1,x9.2.2.2.2,h)) else(some (y7.1,y7.2.1,y7.2.2.1,y7.2.2.2.1,y7.2.2.2.2.1))
def fe(k:Nat)(x4:(List Int)×Int×Int×(List eM)×Int):Nat→((List Int)×Int×Int×(List Int)×Int)→Option ((List Int)×Int×Int×(List Int))
 |0,_=>none
 |n+1,c=>
  if 0 < c.2.2.2.2 then((ck (x4.2.2.2.2+1)).bind fun j=>
  (jY k (c.1,c.2.1,c.2.2.1) [1,2,3,ky 9 x4.2.2.2.2,ky 9 j]).bind fun e=>
  (dt (bH (List.length c.2.2.2.1+List.length [e.1]))).bind fun _=>
  (ck (c.2.2.2.2 - 1)).bind fun h=>
  fe k x4 n (e.2.1,e.2.2.1,e.2.2.2,c.2.2.2.1++[e.1],h)) else(some (c.1,c.2.1,c.2.2.1,c.2.2.2.1))
def kM(k:Nat)(a0:bR)(a1:Int)(a2:Int):Option (aQ×bR):=
 (fi k (a0.1,a0.2.1,a0.2.2) 1 4).bind fun r2=>
 (((fi k (r2.2.1,r2.2.2.1,r2.2.2.2) 0 a1).bind fun r6=>
 fg k r2 k (r6.2.1,r6.2.2.1,r6.2.2.2,([]:(List eM)),0,r6.1)):Option ((List Int)×Int×Int×(List eM)×Int)).bind fun x4=>
 (((fi k (x4.1,x4.2.1,x4.2.2.1) 1 a2).bind fun j=>
 fe k x4 k (j.2.1,j.2.2.1,j.2.2.2,([]:(List Int)),j.1)):Option ((List Int)×Int×Int×(List Int))).bind fun e=>
 (((gq k (e.1,e.2.1,e.2.2.1) 2).bind fun c=>
 if c.1=true then((aP e.2.2.2 0).bind fun l=>
 some (List.set e.2.2.2 (Int.toNat 0) (ky 9 x4.2.2.2.2),c.2.1,c.2.2.1,c.2.2.2)) else(some (e.2.2.2,c.2.1,c.2.2.1,c.2.2.2))):Option ((List Int)×(List Int)×Int×Int)).bind fun h=>
 some ((r2.1,x4.2.2.2.1,h.1),(h.2.1,h.2.2.1,h.2.2.2))
theorem wJ(k:Nat)(a0:bR)(c:Nat)(a1:Int)(a2:Int)(r:aQ×bR)(h:kM k a0 a1 a2=some r):
 cd Tryz.prog 49 [Pt c,I a1,I a2] [.obj c 75 (.agg (.pair (Ri a0.1) (.pair (I a0.2.1) (.eq (.int .u64 a0.2.2)))))] (fun _:Unit=>(bv [.rep av r.1],[.obj c 75 (.agg (.pair (Ri r.2.1) (.pair (I r.2.2.1) (.eq (.int .u64 r.2.2.2)))))])):=by
 unfold kM at h
 replace h:=a9 h
 refine cd.of 79 Tryz.func49 rfl Tryz.ntmps49 rfl fun S w0=>?_
 refine sr ?_
 refine aF rfl rfl rfl (bf rfl kE mF) trivial fun b1=>?_
 refine nt ?_
 refine sr ?_
 refine mq ?_
 obtain⟨r2,Ve,h⟩:=aa h
 have Vf:=mn k (a0.1,a0.2.1,a0.2.2) c 1 4 r2 Ve
 refine fr 1 ?_
 refine kc (ap [.tmp 13,.const (.int .i64 (1)),.const (.int .i64 (4))] rfl rfl Oa rfl Vf) ?_
 refine ja (cN [(0,.tmp 14,_)] rfl Hh kE A2 (il ⟨rfl,trivial⟩) rfl) ?_
 refine aF rfl rfl rfl (bf rfl kE mF) trivial fun b3=>?_
 refine bh rfl rfl (be rfl dQ trivial rfl rfl) ⟨rfl,rfl,trivial⟩ ?_
 refine nt ?_
 refine sr ?_
 refine cq ?_
 refine nt ?_
 refine aL (Z:=Value) (α:=(List Int)×Int×Int×(List eM)×Int) (fun z5 x4=>[(0,Pt c),(2,I a2),(6,Pt b1),(7,Pt b3),(8,I x4.2.2.2.2)]) (fun z5 x4=>[.obj c 75 (.agg (.pair (Ri x4.1) (.pair (I x4.2.1) (.eq (.int .u64 x4.2.2.1))))),.obj b1 25 (.agg (.pair (I 0) (.pair (.eq (.slice none 0 0)) (.eq (.slice none 0 0))))),.obj b3 25 (.agg (.pair (I r2.1) (.pair (.eq z5) (.eq (.slice none 0 0))))),.sl z5 27 aZ x4.2.2.2.1]) h (fun K h=>?_) (fun z5 x4 h=>?_)
 ·
  refine sr ?_;iterate 2 refine mq ?_
  obtain⟨r6,Vd,h⟩:=aa h;refine fr 1 ?_;refine kc (ap [.tmp 16,.const (.int .i64 (0)),.tmp 17] rfl rfl Oa rfl (mn k (r2.2.1,r2.2.2.1,r2.2.2.2) c 0 a1 r6 Vd)) ?_;refine aq (nt (ao ?_));refine dL (SE.nil 27 aZ) ?_;refine aJ (fun z8 y7=>[(0,Pt c),(2,I a2),(6,Pt b1),(7,Pt b3),(8,I y7.2.2.2.2.1),(9,I y7.2.2.2.2.2)]) (fun z8 y7=>[.obj c 75 (.agg (.pair (Ri y7.1) (.pair (I y7.2.1) (.eq (.int .u64 y7.2.2.1))))),.obj b1 25 (.agg (.pair (I 0) (.pair (.eq (.slice none 0 0)) (.eq (.slice none 0 0))))),.obj b3 25 (.agg (.pair (I r2.1) (.pair (.eq z8) (.eq (.slice none 0 0))))),.sl z8 27 aZ y7.2.2.2.1]) (fg k r2) k (.slice none 0 0) (r6.2.1,r6.2.2.1,r6.2.2.2,([]:(List eM)),0,r6.1) (fun _=>rfl) h (SE.fin [1,3,2,0] ⟨rfl,rfl,rfl,rfl,rfl,rfl,trivial⟩ rfl) (fun n z8 y7 h=>?_);unfold fg at h;refine ae (sr (mq ?_));refine jb (iz rfl) ?_;refine nt (ci h (fun h=>?_) (fun h=>?_))
  ·refine sk (aL (Z:=Value) (α:=(List Int)×Int×Int×(List eM)×Int) (fun X x9=>[(0,Pt c),(2,I a2),(6,Pt b1),(7,Pt b3),(8,I x9.2.2.2.2),(9,I y7.2.2.2.2.2)]) (fun X x9=>[.obj c 75 (.agg (.pair (Ri x9.1) (.pair (I x9.2.1) (.eq (.int .u64 x9.2.2.1))))),.obj b1 25 (.agg (.pair (I 0) (.pair (.eq (.slice none 0 0)) (.eq (.slice none 0 0))))),.obj b3 25 (.agg (.pair (I r2.1) (.pair (.eq X) (.eq (.slice none 0 0))))),.sl X 27 aZ x9.2.2.2.1]) h (fun K h=>?_) (fun X x9 h=>?_))
   ·refine ao (sr (mq ?_));refine aE rfl (bi (t:=(.int .i64)) [(.const (.int .i64 (1)),_),(.const (.int .i64 (1)),_),(.const (.int .i64 (1)),_),(.const (.int .i64 (2)),_),(.const (.int .i64 (3)),_)] [1,1,1,2,3] rfl rfl dw (.cons rfl .int (.cons rfl .int (.cons rfl .int (.cons rfl .int (.cons rfl .int .nil))))) rfl rfl) ⟨rfl,rfl,rfl,rfl,rfl,trivial⟩ ?_;obtain⟨s,UT,h⟩:=aa h;refine kb (ap [.tmp 23,.tmp 24] rfl rfl Qz rfl (pq k (y7.1,y7.2.1,y7.2.2.1) c [1,1,1,2,3] s UT)) ?_;refine ja (cN [(0,.tmp 25,_)] rfl zQ ug ud (il ⟨rfl,trivial⟩) rfl) ?_;refine aF rfl rfl rfl (bf rfl ug LK) trivial fun M=>?_;refine bh rfl rfl (be rfl kh trivial rfl rfl) ⟨rfl,rfl,trivial⟩ ?_;refine nt (aL (Z:=Value) (α:=(List Int)×Int×Int×(List Int)) (fun ac j=>[(0,Pt c),(2,I a2),(6,Pt b1),(7,Pt b3),(8,I y7.2.2.2.2.1),(9,I y7.2.2.2.2.2),(10,Pt M)]) (fun ac j=>[.obj c 75 (.agg (.pair (Ri j.1) (.pair (I j.2.1) (.eq (.int .u64 j.2.2.1))))),.obj b1 25 (.agg (.pair (I 0) (.pair (.eq (.slice none 0 0)) (.eq (.slice none 0 0))))),.obj b3 25 (.agg (.pair (I r2.1) (.pair (.eq z8) (.eq (.slice none 0 0))))),.sl z8 27 aZ y7.2.2.2.1,.obj M 27 (.agg (.pair (I s.1) (.eq ac))),.sl ac 3 (.int .i64) j.2.2.2]) h (fun K h=>?_) (fun ac j h=>?_))
    ·refine sr (cq (nt (ao ?_)));refine dL (SE.nil 3 (.int .i64)) ?_;refine aJ (fun Q e=>[(0,Pt c),(2,I a2),(6,Pt b1),(7,Pt b3),(8,I y7.2.2.2.2.1),(9,I y7.2.2.2.2.2),(10,Pt M),(11,I e.2.2.2.2)]) (fun Q e=>[.obj c 75 (.agg (.pair (Ri e.1) (.pair (I e.2.1) (.eq (.int .u64 e.2.2.1))))),.obj b1 25 (.agg (.pair (I 0) (.pair (.eq (.slice none 0 0)) (.eq (.slice none 0 0))))),.obj b3 25 (.agg (.pair (I r2.1) (.pair (.eq z8) (.eq (.slice none 0 0))))),.sl z8 27 aZ y7.2.2.2.1,.obj M 27 (.agg (.pair (I s.1) (.eq Q))),.sl Q 3 (.int .i64) e.2.2.2.1]) (ff k r2) k (.slice none 0 0) (s.2.1,s.2.2.1,s.2.2.2,([]:(List Int)),0) (fun _=>rfl) h (SE.fin [2,3,4,5,1,0] ⟨rfl,rfl,rfl,rfl,rfl,rfl,rfl,rfl,trivial⟩ rfl) (fun n Q e h=>?_);unfold ff at h;refine ae (sr (mq ?_));refine fl fP ?_;refine fr 2 ?_;refine lo co ?_;refine jb (bm rfl) ?_;refine nt (ci h (fun h=>?_) (fun h=>?_))
     ·refine sk (aL (Z:=Value) (α:=(List Int)×Int×Int×(List Int)) (fun U x=>[(0,Pt c),(2,I a2),(6,Pt b1),(7,Pt b3),(8,I y7.2.2.2.2.1),(9,I y7.2.2.2.2.2),(10,Pt M),(11,I e.2.2.2.2)]) (fun U x=>[.obj c 75 (.agg (.pair (Ri x.1) (.pair (I x.2.1) (.eq (.int .u64 x.2.2.1))))),.obj b1 25 (.agg (.pair (I 0) (.pair (.eq (.slice none 0 0)) (.eq (.slice none 0 0))))),.obj b3 25 (.agg (.pair (I r2.1) (.pair (.eq z8) (.eq (.slice none 0 0))))),.sl z8 27 aZ y7.2.2.2.1,.obj M 27 (.agg (.pair (I s.1) (.eq U))),.sl U 3 (.int .i64) x.2.2.2]) h (fun K h=>?_) (fun U x h=>?_))
      ·refine ao (sr (mq ?_));obtain⟨J,US,h⟩:=aa h;refine fr 1 ?_;refine kb (ap [.tmp 33,.const (.int .i64 (2))] rfl rfl Qy rfl (nI k (e.1,e.2.1,e.2.2.1) c 2 J US)) ?_;refine nt (cv h (fun h=>?_) (fun h=>?_))
       ·refine ab (fl kz ?_);refine fr 4 ?_;refine lo bG ?_;refine mq ?_;refine ja (bi (t:=(.int .i64)) [(.tmp 37,_)] [e.2.2.2.2] rfl rfl dw (.cons rfl .int .nil) rfl rfl) ?_;obtain⟨Vt,UO,h⟩:=aa h;refine fr 5 ?_;refine cF rfl rfl rfl (bz rfl rfl dw (ay UO)) ⟨rfl,rfl,trivial⟩ fun UZ=>?_;refine fl kz ?_;refine ow fun o22=>?_;refine fr 1 ?_;refine bh rfl rfl (be rfl bG o22 rfl rfl) ⟨rfl,rfl,trivial⟩ ?_;refine au (bn ?_);exact jz (UZ,(J.2.1,J.2.2.1,J.2.2.2,e.2.2.2.1++[e.2.2.2.2])) h [2,4,3,5,0,1]
       ·refine aW (bn ?_);exact jz (Q,(J.2.1,J.2.2.1,J.2.2.2,e.2.2.2.1)) h [0,2,1,3,4,5]
      ·refine ab (mq ?_);obtain⟨UX,UL,h⟩:=aa h;refine jb (bb rfl UL) ?_;refine aq (nl ?_);exact jz (U,(x.1,x.2.1,x.2.2.1,x.2.2.2,UX)) h [0,1,2,3,4,5]
     ·refine xa ?_;exact jz (Q,(e.1,e.2.1,e.2.2.1,e.2.2.2.1)) h [1,2,0,3,4,5]
    ·refine jE 4 rfl ?_;refine jE 5 rfl ?_;refine dL (kS (off:=1) [] trivial rfl rfl) ?_;refine jF ?_;refine aH rfl rfl rfl (ar rfl bV) ⟨rfl,trivial⟩ ?_;refine dr 3 rfl rfl rfl rfl (aj rfl eU jr rfl) ⟨rfl,trivial⟩ ?_;refine dr 0 rfl rfl rfl rfl (aj rfl kh (uD) rfl) ⟨rfl,trivial⟩ ?_;refine aH rfl rfl rfl (bi (t:=aZ) [(.tmp 43,_)] [(s.1,j.2.2.2)] rfl rfl ya (.cons trivial (.agg (.pair .int .rep)) .nil) rfl rfl) ⟨rfl,trivial⟩ ?_;obtain⟨Vs,UN,h⟩:=aa h;refine sO 4 rfl (fun v=>[.sl v 27 aZ (y7.2.2.2.1++[(s.1,j.2.2.2)])]) (fun _=>rfl) rfl rfl rfl (bz rfl rfl ya (ay UN)) ⟨rfl,rfl,trivial⟩ ?_;refine aH rfl rfl rfl (aK rfl) ⟨rfl,trivial⟩ ?_;refine aH rfl rfl rfl (ar rfl kQ) ⟨rfl,trivial⟩ ?_;refine dr 0 rfl rfl rfl rfl (aj rfl co jr rfl) ⟨rfl,trivial⟩ ?_;obtain⟨UW,UK,h⟩:=aa h;refine aH rfl rfl rfl (bb rfl UK) ⟨rfl,rfl,trivial⟩ ?_;refine aH rfl rfl rfl (ar rfl bV) ⟨rfl,trivial⟩ ?_;refine mB 10 [true,true,true,true,true,false,false,false,false,true] [] [0] [.obj M 27 (.agg (.pair (I s.1) (Ri j.2.2.2)))] rfl (by kernel_rfl) (by kernel_rfl) (by kernel_rfl) cD (fun vs hv hB=>?_);obtain⟨w0,Vq,rfl,Vb⟩:=an hv;obtain⟨w1,Vp,rfl,Va⟩:=an Vb;obtain⟨w2,Vo,rfl,U8⟩:=an Va;obtain⟨w3,Vn,rfl,U7⟩:=an U8;obtain⟨se,Vm,rfl,U6⟩:=an U7;obtain⟨w5,Vl,rfl,U4⟩:=an U6;obtain⟨w6,Vk,rfl,U2⟩:=an U4;obtain⟨w7,Vj,rfl,U1⟩:=an U2;obtain⟨w8,Vi,rfl,U0⟩:=an U1;obtain⟨w9,Vg,rfl,UG⟩:=an U0;obtain rfl:=kw UG;refine⟨[0,1,2,3,4],[.obj c 75 (.agg (.pair (Ri j.1) (.pair (I j.2.1) (.eq (.int .u64 j.2.2.1))))),.obj b1 25 (.agg (.pair (I 0) (.pair (.eq (.slice none 0 0)) (.eq (.slice none 0 0))))),.obj b3 25 (.agg (.pair (I r2.1) (.pair (.eq z8) (.eq (.slice none 0 0))))),.sl se 27 aZ (y7.2.2.2.1++[(s.1,j.2.2.2)])],by kernel_rfl,by decide,?_⟩;refine i9 3 rfl ?_;refine Dm fun o27=>?_;refine i9 3 rfl ?_;refine ov rfl rfl (be rfl eU o27 rfl rfl) ⟨rfl,rfl,trivial⟩ (by kernel_rfl) ?_;refine Do (by kernel_rfl) ?_;refine aq (au (bn ?_));exact jz (se,(j.1,j.2.1,j.2.2.1,y7.2.2.2.1++[(s.1,j.2.2.2)],UW)) h [3,4,1,2]
   ·refine ab (mq ?_);obtain⟨UV,UJ,h⟩:=aa h;refine jb (fK rfl UJ) ?_;refine aq (nl ?_);exact jz (X,(x9.1,x9.2.1,x9.2.2.1,x9.2.2.2.1,x9.2.2.2.2,UV)) h [0,1,2,3]
  ·refine xa ?_;exact jz (z8,(y7.1,y7.2.1,y7.2.2.1,y7.2.2.2.1,y7.2.2.2.2.1)) h [0,1,2,3]
 ·
  refine aL (Z:=Value) (α:=(List Int)×Int×Int×(List Int)) (fun O u=>[(0,Pt c),(6,Pt b1),(7,Pt b3),(8,I x4.2.2.2.2)]) (fun O u=>[.obj c 75 (.agg (.pair (Ri u.1) (.pair (I u.2.1) (.eq (.int .u64 u.2.2.1))))),.obj b1 25 (.agg (.pair (I 0) (.pair (.eq (.slice none 0 0)) (.eq (.slice none 0 0))))),.obj b3 25 (.agg (.pair (I r2.1) (.pair (.eq z5) (.eq O)))),.sl z5 27 aZ x4.2.2.2.1,.sl O 3 (.int .i64) u.2.2.2]) h (fun K h=>?_) (fun O u h=>?_)
  ·refine sr ?_;iterate 2 refine mq ?_
   obtain⟨Y,UR,h⟩:=aa h;refine kc (ap [.tmp 51,.const (.int .i64 (1)),.tmp 52] rfl rfl Oa rfl (mn k (x4.1,x4.2.1,x4.2.2.1) c 1 a2 Y UR)) ?_;refine aq (nt (ao ?_));refine dL (SE.nil 3 (.int .i64)) ?_;refine aJ (fun E l=>[(0,Pt c),(6,Pt b1),(7,Pt b3),(8,I x4.2.2.2.2),(12,I l.2.2.2.2)]) (fun E l=>[.obj c 75 (.agg (.pair (Ri l.1) (.pair (I l.2.1) (.eq (.int .u64 l.2.2.1))))),.obj b1 25 (.agg (.pair (I 0) (.pair (.eq (.slice none 0 0)) (.eq (.slice none 0 0))))),.obj b3 25 (.agg (.pair (I r2.1) (.pair (.eq z5) (.eq E)))),.sl z5 27 aZ x4.2.2.2.1,.sl E 3 (.int .i64) l.2.2.2.1]) (fe k x4) k (.slice none 0 0) (Y.2.1,Y.2.2.1,Y.2.2.2,([]:(List Int)),Y.1) (fun _=>rfl) h (SE.fin [1,2,3,4,0] ⟨rfl,rfl,rfl,rfl,rfl,trivial⟩ rfl) (fun n E l h=>?_);unfold fe at h;refine ae (sr (mq ?_));refine jb (iz rfl) ?_;refine nt (ci h (fun h=>?_) (fun h=>?_))
   ·refine sk (ae (ao (bJ ?_)));refine da (ar rfl cK) ?_;refine ea 2 (aj rfl bG jr rfl) ?_;refine dm ?_;refine dm ?_;refine db (DU rfl rfl) ?_;refine dm ?_;obtain⟨qt,UI,h⟩:=aa h;refine db (bb rfl UI) ?_;refine db (DU rfl rfl) ?_;refine dx rfl rfl rfl (bi (t:=(.int .i64)) [(.const (.int .i64 (1)),_),(.const (.int .i64 (2)),_),(.const (.int .i64 (3)),_),(.tmp 62,_),(.tmp 65,_)] [1,2,3,ky 9 x4.2.2.2.2,ky 9 qt] rfl rfl dw (.cons rfl .int (.cons rfl .int (.cons rfl .int (.cons rfl .int (.cons rfl .int .nil))))) rfl rfl) ⟨rfl,rfl,rfl,rfl,rfl,trivial⟩ ?_;obtain⟨D,UQ,h⟩:=aa h;refine LZ 0 rfl rfl rfl rfl (ap [.tmp 60,.tmp 66] rfl rfl Qz rfl (pq k (l.1,l.2.1,l.2.2.1) c [1,2,3,ky 9 x4.2.2.2.2,ky 9 qt] D UQ)) ⟨rfl,rfl,trivial⟩ ?_;refine da (bi (t:=(.int .i64)) [(.tmp 67,_)] [D.1] rfl rfl dw (.cons rfl .int .nil) rfl rfl) ?_;refine L1 (Δ':=[.obj b1 25 (.agg (.pair (I 0) (.pair (.eq (.slice none 0 0)) (.eq (.slice none 0 0))))),.obj b3 25 (.agg (.pair (I r2.1) (.pair (.eq z5) (.eq E)))),.sl z5 27 aZ x4.2.2.2.1,.sl E 3 (.int .i64) l.2.2.2.1,.obj c 75 (.agg (.pair (Ri D.2.1) (.pair (I D.2.2.1) (.eq (.int .u64 D.2.2.2)))))]) (by kernel_rfl) cD (by kernel_rfl) ?_;obtain⟨Vr,UM,h⟩:=aa h;refine fr 3 ?_;refine cF rfl rfl rfl (bz rfl rfl dw (ay UM)) ⟨rfl,rfl,trivial⟩ fun UY=>?_;refine fl cK ?_;refine ow fun o38=>?_;refine fr 2 ?_;refine bh rfl rfl (be rfl bG o38 rfl rfl) ⟨rfl,rfl,trivial⟩ ?_;refine au (aM (tn (ab (mq ?_))));obtain⟨UU,UH,h⟩:=aa h;refine jb (fK rfl UH) ?_;refine aq (nl ?_);exact jz (UY,(D.2.1,D.2.2.1,D.2.2.2,l.2.2.2.1++[D.1],UU)) h [4,2,0,3,1]
   ·refine xa ?_;exact jz (E,(l.1,l.2.1,l.2.2.1,l.2.2.2.1)) h [0,1,2,3,4]
  ·refine aL (Z:=Unit) (α:=(List Int)×(List Int)×Int×Int) (fun pp y=>[(6,Pt b1),(7,Pt b3)]) (fun pp y=>[.obj b1 25 (.agg (.pair (I 0) (.pair (.eq (.slice none 0 0)) (.eq (.slice none 0 0))))),.obj b3 25 (.agg (.pair (I r2.1) (.pair (.eq z5) (.eq O)))),.sl z5 27 aZ x4.2.2.2.1,.sl O 3 (.int .i64) y.1,.obj c 75 (.agg (.pair (Ri y.2.1) (.pair (I y.2.2.1) (.eq (.int .u64 y.2.2.2)))))]) h (fun K h=>?_) (fun pp y h=>?_)
   ·refine sr (mq ?_);obtain⟨F,UP,h⟩:=aa h;refine kb (ap [.tmp 71,.const (.int .i64 (2))] rfl rfl Qy rfl (nI k (u.1,u.2.1,u.2.2.1) c 2 F UP)) ?_;refine nt (cv h (fun h=>?_) (fun h=>?_))
    ·refine ab (fl cK ?_);refine fr 2 ?_;refine lo bG ?_;refine mq ?_;refine jb (DU rfl rfl) ?_;obtain⟨Vh,mc,h⟩:=aa h;refine fr 4 ?_;refine kb (aY (t:=(.int .i64)) rfl dE co mc) ?_;refine bh rfl rfl (cI (i:=Int.toNat 0) rfl co rfl (gz mc) rfl .int rfl) ⟨rfl,rfl,trivial⟩ ?_;refine nl ?_;exact jz ((),(List.set u.2.2.2 (Int.toNat 0) (ky 9 x4.2.2.2.2),F.2.1,F.2.2.1,F.2.2.2)) h [3,1,4,0,2]
    ·refine aW (ag ?_);exact jz ((),(u.2.2.2,F.2.1,F.2.2.1,F.2.2.2)) h [1,2,3,4,0]
   ·refine sr (fr 1 ?_);refine fr 2 ?_;refine cC (kS (off:=1) [] trivial rfl rfl) ?_;refine fr 2 ?_;refine cC (kS (off:=2) [] trivial rfl rfl) ?_;refine lo dQ ?_;refine fr 1 ?_;refine bh rfl rfl (be rfl dQ trivial rfl rfl) ⟨rfl,rfl,trivial⟩ ?_;refine nt (aA (bC (ou (a:=.agg (.pair (I r2.1) (.pair (Rs aZ x4.2.2.2.1) (Ri y.1)))) (a':=.rep av (r2.1,x4.2.2.2.1,y.1)) (wl (.agg (.pair .int (.pair .rep .rep))))) ?_));refine bC (SE.fin (Γ':=[(6,_)]) [2,0,1] ⟨rfl,trivial⟩ rfl) ?_;cases h;exact aO () [.rep av (r2.1,x4.2.2.2.1,y.1)] 1 ⟨⟨_,_,_,_,_,rfl,(.tail _ (.head _)),dQ,(uD),rfl⟩,trivial⟩ rfl
def eJ(k:Nat)(a1:Int):Nat→((List Int)×Int×Int×(List Int)×Int)→Option ((List Int)×(List Int)×Int×Int)
 |0,_=>none
 |n+1,y3=>
  if y3.2.2.2.2 < a1 then((bW k (y3.1,y3.2.1,y3.2.2.1) y3.2.2.2.2).bind fun r5=>
  (dt (bH (List.length y3.2.2.2.1+List.length [y3.2.2.2.2]))).bind fun _=>
  (aP (y3.2.2.2.1++[y3.2.2.2.2]) r5.1).bind fun x8=>
  (aP (y3.2.2.2.1++[y3.2.2.2.2]) y3.2.2.2.2).bind fun x9=>
  (aP (List.set (y3.2.2.2.1++[y3.2.2.2.2]) (Int.toNat y3.2.2.2.2) x8) r5.1).bind fun e=>
  (ck (y3.2.2.2.2+1)).bind fun c=>
  eJ k a1 n (r5.2.1,r5.2.2.1,r5.2.2.2,List.set (List.set (y3.2.2.2.1++[y3.2.2.2.2]) (Int.toNat y3.2.2.2.2) x8) (Int.toNat r5.1) y3.2.2.2.2,c)) else(some (y3.2.2.2.1,y3.1,y3.2.1,y3.2.2.1))
def gP(k:Nat)(a0:bR)(a1:Int):Option ((List Int)×bR):=
 ((eJ k a1 k (a0.1,a0.2.1,a0.2.2,([]:(List Int)),0)):Option ((List Int)×(List Int)×Int×Int)).bind fun x1=>
 some (x1.1,(x1.2.1,x1.2.2.1,x1.2.2.2))
theorem sc(k:Nat)(a0:bR)(c:Nat)(a1:Int)(r:(List Int)×bR)(h:gP k a0 a1=some r):
 cd Tryz.prog 97 [Pt c,I a1] [.obj c 75 (.agg (.pair (Ri a0.1) (.pair (I a0.2.1) (.eq (.int .u64 a0.2.2)))))] (fun _:Unit=>(bv [Ri r.1],[.obj c 75 (.agg (.pair (Ri r.2.1) (.pair (I r.2.2.1) (.eq (.int .u64 r.2.2.2)))))])):=by
 unfold gP at h
 replace h:=a9 h
 refine cd.of 32 Tryz.func97 rfl Tryz.ntmps97 rfl fun S w0=>?_
 refine sr ?_
 refine cq ?_
 refine nt ?_
 refine sr ?_
 refine cq ?_
 refine nt ?_
 refine aL (Z:=Value) (α:=(List Int)×(List Int)×Int×Int) (fun z2 x1=>[(5,.eq z2)]) (fun z2 x1=>[.sl z2 3 (.int .i64) x1.1,.obj c 75 (.agg (.pair (Ri x1.2.1) (.pair (I x1.2.2.1) (.eq (.int .u64 x1.2.2.2)))))]) h (fun K h=>?_) (fun z2 x1 h=>?_)
 ·
  refine sr (cq (nt (ao ?_)));refine dL (SE.nil 3 (.int .i64)) ?_;refine aJ (fun z4 y3=>[(0,Pt c),(1,I a1),(5,.eq z4),(6,I y3.2.2.2.2)]) (fun z4 y3=>[.obj c 75 (.agg (.pair (Ri y3.1) (.pair (I y3.2.1) (.eq (.int .u64 y3.2.2.1))))),.sl z4 3 (.int .i64) y3.2.2.2.1]) (eJ k a1) k (.slice none 0 0) (a0.1,a0.2.1,a0.2.2,([]:(List Int)),0) (fun _=>rfl) h (SE.fin [1,0] ⟨rfl,rfl,rfl,rfl,trivial⟩ rfl) (fun n z4 y3 h=>?_);unfold eJ at h;refine ae (sr ?_);iterate 2 refine mq ?_
  refine jb (bm rfl) ?_;refine nt (ci h (fun h=>?_) (fun h=>?_))
  ·refine sk (ae (ao (sr ?_)));iterate 2 refine mq ?_
   obtain⟨r5,y,h⟩:=aa h;refine kb (ap [.tmp 13,.tmp 14] rfl rfl yN rfl (c9 k (y3.1,y3.2.1,y3.2.2.1) c y3.2.2.2.2 r5 y)) ?_;refine aq (nt (sr ?_));iterate 2 refine mq ?_
   refine ja (bi (t:=(.int .i64)) [(.tmp 17,_)] [y3.2.2.2.2] rfl rfl dw (.cons rfl .int .nil) rfl rfl) ?_;obtain⟨u6,x,h⟩:=aa h;refine fr 1 ?_;refine cF rfl rfl rfl (bz rfl rfl dw (ay x)) ⟨rfl,rfl,trivial⟩ fun v7=>?_;refine aq (nt (ab ?_));iterate 6 refine mq ?_
   obtain⟨x8,l,h⟩:=aa h;refine kb (aY (t:=(.int .i64)) rfl dE co l) ?_;refine ka (dW (i:=Int.toNat r5.1) (off:=0) rfl co (fun _=>rfl) rfl (cy l).2.2 rfl) ?_;refine mq ?_;obtain⟨x9,j,h⟩:=aa h;refine kb (aY (t:=(.int .i64)) rfl dE co j) ?_;refine bh rfl rfl (cI (i:=Int.toNat y3.2.2.2.2) rfl co rfl (gz j) rfl .int rfl) ⟨rfl,rfl,trivial⟩ ?_;obtain⟨D,e,h⟩:=aa h;refine kb (aY (t:=(.int .i64)) rfl dE co e) ?_;refine bh rfl rfl (cI (i:=Int.toNat r5.1) rfl co rfl (gz e) rfl .int rfl) ⟨rfl,rfl,trivial⟩ ?_;refine au (aM (tn (ab (mq ?_))));obtain⟨u,s,h⟩:=aa h;refine jb (bb rfl s) ?_;refine aq (nl ?_);exact jz (v7,(r5.2.1,r5.2.2.1,r5.2.2.2,List.set (List.set (y3.2.2.2.1++[y3.2.2.2.2]) (Int.toNat y3.2.2.2.2) x8) (Int.toNat r5.1) y3.2.2.2.2,u)) h [1,0]
  ·refine xa ?_;exact jz (z4,(y3.2.2.2.1,y3.1,y3.2.1,y3.2.2.1)) h [1,0]
 ·
  refine sr (mq ?_);refine aq (nt (aA ?_));refine bC (eD [4,5,31] ⟨rfl,rfl,rfl,trivial⟩) ?_;cases h;exact aO () [_] 1 ⟨rfl,trivial⟩ rfl
def po(k:Nat)(a0:Int)(a1:Int):Option Int:=
 (dt (a1≠0)).bind fun _=>
 (ck ((Int.tmod a0 a1)+a1)).bind fun x2=>
 (dt (a1≠0)).bind fun _=>
 some (Int.tmod x2 a1)
theorem AG(k:Nat)(a0:Int)(a1:Int)(r:Int)(h:po k a0 a1=some r):
 cd Tryz.prog 98 [I a0,I a1] [] (fun _:Unit=>(bv [I r],[])):=by
 unfold po at h
 replace h:=a9 h
 refine cd.of 12 Tryz.func98 rfl Tryz.ntmps98 rfl fun S w0=>?_
 refine sr ?_
 refine cq ?_
 refine nt ?_
 refine sr ?_
 iterate 2 refine mq ?_
 obtain⟨u1,j,h⟩:=aa h
 refine jb (Ht rfl (ay j)) ?_
 refine mq ?_
 obtain⟨x2,c,h⟩:=aa h
 refine jb (bb rfl c) ?_
 refine mq ?_
 obtain⟨u3,e,h⟩:=aa h
 refine jb (Ht rfl (ay e)) ?_
 refine aq ?_
 refine nt ?_
 refine aA ?_
 cases h
 exact ra
def dB(k:Nat)(a1:aQ)(r7:(List Int)×bR)(c:(List Int)×Int×Int×(List Int)×Int×(List (List Int)))(e:Int×bR):Nat→(Int×(List (List Int)))→Option ((List Int)×Int×Int×(List Int)×(List (List Int)))
 |0,_=>none
 |n+1,h=>
  if h.1 < (c.2.2.2.1.length:Int) then((ck (e.1+h.1)).bind fun O=>
  (po k O (c.2.2.2.1.length:Int)).bind fun j=>
  (((aP c.2.2.2.1 j).bind fun M=>
  (aP r7.1 c.2.2.2.2.1).bind fun J=>
  (aP a1.2.1 J).bind fun I=>
  if I.1≤M then(some (true,h.2)) else((ck ((c.2.2.2.1.length:Int) - 1)).bind fun F=>
  some (decide (h.1=F),h.2))):Option (Bool×(List (List Int)))).bind fun l=>
  if l.1=true then((aP l.2 j).bind fun s=>
  (aP r7.1 c.2.2.2.2.1).bind fun r=>
  (dt (bH (List.length s+List.length [r]))).bind fun _=>
  (aP c.2.2.2.1 j).bind fun E=>
  (aP r7.1 c.2.2.2.2.1).bind fun D=>
  (aP a1.2.1 D).bind fun y=>
  (ck (E - y.1)).bind fun x=>
  (aP c.2.2.2.1 j).bind fun Q=>
  some (e.2.1,e.2.2.1,e.2.2.2,List.set c.2.2.2.1 (Int.toNat j) x,List.set l.2 (Int.toNat j) (s++[r]))) else((ck (h.1+1)).bind fun u=>
  dB k a1 r7 c e n (u,l.2))) else(some (e.2.1,e.2.2.1,e.2.2.2,c.2.2.2.1,h.2))
def ft(k:Nat)(a1:aQ)(r7:(List Int)×bR):Nat→((List Int)×Int×Int×(List Int)×Int×(List (List Int)))→Option ((List Int)×Int×Int×(List (List Int)))
 |0,_=>none
 |n+1,c=>
  if c.2.2.2.2.1 < (r7.1.length:Int) then((((ck ((c.2.2.2.1.length:Int) - 1)).bind fun j=>
  (bW k (c.1,c.2.1,c.2.2.1) j).bind fun l=>
  dB k a1 r7 c l k (0,c.2.2.2.2.2)):Option ((List Int)×Int×Int×(List Int)×(List (List Int)))).bind fun e=>
  (ck (c.2.2.2.2.1+1)).bind fun h=>
  ft k a1 r7 n (e.1,e.2.1,e.2.2.1,e.2.2.2.1,h,e.2.2.2.2)) else(some (c.1,c.2.1,c.2.2.1,c.2.2.2.2.2))
def fh(k:Nat)(a0:bR)(a1:aQ):Option ((List (List Int))×bR):=
 (dt (0≤(a1.2.2.length:Int)∧bH (Int.toNat (a1.2.2.length:Int)))).bind fun _=>
 (dt (bH (List.length ([]:(List Int))+List.length a1.2.2))).bind fun _=>
 (gP k (a0.1,a0.2.1,a0.2.2) (a1.2.1.length:Int)).bind fun r7=>
 ((ft k a1 r7 k (r7.2.1,r7.2.2.1,r7.2.2.2,([]:(List Int))++a1.2.2,0,List.replicate (Int.toNat (a1.2.2.length:Int)) ([]:(List Int)))):Option ((List Int)×Int×Int×(List (List Int)))).bind fun x8=>
 some (x8.2.2.2,(x8.1,x8.2.1,x8.2.2.1))
theorem nH(k:Nat)(a0:bR)(e:Nat)(a1:aQ)(r:(List (List Int))×bR)(h:fh k a0 a1=some r):
 cd Tryz.prog 51 [Pt e,.rep av a1] [.obj e 75 (.agg (.pair (Ri a0.1) (.pair (I a0.2.1) (.eq (.int .u64 a0.2.2)))))] (fun _:Unit=>(bv [.rep (.slice (.slice (.int .i64))) r.1],[.obj e 75 (.agg (.pair (Ri r.2.1) (.pair (I r.2.2.1) (.eq (.int .u64 r.2.2.2)))))])):=by
 unfold fh at h
 replace h:=a9 h
 refine cd.of 100 Tryz.func51 rfl Tryz.ntmps51 rfl fun S w0=>?_
 refine sr ?_
 refine bx fun b1=>?_
 refine cq ?_
 refine nt ?_
 refine sr ?_
 refine fl cK ?_
 refine lo bG ?_
 refine ol dE ?_
 obtain⟨u2,Vd,h⟩:=aa h
 refine aF rfl rfl rfl (Cm (t:=.val) (d:=.slice none 0 0) rfl m7 OX (ay Vd).1 (ay Vd).2) ⟨rfl,rfl,trivial⟩ fun v3=>?_
 refine cC (A8 (F:=[.obj b1 25 (.rep av a1),.obj e 75 (.agg (.pair (Ri a0.1) (.pair (I a0.2.1) (.eq (.int .u64 a0.2.2)))))])) ?_
 refine aq ?_
 refine nt ?_
 refine sr ?_
 refine aF rfl rfl rfl (jP (t:=(.int .i64)) [] ([]:(List Int)) rfl rfl dw .nil rfl rfl) trivial fun v4=>?_
 refine fl cK ?_
 refine fr 1 ?_
 refine lo bG ?_
 obtain⟨u5,Vu,h⟩:=aa h
 refine fr 1 ?_
 refine cF rfl rfl rfl (bz rfl rfl dw (ay Vu)) ⟨rfl,rfl,trivial⟩ fun v6=>?_
 refine aq ?_
 refine nt ?_
 refine sr ?_
 refine mq ?_
 refine fl bV ?_
 refine fr 1 ?_
 refine lo eU ?_
 refine ol mG ?_
 obtain⟨r7,Vv,h⟩:=aa h
 have Vw:=sc k (a0.1,a0.2.1,a0.2.2) e (a1.2.1.length:Int) r7 Vv
 refine fr 2 ?_
 refine kb (ap [.tmp 20,.tmp 23] rfl rfl S9 rfl Vw) ?_
 refine aq ?_
 refine nt ?_
 refine aL (Z:=(Value×(Nat→Value))) (α:=(List Int)×Int×Int×(List (List Int))) (fun z9 x8=>[(5,.eq z9.1)]) (fun z9 x8=>[.obj e 75 (.agg (.pair (Ri x8.1) (.pair (I x8.2.1) (.eq (.int .u64 x8.2.2.1)))))]++fJ 23 z9 x8.2.2.2) h (fun K h=>?_) (fun z9 x8 h=>?_)
 ·
  refine sr (cq (nt (ao ?_)));refine aJ (Z:=(Value×(Nat→Value))) (α:=(List Int)×Int×Int×(List Int)×Int×(List (List Int))) (fun Q j=>[(0,Pt e),(3,Pt b1),(5,.eq Q.1),(6,.eq v6),(7,Ri r7.1),(8,I j.2.2.2.2.1)]) (fun Q j=>[.obj e 75 (.agg (.pair (Ri j.1) (.pair (I j.2.1) (.eq (.int .u64 j.2.2.1))))),.obj b1 25 (.rep av a1),.sl v6 3 (.int .i64) j.2.2.2.1]++fJ 23 Q j.2.2.2.2.2) (ft k a1 r7) k (v3,fun _=>.slice none 0 0) (r7.2.1,r7.2.2.1,r7.2.2.2,([]:(List Int))++a1.2.2,0,List.replicate (Int.toNat (a1.2.2.length:Int)) ([]:(List Int))) (fun _=>rfl) h (bu [.obj e 75 (.agg (.pair (Ri r7.2.1) (.pair (I r7.2.2.1) (.eq (.int .u64 r7.2.2.2))))),.obj b1 25 (.rep av a1),.sl v6 3 (.int .i64) (([]:(List Int))++a1.2.2)] (fJ 23 (v3,fun _=>.slice none 0 0) (List.replicate (Int.toNat (a1.2.2.length:Int)) ([]:(List Int)))) [0,1,2] ⟨rfl,rfl,rfl,rfl,rfl,rfl,trivial⟩ rfl) (fun n Q j h=>?_);unfold ft at h;refine ae (sr ?_);iterate 2 refine mq ?_
  refine ol dE ?_;refine jb (bm rfl) ?_;refine nt (ci h (fun h=>?_) (fun h=>?_))
  ·refine sk (aL (Z:=(Value×(Nat→Value))) (α:=(List Int)×Int×Int×(List Int)×(List (List Int))) (fun X u=>[(0,Pt e),(3,Pt b1),(5,.eq X.1),(6,.eq v6),(7,Ri r7.1),(8,I j.2.2.2.2.1)]) (fun X u=>[.obj e 75 (.agg (.pair (Ri u.1) (.pair (I u.2.1) (.eq (.int .u64 u.2.2.1))))),.obj b1 25 (.rep av a1),.sl v6 3 (.int .i64) u.2.2.2.1]++fJ 23 X u.2.2.2.2) h (fun K h=>?_) (fun X u h=>?_))
   ·refine ao (sr ?_);iterate 2 refine mq ?_
    refine fr 2 ?_;refine ka (dj rfl rfl dE) ?_;obtain⟨Vk,Va,h⟩:=aa h;refine jb (fK rfl Va) ?_;obtain⟨c,Vf,h⟩:=aa h;refine fr 1 ?_;refine kb (ap [.tmp 31,.tmp 34] rfl rfl yN rfl (c9 k (j.1,j.2.1,j.2.2.1) e Vk c Vf)) ?_;refine aq (nt (sr ?_));refine cq (nt (ao ?_));refine aJ (Z:=(Value×(Nat→Value))) (α:=Int×(List (List Int))) (fun E y=>[(0,Pt e),(3,Pt b1),(5,.eq E.1),(6,.eq v6),(7,Ri r7.1),(8,I j.2.2.2.2.1),(9,I c.1),(10,I y.1)]) (fun E y=>[.obj e 75 (.agg (.pair (Ri c.2.1) (.pair (I c.2.2.1) (.eq (.int .u64 c.2.2.2))))),.obj b1 25 (.rep av a1),.sl v6 3 (.int .i64) j.2.2.2.1]++fJ 23 E y.2) (dB k a1 r7 j c) k Q (0,j.2.2.2.2.2) (fun _=>rfl) h (bu [.obj e 75 (.agg (.pair (Ri c.2.1) (.pair (I c.2.2.1) (.eq (.int .u64 c.2.2.2))))),.sl v6 3 (.int .i64) j.2.2.2.1,.obj b1 25 (.rep av a1)] (fJ 23 Q j.2.2.2.2.2) [0,2,1] ⟨rfl,rfl,rfl,rfl,rfl,rfl,rfl,rfl,trivial⟩ rfl) (fun n E y h=>?_);unfold dB at h;refine ae (sr ?_);iterate 2 refine mq ?_
    refine fr 2 ?_;refine ka (dj rfl rfl dE) ?_;refine jb (bm rfl) ?_;refine nt (ci h (fun h=>?_) (fun h=>?_))
    ·refine sk (ae (ao (sr ?_)));iterate 2 refine mq ?_
     obtain⟨Vj,U8,h⟩:=aa h;refine jb (bb rfl U8) ?_;refine mq ?_;refine ka (dj rfl rfl dE) ?_;obtain⟨s,Ve,h⟩:=aa h;refine jb (ap [.tmp 44,.tmp 46] rfl rfl S8 rfl (AG k Vj (j.2.2.2.1.length:Int) s Ve)) ?_;refine aq (nt ?_);refine aL (Z:=(Value×(Nat→Value))) (α:=Bool×(List (List Int))) (fun l x=>[(0,Pt e),(3,Pt b1),(5,.eq l.1),(6,.eq v6),(7,Ri r7.1),(8,I j.2.2.2.2.1),(9,I c.1),(10,I y.1),(11,I s),(68,.eq (.bool x.1))]) (fun l x=>[.obj e 75 (.agg (.pair (Ri c.2.1) (.pair (I c.2.2.1) (.eq (.int .u64 c.2.2.2))))),.obj b1 25 (.rep av a1),.sl v6 3 (.int .i64) j.2.2.2.1]++fJ 23 l x.2) h (fun K h=>?_) (fun l x h=>?_)
     ·refine bJ ?_;refine dm ?_;refine dm ?_;obtain⟨VZ,mc,h⟩:=aa h;refine eb 0 (aY (t:=(.int .i64)) rfl dE co mc) ?_;refine ea 0 (dW (i:=Int.toNat s) (off:=0) rfl co (fun _=>rfl) rfl (cy mc).2.2 rfl) ?_;refine da (ar rfl bV) ?_;refine ea 2 (aj rfl eU jr rfl) ?_;refine dm ?_;refine dm ?_;obtain⟨VY,U7,h⟩:=aa h;refine db (aC (t:=(.int .i64)) rfl dE co U7) ?_;refine da (ak (t:=(.int .i64)) rfl co rfl) ?_;obtain⟨VX,U6,h⟩:=aa h;refine db (aC (t:=aZ) rfl mG kh U6) ?_;refine da (aI 1 false rfl kQ rfl) ?_;refine da (ak (t:=(.int .i64)) rfl co rfl) ?_;refine db (qD rfl) ?_;refine kZ rfl rfl rfl (aK rfl) ⟨rfl,trivial⟩ (fun hb=>?_) (fun hb=>?_)
      ·replace h:=cE (oq hb) h;iterate 4 refine dg ?_
       refine df cD ?_;refine gn ?_;refine pt (nl ?_);exact jk (E,(true,y.2)) h (bu [.sl v6 3 (.int .i64) j.2.2.2.1,.obj e 75 (.agg (.pair (Ri c.2.1) (.pair (I c.2.2.1) (.eq (.int .u64 c.2.2.2))))),.obj b1 25 (.rep av a1)] (fJ 23 E y.2) [1,2,0] ⟨rfl,rfl,rfl,rfl,rfl,rfl,rfl,rfl,rfl,rfl,trivial⟩ rfl)
      ·replace h:=bQ (nN hb) h;refine aX rfl rfl rfl rfl rfl (aK rfl) ⟨rfl,rfl,trivial⟩ ?_;refine aX rfl rfl rfl rfl rfl (aK rfl) ⟨rfl,rfl,trivial⟩ ?_;refine jL 0 rfl rfl rfl rfl rfl rfl (dj rfl rfl dE) ⟨rfl,rfl,trivial⟩ ?_;obtain⟨Vi,U4,h⟩:=aa h;refine aX rfl rfl rfl rfl rfl (fK rfl U4) ⟨rfl,rfl,rfl,trivial⟩ ?_;refine df cD ?_;refine gb (fL rfl) ?_;refine pf (nl ?_);exact jk (E,(decide (y.1=Vi),y.2)) h (bu [.sl v6 3 (.int .i64) j.2.2.2.1,.obj e 75 (.agg (.pair (Ri c.2.1) (.pair (I c.2.2.1) (.eq (.int .u64 c.2.2.2))))),.obj b1 25 (.rep av a1)] (fJ 23 E y.2) [1,2,0] ⟨rfl,rfl,rfl,rfl,rfl,rfl,rfl,rfl,rfl,rfl,trivial⟩ rfl)
     ·refine cv h (fun h=>?_) (fun h=>?_)
      ·refine ae ?_;obtain⟨O,J,h⟩:=aa h;refine dL (tX (pre:=[.obj e 75 (.agg (.pair (Ri c.2.1) (.pair (I c.2.2.1) (.eq (.int .u64 c.2.2.2))))),.obj b1 25 (.rep av a1),.sl v6 3 (.int .i64) j.2.2.2.1]) (qc J).2) ?_;obtain⟨M,U2,h⟩:=aa h;obtain⟨Wy,Vb,h⟩:=aa h;obtain⟨VV,ac,h⟩:=aa h;obtain⟨VU,U1,h⟩:=aa h;obtain⟨VT,U0,h⟩:=aa h;obtain⟨U,UZ,h⟩:=aa h;obtain⟨VS,Y,h⟩:=aa h;refine sN (Δ:=[.sl (l.2 (Int.toNat s)) 3 (.int .i64) O,.sl l.1 23 .val (eF l.2 0 x.2),.obj e 75 (.agg (.pair (Ri c.2.1) (.pair (I c.2.2.1) (.eq (.int .u64 c.2.2.2))))),.obj b1 25 (.rep av a1),.sl v6 3 (.int .i64) j.2.2.2.1]) (F:=(kY l.2 0 x.2).eraseIdx (Int.toNat s)) (Z:=Value) (fun i=>[(0,Pt e),(3,Pt b1),(5,.eq l.1),(6,.eq v6),(7,Ri r7.1),(8,I j.2.2.2.2.1)]) (fun i=>[.sl v6 3 (.int .i64) (List.set j.2.2.2.1 (Int.toNat s) U),.sl l.1 23 .val (List.set (eF l.2 0 x.2) (Int.toNat s) i),.sl i 3 (.int .i64) (O++[M]),.obj e 75 (.agg (.pair (Ri c.2.1) (.pair (I c.2.2.1) (.eq (.int .u64 c.2.2.2))))),.obj b1 25 (.rep av a1)]) (fun S w=>?_) (fun D=>?_)
       ·refine jF ?_;refine aH rfl rfl rfl (aK rfl) ⟨rfl,trivial⟩ ?_;refine aH rfl rfl rfl (aK rfl) ⟨rfl,trivial⟩ ?_;refine aH rfl rfl rfl (aK rfl) ⟨rfl,trivial⟩ ?_;refine aH rfl rfl rfl (aK rfl) ⟨rfl,trivial⟩ ?_;refine aH rfl rfl rfl (aK rfl) ⟨rfl,trivial⟩ ?_;refine aH rfl rfl rfl (aK rfl) ⟨rfl,trivial⟩ ?_;refine dr 1 rfl rfl rfl rfl (aY (t:=.val) rfl lE bG (kU J)) ⟨rfl,rfl,trivial⟩ ?_;refine dr 1 rfl rfl rfl rfl (dW (i:=Int.toNat s) (off:=0) rfl bG (fun _=>rfl) rfl (cy (kU J)).2.2 rfl) ⟨rfl,trivial⟩ ?_;refine aH rfl rfl rfl (aK rfl) ⟨rfl,trivial⟩ ?_;refine aH rfl rfl rfl (aK rfl) ⟨rfl,trivial⟩ ?_;refine aH rfl rfl rfl (aC (t:=(.int .i64)) rfl dE co U2) ⟨rfl,rfl,trivial⟩ ?_;refine aH rfl rfl rfl (ak (t:=(.int .i64)) rfl co rfl) ⟨rfl,trivial⟩ ?_;refine aH rfl rfl rfl (bi (t:=(.int .i64)) [(.tmp 80,_)] [M] rfl rfl dw (.cons rfl .int .nil) rfl rfl) ⟨rfl,trivial⟩ ?_;refine sO 0 rfl (fun v=>[.sl v 3 (.int .i64) (O++[M])]) (fun _=>rfl) rfl rfl rfl (bz rfl rfl dw (ay Vb)) ⟨rfl,rfl,trivial⟩ ?_;refine aH rfl rfl rfl (aK rfl) ⟨rfl,trivial⟩ ?_;refine aH rfl rfl rfl (aK rfl) ⟨rfl,trivial⟩ ?_;refine dr 4 rfl rfl rfl rfl (aY (t:=(.int .i64)) rfl dE co ac) ⟨rfl,rfl,trivial⟩ ?_;refine dr 4 rfl rfl rfl rfl (dW (i:=Int.toNat s) (off:=0) rfl co (fun _=>rfl) rfl (cy ac).2.2 rfl) ⟨rfl,trivial⟩ ?_;refine aH rfl rfl rfl (ar rfl bV) ⟨rfl,trivial⟩ ?_;refine dr 3 rfl rfl rfl rfl (aj rfl eU jr rfl) ⟨rfl,trivial⟩ ?_;refine aH rfl rfl rfl (aK rfl) ⟨rfl,trivial⟩ ?_;refine aH rfl rfl rfl (aK rfl) ⟨rfl,trivial⟩ ?_;refine aH rfl rfl rfl (aC (t:=(.int .i64)) rfl dE co U1) ⟨rfl,rfl,trivial⟩ ?_;refine aH rfl rfl rfl (ak (t:=(.int .i64)) rfl co rfl) ⟨rfl,trivial⟩ ?_;refine aH rfl rfl rfl (aC (t:=aZ) rfl mG kh U0) ⟨rfl,rfl,trivial⟩ ?_;refine aH rfl rfl rfl (aI 1 false rfl kQ rfl) ⟨rfl,trivial⟩ ?_;refine aH rfl rfl rfl (ak (t:=(.int .i64)) rfl co rfl) ⟨rfl,trivial⟩ ?_;refine aH rfl rfl rfl (fK rfl UZ) ⟨rfl,rfl,trivial⟩ ?_;refine dr 1 rfl rfl rfl rfl (aY (t:=.val) rfl lE bG (kU J)) ⟨rfl,rfl,trivial⟩ ?_;refine mB 29 [true,true,false,false,true,true,true,true,true,true,true,true,true,true,true,true,true,true,true,true,true,true,true,true,true,true,true,false,true] [98] [] [] rfl (by kernel_rfl) (by kernel_rfl) (by kernel_rfl) cD (fun vs hv hB=>?_);obtain⟨w0,Wx,rfl,Vt⟩:=an hv;obtain⟨w1,Wv,rfl,Vs⟩:=an Vt;obtain⟨w2,Wu,rfl,Vr⟩:=an Vs;obtain⟨w3,Wt,rfl,Vq⟩:=an Vr;obtain⟨w4,Ws,rfl,Vp⟩:=an Vq;obtain⟨w5,Wq,rfl,Vo⟩:=an Vp;obtain⟨w6,Wp,rfl,Vn⟩:=an Vo;obtain⟨w7,Wn,rfl,Vm⟩:=an Vn;obtain⟨w8,Wm,rfl,Vl⟩:=an Vm;obtain⟨w9,VQ,rfl,UW⟩:=an Vl;obtain⟨Wj,VP,rfl,UV⟩:=an UW;obtain⟨Wi,VO,rfl,UU⟩:=an UV;obtain⟨Wh,VN,rfl,UT⟩:=an UU;obtain⟨D,VM,rfl,US⟩:=an UT;obtain⟨Wg,VL,rfl,UR⟩:=an US;obtain⟨We,VK,rfl,UQ⟩:=an UR;obtain⟨Wc,VJ,rfl,UP⟩:=an UQ;obtain⟨Wb,VI,rfl,UO⟩:=an UP;obtain⟨Wa,VH,rfl,UN⟩:=an UO;obtain⟨V9,VG,rfl,UM⟩:=an UN;obtain⟨V8,VF,rfl,UL⟩:=an UM;obtain⟨V7,VE,rfl,UK⟩:=an UL;obtain⟨V6,VD,rfl,UJ⟩:=an UK;obtain⟨V5,VC,rfl,UI⟩:=an UJ;obtain⟨V4,VB,rfl,UH⟩:=an UI;obtain⟨V3,VA,rfl,UG⟩:=an UH;obtain⟨V2,Vz,rfl,se⟩:=an UG
        obtain⟨V1,Vy,rfl,qt⟩:=an se;obtain⟨V0,Vx,rfl,pp⟩:=an qt;obtain rfl:=kw pp;refine⟨[0,1,2,3,4],[.sl l.1 23 .val (eF l.2 0 x.2),.obj e 75 (.agg (.pair (Ri c.2.1) (.pair (I c.2.2.1) (.eq (.int .u64 c.2.2.2))))),.obj b1 25 (.rep av a1),.sl v6 3 (.int .i64) j.2.2.2.1,.sl D 3 (.int .i64) (O++[M])],by kernel_rfl,by decide,?_⟩;refine i9 4 rfl ?_;refine Dm fun o34=>?_;refine i9 1 rfl ?_;refine ov rfl rfl (cI (i:=Int.toNat s) rfl bG rfl (gz (kU J)) rfl (.val o34) o34) ⟨rfl,rfl,trivial⟩ (by kernel_rfl) ?_;refine i9 4 rfl ?_;refine we rfl rfl rfl rfl (aY (t:=(.int .i64)) rfl dE co Y) ⟨rfl,rfl,trivial⟩ (by kernel_rfl) ?_;refine ov rfl rfl (cI (i:=Int.toNat s) rfl co rfl (gz Y) rfl .int rfl) ⟨rfl,rfl,trivial⟩ (by kernel_rfl) ?_;refine pJ ?_;refine bC (SE.fin (Γ':=[(0,Pt e),(3,Pt b1),(5,.eq l.1),(6,.eq v6),(7,Ri r7.1),(8,I j.2.2.2.2.1)]) (Δ':=[.sl v6 3 (.int .i64) (List.set j.2.2.2.1 (Int.toNat s) U),.sl l.1 23 .val (List.set (eF l.2 0 x.2) (Int.toNat s) D),.sl D 3 (.int .i64) (O++[M]),.obj e 75 (.agg (.pair (Ri c.2.1) (.pair (I c.2.2.1) (.eq (.int .u64 c.2.2.2))))),.obj b1 25 (.rep av a1)]) [0,1,2,3,4] ⟨rfl,rfl,rfl,rfl,rfl,rfl,trivial⟩ rfl) ?_;exact fun a w st=>⟨rfl,(D),(SE.fin (Γ':=[(0,Pt e),(3,Pt b1),(5,.eq l.1),(6,.eq v6),(7,Ri r7.1),(8,I j.2.2.2.2.1)]) (Δ':=[.sl v6 3 (.int .i64) (List.set j.2.2.2.1 (Int.toNat s) U),.sl l.1 23 .val (List.set (eF l.2 0 x.2) (Int.toNat s) D),.sl D 3 (.int .i64) (O++[M]),.obj e 75 (.agg (.pair (Ri c.2.1) (.pair (I c.2.2.1) (.eq (.int .u64 c.2.2.2))))),.obj b1 25 (.rep av a1)]) [0,1,2,3,4] ⟨rfl,rfl,rfl,rfl,rfl,rfl,trivial⟩ rfl) a w st⟩
       ·show JN _ _ [(0,Pt e),(3,Pt b1),(5,.eq l.1),(6,.eq v6),(7,Ri r7.1),(8,I j.2.2.2.2.1)] ([.sl v6 3 (.int .i64) (List.set j.2.2.2.1 (Int.toNat s) U),.sl l.1 23 .val (List.set (eF l.2 0 x.2) (Int.toNat s) D),.sl D 3 (.int .i64) (O++[M]),.obj e 75 (.agg (.pair (Ri c.2.1) (.pair (I c.2.2.1) (.eq (.int .u64 c.2.2.2))))),.obj b1 25 (.rep av a1)]++(kY l.2 0 x.2).eraseIdx (Int.toNat s));refine dq 1 rfl ?_;refine dq 2 rfl ?_;refine bC (wc (pre:=[.sl v6 3 (.int .i64) (List.set j.2.2.2.1 (Int.toNat s) U),.obj e 75 (.agg (.pair (Ri c.2.1) (.pair (I c.2.2.1) (.eq (.int .u64 c.2.2.2))))),.obj b1 25 (.rep av a1)]) (z:=l) (i:=Int.toNat s) (qc J).2) ?_;refine tn (dM (Bh (eq_false (by decide)) ?_));refine aU (aU (bZ (bn ?_)));exact jk ((l.1,nu l.2 (Int.toNat s) D),(c.2.1,c.2.2.1,c.2.2.2,List.set j.2.2.2.1 (Int.toNat s) U,List.set x.2 (Int.toNat s) (O++[M]))) h (bu [.sl v6 3 (.int .i64) (List.set j.2.2.2.1 (Int.toNat s) U),.obj e 75 (.agg (.pair (Ri c.2.1) (.pair (I c.2.2.1) (.eq (.int .u64 c.2.2.2))))),.obj b1 25 (.rep av a1)] (fJ 23 (l.1,nu l.2 (Int.toNat s) D) (List.set x.2 (Int.toNat s) (O++[M]))) [1,2,0] ⟨rfl,rfl,rfl,rfl,rfl,rfl,trivial⟩ rfl)
      ·refine aW (aM (tn (ab (mq ?_))));obtain⟨Vh,UY,h⟩:=aa h;refine jb (bb rfl UY) ?_;refine aq (nl ?_);exact jk (l,(Vh,x.2)) h (bu [.obj e 75 (.agg (.pair (Ri c.2.1) (.pair (I c.2.2.1) (.eq (.int .u64 c.2.2.2))))),.obj b1 25 (.rep av a1),.sl v6 3 (.int .i64) j.2.2.2.1] (fJ 23 l x.2) [0,1,2] ⟨rfl,rfl,rfl,rfl,rfl,rfl,rfl,rfl,trivial⟩ rfl)
    ·refine dM (aU (aU (bZ (bn ?_))));exact jk (E,(c.2.1,c.2.2.1,c.2.2.2,j.2.2.2.1,y.2)) h (bu [.sl v6 3 (.int .i64) j.2.2.2.1,.obj e 75 (.agg (.pair (Ri c.2.1) (.pair (I c.2.2.1) (.eq (.int .u64 c.2.2.2))))),.obj b1 25 (.rep av a1)] (fJ 23 E y.2) [1,2,0] ⟨rfl,rfl,rfl,rfl,rfl,rfl,trivial⟩ rfl)
   ·refine ab (mq ?_);obtain⟨Vg,UX,h⟩:=aa h;refine jb (bb rfl UX) ?_;refine aq (nl ?_);exact jk (X,(u.1,u.2.1,u.2.2.1,u.2.2.2.1,Vg,u.2.2.2.2)) h (bu [.obj e 75 (.agg (.pair (Ri u.1) (.pair (I u.2.1) (.eq (.int .u64 u.2.2.1))))),.obj b1 25 (.rep av a1),.sl v6 3 (.int .i64) u.2.2.2.1] (fJ 23 X u.2.2.2.2) [0,1,2] ⟨rfl,rfl,rfl,rfl,rfl,rfl,trivial⟩ rfl)
  ·refine xa ?_;exact jk (Q,(j.1,j.2.1,j.2.2.1,j.2.2.2.2.2)) h (bu [.obj e 75 (.agg (.pair (Ri j.1) (.pair (I j.2.1) (.eq (.int .u64 j.2.2.1))))),.obj b1 25 (.rep av a1),.sl v6 3 (.int .i64) j.2.2.2.1] (fJ 23 Q j.2.2.2.2.2) [0] ⟨rfl,trivial⟩ rfl)
 ·
  refine sr (mq ?_);refine aq (nt (aA ?_));refine bC (A9 (pre:=[.obj e 75 (.agg (.pair (Ri x8.1) (.pair (I x8.2.1) (.eq (.int .u64 x8.2.2.1)))))])) ?_;refine bC (eD [4,5,99] ⟨rfl,rfl,rfl,trivial⟩) ?_;cases h;exact aO () [_] 1 ⟨rfl,trivial⟩ rfl
def fA(k:Nat)(a0:Int)(a1:Int)(a2:Int):Option Bool:=
 ((if a1≤a0 then(some (decide (a0≤a2))) else(some false)):Option (Bool)).bind fun x1=>
 some x1
theorem gi(k:Nat)(a0:Int)(a1:Int)(a2:Int)(r:Bool)(h:fA k a0 a1 a2=some r):
 cd Tryz.prog 60 [I a0,I a1,I a2] [] (fun _:Unit=>(bv [.eq (.bool r)],[])):=by
 unfold fA at h
 replace h:=a9 h
 refine cd.of 15 Tryz.func60 rfl Tryz.ntmps60 rfl fun S w0=>?_
 refine sr ?_
 refine cq ?_
 refine nt ?_
 refine aL (Z:=Unit) (α:=Bool) (fun z2 x1=>[(6,.eq (.bool x1))]) (fun z2 x1=>[]) h (fun K h=>?_) (fun z2 x1 h=>?_)
 ·
  refine ab ?_;iterate 2 refine mq ?_
  refine jb (qD rfl) ?_;refine mq ?_;refine cm (s:=10) rfl (fun hb=>?_) (fun hb=>?_)
  ·replace h:=cE (oq hb) h;refine gm ?_;refine gm ?_;refine gb (vv rfl) ?_;refine pt ?_;refine aq (nl ?_);exact jz ((),decide (a0≤a2)) h []
  ·replace h:=bQ (nN hb) h;iterate 3 refine gn ?_
   refine pf ?_;refine aq (nl ?_);exact jz ((),false) h []
 ·
  refine aA ?_;cases h;exact ra
def f7(k:Nat)(a0:aQ)(e:eM):Nat→Int→Option (Except Int Unit)
 |0,_=>none
 |n+1,c=>
  if c < (e.2.length:Int) then((aP e.2 c).bind fun x=>
  (ck (a0.1 - 1)).bind fun u=>
  (fA k x 0 u).bind fun y=>
  if¬(y=true) then(some (.error 1)) else(((if 0 < c then((aP e.2 c).bind fun r=>
  (ck (c - 1)).bind fun l=>
  (aP e.2 l).bind fun j=>
  some (decide (r≤j))) else(some false)):Option (Bool)).bind fun s=>
  if s=true then(some (.error 5)) else((ck (c+1)).bind fun h=>
  f7 k a0 e n h))) else(some (.ok ()))
def f8(k:Nat)(a0:aQ):Nat→Int→Option (Except Int Unit)
 |0,_=>none
 |n+1,y5=>
  if y5 < (a0.2.1.length:Int) then(bE (α:=Unit) ((aP a0.2.1 y5).bind fun x9=>
  (fA k x9.1 1 3).bind fun j=>
  if¬(j=true) then(some (.error 1)) else((aP a0.2.1 y5).bind fun h=>
  f7 k a0 h k 0)) (fun e=>some (.error e)) fun _=>
  (ck (y5+1)).bind fun c=>
  f8 k a0 n c) else(some (.ok ()))
def f6(k:Nat)(a0:aQ):Nat→Int→Option (Except Int Unit)
 |0,_=>none
 |n+1,c=>
  if c < (a0.2.2.length:Int) then((aP a0.2.2 c).bind fun h=>
  (fA k h 0 9).bind fun j=>
  if¬(j=true) then(some (.error 1)) else((ck (c+1)).bind fun e=>
  f6 k a0 n e)) else(some (.ok ()))
def nw(k:Nat)(a0:aQ):Option Int:=
 (fA k a0.1 1 6).bind fun r2=>
 if¬(r2=true) then(some 1) else(if 5 < (a0.2.1.length:Int) then(some 6) else(bE (α:=Unit) (f8 k a0 k 0) (some) fun _=>
 if(a0.2.2.length:Int)=0 then(some 7) else(if 3 < (a0.2.2.length:Int) then(some 6) else(bE (α:=Unit) (f6 k a0 k 0) (some) fun _=>
 some 0))))
theorem yi(k:Nat)(a0:aQ)(r:Int)(h:nw k a0=some r):
 cd Tryz.prog 21 [.rep av a0] [] (fun _:Unit=>(bv [I r],[])):=by
 unfold nw at h
 replace h:=a9 h
 refine cd.of 87 Tryz.func21 rfl Tryz.ntmps21 rfl fun S w0=>?_
 refine sr ?_
 refine bx fun b1=>?_
 refine cq ?_
 refine nt ?_
 refine ae ?_
 refine sr ?_
 refine fl fP ?_
 refine lo co ?_
 obtain⟨r2,US,h⟩:=aa h
 have UT:=gi k a0.1 1 6 r2 US
 refine jc (ap [.tmp 8,.const (.int .i64 (1)),.const (.int .i64 (6))] rfl rfl Dc rfl UT) ?_
 refine ja (dX rfl) ?_
 refine nt ?_
 refine cw h (fun h=>?_) (fun h=>?_)
 ·
  refine sr (cq (nt (rx ?_)));cases h;exact ra
 ·
  refine sk (ae (sr (fl bV ?_)));refine lo eU ?_;refine ol mG ?_;refine jb (iz rfl) ?_;refine nt (ci h (fun h=>?_) (fun h=>?_))
  ·refine sr (cq (nt (rx ?_)));cases h;exact ra
  ·refine sk (dS (Z:=Unit) (α:=Unit) (fun z4 x3=>[(1,Pt b1)]) (fun z4 x3=>[.obj b1 25 (.rep av a0)]) (fun e=>e=r) h (fun e h=>Option.some.inj h) (fun K hR h=>?_) (fun z4 x3 h=>?_))
   ·refine sr (cq (nt (ao ?_)));refine aJ (fun z6 y5=>[(1,Pt b1),(3,I y5)]) (fun z6 y5=>[.obj b1 25 (.rep av a0)]) (f8 k a0) k () 0 (fun _=>rfl) h (SE.fin [0] ⟨rfl,rfl,trivial⟩ rfl) (fun n z6 y5 h=>?_);unfold f8 at h;refine ae (sr (mq ?_));refine fl bV ?_;refine lo eU ?_;refine ol mG ?_;refine jb (bm rfl) ?_;refine nt (ci h (fun h=>?_) (fun h=>?_))
    ·refine sk (dS (Z:=Unit) (α:=Unit) (fun z8 x7=>[(1,Pt b1),(3,I y5)]) (fun z8 x7=>[.obj b1 25 (.rep av a0)]) (fun e=>e=r) h (fun e h=>hR e h) (fun K hR h=>?_) (fun z8 x7 h=>?_))
     ·refine ao (ae (sr (fl bV ?_)));refine lo eU ?_;refine mq ?_;obtain⟨x9,UR,h⟩:=aa h;refine jb (aC (t:=aZ) rfl mG kh UR) ?_;refine ja (aI 1 false rfl kQ rfl) ?_;refine ja (ak (t:=(.int .i64)) rfl co rfl) ?_;obtain⟨UQ,se,h⟩:=aa h;refine jc (ap [.tmp 27,.const (.int .i64 (1)),.const (.int .i64 (3))] rfl rfl Dc rfl (gi k x9.1 1 3 UQ se)) ?_;refine ja (dX rfl) ?_;refine nt (cw h (fun h=>?_) (fun h=>?_))
      ·refine sr (cq (nt (rx (br (bj (aV ?_))))));obtain rfl:=hR _ h;exact ra
      ·refine sk (sr (fl bV ?_));refine lo eU ?_;refine mq ?_;obtain⟨s,mc,h⟩:=aa h;refine jb (aC (t:=aZ) rfl mG kh mc) ?_;refine ja (aI 1 false rfl kz rfl) ?_;refine ja (ak (t:=(.slice (.int .i64))) rfl bG rfl) ?_;refine aq (nt (sr ?_));refine cq (nt (ao ?_));refine aJ (fun D c=>[(1,Pt b1),(3,I y5),(4,Ri s.2),(5,I c)]) (fun D c=>[.obj b1 25 (.rep av a0)]) (f7 k a0 s) k () 0 (fun _=>rfl) h (SE.fin [0] ⟨rfl,rfl,rfl,rfl,trivial⟩ rfl) (fun n D c h=>?_);unfold f7 at h;refine ae (sr ?_);iterate 2 refine mq ?_
       refine ol dE ?_;refine jb (bm rfl) ?_;refine nt (ci h (fun h=>?_) (fun h=>?_))
       ·refine sk (ae (ao (ae (ae (bJ ?_)))));refine dm ?_;refine dm ?_;obtain⟨UN,ac,h⟩:=aa h;refine db (aC (t:=(.int .i64)) rfl dE co ac) ?_;refine da (ak (t:=(.int .i64)) rfl co rfl) ?_;refine da (ar rfl fP) ?_;refine ea 0 (aj rfl co jr rfl) ?_;obtain⟨UM,Y,h⟩:=aa h;refine db (fK rfl Y) ?_;refine df cD ?_;obtain⟨UP,qt,h⟩:=aa h;refine jc (ap [.tmp 45,.const (.int .i64 (0)),.tmp 48] rfl rfl Dc rfl (gi k UN 0 UM UP qt)) ?_;refine ja (dX rfl) ?_;refine nt (cw h (fun h=>?_) (fun h=>?_))
        ·refine sr (cq (nt (rx (br (bj (br (bj (aV ?_))))))));obtain rfl:=hR _ h;exact ra
        ·refine sk (aL (Z:=Unit) (α:=Bool) (fun y l=>[(1,Pt b1),(3,I y5),(4,Ri s.2),(5,I c),(64,.eq (.bool l))]) (fun y l=>[.obj b1 25 (.rep av a0)]) h (fun K h=>?_) (fun y l h=>?_))
         ·refine bJ ?_;refine dm ?_;refine db (iz rfl) ?_;refine kZ rfl rfl rfl (aK rfl) ⟨rfl,trivial⟩ (fun hb=>?_) (fun hb=>?_)
          ·replace h:=cE (oq hb) h;refine aX rfl rfl rfl rfl rfl (aK rfl) ⟨rfl,rfl,trivial⟩ ?_;refine aX rfl rfl rfl rfl rfl (aK rfl) ⟨rfl,rfl,trivial⟩ ?_;obtain⟨UL,X,h⟩:=aa h;refine aX rfl rfl rfl rfl rfl (aC (t:=(.int .i64)) rfl dE co X) ⟨rfl,rfl,rfl,trivial⟩ ?_;refine aX rfl rfl rfl rfl rfl (ak (t:=(.int .i64)) rfl co rfl) ⟨rfl,rfl,trivial⟩ ?_;refine aX rfl rfl rfl rfl rfl (aK rfl) ⟨rfl,rfl,trivial⟩ ?_;refine aX rfl rfl rfl rfl rfl (aK rfl) ⟨rfl,rfl,trivial⟩ ?_;obtain⟨UU,U,h⟩:=aa h;refine aX rfl rfl rfl rfl rfl (fK rfl U) ⟨rfl,rfl,rfl,trivial⟩ ?_;obtain⟨UK,Q,h⟩:=aa h;refine aX rfl rfl rfl rfl rfl (aC (t:=(.int .i64)) rfl dE co Q) ⟨rfl,rfl,rfl,trivial⟩ ?_;refine aX rfl rfl rfl rfl rfl (ak (t:=(.int .i64)) rfl co rfl) ⟨rfl,rfl,trivial⟩ ?_;refine df cD ?_;refine gb (vv rfl) ?_;refine pt (nl ?_);exact jz ((),decide (UL≤UK)) h [0]
          ·replace h:=bQ (nN hb) h;iterate 9 refine dg ?_
           refine df cD ?_;refine gn ?_;refine pf (nl ?_);exact jz ((),false) h [0]
         ·refine cv h (fun h=>?_) (fun h=>?_)
          ·refine sr (cq (nt (aA (br (bj (br (bj (aV ?_))))))));obtain rfl:=hR _ h;exact ra
          ·refine aW (aM (tn (ab (mq ?_))));obtain⟨UJ,O,h⟩:=aa h;refine jb (bb rfl O) ?_;refine aq (nl ?_);exact jz ((),UJ) h [0]
       ·refine dM (aU (aU (bZ (bn ?_))));exact jz ((),()) h [0]
     ·refine ab (mq ?_);obtain⟨UI,M,h⟩:=aa h;refine jb (bb rfl M) ?_;refine aq (nl ?_);exact jz ((),UI) h [0]
    ·refine xa ?_;exact jz ((),()) h [0]
   ·refine ae (sr (fl cK ?_));refine lo bG ?_;refine ol dE ?_;refine jb (fL rfl) ?_;refine nt (ci h (fun h=>?_) (fun h=>?_))
    ·refine sr (cq (nt (rx ?_)));cases h;exact ra
    ·refine sk (ae (sr (fl cK ?_)));refine lo bG ?_;refine ol dE ?_;refine jb (iz rfl) ?_;refine nt (ci h (fun h=>?_) (fun h=>?_))
     ·refine sr (cq (nt (rx ?_)));cases h;exact ra
     ·refine sk (dS (Z:=Unit) (α:=Unit) (fun x E=>[]) (fun x E=>[]) (fun e=>e=r) h (fun e h=>Option.some.inj h) (fun K hR h=>?_) (fun x E h=>?_))
      ·refine sr (cq (nt (ao ?_)));refine aJ (fun u j=>[(1,Pt b1),(6,I j)]) (fun u j=>[.obj b1 25 (.rep av a0)]) (f6 k a0) k () 0 (fun _=>rfl) h (SE.fin [0] ⟨rfl,rfl,trivial⟩ rfl) (fun n u j h=>?_);unfold f6 at h;refine ae (sr (mq ?_));refine fl cK ?_;refine lo bG ?_;refine ol dE ?_;refine jb (bm rfl) ?_;refine nt (ci h (fun h=>?_) (fun h=>?_))
       ·refine sk (ae (ao (sr (fl cK ?_))));refine lo bG ?_;refine mq ?_;obtain⟨UH,J,h⟩:=aa h;refine jb (aC (t:=(.int .i64)) rfl dE co J) ?_;refine ja (ak (t:=(.int .i64)) rfl co rfl) ?_;obtain⟨UO,pp,h⟩:=aa h;refine jc (ap [.tmp 84,.const (.int .i64 (0)),.const (.int .i64 (9))] rfl rfl Dc rfl (gi k UH 0 9 UO pp)) ?_;refine ja (dX rfl) ?_;refine nt (cw h (fun h=>?_) (fun h=>?_))
        ·refine sr (cq (nt (aA (br (bj (aV ?_))))));obtain rfl:=hR _ h;exact ra
        ·refine aW (aM (tn (ab (mq ?_))));obtain⟨UG,F,h⟩:=aa h;refine jb (bb rfl F) ?_;refine aq (nl ?_);exact jz ((),UG) h [0]
       ·refine xa ?_;exact jz ((),()) h []
      ·refine sr (cq (nt (aA ?_)));cases h;exact ra
def lb(k:Nat)(a0:aQ)(a1:Int):Option Bool:=
 (ck ((a0.2.1.length:Int) - 1)).bind fun x2=>
 (fA k a1 0 x2).bind fun r3=>
 some r3
theorem vb(k:Nat)(a0:aQ)(a1:Int)(r:Bool)(h:lb k a0 a1=some r):
 cd Tryz.prog 65 [.rep av a0,I a1] [] (fun _:Unit=>(bv [.eq (.bool r)],[])):=by
 unfold lb at h
 replace h:=a9 h
 refine cd.of 11 Tryz.func65 rfl Tryz.ntmps65 rfl fun S w0=>?_
 refine sr ?_
 refine bx fun b1=>?_
 refine cq ?_
 refine nt ?_
 refine sr ?_
 refine mq ?_
 refine fl bV ?_
 refine lo eU ?_
 refine ol mG ?_
 obtain⟨x2,c,h⟩:=aa h
 refine jb (fK rfl c) ?_
 obtain⟨r3,e,h⟩:=aa h
 have j:=gi k a1 0 x2 r3 e
 refine jc (ap [.tmp 5,.const (.int .i64 (0)),.tmp 9] rfl rfl Dc rfl j) ?_
 refine aq ?_
 refine nt ?_
 refine aA ?_
 cases h
 exact ra
def iQ(k:Nat)(a0:(List Int))(a1:Int):Nat→Int→Option (Except Bool Unit)
 |0,_=>none
 |n+1,y3=>
  if y3 < (a0.length:Int) then((aP a0 y3).bind fun x5=>
  if x5=a1 then(some (.error true)) else((ck (y3+1)).bind fun x6=>
  iQ k a0 a1 n x6)) else(some (.ok ()))
def mQ(k:Nat)(a0:(List Int))(a1:Int):Option Bool:=
 bE (α:=Unit) (iQ k a0 a1 k 0) (some) fun _=>
 some false
theorem nZ(k:Nat)(a0:(List Int))(a1:Int)(r:Bool)(h:mQ k a0 a1=some r):
 cd Tryz.prog 66 [Ri a0,I a1] [] (fun _:Unit=>(bv [.eq (.bool r)],[])):=by
 unfold mQ at h
 replace h:=a9 h
 refine cd.of 18 Tryz.func66 rfl Tryz.ntmps66 rfl fun S w0=>?_
 refine sr ?_
 refine cq ?_
 refine nt ?_
 refine dS (Z:=Unit) (α:=Unit) (fun z2 x1=>[]) (fun z2 x1=>[]) (fun e=>e=r) h (fun e h=>Option.some.inj h) (fun K hR h=>?_) (fun z2 x1 h=>?_)
 ·
  refine sr (cq (nt (ao ?_)));refine aJ (fun z4 y3=>[(0,Ri a0),(1,I a1),(5,I y3)]) (fun z4 y3=>[]) (iQ k a0 a1) k () 0 (fun _=>rfl) h (SE.fin [] ⟨rfl,rfl,rfl,trivial⟩ rfl) (fun n z4 y3 h=>?_);unfold iQ at h;refine ae (sr ?_);iterate 2 refine mq ?_
  refine ol dE ?_;refine jb (bm rfl) ?_;refine nt (ci h (fun h=>?_) (fun h=>?_))
  ·refine sk (ae (ao (sr ?_)));iterate 2 refine mq ?_
   obtain⟨x5,j,h⟩:=aa h;refine jb (aC (t:=(.int .i64)) rfl dE co j) ?_;refine ja (ak (t:=(.int .i64)) rfl co rfl) ?_;refine mq ?_;refine jb (fL rfl) ?_;refine nt (ci h (fun h=>?_) (fun h=>?_))
   ·refine sr (cq (nt (aA (br (bj (aV ?_))))));obtain rfl:=hR _ h;exact ra
   ·refine aW (aM (tn (ab (mq ?_))));obtain⟨x6,c,h⟩:=aa h;refine jb (bb rfl c) ?_;refine aq (nl ?_);exact jz ((),x6) h []
  ·refine xa ?_;exact jz ((),()) h []
 ·
  refine sr (cq (nt (aA ?_)));cases h;exact ra
def cr(k:Nat)(a0:aQ)(a1:(List (List Int)))(y5:(List Int)×Int):Nat→((List Int)×Int×Int)→Option (Except Int ((List Int)×Int))
 |0,_=>none
 |n+1,c=>
  (aP a1 y5.2).bind fun F=>
  if c.2.2 < (F.length:Int) then((aP a1 y5.2).bind fun E=>
  (aP E c.2.2).bind fun D=>
  (lb k a0 D).bind fun J=>
  if¬(J=true) then(some (.error 3)) else((aP a1 y5.2).bind fun y=>
  (aP y c.2.2).bind fun x=>
  (mQ k c.1 x).bind fun I=>
  if I=true then(some (.error 4)) else((aP a1 y5.2).bind fun u=>
  (aP u c.2.2).bind fun e=>
  (dt (bH (List.length c.1+List.length [e]))).bind fun _=>
  (aP a1 y5.2).bind fun s=>
  (aP s c.2.2).bind fun r=>
  (aP a0.2.1 r).bind fun l=>
  (ck (c.2.1+l.1)).bind fun j=>
  (ck (c.2.2+1)).bind fun h=>
  cr k a0 a1 y5 n (c.1++[e],j,h)))) else(some (.ok (c.1,c.2.1)))
def cH(k:Nat)(a0:aQ)(a1:(List (List Int))):Nat→((List Int)×Int)→Option (Except Int (List Int))
 |0,_=>none
 |n+1,y5=>
  if y5.2 < (a1.length:Int) then(bE (α:=(List Int)) (bE (α:=(List Int)×Int) (cr k a0 a1 y5 k (y5.1,0,0)) (fun e=>some (.error e)) fun x9=>
  (aP a0.2.2 y5.2).bind fun h=>
  if h < x9.2 then(some (.error 12)) else(some (.ok x9.1))) (fun e=>some (.error e)) fun x7=>
  (ck (y5.2+1)).bind fun c=>
  cH k a0 a1 n (x7,c)) else(some (.ok y5.1))
def fo(k:Nat)(a0:aQ)(a1:(List (List Int))):Option Int:=
 (nw k a0).bind fun r2=>
 if¬(r2=0) then(some r2) else(if(a1.length:Int) < (a0.2.2.length:Int) then(some 7) else(if(a0.2.2.length:Int) < (a1.length:Int) then(some 6) else(bE (α:=(List Int)) (cH k a0 a1 k (([]:(List Int)),0)) (some) fun x3=>
 if(x3.length:Int) < (a0.2.1.length:Int) then(some 7) else(some 0))))
theorem qs(k:Nat)(a0:aQ)(a1:(List (List Int)))(r:Int)(h:fo k a0 a1=some r):
 cd Tryz.prog 23 [.rep av a0,.rep (.slice (.slice (.int .i64))) a1] [] (fun _:Unit=>(bv [I r],[])):=by
 unfold fo at h
 replace h:=a9 h
 refine cd.of 98 Tryz.func23 rfl Tryz.ntmps23 rfl fun S w0=>?_
 refine sr ?_
 refine bx fun b1=>?_
 refine cq ?_
 refine nt ?_
 refine ae ?_
 refine sr ?_
 refine lo dQ ?_
 obtain⟨r2,Vf,h⟩:=aa h
 have Vg:=yi k a0 r2 Vf
 refine ja (ap [.tmp 10] rfl rfl TR rfl Vg) ?_
 refine aq ?_
 refine nt ?_
 refine sr ?_
 refine mq ?_
 refine jb (iy rfl) ?_
 refine nt ?_
 refine cn h (fun h=>?_) (fun h=>?_)
 ·
  refine sr (mq ?_);refine aq (nt (rx ?_));cases h;exact ra
 ·
  refine sk (ae (sr (mq ?_)));refine ol lE ?_;refine fl cK ?_;refine lo bG ?_;refine ol dE ?_;refine jb (bm rfl) ?_;refine nt (ci h (fun h=>?_) (fun h=>?_))
  ·refine sr (cq (nt (rx ?_)));cases h;exact ra
  ·refine sk (ae (sr (mq ?_)));refine ol lE ?_;refine fl cK ?_;refine lo bG ?_;refine ol dE ?_;refine jb (iz rfl) ?_;refine nt (ci h (fun h=>?_) (fun h=>?_))
   ·refine sr (cq (nt (rx ?_)));cases h;exact ra
   ·refine sk (sr (cq (nt ?_)));refine dS (Z:=Value) (α:=(List Int)) (fun z4 x3=>[(2,Pt b1),(6,.eq z4)]) (fun z4 x3=>[.obj b1 25 (.rep av a0),.sl z4 3 (.int .i64) x3]) (fun e=>e=r) h (fun e h=>Option.some.inj h) (fun K hR h=>?_) (fun z4 x3 h=>?_)
    ·refine sr (cq (nt (ao ?_)));refine dL (SE.nil 3 (.int .i64)) ?_;refine aJ (fun z6 y5=>[(1,.rep (.slice (.slice (.int .i64))) a1),(2,Pt b1),(6,.eq z6),(7,I y5.2)]) (fun z6 y5=>[.obj b1 25 (.rep av a0),.sl z6 3 (.int .i64) y5.1]) (cH k a0 a1) k (.slice none 0 0) (([]:(List Int)),0) (fun _=>rfl) h (SE.fin [1,0] ⟨rfl,rfl,rfl,rfl,trivial⟩ rfl) (fun n z6 y5 h=>?_);unfold cH at h;refine ae (sr ?_);iterate 2 refine mq ?_
     refine ol lE ?_;refine jb (bm rfl) ?_;refine nt (ci h (fun h=>?_) (fun h=>?_))
     ·refine sk (dS (Z:=Value) (α:=(List Int)) (fun z8 x7=>[(1,.rep (.slice (.slice (.int .i64))) a1),(2,Pt b1),(6,.eq z8),(7,I y5.2)]) (fun z8 x7=>[.obj b1 25 (.rep av a0),.sl z8 3 (.int .i64) x7]) (fun e=>e=r) h (fun e h=>hR e h) (fun K hR h=>?_) (fun z8 x7 h=>?_))
      ·refine ao (sr (cq (nt ?_)));refine dS (Z:=Value) (α:=(List Int)×Int) (fun l x9=>[(1,.rep (.slice (.slice (.int .i64))) a1),(2,Pt b1),(6,.eq l),(7,I y5.2),(8,I x9.2)]) (fun l x9=>[.obj b1 25 (.rep av a0),.sl l 3 (.int .i64) x9.1]) (fun e=>e=r) h (fun e h=>hR e h) (fun K hR h=>?_) (fun l x9 h=>?_)
       ·refine sr (cq (nt (ao ?_)));refine aJ (fun j c=>[(1,.rep (.slice (.slice (.int .i64))) a1),(2,Pt b1),(6,.eq j),(7,I y5.2),(8,I c.2.1),(9,I c.2.2)]) (fun j c=>[.obj b1 25 (.rep av a0),.sl j 3 (.int .i64) c.1]) (cr k a0 a1 y5) k z6 (y5.1,0,0) (fun _=>rfl) h (SE.fin [0,1] ⟨rfl,rfl,rfl,rfl,rfl,rfl,trivial⟩ rfl) (fun n j c h=>?_);unfold cr at h;refine ae (sr ?_);iterate 3 refine mq ?_
        obtain⟨VD,US,h⟩:=aa h;refine jb (aC (t:=(.slice (.int .i64))) rfl lE bG US) ?_;refine ja (ak (t:=(.slice (.int .i64))) rfl bG rfl) ?_;refine ol dE ?_;refine jb (bm rfl) ?_;refine nt (ci h (fun h=>?_) (fun h=>?_))
        ·refine sk (ae (ao (ae (ae (bJ ?_)))));refine ea 0 (aj rfl dQ (uD) rfl) ?_;refine dm ?_;refine dm ?_;obtain⟨VC,UR,h⟩:=aa h;refine db (aC (t:=(.slice (.int .i64))) rfl lE bG UR) ?_;refine da (ak (t:=(.slice (.int .i64))) rfl bG rfl) ?_;refine dm ?_;obtain⟨UZ,UQ,h⟩:=aa h;refine db (aC (t:=(.int .i64)) rfl dE co UQ) ?_;refine da (ak (t:=(.int .i64)) rfl co rfl) ?_;refine df cD ?_;obtain⟨U1,UV,h⟩:=aa h;refine jb (ap [.tmp 42,.tmp 49] rfl rfl TA rfl (vb k a0 UZ U1 UV)) ?_;refine ja (dX rfl) ?_;refine nt (cw h (fun h=>?_) (fun h=>?_))
         ·refine sr (cq (nt (rx (br (bj (aV (br (bj (aV ?_)))))))));obtain rfl:=hR _ h;exact ra
         ·refine sk (ae (sr ?_));iterate 3 refine mq ?_
          obtain⟨VB,UP,h⟩:=aa h;refine jb (aC (t:=(.slice (.int .i64))) rfl lE bG UP) ?_;refine ja (ak (t:=(.slice (.int .i64))) rfl bG rfl) ?_;refine mq ?_;obtain⟨u,UO,h⟩:=aa h;refine jb (aC (t:=(.int .i64)) rfl dE co UO) ?_;refine ja (ak (t:=(.int .i64)) rfl co rfl) ?_;obtain⟨U0,UU,h⟩:=aa h;refine fr 1 ?_;refine kb (rn (N:=[(.tmp 52,.eq j),(.tmp 59,I u)]) (ap [.tmp 52,.tmp 59] rfl rfl Ll rfl (nZ k c.1 u U0 UU)) (fun _ _ _ hv hn=>⟨(lend hn.1 hv),hn.2.1,trivial⟩) (fun _=>⟨rfl,vM⟩)) ?_;refine nt (cv h (fun h=>?_) (fun h=>?_))
          ·refine sr (cq (nt (rx (br (bj (aV (br (bj (aV ?_)))))))));obtain rfl:=hR _ h;exact ra
          ·refine sk (jF ?_);refine aH rfl rfl rfl (aK rfl) ⟨rfl,trivial⟩ ?_;refine aH rfl rfl rfl (aK rfl) ⟨rfl,trivial⟩ ?_;refine aH rfl rfl rfl (aK rfl) ⟨rfl,trivial⟩ ?_;obtain⟨VA,UN,h⟩:=aa h;refine aH rfl rfl rfl (aC (t:=(.slice (.int .i64))) rfl lE bG UN) ⟨rfl,rfl,trivial⟩ ?_;refine aH rfl rfl rfl (ak (t:=(.slice (.int .i64))) rfl bG rfl) ⟨rfl,trivial⟩ ?_;refine aH rfl rfl rfl (aK rfl) ⟨rfl,trivial⟩ ?_;obtain⟨s,UM,h⟩:=aa h;refine aH rfl rfl rfl (aC (t:=(.int .i64)) rfl dE co UM) ⟨rfl,rfl,trivial⟩ ?_;refine aH rfl rfl rfl (ak (t:=(.int .i64)) rfl co rfl) ⟨rfl,trivial⟩ ?_;refine aH rfl rfl rfl (bi (t:=(.int .i64)) [(.tmp 68,_)] [s] rfl rfl dw (.cons rfl .int .nil) rfl rfl) ⟨rfl,trivial⟩ ?_;obtain⟨V3,UT,h⟩:=aa h;refine sO 0 rfl (fun v=>[.sl v 3 (.int .i64) (c.1++[s])]) (fun _=>rfl) rfl rfl rfl (bz rfl rfl dw (ay UT)) ⟨rfl,rfl,trivial⟩ ?_;refine aH rfl rfl rfl (aK rfl) ⟨rfl,trivial⟩ ?_;refine aH rfl rfl rfl (ar rfl bV) ⟨rfl,trivial⟩ ?_;refine dr 1 rfl rfl rfl rfl (aj rfl eU jr rfl) ⟨rfl,trivial⟩ ?_;refine aH rfl rfl rfl (aK rfl) ⟨rfl,trivial⟩ ?_;refine aH rfl rfl rfl (aK rfl) ⟨rfl,trivial⟩ ?_;obtain⟨Vz,UL,h⟩:=aa h;refine aH rfl rfl rfl (aC (t:=(.slice (.int .i64))) rfl lE bG UL) ⟨rfl,rfl,trivial⟩ ?_;refine aH rfl rfl rfl (ak (t:=(.slice (.int .i64))) rfl bG rfl) ⟨rfl,trivial⟩ ?_;refine aH rfl rfl rfl (aK rfl) ⟨rfl,trivial⟩ ?_;obtain⟨Vy,UK,h⟩:=aa h;refine aH rfl rfl rfl (aC (t:=(.int .i64)) rfl dE co UK) ⟨rfl,rfl,trivial⟩ ?_;refine aH rfl rfl rfl (ak (t:=(.int .i64)) rfl co rfl) ⟨rfl,trivial⟩ ?_;obtain⟨Vx,UJ,h⟩:=aa h;refine aH rfl rfl rfl (aC (t:=aZ) rfl mG kh UJ) ⟨rfl,rfl,trivial⟩ ?_;refine aH rfl rfl rfl (aI 1 false rfl kQ rfl) ⟨rfl,trivial⟩ ?_;refine aH rfl rfl rfl (ak (t:=(.int .i64)) rfl co rfl) ⟨rfl,trivial⟩ ?_;obtain⟨UY,UI,h⟩:=aa h;refine aH rfl rfl rfl (bb rfl UI) ⟨rfl,rfl,trivial⟩ ?_;refine mB 24 [true,true,true,true,true,true,true,true,true,true,false,false,false,false,false,false,false,false,false,false,false,false,false,false] [6] [1] [.obj b1 25 (.rep av a0)] rfl (by kernel_rfl) (by kernel_rfl) (by kernel_rfl) cD (fun vs hv hB=>?_);obtain⟨w0,V2,rfl,Ve⟩:=an hv;obtain⟨w1,V1,rfl,Vd⟩:=an Ve;obtain⟨w2,V0,rfl,Vb⟩:=an Vd;obtain⟨w3,VZ,rfl,Va⟩:=an Vb;obtain⟨w4,VY,rfl,U8⟩:=an Va;obtain⟨w5,VX,rfl,U7⟩:=an U8;obtain⟨w6,VV,rfl,U6⟩:=an U7;obtain⟨w7,VU,rfl,U4⟩:=an U6;obtain⟨w8,VT,rfl,U2⟩:=an U4;obtain⟨x,Vv,rfl,qt⟩:=an U2;obtain⟨VS,Vu,rfl,pp⟩:=an qt;obtain⟨VQ,Vt,rfl,mc⟩:=an pp;obtain⟨VP,Vs,rfl,ac⟩:=an mc;obtain⟨VO,Vr,rfl,Y⟩:=an ac;obtain⟨VN,Vq,rfl,X⟩:=an Y;obtain⟨VM,Vp,rfl,U⟩:=an X;obtain⟨VL,Vo,rfl,Q⟩:=an U;obtain⟨VK,Vn,rfl,O⟩:=an Q;obtain⟨VJ,Vm,rfl,M⟩:=an O;obtain⟨VI,Vl,rfl,J⟩:=an M;obtain⟨VH,Vk,rfl,F⟩:=an J;obtain⟨VG,Vj,rfl,E⟩:=an F;obtain⟨VF,Vi,rfl,D⟩:=an E;obtain⟨VE,Vh,rfl,y⟩:=an D;obtain rfl:=kw y;refine⟨[0,1],[.sl x 3 (.int .i64) (c.1++[s])],by kernel_rfl,by decide,?_⟩;refine pI rfl rfl rfl rfl (fC rfl) ⟨rfl,trivial⟩ (by kernel_rfl) ?_;refine Do (by kernel_rfl) ?_;refine aq (au (aM (tn (ab ?_))));refine mq ?_;obtain⟨UX,UH,h⟩:=aa h
           refine jb (bb rfl UH) ?_;refine aq (nl ?_);exact jz (x,(c.1++[s],UY,UX)) h [0,1]
        ·refine xa ?_;exact jz (j,(c.1,c.2.1)) h [0,1]
       ·refine sr (mq ?_);refine fl cK ?_;refine lo bG ?_;refine mq ?_;obtain⟨Vw,UG,h⟩:=aa h;refine jb (aC (t:=(.int .i64)) rfl dE co UG) ?_;refine ja (ak (t:=(.int .i64)) rfl co rfl) ?_;refine jb (iz rfl) ?_;refine nt (ci h (fun h=>?_) (fun h=>?_))
        ·refine sr (cq (nt (aA (br (bj (aV ?_))))));obtain rfl:=hR _ h;exact ra
        ·refine aW (bn ?_);exact jz (l,x9.1) h [0,1]
      ·refine ab (mq ?_);obtain⟨UW,se,h⟩:=aa h;refine jb (bb rfl se) ?_;refine aq (nl ?_);exact jz (z8,(x7,UW)) h [0,1]
     ·refine xa ?_;exact jz (z6,y5.1) h [0,1]
    ·refine ae (sr (mq ?_));refine fr 1 ?_;refine ka (dj rfl rfl dE) ?_;refine fl bV ?_;refine fr 1 ?_;refine lo eU ?_;refine ol mG ?_;refine jb (bm rfl) ?_;refine nt (ci h (fun h=>?_) (fun h=>?_))
     ·refine sr (cq (nt (rx ?_)));cases h;exact ra
     ·refine sk (sr (cq (nt (aA ?_))));cases h;exact ra
def je(k:Nat)(a0:aQ)(a1:(List (List Int)))(a2:Bool):Option Int:=
 (fo k a0 a1).bind fun r2=>
 if¬(r2=0) then(some r2) else(if¬(a2=true) then(some 3) else(some 0))
theorem rQ(k:Nat)(a0:aQ)(a1:(List (List Int)))(a2:Bool)(r:Int)(h:je k a0 a1 a2=some r):
 cd Tryz.prog 59 [.rep av a0,.rep (.slice (.slice (.int .i64))) a1,.eq (.bool a2)] [] (fun _:Unit=>(bv [I r],[])):=by
 unfold je at h
 replace h:=a9 h
 refine cd.of 16 Tryz.func59 rfl Tryz.ntmps59 rfl fun S w0=>?_
 refine sr ?_
 refine bx fun b1=>?_
 refine cq ?_
 refine nt ?_
 refine ae ?_
 refine sr ?_
 refine lo dQ ?_
 refine mq ?_
 obtain⟨r2,c,h⟩:=aa h
 have e:=qs k a0 a1 r2 c
 refine jb (ap [.tmp 8,.tmp 9] rfl rfl TP rfl e) ?_
 refine aq ?_
 refine nt ?_
 refine sr ?_
 refine mq ?_
 refine jb (iy rfl) ?_
 refine nt ?_
 refine cn h (fun h=>?_) (fun h=>?_)
 ·
  refine sr (mq ?_);refine aq (nt (rx ?_));cases h;exact ra
 ·
  refine sk (ae (sr (mq ?_)));refine ja (dX rfl) ?_;refine nt (cw h (fun h=>?_) (fun h=>?_))
  ·refine sr (cq (nt (rx ?_)));cases h;exact ra
  ·refine sk (sr (cq (nt (aA ?_))));cases h;exact ra
def o4(k:Nat)(a0:aQ)(a1:Int)(a2:Int):Option Bool:=
 (aP a0.2.1 a1).bind fun x2=>
 (mQ k x2.2 a2).bind fun r3=>
 some r3
theorem zI(k:Nat)(a0:aQ)(a1:Int)(a2:Int)(r:Bool)(h:o4 k a0 a1 a2=some r):
 cd Tryz.prog 131 [.rep av a0,I a1,I a2] [] (fun _:Unit=>(bv [.eq (.bool r)],[])):=by
 unfold o4 at h
 replace h:=a9 h
 refine cd.of 15 Tryz.func131 rfl Tryz.ntmps131 rfl fun S w0=>?_
 refine sr ?_
 refine bx fun b1=>?_
 refine cq ?_
 refine nt ?_
 refine sr ?_
 refine fl bV ?_
 refine lo eU ?_
 refine mq ?_
 obtain⟨x2,c,h⟩:=aa h
 refine jb (aC (t:=aZ) rfl mG kh c) ?_
 refine ja (aI 1 false rfl kz rfl) ?_
 refine ja (ak (t:=(.slice (.int .i64))) rfl bG rfl) ?_
 refine mq ?_
 obtain⟨r3,e,h⟩:=aa h
 have j:=nZ k x2.2 a2 r3 e
 refine jb (ap [.tmp 12,.tmp 13] rfl rfl Ll rfl j) ?_
 refine aq ?_
 refine nt ?_
 refine aA ?_
 cases h
 exact ra
def jN(k:Nat)(a0:aQ)(a1:(List Int))(a2:Int):Nat→((List Int)×(List Int)×(List Int)×Int)→Option ((List Int)×(List Int)×(List Int))
 |0,_=>none
 |n+1,y4=>
  if y4.2.2.2 < (a1.length:Int) then((((aP a1 y4.2.2.2).bind fun x8=>
  (o4 k a0 x8 a2).bind fun r9=>
  if r9=true then((aP a1 y4.2.2.2).bind fun h=>
  (dt (bH (List.length y4.2.2.1+List.length [h]))).bind fun _=>
  some (y4.1,y4.2.1,y4.2.2.1++[h])) else((aP a1 y4.2.2.2).bind fun c=>
  (dt (bH (List.length y4.2.1+List.length [c]))).bind fun _=>
  if 0 < (y4.2.2.1.length:Int) then((aP a1 y4.2.2.2).bind fun e=>
  (dt (bH (List.length y4.1+List.length [e]))).bind fun _=>
  some (y4.1++[e],y4.2.1++[c],y4.2.2.1)) else(some (y4.1,y4.2.1++[c],y4.2.2.1)))):Option ((List Int)×(List Int)×(List Int))).bind fun x6=>
  (ck (y4.2.2.2+1)).bind fun j=>
  jN k a0 a1 a2 n (x6.1,x6.2.1,x6.2.2,j)) else(some (y4.1,y4.2.1,y4.2.2.1))
def rP(k:Nat)(a0:aQ)(a1:(List Int))(a2:Int):Option ((List Int)×(List Int)):=
 ((jN k a0 a1 a2 k (([]:(List Int)),([]:(List Int)),([]:(List Int)),0)):Option ((List Int)×(List Int)×(List Int))).bind fun x2=>
 (dt (bH (List.length x2.2.1+List.length x2.2.2))).bind fun _=>
 some (x2.1,x2.2.1++x2.2.2)
theorem BW(k:Nat)(a0:aQ)(a1:(List Int))(a2:Int)(r:(List Int)×(List Int))(h:rP k a0 a1 a2=some r):
 cd Tryz.prog 101 [.rep av a0,Ri a1,I a2] [] (fun _:Unit=>(bv [Ri r.1,Ri r.2],[])):=by
 unfold rP at h
 replace h:=a9 h
 refine cd.of 53 Tryz.func101 rfl Tryz.ntmps101 rfl fun S w0=>?_
 refine sr ?_
 refine bx fun b1=>?_
 refine cq ?_
 refine cq ?_
 refine nt ?_
 refine sr ?_
 refine cq ?_
 refine cq ?_
 refine cq ?_
 refine nt ?_
 refine aL (Z:=Value×Value×Value) (α:=(List Int)×(List Int)×(List Int)) (fun z3 x2=>[(8,.eq z3.1),(9,.eq z3.2.1),(10,.eq z3.2.2)]) (fun z3 x2=>[.sl z3.1 3 (.int .i64) x2.1,.sl z3.2.1 3 (.int .i64) x2.2.1,.sl z3.2.2 3 (.int .i64) x2.2.2]) h (fun K h=>?_) (fun z3 x2 h=>?_)
 ·
  refine sr (cq (nt (ao ?_)));refine dL (SE.nil 3 (.int .i64)) ?_;refine dL (SE.nil 3 (.int .i64)) ?_;refine dL (SE.nil 3 (.int .i64)) ?_;refine aJ (fun z5 y4=>[(1,Ri a1),(2,I a2),(3,Pt b1),(8,.eq z5.1),(9,.eq z5.2.1),(10,.eq z5.2.2),(11,I y4.2.2.2)]) (fun z5 y4=>[.obj b1 25 (.rep av a0),.sl z5.1 3 (.int .i64) y4.1,.sl z5.2.1 3 (.int .i64) y4.2.1,.sl z5.2.2 3 (.int .i64) y4.2.2.1]) (jN k a0 a1 a2) k ((.slice none 0 0),(.slice none 0 0),(.slice none 0 0)) (([]:(List Int)),([]:(List Int)),([]:(List Int)),0) (fun _=>rfl) h (SE.fin [3,2,1,0] ⟨rfl,rfl,rfl,rfl,rfl,rfl,rfl,trivial⟩ rfl) (fun n z5 y4 h=>?_);unfold jN at h;refine ae (sr ?_);iterate 2 refine mq ?_
  refine ol dE ?_;refine jb (bm rfl) ?_;refine nt (ci h (fun h=>?_) (fun h=>?_))
  ·refine sk (aL (Z:=Value×Value×Value) (α:=(List Int)×(List Int)×(List Int)) (fun z7 x6=>[(1,Ri a1),(2,I a2),(3,Pt b1),(8,.eq z7.1),(9,.eq z7.2.1),(10,.eq z7.2.2),(11,I y4.2.2.2)]) (fun z7 x6=>[.obj b1 25 (.rep av a0),.sl z7.1 3 (.int .i64) x6.1,.sl z7.2.1 3 (.int .i64) x6.2.1,.sl z7.2.2 3 (.int .i64) x6.2.2]) h (fun K h=>?_) (fun z7 x6 h=>?_))
   ·refine ao (ae (ae (bJ ?_)));refine ea 0 (aj rfl dQ (uD) rfl) ?_;refine dm ?_;refine dm ?_;obtain⟨x8,U,h⟩:=aa h;refine db (aC (t:=(.int .i64)) rfl dE co U) ?_;refine da (ak (t:=(.int .i64)) rfl co rfl) ?_;refine dm ?_;refine df cD ?_;obtain⟨r9,X,h⟩:=aa h;refine jc (ap [.tmp 18,.tmp 22,.tmp 23] rfl rfl QW rfl (zI k a0 x8 a2 r9 X)) ?_;refine nt (cv h (fun h=>?_) (fun h=>?_))
    ·refine sr ?_;iterate 3 refine mq ?_
     obtain⟨j,y,h⟩:=aa h;refine jb (aC (t:=(.int .i64)) rfl dE co y) ?_;refine ja (ak (t:=(.int .i64)) rfl co rfl) ?_;refine ja (bi (t:=(.int .i64)) [(.tmp 29,_)] [j] rfl rfl dw (.cons rfl .int .nil) rfl rfl) ?_;obtain⟨qt,J,h⟩:=aa h;refine fr 3 ?_;refine cF rfl rfl rfl (bz rfl rfl dw (ay J)) ⟨rfl,rfl,trivial⟩ fun Q=>?_;refine aq (nt (dM (aU (bZ (ag ?_)))));exact jz ((z5.1,z5.2.1,Q),(y4.1,y4.2.1,y4.2.2.1++[j])) h [1,2,3,0]
    ·refine sk (sr ?_);iterate 3 refine mq ?_
     obtain⟨c,x,h⟩:=aa h;refine jb (aC (t:=(.int .i64)) rfl dE co x) ?_;refine ja (ak (t:=(.int .i64)) rfl co rfl) ?_;refine ja (bi (t:=(.int .i64)) [(.tmp 36,_)] [c] rfl rfl dw (.cons rfl .int .nil) rfl rfl) ?_;obtain⟨pp,F,h⟩:=aa h;refine fr 2 ?_;refine cF rfl rfl rfl (bz rfl rfl dw (ay F)) ⟨rfl,rfl,trivial⟩ fun l=>?_;refine aq (nt (sr ?_));refine mq ?_;refine fr 3 ?_;refine ka (dj rfl rfl dE) ?_;refine jb (iz rfl) ?_;refine nt (ci h (fun h=>?_) (fun h=>?_))
     ·refine ab ?_;iterate 3 refine mq ?_
      obtain⟨e,u,h⟩:=aa h;refine jb (aC (t:=(.int .i64)) rfl dE co u) ?_;refine ja (ak (t:=(.int .i64)) rfl co rfl) ?_;refine ja (bi (t:=(.int .i64)) [(.tmp 46,_)] [e] rfl rfl dw (.cons rfl .int .nil) rfl rfl) ?_;obtain⟨mc,E,h⟩:=aa h;refine fr 3 ?_;refine cF rfl rfl rfl (bz rfl rfl dw (ay E)) ⟨rfl,rfl,trivial⟩ fun O=>?_;refine aq (au (bn ?_));exact jz ((O,l,z5.2.2),(y4.1++[e],y4.2.1++[c],y4.2.2.1)) h [3,0,2,1]
     ·refine aW (bn ?_);exact jz ((z5.1,l,z5.2.2),(y4.1,y4.2.1++[c],y4.2.2.1)) h [2,3,1,0]
   ·refine ab (mq ?_);obtain⟨M,s,h⟩:=aa h;refine jb (bb rfl s) ?_;refine aq (nl ?_);exact jz ((z7.1,z7.2.1,z7.2.2),(x6.1,x6.2.1,x6.2.2,M)) h [0,1,2,3]
  ·refine xa ?_;exact jz ((z5.1,z5.2.1,z5.2.2),(y4.1,y4.2.1,y4.2.2.1)) h [1,2,3]
 ·
  refine sr ?_;iterate 3 refine mq ?_
  refine fr 2 ?_;refine cC (eD [10,51] ⟨rfl,rfl,trivial⟩) ?_;obtain⟨ac,D,h⟩:=aa h;refine fr 1 ?_;refine cF rfl rfl rfl (bz rfl rfl dw (ay D)) ⟨rfl,rfl,trivial⟩ fun Y=>?_;refine aq ?_;refine aq (nt (aA ?_));refine dq 1 rfl ?_;refine bC (eD [6,8,49] ⟨rfl,rfl,rfl,trivial⟩) ?_;refine bC (eD [7,52] ⟨rfl,rfl,trivial⟩) ?_;cases h;exact rb
def iS(k:Nat)(e:(List Int)×(List Int)):Nat→((List Int)×Int)→Option (List Int)
 |0,_=>none
 |n+1,c=>
  if c.2 < (e.1.length:Int) then((aP e.1 c.2).bind fun h=>
  (aP e.1 c.2).bind fun s=>
  (aP c.1 s).bind fun r=>
  (ck (r+1)).bind fun l=>
  (aP c.1 h).bind fun u=>
  (ck (c.2+1)).bind fun j=>
  iS k e n (List.set c.1 (Int.toNat h) l,j)) else(some c.1)
def iU(k:Nat)(a0:aQ)(y6:(List Int)×(List (List Int))×Int):Nat→((List Int)×(List (List Int))×Int)→Option ((List Int)×(List (List Int)))
 |0,_=>none
 |n+1,c=>
  if c.2.2 < (y6.2.1.length:Int) then((((aP y6.2.1 c.2.2).bind fun r=>
  (rP k a0 r y6.2.2).bind fun e=>
  ((iS k e k (c.1,0)):Option ((List Int))).bind fun l=>
  (dt (bH (List.length c.2.1+List.length [e.2]))).bind fun _=>
  some (l,c.2.1++[e.2])):Option ((List Int)×(List (List Int)))).bind fun h=>
  (ck (c.2.2+1)).bind fun j=>
  iU k a0 y6 n (h.1,h.2,j)) else(some (c.1,c.2.1))
def jU(k:Nat)(a0:aQ)(a3:Int):Nat→((List Int)×(List (List Int))×Int)→Option ((List Int)×(List (List Int)))
 |0,_=>none
 |n+1,y6=>
  if y6.2.2 < a3 then(((((iU k a0 y6 k (y6.1,([]:(List (List Int))),0)):Option ((List Int)×(List (List Int)))).bind fun c=>
  some (c.1,c.2)):Option ((List Int)×(List (List Int)))).bind fun x8=>
  (ck (y6.2.2+1)).bind fun e=>
  jU k a0 a3 n (x8.1,x8.2,e)) else(some (y6.1,y6.2.1))
def nv(k:Nat)(a0:aQ)(a1:(List (List Int)))(a2:Int)(a3:Int):Option ((List Int)×(List (List Int))):=
 (dt (0≤(a0.2.1.length:Int)∧bH (Int.toNat (a0.2.1.length:Int)))).bind fun _=>
 ((jU k a0 a3 k (List.replicate (Int.toNat (a0.2.1.length:Int)) 0,a1,a2)):Option ((List Int)×(List (List Int)))).bind fun x4=>
 some (x4.1,x4.2)
theorem t6(k:Nat)(a0:aQ)(a1:(List (List Int)))(a2:Int)(a3:Int)(r:(List Int)×(List (List Int)))(h:nv k a0 a1 a2 a3=some r):
 cd Tryz.prog 61 [.rep av a0,.rep (.slice (.slice (.int .i64))) a1,I a2,I a3] [] (fun _:Unit=>(bv [Ri r.1,.rep (.slice (.slice (.int .i64))) r.2],[])):=by
 unfold nv at h
 replace h:=a9 h
 refine cd.of 72 Tryz.func61 rfl Tryz.ntmps61 rfl fun S w0=>?_
 refine sr ?_
 refine bx fun b1=>?_
 refine cq ?_
 refine cq ?_
 refine nt ?_
 refine sr ?_
 refine fl bV ?_
 refine lo eU ?_
 refine ol mG ?_
 obtain⟨u2,se,h⟩:=aa h
 refine aF rfl rfl rfl (Cm (t:=(.int .i64)) (d:=0) rfl dw Uw (ay se).1 (ay se).2) ⟨rfl,rfl,trivial⟩ fun v3=>?_
 refine aq ?_
 refine nt ?_
 refine sr ?_
 refine mq ?_
 refine aq ?_
 refine nt ?_
 refine aL (Z:=Unit) (α:=(List Int)×(List (List Int))) (fun z5 x4=>[(10,.eq v3),(11,.rep (.slice (.slice (.int .i64))) x4.2)]) (fun z5 x4=>[.sl v3 3 (.int .i64) x4.1]) h (fun K h=>?_) (fun z5 x4 h=>?_)
 ·
  refine sr (mq ?_);refine aq (nt (ao ?_));refine aJ (fun z7 y6=>[(3,I a3),(4,Pt b1),(10,.eq v3),(11,.rep (.slice (.slice (.int .i64))) y6.2.1),(12,I y6.2.2)]) (fun z7 y6=>[.obj b1 25 (.rep av a0),.sl v3 3 (.int .i64) y6.1]) (jU k a0 a3) k () (List.replicate (Int.toNat (a0.2.1.length:Int)) 0,a1,a2) (fun _=>rfl) h (SE.fin [1,0] ⟨rfl,rfl,rfl,rfl,rfl,trivial⟩ rfl) (fun n z7 y6 h=>?_);unfold jU at h;refine ae (sr ?_);iterate 2 refine mq ?_
  refine jb (bm rfl) ?_;refine nt (ci h (fun h=>?_) (fun h=>?_))
  ·refine sk (aL (Z:=Value) (α:=(List Int)×(List (List Int))) (fun z9 x8=>[(3,I a3),(4,Pt b1),(10,.eq v3),(11,.eq z9),(12,I y6.2.2)]) (fun z9 x8=>[.obj b1 25 (.rep av a0),.sl v3 3 (.int .i64) x8.1,.sl z9 23 (.slice (.int .i64)) x8.2]) h (fun K h=>?_) (fun z9 x8 h=>?_))
   ·refine ao (sr (cq (nt ?_)));refine aL (Z:=Value) (α:=(List Int)×(List (List Int))) (fun y u=>[(3,I a3),(4,Pt b1),(10,.eq v3),(12,I y6.2.2),(13,.eq y)]) (fun y u=>[.obj b1 25 (.rep av a0),.sl v3 3 (.int .i64) u.1,.sl y 23 (.slice (.int .i64)) u.2]) h (fun K h=>?_) (fun y u h=>?_)
    ·refine sr (cq (nt (ao ?_)));refine dL (SE.nil 23 (.slice (.int .i64))) ?_;refine aJ (fun e c=>[(3,I a3),(4,Pt b1),(10,.eq v3),(11,.rep (.slice (.slice (.int .i64))) y6.2.1),(12,I y6.2.2),(13,.eq e),(14,I c.2.2)]) (fun e c=>[.obj b1 25 (.rep av a0),.sl v3 3 (.int .i64) c.1,.sl e 23 (.slice (.int .i64)) c.2.1]) (iU k a0 y6) k (.slice none 0 0) (y6.1,([]:(List (List Int))),0) (fun _=>rfl) h (SE.fin [1,2,0] ⟨rfl,rfl,rfl,rfl,rfl,rfl,rfl,trivial⟩ rfl) (fun n e c h=>?_);unfold iU at h;refine ae (sr ?_);iterate 2 refine mq ?_
     refine ol lE ?_;refine jb (bm rfl) ?_;refine nt (ci h (fun h=>?_) (fun h=>?_))
     ·refine sk (aL (Z:=Value) (α:=(List Int)×(List (List Int))) (fun x s=>[(3,I a3),(4,Pt b1),(10,.eq v3),(11,.rep (.slice (.slice (.int .i64))) y6.2.1),(12,I y6.2.2),(13,.eq x),(14,I c.2.2)]) (fun x s=>[.obj b1 25 (.rep av a0),.sl v3 3 (.int .i64) s.1,.sl x 23 (.slice (.int .i64)) s.2]) h (fun K h=>?_) (fun x s h=>?_))
      ·refine ao (ae (bJ ?_));refine ea 0 (aj rfl dQ (uD) rfl) ?_;refine dm ?_;refine dm ?_;obtain⟨UM,pp,h⟩:=aa h;refine db (aC (t:=(.slice (.int .i64))) rfl lE bG pp) ?_;refine da (ak (t:=(.slice (.int .i64))) rfl bG rfl) ?_;refine dm ?_;obtain⟨j,UG,h⟩:=aa h;refine dc (ap [.tmp 36,.tmp 40,.tmp 41] rfl rfl Q7 rfl (BW k a0 UM y6.2.2 j UG)) ?_;refine dm ?_;refine da (dk rfl rfl) ?_;refine da (dk rfl rfl) ?_;refine da (fC rfl) ?_;refine df cD ?_;refine aq (nt ?_);refine aL (Z:=Unit) (α:=(List Int)) (fun M D=>[(3,I a3),(4,Pt b1),(10,.eq v3),(11,.rep (.slice (.slice (.int .i64))) y6.2.1),(12,I y6.2.2),(13,.eq e),(14,I c.2.2),(16,Ri j.2)]) (fun M D=>[.obj b1 25 (.rep av a0),.sl v3 3 (.int .i64) D,.sl e 23 (.slice (.int .i64)) c.2.1]) h (fun K h=>?_) (fun M D h=>?_)
       ·refine sr (cq (nt (ao ?_)));refine aJ (fun J l=>[(3,I a3),(4,Pt b1),(10,.eq v3),(11,.rep (.slice (.slice (.int .i64))) y6.2.1),(12,I y6.2.2),(13,.eq e),(14,I c.2.2),(15,Ri j.1),(16,Ri j.2),(17,I l.2)]) (fun J l=>[.obj b1 25 (.rep av a0),.sl v3 3 (.int .i64) l.1,.sl e 23 (.slice (.int .i64)) c.2.1]) (iS k j) k () (c.1,0) (fun _=>rfl) h (SE.fin [0,1,2] ⟨rfl,rfl,rfl,rfl,rfl,rfl,rfl,rfl,rfl,rfl,trivial⟩ rfl) (fun n J l h=>?_);unfold iS at h;refine ae (sr ?_);iterate 2 refine mq ?_
        refine ol dE ?_;refine jb (bm rfl) ?_;refine nt (ci h (fun h=>?_) (fun h=>?_))
        ·refine sk (ae (ao (bJ ?_)));refine dm ?_;refine dm ?_;refine dm ?_;obtain⟨O,mc,h⟩:=aa h;refine db (aC (t:=(.int .i64)) rfl dE co mc) ?_;refine da (ak (t:=(.int .i64)) rfl co rfl) ?_;refine dm ?_;refine dm ?_;refine dm ?_;obtain⟨UL,ac,h⟩:=aa h;refine db (aC (t:=(.int .i64)) rfl dE co ac) ?_;refine da (ak (t:=(.int .i64)) rfl co rfl) ?_;obtain⟨UP,F,h⟩:=aa h;refine eb 1 (aY (t:=(.int .i64)) rfl dE co F) ?_;refine ea 1 (dW (i:=Int.toNat UL) (off:=0) rfl co (fun _=>rfl) rfl (cy F).2.2 rfl) ?_;obtain⟨UK,Y,h⟩:=aa h;refine db (bb rfl Y) ?_;refine df cD ?_;obtain⟨UO,E,h⟩:=aa h;refine fr 1 ?_;refine kb (aY (t:=(.int .i64)) rfl dE co E) ?_;refine bh rfl rfl (cI (i:=Int.toNat O) rfl co rfl (gz E) rfl .int rfl) ⟨rfl,rfl,trivial⟩ ?_;refine au (aM (tn (ab (mq ?_))));obtain⟨UJ,X,h⟩:=aa h;refine jb (bb rfl X) ?_;refine aq (nl ?_);exact jz ((),(List.set l.1 (Int.toNat O) UK,UJ)) h [1,0,2]
        ·refine xa ?_;exact jz ((),l.1) h [0,1,2]
       ·refine ab ?_;iterate 2 refine mq ?_
        refine ja (bi (t:=(.slice (.int .i64))) [(.tmp 66,_)] [j.2] rfl rfl m7 (.cons rfl .rep .nil) rfl rfl) ?_;obtain⟨UQ,qt,h⟩:=aa h;refine fr 2 ?_;refine cF rfl rfl rfl (bz rfl rfl m7 (ay qt)) ⟨rfl,rfl,trivial⟩ fun UN=>?_;refine aq (au (bn ?_));exact jz (UN,(D,c.2.1++[j.2])) h [1,2,0]
      ·refine ab (mq ?_);obtain⟨UI,U,h⟩:=aa h;refine jb (bb rfl U) ?_;refine aq (nl ?_);exact jz (x,(s.1,s.2,UI)) h [0,1,2]
     ·refine xa ?_;exact jz (e,(c.1,c.2.1)) h [0,1,2]
    ·refine ab (mq ?_);refine aq (au (bn ?_));exact jz (y,(u.1,u.2)) h [0,1,2]
   ·refine ab (mq ?_);obtain⟨UH,Q,h⟩:=aa h;refine jb (bb rfl Q) ?_;refine aq (nl ?_);refine dq 2 rfl ?_;refine bC (eD [11] ⟨rfl,trivial⟩) ?_;exact jz ((),(x8.1,x8.2,UH)) h [0,1]
  ·refine xa ?_;exact jz ((),(y6.1,y6.2.1)) h [1]
 ·
  refine sr ?_;iterate 2 refine mq ?_
  refine aq ?_;refine aq (nt (aA ?_));refine bC (eD [8,10,70] ⟨rfl,rfl,rfl,trivial⟩) ?_;cases h;exact rb
def fp(k:Nat)(a0:aQ)(a1:aQ):Nat→Int→Option (Except Bool Unit)
 |0,_=>none
 |n+1,y8=>
  if y8 < (a0.2.1.length:Int) then((((aP a0.2.1 y8).bind fun l=>
  (aP a1.2.1 y8).bind fun j=>
  if¬(l.1=j.1) then(some true) else((aP a0.2.1 y8).bind fun h=>
  (aP a1.2.1 y8).bind fun e=>
  (dI k h.2 e.2).bind fun s=>
  some (!s))):Option (Bool)).bind fun r=>
  if r=true then(some (.error false)) else((ck (y8+1)).bind fun c=>
  fp k a0 a1 n c)) else(some (.ok ()))
def jy(k:Nat)(a0:aQ)(a1:aQ):Option Bool:=
 ((if¬(a0.1=a1.1) then(some true) else(if¬((a0.2.1.length:Int)=(a1.2.1.length:Int)) then(some true) else((dI k a0.2.2 a1.2.2).bind fun r5=>
 some (!r5)))):Option (Bool)).bind fun x3=>
 if x3=true then(some false) else(bE (α:=Unit) (fp k a0 a1 k 0) (some) fun _=>
 some true)
theorem tG(k:Nat)(a0:aQ)(a1:aQ)(r:Bool)(h:jy k a0 a1=some r):
 cd Tryz.prog 26 [.rep av a0,.rep av a1] [] (fun _:Unit=>(bv [.eq (.bool r)],[])):=by
 unfold jy at h
 replace h:=a9 h
 refine cd.of 64 Tryz.func26 rfl Tryz.ntmps26 rfl fun S w0=>?_
 refine sr ?_
 refine bx fun b1=>?_
 refine bx fun b2=>?_
 refine cq ?_
 refine nt ?_
 refine ae ?_
 refine aL (Z:=Unit) (α:=Bool) (fun z4 x3=>[(2,Pt b1),(3,Pt b2),(27,.eq (.bool x3))]) (fun z4 x3=>[.obj b1 25 (.rep av a0),.obj b2 25 (.rep av a1)]) h (fun K h=>?_) (fun z4 x3 h=>?_)
 ·
  refine ab (fl fP ?_);refine fr 1 ?_;refine lo co ?_;refine fl fP ?_;refine fr 1 ?_;refine lo co ?_;refine jb (iy rfl) ?_;refine mq ?_;refine cm (s:=11) rfl (fun hb=>?_) (fun hb=>?_)
  ·replace h:=cE (KH hb) h;iterate 7 refine gn ?_
   refine pt ?_;refine mq ?_;iterate 6 refine gn ?_
   refine pt (nl ?_);exact jz ((),true) h [1,0]
  ·replace h:=bQ (yw hb) h;refine ga (ar rfl bV) ?_;refine fr 1 ?_;refine jR rfl rfl rfl rfl rfl rfl (aj rfl eU jr rfl) ⟨rfl,trivial⟩ ?_;refine ga (jm rfl rfl mG) ?_;refine ga (ar rfl bV) ?_;refine fr 1 ?_;refine jR rfl rfl rfl rfl rfl rfl (aj rfl eU jr rfl) ⟨rfl,trivial⟩ ?_;refine ga (jm rfl rfl mG) ?_;refine gb (iy rfl) ?_;refine pf ?_;refine mq ?_;refine cm (s:=20) rfl (fun hb=>?_) (fun hb=>?_)
   ·replace h:=cE (KH hb) h;iterate 6 refine gn ?_
    refine pt (nl ?_);exact jz ((),true) h [1,0]
   ·replace h:=bQ (yw hb) h;refine ga (ar rfl cK) ?_;refine fr 1 ?_;refine jR rfl rfl rfl rfl rfl rfl (aj rfl bG jr rfl) ⟨rfl,trivial⟩ ?_;refine ga (ar rfl cK) ?_;refine fr 1 ?_;refine jR rfl rfl rfl rfl rfl rfl (aj rfl bG jr rfl) ⟨rfl,trivial⟩ ?_;obtain⟨r5,Q,h⟩:=aa h;refine gb (ap [.tmp 22,.tmp 24] rfl rfl FQ rfl (fS k a0.2.2 a1.2.2 r5 Q)) ?_;refine ga (dX rfl) ?_;refine pf (nl ?_);exact jz ((), !r5) h [1,0]
 ·
  refine cv h (fun h=>?_) (fun h=>?_)
  ·refine sr (cq (nt (rx ?_)));cases h;exact ra
  ·refine sk (dS (Z:=Unit) (α:=Unit) (fun z7 x6=>[]) (fun z7 x6=>[]) (fun e=>e=r) h (fun e h=>Option.some.inj h) (fun K hR h=>?_) (fun z7 x6 h=>?_))
   ·refine sr (cq (nt (ao ?_)));refine aJ (fun z9 y8=>[(2,Pt b1),(3,Pt b2),(5,I y8)]) (fun z9 y8=>[.obj b1 25 (.rep av a0),.obj b2 25 (.rep av a1)]) (fp k a0 a1) k () 0 (fun _=>rfl) h (SE.fin [0,1] ⟨rfl,rfl,rfl,trivial⟩ rfl) (fun n z9 y8 h=>?_);unfold fp at h;refine ae (sr (mq ?_));refine fl bV ?_;refine lo eU ?_;refine ol mG ?_;refine jb (bm rfl) ?_;refine nt (ci h (fun h=>?_) (fun h=>?_))
    ·refine sk (ae (ao (aL (Z:=Unit) (α:=Bool) (fun j c=>[(2,Pt b1),(3,Pt b2),(5,I y8),(63,.eq (.bool c))]) (fun j c=>[.obj b1 25 (.rep av a0),.obj b2 25 (.rep av a1)]) h (fun K h=>?_) (fun j c h=>?_))))
     ·refine bJ ?_;refine da (ar rfl bV) ?_;refine ea 0 (aj rfl eU jr rfl) ?_;refine dm ?_;obtain⟨X,E,h⟩:=aa h;refine db (aC (t:=aZ) rfl mG kh E) ?_;refine da (aI 1 false rfl kQ rfl) ?_;refine da (ak (t:=(.int .i64)) rfl co rfl) ?_;refine da (ar rfl bV) ?_;refine ea 1 (aj rfl eU jr rfl) ?_;refine dm ?_;obtain⟨U,D,h⟩:=aa h;refine db (aC (t:=aZ) rfl mG kh D) ?_;refine da (aI 1 false rfl kQ rfl) ?_;refine da (ak (t:=(.int .i64)) rfl co rfl) ?_;refine db (iy rfl) ?_;refine kZ rfl rfl rfl (aK rfl) ⟨rfl,trivial⟩ (fun hb=>?_) (fun hb=>?_)
      ·replace h:=cE (KH hb) h;iterate 12 refine dg ?_
       refine df cD ?_;iterate 2 refine gn ?_
       refine pt (nl ?_);exact jz ((),true) h [0,1]
      ·replace h:=bQ (yw hb) h;refine aX rfl rfl rfl rfl rfl (ar rfl bV) ⟨rfl,rfl,trivial⟩ ?_;refine jL 0 rfl rfl rfl rfl rfl rfl (aj rfl eU jr rfl) ⟨rfl,rfl,trivial⟩ ?_;refine aX rfl rfl rfl rfl rfl (aK rfl) ⟨rfl,rfl,trivial⟩ ?_;obtain⟨O,y,h⟩:=aa h;refine aX rfl rfl rfl rfl rfl (aC (t:=aZ) rfl mG kh y) ⟨rfl,rfl,rfl,trivial⟩ ?_;refine aX rfl rfl rfl rfl rfl (aI 1 false rfl kz rfl) ⟨rfl,rfl,trivial⟩ ?_;refine aX rfl rfl rfl rfl rfl (ak (t:=(.slice (.int .i64))) rfl bG rfl) ⟨rfl,rfl,trivial⟩ ?_;refine aX rfl rfl rfl rfl rfl (ar rfl bV) ⟨rfl,rfl,trivial⟩ ?_;refine jL 1 rfl rfl rfl rfl rfl rfl (aj rfl eU jr rfl) ⟨rfl,rfl,trivial⟩ ?_;refine aX rfl rfl rfl rfl rfl (aK rfl) ⟨rfl,rfl,trivial⟩ ?_;obtain⟨M,x,h⟩:=aa h;refine aX rfl rfl rfl rfl rfl (aC (t:=aZ) rfl mG kh x) ⟨rfl,rfl,rfl,trivial⟩ ?_;refine aX rfl rfl rfl rfl rfl (aI 1 false rfl kz rfl) ⟨rfl,rfl,trivial⟩ ?_;refine aX rfl rfl rfl rfl rfl (ak (t:=(.slice (.int .i64))) rfl bG rfl) ⟨rfl,rfl,trivial⟩ ?_;refine df cD ?_;obtain⟨l,F,h⟩:=aa h;refine gb (ap [.tmp 54,.tmp 60] rfl rfl FQ rfl (fS k O.2 M.2 l F)) ?_;refine ga (dX rfl) ?_;refine pf (nl ?_);exact jz ((), !l) h [0,1]
     ·refine cv h (fun h=>?_) (fun h=>?_)
      ·refine sr (cq (nt (aA (br (bj (aV ?_))))));obtain rfl:=hR _ h;exact ra
      ·refine aW (aM (tn (ab (mq ?_))));obtain⟨J,u,h⟩:=aa h;refine jb (bb rfl u) ?_;refine aq (nl ?_);exact jz ((),J) h [0,1]
    ·refine xa ?_;exact jz ((),()) h []
   ·refine sr (cq (nt (aA ?_)));cases h;exact ra
def ic(k:Nat)(r2:(List Int)×(List (List Int))):Nat→(Int×Int)→Option Int
 |0,_=>none
 |n+1,y5=>
  if y5.2 < (r2.1.length:Int) then((aP r2.1 y5.2).bind fun x7=>
  (ck (y5.1+x7)).bind fun x8=>
  (ck (y5.2+1)).bind fun x9=>
  ic k r2 n (x8,x9)) else(some y5.1)
def lR(k:Nat)(a0:aQ)(a1:(List (List Int)))(a2:Int):Option Int:=
 (nv k a0 a1 a2 a0.1).bind fun r2=>
 ((ic k r2 k (0,0)):Option (Int)).bind fun x3=>
 some x3
theorem yh(k:Nat)(a0:aQ)(a1:(List (List Int)))(a2:Int)(r:Int)(h:lR k a0 a1 a2=some r):
 cd Tryz.prog 71 [.rep av a0,.rep (.slice (.slice (.int .i64))) a1,I a2] [] (fun _:Unit=>(bv [I r],[])):=by
 unfold lR at h
 replace h:=a9 h
 refine cd.of 33 Tryz.func71 rfl Tryz.ntmps71 rfl fun S w0=>?_
 refine sr ?_
 refine bx fun b1=>?_
 refine cq ?_
 refine nt ?_
 refine sr ?_
 refine lo dQ ?_
 iterate 2 refine mq ?_
 refine fl fP ?_
 refine lo co ?_
 obtain⟨r2,l,h⟩:=aa h
 have s:=t6 k a0 a1 a2 a0.1 r2 l
 refine aE rfl (ap [.tmp 12,.tmp 13,.tmp 14,.tmp 16] rfl rfl QF rfl s) ⟨rfl,rfl,rfl,rfl,trivial⟩ ?_
 refine mq ?_
 refine xr ?_
 refine xr ?_
 refine aq ?_
 refine aq ?_
 refine nt ?_
 refine sr ?_
 refine cq ?_
 refine nt ?_
 refine aL (Z:=Unit) (α:=Int) (fun z4 x3=>[(9,I x3)]) (fun z4 x3=>[]) h (fun K h=>?_) (fun z4 x3 h=>?_)
 ·
  refine sr (cq (nt (ao ?_)));refine aJ (fun z6 y5=>[(7,Ri r2.1),(9,I y5.1),(10,I y5.2)]) (fun z6 y5=>[]) (ic k r2) k () (0,0) (fun _=>rfl) h (SE.fin [] ⟨rfl,rfl,rfl,trivial⟩ rfl) (fun n z6 y5 h=>?_);unfold ic at h;refine ae (sr ?_);iterate 2 refine mq ?_
  refine ol dE ?_;refine jb (bm rfl) ?_;refine nt (ci h (fun h=>?_) (fun h=>?_))
  ·refine sk (ae (ao (ab ?_)));iterate 3 refine mq ?_
   obtain⟨x7,j,h⟩:=aa h;refine jb (aC (t:=(.int .i64)) rfl dE co j) ?_;refine ja (ak (t:=(.int .i64)) rfl co rfl) ?_;obtain⟨x8,e,h⟩:=aa h;refine jb (bb rfl e) ?_;refine aq (au (aM (tn (ab ?_))));refine mq ?_;obtain⟨x9,c,h⟩:=aa h;refine jb (bb rfl c) ?_;refine aq (nl ?_);exact jz ((),(x8,x9)) h []
  ·refine xa ?_;exact jz ((),y5.1) h []
 ·
  refine sr (mq ?_);refine aq (nt (aA ?_));cases h;exact ra
def fa(k:Nat)(a0:(List Int))(a1:(List Int))(a2:Int)(self:(List Int)→(List Int)→Int→Option ((List (List Int)))):Nat→((List (List Int))×Int)→Option (List (List Int))
 |0,_=>none
 |n+1,y3=>
  if y3.2 < a2 then((((((mQ k a0 y3.2).bind fun r9=>
  if r9=true then((mQ k a1 y3.2).bind fun h=>
  some (!h)) else(some false)):Option (Bool)).bind fun x7=>
  if x7=true then((dt (bH (List.length ([]:(List Int))+List.length a1))).bind fun _=>
  (dt (bH (List.length (([]:(List Int))++a1)+List.length [y3.2]))).bind fun _=>
  (self a0 ((([]:(List Int))++a1)++[y3.2]) a2).bind fun c=>
  (dt (bH (List.length y3.1+List.length c))).bind fun _=>
  some (y3.1++c)) else(some y3.1)):Option ((List (List Int)))).bind fun x5=>
  (ck (y3.2+1)).bind fun e=>
  fa k a0 a1 a2 self n (x5,e)) else(some y3.1)
def dV(k:Nat):Nat→(List Int)→(List Int)→Int→Option ((List (List Int)))
 |0,_,_,_=>none
 |m0+1,a0,a1,a2=>
  if(a1.length:Int)=(a0.length:Int) then(some [a1]) else(((fa k a0 a1 a2 (dV k m0) k (([]:(List (List Int))),0)):Option ((List (List Int)))).bind fun x1=>
  some x1)
theorem wz(k:Nat):
 ∀(n:Nat) (a0:(List Int)) (a1:(List Int)) (a2:Int) (r:(List (List Int))),dV k n a0 a1 a2=some r→cd Tryz.prog 81 [Ri a0,Ri a1,I a2] ([]) (fun _:Unit=>(bv [.rep (.slice (.slice (.int .i64))) r],[])):=by
 intro n
 induction n with
 |zero=>intro a0 a1 a2 r h;cases h
 |succ m0 ih=>
  intro a0 a1 a2 r h;rw [dV] at h;replace h:=a9 h;refine cd.of 42 Tryz.func81 rfl Tryz.ntmps81 rfl fun S w0=>?_;refine sr (cq (nt (ae (sr ?_))));refine mq ?_;refine ol dE ?_;refine mq ?_;refine ol dE ?_;refine jb (fL rfl) ?_;refine nt (ci h (fun h=>?_) (fun h=>?_))
  ·refine sr (mq ?_);refine ja (bi (t:=(.slice (.int .i64))) [(.tmp 14,_)] [a1] rfl rfl m7 (.cons rfl .rep .nil) rfl rfl) ?_;refine aq (nt (rx ?_));cases h;exact ra
  ·refine sk (sr (cq (nt ?_)));refine aL (Z:=Value) (α:=(List (List Int))) (fun z2 x1=>[(7,.eq z2)]) (fun z2 x1=>[.sl z2 23 (.slice (.int .i64)) x1]) h (fun K h=>?_) (fun z2 x1 h=>?_)
   ·refine sr (cq (nt (ao ?_)));refine dL (SE.nil 23 (.slice (.int .i64))) ?_;refine aJ (fun z4 y3=>[(0,Ri a0),(1,Ri a1),(2,I a2),(7,.eq z4),(8,I y3.2)]) (fun z4 y3=>[.sl z4 23 (.slice (.int .i64)) y3.1]) (fa k a0 a1 a2 (dV k m0)) k (.slice none 0 0) (([]:(List (List Int))),0) (fun _=>rfl) h (SE.fin [0] ⟨rfl,rfl,rfl,rfl,rfl,trivial⟩ rfl) (fun n z4 y3 h=>?_);unfold fa at h;refine ae (sr ?_);iterate 2 refine mq ?_
    refine jb (bm rfl) ?_;refine nt (ci h (fun h=>?_) (fun h=>?_))
    ·refine sk (aL (Z:=Value) (α:=(List (List Int))) (fun z6 x5=>[(0,Ri a0),(1,Ri a1),(2,I a2),(7,.eq z6),(8,I y3.2)]) (fun z6 x5=>[.sl z6 23 (.slice (.int .i64)) x5]) h (fun K h=>?_) (fun z6 x5 h=>?_))
     ·refine ao (aL (Z:=Unit) (α:=Bool) (fun z8 x7=>[(0,Ri a0),(1,Ri a1),(2,I a2),(7,.eq z4),(8,I y3.2),(29,.eq (.bool x7))]) (fun z8 x7=>[.sl z4 23 (.slice (.int .i64)) y3.1]) h (fun K h=>?_) (fun z8 x7 h=>?_))
      ·refine ab ?_;iterate 2 refine mq ?_
       obtain⟨r9,J,h⟩:=aa h;refine jb (ap [.tmp 21,.tmp 22] rfl rfl Ll rfl (nZ k a0 y3.2 r9 J)) ?_;refine mq ?_;refine cm (s:=24) rfl (fun hb=>?_) (fun hb=>?_)
       ·replace h:=cE (BD hb) h;refine gm ?_;refine gm ?_;obtain⟨e,D,h⟩:=aa h;refine gb (ap [.tmp 25,.tmp 26] rfl rfl Ll rfl (nZ k a1 y3.2 e D)) ?_;refine ga (dX rfl) ?_;refine pt (nl ?_);exact jz ((), !e) h [0]
       ·replace h:=bQ (BE hb) h;iterate 4 refine gn ?_
        refine pf (nl ?_);exact jz ((),false) h [0]
      ·refine cv h (fun h=>?_) (fun h=>?_)
       ·refine ab ?_;iterate 2 refine mq ?_
        refine aF rfl rfl rfl (jP (t:=(.int .i64)) [] ([]:(List Int)) rfl rfl dw .nil rfl rfl) trivial fun Q=>?_;refine mq ?_;obtain⟨Y,x,h⟩:=aa h;refine cF rfl rfl rfl (bz rfl rfl dw (ay x)) ⟨rfl,rfl,trivial⟩ fun O=>?_;refine mq ?_;refine ja (bi (t:=(.int .i64)) [(.tmp 35,_)] [y3.2] rfl rfl dw (.cons rfl .int .nil) rfl rfl) ?_;obtain⟨X,u,h⟩:=aa h;refine cF rfl rfl rfl (bz rfl rfl dw (ay u)) ⟨rfl,rfl,trivial⟩ fun M=>?_;refine mq ?_;refine cC (eD [37] ⟨rfl,trivial⟩) ?_;obtain⟨c,y,h⟩:=aa h;refine jc (ap [.tmp 31,.tmp 37,.tmp 38] rfl rfl QB rfl (ih a0 ((([]:(List Int))++a1)++[y3.2]) a2 c y)) ?_;obtain⟨U,l,h⟩:=aa h;refine cF rfl rfl rfl (bz rfl rfl m7 (ay l)) ⟨rfl,rfl,trivial⟩ fun F=>?_;refine aq (au (bn ?_));exact jz (F,y3.1++c) h [0]
       ·refine aW (bn ?_);exact jz (z4,y3.1) h [0]
     ·refine ab (mq ?_);obtain⟨E,j,h⟩:=aa h;refine jb (bb rfl j) ?_;refine aq (nl ?_);exact jz (z6,(x5,E)) h [0]
    ·refine xa ?_;exact jz (z4,y3.1) h [0]
   ·refine sr (mq ?_);refine aq (nt (aA ?_));refine bC (eD [6,7,41] ⟨rfl,rfl,rfl,trivial⟩) ?_;cases h;exact ra
def dG(k:Nat)(a0:aQ)(a2:Int)(a3:Int)(r9:(List Int)×(List (List Int)))(e:(List (List Int))):Nat→((List Int)×Int×Int)→Option ((List Int)×Int)
 |0,_=>none
 |n+1,c=>
  if c.2.2 < (e.length:Int) then((((dt (bH (List.length ([]:(List (List Int)))+List.length r9.2))).bind fun _=>
  (aP e c.2.2).bind fun u=>
  (aP (([]:(List (List Int)))++r9.2) a2).bind fun x=>
  (lR k a0 (List.set (([]:(List (List Int)))++r9.2) (Int.toNat a2) u) a3).bind fun j=>
  ((if c.2.1 < 0 then(some true) else(some (decide (j < c.2.1)))):Option (Bool)).bind fun s=>
  if s=true then((aP e c.2.2).bind fun r=>
  some (r,j)) else(some (c.1,c.2.1))):Option ((List Int)×Int)).bind fun h=>
  (ck (c.2.2+1)).bind fun l=>
  dG k a0 a2 a3 r9 e n (h.1,h.2,l)) else(some (c.1,c.2.1))
def iR(k:Nat)(a0:aQ)(a1:(List (List Int)))(a2:Int)(a3:Int):Option ((List Int)×Int×Int):=
 (((ck ((a0.2.2.length:Int) - 1)).bind fun x4=>
 (fA k a2 0 x4).bind fun r5=>
 if r5=true then((fA k a3 0 a0.1).bind fun r6=>
 (je k a0 a1 r6).bind fun r7=>
 some r7) else((je k a0 a1 false).bind fun r8=>
 some r8)):Option (Int)).bind fun x2=>
 if¬(x2=0) then(some ([],0,x2)) else((nv k a0 a1 0 a3).bind fun r9=>
 (aP r9.2 a2).bind fun e=>
 (dV k k e ([]:(List Int)) (a0.2.1.length:Int)).bind fun h=>
 ((dG k a0 a2 a3 r9 h k ([],(-1:Int),0)):Option ((List Int)×Int)).bind fun c=>
 some (c.1,c.2,0))
theorem wy(k:Nat)(a0:aQ)(a1:(List (List Int)))(a2:Int)(a3:Int)(r:(List Int)×Int×Int)(h:iR k a0 a1 a2 a3=some r):
 cd Tryz.prog 30 [.rep av a0,.rep (.slice (.slice (.int .i64))) a1,I a2,I a3] [] (fun _:Unit=>(bv [Ri r.1,I r.2.1,I r.2.2],[])):=by
 unfold iR at h
 replace h:=a9 h
 refine cd.of 87 Tryz.func30 rfl Tryz.ntmps30 rfl fun S w0=>?_
 refine sr ?_
 refine bx fun b1=>?_
 refine cq ?_
 refine cq ?_
 refine cq ?_
 refine nt ?_
 refine ae ?_
 refine aL (Z:=Unit) (α:=Int) (fun z3 x2=>[(1,.rep (.slice (.slice (.int .i64))) a1),(2,I a2),(3,I a3),(4,Pt b1),(11,I x2)]) (fun z3 x2=>[.obj b1 25 (.rep av a0)]) h (fun K h=>?_) (fun z3 x2 h=>?_)
 ·
  refine bJ ?_;refine ea 0 (aj rfl dQ (uD) rfl) ?_;refine dm ?_;refine dm ?_;refine da (ar rfl cK) ?_;refine ea 0 (aj rfl bG jr rfl) ?_;refine da (jm rfl rfl dE) ?_;obtain⟨x4,UI,h⟩:=aa h;refine db (fK rfl UI) ?_;obtain⟨r5,UN,h⟩:=aa h;refine dc (ap [.tmp 22,.const (.int .i64 (0)),.tmp 26] rfl rfl Dc rfl (gi k a2 0 x4 r5 UN)) ?_;refine kZ rfl rfl rfl (aK rfl) ⟨rfl,trivial⟩ (fun hb=>?_) (fun hb=>?_)
  ·replace h:=cE (BD hb) h;refine aX rfl rfl rfl rfl rfl (aK rfl) ⟨rfl,rfl,trivial⟩ ?_;refine aX rfl rfl rfl rfl rfl (ar rfl fP) ⟨rfl,rfl,trivial⟩ ?_;refine jL 0 rfl rfl rfl rfl rfl rfl (aj rfl co jr rfl) ⟨rfl,rfl,trivial⟩ ?_;obtain⟨r6,UM,h⟩:=aa h;refine aX rfl rfl rfl rfl rfl (ap [.tmp 29,.const (.int .i64 (0)),.tmp 31] rfl rfl Dc rfl (gi k a3 0 a0.1 r6 UM)) ⟨rfl,rfl,rfl,rfl,trivial⟩ ?_;refine db (jx rfl) ?_;refine df cD ?_;obtain⟨r7,UL,h⟩:=aa h;refine jc (ap [.tmp 20,.tmp 21,.tmp 33] rfl rfl QG rfl (rQ k a0 a1 r6 r7 UL)) ?_;refine aq (nl ?_);exact jz ((),r7) h [0]
  ·replace h:=bQ (BE hb) h;iterate 4 refine dg ?_
   refine db (mh rfl) ?_;refine df cD ?_;obtain⟨r8,UK,h⟩:=aa h;refine jc (ap [.tmp 20,.tmp 21,.tmp 33] rfl rfl QG rfl (rQ k a0 a1 false r8 UK)) ?_;refine aq (nl ?_);exact jz ((),r8) h [0]
 ·
  refine sr (mq ?_);refine jb (iy rfl) ?_;refine nt (cn h (fun h=>?_) (fun h=>?_))
  ·refine sr (mq ?_);refine cq ?_;refine cq ?_;refine aq (nt (rx ?_));refine bC (my (t:=(.slice (.int .i64))) (x:=[]) 8 rfl .nil rfl rfl) ?_;cases h;exact aO () [_,_,_] 0 ⟨rfl,rfl,rfl,trivial⟩ rfl
  ·refine sk (sr (lo dQ ?_));iterate 2 refine mq ?_
   obtain⟨r9,UJ,h⟩:=aa h;refine aE rfl (ap [.tmp 39,.tmp 40,.const (.int .i64 (0)),.tmp 41] rfl rfl QF rfl (t6 k a0 a1 0 a3 r9 UJ)) ⟨rfl,rfl,rfl,rfl,trivial⟩ ?_;refine mq ?_;refine xr ?_;refine xr ?_;refine aq ?_;refine aq (nt (ae ?_));refine bJ ?_;refine dm ?_;refine dm ?_;obtain⟨O,Y,h⟩:=aa h;refine db (aC (t:=(.slice (.int .i64))) rfl lE bG Y) ?_;refine da (ak (t:=(.slice (.int .i64))) rfl bG rfl) ?_;refine da (ar rfl bV) ?_;refine ea 0 (aj rfl eU jr rfl) ?_;refine da (jm rfl rfl mG) ?_;refine df cD ?_;obtain⟨j,pp,h⟩:=aa h;refine jc (dU (N:=[(.tmp 48,Ri O),(.const (.slice none 0 0),.eq (.slice none 0 0)),(.tmp 51,I (a0.2.1.length:Int))]) (ap [.tmp 48,.const (.slice none 0 0),.tmp 51] rfl rfl QB rfl (wz k k O ([]:(List Int)) (a0.2.1.length:Int) j pp)) fun _ _ _ hn=>⟨hn.1,(j0 (t:=(.slice (.int .i64))) (x:=([]:(List Int))) .nil rfl rfl hn.2.1),hn.2.2.1,trivial⟩) ?_;refine aq (nt (sr ?_));refine cq (nt (sr ?_));refine cq (nt ?_);refine aL (Z:=Unit) (α:=(List Int)×Int) (fun M l=>[(15,Ri l.1),(16,I l.2)]) (fun M l=>[]) h (fun K h=>?_) (fun M l h=>?_)
   ·refine sr (cq (nt (ao ?_)));refine dL (my (t:=(.slice (.int .i64))) (x:=[]) 15 rfl .nil rfl rfl) ?_;refine aJ (fun J c=>[(2,I a2),(3,I a3),(4,Pt b1),(13,.rep (.slice (.slice (.int .i64))) r9.2),(14,.rep (.slice (.slice (.int .i64))) j),(15,Ri c.1),(16,I c.2.1),(17,I c.2.2)]) (fun J c=>[.obj b1 25 (.rep av a0)]) (dG k a0 a2 a3 r9 j) k () ([],(-1:Int),0) (fun _=>rfl) h (SE.fin [0] ⟨rfl,rfl,rfl,rfl,rfl,rfl,rfl,rfl,trivial⟩ rfl) (fun n J c h=>?_);unfold dG at h;refine ae (sr ?_);iterate 2 refine mq ?_
    refine ol lE ?_;refine jb (bm rfl) ?_;refine nt (ci h (fun h=>?_) (fun h=>?_))
    ·refine sk (aL (Z:=Unit) (α:=(List Int)×Int) (fun F e=>[(2,I a2),(3,I a3),(4,Pt b1),(13,.rep (.slice (.slice (.int .i64))) r9.2),(14,.rep (.slice (.slice (.int .i64))) j),(15,Ri e.1),(16,I e.2),(17,I c.2.2)]) (fun F e=>[.obj b1 25 (.rep av a0)]) h (fun K h=>?_) (fun F e h=>?_))
     ·refine ao (sr (aF rfl rfl rfl (jP (t:=(.slice (.int .i64))) [] ([]:(List (List Int))) rfl rfl m7 .nil rfl rfl) trivial fun UP=>?_));refine mq ?_;obtain⟨UQ,ac,h⟩:=aa h;refine cF rfl rfl rfl (bz rfl rfl m7 (ay ac)) ⟨rfl,rfl,trivial⟩ fun UH=>?_;refine aq (nt (sr ?_));iterate 4 refine mq ?_
      obtain⟨UG,X,h⟩:=aa h;refine jb (aC (t:=(.slice (.int .i64))) rfl lE bG X) ?_;refine ja (ak (t:=(.slice (.int .i64))) rfl bG rfl) ?_;obtain⟨UO,y,h⟩:=aa h;refine kb (aY (t:=(.slice (.int .i64))) rfl lE bG y) ?_;refine bh rfl rfl (cI (i:=Int.toNat a2) rfl bG rfl (gz y) rfl .rep rfl) ⟨rfl,rfl,trivial⟩ ?_;refine nt (sr (fr 1 ?_));refine lo dQ ?_;iterate 2 refine mq ?_
      obtain⟨u,mc,h⟩:=aa h;refine fr 1 ?_;refine kc (rn (N:=[(.tmp 69,.rep av a0),(.tmp 70,.eq UH),(.tmp 71,I a3)]) (ap [.tmp 69,.tmp 70,.tmp 71] rfl rfl Tv rfl (yh k a0 (List.set (([]:(List (List Int)))++r9.2) (Int.toNat a2) UG) a3 u mc)) (fun _ _ _ hv hn=>⟨hn.1,(lend hn.2.1 hv),hn.2.2.1,trivial⟩) (fun _=>⟨rfl,vM⟩)) ?_;refine aq (nt ?_);refine aL (Z:=Unit) (α:=Bool) (fun E D=>[(2,I a2),(3,I a3),(4,Pt b1),(13,.rep (.slice (.slice (.int .i64))) r9.2),(14,.rep (.slice (.slice (.int .i64))) j),(15,Ri c.1),(16,I c.2.1),(17,I c.2.2),(19,I u),(79,.eq (.bool D))]) (fun E D=>[.obj b1 25 (.rep av a0)]) h (fun K h=>?_) (fun E D h=>?_)
      ·refine ab (mq ?_);refine jb (bm rfl) ?_;refine mq ?_;refine cm (s:=75) rfl (fun hb=>?_) (fun hb=>?_)
       ·replace h:=cE (oq hb) h;iterate 3 refine gn ?_
        refine pt (nl ?_);exact jz ((),true) h [1]
       ·replace h:=bQ (nN hb) h;refine gm ?_;refine gm ?_;refine gb (bm rfl) ?_;refine pf (nl ?_);exact jz ((),decide (u < c.2.1)) h [1]
      ·refine cv h (fun h=>?_) (fun h=>?_)
       ·refine ab ?_;iterate 2 refine mq ?_
        obtain⟨se,U,h⟩:=aa h;refine jb (aC (t:=(.slice (.int .i64))) rfl lE bG U) ?_;refine ja (ak (t:=(.slice (.int .i64))) rfl bG rfl) ?_;refine mq ?_;refine aq ?_;refine aq (au (bn ?_));exact jz ((),(se,u)) h [0]
       ·refine aW (bn ?_);exact jz ((),(c.1,c.2.1)) h [0]
     ·refine ab (mq ?_);obtain⟨qt,Q,h⟩:=aa h;refine jb (bb rfl Q) ?_;refine aq (nl ?_);exact jz ((),(e.1,e.2,qt)) h [0]
    ·refine xa ?_;exact jz ((),(c.1,c.2.1)) h []
   ·refine sr ?_;iterate 2 refine mq ?_
    refine aq ?_;refine aq ?_;refine cq (nt (aA ?_));cases h;exact aO () [_,_,_] 0 ⟨rfl,rfl,rfl,trivial⟩ rfl
end Go.Proofs.YtghkncjelangeaaGreatDoor
