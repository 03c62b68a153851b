import Derived.Test.YtghkncjelangeaaGreatDoorQCFacts
set_option linter.unusedSimpArgs false
set_option linter.unusedVariables false
set_option maxRecDepth 4000
set_option maxHeartbeats 1000000
namespace Go.Proofs.YtghkncjelangeaaGreatDoor
open K Go Go.Proofs
def jT(k:Nat)(a0:aO):Nat→Int→Option (Except Bool Unit)
 |0,_=>none
 |n+1,y6=>
  if y6 < (a0.2.1.length:Int) then((aQ a0.2.1 y6).bind fun x8=>
  if 20 < (x8.2.length:Int) then(some (.error true)) else((ck (y6+1)).bind fun x9=>
  jT k a0 n x9)) else(some (.ok ()))
def nB(k:Nat)(a0:aO):Option Bool:=
 ((if 20 < (a0.2.1.length:Int) then(some true) else(some (decide (20 < (a0.2.2.length:Int))))):Option (Bool)).bind fun x2=>
 if x2=true then(some true) else(bE (α:=Unit) (jT k a0 k 0) (some) fun _=>
 ((if(a0.2.1.length:Int)=5 then(some (decide ((a0.2.2.length:Int)=3))) else(some false)):Option (Bool)).bind fun c=>
 some c)
theorem Ai(k:Nat)(a0:aO)(r:Bool)(h:nB k a0=some r):
 bX Tryz.prog 10 [.rep av a0] [] (fun _:Unit=>(bq [.eq (.bool r)],[])):=by
 unfold nB at h
 replace h:=a8 h
 refine bX.of 39 Tryz.func10 rfl Tryz.ntmps10 rfl fun S w0=>?_
 refine sr ?_
 refine bx fun b1=>?_
 refine cq ?_
 refine nt ?_
 refine ae ?_
 refine aN (Z:=Unit) (α:=Bool) (fun z3 x2=>[(1,Pt b1),(13,.eq (.bool x2))]) (fun z3 x2=>[.obj b1 25 (.rep av a0)]) h (fun K h=>?_) (fun z3 x2 h=>?_)
 ·
  refine ab (fl bT ?_);refine lo eX ?_;refine ol mD ?_;refine jb (iC rfl) ?_;refine mq ?_;refine cu (s:=8) rfl (fun hb=>?_) (fun hb=>?_)
  ·replace h:=cF (oH hb) h;iterate 4 refine gn ?_
   refine pt (nl ?_);exact jz ((),true) h [0]
  ·replace h:=bN (nL hb) h;refine ga (ar rfl cJ) ?_;refine jM rfl rfl rfl rfl rfl rfl (aj rfl bF jo rfl) ⟨rfl,trivial⟩ ?_;refine ga (jq rfl rfl dw) ?_;refine gb (iC rfl) ?_;refine pf (nl ?_);exact jz ((),decide (20 < (a0.2.2.length:Int))) h [0]
 ·
  refine cv h (fun h=>?_) (fun h=>?_)
  ·refine sr (cq (nt (rx ?_)));cases h;exact ra
  ·refine sk (dN (Z:=Unit) (α:=Unit) (fun z5 x4=>[(1,Pt b1)]) (fun z5 x4=>[.obj b1 25 (.rep av a0)]) (fun e=>e=r) h (fun e h=>Option.some.inj h) (fun K hR h=>?_) (fun z5 x4 h=>?_))
   ·refine sr (cq (nt (ao ?_)));refine aK (fun z7 y6=>[(1,Pt b1),(3,I y6)]) (fun z7 y6=>[.obj b1 25 (.rep av a0)]) (jT k a0) k () 0 (fun _=>rfl) h (SE.fin [0] ⟨rfl,rfl,trivial⟩ rfl) (fun n z7 y6 h=>?_);unfold jT at h;refine ae (sr (mq ?_));refine fl bT ?_;refine lo eX ?_;refine ol mD ?_;refine jb (bp rfl) ?_;refine nt (ci h (fun h=>?_) (fun h=>?_))
    ·refine sk (ae (ao (sr (fl bT ?_))));refine lo eX ?_;refine mq ?_;obtain⟨x8,u,h⟩:=aa h;refine jb (aA (t:=aY) rfl mD j7 u) ?_;refine ja (aJ 1 false rfl ku rfl) ?_;refine ja (ak (t:=(.slice (.int .i64))) rfl bF rfl) ?_;refine ol dw ?_;refine jb (iC rfl) ?_;refine nt (ci h (fun h=>?_) (fun h=>?_))
     ·refine sr (cq (nt (ay (br (bi (aV ?_))))));obtain rfl:=hR _ h;exact ra
     ·refine aW (aM (tn (ab (mq ?_))));obtain⟨x9,l,h⟩:=aa h;refine jb (bf rfl l) ?_;refine aq (nl ?_);exact jz ((),x9) h [0]
    ·refine xa ?_;exact jz ((),()) h [0]
   ·refine aN (Z:=Unit) (α:=Bool) (fun j c=>[(2,.eq (.bool c))]) (fun j c=>[]) h (fun K h=>?_) (fun j c h=>?_)
    ·refine ab (fl bT ?_);refine lo eX ?_;refine ol mD ?_;refine jb (fM rfl) ?_;refine mq ?_;refine cu (s:=33) rfl (fun hb=>?_) (fun hb=>?_)
     ·replace h:=cF (oH hb) h;refine ga (ar rfl cJ) ?_;refine jM rfl rfl rfl rfl rfl rfl (aj rfl bF jo rfl) ⟨rfl,trivial⟩ ?_;refine ga (jq rfl rfl dw) ?_;refine gb (fM rfl) ?_;refine pt ?_;refine aq (nl ?_);exact jz ((),decide ((a0.2.2.length:Int)=3)) h []
     ·replace h:=bN (nL hb) h;iterate 4 refine gn ?_
      refine pf ?_;refine aq (nl ?_);exact jz ((),false) h []
    ·refine ay ?_;cases h;exact ra
def jS(k:Nat)(a0:(List (List Int))):Nat→Int→Option (Except Bool Unit)
 |0,_=>none
 |n+1,y3=>
  ((if y3 < (a0.length:Int) then(some (decide (y3 < 20))) else(some false)):Option (Bool)).bind fun x5=>
  if x5=true then((aQ a0 y3).bind fun x7=>
  if 20 < (x7.length:Int) then(some (.error true)) else((ck (y3+1)).bind fun x8=>
  jS k a0 n x8)) else(some (.ok ()))
def nz(k:Nat)(a0:(List (List Int))):Option Bool:=
 bE (α:=Unit) (jS k a0 k 0) (some) fun _=>
 some (decide (20 < (a0.length:Int)))
theorem Ah(k:Nat)(a0:(List (List Int)))(r:Bool)(h:nz k a0=some r):
 bX Tryz.prog 11 [.rep (.slice (.slice (.int .i64))) a0] [] (fun _:Unit=>(bq [.eq (.bool r)],[])):=by
 unfold nz at h
 replace h:=a8 h
 refine bX.of 23 Tryz.func11 rfl Tryz.ntmps11 rfl fun S w0=>?_
 refine sr ?_
 refine cq ?_
 refine nt ?_
 refine dN (Z:=Unit) (α:=Unit) (fun z2 x1=>[(0,.rep (.slice (.slice (.int .i64))) a0)]) (fun z2 x1=>[]) (fun e=>e=r) h (fun e h=>Option.some.inj h) (fun K hR h=>?_) (fun z2 x1 h=>?_)
 ·
  refine sr (cq (nt (ao ?_)));refine aK (fun z4 y3=>[(0,.rep (.slice (.slice (.int .i64))) a0),(3,I y3)]) (fun z4 y3=>[]) (jS k a0) k () 0 (fun _=>rfl) h (SE.fin [] ⟨rfl,rfl,trivial⟩ rfl) (fun n z4 y3 h=>?_);unfold jS at h;refine ae (aN (Z:=Unit) (α:=Bool) (fun z6 x5=>[(0,.rep (.slice (.slice (.int .i64))) a0),(3,I y3),(11,.eq (.bool x5))]) (fun z6 x5=>[]) h (fun K h=>?_) (fun z6 x5 h=>?_))
  ·refine ab ?_;iterate 2 refine mq ?_
   refine ol lw ?_;refine jb (bp rfl) ?_;refine mq ?_;refine cu (s:=8) rfl (fun hb=>?_) (fun hb=>?_)
   ·replace h:=cF (oH hb) h;refine gm ?_;refine gb (bp rfl) ?_;refine pt (nl ?_);exact jz ((),decide (y3 < 20)) h []
   ·replace h:=bN (nL hb) h;iterate 2 refine gn ?_
    refine pf (nl ?_);exact jz ((),false) h []
  ·refine cv h (fun h=>?_) (fun h=>?_)
   ·refine sk (ae (ao (sr ?_)));iterate 2 refine mq ?_
    obtain⟨x7,j,h⟩:=aa h;refine jb (aA (t:=(.slice (.int .i64))) rfl lw bF j) ?_;refine ja (ak (t:=(.slice (.int .i64))) rfl bF rfl) ?_;refine ol dw ?_;refine jb (iC rfl) ?_;refine nt (ci h (fun h=>?_) (fun h=>?_))
    ·refine sr (cq (nt (ay (br (bi (aV ?_))))));obtain rfl:=hR _ h;exact ra
    ·refine aW (aM (tn (ab (mq ?_))));obtain⟨x8,c,h⟩:=aa h;refine jb (bf rfl c) ?_;refine aq (nl ?_);exact jz ((),x8) h []
   ·refine xa ?_;exact jz ((),()) h []
 ·
  refine sr (mq ?_);refine ol lw ?_;refine jb (iC rfl) ?_;refine aq (nt (ay ?_));cases h;exact ra
def dG(k:Nat)(a0:Int)(a1:Int)(a2:Int):Option Bool:=
 ((if a1≤a0 then(some (decide (a0≤a2))) else(some false)):Option (Bool)).bind fun x1=>
 some x1
theorem dF(k:Nat)(a0:Int)(a1:Int)(a2:Int)(r:Bool)(h:dG k a0 a1 a2=some r):
 bX Tryz.prog 53 [I a0,I a1,I a2] [] (fun _:Unit=>(bq [.eq (.bool r)],[])):=by
 unfold dG at h
 replace h:=a8 h
 refine bX.of 15 Tryz.func53 rfl Tryz.ntmps53 rfl fun S w0=>?_
 refine sr ?_
 refine cq ?_
 refine nt ?_
 refine aN (Z:=Unit) (α:=Bool) (fun z2 x1=>[(6,.eq (.bool x1))]) (fun z2 x1=>[]) h (fun K h=>?_) (fun z2 x1 h=>?_)
 ·
  refine ab ?_;iterate 2 refine mq ?_
  refine jb (vp rfl) ?_;refine mq ?_;refine cu (s:=10) rfl (fun hb=>?_) (fun hb=>?_)
  ·replace h:=cF (oH hb) h;refine gm ?_;refine gm ?_;refine gb (vp rfl) ?_;refine pt ?_;refine aq (nl ?_);exact jz ((),decide (a0≤a2)) h []
  ·replace h:=bN (nL hb) h;iterate 3 refine gn ?_
   refine pf ?_;refine aq (nl ?_);exact jz ((),false) h []
 ·
  refine ay ?_;cases h;exact ra
def c9(k:Nat)(a0:aO)(a1:eO):Nat→Int→Option (Except Int Unit)
 |0,_=>none
 |n+1,y6=>
  if y6 < (a1.2.length:Int) then((aQ a1.2 y6).bind fun x8=>
  (ck (a0.1 - 1)).bind fun x9=>
  (dG k x8 0 x9).bind fun l=>
  if¬(l=true) then(some (.error 1)) else(((if 0 < y6 then((ck (y6 - 1)).bind fun h=>
  (aQ a1.2 h).bind fun e=>
  some (decide (x8≤e))) else(some false)):Option (Bool)).bind fun j=>
  if j=true then(some (.error 5)) else((ck (y6+1)).bind fun c=>
  c9 k a0 a1 n c))) else(some (.ok ()))
def iK(k:Nat)(a0:aO)(a1:eO):Option Int:=
 (dG k a1.1 1 3).bind fun r3=>
 if¬(r3=true) then(some 1) else(bE (α:=Unit) (c9 k a0 a1 k 0) (some) fun _=>
 some 0)
theorem rE(k:Nat)(a0:aO)(a1:eO)(r:Int)(h:iK k a0 a1=some r):
 bX Tryz.prog 62 [.rep av a0,.rep aY a1] [] (fun _:Unit=>(bq [I r],[])):=by
 unfold iK at h
 replace h:=a8 h
 refine bX.of 38 Tryz.func62 rfl Tryz.ntmps62 rfl fun S w0=>?_
 refine sr ?_
 refine bx fun b1=>?_
 refine bx fun b2=>?_
 refine cq ?_
 refine nt ?_
 refine ae ?_
 refine sr ?_
 refine fl kL ?_
 refine lo cm ?_
 obtain⟨r3,O,h⟩:=aa h
 have Q:=dF k a1.1 1 3 r3 O
 refine jc (ap [.tmp 8,.const (.int .i64 (1)),.const (.int .i64 (3))] rfl rfl wF rfl Q) ?_
 refine ja (dT rfl) ?_
 refine nt ?_
 refine cw h (fun h=>?_) (fun h=>?_)
 ·
  refine sr (cq (nt (rx ?_)));cases h;exact ra
 ·
  refine sk (dN (Z:=Unit) (α:=Unit) (fun z5 x4=>[]) (fun z5 x4=>[]) (fun e=>e=r) h (fun e h=>Option.some.inj h) (fun K hR h=>?_) (fun z5 x4 h=>?_))
  ·refine sr (fl ku ?_);refine lo bF ?_;refine ol dw ?_;refine eU rfl ?_;refine nt (ao (aK (fun z7 y6=>[(2,Pt b1),(3,Pt b2),(12,Ri a1.2),(13,I (a1.2.length:Int)),(14,I y6)]) (fun z7 y6=>[.obj b1 25 (.rep av a0),.obj b2 27 (.rep aY a1)]) (c9 k a0 a1) k () 0 (fun _=>rfl) h (SE.fin [1,0] ⟨rfl,rfl,rfl,rfl,rfl,trivial⟩ rfl) (fun n z7 y6 h=>?_)));unfold c9 at h;refine sr (jb (bp rfl) ?_);refine nt (ae (ci h (fun h=>?_) (fun h=>?_)))
   ·refine sk (ae (ao (sr (mq ?_))));obtain⟨x8,M,h⟩:=aa h;refine jb (aA (t:=(.int .i64)) rfl dw cm M) ?_;refine ja (ak (t:=(.int .i64)) rfl cm rfl) ?_;refine aq ?_;refine aq (nt (ae (sr ?_)));refine mq ?_;refine fl fD ?_;refine lo cm ?_;obtain⟨x9,J,h⟩:=aa h;refine jb (eK rfl J) ?_;obtain⟨F,y,h⟩:=aa h;refine jc (ap [.tmp 19,.const (.int .i64 (0)),.tmp 22] rfl rfl wF rfl (dF k x8 0 x9 F y)) ?_;refine ja (dT rfl) ?_;refine nt (cw h (fun h=>?_) (fun h=>?_))
    ·refine sr (cq (nt (rx (br (bi (aV ?_))))));obtain rfl:=hR _ h;exact ra
    ·refine sk (aN (Z:=Unit) (α:=Bool) (fun j c=>[(2,Pt b1),(3,Pt b2),(12,Ri a1.2),(13,I (a1.2.length:Int)),(14,I y6),(36,.eq (.bool c))]) (fun j c=>[.obj b1 25 (.rep av a0),.obj b2 27 (.rep aY a1)]) h (fun K h=>?_) (fun j c h=>?_))
     ·refine ab (mq ?_);refine jb (iC rfl) ?_;refine mq ?_;refine cu (s:=27) rfl (fun hb=>?_) (fun hb=>?_)
      ·replace h:=cF (oH hb) h;refine gm ?_;refine ga (ar rfl ku) ?_;refine fr 1 ?_;refine jM rfl rfl rfl rfl rfl rfl (aj rfl bF jo rfl) ⟨rfl,trivial⟩ ?_;refine gm ?_;obtain⟨U,x,h⟩:=aa h;refine gb (eK rfl x) ?_;obtain⟨E,u,h⟩:=aa h;refine gb (aA (t:=(.int .i64)) rfl dw cm u) ?_;refine ga (ak (t:=(.int .i64)) rfl cm rfl) ?_;refine gb (vp rfl) ?_;refine pt (nl ?_);exact jz ((),decide (x8≤E)) h [1,0]
      ·replace h:=bN (nL hb) h;iterate 8 refine gn ?_
       refine pf (nl ?_);exact jz ((),false) h [0,1]
     ·refine cv h (fun h=>?_) (fun h=>?_)
      ·refine sr (cq (nt (ay (br (bi (aV ?_))))));obtain rfl:=hR _ h;exact ra
      ·refine aW (aM (tn (ab ?_)));obtain⟨D,l,h⟩:=aa h;refine jb (bf rfl l) ?_;refine mq (nl ?_);exact jz ((),D) h [0,1]
   ·refine xa ?_;exact jz ((),()) h []
  ·refine sr (cq (nt (ay ?_)));cases h;exact ra
def fX(k:Nat)(a0:aO):Nat→Int→Option (Except Int Unit)
 |0,_=>none
 |n+1,y5=>
  if y5 < (a0.2.1.length:Int) then((aQ a0.2.1 y5).bind fun x7=>
  (iK k a0 x7).bind fun r9=>
  if¬(r9=0) then(some (.error r9)) else((ck (y5+1)).bind fun c=>
  fX k a0 n c)) else(some (.ok ()))
def fW(k:Nat)(a0:aO):Nat→Int→Option (Except Int Unit)
 |0,_=>none
 |n+1,c=>
  if c < (a0.2.2.length:Int) then((aQ a0.2.2 c).bind fun h=>
  (dG k h 0 9).bind fun j=>
  if¬(j=true) then(some (.error 1)) else((ck (c+1)).bind fun e=>
  fW k a0 n e)) else(some (.ok ()))
def lK(k:Nat)(a0:aO):Option Int:=
 (dG k a0.1 1 6).bind fun r2=>
 if¬(r2=true) then(some 1) else(if 5 < (a0.2.1.length:Int) then(some 6) else(bE (α:=Unit) (fX k a0 k 0) (some) fun _=>
 if(a0.2.2.length:Int) < 1 then(some 7) else(if 3 < (a0.2.2.length:Int) then(some 6) else(bE (α:=Unit) (fW k a0 k 0) (some) fun _=>
 some 0))))
theorem rG(k:Nat)(a0:aO)(r:Int)(h:lK k a0=some r):
 bX Tryz.prog 20 [.rep av a0] [] (fun _:Unit=>(bq [I r],[])):=by
 unfold lK at h
 replace h:=a8 h
 refine bX.of 51 Tryz.func20 rfl Tryz.ntmps20 rfl fun S w0=>?_
 refine sr ?_
 refine bx fun b1=>?_
 refine cq ?_
 refine nt ?_
 refine ae ?_
 refine sr ?_
 refine fl fD ?_
 refine lo cm ?_
 obtain⟨r2,U,h⟩:=aa h
 have X:=dF k a0.1 1 6 r2 U
 refine jc (ap [.tmp 10,.const (.int .i64 (1)),.const (.int .i64 (6))] rfl rfl wF rfl X) ?_
 refine ja (dT rfl) ?_
 refine nt ?_
 refine cw h (fun h=>?_) (fun h=>?_)
 ·
  refine sr (cq (nt (rx ?_)));cases h;exact ra
 ·
  refine sk (ae (sr (fl bT ?_)));refine lo eX ?_;refine ol mD ?_;refine jb (iC rfl) ?_;refine nt (ci h (fun h=>?_) (fun h=>?_))
  ·refine sr (cq (nt (rx ?_)));cases h;exact ra
  ·refine sk (dN (Z:=Unit) (α:=Unit) (fun z4 x3=>[(1,Pt b1)]) (fun z4 x3=>[.obj b1 25 (.rep av a0)]) (fun e=>e=r) h (fun e h=>Option.some.inj h) (fun K hR h=>?_) (fun z4 x3 h=>?_))
   ·refine sr (fl bT ?_);refine lo eX ?_;refine ol mD ?_;refine eU rfl ?_;refine nt (ao (aK (fun z6 y5=>[(1,Pt b1),(18,Rs aY a0.2.1),(19,I (a0.2.1.length:Int)),(20,I y5)]) (fun z6 y5=>[.obj b1 25 (.rep av a0)]) (fX k a0) k () 0 (fun _=>rfl) h (SE.fin [0] ⟨rfl,rfl,rfl,rfl,trivial⟩ rfl) (fun n z6 y5 h=>?_)));unfold fX at h;refine sr (jb (bp rfl) ?_);refine nt (ae (ci h (fun h=>?_) (fun h=>?_)))
    ·refine sk (ae (ao (sr ?_)));obtain⟨x7,O,h⟩:=aa h;refine jb (aA (t:=aY) rfl mD j7 O) ?_;refine ja (ak (t:=aY) rfl j7 rfl) ?_;refine aF rfl rfl rfl (be rfl ue La) trivial fun b8=>?_;refine bh rfl rfl (bb rfl j7 rfl rfl rfl) ⟨rfl,rfl,trivial⟩ ?_;refine nt (sr (fr 1 ?_));refine lo dj ?_;refine fr 1 ?_;refine lo j7 ?_;obtain⟨r9,Q,h⟩:=aa h;refine jb (ap [.tmp 24,.tmp 25] rfl rfl SJ rfl (rE k a0 x7 r9 Q)) ?_;refine aq (nt (sr ?_));refine mq ?_;refine jb (fL rfl) ?_;refine nt (cn h (fun h=>?_) (fun h=>?_))
     ·refine sr (mq ?_);refine aq (nt (ay (br (bi (aV ?_)))));obtain rfl:=hR _ h;exact ra
     ·refine aW (aM (tn (ab ?_)));obtain⟨J,y,h⟩:=aa h;refine jb (bf rfl y) ?_;refine mq (nl ?_);exact jz ((),J) h [1]
    ·refine xa ?_;exact jz ((),()) h [0]
   ·refine ae (sr (fl cJ ?_));refine lo bF ?_;refine ol dw ?_;refine aq (nt (ao (sr ?_)));refine mq ?_;refine jb (bp rfl) ?_;refine aq (nt ?_);refine ci h (fun h=>?_) (fun h=>?_)
    ·refine sr (cq (nt (ay (bi (aV ?_)))));cases h;exact ra
    ·refine sr (mq ?_);refine jb (iC rfl) ?_;refine aq (nt ?_);refine ci h (fun h=>?_) (fun h=>?_)
     ·refine sr (cq (nt (ay (bi (aV ?_)))));cases h;exact ra
     ·refine aW (aM (tn (dN (Z:=Unit) (α:=Unit) (fun l s=>[]) (fun l s=>[]) (fun e=>e=r) h (fun e h=>Option.some.inj h) (fun K hR h=>?_) (fun l s h=>?_))))
      ·refine sr (fl cJ ?_);refine lo bF ?_;refine ol dw ?_;refine eU rfl ?_;refine nt (ao (aK (fun j c=>[(41,Ri a0.2.2),(42,I (a0.2.2.length:Int)),(43,I c)]) (fun j c=>[]) (fW k a0) k () 0 (fun _=>rfl) h (SE.fin [] ⟨rfl,rfl,rfl,trivial⟩ rfl) (fun n j c h=>?_)));unfold fW at h;refine sr (jb (bp rfl) ?_);refine nt (ae (ci h (fun h=>?_) (fun h=>?_)))
       ·refine sk (ae (ao (sr ?_)));obtain⟨F,x,h⟩:=aa h;refine jb (aA (t:=(.int .i64)) rfl dw cm x) ?_;refine ja (ak (t:=(.int .i64)) rfl cm rfl) ?_;refine aq (nt (sr ?_));refine mq ?_;obtain⟨M,D,h⟩:=aa h;refine jc (ap [.tmp 47,.const (.int .i64 (0)),.const (.int .i64 (9))] rfl rfl wF rfl (dF k F 0 9 M D)) ?_;refine ja (dT rfl) ?_;refine nt (cw h (fun h=>?_) (fun h=>?_))
        ·refine sr (cq (nt (ay (br (bi (aV ?_))))));obtain rfl:=hR _ h;exact ra
        ·refine aW (aM (tn (ab ?_)));obtain⟨E,u,h⟩:=aa h;refine jb (bf rfl u) ?_;refine mq (nl ?_);exact jz ((),E) h []
       ·refine xa ?_;exact jz ((),()) h []
      ·refine sr (cq (nt (ay ?_)));cases h;exact ra
def fe(k:Nat)(a0:Int)(a1:Int):Option Bool:=
 (dE (0≤a1)).bind fun _=>
 some (decide ((wE .u8 (iG .u8 a0 a1) 1)=1))
theorem iJ(k:Nat)(a0:Int)(a1:Int)(r:Bool)(h:fe k a0 a1=some r):
 bX Tryz.prog 57 [.eq (.int .u8 a0),I a1] [] (fun _:Unit=>(bq [.eq (.bool r)],[])):=by
 unfold fe at h
 replace h:=a8 h
 refine bX.of 10 Tryz.func57 rfl Tryz.ntmps57 rfl fun S w0=>?_
 refine sr ?_
 refine cq ?_
 refine nt ?_
 refine sr ?_
 iterate 2 refine mq ?_
 obtain⟨u1,c,h⟩:=aa h
 refine jb (vn rfl (aC c)) ?_
 refine jb (O0 rfl) ?_
 refine jb (fM rfl) ?_
 refine aq ?_
 refine nt ?_
 refine ay ?_
 cases h
 exact ra
def eW(k:Nat)(a0:Int)(a1:Int):Option Int:=
 (dE (0≤a1)).bind fun _=>
 some (DF .u8 a0 (nE .u8 1 a1))
theorem jA(k:Nat)(a0:Int)(a1:Int)(r:Int)(h:eW k a0 a1=some r):
 bX Tryz.prog 106 [.eq (.int .u8 a0),I a1] [] (fun _:Unit=>(bq [.eq (.int .u8 r)],[])):=by
 unfold eW at h
 replace h:=a8 h
 refine bX.of 9 Tryz.func106 rfl Tryz.ntmps106 rfl fun S w0=>?_
 refine sr ?_
 refine cq ?_
 refine nt ?_
 refine sr ?_
 iterate 2 refine mq ?_
 obtain⟨u1,c,h⟩:=aa h
 refine jb (G1 rfl (aC c)) ?_
 refine jb (OY rfl) ?_
 refine aq ?_
 refine nt ?_
 refine ay ?_
 cases h
 exact ra
def gU(k:Nat)(a0:aO)(a1:(List Int)):Nat→(Int×Int)→Option Int
 |0,_=>none
 |n+1,y4=>
  if y4.2 < (a1.length:Int) then((aQ a1 y4.2).bind fun x6=>
  (aQ a0.2.1 x6).bind fun x7=>
  (ck (y4.1+x7.1)).bind fun x8=>
  (ck (y4.2+1)).bind fun x9=>
  gU k a0 a1 n (x8,x9)) else(some y4.1)
def nc(k:Nat)(a0:aO)(a1:(List Int)):Option Int:=
 ((gU k a0 a1 k (0,0)):Option (Int)).bind fun x2=>
 some x2
theorem tY(k:Nat)(a0:aO)(a1:(List Int))(r:Int)(h:nc k a0 a1=some r):
 bX Tryz.prog 107 [.rep av a0,Ri a1] [] (fun _:Unit=>(bq [I r],[])):=by
 unfold nc at h
 replace h:=a8 h
 refine bX.of 24 Tryz.func107 rfl Tryz.ntmps107 rfl fun S w0=>?_
 refine sr ?_
 refine bx fun b1=>?_
 refine cq ?_
 refine nt ?_
 refine sr ?_
 refine cq ?_
 refine nt ?_
 refine aN (Z:=Unit) (α:=Int) (fun z3 x2=>[(5,I x2)]) (fun z3 x2=>[]) h (fun K h=>?_) (fun z3 x2 h=>?_)
 ·
  refine sr (mq ?_);refine ol dw ?_;refine eU rfl ?_;refine nt (ao (aK (fun z5 y4=>[(2,Pt b1),(5,I y4.1),(8,Ri a1),(9,I (a1.length:Int)),(10,I y4.2)]) (fun z5 y4=>[.obj b1 25 (.rep av a0)]) (gU k a0 a1) k () (0,0) (fun _=>rfl) h (SE.fin [0] ⟨rfl,rfl,rfl,rfl,rfl,trivial⟩ rfl) (fun n z5 y4 h=>?_)));unfold gU at h;refine sr (jb (bp rfl) ?_);refine nt (ae (ci h (fun h=>?_) (fun h=>?_)))
  ·refine sk (ae (ao (sr ?_)));obtain⟨x6,l,h⟩:=aa h;refine jb (aA (t:=(.int .i64)) rfl dw cm l) ?_;refine ja (ak (t:=(.int .i64)) rfl cm rfl) ?_;refine aq (nt (ab ?_));refine mq ?_;refine fl bT ?_;refine lo eX ?_;refine mq ?_;obtain⟨x7,j,h⟩:=aa h;refine jb (aA (t:=aY) rfl mD j7 j) ?_;refine ja (aJ 1 false rfl kL rfl) ?_;refine ja (ak (t:=(.int .i64)) rfl cm rfl) ?_;obtain⟨x8,e,h⟩:=aa h;refine jb (bf rfl e) ?_;refine aq (au (aM (tn (ab ?_))));obtain⟨x9,c,h⟩:=aa h;refine jb (bf rfl c) ?_;refine mq (nl ?_);exact jz ((),(x8,x9)) h [0]
  ·refine xa ?_;exact jz ((),y4.1) h []
 ·
  refine sr (mq ?_);refine aq (nt (ay ?_));cases h;exact ra
def eV(k:Nat)(a0:aO)(x8:(List Int)):Nat→(Int×Int)→Option (Except Value Int)
 |0,_=>none
 |n+1,c=>
  if c.2 < (x8.length:Int) then((aQ x8 c.2).bind fun e=>
  (ck ((a0.2.1.length:Int) - 1)).bind fun j=>
  (dG k e 0 j).bind fun s=>
  if¬(s=true) then(some (.error (.iface 97 (.agg #[.int .i64 3])))) else((fe k c.1 e).bind fun r=>
  if r=true then(some (.error (.iface 97 (.agg #[.int .i64 4])))) else((eW k c.1 e).bind fun l=>
  (ck (c.2+1)).bind fun h=>
  eV k a0 x8 n (l,h)))) else(some (.ok c.1))
def fU(k:Nat)(a0:aO)(a1:(List (List Int))):Nat→(Int×Int)→Option (Except Value Int)
 |0,_=>none
 |n+1,y4=>
  if y4.2 < (a1.length:Int) then(bE (α:=Int) ((aQ a1 y4.2).bind fun x8=>
  bE (α:=Int) (eV k a0 x8 k (y4.1,0)) (fun e=>some (.error e)) fun x9=>
  (nc k a0 x8).bind fun j=>
  (aQ a0.2.2 y4.2).bind fun h=>
  if h < j then(some (.error (.iface 97 (.agg #[.int .i64 12])))) else(some (.ok x9))) (fun e=>some (.error e)) fun x6=>
  (ck (y4.2+1)).bind fun c=>
  fU k a0 a1 n (x6,c)) else(some (.ok y4.1))
def lJ(k:Nat)(a0:aO)(a1:(List (List Int))):Option Value:=
 if(a1.length:Int) < (a0.2.2.length:Int) then(some (.iface 97 (.agg #[.int .i64 7]))) else(if(a0.2.2.length:Int) < (a1.length:Int) then(some (.iface 97 (.agg #[.int .i64 6]))) else(bE (α:=Int) (fU k a0 a1 k (0,0)) (some) fun x2=>
 (dE (0≤(a0.2.1.length:Int))).bind fun _=>
 if¬(x2=(IntKind.u8.wrap ((nE .u8 1 (a0.2.1.length:Int)) - 1))) then(some (.iface 97 (.agg #[.int .i64 7]))) else(some (.nilIface))))
theorem rA(k:Nat)(a0:aO)(a1:(List (List Int)))(r:Value)(h:lJ k a0 a1=some r):
 bX Tryz.prog 64 [.rep av a0,.rep (.slice (.slice (.int .i64))) a1] [] (fun _:Unit=>(bq [.eq r],[])):=by
 unfold lJ at h
 replace h:=a8 h
 refine bX.of 80 Tryz.func64 rfl Tryz.ntmps64 rfl fun S w0=>?_
 refine sr ?_
 refine bx fun b1=>?_
 refine cq ?_
 refine nt ?_
 refine ae ?_
 refine sr ?_
 refine fl cJ ?_
 refine lo bF ?_
 refine ol dw ?_
 refine aq ?_
 refine nt ?_
 refine ao ?_
 refine sr ?_
 refine mq ?_
 refine ol lw ?_
 refine mq ?_
 refine jb (bp rfl) ?_
 refine aq ?_
 refine nt ?_
 refine ci h (fun h=>?_) (fun h=>?_)
 ·
  refine sr (ja (cI [(0,.const (.int .i64 (7)),_)] rfl EO Bc xz (ij ⟨rfl,trivial⟩) rfl) ?_);refine ja (nu rfl On) ?_;refine aq (nt (ay (bi (aV ?_))));cases h;exact ra
 ·
  refine sr (mq ?_);refine ol lw ?_;refine mq ?_;refine jb (iC rfl) ?_;refine aq (nt ?_);refine ci h (fun h=>?_) (fun h=>?_)
  ·refine sr (ja (cI [(0,.const (.int .i64 (6)),_)] rfl EO Bc xz (ij ⟨rfl,trivial⟩) rfl) ?_);refine ja (nu rfl On) ?_;refine aq (nt (ay (bi (aV ?_))));cases h;exact ra
  ·refine aW (aM (tn (sr (cq (nt ?_)))));refine dN (Z:=Unit) (α:=Int) (fun z3 x2=>[(2,Pt b1),(6,.eq (.int .u8 x2))]) (fun z3 x2=>[.obj b1 25 (.rep av a0)]) (fun e=>e=r) h (fun e h=>Option.some.inj h) (fun K hR h=>?_) (fun z3 x2 h=>?_)
   ·refine sr (mq ?_);refine ol lw ?_;refine eU rfl ?_;refine nt (ao (aK (fun z5 y4=>[(2,Pt b1),(6,.eq (.int .u8 y4.1)),(28,.rep (.slice (.slice (.int .i64))) a1),(29,I (a1.length:Int)),(30,I y4.2)]) (fun z5 y4=>[.obj b1 25 (.rep av a0)]) (fU k a0 a1) k () (0,0) (fun _=>rfl) h (SE.fin [0] ⟨rfl,rfl,rfl,rfl,rfl,trivial⟩ rfl) (fun n z5 y4 h=>?_)));unfold fU at h;refine sr (jb (bp rfl) ?_);refine nt (ae (ci h (fun h=>?_) (fun h=>?_)))
    ·refine sk (dN (Z:=Unit) (α:=Int) (fun z7 x6=>[(2,Pt b1),(6,.eq (.int .u8 x6)),(28,.rep (.slice (.slice (.int .i64))) a1),(29,I (a1.length:Int)),(30,I y4.2)]) (fun z7 x6=>[.obj b1 25 (.rep av a0)]) (fun e=>e=r) h (fun e h=>hR e h) (fun K hR h=>?_) (fun z7 x6 h=>?_))
     ·refine ao (sr (mq ?_));obtain⟨x8,se,h⟩:=aa h;refine jb (aA (t:=(.slice (.int .i64))) rfl lw bF se) ?_;refine ja (ak (t:=(.slice (.int .i64))) rfl bF rfl) ?_;refine aq ?_;refine aq (nt ?_);refine dN (Z:=Unit) (α:=Int) (fun s x9=>[(2,Pt b1),(6,.eq (.int .u8 x9)),(7,I y4.2),(8,Ri x8),(28,.rep (.slice (.slice (.int .i64))) a1),(29,I (a1.length:Int)),(30,I y4.2)]) (fun s x9=>[.obj b1 25 (.rep av a0)]) (fun e=>e=r) h (fun e h=>hR e h) (fun K hR h=>?_) (fun s x9 h=>?_)
      ·refine sr (mq ?_);refine ol dw ?_;refine eU rfl ?_;refine nt (ao (aK (fun l c=>[(2,Pt b1),(6,.eq (.int .u8 c.1)),(7,I y4.2),(8,Ri x8),(28,.rep (.slice (.slice (.int .i64))) a1),(29,I (a1.length:Int)),(30,I y4.2),(35,Ri x8),(36,I (x8.length:Int)),(37,I c.2)]) (fun l c=>[.obj b1 25 (.rep av a0)]) (eV k a0 x8) k () (y4.1,0) (fun _=>rfl) h (SE.fin [0] ⟨rfl,rfl,rfl,rfl,rfl,rfl,rfl,rfl,rfl,rfl,trivial⟩ rfl) (fun n l c h=>?_)));unfold eV at h;refine sr (jb (bp rfl) ?_);refine nt (ae (ci h (fun h=>?_) (fun h=>?_)))
       ·refine sk (ae (ao (sr ?_)));obtain⟨j,F,h⟩:=aa h;refine jb (aA (t:=(.int .i64)) rfl dw cm F) ?_;refine ja (ak (t:=(.int .i64)) rfl cm rfl) ?_;refine aq (nt (ae (sr ?_)));refine mq ?_;refine fl bT ?_;refine lo eX ?_;refine ol mD ?_;obtain⟨ac,E,h⟩:=aa h;refine jb (eK rfl E) ?_;obtain⟨qt,U,h⟩:=aa h;refine jc (ap [.tmp 41,.const (.int .i64 (0)),.tmp 45] rfl rfl wF rfl (dF k j 0 ac qt U)) ?_;refine ja (dT rfl) ?_;refine nt (cw h (fun h=>?_) (fun h=>?_))
        ·refine sr (ja (cI [(0,.const (.int .i64 (3)),_)] rfl EO Bc xz (ij ⟨rfl,trivial⟩) rfl) ?_);refine ja (nu rfl On) ?_;refine aq (nt (rx (br (bi (aV (br (bi (aV ?_))))))));obtain rfl:=hR _ h;exact ra
        ·refine sk (ae (sr ?_));iterate 2 refine mq ?_
         obtain⟨pp,Q,h⟩:=aa h;refine jb (ap [.tmp 50,.tmp 51] rfl rfl KQ rfl (iJ k c.1 j pp Q)) ?_;refine nt (cv h (fun h=>?_) (fun h=>?_))
         ·refine sr (ja (cI [(0,.const (.int .i64 (4)),_)] rfl EO Bc xz (ij ⟨rfl,trivial⟩) rfl) ?_);refine ja (nu rfl On) ?_;refine aq (nt (rx (br (bi (aV (br (bi (aV ?_))))))));obtain rfl:=hR _ h;exact ra
         ·refine sk (ab ?_);iterate 2 refine mq ?_
          obtain⟨u,O,h⟩:=aa h;refine jb (ap [.tmp 55,.tmp 56] rfl rfl DY rfl (jA k c.1 j u O)) ?_;refine aq (au (aM (tn (ab ?_))));obtain⟨Y,D,h⟩:=aa h;refine jb (bf rfl D) ?_;refine mq (nl ?_);exact jz ((),(u,Y)) h [0]
       ·refine xa ?_;exact jz ((),c.1) h [0]
      ·refine ae (bz ?_);refine ea 0 (aj rfl dj (tw) rfl) ?_;refine dm ?_;obtain⟨mc,M,h⟩:=aa h;refine db (ap [.tmp 59,.tmp 60] rfl rfl LZ rfl (tY k a0 x8 mc M)) ?_;refine da (ar rfl cJ) ?_;refine ea 0 (aj rfl bF jo rfl) ?_;refine dm ?_;obtain⟨Ud,y,h⟩:=aa h;refine db (aA (t:=(.int .i64)) rfl dw cm y) ?_;refine da (ak (t:=(.int .i64)) rfl cm rfl) ?_;refine df cp ?_;refine jb (iC rfl) ?_;refine nt (ci h (fun h=>?_) (fun h=>?_))
       ·refine sr (ja (cI [(0,.const (.int .i64 (12)),_)] rfl EO Bc xz (ij ⟨rfl,trivial⟩) rfl) ?_);refine ja (nu rfl On) ?_;refine aq (nt (ay (br (bi (aV ?_)))));obtain rfl:=hR _ h;exact ra
       ·refine aW (bn ?_);exact jz ((),x9) h [0]
     ·refine ab ?_;obtain⟨X,x,h⟩:=aa h;refine jb (bf rfl x) ?_;refine mq (nl ?_);exact jz ((),(x6,X)) h [0]
    ·refine xa ?_;exact jz ((),y4.1) h [0]
   ·refine ae (sr (mq ?_));refine fl bT ?_;refine lo eX ?_;refine ol mD ?_;obtain⟨Ue,J,h⟩:=aa h;refine jb (G1 rfl (aC J)) ?_;refine jb (G0 rfl) ?_;refine jb (fL rfl) ?_;refine nt (cn h (fun h=>?_) (fun h=>?_))
    ·refine sr (ja (cI [(0,.const (.int .i64 (7)),_)] rfl EO Bc xz (ij ⟨rfl,trivial⟩) rfl) ?_);refine ja (nu rfl On) ?_;refine aq (nt (rx ?_));cases h;exact ra
    ·refine sk (sr (cq (nt (ay ?_))));cases h;exact ra
def cQ(k:Nat)(a0:(List (List Int)))(y5:(List (List Int))×Int):Nat→((List (List Int))×Int)→Option (List (List Int))
 |0,_=>none
 |n+1,y9=>
  if y9.2 < 5 then((((dE (0≤y5.2∧y5.2 < 3)).bind fun _=>
  (aQ y9.1 y5.2).bind fun c=>
  (dE (0≤y9.2∧y9.2 < 5)).bind fun _=>
  ((if y5.2 < (a0.length:Int) then((aQ a0 y5.2).bind fun r=>
  some (decide (y9.2 < (r.length:Int)))) else(some false)):Option (Bool)).bind fun s=>
  if s=true then((aQ a0 y5.2).bind fun l=>
  (aQ l y9.2).bind fun j=>
  (dE (0≤y5.2∧y5.2 < 3)).bind fun _=>
  (aQ (List.set y9.1 (Int.toNat y5.2) (List.set c (Int.toNat y9.2) (-1:Int))) y5.2).bind fun h=>
  (dE (0≤y9.2∧y9.2 < 5)).bind fun _=>
  some (List.set (List.set y9.1 (Int.toNat y5.2) (List.set c (Int.toNat y9.2) (-1:Int))) (Int.toNat y5.2) (List.set h (Int.toNat y9.2) j))) else(some (List.set y9.1 (Int.toNat y5.2) (List.set c (Int.toNat y9.2) (-1:Int))))):Option ((List (List Int)))).bind fun u=>
  (ck (y9.2+1)).bind fun e=>
  cQ k a0 y5 n (u,e)) else(some y9.1)
def di(k:Nat)(a0:(List (List Int))):Nat→((List (List Int))×Int)→Option (List (List Int))
 |0,_=>none
 |n+1,y5=>
  if y5.2 < 3 then(((cQ k a0 y5 k (y5.1,0)):Option ((List (List Int)))).bind fun x7=>
  (ck (y5.2+1)).bind fun c=>
  di k a0 n (x7,c)) else(some y5.1)
def dP(k:Nat)(a0:(List (List Int))):Option (List (List Int)):=
 ((di k a0 k ([[0,0,0,0,0],[0,0,0,0,0],[0,0,0,0,0]],0)):Option ((List (List Int)))).bind fun x3=>
 some x3
theorem eC(k:Nat)(a0:(List (List Int)))(r:(List (List Int)))(h:dP k a0=some r):
 bX Tryz.prog 56 [.rep (.slice (.slice (.int .i64))) a0] [] (fun _:Unit=>(bq [.rep (.arr 3 (.arr 5 (.int .i64))) r],[])):=by
 unfold dP at h
 replace h:=a8 h
 refine bX.of 43 Tryz.func56 rfl Tryz.ntmps56 rfl fun S w0=>?_
 refine sr ?_
 refine aF rfl rfl rfl (be rfl sP tR) trivial fun b1=>?_
 refine nt ?_
 refine sr ?_
 refine aF rfl rfl rfl (be rfl sP tR) trivial fun b2=>?_
 refine nt ?_
 refine aN (Z:=Unit) (α:=(List (List Int))) (fun z4 x3=>[(2,Pt b1),(3,Pt b2)]) (fun z4 x3=>[.obj b1 86 (.rep (.arr 3 (.arr 5 (.int .i64))) [[0,0,0,0,0],[0,0,0,0,0],[0,0,0,0,0]]),.obj b2 86 (.rep (.arr 3 (.arr 5 (.int .i64))) x3)]) h (fun K h=>?_) (fun z4 x3 h=>?_)
 ·
  refine sr (eU rfl ?_);refine nt (ao (aK (fun z6 y5=>[(0,.rep (.slice (.slice (.int .i64))) a0),(2,Pt b1),(3,Pt b2),(6,I y5.2)]) (fun z6 y5=>[.obj b1 86 (.rep (.arr 3 (.arr 5 (.int .i64))) [[0,0,0,0,0],[0,0,0,0,0],[0,0,0,0,0]]),.obj b2 86 (.rep (.arr 3 (.arr 5 (.int .i64))) y5.1)]) (di k a0) k () ([[0,0,0,0,0],[0,0,0,0,0],[0,0,0,0,0]],0) (fun _=>rfl) h (SE.fin [1,0] ⟨rfl,rfl,rfl,rfl,trivial⟩ rfl) (fun n z6 y5 h=>?_)));unfold di at h;refine sr (jb (bp rfl) ?_);refine nt (ae (ci h (fun h=>?_) (fun h=>?_)))
  ·refine sk (aN (Z:=Unit) (α:=(List (List Int))) (fun z8 x7=>[(0,.rep (.slice (.slice (.int .i64))) a0),(2,Pt b1),(3,Pt b2),(6,I y5.2)]) (fun z8 x7=>[.obj b1 86 (.rep (.arr 3 (.arr 5 (.int .i64))) [[0,0,0,0,0],[0,0,0,0,0],[0,0,0,0,0]]),.obj b2 86 (.rep (.arr 3 (.arr 5 (.int .i64))) x7)]) h (fun K h=>?_) (fun z8 x7 h=>?_))
   ·refine ao (sr (mq ?_));refine aq (nt (sr ?_));refine eU rfl ?_;refine nt (ao (aK (fun J y9=>[(0,.rep (.slice (.slice (.int .i64))) a0),(2,Pt b1),(3,Pt b2),(4,I y5.2),(6,I y5.2),(9,I y9.2)]) (fun J y9=>[.obj b1 86 (.rep (.arr 3 (.arr 5 (.int .i64))) [[0,0,0,0,0],[0,0,0,0,0],[0,0,0,0,0]]),.obj b2 86 (.rep (.arr 3 (.arr 5 (.int .i64))) y9.1)]) (cQ k a0 y5) k () (y5.1,0) (fun _=>rfl) h (SE.fin [0,1] ⟨rfl,rfl,rfl,rfl,rfl,rfl,trivial⟩ rfl) (fun n J y9 h=>?_)));unfold cQ at h;refine sr (jb (bp rfl) ?_);refine nt (ae (ci h (fun h=>?_) (fun h=>?_)))
    ·refine sk (aN (Z:=Unit) (α:=(List (List Int))) (fun F l=>[(0,.rep (.slice (.slice (.int .i64))) a0),(2,Pt b1),(3,Pt b2),(4,I y5.2),(6,I y5.2),(9,I y9.2)]) (fun F l=>[.obj b1 86 (.rep (.arr 3 (.arr 5 (.int .i64))) [[0,0,0,0,0],[0,0,0,0,0],[0,0,0,0,0]]),.obj b2 86 (.rep (.arr 3 (.arr 5 (.int .i64))) l)]) h (fun K h=>?_) (fun F l h=>?_))
     ·refine ao (sr (mq ?_));refine aq (nt (sr ?_));iterate 2 refine mq ?_
      obtain⟨Ui,x,h⟩:=aa h;refine jb (iR rfl Re Gu (aC x).1 (aC x).2) ?_;obtain⟨D,ac,h⟩:=aa h;obtain⟨Uh,e,h⟩:=aa h;refine jb (iR rfl Rf cm (aC e).1 (aC e).2) ?_;refine fr 1 ?_;refine bh rfl rfl (nY (t:=(.int .i64)) (off:=0) (i:=y5.2) (j:=y9.2) (N:=3) (L:=5) rfl cm .int rfl rfl rfl rfl ac (aC e).1 (aC e).2 rfl) ⟨rfl,rfl,trivial⟩ ?_;refine nt (aN (Z:=Unit) (α:=Bool) (fun E y=>[(0,.rep (.slice (.slice (.int .i64))) a0),(2,Pt b1),(3,Pt b2),(4,I y5.2),(5,I y9.2),(6,I y5.2),(9,I y9.2),(28,.eq (.bool y))]) (fun E y=>[.obj b1 86 (.rep (.arr 3 (.arr 5 (.int .i64))) [[0,0,0,0,0],[0,0,0,0,0],[0,0,0,0,0]]),.obj b2 86 (.rep (.arr 3 (.arr 5 (.int .i64))) (List.set y9.1 (Int.toNat y5.2) (List.set D (Int.toNat y9.2) (-1:Int))))]) h (fun K h=>?_) (fun E y h=>?_))
      ·refine ab ?_;iterate 2 refine mq ?_
       refine ol lw ?_;refine jb (bp rfl) ?_;refine mq ?_;refine cu (s:=20) rfl (fun hb=>?_) (fun hb=>?_)
       ·replace h:=cF (oH hb) h;refine gm ?_;refine gm ?_;refine gm ?_;obtain⟨Ud,Y,h⟩:=aa h;refine gb (aA (t:=(.slice (.int .i64))) rfl lw bF Y) ?_;refine ga (ak (t:=(.slice (.int .i64))) rfl bF rfl) ?_;refine ga (jq rfl rfl dw) ?_;refine gb (bp rfl) ?_;refine pt (nl ?_);exact jz ((),decide (y9.2 < (Ud.length:Int))) h [1,0]
       ·replace h:=bN (nL hb) h;iterate 7 refine gn ?_
        refine pf (nl ?_);exact jz ((),false) h [1,0]
      ·refine cv h (fun h=>?_) (fun h=>?_)
       ·refine bz ?_;refine dm ?_;refine dm ?_;refine dm ?_;refine dm ?_;obtain⟨Ue,X,h⟩:=aa h;refine db (aA (t:=(.slice (.int .i64))) rfl lw bF X) ?_;refine da (ak (t:=(.slice (.int .i64))) rfl bF rfl) ?_;refine dm ?_;obtain⟨se,U,h⟩:=aa h;refine db (aA (t:=(.int .i64)) rfl dw cm U) ?_;refine da (ak (t:=(.int .i64)) rfl cm rfl) ?_;obtain⟨Ug,u,h⟩:=aa h;refine db (iR rfl Re Gu (aC u).1 (aC u).2) ?_;refine df cp ?_;obtain⟨qt,Q,h⟩:=aa h;obtain⟨Uf,c,h⟩:=aa h;refine jb (iR rfl Rf cm (aC c).1 (aC c).2) ?_;refine fr 1 ?_;refine bh rfl rfl (nY (t:=(.int .i64)) (off:=0) (i:=y5.2) (j:=y9.2) (N:=3) (L:=5) rfl cm .int rfl rfl rfl rfl Q (aC c).1 (aC c).2 rfl) ⟨rfl,rfl,trivial⟩ ?_;refine au (bn ?_);exact jz ((),List.set (List.set y9.1 (Int.toNat y5.2) (List.set D (Int.toNat y9.2) (-1:Int))) (Int.toNat y5.2) (List.set qt (Int.toNat y9.2) se)) h [1,0]
       ·refine aW (bn ?_);exact jz ((),List.set y9.1 (Int.toNat y5.2) (List.set D (Int.toNat y9.2) (-1:Int))) h [0,1]
     ·refine ab ?_;obtain⟨pp,O,h⟩:=aa h;refine jb (bf rfl O) ?_;refine mq (nl ?_);exact jz ((),(l,pp)) h [0,1]
    ·refine dC (aU (aU (bU (bn ?_))));exact jz ((),y9.1) h [0,1]
   ·refine ab ?_;obtain⟨mc,M,h⟩:=aa h;refine jb (bf rfl M) ?_;refine mq (nl ?_);exact jz ((),(x7,mc)) h [0,1]
  ·refine xa ?_;exact jz ((),y5.1) h [0,1]
 ·
  refine sr (fr 1 ?_);refine lo gq ?_;refine fr 1 ?_;refine bh rfl rfl (bb rfl gq rfl rfl rfl) ⟨rfl,rfl,trivial⟩ ?_;refine nt (ay ?_);obtain rfl:=Option.some.inj h;exact aL () [.rep (.arr 3 (.arr 5 (.int .i64))) x3] 0 ⟨⟨_,_,_,_,_,rfl,(.head _),gq,(tw),rfl⟩,trivial⟩ rfl
def cV(k:Nat)(x5:(List Int)):Nat→((List Int)×Int)→Option (List Int)
 |0,_=>none
 |n+1,y6=>
  if y6.2 < 5 then((((aQ x5 y6.2).bind fun c=>
  if 0≤c then((dE (bQ (List.length y6.1+List.length [c]))).bind fun _=>
  some (y6.1++[c])) else(some y6.1)):Option ((List Int))).bind fun x8=>
  (ck (y6.2+1)).bind fun e=>
  cV k x5 n (x8,e)) else(some y6.1)
def d6(k:Nat)(a0:(List (List Int)))(a1:Int):Option (List Int):=
 (((dE (0≤a1∧a1 < 3)).bind fun _=>
 (aQ a0 a1).bind fun x5=>
 cV k x5 k (([]:(List Int)),0)):Option ((List Int))).bind fun x2=>
 some x2
theorem gz(k:Nat)(a0:(List (List Int)))(a1:Int)(r:(List Int))(h:d6 k a0 a1=some r):
 bX Tryz.prog 80 [.rep (.arr 3 (.arr 5 (.int .i64))) a0,I a1] [] (fun _:Unit=>(bq [Ri r],[])):=by
 unfold d6 at h
 replace h:=a8 h
 refine bX.of 22 Tryz.func80 rfl Tryz.ntmps80 rfl fun S w0=>?_
 refine sr ?_
 refine bx fun b1=>?_
 refine cq ?_
 refine nt ?_
 refine sr ?_
 refine cq ?_
 refine nt ?_
 refine aN (Z:=Value) (α:=(List Int)) (fun z3 x2=>[(5,.eq z3)]) (fun z3 x2=>[.sl z3 3 (.int .i64) x2]) h (fun K h=>?_) (fun z3 x2 h=>?_)
 ·
  refine sr (mq ?_);obtain⟨u4,l,h⟩:=aa h;refine jb (iR rfl Re Gu (aC l).1 (aC l).2) ?_;obtain⟨x5,y,h⟩:=aa h;refine ka (BR (t:=(.arr 5 (.int .i64))) (off:=0) (i:=a1) (N:=3) rfl Gu (tw) rfl rfl rfl rfl y) ?_;refine eU rfl ?_;refine nt (ao (dW (SE.nil 3 (.int .i64)) ?_));refine aK (fun z7 y6=>[(5,.eq z7),(10,.rep (.arr 5 (.int .i64)) x5),(11,I y6.2)]) (fun z7 y6=>[.sl z7 3 (.int .i64) y6.1]) (cV k x5) k (.slice none 0 0) (([]:(List Int)),0) (fun _=>rfl) h (SE.fin [0] ⟨rfl,rfl,rfl,trivial⟩ rfl) (fun n z7 y6 h=>?_);unfold cV at h;refine sr (jb (bp rfl) ?_);refine nt (ae (ci h (fun h=>?_) (fun h=>?_)))
  ·refine sk (aN (Z:=Value) (α:=(List Int)) (fun z9 x8=>[(5,.eq z9),(10,.rep (.arr 5 (.int .i64)) x5),(11,I y6.2)]) (fun z9 x8=>[.sl z9 3 (.int .i64) x8]) h (fun K h=>?_) (fun z9 x8 h=>?_))
   ·refine ao (sr ?_);obtain⟨c,j,h⟩:=aa h;refine jb (zJ (t:=(.int .i64)) rfl Rf cm rfl rfl (fun _=>rfl) j) ?_;refine aq (nt (sr ?_));refine mq ?_;refine jb (pe rfl) ?_;refine nt (ci h (fun h=>?_) (fun h=>?_))
    ·refine ab ?_;iterate 2 refine mq ?_
     refine ja (bj (t:=(.int .i64)) [(.tmp 17,_)] [c] rfl rfl dI (.cons rfl .int .nil) rfl rfl) ?_;obtain⟨D,s,h⟩:=aa h;refine c6 rfl rfl rfl (bI rfl rfl dI (aC s)) ⟨rfl,rfl,trivial⟩ fun x=>?_;refine aq (au (bn ?_));exact jz (x,y6.1++[c]) h [0]
    ·refine aW (bn ?_);exact jz (z7,y6.1) h [0]
   ·refine ab ?_;obtain⟨u,e,h⟩:=aa h;refine jb (bf rfl e) ?_;refine mq (nl ?_);exact jz (z9,(x8,u)) h [0]
  ·refine xa ?_;exact jz (z7,y6.1) h [0]
 ·
  refine sr (mq ?_);refine aq (nt (ay ?_));refine bu (eR [4,5,21] ⟨rfl,rfl,rfl,trivial⟩) ?_;cases h;exact ra
def cH{σ:Type}(k:Nat)(a1:(List Int))(Y:σ→(Int×Int)→Option (σ×Bool)):Nat→(Int×σ)→Option (σ)
 |0,_=>none
 |n+1,y2=>
  if 0≤y2.1 then((aQ a1 y2.1).bind fun x4=>
  (Y y2.2 (y2.1,x4)).bind fun r5=>
  if¬(r5.2=true) then(some r5.1) else((ck (y2.1 - 1)).bind fun x7=>
  cH k a1 Y n (x7,r5.1))) else(some y2.2)
def hC{σ:Type}(k:Nat)(Y:σ→(Int×Int)→Option (σ×Bool))(a1:(List Int))(s0:σ):Option (σ):=
 (ck ((a1.length:Int) - 1)).bind fun x1=>
 cH k a1 Y k (x1,s0)
theorem oJ{M:Md Tryz.prog}{σ Z:Type}(E:Z→σ→List D)(l:Nat)(Y:σ→(Int×Int)→Option (σ×Bool))(k:Nat)(a1:(List Int))(c:Nat)(hY:∀z s p r,Y s p=some r→YT M l [I p.1,I p.2] (E z s) (fun z':Z=>(.eq (.bool r.2),E z' r.1))):
 ∀(z0:Z) (s0:σ) (r:σ),hC k Y a1 s0=some r→du M 180 [.eq (.func (.yield l) #[] #[]),Pt c] ([.obj c 23 (Ri a1)]++E z0 s0) (fun z:Z=>(bq [],[.obj c 23 (Ri a1)]++E z r)):=by
 intro z0 s0 r h
 unfold hC at h
 replace h:=a8 h
 refine du.of 19 Tryz.func180 rfl Tryz.ntmps180 rfl fun S w0=>?_
 refine sr ?_
 refine lo bF ?_
 refine ol dw ?_
 obtain⟨x1,u,h⟩:=aa h
 refine jb (eK rfl u) ?_
 refine aq ?_
 refine nt ?_
 refine ao ?_
 refine aK (Z:=Z) (α:=Int×σ) (fun z3 y2=>[(0,.eq (.func (.yield l) #[] #[])),(1,Pt c),(3,I y2.1)]) (fun z3 y2=>[.obj c 23 (Ri a1)]++E z3 y2.2) (cH k a1 Y) k z0 (x1,s0) (fun _=>rfl) h (bv [.obj c 23 (Ri a1)] (E z0 s0) [0] ⟨rfl,rfl,rfl,trivial⟩ rfl) (fun n z3 y2 h=>?_)
 unfold cH at h
 refine ae ?_
 refine sr ?_
 refine mq ?_
 refine jb (pe rfl) ?_
 refine nt ?_
 refine ci h (fun h=>?_) (fun h=>?_)
 ·
  refine sk (ae (ao (sr ?_)));iterate 2 refine mq ?_
  refine lo bF ?_;refine mq ?_;obtain⟨x4,j,h⟩:=aa h;refine jb (aA (t:=(.int .i64)) rfl dw cm j) ?_;refine ja (ak (t:=(.int .i64)) rfl cm rfl) ?_;obtain⟨r5,x,h⟩:=aa h;refine pK [.obj c 23 (Ri a1)] rfl rfl rfl (yd [.tmp 12,.tmp 16] rfl rfl rfl (hY z3 y2.2 (y2.1,x4) r5 x)) ⟨rfl,rfl,rfl,trivial⟩ fun z6=>?_;refine ja (dT rfl) ?_;refine nt (cw h (fun h=>?_) (fun h=>?_))
  ·refine ay (br (bi ?_));cases h;exact jg z6 [] trivial rfl
  ·refine aW (aM (tn (ab (mq ?_))));obtain⟨x7,e,h⟩:=aa h;refine jb (eK rfl e) ?_;refine aq (nl ?_);exact jf (z6,(x7,r5.1)) h (bv [.obj c 23 (Ri a1)] (E z6 r5.1) [0] ⟨rfl,rfl,rfl,trivial⟩ rfl)
 ·
  refine dC (aU (aU (bU (jw ?_))));cases h;exact jg z3 [] trivial rfl
theorem qw(a0:(List Int)):bX Tryz.prog 162 [Ri a0] [] (fun z:Nat=>(bq [.eq (.func (.func 180) #[] #[(Pv z)])],[.obj z 23 (Ri a0)])):=by
 refine bX.of 4 Tryz.func162 rfl Tryz.ntmps162 rfl fun S w0=>?_;refine sr (bx fun z=>?_);refine cq (nt (sr ?_));refine ja (tf [] [.tmp 1] [] [(Pv z)] rfl rfl rfl) ?_;refine aq (nt (ay ?_));exact aL z [_] 1 ⟨rfl,trivial⟩ rfl
def oU(k:Nat)(a0:(List Int)):Option (List Int):=
 (hC k (qD (fun(y3:(List Int)) (p5:(Int×Int))=>
  some ((p5.2::y3),true))) a0 ([],false)).bind fun r6=>
 if r6.2=true then(none) else(some r6.1)
theorem zi(k:Nat)(a0:(List Int))(r:(List Int))(h:oU k a0=some r):
 bX Tryz.prog 129 [Ri a0] [] (fun _:Unit=>(bq [.rep (.lst (.int .i64)) r],[])):=by
 unfold oU at h
 replace h:=a8 h
 refine yR 15 Tryz.func129 rfl Tryz.ntmps129 rfl fun {M} S w0=>?_
 refine sr ?_
 refine cq ?_
 refine nt ?_
 refine sr ?_
 refine aF rfl rfl rfl (be rfl Ov QL) trivial fun b1=>?_
 refine nt ?_
 refine ae ?_
 refine sr ?_
 refine mq ?_
 refine aF rfl rfl rfl (ap [.tmp 6] rfl rfl Qn rfl (qw a0)) ⟨rfl,trivial⟩ fun b2=>?_
 refine nt ?_
 refine ao ?_
 refine jx 1 rfl ?_
 refine dW (oq (a:=.eq (.pointer none)) (a':=.rep (.lst (.int .i64)) []) (wc .lnil)) ?_
 refine jx 1 rfl ?_
 obtain⟨r6,c,h⟩:=aa h
 refine ov (Δ:=[.obj b2 23 (Ri a0),.obj b1 201 (.rep (.lst (.int .i64)) [])]) (F:=[]) (X:=Unit) (J:=fun _=>Ko r6.2) (E:=fun z4=>[.obj b2 23 (Ri a0),.obj b1 201 (.rep (.lst (.int .i64)) r6.1)]) (r0:=fun _=>.tup .any) rfl rfl Qi (fun rec hp ha hb hs hpe hN hv l=>?_) (fun dl z4=>qN (fun hj=>?_) (fun hj=>?_))
 ·
  rcases rec with⟨st0,pe0,fn0,tm0,ps0,as0,bd0,df0⟩;dsimp only at hp ha hb hs hpe hN hv;subst hp hs hpe;have vN:vT tm0 [(3,Pt b1)]:=⟨congrArg A.eq (hv 3 _ rfl).symm,trivial⟩;refine du.pick (M:=M) [1,0,2] [1,0,2] (oJ (fun(z4:Unit) (q:(List Int)×Bool)=>[.raw l (.loop (j9 ⟨.ready,none,fn0,tm0, #[8,9],as0,bd0,df0⟩ (Ko q.2))),.obj b1 201 (.rep (.lst (.int .i64)) q.1)]) l (qD (fun(y3:(List Int)) (p5:(Int×Int))=>
  some ((p5.2::y3),true))) k a0 b2 (fun z4 q p r' h=>?_) () ([],false) r6 c) rfl (fun _=>rfl) (fun _=>rfl)
  obtain⟨rq,hq,h2,rfl⟩:=qO h;obtain⟨y3,b5⟩:=q;obtain rfl:b5=false:=hq;replace h:=a8 h2;obtain⟨p5,hpv⟩:∃x,x=p:=⟨_,rfl⟩;subst hpv;refine YT.pick (R':=(fun z4:Unit=>(.eq (.bool rq.2),[.raw l (.loop (j9 ⟨.ready,none,fn0,tm0, #[8,9],as0,bd0,df0⟩ (Ko (!rq.2)))),.obj b1 201 (.rep (.lst (.int .i64)) rq.1)]))) [0,1] [0,1] (Lj ha hb (N:=15) (Γ:=[(3,Pt b1)]) rfl hN (by decide) vN (fun S w=>?_)) rfl (fun _=>rfl) (fun _=>rfl);refine ab (aq (nl ?_));refine wa rfl rfl ?_;refine ao (ab (mq ?_));refine fr 1 ?_;refine lo zn ?_;refine jb (cI [(0,.tmp 10,_),(1,.tmp 11,_)] rfl OT Ou NW (ij ⟨rfl,rfl,trivial⟩) rfl) ?_;refine aF rfl rfl rfl (oD rfl trivial) ⟨rfl,trivial⟩ fun b7=>?_;refine cD (lP (t:=Gn) (x:=(p5.2,y3)) [13] (.agg (.pair .int .rep)) ⟨rfl,trivial⟩) ?_;refine bh rfl rfl (bb rfl zn trivial rfl rfl) ⟨rfl,rfl,trivial⟩ ?_;refine au (aM (bu (oq (a:=.at Gn (p5.2,y3)) (a':=.rep (.lst (.int .i64)) (p5.2::y3)) (wc .lcons)) ?_));refine dn 1 rfl ?_;cases h;exact tV () 1 rfl
 ·
  replace h:=bN (Dc hj) h;refine aM (tn (sr (fr 2 ?_)));refine lo zn ?_;refine aq (nt (ay ?_));refine dn 1 rfl ?_;refine yO ?_;cases h;exact ra
 ·
  replace h:=cF (Db hj) h;cases h
def gV(k:Nat)(a1:Int):Nat→(Int×(List Int)×(List Int)×(List Int))→Option (Int×(List Int))
 |0,_=>none
 |n+1,y2=>
  if List.isEmpty y2.2.2.2=true then((dE (bQ (List.length y2.2.2.1+List.length y2.2.1))).bind fun _=>
  some (y2.1,y2.2.2.1++y2.2.1)) else((oQ y2.2.2.2).bind fun x6=>
  (fe k a1 x6.1).bind fun r7=>
  if r7=true then((oQ y2.2.2.2).bind fun x8=>
  (dE (bQ (List.length y2.2.1+List.length [x8.1]))).bind fun _=>
  (oQ y2.2.2.2).bind fun l=>
  gV k a1 n (y2.1,y2.2.1++[x8.1],y2.2.2.1,l.2)) else(((if 0 < (y2.2.1.length:Int) then((oQ y2.2.2.2).bind fun h=>
  (eW k y2.1 h.1).bind fun r=>
  some r) else(some y2.1)):Option (Int)).bind fun j=>
  (oQ y2.2.2.2).bind fun c=>
  (dE (bQ (List.length y2.2.2.1+List.length [c.1]))).bind fun _=>
  (oQ y2.2.2.2).bind fun e=>
  gV k a1 n (j,y2.2.1,y2.2.2.1++[c.1],e.2)))
def ng(k:Nat)(a0:(List Int))(a1:Int):Option (Int×(List Int)):=
 (oU k a0).bind fun r1=>
 gV k a1 k (0,([]:(List Int)),([]:(List Int)),r1)
theorem tZ(k:Nat)(a0:(List Int))(a1:Int)(r:Int×(List Int))(h:ng k a0 a1=some r):
 bX Tryz.prog 99 [Ri a0,.eq (.int .u8 a1)] [] (fun _:Unit=>(bq [.eq (.int .u8 r.1),Ri r.2],[])):=by
 unfold ng at h
 replace h:=a8 h
 refine bX.of 54 Tryz.func99 rfl Tryz.ntmps99 rfl fun S w0=>?_
 refine sr ?_
 refine cq ?_
 refine cq ?_
 refine nt ?_
 refine FP rfl (DT (by kernel_rfl) (DT (by kernel_rfl) (Np Nn))) ?_
 refine sr ?_
 refine cq ?_
 refine cq ?_
 refine nt ?_
 refine sr ?_
 refine mq ?_
 obtain⟨r1,mc,h⟩:=aa h
 have pp:=zi k a0 r1 mc
 refine ja (ap [.tmp 9] rfl rfl Qw rfl pp) ?_
 refine aq ?_
 refine nt ?_
 refine ae ?_
 refine I5 ?_
 refine tn ?_
 refine dW (SE.nil 3 (.int .i64)) ?_
 refine dW (SE.nil 3 (.int .i64)) ?_
 refine C5 (Z:=Value×Value) (α:=Int×(List Int)×(List Int)×(List Int)) rfl (fun z3 y2=>[(1,.eq (.int .u8 a1)),(4,.eq (.int .u8 y2.1)),(6,.eq z3.1),(7,.eq z3.2),(8,.rep (.lst (.int .i64)) y2.2.2.2)]) (fun z3 y2=>[.sl z3.1 3 (.int .i64) y2.2.1,.sl z3.2 3 (.int .i64) y2.2.2.1]) (gV k a1) k ((.slice none 0 0),(.slice none 0 0)) (0,([]:(List Int)),([]:(List Int)),r1) (fun _=>rfl) h (SE.fin [1,0] ⟨rfl,rfl,rfl,rfl,rfl,trivial⟩ rfl) (fun n z3 y2 h=>?_)
 unfold gV at h
 refine ae ?_
 refine sr ?_
 refine mq ?_
 refine jb (G6 rfl To) ?_
 refine nt ?_
 refine cv h (fun h=>?_) (fun h=>?_)
 ·
  refine sr ?_;iterate 3 refine mq ?_
  refine cD (eR [6,15] ⟨rfl,rfl,trivial⟩) ?_;obtain⟨u4,Y,h⟩:=aa h;refine c6 rfl rfl rfl (bI rfl rfl dI (aC Y)) ⟨rfl,rfl,trivial⟩ fun v5=>?_;refine aq ?_;refine aq (nt (rx ?_));refine I4 ?_;refine bu (eR [5,16] ⟨rfl,rfl,trivial⟩) ?_;cases h;exact rb
 ·
  refine sk (ae (sr ?_));iterate 2 refine mq ?_
  obtain⟨x6,U,h⟩:=aa h;refine ja (lM rfl U) ?_;refine ja (aJ 1 false rfl uD rfl) ?_;refine ja (ak (t:=(.int .i64)) rfl cm rfl) ?_;obtain⟨r7,ac,h⟩:=aa h;refine jb (ap [.tmp 17,.tmp 21] rfl rfl KQ rfl (iJ k a1 x6.1 r7 ac)) ?_;refine nt (cv h (fun h=>?_) (fun h=>?_))
  ·refine sr ?_;iterate 2 refine mq ?_
   obtain⟨x8,Q,h⟩:=aa h;refine ja (lM rfl Q) ?_;refine ja (aJ 1 false rfl uD rfl) ?_;refine ja (ak (t:=(.int .i64)) rfl cm rfl) ?_;refine ja (bj (t:=(.int .i64)) [(.tmp 27,_)] [x8.1] rfl rfl dI (.cons rfl .int .nil) rfl rfl) ?_;obtain⟨u9,X,h⟩:=aa h;refine c6 rfl rfl rfl (bI rfl rfl dI (aC X)) ⟨rfl,rfl,trivial⟩ fun O=>?_;refine aq (nt (sr ?_));refine mq ?_;obtain⟨J,y,h⟩:=aa h;refine ja (lM rfl y) ?_;refine ja (aJ 1 false rfl DL rfl) ?_;refine ja (ak (t:=(.lst (.int .i64))) rfl zn rfl) ?_;refine aq (nt ?_);refine Eg ?_;refine FO ?_;exact Ee ((O,z3.2),(y2.1,y2.2.1++[x8.1],y2.2.2.1,J.2)) h (SE.fin [0,1] ⟨rfl,rfl,rfl,rfl,rfl,trivial⟩ rfl)
  ·refine sk (aN (Z:=Unit) (α:=Int) (fun e c=>[(1,.eq (.int .u8 a1)),(4,.eq (.int .u8 c)),(6,.eq z3.1),(7,.eq z3.2),(8,.rep (.lst (.int .i64)) y2.2.2.2)]) (fun e c=>[.sl z3.1 3 (.int .i64) y2.2.1,.sl z3.2 3 (.int .i64) y2.2.2.1]) h (fun K h=>?_) (fun e c h=>?_))
   ·refine sr (mq ?_);refine ka (dh rfl rfl dw) ?_;refine jb (iC rfl) ?_;refine nt (ci h (fun h=>?_) (fun h=>?_))
    ·refine ab ?_;iterate 2 refine mq ?_
     obtain⟨I,x,h⟩:=aa h;refine ja (lM rfl x) ?_;refine ja (aJ 1 false rfl uD rfl) ?_;refine ja (ak (t:=(.int .i64)) rfl cm rfl) ?_;obtain⟨l,E,h⟩:=aa h;refine jb (ap [.tmp 37,.tmp 41] rfl rfl DY rfl (jA k y2.1 I.1 l E)) ?_;refine aq (nl ?_);exact jz ((),l) h [0,1]
    ·refine aW (ah ?_);exact jz ((),y2.1) h [0,1]
   ·refine sr ?_;iterate 2 refine mq ?_
    obtain⟨j,u,h⟩:=aa h;refine ja (lM rfl u) ?_;refine ja (aJ 1 false rfl uD rfl) ?_;refine ja (ak (t:=(.int .i64)) rfl cm rfl) ?_;refine ja (bj (t:=(.int .i64)) [(.tmp 47,_)] [j.1] rfl rfl dI (.cons rfl .int .nil) rfl rfl) ?_;obtain⟨qt,D,h⟩:=aa h;refine fr 1 ?_;refine c6 rfl rfl rfl (bI rfl rfl dI (aC D)) ⟨rfl,rfl,trivial⟩ fun M=>?_;refine aq (nt (sr ?_));refine mq ?_;obtain⟨F,s,h⟩:=aa h;refine ja (lM rfl s) ?_;refine ja (aJ 1 false rfl DL rfl) ?_;refine ja (ak (t:=(.lst (.int .i64))) rfl zn rfl) ?_;refine aq (nt ?_);refine Eg ?_;exact Ee ((z3.1,M),(c,y2.2.1,y2.2.2.1++[j.1],F.2)) h (SE.fin [1,0] ⟨rfl,rfl,rfl,rfl,rfl,trivial⟩ rfl)
def dx(k:Nat)(a0:(List Int))(a1:Int):Nat→Int→Option (Except Int Unit)
 |0,_=>none
 |n+1,y3=>
  if y3 < (a0.length:Int) then((aQ a0 y3).bind fun x5=>
  if a1=x5 then(some (.error y3)) else((ck (y3+1)).bind fun x6=>
  dx k a0 a1 n x6)) else(some (.ok ()))
def ip(k:Nat)(a0:(List Int))(a1:Int):Option Int:=
 bE (α:=Unit) (dx k a0 a1 k 0) (some) fun _=>
 some (-1:Int)
theorem nj(k:Nat)(a0:(List Int))(a1:Int)(r:Int)(h:ip k a0 a1=some r):
 bX Tryz.prog 87 [Ri a0,I a1] [] (fun _:Unit=>(bq [I r],[])):=by
 unfold ip at h
 replace h:=a8 h
 refine bX.of 19 Tryz.func87 rfl Tryz.ntmps87 rfl fun S w0=>?_
 refine sr ?_
 refine cq ?_
 refine nt ?_
 refine dN (Z:=Unit) (α:=Unit) (fun z2 x1=>[]) (fun z2 x1=>[]) (fun e=>e=r) h (fun e h=>Option.some.inj h) (fun K hR h=>?_) (fun z2 x1 h=>?_)
 ·
  refine sr (mq ?_);refine ol dw ?_;refine eU rfl ?_;refine nt (ao (aK (fun z4 y3=>[(0,Ri a0),(1,I a1),(7,I (a0.length:Int)),(8,I y3)]) (fun z4 y3=>[]) (dx k a0 a1) k () 0 (fun _=>rfl) h (SE.fin [] ⟨rfl,rfl,rfl,rfl,trivial⟩ rfl) (fun n z4 y3 h=>?_)));unfold dx at h;refine sr (jb (bp rfl) ?_);refine nt (ae (ci h (fun h=>?_) (fun h=>?_)))
  ·refine sk (ae (ao (sr (mq ?_))));refine aq (nt (sr ?_));iterate 3 refine mq ?_
   obtain⟨x5,j,h⟩:=aa h;refine jb (aA (t:=(.int .i64)) rfl dw cm j) ?_;refine ja (ak (t:=(.int .i64)) rfl cm rfl) ?_;refine jb (fM rfl) ?_;refine nt (ci h (fun h=>?_) (fun h=>?_))
   ·refine sr (mq ?_);refine aq (nt (ay (br (bi (aV ?_)))));obtain rfl:=hR _ h;exact ra
   ·refine aW (aM (tn (ab ?_)));obtain⟨x6,c,h⟩:=aa h;refine jb (bf rfl c) ?_;refine mq (nl ?_);exact jz ((),x6) h []
  ·refine xa ?_;exact jz ((),()) h []
 ·
  refine sr (cq (nt (ay ?_)));cases h;exact ra
def gC(k:Nat)(a0:(List Int))(a1:Int):Option Bool:=
 (ip k a0 a1).bind fun r1=>
 some (decide (0≤r1))
theorem qs(k:Nat)(a0:(List Int))(a1:Int)(r:Bool)(h:gC k a0 a1=some r):
 bX Tryz.prog 130 [Ri a0,I a1] [] (fun _:Unit=>(bq [.eq (.bool r)],[])):=by
 unfold gC at h
 replace h:=a8 h
 refine bX.of 9 Tryz.func130 rfl Tryz.ntmps130 rfl fun S w0=>?_
 refine sr ?_
 refine cq ?_
 refine nt ?_
 refine sr ?_
 iterate 2 refine mq ?_
 obtain⟨r1,c,h⟩:=aa h
 have e:=nj k a0 a1 r1 c
 refine jb (ap [.tmp 5,.tmp 6] rfl rfl P5 rfl e) ?_
 refine jb (pe rfl) ?_
 refine aq ?_
 refine nt ?_
 refine ay ?_
 cases h
 exact ra
def fq(k:Nat)(a0:dq)(a1:Int):Nat→(Int×Int)→Option Int
 |0,_=>none
 |n+1,y3=>
  if y3.2 < (a0.1.2.1.length:Int) then((((aQ a0.1.2.1 y3.2).bind fun x7=>
  (gC k x7.2 a1).bind fun r9=>
  if r9=true then((eW k y3.1 y3.2).bind fun e=>
  some e) else(some y3.1)):Option (Int)).bind fun x5=>
  (ck (y3.2+1)).bind fun c=>
  fq k a0 a1 n (x5,c)) else(some y3.1)
def im(k:Nat)(a0:dq)(a1:Int):Option Int:=
 ((fq k a0 a1 k (0,0)):Option (Int)).bind fun x1=>
 some x1
theorem nb(k:Nat)(a0:dq)(a1:Int)(r:Int)(h:im k a0 a1=some r):
 bX Tryz.prog 100 [.at bM a0,I a1] [] (fun _:Unit=>(bq [.eq (.int .u8 r)],[])):=by
 unfold im at h
 replace h:=a8 h
 refine bX.of 28 Tryz.func100 rfl Tryz.ntmps100 rfl fun S w0=>?_
 refine sr ?_
 refine cq ?_
 refine nt ?_
 refine sr ?_
 refine cq ?_
 refine nt ?_
 refine aN (Z:=Unit) (α:=Int) (fun z2 x1=>[(5,.eq (.int .u8 x1))]) (fun z2 x1=>[]) h (fun K h=>?_) (fun z2 x1 h=>?_)
 ·
  refine sr (mq ?_);refine ja (dU rfl) ?_;refine ja (aJ 3 true rfl kw rfl) ?_;refine ja (aJ 1 false rfl bT rfl) ?_;refine ja (ak (t:=(.slice aY)) rfl eX rfl) ?_;refine ol mD ?_;refine eU rfl ?_;refine nt (ao (aK (fun z4 y3=>[(1,I a1),(5,.eq (.int .u8 y3.1)),(12,Rs aY a0.1.2.1),(13,I (a0.1.2.1.length:Int)),(14,I y3.2)]) (fun z4 y3=>[]) (fq k a0 a1) k () (0,0) (fun _=>rfl) h (SE.fin [] ⟨rfl,rfl,rfl,rfl,rfl,trivial⟩ rfl) (fun n z4 y3 h=>?_)));unfold fq at h;refine sr (jb (bp rfl) ?_);refine nt (ae (ci h (fun h=>?_) (fun h=>?_)))
  ·refine sk (aN (Z:=Unit) (α:=Int) (fun z6 x5=>[(1,I a1),(5,.eq (.int .u8 x5)),(12,Rs aY a0.1.2.1),(13,I (a0.1.2.1.length:Int)),(14,I y3.2)]) (fun z6 x5=>[]) h (fun K h=>?_) (fun z6 x5 h=>?_))
   ·refine ao (sr (mq ?_));obtain⟨x7,s,h⟩:=aa h;refine jb (aA (t:=aY) rfl mD j7 s) ?_;refine ja (ak (t:=aY) rfl j7 rfl) ?_;refine aF rfl rfl rfl (be rfl ue La) trivial fun b8=>?_;refine aq ?_;refine bh rfl rfl (bb rfl j7 rfl rfl rfl) ⟨rfl,rfl,trivial⟩ ?_;refine nt (sr (fl ku ?_));refine lo bF ?_;refine mq ?_;obtain⟨r9,u,h⟩:=aa h;refine jb (ap [.tmp 20,.tmp 21] rfl rfl Qv rfl (qs k x7.2 a1 r9 u)) ?_;refine nt (cv h (fun h=>?_) (fun h=>?_))
    ·refine ab ?_;iterate 2 refine mq ?_
     obtain⟨c,j,h⟩:=aa h;refine jb (ap [.tmp 23,.tmp 24] rfl rfl DY rfl (jA k y3.1 y3.2 c j)) ?_;refine aq (au (bn ?_));exact jz ((),c) h []
    ·refine aW (bn ?_);exact jz ((),y3.1) h []
   ·refine ab ?_;obtain⟨l,e,h⟩:=aa h;refine jb (bf rfl e) ?_;refine mq (nl ?_);exact jz ((),(x5,l)) h []
  ·refine xa ?_;exact jz ((),y3.1) h []
 ·
  refine sr (mq ?_);refine aq (nt (ay ?_));cases h;exact ra
def cU(k:Nat)(a0:dq)(a1:(List (List Int)))(a2:Int):Nat→(Int×(List (List Int))×Int)→Option (Int×(List (List Int)))
 |0,_=>none
 |n+1,y5=>
  if y5.2.2 < 3 then((d6 k a1 y5.2.2).bind fun r7=>
  (im k a0 a2).bind fun r8=>
  (ng k r7 r8).bind fun r9=>
  (dE (bQ (List.length y5.2.1+List.length [r9.2]))).bind fun _=>
  (ck (y5.2.2+1)).bind fun c=>
  cU k a0 a1 a2 n (DF .u8 y5.1 r9.1,y5.2.1++[r9.2],c)) else(some (y5.1,y5.2.1))
def iZ(k:Nat)(a0:dq)(a1:(List (List Int)))(a2:Int):Option (Int×(List (List Int))):=
 ((cU k a0 a1 a2 k (0,([]:(List (List Int))),0)):Option (Int×(List (List Int)))).bind fun x3=>
 (dP k x3.2).bind fun c=>
 some (x3.1,c)
theorem oy(k:Nat)(a0:dq)(a1:(List (List Int)))(a2:Int)(r:Int×(List (List Int)))(h:iZ k a0 a1 a2=some r):
 bX Tryz.prog 55 [.at bM a0,.rep (.arr 3 (.arr 5 (.int .i64))) a1,I a2] [] (fun _:Unit=>(bq [.eq (.int .u8 r.1),.rep (.arr 3 (.arr 5 (.int .i64))) r.2],[])):=by
 unfold iZ at h
 replace h:=a8 h
 refine bX.of 37 Tryz.func55 rfl Tryz.ntmps55 rfl fun S w0=>?_
 refine sr ?_
 refine bx fun b1=>?_
 refine cq ?_
 refine aF rfl rfl rfl (be rfl sP tR) trivial fun b2=>?_
 refine nt ?_
 refine sr ?_
 refine cq ?_
 refine nt ?_
 refine sr ?_
 refine cq ?_
 refine nt ?_
 refine aN (Z:=Value) (α:=Int×(List (List Int))) (fun z4 x3=>[(7,Pt b2),(8,.eq (.int .u8 x3.1)),(9,.eq z4)]) (fun z4 x3=>[.obj b2 86 (.rep (.arr 3 (.arr 5 (.int .i64))) [[0,0,0,0,0],[0,0,0,0,0],[0,0,0,0,0]]),.sl z4 23 (.slice (.int .i64)) x3.2]) h (fun K h=>?_) (fun z4 x3 h=>?_)
 ·
  refine sr (eU rfl ?_);refine nt (ao (dW (SE.nil 23 (.slice (.int .i64))) ?_));refine aK (fun z6 y5=>[(0,.at bM a0),(2,I a2),(4,Pt b1),(7,Pt b2),(8,.eq (.int .u8 y5.1)),(9,.eq z6),(13,I y5.2.2)]) (fun z6 y5=>[.obj b1 86 (.rep (.arr 3 (.arr 5 (.int .i64))) a1),.obj b2 86 (.rep (.arr 3 (.arr 5 (.int .i64))) [[0,0,0,0,0],[0,0,0,0,0],[0,0,0,0,0]]),.sl z6 23 (.slice (.int .i64)) y5.2.1]) (cU k a0 a1 a2) k (.slice none 0 0) (0,([]:(List (List Int))),0) (fun _=>rfl) h (SE.fin [2,1,0] ⟨rfl,rfl,rfl,rfl,rfl,rfl,rfl,trivial⟩ rfl) (fun n z6 y5 h=>?_);unfold cU at h;refine sr (jb (bp rfl) ?_);refine nt (ae (ci h (fun h=>?_) (fun h=>?_)))
  ·refine sk (ae (ao (sr (mq ?_))));refine aq (nt (sr ?_));refine lo gq ?_;refine mq ?_;obtain⟨r7,D,h⟩:=aa h;refine jb (ap [.tmp 17,.tmp 18] rfl rfl KO rfl (gz k a1 y5.2.2 r7 D)) ?_;iterate 2 refine mq ?_
   obtain⟨r8,y,h⟩:=aa h;refine jb (ap [.tmp 20,.tmp 21] rfl rfl QG rfl (nb k a0 a2 r8 y)) ?_;obtain⟨r9,x,h⟩:=aa h;refine jb (ap [.tmp 19,.tmp 22] rfl rfl Sr rfl (tZ k r7 r8 r9 x)) ?_;refine mq ?_;refine xr ?_;refine xr ?_;refine aq ?_;refine aq (nt (sr ?_));iterate 2 refine mq ?_
   refine jb (OY rfl) ?_;refine aq (nt (ab ?_));iterate 2 refine mq ?_
   refine ja (bj (t:=(.slice (.int .i64))) [(.tmp 30,_)] [r9.2] rfl rfl oW (.cons rfl .rep .nil) rfl rfl) ?_;obtain⟨E,j,h⟩:=aa h;refine fr 2 ?_;refine c6 rfl rfl rfl (bI rfl rfl oW (aC j)) ⟨rfl,rfl,trivial⟩ fun u=>?_;refine aq (au (aM (tn (ab ?_))));obtain⟨s,e,h⟩:=aa h;refine jb (bf rfl e) ?_;refine mq (nl ?_);exact jz (u,(DF .u8 y5.1 r9.1,y5.2.1++[r9.2],s)) h [1,2,0]
  ·refine xa ?_;exact jz (z6,(y5.1,y5.2.1)) h [1,2]
 ·
  refine sr ?_;iterate 2 refine mq ?_
  obtain⟨c,l,h⟩:=aa h;refine fr 1 ?_;refine ka (vX (N:=[(.tmp 35,.eq z4)]) (ap [.tmp 35] rfl rfl CO rfl (eC k x3.2 c l)) (fun _ _ _ hv hn=>⟨(lend hn.1 hv),trivial⟩) (fun _=>⟨rfl,Az⟩)) ?_;refine aq ?_;refine fr 1 ?_;refine bh rfl rfl (bb rfl gq rfl rfl rfl) ⟨rfl,rfl,trivial⟩ ?_;refine nt (ay ?_);cases h;exact aL () [_,.rep (.arr 3 (.arr 5 (.int .i64))) c] 0 ⟨rfl,⟨_,_,_,_,_,rfl,(.head _),gq,(tw),rfl⟩,trivial⟩ rfl
def eI(k:Nat)(a0:dq)(a1:(List (List Int))):Nat→((List (List Int))×Int)→Option (List (List Int))
 |0,_=>none
 |n+1,y6=>
  if y6.2 < ((List.replicate (Int.toNat (a0.1.2.2.length:Int)) ([]:(List Int))).length:Int) then((d6 k a1 y6.2).bind fun r8=>
  (aQ y6.1 y6.2).bind fun x9=>
  (ck (y6.2+1)).bind fun c=>
  eI k a0 a1 n (List.set y6.1 (Int.toNat y6.2) r8,c)) else(some y6.1)
def eB(k:Nat)(a0:dq)(a1:(List (List Int))):Option (List (List Int)):=
 (dE (0≤(a0.1.2.2.length:Int)∧bQ (Int.toNat (a0.1.2.2.length:Int)))).bind fun _=>
 ((eI k a0 a1 k (List.replicate (Int.toNat (a0.1.2.2.length:Int)) ([]:(List Int)),0)):Option ((List (List Int)))).bind fun x4=>
 some x4
theorem ix(k:Nat)(a0:dq)(a1:(List (List Int)))(r:(List (List Int)))(h:eB k a0 a1=some r):
 bX Tryz.prog 58 [.at bM a0,.rep (.arr 3 (.arr 5 (.int .i64))) a1] [] (fun z:Value=>(bq [.eq z],[.sl z 23 (.slice (.int .i64)) r])):=by
 unfold eB at h
 replace h:=a8 h
 refine bX.of 27 Tryz.func58 rfl Tryz.ntmps58 rfl fun S w0=>?_
 refine sr ?_
 refine bx fun b1=>?_
 refine cq ?_
 refine nt ?_
 refine sr ?_
 refine mq ?_
 refine ja (dU rfl) ?_
 refine ja (aJ 3 true rfl kw rfl) ?_
 refine ja (aJ 1 false rfl cJ rfl) ?_
 refine ja (ak (t:=(.slice (.int .i64))) rfl bF rfl) ?_
 refine ol dw ?_
 obtain⟨u2,j,h⟩:=aa h
 refine aF rfl rfl rfl (BQ (t:=(.slice (.int .i64))) (d:=([]:(List Int))) rfl oW Rn (aC j).1 (aC j).2) ⟨rfl,rfl,trivial⟩ fun v3=>?_
 refine aq ?_
 refine nt ?_
 refine aN (Z:=Unit) (α:=(List (List Int))) (fun z5 x4=>[(5,.eq v3)]) (fun z5 x4=>[.sl v3 23 (.slice (.int .i64)) x4]) h (fun K h=>?_) (fun z5 x4 h=>?_)
 ·
  refine sr (mq ?_);refine ka (dh rfl rfl lw) ?_;refine eU rfl ?_;refine nt (ao (aK (fun z7 y6=>[(3,Pt b1),(5,.eq v3),(15,I ((List.replicate (Int.toNat (a0.1.2.2.length:Int)) ([]:(List Int))).length:Int)),(16,I y6.2)]) (fun z7 y6=>[.obj b1 86 (.rep (.arr 3 (.arr 5 (.int .i64))) a1),.sl v3 23 (.slice (.int .i64)) y6.1]) (eI k a0 a1) k () (List.replicate (Int.toNat (a0.1.2.2.length:Int)) ([]:(List Int)),0) (fun _=>rfl) h (SE.fin [1,0] ⟨rfl,rfl,rfl,rfl,trivial⟩ rfl) (fun n z7 y6 h=>?_)));unfold eI at h;refine sr (jb (bp rfl) ?_);refine nt (ae (ci h (fun h=>?_) (fun h=>?_)))
  ·refine sk (ae (ao (sr (mq ?_))));refine aq (nt (ab ?_));iterate 2 refine mq ?_
   refine lo gq ?_;refine mq ?_;obtain⟨r8,s,h⟩:=aa h;refine jb (ap [.tmp 21,.tmp 22] rfl rfl KO rfl (gz k a1 y6.2 r8 s)) ?_;obtain⟨x9,c,h⟩:=aa h;refine fr 1 ?_;refine kb (aZ (t:=(.slice (.int .i64))) rfl lw bF c) ?_;refine bh rfl rfl (cR (i:=Int.toNat y6.2) rfl bF rfl (ib c) rfl .rep rfl) ⟨rfl,rfl,trivial⟩ ?_;refine au (aM (tn (ab ?_)));obtain⟨l,e,h⟩:=aa h;refine jb (bf rfl e) ?_;refine mq (nl ?_);exact jz ((),(List.set y6.1 (Int.toNat y6.2) r8,l)) h [1,0]
  ·refine xa ?_;exact jz ((),y6.1) h [1]
 ·
  refine sr (mq ?_);refine aq (nt (ay ?_));cases h;exact aL v3 [.eq v3] 1 ⟨rfl,trivial⟩ rfl
def dQ(k:Nat)(a0:(List Int))(a1:(List Int)):Nat→Int→Option (Except Bool Unit)
 |0,_=>none
 |n+1,y3=>
  if y3 < (a0.length:Int) then((aQ a0 y3).bind fun x5=>
  (aQ a1 y3).bind fun x6=>
  if¬(x5=x6) then(some (.error false)) else((ck (y3+1)).bind fun x7=>
  dQ k a0 a1 n x7)) else(some (.ok ()))
def eh(k:Nat)(a0:(List Int))(a1:(List Int)):Option Bool:=
 if¬((a0.length:Int)=(a1.length:Int)) then(some false) else(bE (α:=Unit) (dQ k a0 a1 k 0) (some) fun _=>
 some true)
theorem il(k:Nat)(a0:(List Int))(a1:(List Int))(r:Bool)(h:eh k a0 a1=some r):
 bX Tryz.prog 24 [Ri a0,Ri a1] [] (fun _:Unit=>(bq [.eq (.bool r)],[])):=by
 unfold eh at h
 replace h:=a8 h
 refine bX.of 26 Tryz.func24 rfl Tryz.ntmps24 rfl fun S w0=>?_
 refine sr ?_
 refine cq ?_
 refine nt ?_
 refine ae ?_
 refine sr ?_
 refine mq ?_
 refine ol dw ?_
 refine mq ?_
 refine ol dw ?_
 refine jb (fL rfl) ?_
 refine nt ?_
 refine cn h (fun h=>?_) (fun h=>?_)
 ·
  refine sr (cq (nt (rx ?_)));cases h;exact ra
 ·
  refine sk (dN (Z:=Unit) (α:=Unit) (fun z2 x1=>[]) (fun z2 x1=>[]) (fun e=>e=r) h (fun e h=>Option.some.inj h) (fun K hR h=>?_) (fun z2 x1 h=>?_))
  ·refine sr (cq (nt (ao ?_)));refine aK (fun z4 y3=>[(0,Ri a0),(1,Ri a1),(5,I y3)]) (fun z4 y3=>[]) (dQ k a0 a1) k () 0 (fun _=>rfl) h (SE.fin [] ⟨rfl,rfl,rfl,trivial⟩ rfl) (fun n z4 y3 h=>?_);unfold dQ at h;refine ae (sr ?_);iterate 2 refine mq ?_
   refine ol dw ?_;refine jb (bp rfl) ?_;refine nt (ci h (fun h=>?_) (fun h=>?_))
   ·refine sk (ae (ao (ae (bz ?_))));refine dm ?_;refine dm ?_;obtain⟨x5,l,h⟩:=aa h;refine db (aA (t:=(.int .i64)) rfl dw cm l) ?_;refine da (ak (t:=(.int .i64)) rfl cm rfl) ?_;refine dm ?_;refine dm ?_;obtain⟨x6,j,h⟩:=aa h;refine db (aA (t:=(.int .i64)) rfl dw cm j) ?_;refine da (ak (t:=(.int .i64)) rfl cm rfl) ?_;refine df cp ?_;refine jb (fL rfl) ?_;refine nt (cn h (fun h=>?_) (fun h=>?_))
    ·refine sr (cq (nt (ay (br (bi (aV ?_))))));obtain rfl:=hR _ h;exact ra
    ·refine aW (aM (tn (ab (mq ?_))));obtain⟨x7,c,h⟩:=aa h;refine jb (bf rfl c) ?_;refine aq (nl ?_);exact jz ((),x7) h []
   ·refine xa ?_;exact jz ((),()) h []
  ·refine sr (cq (nt (ay ?_)));cases h;exact ra
def fw(k:Nat)(a0:(List (List Int)))(a1:(List (List Int))):Nat→Int→Option (Except Bool Unit)
 |0,_=>none
 |n+1,y3=>
  if y3 < (a0.length:Int) then((aQ a0 y3).bind fun x5=>
  (aQ a1 y3).bind fun x6=>
  (eh k x5 x6).bind fun r7=>
  if¬(r7=true) then(some (.error false)) else((ck (y3+1)).bind fun x8=>
  fw k a0 a1 n x8)) else(some (.ok ()))
def fj(k:Nat)(a0:(List (List Int)))(a1:(List (List Int))):Option Bool:=
 if¬((a0.length:Int)=(a1.length:Int)) then(some false) else(bE (α:=Unit) (fw k a0 a1 k 0) (some) fun _=>
 some true)
theorem i8(k:Nat)(a0:(List (List Int)))(a1:(List (List Int)))(r:Bool)(h:fj k a0 a1=some r):
 bX Tryz.prog 25 [.rep (.slice (.slice (.int .i64))) a0,.rep (.slice (.slice (.int .i64))) a1] [] (fun _:Unit=>(bq [.eq (.bool r)],[])):=by
 unfold fj at h
 replace h:=a8 h
 refine bX.of 27 Tryz.func25 rfl Tryz.ntmps25 rfl fun S w0=>?_
 refine sr ?_
 refine cq ?_
 refine nt ?_
 refine ae ?_
 refine sr ?_
 refine mq ?_
 refine ol lw ?_
 refine mq ?_
 refine ol lw ?_
 refine jb (fL rfl) ?_
 refine nt ?_
 refine cn h (fun h=>?_) (fun h=>?_)
 ·
  refine sr (cq (nt (rx ?_)));cases h;exact ra
 ·
  refine sk (dN (Z:=Unit) (α:=Unit) (fun z2 x1=>[]) (fun z2 x1=>[]) (fun e=>e=r) h (fun e h=>Option.some.inj h) (fun K hR h=>?_) (fun z2 x1 h=>?_))
  ·refine sr (cq (nt (ao ?_)));refine aK (fun z4 y3=>[(0,.rep (.slice (.slice (.int .i64))) a0),(1,.rep (.slice (.slice (.int .i64))) a1),(5,I y3)]) (fun z4 y3=>[]) (fw k a0 a1) k () 0 (fun _=>rfl) h (SE.fin [] ⟨rfl,rfl,rfl,trivial⟩ rfl) (fun n z4 y3 h=>?_);unfold fw at h;refine ae (sr ?_);iterate 2 refine mq ?_
   refine ol lw ?_;refine jb (bp rfl) ?_;refine nt (ci h (fun h=>?_) (fun h=>?_))
   ·refine sk (ae (ao (ae (bz ?_))));refine dm ?_;refine dm ?_;obtain⟨x5,l,h⟩:=aa h;refine db (aA (t:=(.slice (.int .i64))) rfl lw bF l) ?_;refine da (ak (t:=(.slice (.int .i64))) rfl bF rfl) ?_;refine dm ?_;refine dm ?_;obtain⟨x6,j,h⟩:=aa h;refine db (aA (t:=(.slice (.int .i64))) rfl lw bF j) ?_;refine da (ak (t:=(.slice (.int .i64))) rfl bF rfl) ?_;refine df cp ?_;obtain⟨r7,s,h⟩:=aa h;refine jb (ap [.tmp 20,.tmp 24] rfl rfl Is rfl (il k x5 x6 r7 s)) ?_;refine ja (dT rfl) ?_;refine nt (cw h (fun h=>?_) (fun h=>?_))
    ·refine sr (cq (nt (ay (br (bi (aV ?_))))));obtain rfl:=hR _ h;exact ra
    ·refine aW (aM (tn (ab (mq ?_))));obtain⟨x8,c,h⟩:=aa h;refine jb (bf rfl c) ?_;refine aq (nl ?_);exact jz ((),x8) h []
   ·refine xa ?_;exact jz ((),()) h []
  ·refine sr (cq (nt (ay ?_)));cases h;exact ra
def kU(k:Nat)(a0:List Int):Option (List Int):=
 (dE (bQ (List.length a0))).bind fun _=>some a0
theorem nk(k:Nat)(a0:List Int)(r:List Int)(h:kU k a0=some r):
 bX Tryz.prog 67 [Ri a0] [] (fun z:Value=>(bq [.eq z],[.sl z 3 (.int .i64) r])):=by
 unfold kU at h
 replace h:=a8 h
 refine bX.of 8 Tryz.func67 rfl Tryz.ntmps67 rfl fun S w0=>?_
 obtain⟨u1,c,h⟩:=aa h
 cases h
 refine sr ?_
 refine cq ?_
 refine nt ?_
 refine ae ?_
 refine sr ?_
 refine mq ?_
 refine bS (Δ:=[]) (F:=_) (fun _ _ _=>ax rfl _) rfl rfl (JP rfl dw) ⟨rfl,rfl,trivial⟩ fun b=>?_
 refine nt ?_
 refine bK rfl (fun hb=>?_) (fun hb=>?_)
 ·
  refine sr (cq (nt (rx ?_)));obtain rfl:=b.2 hb;refine bu (SE.nil 3 (.int .i64)) ?_;exact aL (.slice none 0 0) [.eq (.slice none 0 0)] 1 ⟨rfl,trivial⟩ rfl
 ·
  refine sk (sr (aF rfl rfl rfl (me (t:=(.int .i64)) [] [] rfl rfl dI .nil rfl rfl) trivial fun v1=>?_));refine mq ?_;refine c6 rfl rfl rfl (bI rfl rfl dI (by simpa using aC c)) ⟨rfl,rfl,trivial⟩ fun v2=>?_;refine aq (nt (ay ?_));exact aL v2 [.eq v2] 1 ⟨rfl,trivial⟩ rfl
def eJ(k:Nat)(a0:dq)(a2:Int):Nat→((List (List Int))×Int)→Option (List (List Int))
 |0,_=>none
 |n+1,y5=>
  if y5.2 < a2 then((iZ k a0 y5.1 y5.2).bind fun r7=>
  (ck (y5.2+1)).bind fun x8=>
  eJ k a0 a2 n (r7.2,x8)) else(some y5.1)
def gx(k:Nat)(a0:dq)(a1:(List (List Int)))(a2:Int):Option (List (List Int)):=
 ((eJ k a0 a2 k (a1,0)):Option ((List (List Int)))).bind fun x3=>
 some x3
theorem mJ(k:Nat)(a0:dq)(a1:(List (List Int)))(a2:Int)(r:(List (List Int)))(h:gx k a0 a1 a2=some r):
 bX Tryz.prog 73 [.at bM a0,.rep (.arr 3 (.arr 5 (.int .i64))) a1,I a2] [] (fun _:Unit=>(bq [.rep (.arr 3 (.arr 5 (.int .i64))) r],[])):=by
 unfold gx at h
 replace h:=a8 h
 refine bX.of 21 Tryz.func73 rfl Tryz.ntmps73 rfl fun S w0=>?_
 refine sr ?_
 refine bx fun b1=>?_
 refine aF rfl rfl rfl (be rfl sP tR) trivial fun b2=>?_
 refine nt ?_
 refine aN (Z:=Unit) (α:=(List (List Int))) (fun z4 x3=>[(4,Pt b1),(6,Pt b2)]) (fun z4 x3=>[.obj b1 86 (.rep (.arr 3 (.arr 5 (.int .i64))) x3),.obj b2 86 (.rep (.arr 3 (.arr 5 (.int .i64))) [[0,0,0,0,0],[0,0,0,0,0],[0,0,0,0,0]])]) h (fun K h=>?_) (fun z4 x3 h=>?_)
 ·
  refine sr (mq ?_);refine eU rfl ?_;refine nt (ao (aK (fun z6 y5=>[(0,.at bM a0),(4,Pt b1),(6,Pt b2),(8,I a2),(9,I y5.2)]) (fun z6 y5=>[.obj b1 86 (.rep (.arr 3 (.arr 5 (.int .i64))) y5.1),.obj b2 86 (.rep (.arr 3 (.arr 5 (.int .i64))) [[0,0,0,0,0],[0,0,0,0,0],[0,0,0,0,0]])]) (eJ k a0 a2) k () (a1,0) (fun _=>rfl) h (SE.fin [1,0] ⟨rfl,rfl,rfl,rfl,rfl,trivial⟩ rfl) (fun n z6 y5 h=>?_)));unfold eJ at h;refine sr (jb (bp rfl) ?_);refine nt (ae (ci h (fun h=>?_) (fun h=>?_)))
  ·refine sk (ae (ao (sr (mq ?_))));refine aq (nt (ab ?_));refine mq ?_;refine lo gq ?_;refine mq ?_;obtain⟨r7,e,h⟩:=aa h;refine jc (ap [.tmp 13,.tmp 14,.tmp 15] rfl rfl Qe rfl (oy k a0 y5.1 y5.2 r7 e)) ?_;refine mq ?_;refine xr ?_;refine xr ?_;refine bh rfl rfl (bb rfl gq rfl rfl rfl) ⟨rfl,rfl,trivial⟩ ?_;refine au (aM (tn (ab ?_)));obtain⟨x8,c,h⟩:=aa h;refine jb (bf rfl c) ?_;refine mq (nl ?_);exact jz ((),(r7.2,x8)) h [0,1]
  ·refine xa ?_;exact jz ((),y5.1) h [0,1]
 ·
  refine sr (lo gq ?_);refine fr 1 ?_;refine bh rfl rfl (bb rfl gq rfl rfl rfl) ⟨rfl,rfl,trivial⟩ ?_;refine nt (ay ?_);obtain rfl:=Option.some.inj h;exact aL () [.rep (.arr 3 (.arr 5 (.int .i64))) x3] 0 ⟨⟨_,_,_,_,_,rfl,(.head _),gq,(tw),rfl⟩,trivial⟩ rfl
def lZ(k:Nat)(a0:List Int)(a1 a2:Int):Option (List Int):=
 (dE (0≤a1∧a1 < a2∧a2≤(a0.length:Int))).bind fun _=>some (a0.take a1.toNat++a0.drop a2.toNat)
theorem rL(k:Nat)(a0:List Int)(v:Value)(a1 a2:Int)(r:List Int)(h:lZ k a0 a1 a2=some r):bX Tryz.prog 115 [.eq v,.eq (.int .i64 a1),.eq (.int .i64 a2)] [.sl v 3 (.int .i64) a0] (fun z:Value=>(bq [.eq z],[.sl z 3 (.int .i64) r])):=by
 unfold lZ at h
 replace h:=a8 h
 obtain⟨u1,eg,h⟩:=aa h
 obtain⟨h1,h2,h3⟩:=aC eg
 obtain rfl:=Option.some.inj h
 refine bX.of 33 Tryz.func115 rfl Tryz.ntmps115 rfl fun S w0=>?_
 refine FQ (fun e=>by rw [e] at h3;simp at h3;omega) fun b cap hv hcap=>?_
 subst hv
 have hl:(a0.take a1.toNat++a0.drop a2.toNat).length=a1.toNat+(a0.length - a2.toNat):=by simp;omega
 refine ae ?_
 refine ab ?_
 refine dM rfl ?_
 refine au (ah ?_)
 show JC _ _ _ _ _
 refine ae ?_
 refine ab ?_
 refine aB rfl rfl ?_
 refine aB rfl rfl ?_
 refine aB rfl rfl ?_
 refine aB rfl rfl ?_
 refine bY rfl rfl rfl (dh rfl rfl dw) ⟨rfl,trivial⟩ ?_
 refine aE rfl (ye rfl dw cm h1 (by omega) h3 (by omega)) ⟨rfl,rfl,rfl,rfl,trivial⟩ ?_
 refine au (ah ?_)
 show JC _ _ _ _ _
 refine ae ?_
 refine ae ?_
 refine ab ?_
 refine aB rfl rfl ?_
 refine aB rfl rfl ?_
 refine aE rfl (fM rfl) ⟨rfl,rfl,trivial⟩ ?_
 refine au (ah ?_)
 show JC _ _ _ _ _
 refine bK rfl (fun hb=>absurd (of_decide_eq_true hb) (by omega)) (fun hb=>?_)
 refine aW (ah ?_)
 show JC _ _ _ _ _
 refine ae ?_
 refine ab ?_
 refine aB rfl rfl ?_
 refine bY rfl rfl rfl (dh rfl rfl dw) ⟨rfl,trivial⟩ ?_
 refine dk rfl rfl ?_
 refine au (ah ?_)
 show JC _ _ _ _ _
 refine ae ?_
 refine bz ?_
 refine dt rfl rfl rfl (aH rfl) ⟨rfl,trivial⟩ ?_
 refine dt rfl rfl rfl (aH rfl) ⟨rfl,trivial⟩ ?_
 refine dt rfl rfl rfl (vk rfl dw cm h1 (by omega)) ⟨rfl,rfl,trivial⟩ ?_
 refine dt rfl rfl rfl (aH rfl) ⟨rfl,trivial⟩ ?_
 refine dt rfl rfl rfl (aH rfl) ⟨rfl,trivial⟩ ?_
 refine dt rfl rfl rfl (BO rfl dw cm (by omega) h3) ⟨rfl,rfl,trivial⟩ ?_
 refine tX (by kernel_rfl) cp ?_
 refine cD (sG 22 rfl fun _ _ _ h=>(Dk▸h:(A.eq (.slice (some ⟨b,0,none⟩) a1.toNat cap)).holds _ _ _)) ?_
 refine bY rfl rfl rfl (yg (t:=.int .i64) (b:=b) (cap:=cap) (l:=a0) (i:=a1.toNat) (j:=a2.toNat) rfl rfl dI (by omega) (by omega) hcap) ⟨rfl,rfl,trivial⟩ ?_
 refine dk rfl rfl ?_
 refine au (ah ?_)
 show JC _ _ _ _ _
 refine ae ?_
 refine ab ?_
 refine aB rfl rfl ?_
 refine aB rfl rfl ?_
 refine bY rfl rfl rfl (dh rfl rfl dw) ⟨rfl,trivial⟩ ?_
 refine aB rfl rfl ?_
 refine aE rfl (zF rfl dw cm (by omega) (by rw [hl];omega) (by omega)) ⟨rfl,rfl,rfl,trivial⟩ ?_
 refine bh rfl rfl (zM (t:=.int .i64) (b:=b) (cap:=cap) (l:=a0.take a1.toNat++a0.drop a2.toNat) (n:=a0.length) rfl rfl dw rfl TR rfl rfl (by rw [hl];omega) hcap) ⟨rfl,trivial⟩ ?_
 refine au (ah ?_)
 show JC _ _ _ _ _
 refine ae ?_
 refine ab ?_
 refine aB rfl rfl ?_
 refine dk rfl rfl ?_
 refine au (ah ?_)
 show JC _ _ _ _ _
 refine ay ?_
 exact aL _ [.eq _] 1 ⟨rfl,trivial⟩ rfl
def kS(k:Nat)(x7:Int)(h:(List (List Int))):Nat→((List (List Int))×Int)→Option (List (List Int))
 |0,_=>none
 |n+1,c=>
  if c.2 < (h.length:Int) then((aQ h c.2).bind fun e=>
  (dE (bQ (List.length [x7]+List.length e))).bind fun _=>
  (dE (bQ (List.length c.1+List.length [[x7]++e]))).bind fun _=>
  (ck (c.2+1)).bind fun j=>
  kS k x7 h n (c.1++[[x7]++e],j)) else(some c.1)
def kT(k:Nat)(a0:(List Int))(self:(List Int)→Option ((List (List Int)))):Nat→((List (List Int))×Int)→Option (List (List Int))
 |0,_=>none
 |n+1,y3=>
  if y3.2 < (a0.length:Int) then((((aQ a0 y3.2).bind fun x7=>
  (kU k a0).bind fun r8=>
  (ck (y3.2+1)).bind fun e=>
  (lZ k r8 y3.2 e).bind fun j=>
  (self j).bind fun h=>
  kS k x7 h k (y3.1,0)):Option ((List (List Int)))).bind fun x5=>
  (ck (y3.2+1)).bind fun c=>
  kT k a0 self n (x5,c)) else(some y3.1)
def lS(k:Nat):Nat→(List Int)→Option ((List (List Int)))
 |0,_=>none
 |m0+1,a0=>
  if(a0.length:Int)=0 then(some [[]]) else(((kT k a0 (lS k m0) k (([]:(List (List Int))),0)):Option ((List (List Int)))).bind fun x1=>
  some x1)
theorem wi(k:Nat):
 ∀(n:Nat) (a0:(List Int)) (r:(List (List Int))),lS k n a0=some r→bX Tryz.prog 77 [Ri a0] ([]) (fun _:Unit=>(bq [.rep (.slice (.slice (.int .i64))) r],[])):=by
 intro n
 induction n with
 |zero=>intro a0 r h;cases h
 |succ m0 ih=>
  intro a0 r h;rw [lS] at h;replace h:=a8 h;refine bX.of 41 Tryz.func77 rfl Tryz.ntmps77 rfl fun S w0=>?_;refine sr (cq (nt (ae (sr ?_))));refine mq ?_;refine ol dw ?_;refine jb (fM rfl) ?_;refine nt (ci h (fun h=>?_) (fun h=>?_))
  ·refine sr (ja (bj (t:=(.slice (.int .i64))) [(.const (.slice none 0 0),_)] [[]] rfl rfl oW (.cons rfl .nil .nil) rfl rfl) ?_);refine aq (nt (rx ?_));cases h;exact ra
  ·refine sk (sr (cq (nt ?_)));refine aN (Z:=Value) (α:=(List (List Int))) (fun z2 x1=>[(3,.eq z2)]) (fun z2 x1=>[.sl z2 23 (.slice (.int .i64)) x1]) h (fun K h=>?_) (fun z2 x1 h=>?_)
   ·refine sr (mq ?_);refine ol dw ?_;refine eU rfl ?_;refine nt (ao (dW (SE.nil 23 (.slice (.int .i64))) ?_));refine aK (fun z4 y3=>[(0,Ri a0),(3,.eq z4),(12,Ri a0),(13,I (a0.length:Int)),(14,I y3.2)]) (fun z4 y3=>[.sl z4 23 (.slice (.int .i64)) y3.1]) (kT k a0 (lS k m0)) k (.slice none 0 0) (([]:(List (List Int))),0) (fun _=>rfl) h (SE.fin [0] ⟨rfl,rfl,rfl,rfl,rfl,trivial⟩ rfl) (fun n z4 y3 h=>?_);unfold kT at h;refine sr (jb (bp rfl) ?_);refine nt (ae (ci h (fun h=>?_) (fun h=>?_)))
    ·refine sk (aN (Z:=Value) (α:=(List (List Int))) (fun z6 x5=>[(0,Ri a0),(3,.eq z6),(12,Ri a0),(13,I (a0.length:Int)),(14,I y3.2)]) (fun z6 x5=>[.sl z6 23 (.slice (.int .i64)) x5]) h (fun K h=>?_) (fun z6 x5 h=>?_))
     ·refine ao (sr (mq ?_));obtain⟨x7,Y,h⟩:=aa h;refine jb (aA (t:=(.int .i64)) rfl dw cm Y) ?_;refine ja (ak (t:=(.int .i64)) rfl cm rfl) ?_;refine aq ?_;refine aq (nt (sr ?_));refine mq ?_;obtain⟨r8,ac,h⟩:=aa h;refine aF rfl rfl rfl (ap [.tmp 19] rfl rfl SH rfl (nk k a0 r8 ac)) ⟨rfl,trivial⟩ fun v9=>?_;iterate 2 refine mq ?_
      obtain⟨U,D,h⟩:=aa h;refine jb (bf rfl D) ?_;obtain⟨s,M,h⟩:=aa h;refine c6 rfl rfl rfl (ap [.tmp 20,.tmp 21,.tmp 23] rfl rfl QD rfl (rL k r8 v9 y3.2 U s M)) ⟨rfl,rfl,rfl,trivial⟩ fun qt=>?_;refine cD (eR [24] ⟨rfl,trivial⟩) ?_;obtain⟨j,J,h⟩:=aa h;refine ja (ap [.tmp 24] rfl rfl P7 rfl (ih s j J)) ?_;refine ol lw ?_;refine eU rfl ?_;refine nt (ao (aK (fun e c=>[(0,Ri a0),(3,.eq e),(5,I x7),(12,Ri a0),(13,I (a0.length:Int)),(14,I y3.2),(25,.rep (.slice (.slice (.int .i64))) j),(26,I (j.length:Int)),(27,I c.2)]) (fun e c=>[.sl e 23 (.slice (.int .i64)) c.1]) (kS k x7 j) k z4 (y3.1,0) (fun _=>rfl) h (SE.fin [0] ⟨rfl,rfl,rfl,rfl,rfl,rfl,rfl,rfl,rfl,trivial⟩ rfl) (fun n e c h=>?_)));unfold kS at h;refine sr (jb (bp rfl) ?_);refine nt (ae (ci h (fun h=>?_) (fun h=>?_)))
      ·refine sk (ae (ao (sr ?_)));obtain⟨l,y,h⟩:=aa h;refine jb (aA (t:=(.slice (.int .i64))) rfl lw bF y) ?_;refine ja (ak (t:=(.slice (.int .i64))) rfl bF rfl) ?_;refine aq (nt (ab ?_));iterate 2 refine mq ?_
       refine aF rfl rfl rfl (me (t:=(.int .i64)) [(.tmp 32,_)] [x7] rfl rfl dI (.cons rfl .int .nil) rfl rfl) ⟨rfl,trivial⟩ fun pp=>?_;refine mq ?_;obtain⟨Ud,F,h⟩:=aa h;refine c6 rfl rfl rfl (bI rfl rfl dI (aC F)) ⟨rfl,rfl,trivial⟩ fun mc=>?_;refine cD (eR [35] ⟨rfl,trivial⟩) ?_;refine ja (bj (t:=(.slice (.int .i64))) [(.tmp 35,_)] [[x7]++l] rfl rfl oW (.cons rfl .rep .nil) rfl rfl) ?_;obtain⟨se,E,h⟩:=aa h;refine c6 rfl rfl rfl (bI rfl rfl oW (aC E)) ⟨rfl,rfl,trivial⟩ fun X=>?_;refine aq (au (aM (tn (ab ?_))));obtain⟨Q,x,h⟩:=aa h;refine jb (bf rfl x) ?_;refine mq (nl ?_);exact jz (X,(c.1++[[x7]++l],Q)) h [0]
      ·refine dC (aU (aU (bU (bn ?_))));exact jz (e,c.1) h [0]
     ·refine ab ?_;obtain⟨O,u,h⟩:=aa h;refine jb (bf rfl u) ?_;refine mq (nl ?_);exact jz (z6,(x5,O)) h [0]
    ·refine xa ?_;exact jz (z4,y3.1) h [0]
   ·refine sr (mq ?_);refine aq (nt (ay ?_));refine bu (eR [2,3,40] ⟨rfl,rfl,rfl,trivial⟩) ?_;cases h;exact ra
def gr{σ:Type}(k:Nat)(a1:(List Int))(Y:σ→Int→Option (σ×Bool)):Nat→(Int×σ)→Option (σ)
 |0,_=>none
 |n+1,y1=>
  if y1.1 < (a1.length:Int) then((aQ a1 y1.1).bind fun x3=>
  (Y y1.2 x3).bind fun r4=>
  if¬(r4.2=true) then(some r4.1) else((ck (y1.1+1)).bind fun x6=>
  gr k a1 Y n (x6,r4.1))) else(some y1.2)
def kB{σ:Type}(k:Nat)(Y:σ→Int→Option (σ×Bool))(a1:(List Int))(s0:σ):Option (σ):=
 gr k a1 Y k (0,s0)
theorem qo{M:Md Tryz.prog}{σ Z:Type}(E:Z→σ→List D)(l:Nat)(Y:σ→Int→Option (σ×Bool))(k:Nat)(a1:(List Int))(c:Nat)(hY:∀z s p r,Y s p=some r→YT M l [I p] (E z s) (fun z':Z=>(.eq (.bool r.2),E z' r.1))):
 ∀(z0:Z) (s0:σ) (r:σ),kB k Y a1 s0=some r→du M 118 [.eq (.func (.yield l) #[] #[]),Pt c] ([.obj c 23 (Ri a1)]++E z0 s0) (fun z:Z=>(bq [],[.obj c 23 (Ri a1)]++E z r)):=by
 intro z0 s0 r h
 unfold kB at h
 replace h:=a8 h
 refine du.of 16 Tryz.func118 rfl Tryz.ntmps118 rfl fun S w0=>?_
 refine sr ?_
 refine lo bF ?_
 refine ol dw ?_
 refine eU rfl ?_
 refine nt ?_
 refine ao ?_
 refine aK (Z:=Z) (α:=Int×σ) (fun z2 y1=>[(0,.eq (.func (.yield l) #[] #[])),(5,Ri a1),(6,I (a1.length:Int)),(7,I y1.1)]) (fun z2 y1=>[.obj c 23 (Ri a1)]++E z2 y1.2) (gr k a1 Y) k z0 (0,s0) (fun _=>rfl) h (bv [.obj c 23 (Ri a1)] (E z0 s0) [0] ⟨rfl,rfl,rfl,rfl,trivial⟩ rfl) (fun n z2 y1 h=>?_)
 unfold gr at h
 refine sr ?_
 refine jb (bp rfl) ?_
 refine nt ?_
 refine ae ?_
 refine ci h (fun h=>?_) (fun h=>?_)
 ·
  refine sk (ae (ao (sr ?_)));obtain⟨x3,j,h⟩:=aa h;refine jb (aA (t:=(.int .i64)) rfl dw cm j) ?_;refine ja (ak (t:=(.int .i64)) rfl cm rfl) ?_;refine aq (nt (sr ?_));iterate 2 refine mq ?_
  obtain⟨r4,u,h⟩:=aa h;refine pK [.obj c 23 (Ri a1)] rfl rfl rfl (yd [.tmp 12] rfl rfl rfl (hY z2 y1.2 x3 r4 u)) ⟨rfl,rfl,trivial⟩ fun z5=>?_;refine ja (dT rfl) ?_;refine nt (cw h (fun h=>?_) (fun h=>?_))
  ·refine ay (br (bi ?_));cases h;exact jg z5 [] trivial rfl
  ·refine aW (aM (tn (ab ?_)));obtain⟨x6,e,h⟩:=aa h;refine jb (bf rfl e) ?_;refine mq (nl ?_);exact jf (z5,(x6,r4.1)) h (bv [.obj c 23 (Ri a1)] (E z5 r4.1) [0] ⟨rfl,rfl,rfl,rfl,trivial⟩ rfl)
 ·
  refine dC (aU (aU (bU (jw ?_))));cases h;exact jg z2 [] trivial rfl
def j8(k:Nat)(a1:(List Int)):Option (List Int):=
 (kB k (qD (fun(y2:(List Int)) (p4:Int)=>
  (dE (bQ (List.length y2+List.length [p4]))).bind fun _=>
  some (y2++[p4],true))) a1 (([]:(List Int)),false)).bind fun r5=>
 if r5.2=true then(none) else(some r5.1)
theorem oV(k:Nat)(a1:(List Int))(c:Nat)(r:(List Int))(h:j8 k a1=some r):
 bX Tryz.prog 155 [.eq (.slice none 0 0),.eq (.func (.func 118) #[] #[(Pv c)])] [.obj c 23 (Ri a1)] (fun z:Value=>(bq [.eq z],[.sl z 3 (.int .i64) r,.obj c 23 (Ri a1)])):=by
 unfold j8 at h
 replace h:=a8 h
 refine yR 13 Tryz.func155 rfl Tryz.ntmps155 rfl fun {M} S w0=>?_
 refine sr ?_
 refine bx fun b1=>?_
 refine cq ?_
 refine nt ?_
 refine ae ?_
 refine sr ?_
 refine mq ?_
 refine nt ?_
 refine ao ?_
 refine dW (SE.nil 3 (.int .i64)) ?_
 refine jx 1 rfl ?_
 refine jx 2 rfl ?_
 obtain⟨r5,j,h⟩:=aa h
 refine ov (Δ:=[.obj c 23 (Ri a1),.obj b1 23 (.eq (.slice none 0 0)),.sl (.slice none 0 0) 3 (.int .i64) ([]:(List Int))]) (F:=[]) (X:=Value) (J:=fun _=>Ko r5.2) (E:=fun z3=>[.obj c 23 (Ri a1),.obj b1 23 (.eq z3),.sl z3 3 (.int .i64) r5.1]) (r0:=fun _=>.tup .any) rfl rfl QA (fun rec hp ha hb hs hpe hN hv l=>?_) (fun dl z3=>qN (fun hj=>?_) (fun hj=>?_))
 ·
  rcases rec with⟨st0,pe0,fn0,tm0,ps0,as0,bd0,df0⟩;dsimp only at hp ha hb hs hpe hN hv;subst hp hs hpe;have vN:vT tm0 [(2,Pt b1)]:=⟨congrArg A.eq (hv 2 _ rfl).symm,trivial⟩;refine du.pick (M:=M) [1,0,2,3] [1,0,2,3] (qo (fun(z3:Value) (q:(List Int)×Bool)=>[.raw l (.loop (j9 ⟨.ready,none,fn0,tm0, #[7],as0,bd0,df0⟩ (Ko q.2))),.obj b1 23 (.eq z3),.sl z3 3 (.int .i64) q.1]) l (qD (fun(y2:(List Int)) (p4:Int)=>
  (dE (bQ (List.length y2+List.length [p4]))).bind fun _=>
  some (y2++[p4],true))) k a1 c (fun z3 q p r' h=>?_) (.slice none 0 0) (([]:(List Int)),false) r5 j) rfl (fun _=>rfl) (fun _=>rfl)
  obtain⟨rq,hq,h2,rfl⟩:=qO h;obtain⟨y2,b5⟩:=q;obtain rfl:b5=false:=hq;replace h:=a8 h2;obtain⟨p4,hpv⟩:∃x,x=p:=⟨_,rfl⟩;subst hpv;refine YT.pick (R':=(fun z3:Value=>(.eq (.bool rq.2),[.raw l (.loop (j9 ⟨.ready,none,fn0,tm0, #[7],as0,bd0,df0⟩ (Ko (!rq.2)))),.obj b1 23 (.eq z3),.sl z3 3 (.int .i64) rq.1]))) [0,1,2] [0,1,2] (IR ha hb (N:=13) (Γ:=[(2,Pt b1)]) rfl hN (by decide) vN (fun S w=>?_)) rfl (fun _=>rfl) (fun _=>rfl);refine ab (aq (nl ?_));refine wa rfl rfl ?_;refine ao (ab (fr 1 ?_));refine lo bF ?_;refine mq ?_;refine ja (bj (t:=(.int .i64)) [(.tmp 9,_)] [p4] rfl rfl dI (.cons rfl .int .nil) rfl rfl) ?_;obtain⟨u6,e,h⟩:=aa h;refine fr 2 ?_;refine c6 rfl rfl rfl (bI rfl rfl dI (aC e)) ⟨rfl,rfl,trivial⟩ fun v7=>?_;refine ou fun o8=>?_;refine fr 1 ?_;refine bh rfl rfl (bb rfl bF o8 rfl rfl) ⟨rfl,rfl,trivial⟩ ?_;refine au (aM (dn 1 rfl ?_));refine dn 1 rfl ?_;refine dn 2 rfl ?_;cases h;exact tV v7 2 rfl
 ·
  replace h:=bN (Dc hj) h;refine aM (tn (sr (fr 2 ?_)));refine lo bF ?_;refine aq (nt (ay ?_));refine dn 1 rfl ?_;refine yO ?_;refine bu (SE.fin (Γ':=[(4,_)]) [2,1,0] ⟨rfl,trivial⟩ rfl) ?_;cases h;exact aL z3 [.eq z3] 2 ⟨rfl,trivial⟩ rfl
 ·
  replace h:=cF (Db hj) h;cases h
def lq(k:Nat)(a0:(List Int)):Option (List Int):=
 (j8 k a0).bind fun r1=>
 some r1
theorem qR(k:Nat)(a0:(List Int))(c:Nat)(r:(List Int))(h:lq k a0=some r):
 bX Tryz.prog 116 [.eq (.func (.func 118) #[] #[(Pv c)])] [.obj c 23 (Ri a0)] (fun z:Value=>(bq [.eq z],[.sl z 3 (.int .i64) r,.obj c 23 (Ri a0)])):=by
 unfold lq at h
 replace h:=a8 h
 refine bX.of 5 Tryz.func116 rfl Tryz.ntmps116 rfl fun S w0=>?_
 refine sr ?_
 refine cq ?_
 refine nt ?_
 refine sr ?_
 refine mq ?_
 obtain⟨r1,e,h⟩:=aa h
 have j:=oV k a0 c r1 e
 refine bS (Δ:=[_]) (F:=_) (fun _ _ _=>ax rfl _) rfl rfl (ap [.const (.slice none 0 0),.tmp 3] rfl rfl Qs rfl j) ⟨rfl,rfl,trivial⟩ fun z2=>?_
 refine aq ?_
 refine nt ?_
 refine ay ?_
 cases h
 exact aL z2 [.eq z2] 2 ⟨rfl,trivial⟩ rfl
def qi(k:Nat)(a0:Int):Option Bool:=
 some (!decide (a0=a0))
theorem sw(k:Nat)(a0:Int)(r:Bool)(h:qi k a0=some r):
 bX Tryz.prog 158 [I a0] [] (fun _:Unit=>(bq [.eq (.bool r)],[])):=by
 unfold qi at h
 replace h:=a8 h
 refine bX.of 6 Tryz.func158 rfl Tryz.ntmps158 rfl fun S w0=>?_
 refine sr ?_
 refine cq ?_
 refine nt ?_
 refine sr ?_
 iterate 2 refine mq ?_
 refine jb (fL rfl) ?_
 refine aq ?_
 refine nt ?_
 refine ay ?_
 cases h
 exact ra
def vM(k:Nat)(a0:Int)(a1:Int):Option Bool:=
 (((qi k a0).bind fun r3=>
 if r3=true then((qi k a1).bind fun r4=>
 if¬(r4=true) then(some true) else(some (decide (a0 < a1)))) else(some (decide (a0 < a1)))):Option (Bool)).bind fun x1=>
 some x1
theorem AH(k:Nat)(a0:Int)(a1:Int)(r:Bool)(h:vM k a0 a1=some r):
 bX Tryz.prog 174 [I a0,I a1] [] (fun _:Unit=>(bq [.eq (.bool r)],[])):=by
 unfold vM at h
 replace h:=a8 h
 refine bX.of 17 Tryz.func174 rfl Tryz.ntmps174 rfl fun S w0=>?_
 refine sr ?_
 refine cq ?_
 refine nt ?_
 refine aN (Z:=Unit) (α:=Bool) (fun z2 x1=>[(4,.eq (.bool x1))]) (fun z2 x1=>[]) h (fun K h=>?_) (fun z2 x1 h=>?_)
 ·
  refine ab (mq ?_);obtain⟨r3,e,h⟩:=aa h;refine ja (ap [.tmp 5] rfl rfl LY rfl (sw k a0 r3 e)) ?_;refine mq ?_;refine cu (s:=7) rfl (fun hb=>?_) (fun hb=>?_)
  ·replace h:=cF (Db hb) h;refine gm ?_;obtain⟨r4,c,h⟩:=aa h;refine ga (ap [.tmp 8] rfl rfl LY rfl (sw k a1 r4 c)) ?_;refine ga (dT rfl) ?_;refine pt ?_;refine mq ?_;refine cu (s:=12) rfl (fun hb=>?_) (fun hb=>?_)
   ·replace h:=cF (BU hb) h;iterate 3 refine gn ?_
    refine pt ?_;refine aq (nl ?_);exact jz ((),true) h []
   ·replace h:=bN (vq hb) h;refine gm ?_;refine gm ?_;refine gb (bp rfl) ?_;refine pf ?_;refine aq (nl ?_);exact jz ((),decide (a0 < a1)) h []
  ·replace h:=bN (Dc hb) h;iterate 3 refine gn ?_
   refine pf ?_;refine mq ?_;refine gm ?_;refine gm ?_;refine gb (bp rfl) ?_;refine pf ?_;refine aq (nl ?_);exact jz ((),decide (a0 < a1)) h []
 ·
  refine ay ?_;cases h;exact ra
def cN(k:Nat)(a1:Int):Nat→((List Int)×Int)→Option (List Int)
 |0,_=>none
 |n+1,y6=>
  ((if a1 < y6.2 then((aQ y6.1 y6.2).bind fun u=>
  (ck (y6.2 - 1)).bind fun s=>
  (aQ y6.1 s).bind fun r=>
  (vM k u r).bind fun x=>
  some x) else(some false)):Option (Bool)).bind fun x8=>
  if x8=true then((ck (y6.2 - 1)).bind fun e=>
  (ck (y6.2 - 1)).bind fun l=>
  (aQ y6.1 l).bind fun c=>
  (aQ y6.1 y6.2).bind fun j=>
  (aQ y6.1 y6.2).bind fun D=>
  (aQ (List.set y6.1 (Int.toNat y6.2) c) e).bind fun y=>
  (ck (y6.2 - 1)).bind fun h=>
  cN k a1 n (List.set (List.set y6.1 (Int.toNat y6.2) c) (Int.toNat e) j,h)) else(some y6.1)
def cO(k:Nat)(a1:Int)(a2:Int):Nat→((List Int)×Int)→Option (List Int)
 |0,_=>none
 |n+1,y2=>
  if y2.2 < a2 then(((cN k a1 k (y2.1,y2.2)):Option ((List Int))).bind fun x4=>
  (ck (y2.2+1)).bind fun c=>
  cO k a1 a2 n (x4,c)) else(some y2.1)
def eP(k:Nat)(a0:(List Int))(a1:Int)(a2:Int):Option (List Int):=
 (ck (a1+1)).bind fun x1=>
 cO k a1 a2 k (a0,x1)
theorem ky(k:Nat)(a0:(List Int))(c:Value)(a1:Int)(a2:Int)(r:(List Int))(h:eP k a0 a1 a2=some r):
 bX Tryz.prog 168 [.eq c,I a1,I a2] [.sl c 3 (.int .i64) a0] (fun _:Unit=>(bq [],[.sl c 3 (.int .i64) r])):=by
 unfold eP at h
 replace h:=a8 h
 refine bX.of 49 Tryz.func168 rfl Tryz.ntmps168 rfl fun S w0=>?_
 refine sr ?_
 refine mq ?_
 obtain⟨x1,Ut,h⟩:=aa h
 refine jb (bf rfl Ut) ?_
 refine aq ?_
 refine nt ?_
 refine ao ?_
 refine aK (fun z3 y2=>[(0,.eq c),(1,I a1),(2,I a2),(6,I y2.2)]) (fun z3 y2=>[.sl c 3 (.int .i64) y2.1]) (cO k a1 a2) k () (a0,x1) (fun _=>rfl) h (SE.fin [0] ⟨rfl,rfl,rfl,rfl,trivial⟩ rfl) (fun n z3 y2 h=>?_)
 unfold cO at h
 refine ae ?_
 refine sr ?_
 iterate 2 refine mq ?_
 refine jb (bp rfl) ?_
 refine nt ?_
 refine ci h (fun h=>?_) (fun h=>?_)
 ·
  refine sk (aN (Z:=Unit) (α:=(List Int)) (fun z5 x4=>[(0,.eq c),(1,I a1),(2,I a2),(6,I y2.2)]) (fun z5 x4=>[.sl c 3 (.int .i64) x4]) h (fun K h=>?_) (fun z5 x4 h=>?_))
  ·refine ao (sr (mq ?_));refine aq (nt (ao ?_));refine aK (fun z7 y6=>[(0,.eq c),(1,I a1),(2,I a2),(6,I y2.2),(7,I y6.2)]) (fun z7 y6=>[.sl c 3 (.int .i64) y6.1]) (cN k a1) k () (y2.1,y2.2) (fun _=>rfl) h (SE.fin [0] ⟨rfl,rfl,rfl,rfl,rfl,trivial⟩ rfl) (fun n z7 y6 h=>?_);unfold cN at h;refine ae (aN (Z:=Unit) (α:=Bool) (fun z9 x8=>[(0,.eq c),(1,I a1),(2,I a2),(6,I y2.2),(7,I y6.2),(30,.eq (.bool x8))]) (fun z9 x8=>[.sl c 3 (.int .i64) y6.1]) h (fun K h=>?_) (fun z9 x8 h=>?_))
   ·refine bz ?_;refine dm ?_;refine dm ?_;refine db (iC rfl) ?_;refine jH rfl rfl rfl (aH rfl) ⟨rfl,trivial⟩ (fun hb=>?_) (fun hb=>?_)
    ·replace h:=cF (oH hb) h;refine aR rfl rfl rfl rfl rfl (aH rfl) ⟨rfl,rfl,trivial⟩ ?_;refine aR rfl rfl rfl rfl rfl (aH rfl) ⟨rfl,rfl,trivial⟩ ?_;obtain⟨Ui,x,h⟩:=aa h;refine jG 0 rfl rfl rfl rfl rfl rfl (aZ (t:=(.int .i64)) rfl dw cm x) ⟨rfl,rfl,rfl,trivial⟩ ?_;refine jG 0 rfl rfl rfl rfl rfl rfl (dX (i:=Int.toNat y6.2) (off:=0) rfl cm (fun _=>rfl) rfl (cC x).2.2 rfl) ⟨rfl,rfl,trivial⟩ ?_;refine aR rfl rfl rfl rfl rfl (aH rfl) ⟨rfl,rfl,trivial⟩ ?_;refine aR rfl rfl rfl rfl rfl (aH rfl) ⟨rfl,rfl,trivial⟩ ?_;obtain⟨Uh,qt,h⟩:=aa h;refine aR rfl rfl rfl rfl rfl (eK rfl qt) ⟨rfl,rfl,rfl,trivial⟩ ?_;obtain⟨Ug,u,h⟩:=aa h;refine jG 0 rfl rfl rfl rfl rfl rfl (aZ (t:=(.int .i64)) rfl dw cm u) ⟨rfl,rfl,rfl,trivial⟩ ?_;refine jG 0 rfl rfl rfl rfl rfl rfl (dX (i:=Int.toNat Uh) (off:=0) rfl cm (fun _=>rfl) rfl (cC u).2.2 rfl) ⟨rfl,rfl,trivial⟩ ?_;refine df cp ?_;obtain⟨F,se,h⟩:=aa h;refine gb (ap [.tmp 23,.tmp 28] rfl rfl Qk rfl (AH k Ui Ug F se)) ?_;refine pt (nl ?_);exact jz ((),F) h [0]
    ·replace h:=bN (nL hb) h;iterate 9 refine dg ?_
     refine df cp ?_;refine gn ?_;refine pf (nl ?_);exact jz ((),false) h [0]
   ·refine cv h (fun h=>?_) (fun h=>?_)
    ·refine sk (ae (ao (jy ?_)));refine aI rfl rfl rfl (aH rfl) ⟨rfl,trivial⟩ ?_;refine aI rfl rfl rfl (aH rfl) ⟨rfl,trivial⟩ ?_;refine aI rfl rfl rfl (aH rfl) ⟨rfl,trivial⟩ ?_;refine aI rfl rfl rfl (aH rfl) ⟨rfl,trivial⟩ ?_;obtain⟨y,pp,h⟩:=aa h;refine aI rfl rfl rfl (eK rfl pp) ⟨rfl,rfl,trivial⟩ ?_;refine aI rfl rfl rfl (aH rfl) ⟨rfl,trivial⟩ ?_;refine aI rfl rfl rfl (aH rfl) ⟨rfl,trivial⟩ ?_;obtain⟨Uf,mc,h⟩:=aa h;refine aI rfl rfl rfl (eK rfl mc) ⟨rfl,rfl,trivial⟩ ?_;obtain⟨E,s,h⟩:=aa h;refine dp 0 rfl rfl rfl rfl (aZ (t:=(.int .i64)) rfl dw cm s) ⟨rfl,rfl,trivial⟩ ?_;refine dp 0 rfl rfl rfl rfl (dX (i:=Int.toNat Uf) (off:=0) rfl cm (fun _=>rfl) rfl (cC s).2.2 rfl) ⟨rfl,trivial⟩ ?_;refine aI rfl rfl rfl (aH rfl) ⟨rfl,trivial⟩ ?_;refine aI rfl rfl rfl (aH rfl) ⟨rfl,trivial⟩ ?_;obtain⟨D,l,h⟩:=aa h;refine dp 0 rfl rfl rfl rfl (aZ (t:=(.int .i64)) rfl dw cm l) ⟨rfl,rfl,trivial⟩ ?_;refine dp 0 rfl rfl rfl rfl (dX (i:=Int.toNat y6.2) (off:=0) rfl cm (fun _=>rfl) rfl (cC l).2.2 rfl) ⟨rfl,trivial⟩ ?_;obtain⟨UC,j,h⟩:=aa h;refine dp 0 rfl rfl rfl rfl (aZ (t:=(.int .i64)) rfl dw cm j) ⟨rfl,rfl,trivial⟩ ?_;refine my 15 [true,true,false,false,false,true,true,true,true,true,true,true,true,true,true] [48] [] [] rfl (by kernel_rfl) (by kernel_rfl) (by kernel_rfl) cp (fun vs hv hB=>?_);obtain⟨w0,UQ,rfl,Us⟩:=an hv;obtain⟨w1,UP,rfl,Ur⟩:=an Us;obtain⟨w2,UO,rfl,Up⟩:=an Ur;obtain⟨w3,UN,rfl,Uo⟩:=an Up;obtain⟨w4,UM,rfl,Un⟩:=an Uo;obtain⟨w5,UL,rfl,Um⟩:=an Un;obtain⟨w6,UK,rfl,Ul⟩:=an Um;obtain⟨w7,UJ,rfl,Uk⟩:=an Ul;obtain⟨w8,UI,rfl,Uj⟩:=an Uk;obtain⟨w9,UA,rfl,X⟩:=an Uj;obtain⟨UH,Uz,rfl,U⟩:=an X;obtain⟨UG,Uy,rfl,Q⟩:=an U;obtain⟨UF,Ux,rfl,O⟩:=an Q;obtain⟨UE,Uw,rfl,M⟩:=an O;obtain⟨UD,Uu,rfl,J⟩:=an M;obtain rfl:=kl J;refine⟨[0],[.sl c 3 (.int .i64) y6.1],by kernel_rfl,by decide,?_⟩;refine ot rfl rfl (cR (i:=Int.toNat y6.2) rfl cm rfl (ib j) rfl .int rfl) ⟨rfl,rfl,trivial⟩ (by kernel_rfl) ?_;obtain⟨UB,e,h⟩:=aa h;refine vZ rfl rfl rfl rfl (aZ (t:=(.int .i64)) rfl dw cm e) ⟨rfl,rfl,trivial⟩ (by kernel_rfl) ?_;refine ot rfl rfl (cR (i:=Int.toNat y) rfl cm rfl (ib e) rfl .int rfl) ⟨rfl,rfl,trivial⟩ (by kernel_rfl) ?_;refine pJ ?_;refine bu (SE.fin (Γ':=[(0,.eq c),(1,I a1),(2,I a2),(6,I y2.2),(7,I y6.2)]) (Δ':=[.sl c 3 (.int .i64) (List.set (List.set y6.1 (Int.toNat y6.2) E) (Int.toNat y) D)]) [0] ⟨rfl,rfl,rfl,rfl,rfl,trivial⟩ rfl) ?_;refine aM (tn (ab (mq ?_)));obtain⟨Ue,ac,h⟩:=aa h;refine jb (eK rfl ac) ?_;refine aq (nl ?_);exact jz ((),(List.set (List.set y6.1 (Int.toNat y6.2) E) (Int.toNat y) D,Ue)) h [0]
    ·refine dC (aU (aU (bU (bn ?_))));exact jz ((),y6.1) h [0]
  ·refine ab (mq ?_);obtain⟨Ud,Y,h⟩:=aa h;refine jb (bf rfl Y) ?_;refine aq (nl ?_);exact jz ((),(x4,Ud)) h [0]
 ·
  refine dC (aU (aU (bU (jw ?_))));cases h;exact aL () [] 1 trivial rfl
def lr(k:Nat)(a0:Int):Option Int:=
 ((if 4294967296≤a0 then(some (iG .u64 a0 32,32)) else(some (a0,0))):Option (Int×Int)).bind fun x1=>
 ((if 65536≤x1.1 then((ck (x1.2+16)).bind fun x5=>
 some (iG .u64 x1.1 16,x5)) else(some (x1.1,x1.2))):Option (Int×Int)).bind fun x3=>
 ((if 256≤x3.1 then((ck (x3.2+8)).bind fun x8=>
 some (iG .u64 x3.1 8,x8)) else(some (x3.1,x3.2))):Option (Int×Int)).bind fun x6=>
 (Cj J6 (IntKind.u8.wrap x6.1)).bind fun x9=>
 (ck (x9.toNat:Int)).bind fun e=>
 (ck (x6.2+e)).bind fun c=>
 some c
theorem q8(k:Nat)(a0:Int)(r:Int)(h:lr k a0=some r):
 bX Tryz.prog 178 [.eq (.int .u64 a0)] [] (fun _:Unit=>(bq [I r],[])):=by
 unfold lr at h
 replace h:=a8 h
 refine bX.of 25 Tryz.func178 rfl Tryz.ntmps178 rfl fun S w0=>?_
 refine sr ?_
 refine cq ?_
 refine nt ?_
 refine aN (Z:=Unit) (α:=Int×Int) (fun z2 x1=>[(0,.eq (.int .u64 x1.1)),(2,I x1.2)]) (fun z2 x1=>[]) h (fun K h=>?_) (fun z2 x1 h=>?_)
 ·
  refine sr (mq ?_);refine jb (pe rfl) ?_;refine nt (ci h (fun h=>?_) (fun h=>?_))
  ·refine sr (mq ?_);refine aE rfl (vn rfl (by decide)) ⟨rfl,rfl,trivial⟩ ?_;refine aq (nt (ab ?_));refine cq (nl ?_);exact jz ((),(iG .u64 a0 32,32)) h []
  ·refine aW (ah ?_);exact jz ((),(a0,0)) h []
 ·
  refine aN (Z:=Unit) (α:=Int×Int) (fun z4 x3=>[(0,.eq (.int .u64 x3.1)),(2,I x3.2)]) (fun z4 x3=>[]) h (fun K h=>?_) (fun z4 x3 h=>?_)
  ·refine sr (mq ?_);refine jb (pe rfl) ?_;refine nt (ci h (fun h=>?_) (fun h=>?_))
   ·refine sr (mq ?_);refine aE rfl (vn rfl (by decide)) ⟨rfl,rfl,trivial⟩ ?_;refine aq (nt (ab ?_));refine mq ?_;obtain⟨x5,n,h⟩:=aa h;refine jb (bf rfl n) ?_;refine aq (nl ?_);exact jz ((),(iG .u64 x1.1 16,x5)) h []
   ·refine aW (ah ?_);exact jz ((),(x1.1,x1.2)) h []
  ·refine aN (Z:=Unit) (α:=Int×Int) (fun z7 x6=>[(0,.eq (.int .u64 x6.1)),(2,I x6.2)]) (fun z7 x6=>[]) h (fun K h=>?_) (fun z7 x6 h=>?_)
   ·refine sr (mq ?_);refine jb (pe rfl) ?_;refine nt (ci h (fun h=>?_) (fun h=>?_))
    ·refine sr (mq ?_);refine aE rfl (vn rfl (by decide)) ⟨rfl,rfl,trivial⟩ ?_;refine aq (nt (ab ?_));refine mq ?_;obtain⟨x8,l,h⟩:=aa h;refine jb (bf rfl l) ?_;refine aq (nl ?_);exact jz ((),(iG .u64 x3.1 8,x8)) h []
    ·refine aW (ah ?_);exact jz ((),(x3.1,x3.2)) h []
   ·refine sr ?_;iterate 2 refine mq ?_
    refine ja (pg rfl Rh U5) ?_;obtain⟨x9,j,h⟩:=aa h;refine ja (zK rfl U9 j) ?_;obtain⟨u,e,h⟩:=aa h;refine ja (zL rfl U5 U3 e) ?_;obtain⟨s,c,h⟩:=aa h;refine jb (bf rfl c) ?_;refine aq (nt (ay ?_));cases h;exact ra
def yH(k:Nat)(a0:Int):Option Int:=
 (lr k a0).bind fun r1=>
 some r1
theorem CU(k:Nat)(a0:Int)(r:Int)(h:yH k a0=some r):
 bX Tryz.prog 157 [.eq (.int .u64 a0)] [] (fun _:Unit=>(bq [I r],[])):=by
 unfold yH at h
 replace h:=a8 h
 refine bX.of 8 Tryz.func157 rfl Tryz.ntmps157 rfl fun S w0=>?_
 refine sr ?_
 refine cq ?_
 refine nt ?_
 refine ae ?_
 refine I9 (fun hb=>(by cases hb)) (fun hb=>?_)
 refine sk ?_
 refine sr ?_
 refine mq ?_
 obtain⟨r1,c,h⟩:=aa h
 have e:=q8 k a0 r1 c
 refine ja (ap [.tmp 6] rfl rfl Qj rfl e) ?_
 refine aq ?_
 refine nt ?_
 refine ay ?_
 cases h
 exact ra
def fP(k:Nat)(a0:(List Int))(a1:Int)(a2:Int)(a3:Int):Nat→Unit→Option (List Int)
 |0,_=>none
 |n+1,y1=>
  (ck (a2 - a1)).bind fun x3=>
  if x3≤12 then((eP k a0 a1 a2).bind fun r4=>
  some r4) else(if a3=0 then(none) else(none))
def g9(k:Nat)(a0:(List Int))(a1:Int)(a2:Int)(a3:Int):Option (List Int):=
 fP k a0 a1 a2 a3 k ()
theorem mB(k:Nat)(a0:(List Int))(c:Value)(a1:Int)(a2:Int)(a3:Int)(r:(List Int))(h:g9 k a0 a1 a2 a3=some r):
 bX Tryz.prog 156 [.eq c,I a1,I a2,I a3] [.sl c 3 (.int .i64) a0] (fun _:Unit=>(bq [],[.sl c 3 (.int .i64) r])):=by
 unfold g9 at h
 replace h:=a8 h
 refine bX.of 134 Tryz.func156 rfl Tryz.ntmps156 rfl fun S w0=>?_
 refine sr ?_
 refine cq ?_
 refine nt ?_
 refine sr ?_
 refine cq ?_
 refine nt ?_
 refine ao ?_
 refine aK (fun z2 y1=>[(0,.eq c),(1,I a1),(2,I a2),(3,I a3),(8,.eq (.bool true)),(9,.eq (.bool true))]) (fun z2 y1=>[.sl c 3 (.int .i64) a0]) (fP k a0 a1 a2 a3) k () () (fun _=>rfl) h (SE.fin [0] ⟨rfl,rfl,rfl,rfl,rfl,rfl,trivial⟩ rfl) (fun n z2 y1 h=>?_)
 unfold fP at h
 refine ao ?_
 refine sr ?_
 iterate 2 refine mq ?_
 obtain⟨x3,e,h⟩:=aa h
 refine jb (eK rfl e) ?_
 refine aq ?_
 refine nt ?_
 refine ae ?_
 refine sr ?_
 refine mq ?_
 refine jb (vp rfl) ?_
 refine nt ?_
 refine ci h (fun h=>?_) (fun h=>?_)
 ·
  refine sr ?_;iterate 3 refine mq ?_
  obtain⟨r4,j,h⟩:=aa h;refine kc (ap [.tmp 24,.tmp 25,.tmp 26] rfl rfl Qm rfl (ky k a0 c a1 a2 r4 j)) ?_;refine nt (rx (bi (aV (bi ?_))));cases h;exact aL () [] 1 trivial rfl
 ·
  refine sk (ae (sr (mq ?_)));refine jb (fM rfl) ?_;refine nt (ci h (fun h=>?_) (fun h=>?_))
  ·refine sr ?_;iterate 3 refine mq ?_
   cases h
  ·refine sk (ae (sr (mq ?_)));refine ja (dT rfl) ?_;refine nt (bK rfl (fun hb=>(by cases hb)) (fun hb=>?_));refine sk (sr ?_);iterate 3 refine mq ?_
   cases h
def nS(k:Nat)(a0:(List Int)):Option (List Int):=
 (yH k (IntKind.u64.wrap (a0.length:Int))).bind fun r1=>
 (g9 k a0 0 (a0.length:Int) r1).bind fun r2=>
 some r2
theorem uh(k:Nat)(a0:(List Int))(c:Value)(r:(List Int))(h:nS k a0=some r):
 bX Tryz.prog 117 [.eq c] [.sl c 3 (.int .i64) a0] (fun _:Unit=>(bq [],[.sl c 3 (.int .i64) r])):=by
 unfold nS at h
 replace h:=a8 h
 refine bX.of 11 Tryz.func117 rfl Tryz.ntmps117 rfl fun S w0=>?_
 refine sr ?_
 refine mq ?_
 refine ka (dh rfl rfl dw) ?_
 refine aq ?_
 refine nt ?_
 refine ab ?_
 iterate 3 refine mq ?_
 refine ja (pg rfl U3 Tt) ?_
 obtain⟨r1,j,h⟩:=aa h
 have n:=CU k (IntKind.u64.wrap (a0.length:Int)) r1 j
 refine ja (ap [.tmp 8] rfl rfl Qp rfl n) ?_
 obtain⟨r2,e,h⟩:=aa h
 have l:=mB k a0 c 0 (a0.length:Int) r1 r2 e
 refine bY rfl rfl rfl (ap [.tmp 5,.const (.int .i64 (0)),.tmp 6,.tmp 9] rfl rfl Qq rfl l) ⟨rfl,rfl,rfl,rfl,trivial⟩ ?_
 refine au ?_
 refine jw ?_
 cases h
 exact aL () [] 1 trivial rfl
def lY(k:Nat)(a0:(List Int)):Option (List Int):=
 (lq k a0).bind fun r1=>
 (nS k r1).bind fun r3=>
 some r3
theorem rK(k:Nat)(a0:(List Int))(c:Nat)(r:(List Int))(h:lY k a0=some r):
 bX Tryz.prog 78 [.eq (.func (.func 118) #[] #[(Pv c)])] [.obj c 23 (Ri a0)] (fun _:Unit=>(bq [Ri r],[.obj c 23 (Ri a0)])):=by
 unfold lY at h
 replace h:=a8 h
 refine bX.of 9 Tryz.func78 rfl Tryz.ntmps78 rfl fun S w0=>?_
 refine sr ?_
 refine cq ?_
 refine nt ?_
 refine sr ?_
 refine mq ?_
 obtain⟨r1,j,h⟩:=aa h
 have n:=qR k a0 c r1 j
 refine bS (Δ:=[_]) (F:=_) (fun _ _ _=>ax rfl _) rfl rfl (ap [.tmp 4] rfl rfl QC rfl n) ⟨rfl,trivial⟩ fun z2=>?_
 refine aq ?_
 refine nt ?_
 refine sr ?_
 refine mq ?_
 obtain⟨r3,e,h⟩:=aa h
 have l:=uh k r1 z2 r3 e
 refine ka (ap [.tmp 6] rfl rfl QB rfl l) ?_
 refine nt ?_
 refine sr ?_
 refine mq ?_
 refine aq ?_
 refine nt ?_
 refine ay ?_
 refine bu (eR [2,3,5,6,8] ⟨rfl,rfl,rfl,rfl,rfl,trivial⟩) ?_
 cases h
 exact aL () [_] 1 ⟨rfl,trivial⟩ rfl
theorem rJ(a0:(List Int)):bX Tryz.prog 79 [Ri a0] [] (fun z:Nat=>(bq [.eq (.func (.func 118) #[] #[(Pv z)])],[.obj z 23 (Ri a0)])):=by
 refine bX.of 4 Tryz.func79 rfl Tryz.ntmps79 rfl fun S w0=>?_;refine sr (bx fun z=>?_);refine cq (nt (sr ?_));refine ja (tf [] [.tmp 1] [] [(Pv z)] rfl rfl rfl) ?_;refine aq (nt (ay ?_));exact aL z [_] 1 ⟨rfl,trivial⟩ rfl
def dZ{σ:Type}(k:Nat)(a0:(List (List Int)))(a1:Int)(a2:Int)(a3:dq)(self:(List (List Int))→Int→Int→σ→Option (Bool×σ))(h:(List Int)):Nat→(Int×σ)→Option (Except (Bool×σ) (σ))
 |0,_=>none
 |n+1,c=>
  if c.1 < (a3.1.2.1.length:Int) then(bE (α:=σ) ((aQ a3.1.2.1 c.1).bind fun y=>
  (((fe k a2 c.1).bind fun I=>
  if I=true then(some (true,c.2)) else((nc k a3.1 h).bind fun F=>
  (ck (F+y.1)).bind fun x=>
  (aQ a3.1.2.2 a1).bind fun u=>
  some (decide (u < x),c.2))):Option (Bool×σ)).bind fun j=>
  if j.1=true then(some (.ok j.2)) else((dE (0≤a1∧a1 < 3)).bind fun _=>
  (aQ a0 a1).bind fun s=>
  (dE (0≤(h.length:Int)∧(h.length:Int) < 5)).bind fun _=>
  (eW k a2 c.1).bind fun E=>
  (self (List.set a0 (Int.toNat a1) (List.set s (Int.toNat (h.length:Int)) c.1)) a1 E j.2).bind fun l=>
  if¬(l.1=true) then(some (.error (false,l.2))) else(some (.ok l.2)))) (fun e=>some (.error e)) fun D=>
  (ck (c.1+1)).bind fun r=>
  dZ k a0 a1 a2 a3 self h n (r,D)) else(some (.ok c.2))
def de{σ:Type}(k:Nat)(Y:σ→(List (List Int))→Option (σ×Bool))(a3:dq):Nat→(List (List Int))→Int→Int→σ→Option (Bool×σ)
 |0,_,_,_,_=>none
 |m0+1,a0,a1,a2,s0=>
  if a1=(a3.1.2.2.length:Int) then((((dE (0≤(a3.1.2.1.length:Int))).bind fun _=>
  if¬(a2=(IntKind.u8.wrap ((nE .u8 1 (a3.1.2.1.length:Int)) - 1))) then(some (true,s0)) else((Y s0 a0).bind fun r5=>
  some (r5.2,r5.1))):Option (Bool×σ)).bind fun x2=>
  some (x2.1,x2.2)) else((ck (a1+1)).bind fun x7=>
  ((de k Y a3 m0) a0 x7 a2 s0).bind fun r8=>
  if¬(r8.1=true) then(some (false,r8.2)) else((d6 k a0 a1).bind fun e=>
  bE (α:=σ) (dZ k a0 a1 a2 a3 (de k Y a3 m0) e k (0,r8.2)) (some) fun c=>
  some (true,c)))
theorem mZ{M:Md Tryz.prog}{σ Z:Type}(E:Z→σ→List D)(l:Nat)(Y:σ→(List (List Int))→Option (σ×Bool))(k:Nat)(a3:dq)(u:Nat)(x:Nat)(c:Nat)(hY:∀z s p r,Y s p=some r→YT M l [.rep (.arr 3 (.arr 5 (.int .i64))) p] (E z s) (fun z':Z=>(.eq (.bool r.2),E z' r.1))):
 ∀(n:Nat) (a0:(List (List Int))) (a1:Int) (a2:Int) (z0:Z) (s0:σ) (r:Bool×σ),de k Y a3 n a0 a1 a2 s0=some r→du M 121 [.rep (.arr 3 (.arr 5 (.int .i64))) a0,I a1,.eq (.int .u8 a2),Pt u,Pt x,Pt c] ([.obj u 81 (.at bM a3),.obj x 195 (.eq (.func (.yield l) #[] #[])),.obj c 196 (.eq (.func (.func 121) #[] #[(Pv u),(Pv x),(Pv c)]))]++E z0 s0) (fun z:Z=>(bq [.eq (.bool r.1)],[.obj u 81 (.at bM a3),.obj x 195 (.eq (.func (.yield l) #[] #[])),.obj c 196 (.eq (.func (.func 121) #[] #[(Pv u),(Pv x),(Pv c)]))]++E z r.2)):=by
 intro n
 induction n with
 |zero=>intro a0 a1 a2 z0 s0 r h;cases h
 |succ m0 ih=>
  intro a0 a1 a2 z0 s0 r h;rw [de] at h;replace h:=a8 h;refine du.of 97 Tryz.func121 rfl Tryz.ntmps121 rfl fun S w0=>?_;refine sr (bx fun b1=>?_);refine cq (nt (ae (sr ?_)));refine mq ?_;refine fr 1 ?_;refine lo xQ ?_;refine ja (dU rfl) ?_;refine ja (aJ 3 true rfl kw rfl) ?_;refine ja (aJ 1 false rfl cJ rfl) ?_;refine ja (ak (t:=(.slice (.int .i64))) rfl bF rfl) ?_;refine ol dw ?_;refine jb (fM rfl) ?_;refine nt (ci h (fun h=>?_) (fun h=>?_))
  ·refine aN (Z:=Z) (α:=Bool×σ) (fun z3 x2=>[(9,.eq (.bool x2.1))]) (fun z3 x2=>[.obj u 81 (.at bM a3),.obj x 195 (.eq (.func (.yield l) #[] #[])),.obj c 196 (.eq (.func (.func 121) #[] #[(Pv u),(Pv x),(Pv c)]))]++E z3 x2.2) h (fun K h=>?_) (fun z3 x2 h=>?_)
   ·refine ab (mq ?_);refine lo xQ ?_;refine ja (dU rfl) ?_;refine ja (aJ 3 true rfl kw rfl) ?_;refine ja (aJ 1 false rfl bT rfl) ?_;refine ja (ak (t:=(.slice aY)) rfl eX rfl) ?_;refine ol mD ?_;obtain⟨u4,UB,h⟩:=aa h;refine jb (G1 rfl (aC UB)) ?_;refine jb (G0 rfl) ?_;refine jb (fL rfl) ?_;refine mq ?_;refine cu (s:=32) rfl (fun hb=>?_) (fun hb=>?_)
    ·replace h:=cF (HD hb) h;iterate 3 refine gn ?_
     refine pt ?_;refine aq (nl ?_);exact jf (z0,(true,s0)) h (bv [.obj u 81 (.at bM a3),.obj b1 86 (.rep (.arr 3 (.arr 5 (.int .i64))) a0),.obj x 195 (.eq (.func (.yield l) #[] #[])),.obj c 196 (.eq (.func (.func 121) #[] #[(Pv u),(Pv x),(Pv c)]))] (E z0 s0) [0,2,3] ⟨rfl,trivial⟩ rfl)
    ·replace h:=bN (vx hb) h;refine fr 2 ?_;refine jM rfl rfl rfl rfl rfl rfl (aj rfl OQ jo rfl) ⟨rfl,trivial⟩ ?_;refine fr 2 ?_;refine jM rfl rfl rfl rfl rfl rfl (aj rfl gq (tw) rfl) ⟨rfl,trivial⟩ ?_;obtain⟨r5,UD,h⟩:=aa h;refine fr 3 ?_;refine fr 3 ?_;refine fr 3 ?_;refine fr 3 ?_;refine FM [.obj b1 86 (.rep (.arr 3 (.arr 5 (.int .i64))) a0),.obj x 195 (.eq (.func (.yield l) #[] #[])),.obj u 81 (.at bM a3),.obj c 196 (.eq (.func (.func 121) #[] #[(Pv u),(Pv x),(Pv c)]))] rfl rfl rfl rfl rfl rfl (yd [.tmp 34] rfl rfl rfl (hY z0 s0 a0 r5 UD)) ⟨rfl,rfl,trivial⟩ fun z6=>?_;refine pf ?_;refine aq (nl ?_);exact jf (z6,(r5.2,r5.1)) h (bv [.obj b1 86 (.rep (.arr 3 (.arr 5 (.int .i64))) a0),.obj x 195 (.eq (.func (.yield l) #[] #[])),.obj u 81 (.at bM a3),.obj c 196 (.eq (.func (.func 121) #[] #[(Pv u),(Pv x),(Pv c)]))] (E z6 r5.1) [2,1,3] ⟨rfl,trivial⟩ rfl)
   ·refine rx ?_;cases h;exact jg z3 [_] ⟨rfl,trivial⟩ rfl
  ·refine sk (ae (sr (fr 3 ?_)));refine lo Dj ?_;refine fr 2 ?_;refine lo gq ?_;refine mq ?_;obtain⟨x7,UA,h⟩:=aa h;refine jb (bf rfl UA) ?_;refine mq ?_;obtain⟨r8,UC,h⟩:=aa h;refine fr 1 ?_;refine fr 3 ?_;refine fr 3 ?_;refine fr 3 ?_;refine pK [.obj b1 86 (.rep (.arr 3 (.arr 5 (.int .i64))) a0)] rfl rfl rfl (pi (fs:=[]) (cs:=[(Pv u),(Pv x),(Pv c)]) (ags:=[.rep (.arr 3 (.arr 5 (.int .i64))) a0,I x7,.eq (.int .u8 a2)]) [.tmp 38,.tmp 40,.tmp 41] rfl rfl Iu rfl (ih a0 x7 a2 z0 s0 r8 UC)) ⟨rfl,rfl,rfl,rfl,trivial⟩ fun z9=>?_;refine ja (dT rfl) ?_;refine nt (cw h (fun h=>?_) (fun h=>?_))
   ·refine sr (cq (nt (rx ?_)));refine bu (bv (Γ':=[(9,_)]) [.obj b1 86 (.rep (.arr 3 (.arr 5 (.int .i64))) a0),.obj u 81 (.at bM a3),.obj x 195 (.eq (.func (.yield l) #[] #[])),.obj c 196 (.eq (.func (.func 121) #[] #[(Pv u),(Pv x),(Pv c)]))] (E z9 r8.2) [1,2,3] ⟨rfl,trivial⟩ rfl) ?_;cases h;exact jg z9 [_] ⟨rfl,trivial⟩ rfl
   ·refine sk (sr (lo gq ?_));refine mq ?_;obtain⟨F,Us,h⟩:=aa h;refine jb (ap [.tmp 44,.tmp 45] rfl rfl KO rfl (gz k a0 a1 F Us)) ?_;refine aq (nt ?_);refine dN (Z:=Z) (α:=σ) (fun qt Ue=>[]) (fun qt Ue=>[.obj u 81 (.at bM a3),.obj x 195 (.eq (.func (.yield l) #[] #[])),.obj c 196 (.eq (.func (.func 121) #[] #[(Pv u),(Pv x),(Pv c)]))]++E qt Ue) (fun e=>e=r) h (fun e h=>Option.some.inj h) (fun K hR h=>?_) (fun qt Ue h=>?_)
    ·refine sr (fr 1 ?_);refine lo xQ ?_;refine ja (dU rfl) ?_;refine ja (aJ 3 true rfl kw rfl) ?_;refine ja (aJ 1 false rfl bT rfl) ?_;refine ja (ak (t:=(.slice aY)) rfl eX rfl) ?_;refine ol mD ?_;refine eU rfl ?_;refine nt (ao (aK (Z:=Z) (α:=Int×σ) (fun J y=>[(1,I a1),(2,.eq (.int .u8 a2)),(3,Pt u),(5,Pt c),(6,Pt b1),(10,Ri F),(51,Rs aY a3.1.2.1),(52,I (a3.1.2.1.length:Int)),(53,I y.1)]) (fun J y=>[.obj u 81 (.at bM a3),.obj c 196 (.eq (.func (.func 121) #[] #[(Pv u),(Pv x),(Pv c)])),.obj x 195 (.eq (.func (.yield l) #[] #[])),.obj b1 86 (.rep (.arr 3 (.arr 5 (.int .i64))) a0)]++E J y.2) (dZ k a0 a1 a2 a3 (de k Y a3 m0) F) k z9 (0,r8.2) (fun _=>rfl) h (bv [.obj u 81 (.at bM a3),.obj b1 86 (.rep (.arr 3 (.arr 5 (.int .i64))) a0),.obj x 195 (.eq (.func (.yield l) #[] #[])),.obj c 196 (.eq (.func (.func 121) #[] #[(Pv u),(Pv x),(Pv c)]))] (E z9 r8.2) [0,3,2,1] ⟨rfl,rfl,rfl,rfl,rfl,rfl,rfl,rfl,rfl,trivial⟩ rfl) (fun n J y h=>?_)));unfold dZ at h;refine sr (jb (bp rfl) ?_);refine nt (ae (ci h (fun h=>?_) (fun h=>?_)))
     ·refine sk (dN (Z:=Z) (α:=σ) (fun X mc=>[(1,I a1),(2,.eq (.int .u8 a2)),(3,Pt u),(5,Pt c),(6,Pt b1),(10,Ri F),(51,Rs aY a3.1.2.1),(52,I (a3.1.2.1.length:Int)),(53,I y.1)]) (fun X mc=>[.obj u 81 (.at bM a3),.obj c 196 (.eq (.func (.func 121) #[] #[(Pv u),(Pv x),(Pv c)])),.obj x 195 (.eq (.func (.yield l) #[] #[])),.obj b1 86 (.rep (.arr 3 (.arr 5 (.int .i64))) a0)]++E X mc) (fun e=>e=r) h (fun e h=>hR e h) (fun K hR h=>?_) (fun X mc h=>?_))
      ·refine ao (sr (mq ?_));obtain⟨Uh,Um,h⟩:=aa h;refine jb (aA (t:=aY) rfl mD j7 Um) ?_;refine ja (ak (t:=aY) rfl j7 rfl) ?_;refine aF rfl rfl rfl (be rfl ue La) trivial fun Ut=>?_;refine aq ?_;refine bh rfl rfl (bb rfl j7 rfl rfl rfl) ⟨rfl,rfl,trivial⟩ ?_;refine nt (ae (aN (Z:=Z) (α:=Bool×σ) (fun U O=>[(1,I a1),(2,.eq (.int .u8 a2)),(3,Pt u),(5,Pt c),(6,Pt b1),(10,Ri F),(11,I y.1),(51,Rs aY a3.1.2.1),(52,I (a3.1.2.1.length:Int)),(53,I y.1),(80,.eq (.bool O.1))]) (fun U O=>[.obj u 81 (.at bM a3),.obj c 196 (.eq (.func (.func 121) #[] #[(Pv u),(Pv x),(Pv c)])),.obj x 195 (.eq (.func (.yield l) #[] #[])),.obj b1 86 (.rep (.arr 3 (.arr 5 (.int .i64))) a0)]++E U O.2) h (fun K h=>?_) (fun U O h=>?_)))
       ·refine bz ?_;refine dm ?_;refine dm ?_;obtain⟨Uz,Ur,h⟩:=aa h;refine db (ap [.tmp 58,.tmp 59] rfl rfl KQ rfl (iJ k a2 y.1 Uz Ur)) ?_;refine jH rfl rfl rfl (aH rfl) ⟨rfl,trivial⟩ (fun hb=>?_) (fun hb=>?_)
        ·replace h:=cF (Db hb) h;iterate 17 refine dg ?_
         refine df cp ?_;refine gn ?_;refine pt (nl ?_);exact jf (J,(true,y.2)) h (bv [.obj Ut 27 (.rep aY Uh),.obj u 81 (.at bM a3),.obj c 196 (.eq (.func (.func 121) #[] #[(Pv u),(Pv x),(Pv c)])),.obj x 195 (.eq (.func (.yield l) #[] #[])),.obj b1 86 (.rep (.arr 3 (.arr 5 (.int .i64))) a0)] (E J y.2) [1,2,3,4] ⟨rfl,rfl,rfl,rfl,rfl,rfl,rfl,rfl,rfl,rfl,rfl,trivial⟩ rfl)
        ·replace h:=bN (Dc hb) h;refine jG 1 rfl rfl rfl rfl rfl rfl (aj rfl xQ jo rfl) ⟨rfl,rfl,trivial⟩ ?_;refine aR rfl rfl rfl rfl rfl (dU rfl) ⟨rfl,rfl,trivial⟩ ?_;refine aR rfl rfl rfl rfl rfl (aJ 3 true rfl kw rfl) ⟨rfl,rfl,trivial⟩ ?_;refine aR rfl rfl rfl rfl rfl (ak (t:=av) rfl dj rfl) ⟨rfl,rfl,trivial⟩ ?_;refine aR rfl rfl rfl rfl rfl (aH rfl) ⟨rfl,rfl,trivial⟩ ?_;obtain⟨Uy,Up,h⟩:=aa h;refine aR rfl rfl rfl rfl rfl (ap [.tmp 65,.tmp 66] rfl rfl LZ rfl (tY k a3.1 F Uy Up)) ⟨rfl,rfl,rfl,trivial⟩ ?_;refine aR rfl rfl rfl rfl rfl (ar rfl kL) ⟨rfl,rfl,trivial⟩ ?_;refine jG 0 rfl rfl rfl rfl rfl rfl (aj rfl cm jo rfl) ⟨rfl,rfl,trivial⟩ ?_;obtain⟨Ux,Ul,h⟩:=aa h;refine aR rfl rfl rfl rfl rfl (bf rfl Ul) ⟨rfl,rfl,rfl,trivial⟩ ?_;refine jG 1 rfl rfl rfl rfl rfl rfl (aj rfl xQ jo rfl) ⟨rfl,rfl,trivial⟩ ?_;refine aR rfl rfl rfl rfl rfl (dU rfl) ⟨rfl,rfl,trivial⟩ ?_;refine aR rfl rfl rfl rfl rfl (aJ 3 true rfl kw rfl) ⟨rfl,rfl,trivial⟩ ?_;refine aR rfl rfl rfl rfl rfl (aJ 1 false rfl cJ rfl) ⟨rfl,rfl,trivial⟩ ?_;refine aR rfl rfl rfl rfl rfl (ak (t:=(.slice (.int .i64))) rfl bF rfl) ⟨rfl,rfl,trivial⟩ ?_;refine aR rfl rfl rfl rfl rfl (aH rfl) ⟨rfl,rfl,trivial⟩ ?_;obtain⟨Uw,Uk,h⟩:=aa h;refine aR rfl rfl rfl rfl rfl (aA (t:=(.int .i64)) rfl dw cm Uk) ⟨rfl,rfl,rfl,trivial⟩ ?_;refine aR rfl rfl rfl rfl rfl (ak (t:=(.int .i64)) rfl cm rfl) ⟨rfl,rfl,trivial⟩ ?_;refine df cp ?_;refine gb (iC rfl) ?_;refine pf (nl ?_);exact jf (J,(decide (Uw < Ux),y.2)) h (bv [.obj Ut 27 (.rep aY Uh),.obj u 81 (.at bM a3),.obj c 196 (.eq (.func (.func 121) #[] #[(Pv u),(Pv x),(Pv c)])),.obj x 195 (.eq (.func (.yield l) #[] #[])),.obj b1 86 (.rep (.arr 3 (.arr 5 (.int .i64))) a0)] (E J y.2) [1,2,3,4] ⟨rfl,rfl,rfl,rfl,rfl,rfl,rfl,rfl,rfl,rfl,rfl,trivial⟩ rfl)
       ·refine cv h (fun h=>?_) (fun h=>?_)
        ·refine dC (aU (bU (ah ?_)));exact jf (U,O.2) h (bv [.obj u 81 (.at bM a3),.obj c 196 (.eq (.func (.func 121) #[] #[(Pv u),(Pv x),(Pv c)])),.obj x 195 (.eq (.func (.yield l) #[] #[])),.obj b1 86 (.rep (.arr 3 (.arr 5 (.int .i64))) a0)] (E U O.2) [0,1,2,3] ⟨rfl,rfl,rfl,rfl,rfl,rfl,rfl,rfl,rfl,trivial⟩ rfl)
        ·refine sk (sr (fr 3 ?_));refine lo gq ?_;refine aF rfl rfl rfl (be rfl sP tR) trivial fun Ug=>?_;refine bh rfl rfl (bb rfl gq rfl rfl rfl) ⟨rfl,rfl,trivial⟩ ?_;refine nt (sr ?_);iterate 2 refine mq ?_
         refine ol dw ?_;refine mq ?_;obtain⟨UF,Ud,h⟩:=aa h;refine jb (iR rfl Re Gu (aC Ud).1 (aC Ud).2) ?_;obtain⟨ac,Uj,h⟩:=aa h;obtain⟨UE,Q,h⟩:=aa h;refine jb (iR rfl Rf cm (aC Q).1 (aC Q).2) ?_;refine bh rfl rfl (nY (t:=(.int .i64)) (off:=0) (i:=a1) (j:=(F.length:Int)) (N:=3) (L:=5) rfl cm .int rfl rfl rfl rfl Uj (aC Q).1 (aC Q).2 rfl) ⟨rfl,rfl,trivial⟩ ?_;refine nt (ae (bz ?_));refine ea 3 (aj rfl Dj jo rfl) ?_;refine ea 0 (aj rfl gq (tw) rfl) ?_;refine dm ?_;refine dm ?_;refine dm ?_;obtain⟨Uf,Uo,h⟩:=aa h;refine db (ap [.tmp 91,.tmp 92] rfl rfl DY rfl (jA k a2 y.1 Uf Uo)) ?_;refine df cp ?_;obtain⟨se,Un,h⟩:=aa h;refine fr 3 ?_;refine fr 4 ?_;refine fr 4 ?_;refine fr 4 ?_;refine fr 4 ?_;refine pK [.obj Ug 86 (.rep (.arr 3 (.arr 5 (.int .i64))) (List.set a0 (Int.toNat a1) (List.set ac (Int.toNat (F.length:Int)) y.1))),.obj b1 86 (.rep (.arr 3 (.arr 5 (.int .i64))) a0)] rfl rfl rfl (pi (fs:=[]) (cs:=[(Pv u),(Pv x),(Pv c)]) (ags:=[.rep (.arr 3 (.arr 5 (.int .i64))) (List.set a0 (Int.toNat a1) (List.set ac (Int.toNat (F.length:Int)) y.1)),I a1,.eq (.int .u8 Uf)]) [.tmp 89,.tmp 90,.tmp 93] rfl rfl Iu rfl (ih (List.set a0 (Int.toNat a1) (List.set ac (Int.toNat (F.length:Int)) y.1)) a1 Uf U O.2 se Un)) ⟨rfl,rfl,rfl,rfl,trivial⟩ fun pp=>?_;refine ja (dT rfl) ?_;refine nt (cw h (fun h=>?_) (fun h=>?_))
         ·refine sr (cq (nt (ay (br (bi (aV ?_))))));refine bu (bv (Γ':=[(9,_)]) [.obj Ug 86 (.rep (.arr 3 (.arr 5 (.int .i64))) (List.set a0 (Int.toNat a1) (List.set ac (Int.toNat (F.length:Int)) y.1))),.obj b1 86 (.rep (.arr 3 (.arr 5 (.int .i64))) a0),.obj u 81 (.at bM a3),.obj x 195 (.eq (.func (.yield l) #[] #[])),.obj c 196 (.eq (.func (.func 121) #[] #[(Pv u),(Pv x),(Pv c)]))] (E pp se.2) [2,3,4] ⟨rfl,trivial⟩ rfl) ?_;obtain rfl:=hR _ h;exact jg pp [_] ⟨rfl,trivial⟩ rfl
         ·refine aW (bn ?_);exact jf (pp,se.2) h (bv [.obj Ug 86 (.rep (.arr 3 (.arr 5 (.int .i64))) (List.set a0 (Int.toNat a1) (List.set ac (Int.toNat (F.length:Int)) y.1))),.obj b1 86 (.rep (.arr 3 (.arr 5 (.int .i64))) a0),.obj u 81 (.at bM a3),.obj x 195 (.eq (.func (.yield l) #[] #[])),.obj c 196 (.eq (.func (.func 121) #[] #[(Pv u),(Pv x),(Pv c)]))] (E pp se.2) [2,4,3,1] ⟨rfl,rfl,rfl,rfl,rfl,rfl,rfl,rfl,rfl,trivial⟩ rfl)
      ·refine ab ?_;obtain⟨Uu,Ui,h⟩:=aa h;refine jb (bf rfl Ui) ?_;refine mq (nl ?_);exact jf (X,(Uu,mc)) h (bv [.obj u 81 (.at bM a3),.obj c 196 (.eq (.func (.func 121) #[] #[(Pv u),(Pv x),(Pv c)])),.obj x 195 (.eq (.func (.yield l) #[] #[])),.obj b1 86 (.rep (.arr 3 (.arr 5 (.int .i64))) a0)] (E X mc) [0,1,2,3] ⟨rfl,rfl,rfl,rfl,rfl,rfl,rfl,rfl,rfl,trivial⟩ rfl)
     ·refine xa ?_;exact jf (J,y.2) h (bv [.obj u 81 (.at bM a3),.obj c 196 (.eq (.func (.func 121) #[] #[(Pv u),(Pv x),(Pv c)])),.obj x 195 (.eq (.func (.yield l) #[] #[])),.obj b1 86 (.rep (.arr 3 (.arr 5 (.int .i64))) a0)] (E J y.2) [0,2,1] trivial rfl)
    ·refine sr (cq (nt (ay ?_)));cases h;exact jg qt [_] ⟨rfl,trivial⟩ rfl
def jk{σ:Type}(k:Nat)(Y:σ→(List (List Int))→Option (σ×Bool))(a1:dq)(s0:σ):Option (σ):=
 (dP k ([]:(List (List Int)))).bind fun r2=>
 (de k Y a1 k r2 0 0 s0).bind fun r5=>
 some r5.2
theorem nO{M:Md Tryz.prog}{σ Z:Type}(E:Z→σ→List D)(l:Nat)(Y:σ→(List (List Int))→Option (σ×Bool))(k:Nat)(a1:dq)(c:Nat)(hY:∀z s p r,Y s p=some r→YT M l [.rep (.arr 3 (.arr 5 (.int .i64))) p] (E z s) (fun z':Z=>(.eq (.bool r.2),E z' r.1))):
 ∀(z0:Z) (s0:σ) (r:σ),jk k Y a1 s0=some r→du M 120 [.eq (.func (.yield l) #[] #[]),Pt c] ([.obj c 81 (.at bM a1)]++E z0 s0) (fun z:Z=>(bq [],[.obj c 81 (.at bM a1)]++E z r)):=by
 intro z0 s0 r h
 unfold jk at h
 replace h:=a8 h
 refine du.of 10 Tryz.func120 rfl Tryz.ntmps120 rfl fun S w0=>?_
 refine sr ?_
 refine bx fun b1=>?_
 refine nt ?_
 refine sr ?_
 obtain⟨r2,j,h⟩:=aa h
 have u:=eC k ([]:(List (List Int))) r2 j
 refine ja (dL (N:=[(.const (.slice none 0 0),.eq (.slice none 0 0))]) (ap [.const (.slice none 0 0)] rfl rfl CO rfl u) fun _ _ _ hn=>⟨(kN (t:=(.slice (.slice (.int .i64)))) (x:=([]:(List (List Int)))) .nil rfl rfl hn.1),trivial⟩) ?_
 refine aF rfl rfl rfl (be rfl sP tR) trivial fun b3=>?_
 refine bh rfl rfl (bb rfl gq rfl rfl rfl) ⟨rfl,rfl,trivial⟩ ?_
 refine nt ?_
 refine sr ?_
 refine aF rfl rfl rfl (be rfl Ox QM) trivial fun b4=>?_
 refine nt ?_
 refine sr ?_
 refine jc (tf [] [.tmp 1,.tmp 2,.tmp 4] [] [(Pv c),(Pv b1),(Pv b4)] rfl rfl rfl) ?_
 refine bh rfl rfl (bb rfl Dj rfl rfl rfl) ⟨rfl,rfl,trivial⟩ ?_
 refine nt ?_
 refine ab ?_
 refine lo Dj ?_
 refine fr 1 ?_
 refine lo gq ?_
 obtain⟨r5,e,h⟩:=aa h
 have n:=mZ E l Y k a1 c b1 b4 hY k r2 0 0 z0 s0 r5 e
 refine fr 1 ?_
 refine fr 2 ?_
 refine fr 3 ?_
 refine fr 3 ?_
 refine pK [.obj b3 86 (.rep (.arr 3 (.arr 5 (.int .i64))) r2)] rfl rfl rfl (pi (fs:=[]) (cs:=[(Pv c),(Pv b1),(Pv b4)]) (ags:=[.rep (.arr 3 (.arr 5 (.int .i64))) r2,I 0,.eq (.int .u8 0)]) [.tmp 8,.const (.int .i64 (0)),.const (.int .u8 (0))] rfl rfl Iu rfl n) ⟨rfl,rfl,rfl,rfl,trivial⟩ fun z6=>?_
 refine au ?_
 refine jw ?_
 refine bu (bv (Γ':=[]) [.obj b3 86 (.rep (.arr 3 (.arr 5 (.int .i64))) r2),.obj c 81 (.at bM a1),.obj b1 195 (.eq (.func (.yield l) #[] #[])),.obj b4 196 (.eq (.func (.func 121) #[] #[(Pv c),(Pv b1),(Pv b4)]))] (E z6 r5.2) [1] trivial rfl) ?_
 cases h
 exact jg z6 [] trivial rfl
def jI(k:Nat)(a1:dq):Option (List (List (List Int))):=
 (jk k (qD (fun(y2:(List (List (List Int)))) (p4:(List (List Int)))=>
  (dE (bQ (List.length y2+List.length [p4]))).bind fun _=>
  some (y2++[p4],true))) a1 (([]:(List (List (List Int)))),false)).bind fun r5=>
 if r5.2=true then(none) else(some r5.1)
theorem oK(k:Nat)(a1:dq)(c:Nat)(r:(List (List (List Int))))(h:jI k a1=some r):
 bX Tryz.prog 119 [.eq (.slice none 0 0),.eq (.func (.func 120) #[] #[(Pv c)])] [.obj c 81 (.at bM a1)] (fun z:Value=>(bq [.eq z],[.sl z 86 (.arr 3 (.arr 5 (.int .i64))) r,.obj c 81 (.at bM a1)])):=by
 unfold jI at h
 replace h:=a8 h
 refine yR 13 Tryz.func119 rfl Tryz.ntmps119 rfl fun {M} S w0=>?_
 refine sr ?_
 refine bx fun b1=>?_
 refine cq ?_
 refine nt ?_
 refine ae ?_
 refine sr ?_
 refine mq ?_
 refine nt ?_
 refine ao ?_
 refine dW (SE.nil 86 (.arr 3 (.arr 5 (.int .i64)))) ?_
 refine jx 1 rfl ?_
 refine jx 2 rfl ?_
 obtain⟨r5,j,h⟩:=aa h
 refine ov (Δ:=[.obj c 81 (.at bM a1),.obj b1 132 (.eq (.slice none 0 0)),.sl (.slice none 0 0) 86 (.arr 3 (.arr 5 (.int .i64))) ([]:(List (List (List Int))))]) (F:=[]) (X:=Value) (J:=fun _=>Ko r5.2) (E:=fun z3=>[.obj c 81 (.at bM a1),.obj b1 132 (.eq z3),.sl z3 86 (.arr 3 (.arr 5 (.int .i64))) r5.1]) (r0:=fun _=>.tup .any) rfl rfl Qx (fun rec hp ha hb hs hpe hN hv l=>?_) (fun dl z3=>qN (fun hj=>?_) (fun hj=>?_))
 ·
  rcases rec with⟨st0,pe0,fn0,tm0,ps0,as0,bd0,df0⟩;dsimp only at hp ha hb hs hpe hN hv;subst hp hs hpe;have vN:vT tm0 [(2,Pt b1)]:=⟨congrArg A.eq (hv 2 _ rfl).symm,trivial⟩;refine du.pick (M:=M) [1,0,2,3] [1,0,2,3] (nO (fun(z3:Value) (q:(List (List (List Int)))×Bool)=>[.raw l (.loop (j9 ⟨.ready,none,fn0,tm0, #[7],as0,bd0,df0⟩ (Ko q.2))),.obj b1 132 (.eq z3),.sl z3 86 (.arr 3 (.arr 5 (.int .i64))) q.1]) l (qD (fun(y2:(List (List (List Int)))) (p4:(List (List Int)))=>
  (dE (bQ (List.length y2+List.length [p4]))).bind fun _=>
  some (y2++[p4],true))) k a1 c (fun z3 q p r' h=>?_) (.slice none 0 0) (([]:(List (List (List Int)))),false) r5 j) rfl (fun _=>rfl) (fun _=>rfl)
  obtain⟨rq,hq,h2,rfl⟩:=qO h;obtain⟨y2,b5⟩:=q;obtain rfl:b5=false:=hq;replace h:=a8 h2;obtain⟨p4,hpv⟩:∃x,x=p:=⟨_,rfl⟩;subst hpv;refine YT.pick (R':=(fun z3:Value=>(.eq (.bool rq.2),[.raw l (.loop (j9 ⟨.ready,none,fn0,tm0, #[7],as0,bd0,df0⟩ (Ko (!rq.2)))),.obj b1 132 (.eq z3),.sl z3 86 (.arr 3 (.arr 5 (.int .i64))) rq.1]))) [0,1,2] [0,1,2] (IR ha hb (N:=13) (Γ:=[(2,Pt b1)]) rfl hN (by decide) vN (fun S w=>?_)) rfl (fun _=>rfl) (fun _=>rfl);refine ab (aF rfl rfl rfl (be rfl sP tR) trivial fun b6=>?_);refine bh rfl rfl (bb rfl gq rfl rfl rfl) ⟨rfl,rfl,trivial⟩ ?_;refine nl (dn 1 rfl ?_);refine wa rfl rfl ?_;refine ao (ab (fr 2 ?_));refine lo Gw ?_;refine fr 2 ?_;refine lo gq ?_;refine ja (bj (t:=(.arr 3 (.arr 5 (.int .i64)))) [(.tmp 9,_)] [p4] rfl rfl LK (.cons rfl .rep .nil) rfl rfl) ?_;obtain⟨u7,e,h⟩:=aa h;refine fr 3 ?_;refine c6 rfl rfl rfl (bI rfl rfl LK (aC e)) ⟨rfl,rfl,trivial⟩ fun v8=>?_;refine ou fun o9=>?_;refine fr 2 ?_;refine bh rfl rfl (bb rfl Gw o9 rfl rfl) ⟨rfl,rfl,trivial⟩ ?_;refine au (aM (dn 1 rfl ?_));refine dn 1 rfl ?_;refine dn 3 rfl ?_;cases h;exact tV v8 2 rfl
 ·
  replace h:=bN (Dc hj) h;refine aM (tn (sr (fr 2 ?_)));refine lo Gw ?_;refine aq (nt (ay ?_));refine dn 1 rfl ?_;refine yO ?_;refine bu (SE.fin (Γ':=[(4,_)]) [2,1,0] ⟨rfl,trivial⟩ rfl) ?_;cases h;exact aL z3 [.eq z3] 2 ⟨rfl,trivial⟩ rfl
 ·
  replace h:=cF (Db hj) h;cases h
def kC(k:Nat)(a0:dq):Option (List (List (List Int))):=
 (jI k a0).bind fun r1=>
 some r1
theorem qu(k:Nat)(a0:dq)(c:Nat)(r:(List (List (List Int))))(h:kC k a0=some r):
 bX Tryz.prog 84 [.eq (.func (.func 120) #[] #[(Pv c)])] [.obj c 81 (.at bM a0)] (fun _:Unit=>(bq [.rep (.slice (.arr 3 (.arr 5 (.int .i64)))) r],[.obj c 81 (.at bM a0)])):=by
 unfold kC at h
 replace h:=a8 h
 refine bX.of 5 Tryz.func84 rfl Tryz.ntmps84 rfl fun S w0=>?_
 refine sr ?_
 refine cq ?_
 refine nt ?_
 refine sr ?_
 refine mq ?_
 obtain⟨r1,e,h⟩:=aa h
 have j:=oK k a0 c r1 e
 refine bS (Δ:=[_]) (F:=_) (fun _ _ _=>ax rfl _) rfl rfl (ap [.const (.slice none 0 0),.tmp 3] rfl rfl Qz rfl j) ⟨rfl,rfl,trivial⟩ fun z2=>?_
 refine aq ?_
 refine nt ?_
 refine ay ?_
 refine bu (eR [2,4] ⟨rfl,rfl,trivial⟩) ?_
 cases h
 exact aL () [_] 1 ⟨rfl,trivial⟩ rfl
theorem oS(a0:dq):bX Tryz.prog 85 [.at bM a0] [] (fun z:Nat=>(bq [.eq (.func (.func 120) #[] #[(Pv z)])],[.obj z 81 (.at bM a0)])):=by
 refine bX.of 4 Tryz.func85 rfl Tryz.ntmps85 rfl fun S w0=>?_;refine sr (aF rfl rfl rfl (oD rfl trivial) ⟨rfl,trivial⟩ fun z=>?_);refine cq (nt (sr ?_));refine ja (tf [] [.tmp 1] [] [(Pv z)] rfl rfl rfl) ?_;refine aq (nt (ay ?_));exact aL z [_] 1 ⟨rfl,trivial⟩ rfl
def k9(k:Nat)(a0:(List Int)):Option aO:=
 ((if(a0.length:Int)=0 then(some [3,2]) else(some a0)):Option ((List Int))).bind fun x2=>
 some (3,[(1,[0,2]),(1,[1]),(2,[2]),(1,[0,1])],x2)
theorem jU(k:Nat)(a0:(List Int))(r:aO)(h:k9 k a0=some r):
 bX Tryz.prog 45 [Ri a0] [] (fun _:Unit=>(bq [.rep av r],[])):=by
 unfold k9 at h
 replace h:=a8 h
 refine bX.of 18 Tryz.func45 rfl Tryz.ntmps45 rfl fun S w0=>?_
 refine sr ?_
 refine aF rfl rfl rfl (be rfl kA mC) trivial fun b1=>?_
 refine nt ?_
 refine aN (Z:=Unit) (α:=(List Int)) (fun z3 x2=>[(0,Ri x2),(2,Pt b1)]) (fun z3 x2=>[.obj b1 25 (.agg (.pair (I 0) (.pair (.eq (.slice none 0 0)) (.eq (.slice none 0 0)))))]) h (fun K h=>?_) (fun z3 x2 h=>?_)
 ·
  refine sr (mq ?_);refine ol dw ?_;refine jb (fM rfl) ?_;refine nt (ci h (fun h=>?_) (fun h=>?_))
  ·refine ab (jb (bj (t:=(.int .i64)) [(.const (.int .i64 (3)),_),(.const (.int .i64 (2)),_)] [3,2] rfl rfl dI (.cons rfl .int (.cons rfl .int .nil)) rfl rfl) ?_);refine aq (nl ?_);exact jz ((),[3,2]) h [0]
  ·refine aW (ah ?_);exact jz ((),a0) h [0]
 ·
  refine sr (jb (bj (t:=(.int .i64)) [(.const (.int .i64 (0)),_),(.const (.int .i64 (2)),_)] [0,2] rfl rfl dI (.cons rfl .int (.cons rfl .int .nil)) rfl rfl) ?_);refine jb (cI [(0,.const (.int .i64 (1)),_),(1,.tmp 7,_)] rfl zD ue ub (ij ⟨rfl,rfl,trivial⟩) rfl) ?_;refine ja (bj (t:=(.int .i64)) [(.const (.int .i64 (1)),_)] [1] rfl rfl dI (.cons rfl .int .nil) rfl rfl) ?_;refine jb (cI [(0,.const (.int .i64 (1)),_),(1,.tmp 9,_)] rfl zD ue ub (ij ⟨rfl,rfl,trivial⟩) rfl) ?_;refine ja (bj (t:=(.int .i64)) [(.const (.int .i64 (2)),_)] [2] rfl rfl dI (.cons rfl .int .nil) rfl rfl) ?_;refine jb (cI [(0,.const (.int .i64 (2)),_),(1,.tmp 11,_)] rfl zD ue ub (ij ⟨rfl,rfl,trivial⟩) rfl) ?_;refine jb (bj (t:=(.int .i64)) [(.const (.int .i64 (0)),_),(.const (.int .i64 (1)),_)] [0,1] rfl rfl dI (.cons rfl .int (.cons rfl .int .nil)) rfl rfl) ?_;refine jb (cI [(0,.const (.int .i64 (1)),_),(1,.tmp 13,_)] rfl zD ue ub (ij ⟨rfl,rfl,trivial⟩) rfl) ?_;refine aE rfl (bj (t:=aY) [(.tmp 8,_),(.tmp 10,_),(.tmp 12,_),(.tmp 14,_)] [(1,[0,2]),(1,[1]),(2,[2]),(1,[0,1])] rfl rfl xR (.cons trivial (.agg (.pair .int .rep)) (.cons trivial (.agg (.pair .int .rep)) (.cons trivial (.agg (.pair .int .rep)) (.cons trivial (.agg (.pair .int .rep)) .nil)))) rfl rfl) ⟨rfl,rfl,rfl,rfl,trivial⟩ ?_;refine mq ?_;refine jc (cI [(0,.const (.int .i64 (3)),_),(1,.tmp 15,_),(2,.tmp 16,_)] rfl GR kA AN (ij ⟨rfl,rfl,rfl,trivial⟩) rfl) ?_;refine bh rfl rfl (bb rfl dj trivial rfl rfl) ⟨rfl,rfl,trivial⟩ ?_;refine nt (ay (bu (oq (a:=.agg (.pair (I 3) (.pair (Rs aY [(1,[0,2]),(1,[1]),(2,[2]),(1,[0,1])]) (Ri x2)))) (a':=.rep av (3,[(1,[0,2]),(1,[1]),(2,[2]),(1,[0,1])],x2)) (wc (.agg (.pair .int (.pair .rep .rep))))) ?_));cases h;exact aL () [.rep av (3,[(1,[0,2]),(1,[1]),(2,[2]),(1,[0,1])],x2)] 0 ⟨⟨_,_,_,_,_,rfl,(.head _),dj,(tw),rfl⟩,trivial⟩ rfl
def xd(k:Nat):Option (List (List Int)):=
 some [[1,0,3],[2]]
theorem rZ(k:Nat)(r:(List (List Int)))(h:xd k=some r):
 bX Tryz.prog 46 [] [] (fun _:Unit=>(bq [.rep (.slice (.slice (.int .i64))) r],[])):=by
 unfold xd at h
 replace h:=a8 h
 refine bX.of 4 Tryz.func46 rfl Tryz.ntmps46 rfl fun S w0=>?_
 refine sr ?_
 refine cq ?_
 refine nt ?_
 refine sr ?_
 refine jc (bj (t:=(.int .i64)) [(.const (.int .i64 (1)),_),(.const (.int .i64 (0)),_),(.const (.int .i64 (3)),_)] [1,0,3] rfl rfl dI (.cons rfl .int (.cons rfl .int (.cons rfl .int .nil))) rfl rfl) ?_
 refine ja (bj (t:=(.int .i64)) [(.const (.int .i64 (2)),_)] [2] rfl rfl dI (.cons rfl .int .nil) rfl rfl) ?_
 refine jb (bj (t:=(.slice (.int .i64))) [(.tmp 1,_),(.tmp 2,_)] [[1,0,3],[2]] rfl rfl oW (.cons rfl .rep (.cons rfl .rep .nil)) rfl rfl) ?_
 refine aq ?_
 refine nt ?_
 refine ay ?_
 cases h
 exact ra
def HT(k:Nat):Option (List (List Int)):=
 some [[0,2],[3,1]]
theorem HS(k:Nat)(r:(List (List Int)))(h:HT k=some r):
 bX Tryz.prog 47 [] [] (fun _:Unit=>(bq [.rep (.slice (.slice (.int .i64))) r],[])):=by
 unfold HT at h
 replace h:=a8 h
 refine bX.of 4 Tryz.func47 rfl Tryz.ntmps47 rfl fun S w0=>?_
 refine sr ?_
 refine cq ?_
 refine nt ?_
 refine sr ?_
 refine jb (bj (t:=(.int .i64)) [(.const (.int .i64 (0)),_),(.const (.int .i64 (2)),_)] [0,2] rfl rfl dI (.cons rfl .int (.cons rfl .int .nil)) rfl rfl) ?_
 refine jb (bj (t:=(.int .i64)) [(.const (.int .i64 (3)),_),(.const (.int .i64 (1)),_)] [3,1] rfl rfl dI (.cons rfl .int (.cons rfl .int .nil)) rfl rfl) ?_
 refine jb (bj (t:=(.slice (.int .i64))) [(.tmp 1,_),(.tmp 2,_)] [[0,2],[3,1]] rfl rfl oW (.cons rfl .rep (.cons rfl .rep .nil)) rfl rfl) ?_
 refine aq ?_
 refine nt ?_
 refine ay ?_
 cases h
 exact ra
def mQ(k:Nat)(a0:(List Int)):Option bR:=
 some (a0,0,1)
theorem vB(k:Nat)(a0:(List Int))(r:bR)(h:mQ k a0=some r):
 bX Tryz.prog 13 [Ri a0] [] (fun z:Nat=>(bq [Pt z],[.obj z 75 (.agg (.pair (Ri r.1) (.pair (I r.2.1) (.eq (.int .u64 r.2.2)))))])):=by
 unfold mQ at h
 replace h:=a8 h
 refine bX.of 6 Tryz.func13 rfl Tryz.ntmps13 rfl fun S w0=>?_
 refine sr ?_
 refine cq ?_
 refine nt ?_
 refine sr ?_
 refine mq ?_
 refine jb (cI [(0,.tmp 3,_),(2,.const (.int .u64 (1)),_)] rfl RF Rq QK (ij ⟨rfl,rfl,trivial⟩) rfl) ?_
 refine aF rfl rfl rfl (oD rfl trivial) ⟨rfl,trivial⟩ fun b1=>?_
 refine aq ?_
 refine nt ?_
 refine ay ?_
 cases h
 exact aL b1 [Pt b1] 1 ⟨rfl,trivial⟩ rfl
def ek(k:Nat)(a0:(List Int)):Option (List Int):=
 (dE (bQ (List.length ([]:(List Int))+List.length a0))).bind fun _=>
 some (([]:(List Int))++a0)
theorem cz(k:Nat)(a0:(List Int))(r:(List Int))(h:ek k a0=some r):
 bX Tryz.prog 50 [Ri a0] [] (fun z:Value=>(bq [.eq z],[.sl z 3 (.int .i64) r])):=by
 unfold ek at h
 replace h:=a8 h
 refine bX.of 6 Tryz.func50 rfl Tryz.ntmps50 rfl fun S w0=>?_
 refine sr ?_
 refine cq ?_
 refine nt ?_
 refine sr ?_
 refine aF rfl rfl rfl (me (t:=(.int .i64)) [] ([]:(List Int)) rfl rfl dI .nil rfl rfl) trivial fun v1=>?_
 refine mq ?_
 obtain⟨u2,c,h⟩:=aa h
 refine c6 rfl rfl rfl (bI rfl rfl dI (aC c)) ⟨rfl,rfl,trivial⟩ fun v3=>?_
 refine aq ?_
 refine nt ?_
 refine ay ?_
 cases h
 exact aL v3 [.eq v3] 1 ⟨rfl,trivial⟩ rfl
def fS(k:Nat)(a0:aO):Nat→((List eO)×Int)→Option (List eO)
 |0,_=>none
 |n+1,y9=>
  if y9.2 < (a0.2.1.length:Int) then((aQ a0.2.1 y9.2).bind fun c=>
  (aQ a0.2.1 y9.2).bind fun j=>
  (ek k j.2).bind fun e=>
  (dE (bQ (List.length y9.1+List.length [(c.1,e)]))).bind fun _=>
  (ck (y9.2+1)).bind fun h=>
  fS k a0 n (y9.1++[(c.1,e)],h)) else(some y9.1)
def jd(k:Nat)(a0:aO):Option aO:=
 (ek k a0.2.2).bind fun r3=>
 ((fS k a0 k (([]:(List eO)),0)):Option ((List eO))).bind fun x7=>
 some (a0.1,x7,r3)
theorem uk(k:Nat)(a0:aO)(r:aO)(h:jd k a0=some r):
 bX Tryz.prog 16 [.rep av a0] [] (fun z:Value×Value=>(bq [.agg (.pair (I r.1) (.pair (.eq z.1) (.eq z.2)))],[.sl z.1 27 aY r.2.1,.sl z.2 3 (.int .i64) r.2.2])):=by
 unfold jd at h
 replace h:=a8 h
 refine bX.of 38 Tryz.func16 rfl Tryz.ntmps16 rfl fun S w0=>?_
 refine sr ?_
 refine bx fun b1=>?_
 refine aF rfl rfl rfl (be rfl kA mC) trivial fun b2=>?_
 refine nt ?_
 refine ae ?_
 obtain⟨r3,c,h⟩:=aa h
 refine dW (SE.fin (Γ':=[(1,Pt b1),(2,Pt b2)]) (Δ':=[.obj b2 25 (.agg (.pair (I 0) (.pair (.eq (.slice none 0 0)) (.eq (.slice none 0 0))))),.obj b1 25 (.rep av a0)]) [0,1] ⟨rfl,rfl,trivial⟩ rfl) ?_
 refine A1 (I:=Value×Nat) (Ge:=fun i=>[(1,Pt b1),(2,Pt b2),(3,.eq (.pointer (some ⟨i.2,0,none⟩)))]) (De:=fun i=>[.obj b1 25 (.rep av a0),.obj b2 25 (.agg (.pair (I 0) (.pair (.eq (.slice none 0 0)) (.eq (.slice none 0 0))))),.sl i.1 3 (.int .i64) r3,.obj i.2 25 (.agg (.pair (I a0.1) (.pair (.eq (.slice none 0 0)) (.eq i.1))))]) (L:=[true,true,true,true,true,true,true,true]) cp rfl (fun J hJ hE=>?_) (by kernel_rfl) ?_
 ·
  have s127:∀(v4:Value) (b6:Nat),J 1 [true,true,true,true,true,true,true,false] [(1,Pt b1),(2,Pt b2),(3,Pt b6),(10,.agg (.pair (I a0.1) (.pair (.eq (.slice none 0 0)) (.eq v4))))] [.obj b1 25 (.rep av a0),.obj b2 25 (.agg (.pair (I 0) (.pair (.eq (.slice none 0 0)) (.eq (.slice none 0 0))))),.sl v4 3 (.int .i64) r3,.obj b6 25 (.agg (.pair (I 0) (.pair (.eq (.slice none 0 0)) (.eq (.slice none 0 0)))))]:=fun v4 b6=>by
   subst hJ;refine JD.step [7] (by kernel_rfl) rfl ?_;refine cM.cons rfl ?_ ?_
   ·refine fr 3 ?_;refine bh rfl rfl (bb rfl dj trivial rfl rfl) ⟨rfl,rfl,trivial⟩ ?_;exact aG (hE ⟨v4,b6⟩) [1,2,3,0] ⟨rfl,rfl,rfl,trivial⟩
   exact trivial
  have s63:∀(v4:Value),J 2 [true,true,true,true,true,true,false,false] [(1,Pt b1),(2,Pt b2),(10,.agg (.pair (I a0.1) (.pair (.eq (.slice none 0 0)) (.eq v4))))] [.obj b1 25 (.rep av a0),.obj b2 25 (.agg (.pair (I 0) (.pair (.eq (.slice none 0 0)) (.eq (.slice none 0 0))))),.sl v4 3 (.int .i64) r3]:=fun v4=>by
   subst hJ;refine JD.step [6] (by kernel_rfl) rfl ?_;refine cM.cons rfl ?_ ?_
   ·refine aF rfl rfl rfl (be rfl kA mC) trivial fun b6=>?_;exact aG (s127 v4 b6) [1,2,3,0] ⟨rfl,rfl,rfl,rfl,trivial⟩
   exact trivial
  have s95:∀(v4:Value) (b6:Nat),J 2 [true,true,true,true,true,false,true,false] [(1,Pt b1),(2,Pt b2),(3,Pt b6),(6,I a0.1),(9,.eq v4)] [.obj b1 25 (.rep av a0),.obj b2 25 (.agg (.pair (I 0) (.pair (.eq (.slice none 0 0)) (.eq (.slice none 0 0))))),.sl v4 3 (.int .i64) r3,.obj b6 25 (.agg (.pair (I 0) (.pair (.eq (.slice none 0 0)) (.eq (.slice none 0 0)))))]:=fun v4 b6=>by
   subst hJ;refine JD.step [5] (by kernel_rfl) rfl ?_;refine cM.cons rfl ?_ ?_
   ·refine fr 2 ?_;refine ou fun o5=>?_;refine jb (cI [(0,.tmp 6,_),(2,.tmp 9,_)] rfl GR kA AN (ij ⟨rfl,o5,trivial⟩) rfl) ?_;exact aG (s127 v4 b6) [1,2,0,3] ⟨rfl,rfl,rfl,rfl,trivial⟩
   exact trivial
  have s31:∀(v4:Value),J 3 [true,true,true,true,true,false,false,false] [(1,Pt b1),(2,Pt b2),(6,I a0.1),(9,.eq v4)] [.obj b1 25 (.rep av a0),.obj b2 25 (.agg (.pair (I 0) (.pair (.eq (.slice none 0 0)) (.eq (.slice none 0 0))))),.sl v4 3 (.int .i64) r3]:=fun v4=>by
   subst hJ;refine JD.step [5,6] (by kernel_rfl) rfl ?_;refine cM.cons rfl ?_ ?_
   ·refine fr 2 ?_;refine ou fun o5=>?_;refine jb (cI [(0,.tmp 6,_),(2,.tmp 9,_)] rfl GR kA AN (ij ⟨rfl,o5,trivial⟩) rfl) ?_;exact aG (s63 v4) [1,2,0] ⟨rfl,rfl,rfl,trivial⟩
   refine cM.cons rfl ?_ ?_
   ·refine aF rfl rfl rfl (be rfl kA mC) trivial fun b6=>?_;exact aG (s95 v4 b6) [1,2,3,0] ⟨rfl,rfl,rfl,rfl,rfl,trivial⟩
   exact trivial
  have s79:∀(b6:Nat),J 3 [true,true,true,true,false,false,true,false] [(1,Pt b1),(2,Pt b2),(3,Pt b6),(6,I a0.1),(8,Ri a0.2.2)] [.obj b1 25 (.rep av a0),.obj b2 25 (.agg (.pair (I 0) (.pair (.eq (.slice none 0 0)) (.eq (.slice none 0 0))))),.obj b6 25 (.agg (.pair (I 0) (.pair (.eq (.slice none 0 0)) (.eq (.slice none 0 0)))))]:=fun b6=>by
   subst hJ;refine JD.step [4] (by kernel_rfl) rfl ?_;refine cM.cons rfl ?_ ?_
   ·refine aF rfl rfl rfl (ap [.tmp 8] rfl rfl ut rfl (cz k a0.2.2 r3 c)) ⟨rfl,trivial⟩ fun v4=>?_;exact aG (s95 v4 b6) [1,2,0,3] ⟨rfl,rfl,rfl,rfl,rfl,trivial⟩
   exact trivial
  have s93:∀(v4:Value) (b6:Nat),J 3 [true,false,true,true,true,false,true,false] [(1,Pt b1),(2,Pt b2),(3,Pt b6),(5,Pt b1),(9,.eq v4)] [.obj b1 25 (.rep av a0),.obj b2 25 (.agg (.pair (I 0) (.pair (.eq (.slice none 0 0)) (.eq (.slice none 0 0))))),.sl v4 3 (.int .i64) r3,.obj b6 25 (.agg (.pair (I 0) (.pair (.eq (.slice none 0 0)) (.eq (.slice none 0 0)))))]:=fun v4 b6=>by
   subst hJ;refine JD.step [1] (by kernel_rfl) rfl ?_;refine cM.cons rfl ?_ ?_
   ·refine lo cm ?_;exact aG (s95 v4 b6) [0,1,2,3] ⟨rfl,rfl,rfl,rfl,rfl,trivial⟩
   exact trivial
  have s15:J 4 [true,true,true,true,false,false,false,false] [(1,Pt b1),(2,Pt b2),(6,I a0.1),(8,Ri a0.2.2)] [.obj b1 25 (.rep av a0),.obj b2 25 (.agg (.pair (I 0) (.pair (.eq (.slice none 0 0)) (.eq (.slice none 0 0)))))]:=by
   subst hJ;refine JD.step [4,6] (by kernel_rfl) rfl ?_;refine cM.cons rfl ?_ ?_
   ·refine aF rfl rfl rfl (ap [.tmp 8] rfl rfl ut rfl (cz k a0.2.2 r3 c)) ⟨rfl,trivial⟩ fun v4=>?_;exact aG (s31 v4) [1,2,0] ⟨rfl,rfl,rfl,rfl,trivial⟩
   refine cM.cons rfl ?_ ?_
   ·refine aF rfl rfl rfl (be rfl kA mC) trivial fun b6=>?_;exact aG (s79 b6) [1,2,0] ⟨rfl,rfl,rfl,rfl,rfl,trivial⟩
   exact trivial
  have s71:∀(b6:Nat),J 4 [true,true,true,false,false,false,true,false] [(1,Pt b1),(2,Pt b2),(3,Pt b6),(6,I a0.1),(7,.eq (.pointer (some ⟨b1,2,none⟩)))] [.obj b1 25 (.rep av a0),.obj b2 25 (.agg (.pair (I 0) (.pair (.eq (.slice none 0 0)) (.eq (.slice none 0 0))))),.obj b6 25 (.agg (.pair (I 0) (.pair (.eq (.slice none 0 0)) (.eq (.slice none 0 0)))))]:=fun b6=>by
   subst hJ;refine JD.step [3] (by kernel_rfl) rfl ?_;refine cM.cons rfl ?_ ?_
   ·refine lo bF ?_;exact aG (s79 b6) [0,1,2] ⟨rfl,rfl,rfl,rfl,rfl,trivial⟩
   exact trivial
  have s29:∀(v4:Value),J 4 [true,false,true,true,true,false,false,false] [(1,Pt b1),(2,Pt b2),(5,Pt b1),(9,.eq v4)] [.obj b1 25 (.rep av a0),.obj b2 25 (.agg (.pair (I 0) (.pair (.eq (.slice none 0 0)) (.eq (.slice none 0 0))))),.sl v4 3 (.int .i64) r3]:=fun v4=>by
   subst hJ;refine JD.step [1,6] (by kernel_rfl) rfl ?_;refine cM.cons rfl ?_ ?_
   ·refine lo cm ?_;exact aG (s31 v4) [0,1,2] ⟨rfl,rfl,rfl,rfl,trivial⟩
   refine cM.cons rfl ?_ ?_
   ·refine aF rfl rfl rfl (be rfl kA mC) trivial fun b6=>?_;exact aG (s93 v4 b6) [1,2,3,0] ⟨rfl,rfl,rfl,rfl,rfl,trivial⟩
   exact trivial
  have s77:∀(b6:Nat),J 4 [true,false,true,true,false,false,true,false] [(1,Pt b1),(2,Pt b2),(3,Pt b6),(5,Pt b1),(8,Ri a0.2.2)] [.obj b1 25 (.rep av a0),.obj b2 25 (.agg (.pair (I 0) (.pair (.eq (.slice none 0 0)) (.eq (.slice none 0 0))))),.obj b6 25 (.agg (.pair (I 0) (.pair (.eq (.slice none 0 0)) (.eq (.slice none 0 0)))))]:=fun b6=>by
   subst hJ;refine JD.step [1,4] (by kernel_rfl) rfl ?_;refine cM.cons rfl ?_ ?_
   ·refine lo cm ?_;exact aG (s79 b6) [0,1,2] ⟨rfl,rfl,rfl,rfl,rfl,trivial⟩
   refine cM.cons rfl ?_ ?_
   ·refine aF rfl rfl rfl (ap [.tmp 8] rfl rfl ut rfl (cz k a0.2.2 r3 c)) ⟨rfl,trivial⟩ fun v4=>?_;exact aG (s93 v4 b6) [1,2,0,3] ⟨rfl,rfl,rfl,rfl,rfl,trivial⟩
   exact trivial
  have s92:∀(v4:Value) (b6:Nat),J 4 [false,false,true,true,true,false,true,false] [(1,Pt b1),(2,Pt b2),(3,Pt b6),(9,.eq v4)] [.obj b1 25 (.rep av a0),.obj b2 25 (.agg (.pair (I 0) (.pair (.eq (.slice none 0 0)) (.eq (.slice none 0 0))))),.sl v4 3 (.int .i64) r3,.obj b6 25 (.agg (.pair (I 0) (.pair (.eq (.slice none 0 0)) (.eq (.slice none 0 0)))))]:=fun v4 b6=>by
   subst hJ;refine JD.step [0] (by kernel_rfl) rfl ?_;refine cM.cons rfl ?_ ?_
   ·refine fl fD ?_;exact aG (s93 v4 b6) [0,1,2,3] ⟨rfl,rfl,rfl,rfl,rfl,trivial⟩
   exact trivial
  have s7:J 5 [true,true,true,false,false,false,false,false] [(1,Pt b1),(2,Pt b2),(6,I a0.1),(7,.eq (.pointer (some ⟨b1,2,none⟩)))] [.obj b1 25 (.rep av a0),.obj b2 25 (.agg (.pair (I 0) (.pair (.eq (.slice none 0 0)) (.eq (.slice none 0 0)))))]:=by
   subst hJ;refine JD.step [3,6] (by kernel_rfl) rfl ?_;refine cM.cons rfl ?_ ?_
   ·refine lo bF ?_;exact aG s15 [0,1] ⟨rfl,rfl,rfl,rfl,trivial⟩
   refine cM.cons rfl ?_ ?_
   ·refine aF rfl rfl rfl (be rfl kA mC) trivial fun b6=>?_;exact aG (s71 b6) [1,2,0] ⟨rfl,rfl,rfl,rfl,rfl,trivial⟩
   exact trivial
  have s67:∀(b6:Nat),J 5 [true,true,false,false,false,false,true,false] [(1,Pt b1),(2,Pt b2),(3,Pt b6),(6,I a0.1)] [.obj b1 25 (.rep av a0),.obj b2 25 (.agg (.pair (I 0) (.pair (.eq (.slice none 0 0)) (.eq (.slice none 0 0))))),.obj b6 25 (.agg (.pair (I 0) (.pair (.eq (.slice none 0 0)) (.eq (.slice none 0 0)))))]:=fun b6=>by
   subst hJ;refine JD.step [2] (by kernel_rfl) rfl ?_;refine cM.cons rfl ?_ ?_
   ·refine fl cJ ?_;exact aG (s71 b6) [0,1,2] ⟨rfl,rfl,rfl,rfl,rfl,trivial⟩
   exact trivial
  have s13:J 5 [true,false,true,true,false,false,false,false] [(1,Pt b1),(2,Pt b2),(5,Pt b1),(8,Ri a0.2.2)] [.obj b1 25 (.rep av a0),.obj b2 25 (.agg (.pair (I 0) (.pair (.eq (.slice none 0 0)) (.eq (.slice none 0 0)))))]:=by
   subst hJ;refine JD.step [1,4,6] (by kernel_rfl) rfl ?_;refine cM.cons rfl ?_ ?_
   ·refine lo cm ?_;exact aG s15 [0,1] ⟨rfl,rfl,rfl,rfl,trivial⟩
   refine cM.cons rfl ?_ ?_
   ·refine aF rfl rfl rfl (ap [.tmp 8] rfl rfl ut rfl (cz k a0.2.2 r3 c)) ⟨rfl,trivial⟩ fun v4=>?_;exact aG (s29 v4) [1,2,0] ⟨rfl,rfl,rfl,rfl,trivial⟩
   refine cM.cons rfl ?_ ?_
   ·refine aF rfl rfl rfl (be rfl kA mC) trivial fun b6=>?_;exact aG (s77 b6) [1,2,0] ⟨rfl,rfl,rfl,rfl,rfl,trivial⟩
   exact trivial
  have s69:∀(b6:Nat),J 5 [true,false,true,false,false,false,true,false] [(1,Pt b1),(2,Pt b2),(3,Pt b6),(5,Pt b1),(7,.eq (.pointer (some ⟨b1,2,none⟩)))] [.obj b1 25 (.rep av a0),.obj b2 25 (.agg (.pair (I 0) (.pair (.eq (.slice none 0 0)) (.eq (.slice none 0 0))))),.obj b6 25 (.agg (.pair (I 0) (.pair (.eq (.slice none 0 0)) (.eq (.slice none 0 0)))))]:=fun b6=>by
   subst hJ;refine JD.step [1,3] (by kernel_rfl) rfl ?_;refine cM.cons rfl ?_ ?_
   ·refine lo cm ?_;exact aG (s71 b6) [0,1,2] ⟨rfl,rfl,rfl,rfl,rfl,trivial⟩
   refine cM.cons rfl ?_ ?_
   ·refine lo bF ?_;exact aG (s77 b6) [0,1,2] ⟨rfl,rfl,rfl,rfl,rfl,trivial⟩
   exact trivial
  have s28:∀(v4:Value),J 5 [false,false,true,true,true,false,false,false] [(1,Pt b1),(2,Pt b2),(9,.eq v4)] [.obj b1 25 (.rep av a0),.obj b2 25 (.agg (.pair (I 0) (.pair (.eq (.slice none 0 0)) (.eq (.slice none 0 0))))),.sl v4 3 (.int .i64) r3]:=fun v4=>by
   subst hJ;refine JD.step [0,6] (by kernel_rfl) rfl ?_;refine cM.cons rfl ?_ ?_
   ·refine fl fD ?_;exact aG (s29 v4) [0,1,2] ⟨rfl,rfl,rfl,rfl,trivial⟩
   refine cM.cons rfl ?_ ?_
   ·refine aF rfl rfl rfl (be rfl kA mC) trivial fun b6=>?_;exact aG (s92 v4 b6) [1,2,3,0] ⟨rfl,rfl,rfl,rfl,trivial⟩
   exact trivial
  have s76:∀(b6:Nat),J 5 [false,false,true,true,false,false,true,false] [(1,Pt b1),(2,Pt b2),(3,Pt b6),(8,Ri a0.2.2)] [.obj b1 25 (.rep av a0),.obj b2 25 (.agg (.pair (I 0) (.pair (.eq (.slice none 0 0)) (.eq (.slice none 0 0))))),.obj b6 25 (.agg (.pair (I 0) (.pair (.eq (.slice none 0 0)) (.eq (.slice none 0 0)))))]:=fun b6=>by
   subst hJ;refine JD.step [0,4] (by kernel_rfl) rfl ?_;refine cM.cons rfl ?_ ?_
   ·refine fl fD ?_;exact aG (s77 b6) [0,1,2] ⟨rfl,rfl,rfl,rfl,rfl,trivial⟩
   refine cM.cons rfl ?_ ?_
   ·refine aF rfl rfl rfl (ap [.tmp 8] rfl rfl ut rfl (cz k a0.2.2 r3 c)) ⟨rfl,trivial⟩ fun v4=>?_;exact aG (s92 v4 b6) [1,2,0,3] ⟨rfl,rfl,rfl,rfl,trivial⟩
   exact trivial
  have s3:J 6 [true,true,false,false,false,false,false,false] [(1,Pt b1),(2,Pt b2),(6,I a0.1)] [.obj b1 25 (.rep av a0),.obj b2 25 (.agg (.pair (I 0) (.pair (.eq (.slice none 0 0)) (.eq (.slice none 0 0)))))]:=by
   subst hJ;refine JD.step [2,6] (by kernel_rfl) rfl ?_;refine cM.cons rfl ?_ ?_
   ·refine fl cJ ?_;exact aG s7 [0,1] ⟨rfl,rfl,rfl,rfl,trivial⟩
   refine cM.cons rfl ?_ ?_
   ·refine aF rfl rfl rfl (be rfl kA mC) trivial fun b6=>?_;exact aG (s67 b6) [1,2,0] ⟨rfl,rfl,rfl,rfl,trivial⟩
   exact trivial
  have s5:J 6 [true,false,true,false,false,false,false,false] [(1,Pt b1),(2,Pt b2),(5,Pt b1),(7,.eq (.pointer (some ⟨b1,2,none⟩)))] [.obj b1 25 (.rep av a0),.obj b2 25 (.agg (.pair (I 0) (.pair (.eq (.slice none 0 0)) (.eq (.slice none 0 0)))))]:=by
   subst hJ;refine JD.step [1,3,6] (by kernel_rfl) rfl ?_;refine cM.cons rfl ?_ ?_
   ·refine lo cm ?_;exact aG s7 [0,1] ⟨rfl,rfl,rfl,rfl,trivial⟩
   refine cM.cons rfl ?_ ?_
   ·refine lo bF ?_;exact aG s13 [0,1] ⟨rfl,rfl,rfl,rfl,trivial⟩
   refine cM.cons rfl ?_ ?_
   ·refine aF rfl rfl rfl (be rfl kA mC) trivial fun b6=>?_;exact aG (s69 b6) [1,2,0] ⟨rfl,rfl,rfl,rfl,rfl,trivial⟩
   exact trivial
  have s65:∀(b6:Nat),J 6 [true,false,false,false,false,false,true,false] [(1,Pt b1),(2,Pt b2),(3,Pt b6),(5,Pt b1)] [.obj b1 25 (.rep av a0),.obj b2 25 (.agg (.pair (I 0) (.pair (.eq (.slice none 0 0)) (.eq (.slice none 0 0))))),.obj b6 25 (.agg (.pair (I 0) (.pair (.eq (.slice none 0 0)) (.eq (.slice none 0 0)))))]:=fun b6=>by
   subst hJ;refine JD.step [1,2] (by kernel_rfl) rfl ?_;refine cM.cons rfl ?_ ?_
   ·refine lo cm ?_;exact aG (s67 b6) [0,1,2] ⟨rfl,rfl,rfl,rfl,trivial⟩
   refine cM.cons rfl ?_ ?_
   ·refine fl cJ ?_;exact aG (s69 b6) [0,1,2] ⟨rfl,rfl,rfl,rfl,rfl,trivial⟩
   exact trivial
  have s12:J 6 [false,false,true,true,false,false,false,false] [(1,Pt b1),(2,Pt b2),(8,Ri a0.2.2)] [.obj b1 25 (.rep av a0),.obj b2 25 (.agg (.pair (I 0) (.pair (.eq (.slice none 0 0)) (.eq (.slice none 0 0)))))]:=by
   subst hJ;refine JD.step [0,4,6] (by kernel_rfl) rfl ?_;refine cM.cons rfl ?_ ?_
   ·refine fl fD ?_;exact aG s13 [0,1] ⟨rfl,rfl,rfl,rfl,trivial⟩
   refine cM.cons rfl ?_ ?_
   ·refine aF rfl rfl rfl (ap [.tmp 8] rfl rfl ut rfl (cz k a0.2.2 r3 c)) ⟨rfl,trivial⟩ fun v4=>?_;exact aG (s28 v4) [1,2,0] ⟨rfl,rfl,rfl,trivial⟩
   refine cM.cons rfl ?_ ?_
   ·refine aF rfl rfl rfl (be rfl kA mC) trivial fun b6=>?_;exact aG (s76 b6) [1,2,0] ⟨rfl,rfl,rfl,rfl,trivial⟩
   exact trivial
  have s68:∀(b6:Nat),J 6 [false,false,true,false,false,false,true,false] [(1,Pt b1),(2,Pt b2),(3,Pt b6),(7,.eq (.pointer (some ⟨b1,2,none⟩)))] [.obj b1 25 (.rep av a0),.obj b2 25 (.agg (.pair (I 0) (.pair (.eq (.slice none 0 0)) (.eq (.slice none 0 0))))),.obj b6 25 (.agg (.pair (I 0) (.pair (.eq (.slice none 0 0)) (.eq (.slice none 0 0)))))]:=fun b6=>by
   subst hJ;refine JD.step [0,3] (by kernel_rfl) rfl ?_;refine cM.cons rfl ?_ ?_
   ·refine fl fD ?_;exact aG (s69 b6) [0,1,2] ⟨rfl,rfl,rfl,rfl,rfl,trivial⟩
   refine cM.cons rfl ?_ ?_
   ·refine lo bF ?_;exact aG (s76 b6) [0,1,2] ⟨rfl,rfl,rfl,rfl,trivial⟩
   exact trivial
  have s1:J 7 [true,false,false,false,false,false,false,false] [(1,Pt b1),(2,Pt b2),(5,Pt b1)] [.obj b1 25 (.rep av a0),.obj b2 25 (.agg (.pair (I 0) (.pair (.eq (.slice none 0 0)) (.eq (.slice none 0 0)))))]:=by
   subst hJ;refine JD.step [1,2,6] (by kernel_rfl) rfl ?_;refine cM.cons rfl ?_ ?_
   ·refine lo cm ?_;exact aG s3 [0,1] ⟨rfl,rfl,rfl,trivial⟩
   refine cM.cons rfl ?_ ?_
   ·refine fl cJ ?_;exact aG s5 [0,1] ⟨rfl,rfl,rfl,rfl,trivial⟩
   refine cM.cons rfl ?_ ?_
   ·refine aF rfl rfl rfl (be rfl kA mC) trivial fun b6=>?_;exact aG (s65 b6) [1,2,0] ⟨rfl,rfl,rfl,rfl,trivial⟩
   exact trivial
  have s4:J 7 [false,false,true,false,false,false,false,false] [(1,Pt b1),(2,Pt b2),(7,.eq (.pointer (some ⟨b1,2,none⟩)))] [.obj b1 25 (.rep av a0),.obj b2 25 (.agg (.pair (I 0) (.pair (.eq (.slice none 0 0)) (.eq (.slice none 0 0)))))]:=by
   subst hJ;refine JD.step [0,3,6] (by kernel_rfl) rfl ?_;refine cM.cons rfl ?_ ?_
   ·refine fl fD ?_;exact aG s5 [0,1] ⟨rfl,rfl,rfl,rfl,trivial⟩
   refine cM.cons rfl ?_ ?_
   ·refine lo bF ?_;exact aG s12 [0,1] ⟨rfl,rfl,rfl,trivial⟩
   refine cM.cons rfl ?_ ?_
   ·refine aF rfl rfl rfl (be rfl kA mC) trivial fun b6=>?_;exact aG (s68 b6) [1,2,0] ⟨rfl,rfl,rfl,rfl,trivial⟩
   exact trivial
  have s64:∀(b6:Nat),J 7 [false,false,false,false,false,false,true,false] [(1,Pt b1),(2,Pt b2),(3,Pt b6)] [.obj b1 25 (.rep av a0),.obj b2 25 (.agg (.pair (I 0) (.pair (.eq (.slice none 0 0)) (.eq (.slice none 0 0))))),.obj b6 25 (.agg (.pair (I 0) (.pair (.eq (.slice none 0 0)) (.eq (.slice none 0 0)))))]:=fun b6=>by
   subst hJ;refine JD.step [0,2] (by kernel_rfl) rfl ?_;refine cM.cons rfl ?_ ?_
   ·refine fl fD ?_;exact aG (s65 b6) [0,1,2] ⟨rfl,rfl,rfl,rfl,trivial⟩
   refine cM.cons rfl ?_ ?_
   ·refine fl cJ ?_;exact aG (s68 b6) [0,1,2] ⟨rfl,rfl,rfl,rfl,trivial⟩
   exact trivial
  have s0:J 8 [false,false,false,false,false,false,false,false] [(1,Pt b1),(2,Pt b2)] [.obj b2 25 (.agg (.pair (I 0) (.pair (.eq (.slice none 0 0)) (.eq (.slice none 0 0))))),.obj b1 25 (.rep av a0)]:=by
   subst hJ;refine JD.step [0,2,6] (by kernel_rfl) rfl ?_;refine cM.cons rfl ?_ ?_
   ·refine fl fD ?_;exact aG s1 [1,0] ⟨rfl,rfl,rfl,trivial⟩
   refine cM.cons rfl ?_ ?_
   ·refine fl cJ ?_;exact aG s4 [1,0] ⟨rfl,rfl,rfl,trivial⟩
   refine cM.cons rfl ?_ ?_
   ·refine aF rfl rfl rfl (be rfl kA mC) trivial fun b6=>?_;exact aG (s64 b6) [2,1,0] ⟨rfl,rfl,rfl,trivial⟩
   exact trivial
  exact s0
 rintro⟨v4,b6⟩
 show JN _ _ [(1,Pt b1),(2,Pt b2),(3,Pt b6)] [.obj b1 25 (.rep av a0),.obj b2 25 (.agg (.pair (I 0) (.pair (.eq (.slice none 0 0)) (.eq (.slice none 0 0))))),.sl v4 3 (.int .i64) r3,.obj b6 25 (.agg (.pair (I a0.1) (.pair (.eq (.slice none 0 0)) (.eq v4))))]
 refine tn ?_
 refine aN (Z:=Value) (α:=(List eO)) (fun z8 x7=>[(2,Pt b2),(3,Pt b6)]) (fun z8 x7=>[.obj b2 25 (.agg (.pair (I 0) (.pair (.eq (.slice none 0 0)) (.eq (.slice none 0 0))))),.obj b6 25 (.agg (.pair (I a0.1) (.pair (.eq z8) (.eq v4)))),.sl z8 27 aY x7,.sl v4 3 (.int .i64) r3]) h (fun K h=>?_) (fun z8 x7 h=>?_)
 ·
  refine sr (cq (nt (ao ?_)));refine dW (SE.nil 27 aY) ?_;refine aK (fun e y9=>[(1,Pt b1),(2,Pt b2),(3,Pt b6),(4,I y9.2)]) (fun e y9=>[.obj b1 25 (.rep av a0),.obj b2 25 (.agg (.pair (I 0) (.pair (.eq (.slice none 0 0)) (.eq (.slice none 0 0))))),.obj b6 25 (.agg (.pair (I a0.1) (.pair (.eq e) (.eq v4)))),.sl e 27 aY y9.1,.sl v4 3 (.int .i64) r3]) (fS k a0) k (.slice none 0 0) (([]:(List eO)),0) (fun _=>rfl) h (SE.fin [1,2,4,0,3] ⟨rfl,rfl,rfl,rfl,trivial⟩ rfl) (fun n e y9 h=>?_);unfold fS at h;refine ae (sr (mq ?_));refine fl bT ?_;refine lo eX ?_;refine ol mD ?_;refine jb (bp rfl) ?_;refine nt (ci h (fun h=>?_) (fun h=>?_))
  ·refine sk (ae (ao (bz ?_)));refine da (ar rfl bT) ?_;refine ea 2 (aj rfl eX jo rfl) ?_;refine da (ar rfl bT) ?_;refine ea 0 (aj rfl eX jo rfl) ?_;refine dm ?_;obtain⟨l,x,h⟩:=aa h;refine db (aA (t:=aY) rfl mD j7 x) ?_;refine da (aJ 1 false rfl kL rfl) ?_;refine da (ak (t:=(.int .i64)) rfl cm rfl) ?_;refine da (ar rfl bT) ?_;refine ea 0 (aj rfl eX jo rfl) ?_;refine dm ?_;obtain⟨F,u,h⟩:=aa h;refine db (aA (t:=aY) rfl mD j7 u) ?_;refine da (aJ 1 false rfl ku rfl) ?_;refine da (ak (t:=(.slice (.int .i64))) rfl bF rfl) ?_;obtain⟨j,D,h⟩:=aa h;refine da (sH (ap [.tmp 31] rfl rfl ut rfl (cz k F.2 j D))) ?_;refine db (cI [(0,.tmp 25,_),(1,.tmp 32,_)] rfl zD ue ub (ij ⟨rfl,rfl,trivial⟩) rfl) ?_;refine da (bj (t:=aY) [(.tmp 33,_)] [(l.1,j)] rfl rfl xR (.cons trivial (.agg (.pair .int .rep)) .nil) rfl rfl) ?_;refine df cp ?_;obtain⟨O,y,h⟩:=aa h;refine fr 3 ?_;refine c6 rfl rfl rfl (bI rfl rfl xR (aC y)) ⟨rfl,rfl,trivial⟩ fun M=>?_;refine fl bT ?_;refine ou fun o16=>?_;refine fr 3 ?_;refine bh rfl rfl (bb rfl eX o16 rfl rfl) ⟨rfl,rfl,trivial⟩ ?_;refine au (aM (tn (ab (mq ?_))));obtain⟨E,s,h⟩:=aa h;refine jb (bf rfl s) ?_;refine aq (nl ?_);exact jz (M,(y9.1++[(l.1,j)],E)) h [2,3,0,1,4]
  ·refine xa ?_;exact jz (e,y9.1) h [1,2,3,4]
 ·
  refine sr (fr 1 ?_);refine lo dj ?_;refine fr 1 ?_;refine bh rfl rfl (bb rfl dj trivial rfl rfl) ⟨rfl,rfl,trivial⟩ ?_;refine nt (ay (bu (SE.fin (Γ':=[(2,_)]) [2,3,0,1] ⟨rfl,trivial⟩ rfl) ?_));cases h;exact aL (z8,v4) [.agg (.pair (I a0.1) (.pair (.eq z8) (.eq v4)))] 2 ⟨⟨_,_,_,_,_,rfl,(.tail _ (.tail _ (.head _))),dj,(tw),rfl⟩,trivial⟩ rfl
def i9(k:Nat)(a0:aO):Nat→((List eO)×Int)→Option (List eO)
 |0,_=>none
 |n+1,y7=>
  if y7.2 < (a0.2.1.length:Int) then((aQ a0.2.1 y7.2).bind fun x9=>
  (aQ a0.2.1 y7.2).bind fun h=>
  (ek k h.2).bind fun c=>
  (dE (bQ (List.length y7.1+List.length [(x9.1,c)]))).bind fun _=>
  (ck (y7.2+1)).bind fun e=>
  i9 k a0 n (y7.1++[(x9.1,c)],e)) else(some y7.1)
def ju(k:Nat)(a0:aO):Option aO:=
 (ek k a0.2.2).bind fun r3=>
 ((i9 k a0 k (([]:(List eO)),0)):Option ((List eO))).bind fun x5=>
 some (a0.1,x5,r3)
theorem tG(k:Nat)(a0:aO)(r:aO)(h:ju k a0=some r):
 bX Tryz.prog 16 [.rep av a0] [] (fun _:Unit=>(bq [.rep av r],[])):=by
 unfold ju at h
 replace h:=a8 h
 refine bX.of 38 Tryz.func16 rfl Tryz.ntmps16 rfl fun S w0=>?_
 refine sr ?_
 refine bx fun b1=>?_
 refine aF rfl rfl rfl (be rfl kA mC) trivial fun b2=>?_
 refine nt ?_
 refine ae ?_
 refine jy ?_
 refine aI rfl rfl rfl (ar rfl fD) ⟨rfl,trivial⟩ ?_
 refine dp 1 rfl rfl rfl rfl (aj rfl cm jo rfl) ⟨rfl,trivial⟩ ?_
 refine aI rfl rfl rfl (ar rfl cJ) ⟨rfl,trivial⟩ ?_
 refine dp 1 rfl rfl rfl rfl (aj rfl bF jo rfl) ⟨rfl,trivial⟩ ?_
 obtain⟨r3,X,h⟩:=aa h
 have Y:=cz k a0.2.2 r3 X
 refine aI rfl rfl rfl (sH (ap [.tmp 8] rfl rfl ut rfl Y)) ⟨rfl,trivial⟩ ?_
 refine aI rfl rfl rfl (cI [(0,.tmp 6,_),(2,.tmp 9,_)] rfl GR kA AN (ij ⟨rfl,rfl,trivial⟩) rfl) ⟨rfl,rfl,trivial⟩ ?_
 refine uF (GN 25 (.agg (.pair (I 0) (.pair (.eq (.slice none 0 0)) (.eq (.slice none 0 0)))))) (fun _=>rfl) rfl rfl rfl (be rfl kA mC) trivial ?_
 refine my 7 [true,true,true,true,true,true,true] [] [] [] rfl (by kernel_rfl) (by kernel_rfl) (by kernel_rfl) cp (fun vs hv hB=>?_)
 obtain⟨w0,Ue,rfl,Q⟩:=an hv
 obtain⟨w1,Ud,rfl,O⟩:=an Q
 obtain⟨w2,se,rfl,M⟩:=an O
 obtain⟨w3,qt,rfl,J⟩:=an M
 obtain⟨w4,pp,rfl,F⟩:=an J
 obtain⟨w5,mc,rfl,E⟩:=an F
 obtain⟨w6,ac,rfl,D⟩:=an E
 obtain rfl:=kl D
 obtain⟨b4,rfl⟩:=BI hB.2.2.2.2.2.2.1
 refine⟨[0,1,2],[.obj b2 25 (.agg (.pair (I 0) (.pair (.eq (.slice none 0 0)) (.eq (.slice none 0 0))))),.obj b1 25 (.rep av a0),.obj b4 25 (.agg (.pair (I 0) (.pair (.eq (.slice none 0 0)) (.eq (.slice none 0 0)))))],by kernel_rfl,by decide,?_⟩
 refine iY 2 rfl ?_
 refine ot rfl rfl (bb rfl dj trivial rfl rfl) ⟨rfl,rfl,trivial⟩ (by kernel_rfl) ?_
 refine pJ ?_
 refine bu (SE.fin (Γ':=[(1,Pt b1),(2,Pt b2),(3,Pt b4)]) (Δ':=[.obj b4 25 (.agg (.pair (I a0.1) (.pair (.eq (.slice none 0 0)) (Ri r3)))),.obj b2 25 (.agg (.pair (I 0) (.pair (.eq (.slice none 0 0)) (.eq (.slice none 0 0))))),.obj b1 25 (.rep av a0)]) [0,1,2] ⟨rfl,rfl,rfl,trivial⟩ rfl) ?_
 refine tn ?_
 refine aN (Z:=Value) (α:=(List eO)) (fun z6 x5=>[(2,Pt b2),(3,Pt b4)]) (fun z6 x5=>[.obj b2 25 (.agg (.pair (I 0) (.pair (.eq (.slice none 0 0)) (.eq (.slice none 0 0))))),.obj b4 25 (.agg (.pair (I a0.1) (.pair (.eq z6) (Ri r3)))),.sl z6 27 aY x5]) h (fun K h=>?_) (fun z6 x5 h=>?_)
 ·
  refine sr (cq (nt (ao ?_)));refine dW (SE.nil 27 aY) ?_;refine aK (fun z8 y7=>[(1,Pt b1),(2,Pt b2),(3,Pt b4),(4,I y7.2)]) (fun z8 y7=>[.obj b1 25 (.rep av a0),.obj b2 25 (.agg (.pair (I 0) (.pair (.eq (.slice none 0 0)) (.eq (.slice none 0 0))))),.obj b4 25 (.agg (.pair (I a0.1) (.pair (.eq z8) (Ri r3)))),.sl z8 27 aY y7.1]) (i9 k a0) k (.slice none 0 0) (([]:(List eO)),0) (fun _=>rfl) h (SE.fin [3,2,1,0] ⟨rfl,rfl,rfl,rfl,trivial⟩ rfl) (fun n z8 y7 h=>?_);unfold i9 at h;refine ae (sr (mq ?_));refine fl bT ?_;refine lo eX ?_;refine ol mD ?_;refine jb (bp rfl) ?_;refine nt (ci h (fun h=>?_) (fun h=>?_))
  ·refine sk (ae (ao (bz ?_)));refine da (ar rfl bT) ?_;refine ea 2 (aj rfl eX jo rfl) ?_;refine da (ar rfl bT) ?_;refine ea 0 (aj rfl eX jo rfl) ?_;refine dm ?_;obtain⟨x9,U,h⟩:=aa h;refine db (aA (t:=aY) rfl mD j7 U) ?_;refine da (aJ 1 false rfl kL rfl) ?_;refine da (ak (t:=(.int .i64)) rfl cm rfl) ?_;refine da (ar rfl bT) ?_;refine ea 0 (aj rfl eX jo rfl) ?_;refine dm ?_;obtain⟨x,j,h⟩:=aa h;refine db (aA (t:=aY) rfl mD j7 j) ?_;refine da (aJ 1 false rfl ku rfl) ?_;refine da (ak (t:=(.slice (.int .i64))) rfl bF rfl) ?_;obtain⟨c,s,h⟩:=aa h;refine da (sH (ap [.tmp 31] rfl rfl ut rfl (cz k x.2 c s))) ?_;refine db (cI [(0,.tmp 25,_),(1,.tmp 32,_)] rfl zD ue ub (ij ⟨rfl,rfl,trivial⟩) rfl) ?_;refine da (bj (t:=aY) [(.tmp 33,_)] [(x9.1,c)] rfl rfl xR (.cons trivial (.agg (.pair .int .rep)) .nil) rfl rfl) ?_;refine df cp ?_;obtain⟨Uf,l,h⟩:=aa h;refine fr 3 ?_;refine c6 rfl rfl rfl (bI rfl rfl xR (aC l)) ⟨rfl,rfl,trivial⟩ fun y=>?_;refine fl bT ?_;refine ou fun o14=>?_;refine fr 3 ?_;refine bh rfl rfl (bb rfl eX o14 rfl rfl) ⟨rfl,rfl,trivial⟩ ?_;refine au (aM (tn (ab (mq ?_))));obtain⟨u,e,h⟩:=aa h;refine jb (bf rfl e) ?_;refine aq (nl ?_);exact jz (y,(y7.1++[(x9.1,c)],u)) h [2,3,0,1]
  ·refine xa ?_;exact jz (z8,y7.1) h [1,2,3]
 ·
  refine sr (fr 1 ?_);refine fr 2 ?_;refine cD (kP (off:=1) [] trivial rfl rfl) ?_;refine lo dj ?_;refine fr 1 ?_;refine bh rfl rfl (bb rfl dj trivial rfl rfl) ⟨rfl,rfl,trivial⟩ ?_;refine nt (ay (bu (oq (a:=.agg (.pair (I a0.1) (.pair (Rs aY x5) (Ri r3)))) (a':=.rep av (a0.1,x5,r3)) (wc (.agg (.pair .int (.pair .rep .rep))))) ?_));cases h;exact aL () [.rep av (a0.1,x5,r3)] 0 ⟨⟨_,_,_,_,_,rfl,(.head _),dj,(tw),rfl⟩,trivial⟩ rfl
def dA(k:Nat)(a0:(List (List Int))):Nat→((List (List Int))×Int)→Option (List (List Int))
 |0,_=>none
 |n+1,y3=>
  if y3.2 < (a0.length:Int) then((aQ a0 y3.2).bind fun x5=>
  (ek k x5).bind fun r6=>
  (dE (bQ (List.length y3.1+List.length [r6]))).bind fun _=>
  (ck (y3.2+1)).bind fun c=>
  dA k a0 n (y3.1++[r6],c)) else(some y3.1)
def fo(k:Nat)(a0:(List (List Int))):Option (List (List Int)):=
 ((dA k a0 k (([]:(List (List Int))),0)):Option ((List (List Int)))).bind fun x1=>
 some x1
theorem tH(k:Nat)(a0:(List (List Int)))(r:(List (List Int)))(h:fo k a0=some r):
 bX Tryz.prog 17 [.rep (.slice (.slice (.int .i64))) a0] [] (fun z:Value=>(bq [.eq z],[.sl z 23 (.slice (.int .i64)) r])):=by
 unfold fo at h
 replace h:=a8 h
 refine bX.of 20 Tryz.func17 rfl Tryz.ntmps17 rfl fun S w0=>?_
 refine sr ?_
 refine cq ?_
 refine nt ?_
 refine sr ?_
 refine cq ?_
 refine nt ?_
 refine aN (Z:=Value) (α:=(List (List Int))) (fun z2 x1=>[(3,.eq z2)]) (fun z2 x1=>[.sl z2 23 (.slice (.int .i64)) x1]) h (fun K h=>?_) (fun z2 x1 h=>?_)
 ·
  refine sr (cq (nt (ao ?_)));refine dW (SE.nil 23 (.slice (.int .i64))) ?_;refine aK (fun z4 y3=>[(0,.rep (.slice (.slice (.int .i64))) a0),(3,.eq z4),(4,I y3.2)]) (fun z4 y3=>[.sl z4 23 (.slice (.int .i64)) y3.1]) (dA k a0) k (.slice none 0 0) (([]:(List (List Int))),0) (fun _=>rfl) h (SE.fin [0] ⟨rfl,rfl,rfl,trivial⟩ rfl) (fun n z4 y3 h=>?_);unfold dA at h;refine ae (sr ?_);iterate 2 refine mq ?_
  refine ol lw ?_;refine jb (bp rfl) ?_;refine nt (ci h (fun h=>?_) (fun h=>?_))
  ·refine sk (ae (ao (ab ?_)));iterate 3 refine mq ?_
   obtain⟨x5,j,h⟩:=aa h;refine jb (aA (t:=(.slice (.int .i64))) rfl lw bF j) ?_;refine ja (ak (t:=(.slice (.int .i64))) rfl bF rfl) ?_;obtain⟨r6,s,h⟩:=aa h;refine aF rfl rfl rfl (ap [.tmp 15] rfl rfl ut rfl (cz k x5 r6 s)) ⟨rfl,trivial⟩ fun v7=>?_;refine cD (eR [16] ⟨rfl,trivial⟩) ?_;refine ja (bj (t:=(.slice (.int .i64))) [(.tmp 16,_)] [r6] rfl rfl oW (.cons rfl .rep .nil) rfl rfl) ?_;obtain⟨u8,l,h⟩:=aa h;refine c6 rfl rfl rfl (bI rfl rfl oW (aC l)) ⟨rfl,rfl,trivial⟩ fun v9=>?_;refine aq (au (aM (tn (ab ?_))));refine mq ?_;obtain⟨e,c,h⟩:=aa h;refine jb (bf rfl c) ?_;refine aq (nl ?_);exact jz (v9,(y3.1++[r6],e)) h [0]
  ·refine xa ?_;exact jz (z4,y3.1) h [0]
 ·
  refine sr (mq ?_);refine aq (nt (ay ?_));cases h;exact aL z2 [.eq z2] 1 ⟨rfl,trivial⟩ rfl
def jt(k:Nat)(a0:bR):Option (Int×bR):=
 ((if a0.2.1 < (a0.1.length:Int) then((aQ a0.1 a0.2.1).bind fun x3=>
 some (IntKind.u64.wrap ((IntKind.u64.wrap ((IntKind.u64.wrap (a0.2.2 * 6364136223846793005))+1442695040888963407))+(IntKind.u64.wrap ((IntKind.u64.wrap x3) * 2862933555777941757))))) else(some (IntKind.u64.wrap ((IntKind.u64.wrap (a0.2.2 * 6364136223846793005))+1442695040888963407)))):Option (Int)).bind fun x1=>
 (ck (a0.2.1+1)).bind fun x4=>
 some (iG .u64 (rc .u64 (IntKind.u64.wrap ((rc .u64 x1 (iG .u64 x1 29)) * 2685821657736338717)) (iG .u64 (IntKind.u64.wrap ((rc .u64 x1 (iG .u64 x1 29)) * 2685821657736338717)) 32)) 8,(a0.1,x4,x1))
theorem tD(k:Nat)(a0:bR)(c:Nat)(r:Int×bR)(h:jt k a0=some r):
 bX Tryz.prog 52 [Pt c] [.obj c 75 (.agg (.pair (Ri a0.1) (.pair (I a0.2.1) (.eq (.int .u64 a0.2.2)))))] (fun _:Unit=>(bq [.eq (.int .u64 r.1)],[.obj c 75 (.agg (.pair (Ri r.2.1) (.pair (I r.2.2.1) (.eq (.int .u64 r.2.2.2)))))])):=by
 unfold jt at h
 replace h:=a8 h
 refine bX.of 67 Tryz.func52 rfl Tryz.ntmps52 rfl fun S w0=>?_
 refine sr ?_
 refine cq ?_
 refine nt ?_
 refine sr ?_
 iterate 2 refine mq ?_
 refine ja (ba rfl) ?_
 refine fl tK ?_
 refine lo EB ?_
 refine jb (BP rfl) ?_
 refine jb (BS rfl) ?_
 refine ja (ba rfl) ?_
 refine fl tK ?_
 refine bh rfl rfl (bb rfl EB rfl rfl rfl) ⟨rfl,rfl,trivial⟩ ?_
 refine nt ?_
 refine aN (Z:=Unit) (α:=Int) (fun z2 x1=>[(0,Pt c)]) (fun z2 x1=>[.obj c 75 (.agg (.pair (Ri a0.1) (.pair (I a0.2.1) (.eq (.int .u64 x1)))))]) h (fun K h=>?_) (fun z2 x1 h=>?_)
 ·
  refine ae (bz ?_);refine dm ?_;refine da (ba rfl) ?_;refine da (ar rfl yy) ?_;refine ea 0 (aj rfl cm jo rfl) ?_;refine dm ?_;refine da (ba rfl) ?_;refine da (ar rfl Ij) ?_;refine ea 0 (aj rfl bF jo rfl) ?_;refine da (jq rfl rfl dw) ?_;refine df cp ?_;refine jb (bp rfl) ?_;refine nt (ci h (fun h=>?_) (fun h=>?_))
  ·refine bz ?_;refine dm ?_;refine dm ?_;refine da (ba rfl) ?_;refine da (ar rfl tK) ?_;refine ea 0 (aj rfl EB jo rfl) ?_;refine dm ?_;refine da (ba rfl) ?_;refine da (ar rfl Ij) ?_;refine ea 0 (aj rfl bF jo rfl) ?_;refine dm ?_;refine da (ba rfl) ?_;refine da (ar rfl yy) ?_;refine ea 0 (aj rfl cm jo rfl) ?_;obtain⟨x3,j,h⟩:=aa h;refine db (aA (t:=(.int .i64)) rfl dw cm j) ?_;refine da (ak (t:=(.int .i64)) rfl cm rfl) ?_;refine da (pg rfl U3 Rh) ?_;refine db (BP rfl) ?_;refine db (BS rfl) ?_;refine df cp ?_;refine ja (ba rfl) ?_;refine fl tK ?_;refine bh rfl rfl (bb rfl EB rfl rfl rfl) ⟨rfl,rfl,trivial⟩ ?_;refine nl ?_;exact jz ((),IntKind.u64.wrap ((IntKind.u64.wrap ((IntKind.u64.wrap (a0.2.2 * 6364136223846793005))+1442695040888963407))+(IntKind.u64.wrap ((IntKind.u64.wrap x3) * 2862933555777941757)))) h [0]
  ·refine aW (ah ?_);exact jz ((),IntKind.u64.wrap ((IntKind.u64.wrap (a0.2.2 * 6364136223846793005))+1442695040888963407)) h [0]
 ·
  refine sr (mq ?_);refine ja (ba rfl) ?_;refine fl yy ?_;refine lo cm ?_;obtain⟨x4,e,h⟩:=aa h;refine jb (bf rfl e) ?_;refine ja (ba rfl) ?_;refine fl yy ?_;refine bh rfl rfl (bb rfl cm rfl rfl rfl) ⟨rfl,rfl,trivial⟩ ?_;refine nt (ae (bz ?_));refine dm ?_;refine da (ba rfl) ?_;refine da (ar rfl tK) ?_;refine ea 0 (aj rfl EB jo rfl) ?_;refine dm ?_;refine da (ba rfl) ?_;refine da (ar rfl tK) ?_;refine ea 0 (aj rfl EB jo rfl) ?_;refine dt rfl rfl rfl (vn rfl (by decide)) ⟨rfl,rfl,trivial⟩ ?_;refine df cp ?_;refine jb (LO rfl) ?_;refine aq (nt (sr ?_));refine mq ?_;refine jb (BP rfl) ?_;refine aq (nt (sr ?_));iterate 2 refine mq ?_
  refine aE rfl (vn rfl (by decide)) ⟨rfl,rfl,trivial⟩ ?_;refine jb (LO rfl) ?_;refine aE rfl (vn rfl (by decide)) ⟨rfl,rfl,trivial⟩ ?_;refine aq (nt (ay ?_));cases h;exact aL () [_] 1 ⟨rfl,trivial⟩ rfl
def bV(k:Nat)(a0:bR)(a1:Int):Option (Int×bR):=
 if a1 < 1 then(some (0,(a0.1,a0.2.1,a0.2.2))) else((jt k (a0.1,a0.2.1,a0.2.2)).bind fun r1=>
 (ck (a1+1)).bind fun x2=>
 (dE ((IntKind.u64.wrap x2)≠0)).bind fun _=>
 (ck (Int.tmod r1.1 (IntKind.u64.wrap x2))).bind fun x4=>
 some (x4,(r1.2.1,r1.2.2.1,r1.2.2.2)))
theorem cY(k:Nat)(a0:bR)(c:Nat)(a1:Int)(r:Int×bR)(h:bV k a0 a1=some r):
 bX Tryz.prog 15 [Pt c,I a1] [.obj c 75 (.agg (.pair (Ri a0.1) (.pair (I a0.2.1) (.eq (.int .u64 a0.2.2)))))] (fun _:Unit=>(bq [I r.1],[.obj c 75 (.agg (.pair (Ri r.2.1) (.pair (I r.2.2.1) (.eq (.int .u64 r.2.2.2)))))])):=by
 unfold bV at h
 replace h:=a8 h
 refine bX.of 14 Tryz.func15 rfl Tryz.ntmps15 rfl fun S w0=>?_
 refine sr ?_
 refine cq ?_
 refine nt ?_
 refine ae ?_
 refine sr ?_
 refine mq ?_
 refine jb (bp rfl) ?_
 refine nt ?_
 refine ci h (fun h=>?_) (fun h=>?_)
 ·
  refine sr (cq (nt (rx ?_)));cases h;exact aL () [_] 1 ⟨rfl,trivial⟩ rfl
 ·
  refine sk (sr (mq ?_));obtain⟨r1,n,h⟩:=aa h;refine ka (ap [.tmp 7] rfl rfl SK rfl (tD k (a0.1,a0.2.1,a0.2.2) c r1 n)) ?_;refine mq ?_;obtain⟨x2,j,h⟩:=aa h;refine jb (bf rfl j) ?_;refine ja (pg rfl U3 Rh) ?_;obtain⟨u3,l,h⟩:=aa h;refine jb (G3 rfl (aC l)) ?_;obtain⟨x4,e,h⟩:=aa h;refine ja (zL rfl Rh U3 e) ?_;refine aq (nt (ay ?_));cases h;exact aL () [_] 1 ⟨rfl,trivial⟩ rfl
def fm(k:Nat)(a0:bR)(a1:Int)(a2:Int):Option (Int×bR):=
 (ck (a2 - a1)).bind fun x1=>
 (bV k (a0.1,a0.2.1,a0.2.2) x1).bind fun r2=>
 (ck (a1+r2.1)).bind fun x3=>
 some (x3,(r2.2.1,r2.2.2.1,r2.2.2.2))
theorem mi(k:Nat)(a0:bR)(c:Nat)(a1:Int)(a2:Int)(r:Int×bR)(h:fm k a0 a1 a2=some r):
 bX Tryz.prog 94 [Pt c,I a1,I a2] [.obj c 75 (.agg (.pair (Ri a0.1) (.pair (I a0.2.1) (.eq (.int .u64 a0.2.2)))))] (fun _:Unit=>(bq [I r.1],[.obj c 75 (.agg (.pair (Ri r.2.1) (.pair (I r.2.2.1) (.eq (.int .u64 r.2.2.2)))))])):=by
 unfold fm at h
 replace h:=a8 h
 refine bX.of 14 Tryz.func94 rfl Tryz.ntmps94 rfl fun S w0=>?_
 refine sr ?_
 refine cq ?_
 refine nt ?_
 refine sr ?_
 iterate 4 refine mq ?_
 obtain⟨x1,j,h⟩:=aa h
 refine jb (eK rfl j) ?_
 obtain⟨r2,l,h⟩:=aa h
 have n:=cY k (a0.1,a0.2.1,a0.2.2) c x1 r2 l
 refine kb (ap [.tmp 8,.tmp 11] rfl rfl yB rfl n) ?_
 obtain⟨x3,e,h⟩:=aa h
 refine jb (bf rfl e) ?_
 refine aq ?_
 refine nt ?_
 refine ay ?_
 cases h
 exact aL () [_] 1 ⟨rfl,trivial⟩ rfl
def jV(k:Nat)(a0:bR)(a1:(List Int)):Option (Int×bR):=
 (ck ((a1.length:Int) - 1)).bind fun x1=>
 (bV k (a0.1,a0.2.1,a0.2.2) x1).bind fun r2=>
 (aQ a1 r2.1).bind fun x3=>
 some (x3,(r2.2.1,r2.2.2.1,r2.2.2.2))
theorem pr(k:Nat)(a0:bR)(c:Nat)(a1:(List Int))(r:Int×bR)(h:jV k a0 a1=some r):
 bX Tryz.prog 95 [Pt c,Ri a1] [.obj c 75 (.agg (.pair (Ri a0.1) (.pair (I a0.2.1) (.eq (.int .u64 a0.2.2)))))] (fun _:Unit=>(bq [I r.1],[.obj c 75 (.agg (.pair (Ri r.2.1) (.pair (I r.2.2.1) (.eq (.int .u64 r.2.2.2)))))])):=by
 unfold jV at h
 replace h:=a8 h
 refine bX.of 13 Tryz.func95 rfl Tryz.ntmps95 rfl fun S w0=>?_
 refine sr ?_
 refine cq ?_
 refine nt ?_
 refine sr ?_
 iterate 3 refine mq ?_
 refine ol dw ?_
 obtain⟨x1,j,h⟩:=aa h
 refine jb (eK rfl j) ?_
 obtain⟨r2,l,h⟩:=aa h
 have n:=cY k (a0.1,a0.2.1,a0.2.2) c x1 r2 l
 refine kb (ap [.tmp 6,.tmp 9] rfl rfl yB rfl n) ?_
 obtain⟨x3,e,h⟩:=aa h
 refine jb (aA (t:=(.int .i64)) rfl dw cm e) ?_
 refine ja (ak (t:=(.int .i64)) rfl cm rfl) ?_
 refine aq ?_
 refine nt ?_
 refine ay ?_
 cases h
 exact aL () [_] 1 ⟨rfl,trivial⟩ rfl
def gi(k:Nat)(a0:bR)(a1:Int):Option (Bool×bR):=
 (ck (a1 - 1)).bind fun x1=>
 (bV k (a0.1,a0.2.1,a0.2.2) x1).bind fun r2=>
 some (decide (r2.1=0),(r2.2.1,r2.2.2.1,r2.2.2.2))
theorem nD(k:Nat)(a0:bR)(c:Nat)(a1:Int)(r:Bool×bR)(h:gi k a0 a1=some r):
 bX Tryz.prog 96 [Pt c,I a1] [.obj c 75 (.agg (.pair (Ri a0.1) (.pair (I a0.2.1) (.eq (.int .u64 a0.2.2)))))] (fun _:Unit=>(bq [.eq (.bool r.1)],[.obj c 75 (.agg (.pair (Ri r.2.1) (.pair (I r.2.2.1) (.eq (.int .u64 r.2.2.2)))))])):=by
 unfold gi at h
 replace h:=a8 h
 refine bX.of 10 Tryz.func96 rfl Tryz.ntmps96 rfl fun S w0=>?_
 refine sr ?_
 refine cq ?_
 refine nt ?_
 refine sr ?_
 iterate 2 refine mq ?_
 obtain⟨x1,e,h⟩:=aa h
 refine jb (eK rfl e) ?_
 obtain⟨r2,j,h⟩:=aa h
 have l:=cY k (a0.1,a0.2.1,a0.2.2) c x1 r2 j
 refine kb (ap [.tmp 5,.tmp 7] rfl rfl yB rfl l) ?_
 refine jb (fM rfl) ?_
 refine aq ?_
 refine nt ?_
 refine ay ?_
 cases h
 exact aL () [_] 1 ⟨rfl,trivial⟩ rfl
def fh(k:Nat)(r2:Int×bR):Nat→((List Int)×Int×Int×(List Int)×Int)→Option ((List Int)×Int×Int×(List Int))
 |0,_=>none
 |n+1,c=>
  if c.2.2.2.2 < r2.1 then((((gi k (c.1,c.2.1,c.2.2.1) 2).bind fun e=>
  if e.1=true then((dE (bQ (List.length c.2.2.2.1+List.length [c.2.2.2.2]))).bind fun _=>
  some (e.2.1,e.2.2.1,e.2.2.2,c.2.2.2.1++[c.2.2.2.2])) else(some (e.2.1,e.2.2.1,e.2.2.2,c.2.2.2.1))):Option ((List Int)×Int×Int×(List Int))).bind fun h=>
  (ck (c.2.2.2.2+1)).bind fun j=>
  fh k r2 n (h.1,h.2.1,h.2.2.1,h.2.2.2,j)) else(some (c.1,c.2.1,c.2.2.1,c.2.2.2.1))
def fi(k:Nat)(r2:Int×bR):Nat→((List Int)×Int×Int×(List eO)×Int×Int)→Option ((List Int)×Int×Int×(List eO)×Int)
 |0,_=>none
 |n+1,y7=>
  if 0 < y7.2.2.2.2.2 then((((jV k (y7.1,y7.2.1,y7.2.2.1) [1,1,1,2,3]).bind fun c=>
  ((fh k r2 k (c.2.1,c.2.2.1,c.2.2.2,([]:(List Int)),0)):Option ((List Int)×Int×Int×(List Int))).bind fun e=>
  (dE (bQ (List.length y7.2.2.2.1+List.length [(c.1,e.2.2.2)]))).bind fun _=>
  (ck (y7.2.2.2.2.1+c.1)).bind fun j=>
  some (e.1,e.2.1,e.2.2.1,y7.2.2.2.1++[(c.1,e.2.2.2)],j)):Option ((List Int)×Int×Int×(List eO)×Int)).bind fun x9=>
  (ck (y7.2.2.2.2.2 - 1)).bind fun h=>
  fi k r2 n (x9.1,x9.2.1,x9.2.2.1,x9.2.2.2.1,x9.2.2.2.2,h)) else(some (y7.1,y7.2.1,y7.2.2.1,y7.2.2.2.1,y7.2.2.2.2.1))
def fg(k:Nat)(x4:(List Int)×Int×Int×(List eO)×Int):Nat→((List Int)×Int×Int×(List Int)×Int)→Option ((List Int)×Int×Int×(List Int))
 |0,_=>none
 |n+1,c=>
  if 0 < c.2.2.2.2 then((ck (x4.2.2.2.2+1)).bind fun j=>
  (jV k (c.1,c.2.1,c.2.2.1) [1,2,3,ko 9 x4.2.2.2.2,ko 9 j]).bind fun e=>
  (dE (bQ (List.length c.2.2.2.1+List.length [e.1]))).bind fun _=>
  (ck (c.2.2.2.2 - 1)).bind fun h=>
  fg k x4 n (e.2.1,e.2.2.1,e.2.2.2,c.2.2.2.1++[e.1],h)) else(some (c.1,c.2.1,c.2.2.1,c.2.2.2.1))
def kH(k:Nat)(a0:bR)(a1:Int)(a2:Int):Option (aO×bR):=
 (fm k (a0.1,a0.2.1,a0.2.2) 1 4).bind fun r2=>
 (((fm k (r2.2.1,r2.2.2.1,r2.2.2.2) 0 a1).bind fun r6=>
 fi k r2 k (r6.2.1,r6.2.2.1,r6.2.2.2,([]:(List eO)),0,r6.1)):Option ((List Int)×Int×Int×(List eO)×Int)).bind fun x4=>
 (((fm k (x4.1,x4.2.1,x4.2.2.1) 1 a2).bind fun j=>
 fg k x4 k (j.2.1,j.2.2.1,j.2.2.2,([]:(List Int)),j.1)):Option ((List Int)×Int×Int×(List Int))).bind fun e=>
 (((gi k (e.1,e.2.1,e.2.2.1) 2).bind fun c=>
 if c.1=true then((aQ e.2.2.2 0).bind fun l=>
 some (List.set e.2.2.2 (Int.toNat 0) (ko 9 x4.2.2.2.2),c.2.1,c.2.2.1,c.2.2.2)) else(some (e.2.2.2,c.2.1,c.2.2.1,c.2.2.2))):Option ((List Int)×(List Int)×Int×Int)).bind fun h=>
 some ((r2.1,x4.2.2.2.1,h.1),(h.2.1,h.2.2.1,h.2.2.2))
theorem wC(k:Nat)(a0:bR)(c:Nat)(a1:Int)(a2:Int)(r:aO×bR)(h:kH k a0 a1 a2=some r):
 bX Tryz.prog 49 [Pt c,I a1,I a2] [.obj c 75 (.agg (.pair (Ri a0.1) (.pair (I a0.2.1) (.eq (.int .u64 a0.2.2)))))] (fun _:Unit=>(bq [.rep av r.1],[.obj c 75 (.agg (.pair (Ri r.2.1) (.pair (I r.2.2.1) (.eq (.int .u64 r.2.2.2)))))])):=by
 unfold kH at h
 replace h:=a8 h
 refine bX.of 79 Tryz.func49 rfl Tryz.ntmps49 rfl fun S w0=>?_
 refine sr ?_
 refine aF rfl rfl rfl (be rfl kA mC) trivial fun b1=>?_
 refine nt ?_
 refine sr ?_
 refine mq ?_
 obtain⟨r2,UJ,h⟩:=aa h
 have UK:=mi k (a0.1,a0.2.1,a0.2.2) c 1 4 r2 UJ
 refine fr 1 ?_
 refine kc (ap [.tmp 13,.const (.int .i64 (1)),.const (.int .i64 (4))] rfl rfl NF rfl UK) ?_
 refine ja (cI [(0,.tmp 14,_)] rfl GR kA AN (ij ⟨rfl,trivial⟩) rfl) ?_
 refine aF rfl rfl rfl (be rfl kA mC) trivial fun b3=>?_
 refine bh rfl rfl (bb rfl dj trivial rfl rfl) ⟨rfl,rfl,trivial⟩ ?_
 refine nt ?_
 refine sr ?_
 refine cq ?_
 refine nt ?_
 refine aN (Z:=Value) (α:=(List Int)×Int×Int×(List eO)×Int) (fun z5 x4=>[(0,Pt c),(2,I a2),(6,Pt b1),(7,Pt b3),(8,I x4.2.2.2.2)]) (fun z5 x4=>[.obj c 75 (.agg (.pair (Ri x4.1) (.pair (I x4.2.1) (.eq (.int .u64 x4.2.2.1))))),.obj b1 25 (.agg (.pair (I 0) (.pair (.eq (.slice none 0 0)) (.eq (.slice none 0 0))))),.obj b3 25 (.agg (.pair (I r2.1) (.pair (.eq z5) (.eq (.slice none 0 0))))),.sl z5 27 aY x4.2.2.2.1]) h (fun K h=>?_) (fun z5 x4 h=>?_)
 ·
  refine sr ?_;iterate 2 refine mq ?_
  obtain⟨r6,UI,h⟩:=aa h;refine fr 1 ?_;refine kc (ap [.tmp 16,.const (.int .i64 (0)),.tmp 17] rfl rfl NF rfl (mi k (r2.2.1,r2.2.2.1,r2.2.2.2) c 0 a1 r6 UI)) ?_;refine aq (nt (ao ?_));refine dW (SE.nil 27 aY) ?_;refine aK (fun z8 y7=>[(0,Pt c),(2,I a2),(6,Pt b1),(7,Pt b3),(8,I y7.2.2.2.2.1),(9,I y7.2.2.2.2.2)]) (fun z8 y7=>[.obj c 75 (.agg (.pair (Ri y7.1) (.pair (I y7.2.1) (.eq (.int .u64 y7.2.2.1))))),.obj b1 25 (.agg (.pair (I 0) (.pair (.eq (.slice none 0 0)) (.eq (.slice none 0 0))))),.obj b3 25 (.agg (.pair (I r2.1) (.pair (.eq z8) (.eq (.slice none 0 0))))),.sl z8 27 aY y7.2.2.2.1]) (fi k r2) k (.slice none 0 0) (r6.2.1,r6.2.2.1,r6.2.2.2,([]:(List eO)),0,r6.1) (fun _=>rfl) h (SE.fin [1,3,2,0] ⟨rfl,rfl,rfl,rfl,rfl,rfl,trivial⟩ rfl) (fun n z8 y7 h=>?_);unfold fi at h;refine ae (sr (mq ?_));refine jb (iC rfl) ?_;refine nt (ci h (fun h=>?_) (fun h=>?_))
  ·refine sk (aN (Z:=Value) (α:=(List Int)×Int×Int×(List eO)×Int) (fun X x9=>[(0,Pt c),(2,I a2),(6,Pt b1),(7,Pt b3),(8,I x9.2.2.2.2),(9,I y7.2.2.2.2.2)]) (fun X x9=>[.obj c 75 (.agg (.pair (Ri x9.1) (.pair (I x9.2.1) (.eq (.int .u64 x9.2.2.1))))),.obj b1 25 (.agg (.pair (I 0) (.pair (.eq (.slice none 0 0)) (.eq (.slice none 0 0))))),.obj b3 25 (.agg (.pair (I r2.1) (.pair (.eq X) (.eq (.slice none 0 0))))),.sl X 27 aY x9.2.2.2.1]) h (fun K h=>?_) (fun X x9 h=>?_))
   ·refine ao (sr (mq ?_));refine aE rfl (bj (t:=(.int .i64)) [(.const (.int .i64 (1)),_),(.const (.int .i64 (1)),_),(.const (.int .i64 (1)),_),(.const (.int .i64 (2)),_),(.const (.int .i64 (3)),_)] [1,1,1,2,3] rfl rfl dI (.cons rfl .int (.cons rfl .int (.cons rfl .int (.cons rfl .int (.cons rfl .int .nil))))) rfl rfl) ⟨rfl,rfl,rfl,rfl,rfl,trivial⟩ ?_;obtain⟨s,Ur,h⟩:=aa h;refine kb (ap [.tmp 23,.tmp 24] rfl rfl P4 rfl (pr k (y7.1,y7.2.1,y7.2.2.1) c [1,1,1,2,3] s Ur)) ?_;refine ja (cI [(0,.tmp 25,_)] rfl zD ue ub (ij ⟨rfl,trivial⟩) rfl) ?_;refine aF rfl rfl rfl (be rfl ue La) trivial fun M=>?_;refine bh rfl rfl (bb rfl j7 trivial rfl rfl) ⟨rfl,rfl,trivial⟩ ?_;refine nt (aN (Z:=Value) (α:=(List Int)×Int×Int×(List Int)) (fun ac j=>[(0,Pt c),(2,I a2),(6,Pt b1),(7,Pt b3),(8,I y7.2.2.2.2.1),(9,I y7.2.2.2.2.2),(10,Pt M)]) (fun ac j=>[.obj c 75 (.agg (.pair (Ri j.1) (.pair (I j.2.1) (.eq (.int .u64 j.2.2.1))))),.obj b1 25 (.agg (.pair (I 0) (.pair (.eq (.slice none 0 0)) (.eq (.slice none 0 0))))),.obj b3 25 (.agg (.pair (I r2.1) (.pair (.eq z8) (.eq (.slice none 0 0))))),.sl z8 27 aY y7.2.2.2.1,.obj M 27 (.agg (.pair (I s.1) (.eq ac))),.sl ac 3 (.int .i64) j.2.2.2]) h (fun K h=>?_) (fun ac j h=>?_))
    ·refine sr (cq (nt (ao ?_)));refine dW (SE.nil 3 (.int .i64)) ?_;refine aK (fun Q e=>[(0,Pt c),(2,I a2),(6,Pt b1),(7,Pt b3),(8,I y7.2.2.2.2.1),(9,I y7.2.2.2.2.2),(10,Pt M),(11,I e.2.2.2.2)]) (fun Q e=>[.obj c 75 (.agg (.pair (Ri e.1) (.pair (I e.2.1) (.eq (.int .u64 e.2.2.1))))),.obj b1 25 (.agg (.pair (I 0) (.pair (.eq (.slice none 0 0)) (.eq (.slice none 0 0))))),.obj b3 25 (.agg (.pair (I r2.1) (.pair (.eq z8) (.eq (.slice none 0 0))))),.sl z8 27 aY y7.2.2.2.1,.obj M 27 (.agg (.pair (I s.1) (.eq Q))),.sl Q 3 (.int .i64) e.2.2.2.1]) (fh k r2) k (.slice none 0 0) (s.2.1,s.2.2.1,s.2.2.2,([]:(List Int)),0) (fun _=>rfl) h (SE.fin [2,3,4,5,1,0] ⟨rfl,rfl,rfl,rfl,rfl,rfl,rfl,rfl,trivial⟩ rfl) (fun n Q e h=>?_);unfold fh at h;refine ae (sr (mq ?_));refine fl fD ?_;refine fr 2 ?_;refine lo cm ?_;refine jb (bp rfl) ?_;refine nt (ci h (fun h=>?_) (fun h=>?_))
     ·refine sk (aN (Z:=Value) (α:=(List Int)×Int×Int×(List Int)) (fun U x=>[(0,Pt c),(2,I a2),(6,Pt b1),(7,Pt b3),(8,I y7.2.2.2.2.1),(9,I y7.2.2.2.2.2),(10,Pt M),(11,I e.2.2.2.2)]) (fun U x=>[.obj c 75 (.agg (.pair (Ri x.1) (.pair (I x.2.1) (.eq (.int .u64 x.2.2.1))))),.obj b1 25 (.agg (.pair (I 0) (.pair (.eq (.slice none 0 0)) (.eq (.slice none 0 0))))),.obj b3 25 (.agg (.pair (I r2.1) (.pair (.eq z8) (.eq (.slice none 0 0))))),.sl z8 27 aY y7.2.2.2.1,.obj M 27 (.agg (.pair (I s.1) (.eq U))),.sl U 3 (.int .i64) x.2.2.2]) h (fun K h=>?_) (fun U x h=>?_))
      ·refine ao (sr (mq ?_));obtain⟨J,Up,h⟩:=aa h;refine fr 1 ?_;refine kb (ap [.tmp 33,.const (.int .i64 (2))] rfl rfl P3 rfl (nD k (e.1,e.2.1,e.2.2.1) c 2 J Up)) ?_;refine nt (cv h (fun h=>?_) (fun h=>?_))
       ·refine ab (fl ku ?_);refine fr 4 ?_;refine lo bF ?_;refine mq ?_;refine ja (bj (t:=(.int .i64)) [(.tmp 37,_)] [e.2.2.2.2] rfl rfl dI (.cons rfl .int .nil) rfl rfl) ?_;obtain⟨UY,Ul,h⟩:=aa h;refine fr 5 ?_;refine c6 rfl rfl rfl (bI rfl rfl dI (aC Ul)) ⟨rfl,rfl,trivial⟩ fun Uy=>?_;refine fl ku ?_;refine ou fun o22=>?_;refine fr 1 ?_;refine bh rfl rfl (bb rfl bF o22 rfl rfl) ⟨rfl,rfl,trivial⟩ ?_;refine au (bn ?_);exact jz (Uy,(J.2.1,J.2.2.1,J.2.2.2,e.2.2.2.1++[e.2.2.2.2])) h [2,4,3,5,0,1]
       ·refine aW (bn ?_);exact jz (Q,(J.2.1,J.2.2.1,J.2.2.2,e.2.2.2.1)) h [0,2,1,3,4,5]
      ·refine ab (mq ?_);obtain⟨Uw,Ui,h⟩:=aa h;refine jb (bf rfl Ui) ?_;refine aq (nl ?_);exact jz (U,(x.1,x.2.1,x.2.2.1,x.2.2.2,Uw)) h [0,1,2,3,4,5]
     ·refine xa ?_;exact jz (Q,(e.1,e.2.1,e.2.2.1,e.2.2.2.1)) h [1,2,0,3,4,5]
    ·refine jx 4 rfl ?_;refine jx 5 rfl ?_;refine dW (kP (off:=1) [] trivial rfl rfl) ?_;refine jy ?_;refine aI rfl rfl rfl (ar rfl bT) ⟨rfl,trivial⟩ ?_;refine dp 3 rfl rfl rfl rfl (aj rfl eX jo rfl) ⟨rfl,trivial⟩ ?_;refine dp 0 rfl rfl rfl rfl (aj rfl j7 (tw) rfl) ⟨rfl,trivial⟩ ?_;refine aI rfl rfl rfl (bj (t:=aY) [(.tmp 43,_)] [(s.1,j.2.2.2)] rfl rfl xR (.cons trivial (.agg (.pair .int .rep)) .nil) rfl rfl) ⟨rfl,trivial⟩ ?_;obtain⟨UX,Uk,h⟩:=aa h;refine sL 4 rfl (fun v=>[.sl v 27 aY (y7.2.2.2.1++[(s.1,j.2.2.2)])]) (fun _=>rfl) rfl rfl rfl (bI rfl rfl xR (aC Uk)) ⟨rfl,rfl,trivial⟩ ?_;refine aI rfl rfl rfl (aH rfl) ⟨rfl,trivial⟩ ?_;refine aI rfl rfl rfl (ar rfl kL) ⟨rfl,trivial⟩ ?_;refine dp 0 rfl rfl rfl rfl (aj rfl cm jo rfl) ⟨rfl,trivial⟩ ?_;obtain⟨Uu,Uh,h⟩:=aa h;refine aI rfl rfl rfl (bf rfl Uh) ⟨rfl,rfl,trivial⟩ ?_;refine aI rfl rfl rfl (ar rfl bT) ⟨rfl,trivial⟩ ?_;refine my 10 [true,true,true,true,true,false,false,false,false,true] [] [0] [.obj M 27 (.agg (.pair (I s.1) (Ri j.2.2.2)))] rfl (by kernel_rfl) (by kernel_rfl) (by kernel_rfl) cp (fun vs hv hB=>?_);obtain⟨w0,UV,rfl,UH⟩:=an hv;obtain⟨w1,UU,rfl,UG⟩:=an UH;obtain⟨w2,UT,rfl,UF⟩:=an UG;obtain⟨w3,US,rfl,UE⟩:=an UF;obtain⟨se,UR,rfl,UD⟩:=an UE;obtain⟨w5,UQ,rfl,UC⟩:=an UD;obtain⟨w6,UP,rfl,UB⟩:=an UC;obtain⟨w7,UO,rfl,UA⟩:=an UB;obtain⟨w8,UN,rfl,Uz⟩:=an UA;obtain⟨w9,UL,rfl,Ud⟩:=an Uz;obtain rfl:=kl Ud;refine⟨[0,1,2,3,4],[.obj c 75 (.agg (.pair (Ri j.1) (.pair (I j.2.1) (.eq (.int .u64 j.2.2.1))))),.obj b1 25 (.agg (.pair (I 0) (.pair (.eq (.slice none 0 0)) (.eq (.slice none 0 0))))),.obj b3 25 (.agg (.pair (I r2.1) (.pair (.eq z8) (.eq (.slice none 0 0))))),.sl se 27 aY (y7.2.2.2.1++[(s.1,j.2.2.2)])],by kernel_rfl,by decide,?_⟩;refine iY 3 rfl ?_;refine C0 fun o27=>?_;refine iY 3 rfl ?_;refine ot rfl rfl (bb rfl eX o27 rfl rfl) ⟨rfl,rfl,trivial⟩ (by kernel_rfl) ?_;refine C3 (by kernel_rfl) ?_;refine aq (au (bn ?_));exact jz (se,(j.1,j.2.1,j.2.2.1,y7.2.2.2.1++[(s.1,j.2.2.2)],Uu)) h [3,4,1,2]
   ·refine ab (mq ?_);obtain⟨Ut,Ug,h⟩:=aa h;refine jb (eK rfl Ug) ?_;refine aq (nl ?_);exact jz (X,(x9.1,x9.2.1,x9.2.2.1,x9.2.2.2.1,x9.2.2.2.2,Ut)) h [0,1,2,3]
  ·refine xa ?_;exact jz (z8,(y7.1,y7.2.1,y7.2.2.1,y7.2.2.2.1,y7.2.2.2.2.1)) h [0,1,2,3]
 ·
  refine aN (Z:=Value) (α:=(List Int)×Int×Int×(List Int)) (fun O u=>[(0,Pt c),(6,Pt b1),(7,Pt b3),(8,I x4.2.2.2.2)]) (fun O u=>[.obj c 75 (.agg (.pair (Ri u.1) (.pair (I u.2.1) (.eq (.int .u64 u.2.2.1))))),.obj b1 25 (.agg (.pair (I 0) (.pair (.eq (.slice none 0 0)) (.eq (.slice none 0 0))))),.obj b3 25 (.agg (.pair (I r2.1) (.pair (.eq z5) (.eq O)))),.sl z5 27 aY x4.2.2.2.1,.sl O 3 (.int .i64) u.2.2.2]) h (fun K h=>?_) (fun O u h=>?_)
  ·refine sr ?_;iterate 2 refine mq ?_
   obtain⟨Y,Uo,h⟩:=aa h;refine kc (ap [.tmp 51,.const (.int .i64 (1)),.tmp 52] rfl rfl NF rfl (mi k (x4.1,x4.2.1,x4.2.2.1) c 1 a2 Y Uo)) ?_;refine aq (nt (ao ?_));refine dW (SE.nil 3 (.int .i64)) ?_;refine aK (fun E l=>[(0,Pt c),(6,Pt b1),(7,Pt b3),(8,I x4.2.2.2.2),(12,I l.2.2.2.2)]) (fun E l=>[.obj c 75 (.agg (.pair (Ri l.1) (.pair (I l.2.1) (.eq (.int .u64 l.2.2.1))))),.obj b1 25 (.agg (.pair (I 0) (.pair (.eq (.slice none 0 0)) (.eq (.slice none 0 0))))),.obj b3 25 (.agg (.pair (I r2.1) (.pair (.eq z5) (.eq E)))),.sl z5 27 aY x4.2.2.2.1,.sl E 3 (.int .i64) l.2.2.2.1]) (fg k x4) k (.slice none 0 0) (Y.2.1,Y.2.2.1,Y.2.2.2,([]:(List Int)),Y.1) (fun _=>rfl) h (SE.fin [1,2,3,4,0] ⟨rfl,rfl,rfl,rfl,rfl,trivial⟩ rfl) (fun n E l h=>?_);unfold fg at h;refine ae (sr (mq ?_));refine jb (iC rfl) ?_;refine nt (ci h (fun h=>?_) (fun h=>?_))
   ·refine sk (ae (ao (bz ?_)));refine da (ar rfl cJ) ?_;refine ea 2 (aj rfl bF jo rfl) ?_;refine dm ?_;refine dm ?_;refine db (Du rfl rfl) ?_;refine dm ?_;obtain⟨qt,Uf,h⟩:=aa h;refine db (bf rfl Uf) ?_;refine db (Du rfl rfl) ?_;refine dt rfl rfl rfl (bj (t:=(.int .i64)) [(.const (.int .i64 (1)),_),(.const (.int .i64 (2)),_),(.const (.int .i64 (3)),_),(.tmp 62,_),(.tmp 65,_)] [1,2,3,ko 9 x4.2.2.2.2,ko 9 qt] rfl rfl dI (.cons rfl .int (.cons rfl .int (.cons rfl .int (.cons rfl .int (.cons rfl .int .nil))))) rfl rfl) ⟨rfl,rfl,rfl,rfl,rfl,trivial⟩ ?_;obtain⟨D,Un,h⟩:=aa h;refine Lu 0 rfl rfl rfl rfl (ap [.tmp 60,.tmp 66] rfl rfl P4 rfl (pr k (l.1,l.2.1,l.2.2.1) c [1,2,3,ko 9 x4.2.2.2.2,ko 9 qt] D Un)) ⟨rfl,rfl,trivial⟩ ?_;refine da (bj (t:=(.int .i64)) [(.tmp 67,_)] [D.1] rfl rfl dI (.cons rfl .int .nil) rfl rfl) ?_;refine Ly (Δ':=[.obj b1 25 (.agg (.pair (I 0) (.pair (.eq (.slice none 0 0)) (.eq (.slice none 0 0))))),.obj b3 25 (.agg (.pair (I r2.1) (.pair (.eq z5) (.eq E)))),.sl z5 27 aY x4.2.2.2.1,.sl E 3 (.int .i64) l.2.2.2.1,.obj c 75 (.agg (.pair (Ri D.2.1) (.pair (I D.2.2.1) (.eq (.int .u64 D.2.2.2)))))]) (by kernel_rfl) cp (by kernel_rfl) ?_;obtain⟨UW,Uj,h⟩:=aa h;refine fr 3 ?_;refine c6 rfl rfl rfl (bI rfl rfl dI (aC Uj)) ⟨rfl,rfl,trivial⟩ fun Ux=>?_;refine fl cJ ?_;refine ou fun o38=>?_;refine fr 2 ?_;refine bh rfl rfl (bb rfl bF o38 rfl rfl) ⟨rfl,rfl,trivial⟩ ?_;refine au (aM (tn (ab (mq ?_))));obtain⟨Us,Ue,h⟩:=aa h;refine jb (eK rfl Ue) ?_;refine aq (nl ?_);exact jz (Ux,(D.2.1,D.2.2.1,D.2.2.2,l.2.2.2.1++[D.1],Us)) h [4,2,0,3,1]
   ·refine xa ?_;exact jz (E,(l.1,l.2.1,l.2.2.1,l.2.2.2.1)) h [0,1,2,3,4]
  ·refine aN (Z:=Unit) (α:=(List Int)×(List Int)×Int×Int) (fun pp y=>[(6,Pt b1),(7,Pt b3)]) (fun pp y=>[.obj b1 25 (.agg (.pair (I 0) (.pair (.eq (.slice none 0 0)) (.eq (.slice none 0 0))))),.obj b3 25 (.agg (.pair (I r2.1) (.pair (.eq z5) (.eq O)))),.sl z5 27 aY x4.2.2.2.1,.sl O 3 (.int .i64) y.1,.obj c 75 (.agg (.pair (Ri y.2.1) (.pair (I y.2.2.1) (.eq (.int .u64 y.2.2.2)))))]) h (fun K h=>?_) (fun pp y h=>?_)
   ·refine sr (mq ?_);obtain⟨F,Um,h⟩:=aa h;refine kb (ap [.tmp 71,.const (.int .i64 (2))] rfl rfl P3 rfl (nD k (u.1,u.2.1,u.2.2.1) c 2 F Um)) ?_;refine nt (cv h (fun h=>?_) (fun h=>?_))
    ·refine ab (fl cJ ?_);refine fr 2 ?_;refine lo bF ?_;refine mq ?_;refine jb (Du rfl rfl) ?_;obtain⟨UM,mc,h⟩:=aa h;refine fr 4 ?_;refine kb (aZ (t:=(.int .i64)) rfl dw cm mc) ?_;refine bh rfl rfl (cR (i:=Int.toNat 0) rfl cm rfl (ib mc) rfl .int rfl) ⟨rfl,rfl,trivial⟩ ?_;refine nl ?_;exact jz ((),(List.set u.2.2.2 (Int.toNat 0) (ko 9 x4.2.2.2.2),F.2.1,F.2.2.1,F.2.2.2)) h [3,1,4,0,2]
    ·refine aW (ah ?_);exact jz ((),(u.2.2.2,F.2.1,F.2.2.1,F.2.2.2)) h [1,2,3,4,0]
   ·refine sr (fr 1 ?_);refine fr 2 ?_;refine cD (kP (off:=1) [] trivial rfl rfl) ?_;refine fr 2 ?_;refine cD (kP (off:=2) [] trivial rfl rfl) ?_;refine lo dj ?_;refine fr 1 ?_;refine bh rfl rfl (bb rfl dj trivial rfl rfl) ⟨rfl,rfl,trivial⟩ ?_;refine nt (ay (bu (oq (a:=.agg (.pair (I r2.1) (.pair (Rs aY x4.2.2.2.1) (Ri y.1)))) (a':=.rep av (r2.1,x4.2.2.2.1,y.1)) (wc (.agg (.pair .int (.pair .rep .rep))))) ?_));refine bu (SE.fin (Γ':=[(6,_)]) [2,0,1] ⟨rfl,trivial⟩ rfl) ?_;cases h;exact aL () [.rep av (r2.1,x4.2.2.2.1,y.1)] 1 ⟨⟨_,_,_,_,_,rfl,(.tail _ (.head _)),dj,(tw),rfl⟩,trivial⟩ rfl
def eM(k:Nat)(a1:Int):Nat→((List Int)×Int×Int×(List Int)×Int)→Option ((List Int)×(List Int)×Int×Int)
 |0,_=>none
 |n+1,y3=>
  if y3.2.2.2.2 < a1 then((bV k (y3.1,y3.2.1,y3.2.2.1) y3.2.2.2.2).bind fun r5=>
  (dE (bQ (List.length y3.2.2.2.1+List.length [y3.2.2.2.2]))).bind fun _=>
  (aQ (y3.2.2.2.1++[y3.2.2.2.2]) r5.1).bind fun x8=>
  (aQ (y3.2.2.2.1++[y3.2.2.2.2]) y3.2.2.2.2).bind fun x9=>
  (aQ (List.set (y3.2.2.2.1++[y3.2.2.2.2]) (Int.toNat y3.2.2.2.2) x8) r5.1).bind fun e=>
  (ck (y3.2.2.2.2+1)).bind fun c=>
  eM k a1 n (r5.2.1,r5.2.2.1,r5.2.2.2,List.set (List.set (y3.2.2.2.1++[y3.2.2.2.2]) (Int.toNat y3.2.2.2.2) x8) (Int.toNat r5.1) y3.2.2.2.2,c)) else(some (y3.2.2.2.1,y3.1,y3.2.1,y3.2.2.1))
def gJ(k:Nat)(a0:bR)(a1:Int):Option ((List Int)×bR):=
 ((eM k a1 k (a0.1,a0.2.1,a0.2.2,([]:(List Int)),0)):Option ((List Int)×(List Int)×Int×Int)).bind fun x1=>
 some (x1.1,(x1.2.1,x1.2.2.1,x1.2.2.2))
theorem sa(k:Nat)(a0:bR)(c:Nat)(a1:Int)(r:(List Int)×bR)(h:gJ k a0 a1=some r):
 bX Tryz.prog 97 [Pt c,I a1] [.obj c 75 (.agg (.pair (Ri a0.1) (.pair (I a0.2.1) (.eq (.int .u64 a0.2.2)))))] (fun _:Unit=>(bq [Ri r.1],[.obj c 75 (.agg (.pair (Ri r.2.1) (.pair (I r.2.2.1) (.eq (.int .u64 r.2.2.2)))))])):=by
 unfold gJ at h
 replace h:=a8 h
 refine bX.of 32 Tryz.func97 rfl Tryz.ntmps97 rfl fun S w0=>?_
 refine sr ?_
 refine cq ?_
 refine nt ?_
 refine sr ?_
 refine cq ?_
 refine nt ?_
 refine aN (Z:=Value) (α:=(List Int)×(List Int)×Int×Int) (fun z2 x1=>[(5,.eq z2)]) (fun z2 x1=>[.sl z2 3 (.int .i64) x1.1,.obj c 75 (.agg (.pair (Ri x1.2.1) (.pair (I x1.2.2.1) (.eq (.int .u64 x1.2.2.2)))))]) h (fun K h=>?_) (fun z2 x1 h=>?_)
 ·
  refine sr (cq (nt (ao ?_)));refine dW (SE.nil 3 (.int .i64)) ?_;refine aK (fun z4 y3=>[(0,Pt c),(1,I a1),(5,.eq z4),(6,I y3.2.2.2.2)]) (fun z4 y3=>[.obj c 75 (.agg (.pair (Ri y3.1) (.pair (I y3.2.1) (.eq (.int .u64 y3.2.2.1))))),.sl z4 3 (.int .i64) y3.2.2.2.1]) (eM k a1) k (.slice none 0 0) (a0.1,a0.2.1,a0.2.2,([]:(List Int)),0) (fun _=>rfl) h (SE.fin [1,0] ⟨rfl,rfl,rfl,rfl,trivial⟩ rfl) (fun n z4 y3 h=>?_);unfold eM at h;refine ae (sr ?_);iterate 2 refine mq ?_
  refine jb (bp rfl) ?_;refine nt (ci h (fun h=>?_) (fun h=>?_))
  ·refine sk (ae (ao (sr ?_)));iterate 2 refine mq ?_
   obtain⟨r5,y,h⟩:=aa h;refine kb (ap [.tmp 13,.tmp 14] rfl rfl yB rfl (cY k (y3.1,y3.2.1,y3.2.2.1) c y3.2.2.2.2 r5 y)) ?_;refine aq (nt (sr ?_));iterate 2 refine mq ?_
   refine ja (bj (t:=(.int .i64)) [(.tmp 17,_)] [y3.2.2.2.2] rfl rfl dI (.cons rfl .int .nil) rfl rfl) ?_;obtain⟨u6,x,h⟩:=aa h;refine fr 1 ?_;refine c6 rfl rfl rfl (bI rfl rfl dI (aC x)) ⟨rfl,rfl,trivial⟩ fun v7=>?_;refine aq (nt (ab ?_));iterate 6 refine mq ?_
   obtain⟨x8,l,h⟩:=aa h;refine kb (aZ (t:=(.int .i64)) rfl dw cm l) ?_;refine ka (dX (i:=Int.toNat r5.1) (off:=0) rfl cm (fun _=>rfl) rfl (cC l).2.2 rfl) ?_;refine mq ?_;obtain⟨x9,j,h⟩:=aa h;refine kb (aZ (t:=(.int .i64)) rfl dw cm j) ?_;refine bh rfl rfl (cR (i:=Int.toNat y3.2.2.2.2) rfl cm rfl (ib j) rfl .int rfl) ⟨rfl,rfl,trivial⟩ ?_;obtain⟨D,e,h⟩:=aa h;refine kb (aZ (t:=(.int .i64)) rfl dw cm e) ?_;refine bh rfl rfl (cR (i:=Int.toNat r5.1) rfl cm rfl (ib e) rfl .int rfl) ⟨rfl,rfl,trivial⟩ ?_;refine au (aM (tn (ab (mq ?_))));obtain⟨u,s,h⟩:=aa h;refine jb (bf rfl s) ?_;refine aq (nl ?_);exact jz (v7,(r5.2.1,r5.2.2.1,r5.2.2.2,List.set (List.set (y3.2.2.2.1++[y3.2.2.2.2]) (Int.toNat y3.2.2.2.2) x8) (Int.toNat r5.1) y3.2.2.2.2,u)) h [1,0]
  ·refine xa ?_;exact jz (z4,(y3.2.2.2.1,y3.1,y3.2.1,y3.2.2.1)) h [1,0]
 ·
  refine sr (mq ?_);refine aq (nt (ay ?_));refine bu (eR [4,5,31] ⟨rfl,rfl,rfl,trivial⟩) ?_;cases h;exact aL () [_] 1 ⟨rfl,trivial⟩ rfl
def pq(k:Nat)(a0:Int)(a1:Int):Option Int:=
 (dE (a1≠0)).bind fun _=>
 (ck ((Int.tmod a0 a1)+a1)).bind fun x2=>
 (dE (a1≠0)).bind fun _=>
 some (Int.tmod x2 a1)
theorem Am(k:Nat)(a0:Int)(a1:Int)(r:Int)(h:pq k a0 a1=some r):
 bX Tryz.prog 98 [I a0,I a1] [] (fun _:Unit=>(bq [I r],[])):=by
 unfold pq at h
 replace h:=a8 h
 refine bX.of 12 Tryz.func98 rfl Tryz.ntmps98 rfl fun S w0=>?_
 refine sr ?_
 refine cq ?_
 refine nt ?_
 refine sr ?_
 iterate 2 refine mq ?_
 obtain⟨u1,j,h⟩:=aa h
 refine jb (G3 rfl (aC j)) ?_
 refine mq ?_
 obtain⟨x2,c,h⟩:=aa h
 refine jb (bf rfl c) ?_
 refine mq ?_
 obtain⟨u3,e,h⟩:=aa h
 refine jb (G3 rfl (aC e)) ?_
 refine aq ?_
 refine nt ?_
 refine ay ?_
 cases h
 exact ra
def dz(k:Nat)(a1:aO)(r7:(List Int)×bR)(c:(List Int)×Int×Int×(List Int)×Int×(List (List Int)))(e:Int×bR):Nat→(Int×(List (List Int)))→Option ((List Int)×Int×Int×(List Int)×(List (List Int)))
 |0,_=>none
 |n+1,h=>
  if h.1 < (c.2.2.2.1.length:Int) then((ck (e.1+h.1)).bind fun O=>
  (pq k O (c.2.2.2.1.length:Int)).bind fun j=>
  (((aQ c.2.2.2.1 j).bind fun M=>
  (aQ r7.1 c.2.2.2.2.1).bind fun J=>
  (aQ a1.2.1 J).bind fun I=>
  if I.1≤M then(some (true,h.2)) else((ck ((c.2.2.2.1.length:Int) - 1)).bind fun F=>
  some (decide (h.1=F),h.2))):Option (Bool×(List (List Int)))).bind fun l=>
  if l.1=true then((aQ l.2 j).bind fun s=>
  (aQ r7.1 c.2.2.2.2.1).bind fun r=>
  (dE (bQ (List.length s+List.length [r]))).bind fun _=>
  (aQ c.2.2.2.1 j).bind fun E=>
  (aQ r7.1 c.2.2.2.2.1).bind fun D=>
  (aQ a1.2.1 D).bind fun y=>
  (ck (E - y.1)).bind fun x=>
  (aQ c.2.2.2.1 j).bind fun Q=>
  some (e.2.1,e.2.2.1,e.2.2.2,List.set c.2.2.2.1 (Int.toNat j) x,List.set l.2 (Int.toNat j) (s++[r]))) else((ck (h.1+1)).bind fun u=>
  dz k a1 r7 c e n (u,l.2))) else(some (e.2.1,e.2.2.1,e.2.2.2,c.2.2.2.1,h.2))
def fy(k:Nat)(a1:aO)(r7:(List Int)×bR):Nat→((List Int)×Int×Int×(List Int)×Int×(List (List Int)))→Option ((List Int)×Int×Int×(List (List Int)))
 |0,_=>none
 |n+1,c=>
  if c.2.2.2.2.1 < (r7.1.length:Int) then((((ck ((c.2.2.2.1.length:Int) - 1)).bind fun j=>
  (bV k (c.1,c.2.1,c.2.2.1) j).bind fun l=>
  dz k a1 r7 c l k (0,c.2.2.2.2.2)):Option ((List Int)×Int×Int×(List Int)×(List (List Int)))).bind fun e=>
  (ck (c.2.2.2.2.1+1)).bind fun h=>
  fy k a1 r7 n (e.1,e.2.1,e.2.2.1,e.2.2.2.1,h,e.2.2.2.2)) else(some (c.1,c.2.1,c.2.2.1,c.2.2.2.2.2))
def fk(k:Nat)(a0:bR)(a1:aO):Option ((List (List Int))×bR):=
 (dE (0≤(a1.2.2.length:Int)∧bQ (Int.toNat (a1.2.2.length:Int)))).bind fun _=>
 (dE (bQ (List.length ([]:(List Int))+List.length a1.2.2))).bind fun _=>
 (gJ k (a0.1,a0.2.1,a0.2.2) (a1.2.1.length:Int)).bind fun r7=>
 ((fy k a1 r7 k (r7.2.1,r7.2.2.1,r7.2.2.2,([]:(List Int))++a1.2.2,0,List.replicate (Int.toNat (a1.2.2.length:Int)) ([]:(List Int)))):Option ((List Int)×Int×Int×(List (List Int)))).bind fun x8=>
 some (x8.2.2.2,(x8.1,x8.2.1,x8.2.2.1))
theorem nC(k:Nat)(a0:bR)(e:Nat)(a1:aO)(r:(List (List Int))×bR)(h:fk k a0 a1=some r):
 bX Tryz.prog 51 [Pt e,.rep av a1] [.obj e 75 (.agg (.pair (Ri a0.1) (.pair (I a0.2.1) (.eq (.int .u64 a0.2.2)))))] (fun _:Unit=>(bq [.rep (.slice (.slice (.int .i64))) r.1],[.obj e 75 (.agg (.pair (Ri r.2.1) (.pair (I r.2.2.1) (.eq (.int .u64 r.2.2.2)))))])):=by
 unfold fk at h
 replace h:=a8 h
 refine bX.of 100 Tryz.func51 rfl Tryz.ntmps51 rfl fun S w0=>?_
 refine sr ?_
 refine bx fun b1=>?_
 refine cq ?_
 refine nt ?_
 refine sr ?_
 refine fl cJ ?_
 refine lo bF ?_
 refine ol dw ?_
 obtain⟨u2,UI,h⟩:=aa h
 refine aF rfl rfl rfl (BQ (t:=.val) (d:=.slice none 0 0) rfl oW Ot (aC UI).1 (aC UI).2) ⟨rfl,rfl,trivial⟩ fun v3=>?_
 refine cD (AT (F:=[.obj b1 25 (.rep av a1),.obj e 75 (.agg (.pair (Ri a0.1) (.pair (I a0.2.1) (.eq (.int .u64 a0.2.2)))))])) ?_
 refine aq ?_
 refine nt ?_
 refine sr ?_
 refine aF rfl rfl rfl (me (t:=(.int .i64)) [] ([]:(List Int)) rfl rfl dI .nil rfl rfl) trivial fun v4=>?_
 refine fl cJ ?_
 refine fr 1 ?_
 refine lo bF ?_
 obtain⟨u5,UZ,h⟩:=aa h
 refine fr 1 ?_
 refine c6 rfl rfl rfl (bI rfl rfl dI (aC UZ)) ⟨rfl,rfl,trivial⟩ fun v6=>?_
 refine aq ?_
 refine nt ?_
 refine sr ?_
 refine mq ?_
 refine fl bT ?_
 refine fr 1 ?_
 refine lo eX ?_
 refine ol mD ?_
 obtain⟨r7,U0,h⟩:=aa h
 have U1:=sa k (a0.1,a0.2.1,a0.2.2) e (a1.2.1.length:Int) r7 U0
 refine fr 2 ?_
 refine kb (ap [.tmp 20,.tmp 23] rfl rfl Su rfl U1) ?_
 refine aq ?_
 refine nt ?_
 refine aN (Z:=(Value×(Nat→Value))) (α:=(List Int)×Int×Int×(List (List Int))) (fun z9 x8=>[(5,.eq z9.1)]) (fun z9 x8=>[.obj e 75 (.agg (.pair (Ri x8.1) (.pair (I x8.2.1) (.eq (.int .u64 x8.2.2.1)))))]++fK 23 z9 x8.2.2.2) h (fun K h=>?_) (fun z9 x8 h=>?_)
 ·
  refine sr (cq (nt (ao ?_)));refine aK (Z:=(Value×(Nat→Value))) (α:=(List Int)×Int×Int×(List Int)×Int×(List (List Int))) (fun Q j=>[(0,Pt e),(3,Pt b1),(5,.eq Q.1),(6,.eq v6),(7,Ri r7.1),(8,I j.2.2.2.2.1)]) (fun Q j=>[.obj e 75 (.agg (.pair (Ri j.1) (.pair (I j.2.1) (.eq (.int .u64 j.2.2.1))))),.obj b1 25 (.rep av a1),.sl v6 3 (.int .i64) j.2.2.2.1]++fK 23 Q j.2.2.2.2.2) (fy k a1 r7) k (v3,fun _=>.slice none 0 0) (r7.2.1,r7.2.2.1,r7.2.2.2,([]:(List Int))++a1.2.2,0,List.replicate (Int.toNat (a1.2.2.length:Int)) ([]:(List Int))) (fun _=>rfl) h (bv [.obj e 75 (.agg (.pair (Ri r7.2.1) (.pair (I r7.2.2.1) (.eq (.int .u64 r7.2.2.2))))),.obj b1 25 (.rep av a1),.sl v6 3 (.int .i64) (([]:(List Int))++a1.2.2)] (fK 23 (v3,fun _=>.slice none 0 0) (List.replicate (Int.toNat (a1.2.2.length:Int)) ([]:(List Int)))) [0,1,2] ⟨rfl,rfl,rfl,rfl,rfl,rfl,trivial⟩ rfl) (fun n Q j h=>?_);unfold fy at h;refine ae (sr ?_);iterate 2 refine mq ?_
  refine ol dw ?_;refine jb (bp rfl) ?_;refine nt (ci h (fun h=>?_) (fun h=>?_))
  ·refine sk (aN (Z:=(Value×(Nat→Value))) (α:=(List Int)×Int×Int×(List Int)×(List (List Int))) (fun X u=>[(0,Pt e),(3,Pt b1),(5,.eq X.1),(6,.eq v6),(7,Ri r7.1),(8,I j.2.2.2.2.1)]) (fun X u=>[.obj e 75 (.agg (.pair (Ri u.1) (.pair (I u.2.1) (.eq (.int .u64 u.2.2.1))))),.obj b1 25 (.rep av a1),.sl v6 3 (.int .i64) u.2.2.2.1]++fK 23 X u.2.2.2.2) h (fun K h=>?_) (fun X u h=>?_))
   ·refine ao (sr ?_);iterate 2 refine mq ?_
    refine fr 2 ?_;refine ka (dh rfl rfl dw) ?_;obtain⟨UP,UG,h⟩:=aa h;refine jb (eK rfl UG) ?_;obtain⟨c,UK,h⟩:=aa h;refine fr 1 ?_;refine kb (ap [.tmp 31,.tmp 34] rfl rfl yB rfl (cY k (j.1,j.2.1,j.2.2.1) e UP c UK)) ?_;refine aq (nt (sr ?_));refine cq (nt (ao ?_));refine aK (Z:=(Value×(Nat→Value))) (α:=Int×(List (List Int))) (fun E y=>[(0,Pt e),(3,Pt b1),(5,.eq E.1),(6,.eq v6),(7,Ri r7.1),(8,I j.2.2.2.2.1),(9,I c.1),(10,I y.1)]) (fun E y=>[.obj e 75 (.agg (.pair (Ri c.2.1) (.pair (I c.2.2.1) (.eq (.int .u64 c.2.2.2))))),.obj b1 25 (.rep av a1),.sl v6 3 (.int .i64) j.2.2.2.1]++fK 23 E y.2) (dz k a1 r7 j c) k Q (0,j.2.2.2.2.2) (fun _=>rfl) h (bv [.obj e 75 (.agg (.pair (Ri c.2.1) (.pair (I c.2.2.1) (.eq (.int .u64 c.2.2.2))))),.sl v6 3 (.int .i64) j.2.2.2.1,.obj b1 25 (.rep av a1)] (fK 23 Q j.2.2.2.2.2) [0,2,1] ⟨rfl,rfl,rfl,rfl,rfl,rfl,rfl,rfl,trivial⟩ rfl) (fun n E y h=>?_);unfold dz at h;refine ae (sr ?_);iterate 2 refine mq ?_
    refine fr 2 ?_;refine ka (dh rfl rfl dw) ?_;refine jb (bp rfl) ?_;refine nt (ci h (fun h=>?_) (fun h=>?_))
    ·refine sk (ae (ao (sr ?_)));iterate 2 refine mq ?_
     obtain⟨UO,UF,h⟩:=aa h;refine jb (bf rfl UF) ?_;refine mq ?_;refine ka (dh rfl rfl dw) ?_;obtain⟨s,UJ,h⟩:=aa h;refine jb (ap [.tmp 44,.tmp 46] rfl rfl Ss rfl (Am k UO (j.2.2.2.1.length:Int) s UJ)) ?_;refine aq (nt ?_);refine aN (Z:=(Value×(Nat→Value))) (α:=Bool×(List (List Int))) (fun l x=>[(0,Pt e),(3,Pt b1),(5,.eq l.1),(6,.eq v6),(7,Ri r7.1),(8,I j.2.2.2.2.1),(9,I c.1),(10,I y.1),(11,I s),(68,.eq (.bool x.1))]) (fun l x=>[.obj e 75 (.agg (.pair (Ri c.2.1) (.pair (I c.2.2.1) (.eq (.int .u64 c.2.2.2))))),.obj b1 25 (.rep av a1),.sl v6 3 (.int .i64) j.2.2.2.1]++fK 23 l x.2) h (fun K h=>?_) (fun l x h=>?_)
     ·refine bz ?_;refine dm ?_;refine dm ?_;obtain⟨Vw,mc,h⟩:=aa h;refine eb 0 (aZ (t:=(.int .i64)) rfl dw cm mc) ?_;refine ea 0 (dX (i:=Int.toNat s) (off:=0) rfl cm (fun _=>rfl) rfl (cC mc).2.2 rfl) ?_;refine da (ar rfl bT) ?_;refine ea 2 (aj rfl eX jo rfl) ?_;refine dm ?_;refine dm ?_;obtain⟨Vv,UE,h⟩:=aa h;refine db (aA (t:=(.int .i64)) rfl dw cm UE) ?_;refine da (ak (t:=(.int .i64)) rfl cm rfl) ?_;obtain⟨Vu,UD,h⟩:=aa h;refine db (aA (t:=aY) rfl mD j7 UD) ?_;refine da (aJ 1 false rfl kL rfl) ?_;refine da (ak (t:=(.int .i64)) rfl cm rfl) ?_;refine db (pe rfl) ?_;refine jH rfl rfl rfl (aH rfl) ⟨rfl,trivial⟩ (fun hb=>?_) (fun hb=>?_)
      ·replace h:=cF (oH hb) h;iterate 4 refine dg ?_
       refine df cp ?_;refine gn ?_;refine pt (nl ?_);exact jf (E,(true,y.2)) h (bv [.sl v6 3 (.int .i64) j.2.2.2.1,.obj e 75 (.agg (.pair (Ri c.2.1) (.pair (I c.2.2.1) (.eq (.int .u64 c.2.2.2))))),.obj b1 25 (.rep av a1)] (fK 23 E y.2) [1,2,0] ⟨rfl,rfl,rfl,rfl,rfl,rfl,rfl,rfl,rfl,rfl,trivial⟩ rfl)
      ·replace h:=bN (nL hb) h;refine aR rfl rfl rfl rfl rfl (aH rfl) ⟨rfl,rfl,trivial⟩ ?_;refine aR rfl rfl rfl rfl rfl (aH rfl) ⟨rfl,rfl,trivial⟩ ?_;refine jG 0 rfl rfl rfl rfl rfl rfl (dh rfl rfl dw) ⟨rfl,rfl,trivial⟩ ?_;obtain⟨UN,UC,h⟩:=aa h;refine aR rfl rfl rfl rfl rfl (eK rfl UC) ⟨rfl,rfl,rfl,trivial⟩ ?_;refine df cp ?_;refine gb (fM rfl) ?_;refine pf (nl ?_);exact jf (E,(decide (y.1=UN),y.2)) h (bv [.sl v6 3 (.int .i64) j.2.2.2.1,.obj e 75 (.agg (.pair (Ri c.2.1) (.pair (I c.2.2.1) (.eq (.int .u64 c.2.2.2))))),.obj b1 25 (.rep av a1)] (fK 23 E y.2) [1,2,0] ⟨rfl,rfl,rfl,rfl,rfl,rfl,rfl,rfl,rfl,rfl,trivial⟩ rfl)
     ·refine cv h (fun h=>?_) (fun h=>?_)
      ·refine ae ?_;obtain⟨O,J,h⟩:=aa h;refine dW (tU (pre:=[.obj e 75 (.agg (.pair (Ri c.2.1) (.pair (I c.2.2.1) (.eq (.int .u64 c.2.2.2))))),.obj b1 25 (.rep av a1),.sl v6 3 (.int .i64) j.2.2.2.1]) (qe J).2) ?_;obtain⟨M,UB,h⟩:=aa h;obtain⟨V0,UH,h⟩:=aa h;obtain⟨Vt,ac,h⟩:=aa h;obtain⟨Vs,UA,h⟩:=aa h;obtain⟨Vr,Uz,h⟩:=aa h;obtain⟨U,Uy,h⟩:=aa h;obtain⟨Vq,Y,h⟩:=aa h;refine sK (Δ:=[.sl (l.2 (Int.toNat s)) 3 (.int .i64) O,.sl l.1 23 .val (eG l.2 0 x.2),.obj e 75 (.agg (.pair (Ri c.2.1) (.pair (I c.2.2.1) (.eq (.int .u64 c.2.2.2))))),.obj b1 25 (.rep av a1),.sl v6 3 (.int .i64) j.2.2.2.1]) (F:=(kV l.2 0 x.2).eraseIdx (Int.toNat s)) (Z:=Value) (fun i=>[(0,Pt e),(3,Pt b1),(5,.eq l.1),(6,.eq v6),(7,Ri r7.1),(8,I j.2.2.2.2.1)]) (fun i=>[.sl v6 3 (.int .i64) (List.set j.2.2.2.1 (Int.toNat s) U),.sl l.1 23 .val (List.set (eG l.2 0 x.2) (Int.toNat s) i),.sl i 3 (.int .i64) (O++[M]),.obj e 75 (.agg (.pair (Ri c.2.1) (.pair (I c.2.2.1) (.eq (.int .u64 c.2.2.2))))),.obj b1 25 (.rep av a1)]) (fun S w=>?_) (fun D=>?_)
       ·refine jy ?_;refine aI rfl rfl rfl (aH rfl) ⟨rfl,trivial⟩ ?_;refine aI rfl rfl rfl (aH rfl) ⟨rfl,trivial⟩ ?_;refine aI rfl rfl rfl (aH rfl) ⟨rfl,trivial⟩ ?_;refine aI rfl rfl rfl (aH rfl) ⟨rfl,trivial⟩ ?_;refine aI rfl rfl rfl (aH rfl) ⟨rfl,trivial⟩ ?_;refine aI rfl rfl rfl (aH rfl) ⟨rfl,trivial⟩ ?_;refine dp 1 rfl rfl rfl rfl (aZ (t:=.val) rfl lw bF (kR J)) ⟨rfl,rfl,trivial⟩ ?_;refine dp 1 rfl rfl rfl rfl (dX (i:=Int.toNat s) (off:=0) rfl bF (fun _=>rfl) rfl (cC (kR J)).2.2 rfl) ⟨rfl,trivial⟩ ?_;refine aI rfl rfl rfl (aH rfl) ⟨rfl,trivial⟩ ?_;refine aI rfl rfl rfl (aH rfl) ⟨rfl,trivial⟩ ?_;refine aI rfl rfl rfl (aA (t:=(.int .i64)) rfl dw cm UB) ⟨rfl,rfl,trivial⟩ ?_;refine aI rfl rfl rfl (ak (t:=(.int .i64)) rfl cm rfl) ⟨rfl,trivial⟩ ?_;refine aI rfl rfl rfl (bj (t:=(.int .i64)) [(.tmp 80,_)] [M] rfl rfl dI (.cons rfl .int .nil) rfl rfl) ⟨rfl,trivial⟩ ?_;refine sL 0 rfl (fun v=>[.sl v 3 (.int .i64) (O++[M])]) (fun _=>rfl) rfl rfl rfl (bI rfl rfl dI (aC UH)) ⟨rfl,rfl,trivial⟩ ?_;refine aI rfl rfl rfl (aH rfl) ⟨rfl,trivial⟩ ?_;refine aI rfl rfl rfl (aH rfl) ⟨rfl,trivial⟩ ?_;refine dp 4 rfl rfl rfl rfl (aZ (t:=(.int .i64)) rfl dw cm ac) ⟨rfl,rfl,trivial⟩ ?_;refine dp 4 rfl rfl rfl rfl (dX (i:=Int.toNat s) (off:=0) rfl cm (fun _=>rfl) rfl (cC ac).2.2 rfl) ⟨rfl,trivial⟩ ?_;refine aI rfl rfl rfl (ar rfl bT) ⟨rfl,trivial⟩ ?_;refine dp 3 rfl rfl rfl rfl (aj rfl eX jo rfl) ⟨rfl,trivial⟩ ?_;refine aI rfl rfl rfl (aH rfl) ⟨rfl,trivial⟩ ?_;refine aI rfl rfl rfl (aH rfl) ⟨rfl,trivial⟩ ?_;refine aI rfl rfl rfl (aA (t:=(.int .i64)) rfl dw cm UA) ⟨rfl,rfl,trivial⟩ ?_;refine aI rfl rfl rfl (ak (t:=(.int .i64)) rfl cm rfl) ⟨rfl,trivial⟩ ?_;refine aI rfl rfl rfl (aA (t:=aY) rfl mD j7 Uz) ⟨rfl,rfl,trivial⟩ ?_;refine aI rfl rfl rfl (aJ 1 false rfl kL rfl) ⟨rfl,trivial⟩ ?_;refine aI rfl rfl rfl (ak (t:=(.int .i64)) rfl cm rfl) ⟨rfl,trivial⟩ ?_;refine aI rfl rfl rfl (eK rfl Uy) ⟨rfl,rfl,trivial⟩ ?_;refine dp 1 rfl rfl rfl rfl (aZ (t:=.val) rfl lw bF (kR J)) ⟨rfl,rfl,trivial⟩ ?_;refine my 29 [true,true,false,false,true,true,true,true,true,true,true,true,true,true,true,true,true,true,true,true,true,true,true,true,true,true,true,false,true] [98] [] [] rfl (by kernel_rfl) (by kernel_rfl) (by kernel_rfl) cp (fun vs hv hB=>?_);obtain⟨w0,VZ,rfl,UY⟩:=an hv;obtain⟨w1,VY,rfl,UX⟩:=an UY;obtain⟨w2,VX,rfl,UW⟩:=an UX;obtain⟨w3,VV,rfl,UV⟩:=an UW;obtain⟨w4,VU,rfl,UU⟩:=an UV;obtain⟨w5,VT,rfl,UT⟩:=an UU;obtain⟨w6,VS,rfl,US⟩:=an UT;obtain⟨w7,VQ,rfl,UR⟩:=an US;obtain⟨w8,VP,rfl,UQ⟩:=an UR;obtain⟨w9,Vp,rfl,Uu⟩:=an UQ;obtain⟨VO,Vo,rfl,Ut⟩:=an Uu;obtain⟨VN,Vn,rfl,Us⟩:=an Ut;obtain⟨VM,Vm,rfl,Ur⟩:=an Us;obtain⟨D,Vl,rfl,Up⟩:=an Ur;obtain⟨VL,Vk,rfl,Uo⟩:=an Up;obtain⟨VK,Vj,rfl,Un⟩:=an Uo;obtain⟨VJ,Vi,rfl,Um⟩:=an Un;obtain⟨VI,Vh,rfl,Ul⟩:=an Um;obtain⟨VH,Vg,rfl,Uk⟩:=an Ul;obtain⟨VG,Vf,rfl,Uj⟩:=an Uk;obtain⟨VF,Ve,rfl,Ui⟩:=an Uj;obtain⟨VE,Vd,rfl,Uh⟩:=an Ui;obtain⟨VD,Vb,rfl,Ug⟩:=an Uh;obtain⟨VC,Va,rfl,Uf⟩:=an Ug;obtain⟨VB,U8,rfl,Ue⟩:=an Uf;obtain⟨VA,U7,rfl,Ud⟩:=an Ue;obtain⟨Vz,U6,rfl,se⟩:=an Ud
        obtain⟨Vy,U4,rfl,qt⟩:=an se;obtain⟨Vx,U2,rfl,pp⟩:=an qt;obtain rfl:=kl pp;refine⟨[0,1,2,3,4],[.sl l.1 23 .val (eG l.2 0 x.2),.obj e 75 (.agg (.pair (Ri c.2.1) (.pair (I c.2.2.1) (.eq (.int .u64 c.2.2.2))))),.obj b1 25 (.rep av a1),.sl v6 3 (.int .i64) j.2.2.2.1,.sl D 3 (.int .i64) (O++[M])],by kernel_rfl,by decide,?_⟩;refine iY 4 rfl ?_;refine C0 fun o34=>?_;refine iY 1 rfl ?_;refine ot rfl rfl (cR (i:=Int.toNat s) rfl bF rfl (ib (kR J)) rfl (.val o34) o34) ⟨rfl,rfl,trivial⟩ (by kernel_rfl) ?_;refine iY 4 rfl ?_;refine vZ rfl rfl rfl rfl (aZ (t:=(.int .i64)) rfl dw cm Y) ⟨rfl,rfl,trivial⟩ (by kernel_rfl) ?_;refine ot rfl rfl (cR (i:=Int.toNat s) rfl cm rfl (ib Y) rfl .int rfl) ⟨rfl,rfl,trivial⟩ (by kernel_rfl) ?_;refine pJ ?_;refine bu (SE.fin (Γ':=[(0,Pt e),(3,Pt b1),(5,.eq l.1),(6,.eq v6),(7,Ri r7.1),(8,I j.2.2.2.2.1)]) (Δ':=[.sl v6 3 (.int .i64) (List.set j.2.2.2.1 (Int.toNat s) U),.sl l.1 23 .val (List.set (eG l.2 0 x.2) (Int.toNat s) D),.sl D 3 (.int .i64) (O++[M]),.obj e 75 (.agg (.pair (Ri c.2.1) (.pair (I c.2.2.1) (.eq (.int .u64 c.2.2.2))))),.obj b1 25 (.rep av a1)]) [0,1,2,3,4] ⟨rfl,rfl,rfl,rfl,rfl,rfl,trivial⟩ rfl) ?_;exact fun a w st=>⟨rfl,(D),(SE.fin (Γ':=[(0,Pt e),(3,Pt b1),(5,.eq l.1),(6,.eq v6),(7,Ri r7.1),(8,I j.2.2.2.2.1)]) (Δ':=[.sl v6 3 (.int .i64) (List.set j.2.2.2.1 (Int.toNat s) U),.sl l.1 23 .val (List.set (eG l.2 0 x.2) (Int.toNat s) D),.sl D 3 (.int .i64) (O++[M]),.obj e 75 (.agg (.pair (Ri c.2.1) (.pair (I c.2.2.1) (.eq (.int .u64 c.2.2.2))))),.obj b1 25 (.rep av a1)]) [0,1,2,3,4] ⟨rfl,rfl,rfl,rfl,rfl,rfl,trivial⟩ rfl) a w st⟩
       ·show JN _ _ [(0,Pt e),(3,Pt b1),(5,.eq l.1),(6,.eq v6),(7,Ri r7.1),(8,I j.2.2.2.2.1)] ([.sl v6 3 (.int .i64) (List.set j.2.2.2.1 (Int.toNat s) U),.sl l.1 23 .val (List.set (eG l.2 0 x.2) (Int.toNat s) D),.sl D 3 (.int .i64) (O++[M]),.obj e 75 (.agg (.pair (Ri c.2.1) (.pair (I c.2.2.1) (.eq (.int .u64 c.2.2.2))))),.obj b1 25 (.rep av a1)]++(kV l.2 0 x.2).eraseIdx (Int.toNat s));refine dn 1 rfl ?_;refine dn 2 rfl ?_;refine bu (vW (pre:=[.sl v6 3 (.int .i64) (List.set j.2.2.2.1 (Int.toNat s) U),.obj e 75 (.agg (.pair (Ri c.2.1) (.pair (I c.2.2.1) (.eq (.int .u64 c.2.2.2))))),.obj b1 25 (.rep av a1)]) (z:=l) (i:=Int.toNat s) (qe J).2) ?_;refine tn (dC (A0 (eq_false (by decide)) ?_));refine aU (aU (bU (bn ?_)));exact jf ((l.1,nn l.2 (Int.toNat s) D),(c.2.1,c.2.2.1,c.2.2.2,List.set j.2.2.2.1 (Int.toNat s) U,List.set x.2 (Int.toNat s) (O++[M]))) h (bv [.sl v6 3 (.int .i64) (List.set j.2.2.2.1 (Int.toNat s) U),.obj e 75 (.agg (.pair (Ri c.2.1) (.pair (I c.2.2.1) (.eq (.int .u64 c.2.2.2))))),.obj b1 25 (.rep av a1)] (fK 23 (l.1,nn l.2 (Int.toNat s) D) (List.set x.2 (Int.toNat s) (O++[M]))) [1,2,0] ⟨rfl,rfl,rfl,rfl,rfl,rfl,trivial⟩ rfl)
      ·refine aW (aM (tn (ab (mq ?_))));obtain⟨UM,Ux,h⟩:=aa h;refine jb (bf rfl Ux) ?_;refine aq (nl ?_);exact jf (l,(UM,x.2)) h (bv [.obj e 75 (.agg (.pair (Ri c.2.1) (.pair (I c.2.2.1) (.eq (.int .u64 c.2.2.2))))),.obj b1 25 (.rep av a1),.sl v6 3 (.int .i64) j.2.2.2.1] (fK 23 l x.2) [0,1,2] ⟨rfl,rfl,rfl,rfl,rfl,rfl,rfl,rfl,trivial⟩ rfl)
    ·refine dC (aU (aU (bU (bn ?_))));exact jf (E,(c.2.1,c.2.2.1,c.2.2.2,j.2.2.2.1,y.2)) h (bv [.sl v6 3 (.int .i64) j.2.2.2.1,.obj e 75 (.agg (.pair (Ri c.2.1) (.pair (I c.2.2.1) (.eq (.int .u64 c.2.2.2))))),.obj b1 25 (.rep av a1)] (fK 23 E y.2) [1,2,0] ⟨rfl,rfl,rfl,rfl,rfl,rfl,trivial⟩ rfl)
   ·refine ab (mq ?_);obtain⟨UL,Uw,h⟩:=aa h;refine jb (bf rfl Uw) ?_;refine aq (nl ?_);exact jf (X,(u.1,u.2.1,u.2.2.1,u.2.2.2.1,UL,u.2.2.2.2)) h (bv [.obj e 75 (.agg (.pair (Ri u.1) (.pair (I u.2.1) (.eq (.int .u64 u.2.2.1))))),.obj b1 25 (.rep av a1),.sl v6 3 (.int .i64) u.2.2.2.1] (fK 23 X u.2.2.2.2) [0,1,2] ⟨rfl,rfl,rfl,rfl,rfl,rfl,trivial⟩ rfl)
  ·refine xa ?_;exact jf (Q,(j.1,j.2.1,j.2.2.1,j.2.2.2.2.2)) h (bv [.obj e 75 (.agg (.pair (Ri j.1) (.pair (I j.2.1) (.eq (.int .u64 j.2.2.1))))),.obj b1 25 (.rep av a1),.sl v6 3 (.int .i64) j.2.2.2.1] (fK 23 Q j.2.2.2.2.2) [0] ⟨rfl,trivial⟩ rfl)
 ·
  refine sr (mq ?_);refine aq (nt (ay ?_));refine bu (AU (pre:=[.obj e 75 (.agg (.pair (Ri x8.1) (.pair (I x8.2.1) (.eq (.int .u64 x8.2.2.1)))))])) ?_;refine bu (eR [4,5,99] ⟨rfl,rfl,rfl,trivial⟩) ?_;cases h;exact aL () [_] 1 ⟨rfl,trivial⟩ rfl
def fB(k:Nat)(a0:Int)(a1:Int)(a2:Int):Option Bool:=
 ((if a1≤a0 then(some (decide (a0≤a2))) else(some false)):Option (Bool)).bind fun x1=>
 some x1
theorem gg(k:Nat)(a0:Int)(a1:Int)(a2:Int)(r:Bool)(h:fB k a0 a1 a2=some r):
 bX Tryz.prog 60 [I a0,I a1,I a2] [] (fun _:Unit=>(bq [.eq (.bool r)],[])):=by
 unfold fB at h
 replace h:=a8 h
 refine bX.of 15 Tryz.func60 rfl Tryz.ntmps60 rfl fun S w0=>?_
 refine sr ?_
 refine cq ?_
 refine nt ?_
 refine aN (Z:=Unit) (α:=Bool) (fun z2 x1=>[(6,.eq (.bool x1))]) (fun z2 x1=>[]) h (fun K h=>?_) (fun z2 x1 h=>?_)
 ·
  refine ab ?_;iterate 2 refine mq ?_
  refine jb (pe rfl) ?_;refine mq ?_;refine cu (s:=10) rfl (fun hb=>?_) (fun hb=>?_)
  ·replace h:=cF (oH hb) h;refine gm ?_;refine gm ?_;refine gb (vp rfl) ?_;refine pt ?_;refine aq (nl ?_);exact jz ((),decide (a0≤a2)) h []
  ·replace h:=bN (nL hb) h;iterate 3 refine gn ?_
   refine pf ?_;refine aq (nl ?_);exact jz ((),false) h []
 ·
  refine ay ?_;cases h;exact ra
def f5(k:Nat)(a0:aO)(e:eO):Nat→Int→Option (Except Int Unit)
 |0,_=>none
 |n+1,c=>
  if c < (e.2.length:Int) then((aQ e.2 c).bind fun x=>
  (ck (a0.1 - 1)).bind fun u=>
  (fB k x 0 u).bind fun y=>
  if¬(y=true) then(some (.error 1)) else(((if 0 < c then((aQ e.2 c).bind fun r=>
  (ck (c - 1)).bind fun l=>
  (aQ e.2 l).bind fun j=>
  some (decide (r≤j))) else(some false)):Option (Bool)).bind fun s=>
  if s=true then(some (.error 5)) else((ck (c+1)).bind fun h=>
  f5 k a0 e n h))) else(some (.ok ()))
def f6(k:Nat)(a0:aO):Nat→Int→Option (Except Int Unit)
 |0,_=>none
 |n+1,y5=>
  if y5 < (a0.2.1.length:Int) then(bE (α:=Unit) ((aQ a0.2.1 y5).bind fun x9=>
  (fB k x9.1 1 3).bind fun j=>
  if¬(j=true) then(some (.error 1)) else((aQ a0.2.1 y5).bind fun h=>
  f5 k a0 h k 0)) (fun e=>some (.error e)) fun _=>
  (ck (y5+1)).bind fun c=>
  f6 k a0 n c) else(some (.ok ()))
def f4(k:Nat)(a0:aO):Nat→Int→Option (Except Int Unit)
 |0,_=>none
 |n+1,c=>
  if c < (a0.2.2.length:Int) then((aQ a0.2.2 c).bind fun h=>
  (fB k h 0 9).bind fun j=>
  if¬(j=true) then(some (.error 1)) else((ck (c+1)).bind fun e=>
  f4 k a0 n e)) else(some (.ok ()))
def nq(k:Nat)(a0:aO):Option Int:=
 (fB k a0.1 1 6).bind fun r2=>
 if¬(r2=true) then(some 1) else(if 5 < (a0.2.1.length:Int) then(some 6) else(bE (α:=Unit) (f6 k a0 k 0) (some) fun _=>
 if(a0.2.2.length:Int)=0 then(some 7) else(if 3 < (a0.2.2.length:Int) then(some 6) else(bE (α:=Unit) (f4 k a0 k 0) (some) fun _=>
 some 0))))
theorem xZ(k:Nat)(a0:aO)(r:Int)(h:nq k a0=some r):
 bX Tryz.prog 21 [.rep av a0] [] (fun _:Unit=>(bq [I r],[])):=by
 unfold nq at h
 replace h:=a8 h
 refine bX.of 87 Tryz.func21 rfl Tryz.ntmps21 rfl fun S w0=>?_
 refine sr ?_
 refine bx fun b1=>?_
 refine cq ?_
 refine nt ?_
 refine ae ?_
 refine sr ?_
 refine fl fD ?_
 refine lo cm ?_
 obtain⟨r2,Up,h⟩:=aa h
 have Ur:=gg k a0.1 1 6 r2 Up
 refine jc (ap [.tmp 8,.const (.int .i64 (1)),.const (.int .i64 (6))] rfl rfl CN rfl Ur) ?_
 refine ja (dT rfl) ?_
 refine nt ?_
 refine cw h (fun h=>?_) (fun h=>?_)
 ·
  refine sr (cq (nt (rx ?_)));cases h;exact ra
 ·
  refine sk (ae (sr (fl bT ?_)));refine lo eX ?_;refine ol mD ?_;refine jb (iC rfl) ?_;refine nt (ci h (fun h=>?_) (fun h=>?_))
  ·refine sr (cq (nt (rx ?_)));cases h;exact ra
  ·refine sk (dN (Z:=Unit) (α:=Unit) (fun z4 x3=>[(1,Pt b1)]) (fun z4 x3=>[.obj b1 25 (.rep av a0)]) (fun e=>e=r) h (fun e h=>Option.some.inj h) (fun K hR h=>?_) (fun z4 x3 h=>?_))
   ·refine sr (cq (nt (ao ?_)));refine aK (fun z6 y5=>[(1,Pt b1),(3,I y5)]) (fun z6 y5=>[.obj b1 25 (.rep av a0)]) (f6 k a0) k () 0 (fun _=>rfl) h (SE.fin [0] ⟨rfl,rfl,trivial⟩ rfl) (fun n z6 y5 h=>?_);unfold f6 at h;refine ae (sr (mq ?_));refine fl bT ?_;refine lo eX ?_;refine ol mD ?_;refine jb (bp rfl) ?_;refine nt (ci h (fun h=>?_) (fun h=>?_))
    ·refine sk (dN (Z:=Unit) (α:=Unit) (fun z8 x7=>[(1,Pt b1),(3,I y5)]) (fun z8 x7=>[.obj b1 25 (.rep av a0)]) (fun e=>e=r) h (fun e h=>hR e h) (fun K hR h=>?_) (fun z8 x7 h=>?_))
     ·refine ao (ae (sr (fl bT ?_)));refine lo eX ?_;refine mq ?_;obtain⟨x9,Uo,h⟩:=aa h;refine jb (aA (t:=aY) rfl mD j7 Uo) ?_;refine ja (aJ 1 false rfl kL rfl) ?_;refine ja (ak (t:=(.int .i64)) rfl cm rfl) ?_;obtain⟨Un,se,h⟩:=aa h;refine jc (ap [.tmp 27,.const (.int .i64 (1)),.const (.int .i64 (3))] rfl rfl CN rfl (gg k x9.1 1 3 Un se)) ?_;refine ja (dT rfl) ?_;refine nt (cw h (fun h=>?_) (fun h=>?_))
      ·refine sr (cq (nt (rx (br (bi (aV ?_))))));obtain rfl:=hR _ h;exact ra
      ·refine sk (sr (fl bT ?_));refine lo eX ?_;refine mq ?_;obtain⟨s,mc,h⟩:=aa h;refine jb (aA (t:=aY) rfl mD j7 mc) ?_;refine ja (aJ 1 false rfl ku rfl) ?_;refine ja (ak (t:=(.slice (.int .i64))) rfl bF rfl) ?_;refine aq (nt (sr ?_));refine cq (nt (ao ?_));refine aK (fun D c=>[(1,Pt b1),(3,I y5),(4,Ri s.2),(5,I c)]) (fun D c=>[.obj b1 25 (.rep av a0)]) (f5 k a0 s) k () 0 (fun _=>rfl) h (SE.fin [0] ⟨rfl,rfl,rfl,rfl,trivial⟩ rfl) (fun n D c h=>?_);unfold f5 at h;refine ae (sr ?_);iterate 2 refine mq ?_
       refine ol dw ?_;refine jb (bp rfl) ?_;refine nt (ci h (fun h=>?_) (fun h=>?_))
       ·refine sk (ae (ao (ae (ae (bz ?_)))));refine dm ?_;refine dm ?_;obtain⟨Uk,ac,h⟩:=aa h;refine db (aA (t:=(.int .i64)) rfl dw cm ac) ?_;refine da (ak (t:=(.int .i64)) rfl cm rfl) ?_;refine da (ar rfl fD) ?_;refine ea 0 (aj rfl cm jo rfl) ?_;obtain⟨Uj,Y,h⟩:=aa h;refine db (eK rfl Y) ?_;refine df cp ?_;obtain⟨Um,qt,h⟩:=aa h;refine jc (ap [.tmp 45,.const (.int .i64 (0)),.tmp 48] rfl rfl CN rfl (gg k Uk 0 Uj Um qt)) ?_;refine ja (dT rfl) ?_;refine nt (cw h (fun h=>?_) (fun h=>?_))
        ·refine sr (cq (nt (rx (br (bi (br (bi (aV ?_))))))));obtain rfl:=hR _ h;exact ra
        ·refine sk (aN (Z:=Unit) (α:=Bool) (fun y l=>[(1,Pt b1),(3,I y5),(4,Ri s.2),(5,I c),(64,.eq (.bool l))]) (fun y l=>[.obj b1 25 (.rep av a0)]) h (fun K h=>?_) (fun y l h=>?_))
         ·refine bz ?_;refine dm ?_;refine db (iC rfl) ?_;refine jH rfl rfl rfl (aH rfl) ⟨rfl,trivial⟩ (fun hb=>?_) (fun hb=>?_)
          ·replace h:=cF (oH hb) h;refine aR rfl rfl rfl rfl rfl (aH rfl) ⟨rfl,rfl,trivial⟩ ?_;refine aR rfl rfl rfl rfl rfl (aH rfl) ⟨rfl,rfl,trivial⟩ ?_;obtain⟨Ui,X,h⟩:=aa h;refine aR rfl rfl rfl rfl rfl (aA (t:=(.int .i64)) rfl dw cm X) ⟨rfl,rfl,rfl,trivial⟩ ?_;refine aR rfl rfl rfl rfl rfl (ak (t:=(.int .i64)) rfl cm rfl) ⟨rfl,rfl,trivial⟩ ?_;refine aR rfl rfl rfl rfl rfl (aH rfl) ⟨rfl,rfl,trivial⟩ ?_;refine aR rfl rfl rfl rfl rfl (aH rfl) ⟨rfl,rfl,trivial⟩ ?_;obtain⟨Us,U,h⟩:=aa h;refine aR rfl rfl rfl rfl rfl (eK rfl U) ⟨rfl,rfl,rfl,trivial⟩ ?_;obtain⟨Uh,Q,h⟩:=aa h;refine aR rfl rfl rfl rfl rfl (aA (t:=(.int .i64)) rfl dw cm Q) ⟨rfl,rfl,rfl,trivial⟩ ?_;refine aR rfl rfl rfl rfl rfl (ak (t:=(.int .i64)) rfl cm rfl) ⟨rfl,rfl,trivial⟩ ?_;refine df cp ?_;refine gb (vp rfl) ?_;refine pt (nl ?_);exact jz ((),decide (Ui≤Uh)) h [0]
          ·replace h:=bN (nL hb) h;iterate 9 refine dg ?_
           refine df cp ?_;refine gn ?_;refine pf (nl ?_);exact jz ((),false) h [0]
         ·refine cv h (fun h=>?_) (fun h=>?_)
          ·refine sr (cq (nt (ay (br (bi (br (bi (aV ?_))))))));obtain rfl:=hR _ h;exact ra
          ·refine aW (aM (tn (ab (mq ?_))));obtain⟨Ug,O,h⟩:=aa h;refine jb (bf rfl O) ?_;refine aq (nl ?_);exact jz ((),Ug) h [0]
       ·refine dC (aU (aU (bU (bn ?_))));exact jz ((),()) h [0]
     ·refine ab (mq ?_);obtain⟨Uf,M,h⟩:=aa h;refine jb (bf rfl M) ?_;refine aq (nl ?_);exact jz ((),Uf) h [0]
    ·refine xa ?_;exact jz ((),()) h [0]
   ·refine ae (sr (fl cJ ?_));refine lo bF ?_;refine ol dw ?_;refine jb (fM rfl) ?_;refine nt (ci h (fun h=>?_) (fun h=>?_))
    ·refine sr (cq (nt (rx ?_)));cases h;exact ra
    ·refine sk (ae (sr (fl cJ ?_)));refine lo bF ?_;refine ol dw ?_;refine jb (iC rfl) ?_;refine nt (ci h (fun h=>?_) (fun h=>?_))
     ·refine sr (cq (nt (rx ?_)));cases h;exact ra
     ·refine sk (dN (Z:=Unit) (α:=Unit) (fun x E=>[]) (fun x E=>[]) (fun e=>e=r) h (fun e h=>Option.some.inj h) (fun K hR h=>?_) (fun x E h=>?_))
      ·refine sr (cq (nt (ao ?_)));refine aK (fun u j=>[(1,Pt b1),(6,I j)]) (fun u j=>[.obj b1 25 (.rep av a0)]) (f4 k a0) k () 0 (fun _=>rfl) h (SE.fin [0] ⟨rfl,rfl,trivial⟩ rfl) (fun n u j h=>?_);unfold f4 at h;refine ae (sr (mq ?_));refine fl cJ ?_;refine lo bF ?_;refine ol dw ?_;refine jb (bp rfl) ?_;refine nt (ci h (fun h=>?_) (fun h=>?_))
       ·refine sk (ae (ao (sr (fl cJ ?_))));refine lo bF ?_;refine mq ?_;obtain⟨Ue,J,h⟩:=aa h;refine jb (aA (t:=(.int .i64)) rfl dw cm J) ?_;refine ja (ak (t:=(.int .i64)) rfl cm rfl) ?_;obtain⟨Ul,pp,h⟩:=aa h;refine jc (ap [.tmp 84,.const (.int .i64 (0)),.const (.int .i64 (9))] rfl rfl CN rfl (gg k Ue 0 9 Ul pp)) ?_;refine ja (dT rfl) ?_;refine nt (cw h (fun h=>?_) (fun h=>?_))
        ·refine sr (cq (nt (ay (br (bi (aV ?_))))));obtain rfl:=hR _ h;exact ra
        ·refine aW (aM (tn (ab (mq ?_))));obtain⟨Ud,F,h⟩:=aa h;refine jb (bf rfl F) ?_;refine aq (nl ?_);exact jz ((),Ud) h [0]
       ·refine xa ?_;exact jz ((),()) h []
      ·refine sr (cq (nt (ay ?_)));cases h;exact ra
def jP(k:Nat)(a0:aO)(a1:Int):Option Bool:=
 (ck ((a0.2.1.length:Int) - 1)).bind fun x2=>
 (fB k a1 0 x2).bind fun r3=>
 some r3
theorem o6(k:Nat)(a0:aO)(a1:Int)(r:Bool)(h:jP k a0 a1=some r):
 bX Tryz.prog 65 [.rep av a0,I a1] [] (fun _:Unit=>(bq [.eq (.bool r)],[])):=by
 unfold jP at h
 replace h:=a8 h
 refine bX.of 11 Tryz.func65 rfl Tryz.ntmps65 rfl fun S w0=>?_
 refine sr ?_
 refine bx fun b1=>?_
 refine cq ?_
 refine nt ?_
 refine sr ?_
 refine mq ?_
 refine fl bT ?_
 refine lo eX ?_
 refine ol mD ?_
 obtain⟨x2,c,h⟩:=aa h
 refine jb (eK rfl c) ?_
 obtain⟨r3,e,h⟩:=aa h
 have j:=gg k a1 0 x2 r3 e
 refine jc (ap [.tmp 5,.const (.int .i64 (0)),.tmp 9] rfl rfl CN rfl j) ?_
 refine aq ?_
 refine nt ?_
 refine ay ?_
 cases h
 exact ra
def iN(k:Nat)(a0:(List Int))(a1:Int):Nat→Int→Option (Except Bool Unit)
 |0,_=>none
 |n+1,y3=>
  if y3 < (a0.length:Int) then((aQ a0 y3).bind fun x5=>
  if x5=a1 then(some (.error true)) else((ck (y3+1)).bind fun x6=>
  iN k a0 a1 n x6)) else(some (.ok ()))
def pT(k:Nat)(a0:(List Int))(a1:Int):Option Bool:=
 bE (α:=Unit) (iN k a0 a1 k 0) (some) fun _=>
 some false
theorem uV(k:Nat)(a0:(List Int))(a1:Int)(r:Bool)(h:pT k a0 a1=some r):
 bX Tryz.prog 66 [Ri a0,I a1] [] (fun _:Unit=>(bq [.eq (.bool r)],[])):=by
 unfold pT at h
 replace h:=a8 h
 refine bX.of 18 Tryz.func66 rfl Tryz.ntmps66 rfl fun S w0=>?_
 refine sr ?_
 refine cq ?_
 refine nt ?_
 refine dN (Z:=Unit) (α:=Unit) (fun z2 x1=>[]) (fun z2 x1=>[]) (fun e=>e=r) h (fun e h=>Option.some.inj h) (fun K hR h=>?_) (fun z2 x1 h=>?_)
 ·
  refine sr (cq (nt (ao ?_)));refine aK (fun z4 y3=>[(0,Ri a0),(1,I a1),(5,I y3)]) (fun z4 y3=>[]) (iN k a0 a1) k () 0 (fun _=>rfl) h (SE.fin [] ⟨rfl,rfl,rfl,trivial⟩ rfl) (fun n z4 y3 h=>?_);unfold iN at h;refine ae (sr ?_);iterate 2 refine mq ?_
  refine ol dw ?_;refine jb (bp rfl) ?_;refine nt (ci h (fun h=>?_) (fun h=>?_))
  ·refine sk (ae (ao (sr ?_)));iterate 2 refine mq ?_
   obtain⟨x5,j,h⟩:=aa h;refine jb (aA (t:=(.int .i64)) rfl dw cm j) ?_;refine ja (ak (t:=(.int .i64)) rfl cm rfl) ?_;refine mq ?_;refine jb (fM rfl) ?_;refine nt (ci h (fun h=>?_) (fun h=>?_))
   ·refine sr (cq (nt (ay (br (bi (aV ?_))))));obtain rfl:=hR _ h;exact ra
   ·refine aW (aM (tn (ab (mq ?_))));obtain⟨x6,c,h⟩:=aa h;refine jb (bf rfl c) ?_;refine aq (nl ?_);exact jz ((),x6) h []
  ·refine xa ?_;exact jz ((),()) h []
 ·
  refine sr (cq (nt (ay ?_)));cases h;exact ra
def ct(k:Nat)(a0:aO)(a1:(List (List Int)))(y5:(List Int)×Int):Nat→((List Int)×Int×Int)→Option (Except Int ((List Int)×Int))
 |0,_=>none
 |n+1,c=>
  (aQ a1 y5.2).bind fun F=>
  if c.2.2 < (F.length:Int) then((aQ a1 y5.2).bind fun E=>
  (aQ E c.2.2).bind fun D=>
  (jP k a0 D).bind fun J=>
  if¬(J=true) then(some (.error 3)) else((aQ a1 y5.2).bind fun y=>
  (aQ y c.2.2).bind fun x=>
  (pT k c.1 x).bind fun I=>
  if I=true then(some (.error 4)) else((aQ a1 y5.2).bind fun u=>
  (aQ u c.2.2).bind fun e=>
  (dE (bQ (List.length c.1+List.length [e]))).bind fun _=>
  (aQ a1 y5.2).bind fun s=>
  (aQ s c.2.2).bind fun r=>
  (aQ a0.2.1 r).bind fun l=>
  (ck (c.2.1+l.1)).bind fun j=>
  (ck (c.2.2+1)).bind fun h=>
  ct k a0 a1 y5 n (c.1++[e],j,h)))) else(some (.ok (c.1,c.2.1)))
def cG(k:Nat)(a0:aO)(a1:(List (List Int))):Nat→((List Int)×Int)→Option (Except Int (List Int))
 |0,_=>none
 |n+1,y5=>
  if y5.2 < (a1.length:Int) then(bE (α:=(List Int)) (bE (α:=(List Int)×Int) (ct k a0 a1 y5 k (y5.1,0,0)) (fun e=>some (.error e)) fun x9=>
  (aQ a0.2.2 y5.2).bind fun h=>
  if h < x9.2 then(some (.error 12)) else(some (.ok x9.1))) (fun e=>some (.error e)) fun x7=>
  (ck (y5.2+1)).bind fun c=>
  cG k a0 a1 n (x7,c)) else(some (.ok y5.1))
def ft(k:Nat)(a0:aO)(a1:(List (List Int))):Option Int:=
 (nq k a0).bind fun r2=>
 if¬(r2=0) then(some r2) else(if(a1.length:Int) < (a0.2.2.length:Int) then(some 7) else(if(a0.2.2.length:Int) < (a1.length:Int) then(some 6) else(bE (α:=(List Int)) (cG k a0 a1 k (([]:(List Int)),0)) (some) fun x3=>
 if(x3.length:Int) < (a0.2.1.length:Int) then(some 7) else(some 0))))
theorem qx(k:Nat)(a0:aO)(a1:(List (List Int)))(r:Int)(h:ft k a0 a1=some r):
 bX Tryz.prog 23 [.rep av a0,.rep (.slice (.slice (.int .i64))) a1] [] (fun _:Unit=>(bq [I r],[])):=by
 unfold ft at h
 replace h:=a8 h
 refine bX.of 98 Tryz.func23 rfl Tryz.ntmps23 rfl fun S w0=>?_
 refine sr ?_
 refine bx fun b1=>?_
 refine cq ?_
 refine nt ?_
 refine ae ?_
 refine sr ?_
 refine lo dj ?_
 obtain⟨r2,UK,h⟩:=aa h
 have UL:=xZ k a0 r2 UK
 refine ja (ap [.tmp 10] rfl rfl S7 rfl UL) ?_
 refine aq ?_
 refine nt ?_
 refine sr ?_
 refine mq ?_
 refine jb (fL rfl) ?_
 refine nt ?_
 refine cn h (fun h=>?_) (fun h=>?_)
 ·
  refine sr (mq ?_);refine aq (nt (rx ?_));cases h;exact ra
 ·
  refine sk (ae (sr (mq ?_)));refine ol lw ?_;refine fl cJ ?_;refine lo bF ?_;refine ol dw ?_;refine jb (bp rfl) ?_;refine nt (ci h (fun h=>?_) (fun h=>?_))
  ·refine sr (cq (nt (rx ?_)));cases h;exact ra
  ·refine sk (ae (sr (mq ?_)));refine ol lw ?_;refine fl cJ ?_;refine lo bF ?_;refine ol dw ?_;refine jb (iC rfl) ?_;refine nt (ci h (fun h=>?_) (fun h=>?_))
   ·refine sr (cq (nt (rx ?_)));cases h;exact ra
   ·refine sk (sr (cq (nt ?_)));refine dN (Z:=Value) (α:=(List Int)) (fun z4 x3=>[(2,Pt b1),(6,.eq z4)]) (fun z4 x3=>[.obj b1 25 (.rep av a0),.sl z4 3 (.int .i64) x3]) (fun e=>e=r) h (fun e h=>Option.some.inj h) (fun K hR h=>?_) (fun z4 x3 h=>?_)
    ·refine sr (cq (nt (ao ?_)));refine dW (SE.nil 3 (.int .i64)) ?_;refine aK (fun z6 y5=>[(1,.rep (.slice (.slice (.int .i64))) a1),(2,Pt b1),(6,.eq z6),(7,I y5.2)]) (fun z6 y5=>[.obj b1 25 (.rep av a0),.sl z6 3 (.int .i64) y5.1]) (cG k a0 a1) k (.slice none 0 0) (([]:(List Int)),0) (fun _=>rfl) h (SE.fin [1,0] ⟨rfl,rfl,rfl,rfl,trivial⟩ rfl) (fun n z6 y5 h=>?_);unfold cG at h;refine ae (sr ?_);iterate 2 refine mq ?_
     refine ol lw ?_;refine jb (bp rfl) ?_;refine nt (ci h (fun h=>?_) (fun h=>?_))
     ·refine sk (dN (Z:=Value) (α:=(List Int)) (fun z8 x7=>[(1,.rep (.slice (.slice (.int .i64))) a1),(2,Pt b1),(6,.eq z8),(7,I y5.2)]) (fun z8 x7=>[.obj b1 25 (.rep av a0),.sl z8 3 (.int .i64) x7]) (fun e=>e=r) h (fun e h=>hR e h) (fun K hR h=>?_) (fun z8 x7 h=>?_))
      ·refine ao (sr (cq (nt ?_)));refine dN (Z:=Value) (α:=(List Int)×Int) (fun l x9=>[(1,.rep (.slice (.slice (.int .i64))) a1),(2,Pt b1),(6,.eq l),(7,I y5.2),(8,I x9.2)]) (fun l x9=>[.obj b1 25 (.rep av a0),.sl l 3 (.int .i64) x9.1]) (fun e=>e=r) h (fun e h=>hR e h) (fun K hR h=>?_) (fun l x9 h=>?_)
       ·refine sr (cq (nt (ao ?_)));refine aK (fun j c=>[(1,.rep (.slice (.slice (.int .i64))) a1),(2,Pt b1),(6,.eq j),(7,I y5.2),(8,I c.2.1),(9,I c.2.2)]) (fun j c=>[.obj b1 25 (.rep av a0),.sl j 3 (.int .i64) c.1]) (ct k a0 a1 y5) k z6 (y5.1,0,0) (fun _=>rfl) h (SE.fin [0,1] ⟨rfl,rfl,rfl,rfl,rfl,rfl,trivial⟩ rfl) (fun n j c h=>?_);unfold ct at h;refine ae (sr ?_);iterate 3 refine mq ?_
        obtain⟨Vb,Up,h⟩:=aa h;refine jb (aA (t:=(.slice (.int .i64))) rfl lw bF Up) ?_;refine ja (ak (t:=(.slice (.int .i64))) rfl bF rfl) ?_;refine ol dw ?_;refine jb (bp rfl) ?_;refine nt (ci h (fun h=>?_) (fun h=>?_))
        ·refine sk (ae (ao (ae (ae (bz ?_)))));refine ea 0 (aj rfl dj (tw) rfl) ?_;refine dm ?_;refine dm ?_;obtain⟨Va,Uo,h⟩:=aa h;refine db (aA (t:=(.slice (.int .i64))) rfl lw bF Uo) ?_;refine da (ak (t:=(.slice (.int .i64))) rfl bF rfl) ?_;refine dm ?_;obtain⟨Uy,Un,h⟩:=aa h;refine db (aA (t:=(.int .i64)) rfl dw cm Un) ?_;refine da (ak (t:=(.int .i64)) rfl cm rfl) ?_;refine df cp ?_;obtain⟨UA,Ut,h⟩:=aa h;refine jb (ap [.tmp 42,.tmp 49] rfl rfl Qb rfl (o6 k a0 Uy UA Ut)) ?_;refine ja (dT rfl) ?_;refine nt (cw h (fun h=>?_) (fun h=>?_))
         ·refine sr (cq (nt (rx (br (bi (aV (br (bi (aV ?_)))))))));obtain rfl:=hR _ h;exact ra
         ·refine sk (ae (sr ?_));iterate 3 refine mq ?_
          obtain⟨U8,Um,h⟩:=aa h;refine jb (aA (t:=(.slice (.int .i64))) rfl lw bF Um) ?_;refine ja (ak (t:=(.slice (.int .i64))) rfl bF rfl) ?_;refine mq ?_;obtain⟨u,Ul,h⟩:=aa h;refine jb (aA (t:=(.int .i64)) rfl dw cm Ul) ?_;refine ja (ak (t:=(.int .i64)) rfl cm rfl) ?_;obtain⟨Uz,Us,h⟩:=aa h;refine fr 1 ?_;refine kb (vX (N:=[(.tmp 52,.eq j),(.tmp 59,I u)]) (ap [.tmp 52,.tmp 59] rfl rfl Qa rfl (uV k c.1 u Uz Us)) (fun _ _ _ hv hn=>⟨(lend hn.1 hv),hn.2.1,trivial⟩) (fun _=>⟨rfl,Az⟩)) ?_;refine nt (cv h (fun h=>?_) (fun h=>?_))
          ·refine sr (cq (nt (rx (br (bi (aV (br (bi (aV ?_)))))))));obtain rfl:=hR _ h;exact ra
          ·refine sk (jy ?_);refine aI rfl rfl rfl (aH rfl) ⟨rfl,trivial⟩ ?_;refine aI rfl rfl rfl (aH rfl) ⟨rfl,trivial⟩ ?_;refine aI rfl rfl rfl (aH rfl) ⟨rfl,trivial⟩ ?_;obtain⟨U7,Uk,h⟩:=aa h;refine aI rfl rfl rfl (aA (t:=(.slice (.int .i64))) rfl lw bF Uk) ⟨rfl,rfl,trivial⟩ ?_;refine aI rfl rfl rfl (ak (t:=(.slice (.int .i64))) rfl bF rfl) ⟨rfl,trivial⟩ ?_;refine aI rfl rfl rfl (aH rfl) ⟨rfl,trivial⟩ ?_;obtain⟨s,Uj,h⟩:=aa h;refine aI rfl rfl rfl (aA (t:=(.int .i64)) rfl dw cm Uj) ⟨rfl,rfl,trivial⟩ ?_;refine aI rfl rfl rfl (ak (t:=(.int .i64)) rfl cm rfl) ⟨rfl,trivial⟩ ?_;refine aI rfl rfl rfl (bj (t:=(.int .i64)) [(.tmp 68,_)] [s] rfl rfl dI (.cons rfl .int .nil) rfl rfl) ⟨rfl,trivial⟩ ?_;obtain⟨VA,Ur,h⟩:=aa h;refine sL 0 rfl (fun v=>[.sl v 3 (.int .i64) (c.1++[s])]) (fun _=>rfl) rfl rfl rfl (bI rfl rfl dI (aC Ur)) ⟨rfl,rfl,trivial⟩ ?_;refine aI rfl rfl rfl (aH rfl) ⟨rfl,trivial⟩ ?_;refine aI rfl rfl rfl (ar rfl bT) ⟨rfl,trivial⟩ ?_;refine dp 1 rfl rfl rfl rfl (aj rfl eX jo rfl) ⟨rfl,trivial⟩ ?_;refine aI rfl rfl rfl (aH rfl) ⟨rfl,trivial⟩ ?_;refine aI rfl rfl rfl (aH rfl) ⟨rfl,trivial⟩ ?_;obtain⟨U6,Ui,h⟩:=aa h;refine aI rfl rfl rfl (aA (t:=(.slice (.int .i64))) rfl lw bF Ui) ⟨rfl,rfl,trivial⟩ ?_;refine aI rfl rfl rfl (ak (t:=(.slice (.int .i64))) rfl bF rfl) ⟨rfl,trivial⟩ ?_;refine aI rfl rfl rfl (aH rfl) ⟨rfl,trivial⟩ ?_;obtain⟨U4,Uh,h⟩:=aa h;refine aI rfl rfl rfl (aA (t:=(.int .i64)) rfl dw cm Uh) ⟨rfl,rfl,trivial⟩ ?_;refine aI rfl rfl rfl (ak (t:=(.int .i64)) rfl cm rfl) ⟨rfl,trivial⟩ ?_;obtain⟨U2,Ug,h⟩:=aa h;refine aI rfl rfl rfl (aA (t:=aY) rfl mD j7 Ug) ⟨rfl,rfl,trivial⟩ ?_;refine aI rfl rfl rfl (aJ 1 false rfl kL rfl) ⟨rfl,trivial⟩ ?_;refine aI rfl rfl rfl (ak (t:=(.int .i64)) rfl cm rfl) ⟨rfl,trivial⟩ ?_;obtain⟨Ux,Uf,h⟩:=aa h;refine aI rfl rfl rfl (bf rfl Uf) ⟨rfl,rfl,trivial⟩ ?_;refine my 24 [true,true,true,true,true,true,true,true,true,true,false,false,false,false,false,false,false,false,false,false,false,false,false,false] [6] [1] [.obj b1 25 (.rep av a0)] rfl (by kernel_rfl) (by kernel_rfl) (by kernel_rfl) cp (fun vs hv hB=>?_);obtain⟨w0,Vz,rfl,UJ⟩:=an hv;obtain⟨w1,Vy,rfl,UI⟩:=an UJ;obtain⟨w2,Vx,rfl,UH⟩:=an UI;obtain⟨w3,Vw,rfl,UG⟩:=an UH;obtain⟨w4,Vv,rfl,UF⟩:=an UG;obtain⟨w5,Vu,rfl,UE⟩:=an UF;obtain⟨w6,Vt,rfl,UD⟩:=an UE;obtain⟨w7,Vs,rfl,UC⟩:=an UD;obtain⟨w8,Vr,rfl,UB⟩:=an UC;obtain⟨x,U0,rfl,qt⟩:=an UB;obtain⟨Vq,UZ,rfl,pp⟩:=an qt;obtain⟨Vp,UY,rfl,mc⟩:=an pp;obtain⟨Vo,UX,rfl,ac⟩:=an mc;obtain⟨Vn,UW,rfl,Y⟩:=an ac;obtain⟨Vm,UV,rfl,X⟩:=an Y;obtain⟨Vl,UU,rfl,U⟩:=an X;obtain⟨Vk,UT,rfl,Q⟩:=an U;obtain⟨Vj,US,rfl,O⟩:=an Q;obtain⟨Vi,UR,rfl,M⟩:=an O;obtain⟨Vh,UQ,rfl,J⟩:=an M;obtain⟨Vg,UP,rfl,F⟩:=an J;obtain⟨Vf,UO,rfl,E⟩:=an F;obtain⟨Ve,UN,rfl,D⟩:=an E;obtain⟨Vd,UM,rfl,y⟩:=an D;obtain rfl:=kl y;refine⟨[0,1],[.sl x 3 (.int .i64) (c.1++[s])],by kernel_rfl,by decide,?_⟩;refine pI rfl rfl rfl rfl (dV rfl) ⟨rfl,trivial⟩ (by kernel_rfl) ?_;refine C3 (by kernel_rfl) ?_;refine aq (au (aM (tn (ab ?_))));refine mq ?_;obtain⟨Uw,Ue,h⟩:=aa h
           refine jb (bf rfl Ue) ?_;refine aq (nl ?_);exact jz (x,(c.1++[s],Ux,Uw)) h [0,1]
        ·refine xa ?_;exact jz (j,(c.1,c.2.1)) h [0,1]
       ·refine sr (mq ?_);refine fl cJ ?_;refine lo bF ?_;refine mq ?_;obtain⟨U1,Ud,h⟩:=aa h;refine jb (aA (t:=(.int .i64)) rfl dw cm Ud) ?_;refine ja (ak (t:=(.int .i64)) rfl cm rfl) ?_;refine jb (iC rfl) ?_;refine nt (ci h (fun h=>?_) (fun h=>?_))
        ·refine sr (cq (nt (ay (br (bi (aV ?_))))));obtain rfl:=hR _ h;exact ra
        ·refine aW (bn ?_);exact jz (l,x9.1) h [0,1]
      ·refine ab (mq ?_);obtain⟨Uu,se,h⟩:=aa h;refine jb (bf rfl se) ?_;refine aq (nl ?_);exact jz (z8,(x7,Uu)) h [0,1]
     ·refine xa ?_;exact jz (z6,y5.1) h [0,1]
    ·refine ae (sr (mq ?_));refine fr 1 ?_;refine ka (dh rfl rfl dw) ?_;refine fl bT ?_;refine fr 1 ?_;refine lo eX ?_;refine ol mD ?_;refine jb (bp rfl) ?_;refine nt (ci h (fun h=>?_) (fun h=>?_))
     ·refine sr (cq (nt (rx ?_)));cases h;exact ra
     ·refine sk (sr (cq (nt (ay ?_))));cases h;exact ra
def iq(k:Nat)(a0:aO)(a1:(List (List Int)))(a2:Bool):Option Int:=
 (ft k a0 a1).bind fun r2=>
 if¬(r2=0) then(some r2) else(if¬(a2=true) then(some 3) else(some 0))
theorem nX(k:Nat)(a0:aO)(a1:(List (List Int)))(a2:Bool)(r:Int)(h:iq k a0 a1 a2=some r):
 bX Tryz.prog 59 [.rep av a0,.rep (.slice (.slice (.int .i64))) a1,.eq (.bool a2)] [] (fun _:Unit=>(bq [I r],[])):=by
 unfold iq at h
 replace h:=a8 h
 refine bX.of 16 Tryz.func59 rfl Tryz.ntmps59 rfl fun S w0=>?_
 refine sr ?_
 refine bx fun b1=>?_
 refine cq ?_
 refine nt ?_
 refine ae ?_
 refine sr ?_
 refine lo dj ?_
 refine mq ?_
 obtain⟨r2,c,h⟩:=aa h
 have e:=qx k a0 a1 r2 c
 refine jb (ap [.tmp 8,.tmp 9] rfl rfl S5 rfl e) ?_
 refine aq ?_
 refine nt ?_
 refine sr ?_
 refine mq ?_
 refine jb (fL rfl) ?_
 refine nt ?_
 refine cn h (fun h=>?_) (fun h=>?_)
 ·
  refine sr (mq ?_);refine aq (nt (rx ?_));cases h;exact ra
 ·
  refine sk (ae (sr (mq ?_)));refine ja (dT rfl) ?_;refine nt (cw h (fun h=>?_) (fun h=>?_))
  ·refine sr (cq (nt (rx ?_)));cases h;exact ra
  ·refine sk (sr (cq (nt (ay ?_))));cases h;exact ra
def o4(k:Nat)(a0:aO)(a1:Int)(a2:Int):Option Bool:=
 (aQ a0.2.1 a1).bind fun x2=>
 (pT k x2.2 a2).bind fun r3=>
 some r3
theorem zt(k:Nat)(a0:aO)(a1:Int)(a2:Int)(r:Bool)(h:o4 k a0 a1 a2=some r):
 bX Tryz.prog 131 [.rep av a0,I a1,I a2] [] (fun _:Unit=>(bq [.eq (.bool r)],[])):=by
 unfold o4 at h
 replace h:=a8 h
 refine bX.of 15 Tryz.func131 rfl Tryz.ntmps131 rfl fun S w0=>?_
 refine sr ?_
 refine bx fun b1=>?_
 refine cq ?_
 refine nt ?_
 refine sr ?_
 refine fl bT ?_
 refine lo eX ?_
 refine mq ?_
 obtain⟨x2,c,h⟩:=aa h
 refine jb (aA (t:=aY) rfl mD j7 c) ?_
 refine ja (aJ 1 false rfl ku rfl) ?_
 refine ja (ak (t:=(.slice (.int .i64))) rfl bF rfl) ?_
 refine mq ?_
 obtain⟨r3,e,h⟩:=aa h
 have j:=uV k x2.2 a2 r3 e
 refine jb (ap [.tmp 12,.tmp 13] rfl rfl Qa rfl j) ?_
 refine aq ?_
 refine nt ?_
 refine ay ?_
 cases h
 exact ra
def jJ(k:Nat)(a0:aO)(a1:(List Int))(a2:Int):Nat→((List Int)×(List Int)×(List Int)×Int)→Option ((List Int)×(List Int)×(List Int))
 |0,_=>none
 |n+1,y4=>
  if y4.2.2.2 < (a1.length:Int) then((((aQ a1 y4.2.2.2).bind fun x8=>
  (o4 k a0 x8 a2).bind fun r9=>
  if r9=true then((aQ a1 y4.2.2.2).bind fun h=>
  (dE (bQ (List.length y4.2.2.1+List.length [h]))).bind fun _=>
  some (y4.1,y4.2.1,y4.2.2.1++[h])) else((aQ a1 y4.2.2.2).bind fun c=>
  (dE (bQ (List.length y4.2.1+List.length [c]))).bind fun _=>
  if 0 < (y4.2.2.1.length:Int) then((aQ a1 y4.2.2.2).bind fun e=>
  (dE (bQ (List.length y4.1+List.length [e]))).bind fun _=>
  some (y4.1++[e],y4.2.1++[c],y4.2.2.1)) else(some (y4.1,y4.2.1++[c],y4.2.2.1)))):Option ((List Int)×(List Int)×(List Int))).bind fun x6=>
  (ck (y4.2.2.2+1)).bind fun j=>
  jJ k a0 a1 a2 n (x6.1,x6.2.1,x6.2.2,j)) else(some (y4.1,y4.2.1,y4.2.2.1))
def rN(k:Nat)(a0:aO)(a1:(List Int))(a2:Int):Option ((List Int)×(List Int)):=
 ((jJ k a0 a1 a2 k (([]:(List Int)),([]:(List Int)),([]:(List Int)),0)):Option ((List Int)×(List Int)×(List Int))).bind fun x2=>
 (dE (bQ (List.length x2.2.1+List.length x2.2.2))).bind fun _=>
 some (x2.1,x2.2.1++x2.2.2)
theorem BD(k:Nat)(a0:aO)(a1:(List Int))(a2:Int)(r:(List Int)×(List Int))(h:rN k a0 a1 a2=some r):
 bX Tryz.prog 101 [.rep av a0,Ri a1,I a2] [] (fun _:Unit=>(bq [Ri r.1,Ri r.2],[])):=by
 unfold rN at h
 replace h:=a8 h
 refine bX.of 53 Tryz.func101 rfl Tryz.ntmps101 rfl fun S w0=>?_
 refine sr ?_
 refine bx fun b1=>?_
 refine cq ?_
 refine cq ?_
 refine nt ?_
 refine sr ?_
 refine cq ?_
 refine cq ?_
 refine cq ?_
 refine nt ?_
 refine aN (Z:=Value×Value×Value) (α:=(List Int)×(List Int)×(List Int)) (fun z3 x2=>[(8,.eq z3.1),(9,.eq z3.2.1),(10,.eq z3.2.2)]) (fun z3 x2=>[.sl z3.1 3 (.int .i64) x2.1,.sl z3.2.1 3 (.int .i64) x2.2.1,.sl z3.2.2 3 (.int .i64) x2.2.2]) h (fun K h=>?_) (fun z3 x2 h=>?_)
 ·
  refine sr (cq (nt (ao ?_)));refine dW (SE.nil 3 (.int .i64)) ?_;refine dW (SE.nil 3 (.int .i64)) ?_;refine dW (SE.nil 3 (.int .i64)) ?_;refine aK (fun z5 y4=>[(1,Ri a1),(2,I a2),(3,Pt b1),(8,.eq z5.1),(9,.eq z5.2.1),(10,.eq z5.2.2),(11,I y4.2.2.2)]) (fun z5 y4=>[.obj b1 25 (.rep av a0),.sl z5.1 3 (.int .i64) y4.1,.sl z5.2.1 3 (.int .i64) y4.2.1,.sl z5.2.2 3 (.int .i64) y4.2.2.1]) (jJ k a0 a1 a2) k ((.slice none 0 0),(.slice none 0 0),(.slice none 0 0)) (([]:(List Int)),([]:(List Int)),([]:(List Int)),0) (fun _=>rfl) h (SE.fin [3,2,1,0] ⟨rfl,rfl,rfl,rfl,rfl,rfl,rfl,trivial⟩ rfl) (fun n z5 y4 h=>?_);unfold jJ at h;refine ae (sr ?_);iterate 2 refine mq ?_
  refine ol dw ?_;refine jb (bp rfl) ?_;refine nt (ci h (fun h=>?_) (fun h=>?_))
  ·refine sk (aN (Z:=Value×Value×Value) (α:=(List Int)×(List Int)×(List Int)) (fun z7 x6=>[(1,Ri a1),(2,I a2),(3,Pt b1),(8,.eq z7.1),(9,.eq z7.2.1),(10,.eq z7.2.2),(11,I y4.2.2.2)]) (fun z7 x6=>[.obj b1 25 (.rep av a0),.sl z7.1 3 (.int .i64) x6.1,.sl z7.2.1 3 (.int .i64) x6.2.1,.sl z7.2.2 3 (.int .i64) x6.2.2]) h (fun K h=>?_) (fun z7 x6 h=>?_))
   ·refine ao (ae (ae (bz ?_)));refine ea 0 (aj rfl dj (tw) rfl) ?_;refine dm ?_;refine dm ?_;obtain⟨x8,U,h⟩:=aa h;refine db (aA (t:=(.int .i64)) rfl dw cm U) ?_;refine da (ak (t:=(.int .i64)) rfl cm rfl) ?_;refine dm ?_;refine df cp ?_;obtain⟨r9,X,h⟩:=aa h;refine jc (ap [.tmp 18,.tmp 22,.tmp 23] rfl rfl Qu rfl (zt k a0 x8 a2 r9 X)) ?_;refine nt (cv h (fun h=>?_) (fun h=>?_))
    ·refine sr ?_;iterate 3 refine mq ?_
     obtain⟨j,y,h⟩:=aa h;refine jb (aA (t:=(.int .i64)) rfl dw cm y) ?_;refine ja (ak (t:=(.int .i64)) rfl cm rfl) ?_;refine ja (bj (t:=(.int .i64)) [(.tmp 29,_)] [j] rfl rfl dI (.cons rfl .int .nil) rfl rfl) ?_;obtain⟨qt,J,h⟩:=aa h;refine fr 3 ?_;refine c6 rfl rfl rfl (bI rfl rfl dI (aC J)) ⟨rfl,rfl,trivial⟩ fun Q=>?_;refine aq (nt (dC (aU (bU (ah ?_)))));exact jz ((z5.1,z5.2.1,Q),(y4.1,y4.2.1,y4.2.2.1++[j])) h [1,2,3,0]
    ·refine sk (sr ?_);iterate 3 refine mq ?_
     obtain⟨c,x,h⟩:=aa h;refine jb (aA (t:=(.int .i64)) rfl dw cm x) ?_;refine ja (ak (t:=(.int .i64)) rfl cm rfl) ?_;refine ja (bj (t:=(.int .i64)) [(.tmp 36,_)] [c] rfl rfl dI (.cons rfl .int .nil) rfl rfl) ?_;obtain⟨pp,F,h⟩:=aa h;refine fr 2 ?_;refine c6 rfl rfl rfl (bI rfl rfl dI (aC F)) ⟨rfl,rfl,trivial⟩ fun l=>?_;refine aq (nt (sr ?_));refine mq ?_;refine fr 3 ?_;refine ka (dh rfl rfl dw) ?_;refine jb (iC rfl) ?_;refine nt (ci h (fun h=>?_) (fun h=>?_))
     ·refine ab ?_;iterate 3 refine mq ?_
      obtain⟨e,u,h⟩:=aa h;refine jb (aA (t:=(.int .i64)) rfl dw cm u) ?_;refine ja (ak (t:=(.int .i64)) rfl cm rfl) ?_;refine ja (bj (t:=(.int .i64)) [(.tmp 46,_)] [e] rfl rfl dI (.cons rfl .int .nil) rfl rfl) ?_;obtain⟨mc,E,h⟩:=aa h;refine fr 3 ?_;refine c6 rfl rfl rfl (bI rfl rfl dI (aC E)) ⟨rfl,rfl,trivial⟩ fun O=>?_;refine aq (au (bn ?_));exact jz ((O,l,z5.2.2),(y4.1++[e],y4.2.1++[c],y4.2.2.1)) h [3,0,2,1]
     ·refine aW (bn ?_);exact jz ((z5.1,l,z5.2.2),(y4.1,y4.2.1++[c],y4.2.2.1)) h [2,3,1,0]
   ·refine ab (mq ?_);obtain⟨M,s,h⟩:=aa h;refine jb (bf rfl s) ?_;refine aq (nl ?_);exact jz ((z7.1,z7.2.1,z7.2.2),(x6.1,x6.2.1,x6.2.2,M)) h [0,1,2,3]
  ·refine xa ?_;exact jz ((z5.1,z5.2.1,z5.2.2),(y4.1,y4.2.1,y4.2.2.1)) h [1,2,3]
 ·
  refine sr ?_;iterate 3 refine mq ?_
  refine fr 2 ?_;refine cD (eR [10,51] ⟨rfl,rfl,trivial⟩) ?_;obtain⟨ac,D,h⟩:=aa h;refine fr 1 ?_;refine c6 rfl rfl rfl (bI rfl rfl dI (aC D)) ⟨rfl,rfl,trivial⟩ fun Y=>?_;refine aq ?_;refine aq (nt (ay ?_));refine dn 1 rfl ?_;refine bu (eR [6,8,49] ⟨rfl,rfl,rfl,trivial⟩) ?_;refine bu (eR [7,52] ⟨rfl,rfl,trivial⟩) ?_;cases h;exact rb
def iO(k:Nat)(e:(List Int)×(List Int)):Nat→((List Int)×Int)→Option (List Int)
 |0,_=>none
 |n+1,c=>
  if c.2 < (e.1.length:Int) then((aQ e.1 c.2).bind fun h=>
  (aQ e.1 c.2).bind fun s=>
  (aQ c.1 s).bind fun r=>
  (ck (r+1)).bind fun l=>
  (aQ c.1 h).bind fun u=>
  (ck (c.2+1)).bind fun j=>
  iO k e n (List.set c.1 (Int.toNat h) l,j)) else(some c.1)
def iP(k:Nat)(a0:aO)(y6:(List Int)×(List (List Int))×Int):Nat→((List Int)×(List (List Int))×Int)→Option ((List Int)×(List (List Int)))
 |0,_=>none
 |n+1,c=>
  if c.2.2 < (y6.2.1.length:Int) then((((aQ y6.2.1 c.2.2).bind fun r=>
  (rN k a0 r y6.2.2).bind fun e=>
  ((iO k e k (c.1,0)):Option ((List Int))).bind fun l=>
  (dE (bQ (List.length c.2.1+List.length [e.2]))).bind fun _=>
  some (l,c.2.1++[e.2])):Option ((List Int)×(List (List Int)))).bind fun h=>
  (ck (c.2.2+1)).bind fun j=>
  iP k a0 y6 n (h.1,h.2,j)) else(some (c.1,c.2.1))
def jR(k:Nat)(a0:aO)(a3:Int):Nat→((List Int)×(List (List Int))×Int)→Option ((List Int)×(List (List Int)))
 |0,_=>none
 |n+1,y6=>
  if y6.2.2 < a3 then(((((iP k a0 y6 k (y6.1,([]:(List (List Int))),0)):Option ((List Int)×(List (List Int)))).bind fun c=>
  some (c.1,c.2)):Option ((List Int)×(List (List Int)))).bind fun x8=>
  (ck (y6.2.2+1)).bind fun e=>
  jR k a0 a3 n (x8.1,x8.2,e)) else(some (y6.1,y6.2.1))
def np(k:Nat)(a0:aO)(a1:(List (List Int)))(a2:Int)(a3:Int):Option ((List Int)×(List (List Int))):=
 (dE (0≤(a0.2.1.length:Int)∧bQ (Int.toNat (a0.2.1.length:Int)))).bind fun _=>
 ((jR k a0 a3 k (List.replicate (Int.toNat (a0.2.1.length:Int)) 0,a1,a2)):Option ((List Int)×(List (List Int)))).bind fun x4=>
 some (x4.1,x4.2)
theorem t4(k:Nat)(a0:aO)(a1:(List (List Int)))(a2:Int)(a3:Int)(r:(List Int)×(List (List Int)))(h:np k a0 a1 a2 a3=some r):
 bX Tryz.prog 61 [.rep av a0,.rep (.slice (.slice (.int .i64))) a1,I a2,I a3] [] (fun _:Unit=>(bq [Ri r.1,.rep (.slice (.slice (.int .i64))) r.2],[])):=by
 unfold np at h
 replace h:=a8 h
 refine bX.of 72 Tryz.func61 rfl Tryz.ntmps61 rfl fun S w0=>?_
 refine sr ?_
 refine bx fun b1=>?_
 refine cq ?_
 refine cq ?_
 refine nt ?_
 refine sr ?_
 refine fl bT ?_
 refine lo eX ?_
 refine ol mD ?_
 obtain⟨u2,se,h⟩:=aa h
 refine aF rfl rfl rfl (BQ (t:=(.int .i64)) (d:=0) rfl dI TS (aC se).1 (aC se).2) ⟨rfl,rfl,trivial⟩ fun v3=>?_
 refine aq ?_
 refine nt ?_
 refine sr ?_
 refine mq ?_
 refine aq ?_
 refine nt ?_
 refine aN (Z:=Unit) (α:=(List Int)×(List (List Int))) (fun z5 x4=>[(10,.eq v3),(11,.rep (.slice (.slice (.int .i64))) x4.2)]) (fun z5 x4=>[.sl v3 3 (.int .i64) x4.1]) h (fun K h=>?_) (fun z5 x4 h=>?_)
 ·
  refine sr (mq ?_);refine aq (nt (ao ?_));refine aK (fun z7 y6=>[(3,I a3),(4,Pt b1),(10,.eq v3),(11,.rep (.slice (.slice (.int .i64))) y6.2.1),(12,I y6.2.2)]) (fun z7 y6=>[.obj b1 25 (.rep av a0),.sl v3 3 (.int .i64) y6.1]) (jR k a0 a3) k () (List.replicate (Int.toNat (a0.2.1.length:Int)) 0,a1,a2) (fun _=>rfl) h (SE.fin [1,0] ⟨rfl,rfl,rfl,rfl,rfl,trivial⟩ rfl) (fun n z7 y6 h=>?_);unfold jR at h;refine ae (sr ?_);iterate 2 refine mq ?_
  refine jb (bp rfl) ?_;refine nt (ci h (fun h=>?_) (fun h=>?_))
  ·refine sk (aN (Z:=Value) (α:=(List Int)×(List (List Int))) (fun z9 x8=>[(3,I a3),(4,Pt b1),(10,.eq v3),(11,.eq z9),(12,I y6.2.2)]) (fun z9 x8=>[.obj b1 25 (.rep av a0),.sl v3 3 (.int .i64) x8.1,.sl z9 23 (.slice (.int .i64)) x8.2]) h (fun K h=>?_) (fun z9 x8 h=>?_))
   ·refine ao (sr (cq (nt ?_)));refine aN (Z:=Value) (α:=(List Int)×(List (List Int))) (fun y u=>[(3,I a3),(4,Pt b1),(10,.eq v3),(12,I y6.2.2),(13,.eq y)]) (fun y u=>[.obj b1 25 (.rep av a0),.sl v3 3 (.int .i64) u.1,.sl y 23 (.slice (.int .i64)) u.2]) h (fun K h=>?_) (fun y u h=>?_)
    ·refine sr (cq (nt (ao ?_)));refine dW (SE.nil 23 (.slice (.int .i64))) ?_;refine aK (fun e c=>[(3,I a3),(4,Pt b1),(10,.eq v3),(11,.rep (.slice (.slice (.int .i64))) y6.2.1),(12,I y6.2.2),(13,.eq e),(14,I c.2.2)]) (fun e c=>[.obj b1 25 (.rep av a0),.sl v3 3 (.int .i64) c.1,.sl e 23 (.slice (.int .i64)) c.2.1]) (iP k a0 y6) k (.slice none 0 0) (y6.1,([]:(List (List Int))),0) (fun _=>rfl) h (SE.fin [1,2,0] ⟨rfl,rfl,rfl,rfl,rfl,rfl,rfl,trivial⟩ rfl) (fun n e c h=>?_);unfold iP at h;refine ae (sr ?_);iterate 2 refine mq ?_
     refine ol lw ?_;refine jb (bp rfl) ?_;refine nt (ci h (fun h=>?_) (fun h=>?_))
     ·refine sk (aN (Z:=Value) (α:=(List Int)×(List (List Int))) (fun x s=>[(3,I a3),(4,Pt b1),(10,.eq v3),(11,.rep (.slice (.slice (.int .i64))) y6.2.1),(12,I y6.2.2),(13,.eq x),(14,I c.2.2)]) (fun x s=>[.obj b1 25 (.rep av a0),.sl v3 3 (.int .i64) s.1,.sl x 23 (.slice (.int .i64)) s.2]) h (fun K h=>?_) (fun x s h=>?_))
      ·refine ao (ae (bz ?_));refine ea 0 (aj rfl dj (tw) rfl) ?_;refine dm ?_;refine dm ?_;obtain⟨Uj,pp,h⟩:=aa h;refine db (aA (t:=(.slice (.int .i64))) rfl lw bF pp) ?_;refine da (ak (t:=(.slice (.int .i64))) rfl bF rfl) ?_;refine dm ?_;obtain⟨j,Ud,h⟩:=aa h;refine dc (ap [.tmp 36,.tmp 40,.tmp 41] rfl rfl QF rfl (BD k a0 Uj y6.2.2 j Ud)) ?_;refine dm ?_;refine da (cE rfl rfl) ?_;refine da (cE rfl rfl) ?_;refine da (dV rfl) ?_;refine df cp ?_;refine aq (nt ?_);refine aN (Z:=Unit) (α:=(List Int)) (fun M D=>[(3,I a3),(4,Pt b1),(10,.eq v3),(11,.rep (.slice (.slice (.int .i64))) y6.2.1),(12,I y6.2.2),(13,.eq e),(14,I c.2.2),(16,Ri j.2)]) (fun M D=>[.obj b1 25 (.rep av a0),.sl v3 3 (.int .i64) D,.sl e 23 (.slice (.int .i64)) c.2.1]) h (fun K h=>?_) (fun M D h=>?_)
       ·refine sr (cq (nt (ao ?_)));refine aK (fun J l=>[(3,I a3),(4,Pt b1),(10,.eq v3),(11,.rep (.slice (.slice (.int .i64))) y6.2.1),(12,I y6.2.2),(13,.eq e),(14,I c.2.2),(15,Ri j.1),(16,Ri j.2),(17,I l.2)]) (fun J l=>[.obj b1 25 (.rep av a0),.sl v3 3 (.int .i64) l.1,.sl e 23 (.slice (.int .i64)) c.2.1]) (iO k j) k () (c.1,0) (fun _=>rfl) h (SE.fin [0,1,2] ⟨rfl,rfl,rfl,rfl,rfl,rfl,rfl,rfl,rfl,rfl,trivial⟩ rfl) (fun n J l h=>?_);unfold iO at h;refine ae (sr ?_);iterate 2 refine mq ?_
        refine ol dw ?_;refine jb (bp rfl) ?_;refine nt (ci h (fun h=>?_) (fun h=>?_))
        ·refine sk (ae (ao (bz ?_)));refine dm ?_;refine dm ?_;refine dm ?_;obtain⟨O,mc,h⟩:=aa h;refine db (aA (t:=(.int .i64)) rfl dw cm mc) ?_;refine da (ak (t:=(.int .i64)) rfl cm rfl) ?_;refine dm ?_;refine dm ?_;refine dm ?_;obtain⟨Ui,ac,h⟩:=aa h;refine db (aA (t:=(.int .i64)) rfl dw cm ac) ?_;refine da (ak (t:=(.int .i64)) rfl cm rfl) ?_;obtain⟨Um,F,h⟩:=aa h;refine eb 1 (aZ (t:=(.int .i64)) rfl dw cm F) ?_;refine ea 1 (dX (i:=Int.toNat Ui) (off:=0) rfl cm (fun _=>rfl) rfl (cC F).2.2 rfl) ?_;obtain⟨Uh,Y,h⟩:=aa h;refine db (bf rfl Y) ?_;refine df cp ?_;obtain⟨Ul,E,h⟩:=aa h;refine fr 1 ?_;refine kb (aZ (t:=(.int .i64)) rfl dw cm E) ?_;refine bh rfl rfl (cR (i:=Int.toNat O) rfl cm rfl (ib E) rfl .int rfl) ⟨rfl,rfl,trivial⟩ ?_;refine au (aM (tn (ab (mq ?_))));obtain⟨Ug,X,h⟩:=aa h;refine jb (bf rfl X) ?_;refine aq (nl ?_);exact jz ((),(List.set l.1 (Int.toNat O) Uh,Ug)) h [1,0,2]
        ·refine xa ?_;exact jz ((),l.1) h [0,1,2]
       ·refine ab ?_;iterate 2 refine mq ?_
        refine ja (bj (t:=(.slice (.int .i64))) [(.tmp 66,_)] [j.2] rfl rfl oW (.cons rfl .rep .nil) rfl rfl) ?_;obtain⟨Un,qt,h⟩:=aa h;refine fr 2 ?_;refine c6 rfl rfl rfl (bI rfl rfl oW (aC qt)) ⟨rfl,rfl,trivial⟩ fun Uk=>?_;refine aq (au (bn ?_));exact jz (Uk,(D,c.2.1++[j.2])) h [1,2,0]
      ·refine ab (mq ?_);obtain⟨Uf,U,h⟩:=aa h;refine jb (bf rfl U) ?_;refine aq (nl ?_);exact jz (x,(s.1,s.2,Uf)) h [0,1,2]
     ·refine xa ?_;exact jz (e,(c.1,c.2.1)) h [0,1,2]
    ·refine ab (mq ?_);refine aq (au (bn ?_));exact jz (y,(u.1,u.2)) h [0,1,2]
   ·refine ab (mq ?_);obtain⟨Ue,Q,h⟩:=aa h;refine jb (bf rfl Q) ?_;refine aq (nl ?_);refine dn 2 rfl ?_;refine bu (eR [11] ⟨rfl,trivial⟩) ?_;exact jz ((),(x8.1,x8.2,Ue)) h [0,1]
  ·refine xa ?_;exact jz ((),(y6.1,y6.2.1)) h [1]
 ·
  refine sr ?_;iterate 2 refine mq ?_
  refine aq ?_;refine aq (nt (ay ?_));refine bu (eR [8,10,70] ⟨rfl,rfl,rfl,trivial⟩) ?_;cases h;exact rb
def fu(k:Nat)(a0:aO)(a1:aO):Nat→Int→Option (Except Bool Unit)
 |0,_=>none
 |n+1,y8=>
  if y8 < (a0.2.1.length:Int) then((((aQ a0.2.1 y8).bind fun l=>
  (aQ a1.2.1 y8).bind fun j=>
  if¬(l.1=j.1) then(some true) else((aQ a0.2.1 y8).bind fun h=>
  (aQ a1.2.1 y8).bind fun e=>
  (eh k h.2 e.2).bind fun s=>
  some (!s))):Option (Bool)).bind fun r=>
  if r=true then(some (.error false)) else((ck (y8+1)).bind fun c=>
  fu k a0 a1 n c)) else(some (.ok ()))
def jr(k:Nat)(a0:aO)(a1:aO):Option Bool:=
 ((if¬(a0.1=a1.1) then(some true) else(if¬((a0.2.1.length:Int)=(a1.2.1.length:Int)) then(some true) else((eh k a0.2.2 a1.2.2).bind fun r5=>
 some (!r5)))):Option (Bool)).bind fun x3=>
 if x3=true then(some false) else(bE (α:=Unit) (fu k a0 a1 k 0) (some) fun _=>
 some true)
theorem tC(k:Nat)(a0:aO)(a1:aO)(r:Bool)(h:jr k a0 a1=some r):
 bX Tryz.prog 26 [.rep av a0,.rep av a1] [] (fun _:Unit=>(bq [.eq (.bool r)],[])):=by
 unfold jr at h
 replace h:=a8 h
 refine bX.of 64 Tryz.func26 rfl Tryz.ntmps26 rfl fun S w0=>?_
 refine sr ?_
 refine bx fun b1=>?_
 refine bx fun b2=>?_
 refine cq ?_
 refine nt ?_
 refine ae ?_
 refine aN (Z:=Unit) (α:=Bool) (fun z4 x3=>[(2,Pt b1),(3,Pt b2),(27,.eq (.bool x3))]) (fun z4 x3=>[.obj b1 25 (.rep av a0),.obj b2 25 (.rep av a1)]) h (fun K h=>?_) (fun z4 x3 h=>?_)
 ·
  refine ab (fl fD ?_);refine fr 1 ?_;refine lo cm ?_;refine fl fD ?_;refine fr 1 ?_;refine lo cm ?_;refine jb (fL rfl) ?_;refine mq ?_;refine cu (s:=11) rfl (fun hb=>?_) (fun hb=>?_)
  ·replace h:=cF (HD hb) h;iterate 7 refine gn ?_
   refine pt ?_;refine mq ?_;iterate 6 refine gn ?_
   refine pt (nl ?_);exact jz ((),true) h [1,0]
  ·replace h:=bN (vx hb) h;refine ga (ar rfl bT) ?_;refine fr 1 ?_;refine jM rfl rfl rfl rfl rfl rfl (aj rfl eX jo rfl) ⟨rfl,trivial⟩ ?_;refine ga (jq rfl rfl mD) ?_;refine ga (ar rfl bT) ?_;refine fr 1 ?_;refine jM rfl rfl rfl rfl rfl rfl (aj rfl eX jo rfl) ⟨rfl,trivial⟩ ?_;refine ga (jq rfl rfl mD) ?_;refine gb (fL rfl) ?_;refine pf ?_;refine mq ?_;refine cu (s:=20) rfl (fun hb=>?_) (fun hb=>?_)
   ·replace h:=cF (HD hb) h;iterate 6 refine gn ?_
    refine pt (nl ?_);exact jz ((),true) h [1,0]
   ·replace h:=bN (vx hb) h;refine ga (ar rfl cJ) ?_;refine fr 1 ?_;refine jM rfl rfl rfl rfl rfl rfl (aj rfl bF jo rfl) ⟨rfl,trivial⟩ ?_;refine ga (ar rfl cJ) ?_;refine fr 1 ?_;refine jM rfl rfl rfl rfl rfl rfl (aj rfl bF jo rfl) ⟨rfl,trivial⟩ ?_;obtain⟨r5,Q,h⟩:=aa h;refine gb (ap [.tmp 22,.tmp 24] rfl rfl Is rfl (il k a0.2.2 a1.2.2 r5 Q)) ?_;refine ga (dT rfl) ?_;refine pf (nl ?_);exact jz ((), !r5) h [1,0]
 ·
  refine cv h (fun h=>?_) (fun h=>?_)
  ·refine sr (cq (nt (rx ?_)));cases h;exact ra
  ·refine sk (dN (Z:=Unit) (α:=Unit) (fun z7 x6=>[]) (fun z7 x6=>[]) (fun e=>e=r) h (fun e h=>Option.some.inj h) (fun K hR h=>?_) (fun z7 x6 h=>?_))
   ·refine sr (cq (nt (ao ?_)));refine aK (fun z9 y8=>[(2,Pt b1),(3,Pt b2),(5,I y8)]) (fun z9 y8=>[.obj b1 25 (.rep av a0),.obj b2 25 (.rep av a1)]) (fu k a0 a1) k () 0 (fun _=>rfl) h (SE.fin [0,1] ⟨rfl,rfl,rfl,trivial⟩ rfl) (fun n z9 y8 h=>?_);unfold fu at h;refine ae (sr (mq ?_));refine fl bT ?_;refine lo eX ?_;refine ol mD ?_;refine jb (bp rfl) ?_;refine nt (ci h (fun h=>?_) (fun h=>?_))
    ·refine sk (ae (ao (aN (Z:=Unit) (α:=Bool) (fun j c=>[(2,Pt b1),(3,Pt b2),(5,I y8),(63,.eq (.bool c))]) (fun j c=>[.obj b1 25 (.rep av a0),.obj b2 25 (.rep av a1)]) h (fun K h=>?_) (fun j c h=>?_))))
     ·refine bz ?_;refine da (ar rfl bT) ?_;refine ea 0 (aj rfl eX jo rfl) ?_;refine dm ?_;obtain⟨X,E,h⟩:=aa h;refine db (aA (t:=aY) rfl mD j7 E) ?_;refine da (aJ 1 false rfl kL rfl) ?_;refine da (ak (t:=(.int .i64)) rfl cm rfl) ?_;refine da (ar rfl bT) ?_;refine ea 1 (aj rfl eX jo rfl) ?_;refine dm ?_;obtain⟨U,D,h⟩:=aa h;refine db (aA (t:=aY) rfl mD j7 D) ?_;refine da (aJ 1 false rfl kL rfl) ?_;refine da (ak (t:=(.int .i64)) rfl cm rfl) ?_;refine db (fL rfl) ?_;refine jH rfl rfl rfl (aH rfl) ⟨rfl,trivial⟩ (fun hb=>?_) (fun hb=>?_)
      ·replace h:=cF (HD hb) h;iterate 12 refine dg ?_
       refine df cp ?_;iterate 2 refine gn ?_
       refine pt (nl ?_);exact jz ((),true) h [0,1]
      ·replace h:=bN (vx hb) h;refine aR rfl rfl rfl rfl rfl (ar rfl bT) ⟨rfl,rfl,trivial⟩ ?_;refine jG 0 rfl rfl rfl rfl rfl rfl (aj rfl eX jo rfl) ⟨rfl,rfl,trivial⟩ ?_;refine aR rfl rfl rfl rfl rfl (aH rfl) ⟨rfl,rfl,trivial⟩ ?_;obtain⟨O,y,h⟩:=aa h;refine aR rfl rfl rfl rfl rfl (aA (t:=aY) rfl mD j7 y) ⟨rfl,rfl,rfl,trivial⟩ ?_;refine aR rfl rfl rfl rfl rfl (aJ 1 false rfl ku rfl) ⟨rfl,rfl,trivial⟩ ?_;refine aR rfl rfl rfl rfl rfl (ak (t:=(.slice (.int .i64))) rfl bF rfl) ⟨rfl,rfl,trivial⟩ ?_;refine aR rfl rfl rfl rfl rfl (ar rfl bT) ⟨rfl,rfl,trivial⟩ ?_;refine jG 1 rfl rfl rfl rfl rfl rfl (aj rfl eX jo rfl) ⟨rfl,rfl,trivial⟩ ?_;refine aR rfl rfl rfl rfl rfl (aH rfl) ⟨rfl,rfl,trivial⟩ ?_;obtain⟨M,x,h⟩:=aa h;refine aR rfl rfl rfl rfl rfl (aA (t:=aY) rfl mD j7 x) ⟨rfl,rfl,rfl,trivial⟩ ?_;refine aR rfl rfl rfl rfl rfl (aJ 1 false rfl ku rfl) ⟨rfl,rfl,trivial⟩ ?_;refine aR rfl rfl rfl rfl rfl (ak (t:=(.slice (.int .i64))) rfl bF rfl) ⟨rfl,rfl,trivial⟩ ?_;refine df cp ?_;obtain⟨l,F,h⟩:=aa h;refine gb (ap [.tmp 54,.tmp 60] rfl rfl Is rfl (il k O.2 M.2 l F)) ?_;refine ga (dT rfl) ?_;refine pf (nl ?_);exact jz ((), !l) h [0,1]
     ·refine cv h (fun h=>?_) (fun h=>?_)
      ·refine sr (cq (nt (ay (br (bi (aV ?_))))));obtain rfl:=hR _ h;exact ra
      ·refine aW (aM (tn (ab (mq ?_))));obtain⟨J,u,h⟩:=aa h;refine jb (bf rfl u) ?_;refine aq (nl ?_);exact jz ((),J) h [0,1]
    ·refine xa ?_;exact jz ((),()) h []
   ·refine sr (cq (nt (ay ?_)));cases h;exact ra
def kD(k:Nat)(a0:aO)(a1:(List (List Int)))(a2:Int):Option ((List (List Int))×Int):=
 (fB k a2 0 a0.1).bind fun r2=>
 (iq k a0 a1 r2).bind fun r3=>
 if¬(r3=0) then(some ([],r3)) else((np k a0 a1 0 a2).bind fun r4=>
 some (r4.2,0))
theorem ya(k:Nat)(a0:aO)(a1:(List (List Int)))(a2:Int)(r:(List (List Int))×Int)(h:kD k a0 a1 a2=some r):
 bX Tryz.prog 40 [.rep av a0,.rep (.slice (.slice (.int .i64))) a1,I a2] [] (fun _:Unit=>(bq [.rep (.slice (.slice (.int .i64))) r.1,I r.2],[])):=by
 unfold kD at h
 replace h:=a8 h
 refine bX.of 29 Tryz.func40 rfl Tryz.ntmps40 rfl fun S w0=>?_
 refine sr ?_
 refine bx fun b1=>?_
 refine cq ?_
 refine cq ?_
 refine nt ?_
 refine ae ?_
 refine ae ?_
 refine bz ?_
 refine ea 0 (aj rfl dj (tw) rfl) ?_
 refine dm ?_
 refine dm ?_
 refine da (ar rfl fD) ?_
 refine ea 0 (aj rfl cm jo rfl) ?_
 obtain⟨r2,j,h⟩:=aa h
 have n:=gg k a2 0 a0.1 r2 j
 refine dc (ap [.tmp 13,.const (.int .i64 (0)),.tmp 15] rfl rfl CN rfl n) ?_
 refine df cp ?_
 obtain⟨r3,e,h⟩:=aa h
 have l:=nX k a0 a1 r2 r3 e
 refine jc (ap [.tmp 11,.tmp 12,.tmp 16] rfl rfl NG rfl l) ?_
 refine aq ?_
 refine nt ?_
 refine sr ?_
 refine mq ?_
 refine jb (fL rfl) ?_
 refine nt ?_
 refine cn h (fun h=>?_) (fun h=>?_)
 ·
  refine sr (mq ?_);refine cq ?_;refine aq (nt (rx ?_));refine bu (lx (t:=(.slice (.slice (.int .i64)))) (x:=[]) 6 rfl .nil rfl rfl) ?_;cases h;exact rb
 ·
  refine sk (sr (lo dj ?_));iterate 2 refine mq ?_
  obtain⟨r4,c,h⟩:=aa h;refine aE rfl (ap [.tmp 22,.tmp 23,.const (.int .i64 (0)),.tmp 24] rfl rfl Qd rfl (t4 k a0 a1 0 a2 r4 c)) ⟨rfl,rfl,rfl,rfl,trivial⟩ ?_;refine mq ?_;refine xr ?_;refine xr ?_;refine aq ?_;refine aq (nt (sr ?_));refine mq ?_;refine aq ?_;refine cq (nt (ay ?_));cases h;exact rb
def hH(k:Nat)(a2:Int)(r8:(List Int)×(List (List Int)))(e:Int×Int×Int):Nat→(Int×Int×Int)→Option (Int×Int)
 |0,_=>none
 |n+1,c=>
  (aQ r8.2 e.2.2).bind fun y=>
  if c.2.2 < (y.length:Int) then((((aQ r8.2 e.2.2).bind fun x=>
  (aQ x c.2.2).bind fun u=>
  if u=a2 then((aQ r8.2 e.2.2).bind fun s=>
  (ck ((s.length:Int) - 1)).bind fun r=>
  (ck (r - c.2.2)).bind fun l=>
  some (e.2.2,l)) else(some (c.1,c.2.1))):Option (Int×Int)).bind fun h=>
  (ck (c.2.2+1)).bind fun j=>
  hH k a2 r8 e n (h.1,h.2,j)) else(some (c.1,c.2.1))
def hP(k:Nat)(a2:Int)(r8:(List Int)×(List (List Int))):Nat→(Int×Int×Int)→Option (Int×Int)
 |0,_=>none
 |n+1,c=>
  if c.2.2 < (r8.2.length:Int) then(((hH k a2 r8 c k (c.1,c.2.1,0)):Option (Int×Int)).bind fun e=>
  (ck (c.2.2+1)).bind fun h=>
  hP k a2 r8 n (e.1,e.2,h)) else(some (c.1,c.2.1))
def jQ(k:Nat)(a0:aO)(a1:(List (List Int)))(a2:Int)(a3:Int):Option (Int×Int×Int):=
 (((jP k a0 a2).bind fun r4=>
 if r4=true then((fB k a3 0 a0.1).bind fun r5=>
 (iq k a0 a1 r5).bind fun r6=>
 some r6) else((iq k a0 a1 false).bind fun r7=>
 some r7)):Option (Int)).bind fun x2=>
 if¬(x2=0) then(some (0,0,x2)) else((np k a0 a1 0 a3).bind fun r8=>
 ((hP k a2 r8 k (0,0,0)):Option (Int×Int)).bind fun x9=>
 some (x9.1,x9.2,0))
theorem xY(k:Nat)(a0:aO)(a1:(List (List Int)))(a2:Int)(a3:Int)(r:Int×Int×Int)(h:jQ k a0 a1 a2 a3=some r):
 bX Tryz.prog 42 [.rep av a0,.rep (.slice (.slice (.int .i64))) a1,I a2,I a3] [] (fun _:Unit=>(bq [I r.1,I r.2.1,I r.2.2],[])):=by
 unfold jQ at h
 replace h:=a8 h
 refine bX.of 75 Tryz.func42 rfl Tryz.ntmps42 rfl fun S w0=>?_
 refine sr ?_
 refine bx fun b1=>?_
 refine cq ?_
 refine cq ?_
 refine cq ?_
 refine nt ?_
 refine ae ?_
 refine aN (Z:=Unit) (α:=Int) (fun z3 x2=>[(1,.rep (.slice (.slice (.int .i64))) a1),(2,I a2),(3,I a3),(4,Pt b1),(11,I x2)]) (fun z3 x2=>[.obj b1 25 (.rep av a0)]) h (fun K h=>?_) (fun z3 x2 h=>?_)
 ·
  refine bz ?_;refine ea 0 (aj rfl dj (tw) rfl) ?_;refine dm ?_;refine ea 0 (aj rfl dj (tw) rfl) ?_;refine dm ?_;obtain⟨r4,Ue,h⟩:=aa h;refine db (ap [.tmp 20,.tmp 21] rfl rfl Qb rfl (o6 k a0 a2 r4 Ue)) ?_;refine jH rfl rfl rfl (aH rfl) ⟨rfl,trivial⟩ (fun hb=>?_) (fun hb=>?_)
  ·replace h:=cF (Db hb) h;refine aR rfl rfl rfl rfl rfl (aH rfl) ⟨rfl,rfl,trivial⟩ ?_;refine aR rfl rfl rfl rfl rfl (ar rfl fD) ⟨rfl,rfl,trivial⟩ ?_;refine jG 0 rfl rfl rfl rfl rfl rfl (aj rfl cm jo rfl) ⟨rfl,rfl,trivial⟩ ?_;obtain⟨r5,Ud,h⟩:=aa h;refine aR rfl rfl rfl rfl rfl (ap [.tmp 24,.const (.int .i64 (0)),.tmp 26] rfl rfl CN rfl (gg k a3 0 a0.1 r5 Ud)) ⟨rfl,rfl,rfl,rfl,trivial⟩ ?_;refine db (dJ rfl) ?_;refine df cp ?_;obtain⟨r6,se,h⟩:=aa h;refine jc (ap [.tmp 18,.tmp 19,.tmp 28] rfl rfl NG rfl (nX k a0 a1 r5 r6 se)) ?_;refine aq (nl ?_);exact jz ((),r6) h [0]
  ·replace h:=bN (Dc hb) h;iterate 4 refine dg ?_
   refine db (kg rfl) ?_;refine df cp ?_;obtain⟨r7,qt,h⟩:=aa h;refine jc (ap [.tmp 18,.tmp 19,.tmp 28] rfl rfl NG rfl (nX k a0 a1 false r7 qt)) ?_;refine aq (nl ?_);exact jz ((),r7) h [0]
 ·
  refine sr (mq ?_);refine jb (fL rfl) ?_;refine nt (cn h (fun h=>?_) (fun h=>?_))
  ·refine sr (mq ?_);refine cq ?_;refine cq ?_;refine aq (nt (rx ?_));cases h;exact aL () [_,_,_] 0 ⟨rfl,rfl,rfl,trivial⟩ rfl
  ·refine sk (sr (lo dj ?_));iterate 2 refine mq ?_
   obtain⟨r8,pp,h⟩:=aa h;refine aE rfl (ap [.tmp 34,.tmp 35,.const (.int .i64 (0)),.tmp 36] rfl rfl Qd rfl (t4 k a0 a1 0 a3 r8 pp)) ⟨rfl,rfl,rfl,rfl,trivial⟩ ?_;refine mq ?_;refine xr ?_;refine xr ?_;refine aq ?_;refine aq (nt (sr ?_));refine cq ?_;refine cq (nt ?_);refine aN (Z:=Unit) (α:=Int×Int) (fun D x9=>[(14,I x9.1),(15,I x9.2)]) (fun D x9=>[]) h (fun K h=>?_) (fun D x9 h=>?_)
   ·refine sr (cq (nt (ao ?_)));refine aK (fun y c=>[(2,I a2),(13,.rep (.slice (.slice (.int .i64))) r8.2),(14,I c.1),(15,I c.2.1),(16,I c.2.2)]) (fun y c=>[]) (hP k a2 r8) k () (0,0,0) (fun _=>rfl) h (SE.fin [] ⟨rfl,rfl,rfl,rfl,rfl,trivial⟩ rfl) (fun n y c h=>?_);unfold hP at h;refine ae (sr ?_);iterate 2 refine mq ?_
    refine ol lw ?_;refine jb (bp rfl) ?_;refine nt (ci h (fun h=>?_) (fun h=>?_))
    ·refine sk (aN (Z:=Unit) (α:=Int×Int) (fun x l=>[(2,I a2),(13,.rep (.slice (.slice (.int .i64))) r8.2),(14,I l.1),(15,I l.2),(16,I c.2.2)]) (fun x l=>[]) h (fun K h=>?_) (fun x l h=>?_))
     ·refine ao (sr (cq (nt (ao ?_))));refine aK (fun u e=>[(2,I a2),(13,.rep (.slice (.slice (.int .i64))) r8.2),(14,I e.1),(15,I e.2.1),(16,I c.2.2),(17,I e.2.2)]) (fun u e=>[]) (hH k a2 r8 c) k () (c.1,c.2.1,0) (fun _=>rfl) h (SE.fin [] ⟨rfl,rfl,rfl,rfl,rfl,rfl,trivial⟩ rfl) (fun n u e h=>?_);unfold hH at h;refine ae (sr ?_);iterate 3 refine mq ?_
      obtain⟨Uj,X,h⟩:=aa h;refine jb (aA (t:=(.slice (.int .i64))) rfl lw bF X) ?_;refine ja (ak (t:=(.slice (.int .i64))) rfl bF rfl) ?_;refine ol dw ?_;refine jb (bp rfl) ?_;refine nt (ci h (fun h=>?_) (fun h=>?_))
      ·refine sk (aN (Z:=Unit) (α:=Int×Int) (fun s j=>[(2,I a2),(13,.rep (.slice (.slice (.int .i64))) r8.2),(14,I j.1),(15,I j.2),(16,I c.2.2),(17,I e.2.2)]) (fun s j=>[]) h (fun K h=>?_) (fun s j h=>?_))
       ·refine ao (sr ?_);iterate 2 refine mq ?_
        obtain⟨Ui,U,h⟩:=aa h;refine jb (aA (t:=(.slice (.int .i64))) rfl lw bF U) ?_;refine ja (ak (t:=(.slice (.int .i64))) rfl bF rfl) ?_;refine mq ?_;obtain⟨Uh,Q,h⟩:=aa h;refine jb (aA (t:=(.int .i64)) rfl dw cm Q) ?_;refine ja (ak (t:=(.int .i64)) rfl cm rfl) ?_;refine mq ?_;refine jb (fM rfl) ?_;refine nt (ci h (fun h=>?_) (fun h=>?_))
        ·refine bz ?_;refine dm ?_;refine dm ?_;refine dm ?_;obtain⟨Ug,O,h⟩:=aa h;refine db (aA (t:=(.slice (.int .i64))) rfl lw bF O) ?_;refine da (ak (t:=(.slice (.int .i64))) rfl bF rfl) ?_;refine da (jq rfl rfl dw) ?_;obtain⟨Uf,M,h⟩:=aa h;refine db (eK rfl M) ?_;refine dm ?_;obtain⟨mc,J,h⟩:=aa h;refine db (eK rfl J) ?_;refine da (dV rfl) ?_;refine df cp ?_;refine aq (au (bn ?_));exact jz ((),(c.2.2,mc)) h []
        ·refine aW (bn ?_);exact jz ((),(e.1,e.2.1)) h []
       ·refine ab (mq ?_);obtain⟨ac,F,h⟩:=aa h;refine jb (bf rfl F) ?_;refine aq (nl ?_);exact jz ((),(j.1,j.2,ac)) h []
      ·refine dC (aU (aU (bU (bn ?_))));exact jz ((),(e.1,e.2.1)) h []
     ·refine ab (mq ?_);obtain⟨Y,E,h⟩:=aa h;refine jb (bf rfl E) ?_;refine aq (nl ?_);exact jz ((),(l.1,l.2,Y)) h []
    ·refine xa ?_;exact jz ((),(c.1,c.2.1)) h []
   ·refine sr ?_;iterate 2 refine mq ?_
    refine aq ?_;refine aq ?_;refine cq (nt (ay ?_));cases h;exact aL () [_,_,_] 0 ⟨rfl,rfl,rfl,trivial⟩ rfl
end Go.Proofs.YtghkncjelangeaaGreatDoor
