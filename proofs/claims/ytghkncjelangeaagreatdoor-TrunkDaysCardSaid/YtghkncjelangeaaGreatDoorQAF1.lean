import Derived.Test.YtghkncjelangeaaGreatDoorQAFacts
set_option linter.unusedSimpArgs false
set_option linter.unusedVariables false
set_option maxRecDepth 4000
set_option maxHeartbeats 1000000
namespace Go.Proofs.YtghkncjelangeaaGreatDoor
open K Go Go.Proofs
def jG(k:Nat)(a0:aS):Nat→Int→Option (Except Bool Unit)
 |0,_=>none
 |n+1,y6=>
  if y6 < (a0.2.1.length:Int) then((aR a0.2.1 y6).bind fun x8=>
  if 20 < (x8.2.length:Int) then(some (.error true)) else((ck (y6+1)).bind fun x9=>
  jG k a0 n x9)) else(some (.ok ()))
def ni(k:Nat)(a0:aS):Option Bool:=
 ((if 20 < (a0.2.1.length:Int) then(some true) else(some (decide (20 < (a0.2.2.length:Int))))):Option (Bool)).bind fun x2=>
 if x2=true then(some true) else(bE (α:=Unit) (jG k a0 k 0) (some) fun _=>
 ((if(a0.2.1.length:Int)=5 then(some (decide ((a0.2.2.length:Int)=3))) else(some false)):Option (Bool)).bind fun c=>
 some c)
theorem zS(k:Nat)(a0:aS)(r:Bool)(h:ni k a0=some r):
 bX Tryz.prog 10 [.rep av a0] [] (fun _:Unit=>(bu [.eq (.bool r)],[])):=by
 unfold ni at h
 replace h:=ba h
 refine bX.of 39 Tryz.func10 rfl Tryz.ntmps10 rfl fun S w0=>?_
 refine sr ?_
 refine bx fun b1=>?_
 refine cq ?_
 refine nt ?_
 refine ag ?_
 refine aN (Z:=Unit) (α:=Bool) (fun z3 x2=>[(1,Pt b1),(13,.eq (.bool x2))]) (fun z3 x2=>[.obj b1 25 (.rep av a0)]) h (fun K h=>?_) (fun z3 x2 h=>?_)
 ·
  refine ab (fl bU ?_);refine lo fi ?_;refine ol mL ?_;refine jb (hC rfl) ?_;refine mq ?_;refine cp (s:=8) rfl (fun hb=>?_) (fun hb=>?_)
  ·replace h:=cE (ou hb) h;iterate 4 refine gn ?_
   refine pt (nl ?_);exact jz ((),true) h [0]
  ·replace h:=bN (nw hb) h;refine ga (ar rfl cI) ?_;refine jy rfl rfl rfl rfl rfl rfl (aj rfl bQ i9 rfl) ⟨rfl,trivial⟩ ?_;refine ga (jE rfl rfl dC) ?_;refine gb (hC rfl) ?_;refine pf (nl ?_);exact jz ((),decide (20 < (a0.2.2.length:Int))) h [0]
 ·
  refine cv h (fun h=>?_) (fun h=>?_)
  ·refine sr (cq (nt (rx ?_)));cases h;exact ra
  ·refine sk (dM (Z:=Unit) (α:=Unit) (fun z5 x4=>[(1,Pt b1)]) (fun z5 x4=>[.obj b1 25 (.rep av a0)]) (fun e=>e=r) h (fun e h=>Option.some.inj h) (fun K hR h=>?_) (fun z5 x4 h=>?_))
   ·refine sr (cq (nt (ao ?_)));refine aK (fun z7 y6=>[(1,Pt b1),(3,I y6)]) (fun z7 y6=>[.obj b1 25 (.rep av a0)]) (jG k a0) k () 0 (fun _=>rfl) h (SE.fin [0] ⟨rfl,rfl,trivial⟩ rfl) (fun n z7 y6 h=>?_);unfold jG at h;refine ag (sr (mq ?_));refine fl bU ?_;refine lo fi ?_;refine ol mL ?_;refine jb (bq rfl) ?_;refine nt (ci h (fun h=>?_) (fun h=>?_))
    ·refine sk (ag (ao (sr (fl bU ?_))));refine lo fi ?_;refine mq ?_;obtain⟨x8,u,h⟩:=aa h;refine jb (aC (t:=aY) rfl mL jQ u) ?_;refine ja (aJ 1 false rfl jZ rfl) ?_;refine ja (ak (t:=(.slice (.int .i64))) rfl bQ rfl) ?_;refine ol dC ?_;refine jb (hC rfl) ?_;refine nt (ci h (fun h=>?_) (fun h=>?_))
     ·refine sr (cq (nt (ay (br (bi (aV ?_))))));obtain rfl:=hR _ h;exact ra
     ·refine aX (aM (tn (ab (mq ?_))));obtain⟨x9,l,h⟩:=aa h;refine jb (bf rfl l) ?_;refine aq (nl ?_);exact jz ((),x9) h [0]
    ·refine xa ?_;exact jz ((),()) h [0]
   ·refine aN (Z:=Unit) (α:=Bool) (fun j c=>[(2,.eq (.bool c))]) (fun j c=>[]) h (fun K h=>?_) (fun j c h=>?_)
    ·refine ab (fl bU ?_);refine lo fi ?_;refine ol mL ?_;refine jb (fW rfl) ?_;refine mq ?_;refine cp (s:=33) rfl (fun hb=>?_) (fun hb=>?_)
     ·replace h:=cE (ou hb) h;refine ga (ar rfl cI) ?_;refine jy rfl rfl rfl rfl rfl rfl (aj rfl bQ i9 rfl) ⟨rfl,trivial⟩ ?_;refine ga (jE rfl rfl dC) ?_;refine gb (fW rfl) ?_;refine pt ?_;refine aq (nl ?_);exact jz ((),decide ((a0.2.2.length:Int)=3)) h []
     ·replace h:=bN (nw hb) h;iterate 4 refine gn ?_
      refine pf ?_;refine aq (nl ?_);exact jz ((),false) h []
    ·refine ay ?_;cases h;exact ra
def jF(k:Nat)(a0:(List (List Int))):Nat→Int→Option (Except Bool Unit)
 |0,_=>none
 |n+1,y3=>
  ((if y3 < (a0.length:Int) then(some (decide (y3 < 20))) else(some false)):Option (Bool)).bind fun x5=>
  if x5=true then((aR a0 y3).bind fun x7=>
  if 20 < (x7.length:Int) then(some (.error true)) else((ck (y3+1)).bind fun x8=>
  jF k a0 n x8)) else(some (.ok ()))
def nh(k:Nat)(a0:(List (List Int))):Option Bool:=
 bE (α:=Unit) (jF k a0 k 0) (some) fun _=>
 some (decide (20 < (a0.length:Int)))
theorem zR(k:Nat)(a0:(List (List Int)))(r:Bool)(h:nh k a0=some r):
 bX Tryz.prog 11 [.rep (.slice (.slice (.int .i64))) a0] [] (fun _:Unit=>(bu [.eq (.bool r)],[])):=by
 unfold nh at h
 replace h:=ba h
 refine bX.of 23 Tryz.func11 rfl Tryz.ntmps11 rfl fun S w0=>?_
 refine sr ?_
 refine cq ?_
 refine nt ?_
 refine dM (Z:=Unit) (α:=Unit) (fun z2 x1=>[(0,.rep (.slice (.slice (.int .i64))) a0)]) (fun z2 x1=>[]) (fun e=>e=r) h (fun e h=>Option.some.inj h) (fun K hR h=>?_) (fun z2 x1 h=>?_)
 ·
  refine sr (cq (nt (ao ?_)));refine aK (fun z4 y3=>[(0,.rep (.slice (.slice (.int .i64))) a0),(3,I y3)]) (fun z4 y3=>[]) (jF k a0) k () 0 (fun _=>rfl) h (SE.fin [] ⟨rfl,rfl,trivial⟩ rfl) (fun n z4 y3 h=>?_);unfold jF at h;refine ag (aN (Z:=Unit) (α:=Bool) (fun z6 x5=>[(0,.rep (.slice (.slice (.int .i64))) a0),(3,I y3),(11,.eq (.bool x5))]) (fun z6 x5=>[]) h (fun K h=>?_) (fun z6 x5 h=>?_))
  ·refine ab ?_;iterate 2 refine mq ?_
   refine ol mm ?_;refine jb (bq rfl) ?_;refine mq ?_;refine cp (s:=8) rfl (fun hb=>?_) (fun hb=>?_)
   ·replace h:=cE (ou hb) h;refine gm ?_;refine gb (bq rfl) ?_;refine pt (nl ?_);exact jz ((),decide (y3 < 20)) h []
   ·replace h:=bN (nw hb) h;iterate 2 refine gn ?_
    refine pf (nl ?_);exact jz ((),false) h []
  ·refine cv h (fun h=>?_) (fun h=>?_)
   ·refine sk (ag (ao (sr ?_)));iterate 2 refine mq ?_
    obtain⟨x7,j,h⟩:=aa h;refine jb (aC (t:=(.slice (.int .i64))) rfl mm bQ j) ?_;refine ja (ak (t:=(.slice (.int .i64))) rfl bQ rfl) ?_;refine ol dC ?_;refine jb (hC rfl) ?_;refine nt (ci h (fun h=>?_) (fun h=>?_))
    ·refine sr (cq (nt (ay (br (bi (aV ?_))))));obtain rfl:=hR _ h;exact ra
    ·refine aX (aM (tn (ab (mq ?_))));obtain⟨x8,c,h⟩:=aa h;refine jb (bf rfl c) ?_;refine aq (nl ?_);exact jz ((),x8) h []
   ·refine xa ?_;exact jz ((),()) h []
 ·
  refine sr (mq ?_);refine ol mm ?_;refine jb (hC rfl) ?_;refine aq (nt (ay ?_));cases h;exact ra
def eG(k:Nat)(a0:Int)(a1:Int)(a2:Int):Option Bool:=
 ((if a1≤a0 then(some (decide (a0≤a2))) else(some false)):Option (Bool)).bind fun x1=>
 some x1
theorem eT(k:Nat)(a0:Int)(a1:Int)(a2:Int)(r:Bool)(h:eG k a0 a1 a2=some r):
 bX Tryz.prog 53 [I a0,I a1,I a2] [] (fun _:Unit=>(bu [.eq (.bool r)],[])):=by
 unfold eG at h
 replace h:=ba h
 refine bX.of 15 Tryz.func53 rfl Tryz.ntmps53 rfl fun S w0=>?_
 refine sr ?_
 refine cq ?_
 refine nt ?_
 refine aN (Z:=Unit) (α:=Bool) (fun z2 x1=>[(6,.eq (.bool x1))]) (fun z2 x1=>[]) h (fun K h=>?_) (fun z2 x1 h=>?_)
 ·
  refine ab ?_;iterate 2 refine mq ?_
  refine jb (vc rfl) ?_;refine mq ?_;refine cp (s:=10) rfl (fun hb=>?_) (fun hb=>?_)
  ·replace h:=cE (ou hb) h;refine gm ?_;refine gm ?_;refine gb (vc rfl) ?_;refine pt ?_;refine aq (nl ?_);exact jz ((),decide (a0≤a2)) h []
  ·replace h:=bN (nw hb) h;iterate 3 refine gn ?_
   refine pf ?_;refine aq (nl ?_);exact jz ((),false) h []
 ·
  refine ay ?_;cases h;exact ra
def cZ(k:Nat)(a0:aS)(a1:eF):Nat→Int→Option (Except Int Unit)
 |0,_=>none
 |n+1,y6=>
  if y6 < (a1.2.length:Int) then((aR a1.2 y6).bind fun x8=>
  (ck (a0.1 - 1)).bind fun x9=>
  (eG k x8 0 x9).bind fun l=>
  if¬(l=true) then(some (.error 1)) else(((if 0 < y6 then((ck (y6 - 1)).bind fun h=>
  (aR a1.2 h).bind fun e=>
  some (decide (x8≤e))) else(some false)):Option (Bool)).bind fun j=>
  if j=true then(some (.error 5)) else((ck (y6+1)).bind fun c=>
  cZ k a0 a1 n c))) else(some (.ok ()))
def iu(k:Nat)(a0:aS)(a1:eF):Option Int:=
 (eG k a1.1 1 3).bind fun r3=>
 if¬(r3=true) then(some 1) else(bE (α:=Unit) (cZ k a0 a1 k 0) (some) fun _=>
 some 0)
theorem ri(k:Nat)(a0:aS)(a1:eF)(r:Int)(h:iu k a0 a1=some r):
 bX Tryz.prog 62 [.rep av a0,.rep aY a1] [] (fun _:Unit=>(bu [I r],[])):=by
 unfold iu at h
 replace h:=ba h
 refine bX.of 38 Tryz.func62 rfl Tryz.ntmps62 rfl fun S w0=>?_
 refine sr ?_
 refine bx fun b1=>?_
 refine bx fun b2=>?_
 refine cq ?_
 refine nt ?_
 refine ag ?_
 refine sr ?_
 refine fl kz ?_
 refine lo cg ?_
 obtain⟨r3,O,h⟩:=aa h
 have Q:=eT k a1.1 1 3 r3 O
 refine jc (ap [.tmp 8,.const (.int .i64 (1)),.const (.int .i64 (3))] rfl rfl Af rfl Q) ?_
 refine ja (dT rfl) ?_
 refine nt ?_
 refine cw h (fun h=>?_) (fun h=>?_)
 ·
  refine sr (cq (nt (rx ?_)));cases h;exact ra
 ·
  refine sk (dM (Z:=Unit) (α:=Unit) (fun z5 x4=>[]) (fun z5 x4=>[]) (fun e=>e=r) h (fun e h=>Option.some.inj h) (fun K hR h=>?_) (fun z5 x4 h=>?_))
  ·refine sr (fl jZ ?_);refine lo bQ ?_;refine ol dC ?_;refine fg rfl ?_;refine nt (ao (aK (fun z7 y6=>[(2,Pt b1),(3,Pt b2),(12,Ri a1.2),(13,I (a1.2.length:Int)),(14,I y6)]) (fun z7 y6=>[.obj b1 25 (.rep av a0),.obj b2 27 (.rep aY a1)]) (cZ k a0 a1) k () 0 (fun _=>rfl) h (SE.fin [1,0] ⟨rfl,rfl,rfl,rfl,rfl,trivial⟩ rfl) (fun n z7 y6 h=>?_)));unfold cZ at h;refine sr (jb (bq rfl) ?_);refine nt (ag (ci h (fun h=>?_) (fun h=>?_)))
   ·refine sk (ag (ao (sr (mq ?_))));obtain⟨x8,M,h⟩:=aa h;refine jb (aC (t:=(.int .i64)) rfl dC cg M) ?_;refine ja (ak (t:=(.int .i64)) rfl cg rfl) ?_;refine aq ?_;refine aq (nt (ag (sr ?_)));refine mq ?_;refine fl gd ?_;refine lo cg ?_;obtain⟨x9,J,h⟩:=aa h;refine jb (fV rfl J) ?_;obtain⟨F,y,h⟩:=aa h;refine jc (ap [.tmp 19,.const (.int .i64 (0)),.tmp 22] rfl rfl Af rfl (eT k x8 0 x9 F y)) ?_;refine ja (dT rfl) ?_;refine nt (cw h (fun h=>?_) (fun h=>?_))
    ·refine sr (cq (nt (rx (br (bi (aV ?_))))));obtain rfl:=hR _ h;exact ra
    ·refine sk (aN (Z:=Unit) (α:=Bool) (fun j c=>[(2,Pt b1),(3,Pt b2),(12,Ri a1.2),(13,I (a1.2.length:Int)),(14,I y6),(36,.eq (.bool c))]) (fun j c=>[.obj b1 25 (.rep av a0),.obj b2 27 (.rep aY a1)]) h (fun K h=>?_) (fun j c h=>?_))
     ·refine ab (mq ?_);refine jb (hC rfl) ?_;refine mq ?_;refine cp (s:=27) rfl (fun hb=>?_) (fun hb=>?_)
      ·replace h:=cE (ou hb) h;refine gm ?_;refine ga (ar rfl jZ) ?_;refine fr 1 ?_;refine jy rfl rfl rfl rfl rfl rfl (aj rfl bQ i9 rfl) ⟨rfl,trivial⟩ ?_;refine gm ?_;obtain⟨U,x,h⟩:=aa h;refine gb (fV rfl x) ?_;obtain⟨E,u,h⟩:=aa h;refine gb (aC (t:=(.int .i64)) rfl dC cg u) ?_;refine ga (ak (t:=(.int .i64)) rfl cg rfl) ?_;refine gb (vc rfl) ?_;refine pt (nl ?_);exact jz ((),decide (x8≤E)) h [1,0]
      ·replace h:=bN (nw hb) h;iterate 8 refine gn ?_
       refine pf (nl ?_);exact jz ((),false) h [0,1]
     ·refine cv h (fun h=>?_) (fun h=>?_)
      ·refine sr (cq (nt (ay (br (bi (aV ?_))))));obtain rfl:=hR _ h;exact ra
      ·refine aX (aM (tn (ab ?_)));obtain⟨D,l,h⟩:=aa h;refine jb (bf rfl l) ?_;refine mq (nl ?_);exact jz ((),D) h [0,1]
   ·refine xa ?_;exact jz ((),()) h []
  ·refine sr (cq (nt (ay ?_)));cases h;exact ra
def fO(k:Nat)(a0:aS):Nat→Int→Option (Except Int Unit)
 |0,_=>none
 |n+1,y5=>
  if y5 < (a0.2.1.length:Int) then((aR a0.2.1 y5).bind fun x7=>
  (iu k a0 x7).bind fun r9=>
  if¬(r9=0) then(some (.error r9)) else((ck (y5+1)).bind fun c=>
  fO k a0 n c)) else(some (.ok ()))
def fN(k:Nat)(a0:aS):Nat→Int→Option (Except Int Unit)
 |0,_=>none
 |n+1,c=>
  if c < (a0.2.2.length:Int) then((aR a0.2.2 c).bind fun h=>
  (eG k h 0 9).bind fun j=>
  if¬(j=true) then(some (.error 1)) else((ck (c+1)).bind fun e=>
  fN k a0 n e)) else(some (.ok ()))
def kh(k:Nat)(a0:aS):Option Int:=
 (eG k a0.1 1 6).bind fun r2=>
 if¬(r2=true) then(some 1) else(if 5 < (a0.2.1.length:Int) then(some 6) else(bE (α:=Unit) (fO k a0 k 0) (some) fun _=>
 if(a0.2.2.length:Int) < 1 then(some 7) else(if 3 < (a0.2.2.length:Int) then(some 6) else(bE (α:=Unit) (fN k a0 k 0) (some) fun _=>
 some 0))))
theorem nE(k:Nat)(a0:aS)(r:Int)(h:kh k a0=some r):
 bX Tryz.prog 20 [.rep av a0] [] (fun _:Unit=>(bu [I r],[])):=by
 unfold kh at h
 replace h:=ba h
 refine bX.of 51 Tryz.func20 rfl Tryz.ntmps20 rfl fun S w0=>?_
 refine sr ?_
 refine bx fun b1=>?_
 refine cq ?_
 refine nt ?_
 refine ag ?_
 refine sr ?_
 refine fl gd ?_
 refine lo cg ?_
 obtain⟨r2,U,h⟩:=aa h
 have X:=eT k a0.1 1 6 r2 U
 refine jc (ap [.tmp 10,.const (.int .i64 (1)),.const (.int .i64 (6))] rfl rfl Af rfl X) ?_
 refine ja (dT rfl) ?_
 refine nt ?_
 refine cw h (fun h=>?_) (fun h=>?_)
 ·
  refine sr (cq (nt (rx ?_)));cases h;exact ra
 ·
  refine sk (ag (sr (fl bU ?_)));refine lo fi ?_;refine ol mL ?_;refine jb (hC rfl) ?_;refine nt (ci h (fun h=>?_) (fun h=>?_))
  ·refine sr (cq (nt (rx ?_)));cases h;exact ra
  ·refine sk (dM (Z:=Unit) (α:=Unit) (fun z4 x3=>[(1,Pt b1)]) (fun z4 x3=>[.obj b1 25 (.rep av a0)]) (fun e=>e=r) h (fun e h=>Option.some.inj h) (fun K hR h=>?_) (fun z4 x3 h=>?_))
   ·refine sr (fl bU ?_);refine lo fi ?_;refine ol mL ?_;refine fg rfl ?_;refine nt (ao (aK (fun z6 y5=>[(1,Pt b1),(18,Rs aY a0.2.1),(19,I (a0.2.1.length:Int)),(20,I y5)]) (fun z6 y5=>[.obj b1 25 (.rep av a0)]) (fO k a0) k () 0 (fun _=>rfl) h (SE.fin [0] ⟨rfl,rfl,rfl,rfl,trivial⟩ rfl) (fun n z6 y5 h=>?_)));unfold fO at h;refine sr (jb (bq rfl) ?_);refine nt (ag (ci h (fun h=>?_) (fun h=>?_)))
    ·refine sk (ag (ao (sr ?_)));obtain⟨x7,O,h⟩:=aa h;refine jb (aC (t:=aY) rfl mL jQ O) ?_;refine ja (ak (t:=aY) rfl jQ rfl) ?_;refine aF rfl rfl rfl (be rfl t4 KQ) trivial fun b8=>?_;refine bh rfl rfl (bb rfl jQ rfl rfl rfl) ⟨rfl,rfl,trivial⟩ ?_;refine nt (sr (fr 1 ?_));refine lo dy ?_;refine fr 1 ?_;refine lo jQ ?_;obtain⟨r9,Q,h⟩:=aa h;refine jb (ap [.tmp 24,.tmp 25] rfl rfl Sj rfl (ri k a0 x7 r9 Q)) ?_;refine aq (nt (sr ?_));refine mq ?_;refine jb (g9 rfl) ?_;refine nt (cn h (fun h=>?_) (fun h=>?_))
     ·refine sr (mq ?_);refine aq (nt (ay (br (bi (aV ?_)))));obtain rfl:=hR _ h;exact ra
     ·refine aX (aM (tn (ab ?_)));obtain⟨J,y,h⟩:=aa h;refine jb (bf rfl y) ?_;refine mq (nl ?_);exact jz ((),J) h [1]
    ·refine xa ?_;exact jz ((),()) h [0]
   ·refine ag (sr (fl cI ?_));refine lo bQ ?_;refine ol dC ?_;refine aq (nt (ao (sr ?_)));refine mq ?_;refine jb (bq rfl) ?_;refine aq (nt ?_);refine ci h (fun h=>?_) (fun h=>?_)
    ·refine sr (cq (nt (ay (bi (aV ?_)))));cases h;exact ra
    ·refine sr (mq ?_);refine jb (hC rfl) ?_;refine aq (nt ?_);refine ci h (fun h=>?_) (fun h=>?_)
     ·refine sr (cq (nt (ay (bi (aV ?_)))));cases h;exact ra
     ·refine aX (aM (tn (dM (Z:=Unit) (α:=Unit) (fun l s=>[]) (fun l s=>[]) (fun e=>e=r) h (fun e h=>Option.some.inj h) (fun K hR h=>?_) (fun l s h=>?_))))
      ·refine sr (fl cI ?_);refine lo bQ ?_;refine ol dC ?_;refine fg rfl ?_;refine nt (ao (aK (fun j c=>[(41,Ri a0.2.2),(42,I (a0.2.2.length:Int)),(43,I c)]) (fun j c=>[]) (fN k a0) k () 0 (fun _=>rfl) h (SE.fin [] ⟨rfl,rfl,rfl,trivial⟩ rfl) (fun n j c h=>?_)));unfold fN at h;refine sr (jb (bq rfl) ?_);refine nt (ag (ci h (fun h=>?_) (fun h=>?_)))
       ·refine sk (ag (ao (sr ?_)));obtain⟨F,x,h⟩:=aa h;refine jb (aC (t:=(.int .i64)) rfl dC cg x) ?_;refine ja (ak (t:=(.int .i64)) rfl cg rfl) ?_;refine aq (nt (sr ?_));refine mq ?_;obtain⟨M,D,h⟩:=aa h;refine jc (ap [.tmp 47,.const (.int .i64 (0)),.const (.int .i64 (9))] rfl rfl Af rfl (eT k F 0 9 M D)) ?_;refine ja (dT rfl) ?_;refine nt (cw h (fun h=>?_) (fun h=>?_))
        ·refine sr (cq (nt (ay (br (bi (aV ?_))))));obtain rfl:=hR _ h;exact ra
        ·refine aX (aM (tn (ab ?_)));obtain⟨E,u,h⟩:=aa h;refine jb (bf rfl u) ?_;refine mq (nl ?_);exact jz ((),E) h []
       ·refine xa ?_;exact jz ((),()) h []
      ·refine sr (cq (nt (ay ?_)));cases h;exact ra
def eU(k:Nat)(a0:Int)(a1:Int):Option Bool:=
 (dz (0≤a1)).bind fun _=>
 some (decide ((wj .u8 (io .u8 a0 a1) 1)=1))
theorem iq(k:Nat)(a0:Int)(a1:Int)(r:Bool)(h:eU k a0 a1=some r):
 bX Tryz.prog 57 [.eq (.int .u8 a0),I a1] [] (fun _:Unit=>(bu [.eq (.bool r)],[])):=by
 unfold eU at h
 replace h:=ba h
 refine bX.of 10 Tryz.func57 rfl Tryz.ntmps57 rfl fun S w0=>?_
 refine sr ?_
 refine cq ?_
 refine nt ?_
 refine sr ?_
 iterate 2 refine mq ?_
 obtain⟨u1,c,h⟩:=aa h
 refine jb (va rfl (aB c)) ?_
 refine jb (OL rfl) ?_
 refine jb (fW rfl) ?_
 refine aq ?_
 refine nt ?_
 refine ay ?_
 cases h
 exact ra
def eO(k:Nat)(a0:Int)(a1:Int):Option Int:=
 (dz (0≤a1)).bind fun _=>
 some (Da .u8 a0 (np .u8 1 a1))
theorem jl(k:Nat)(a0:Int)(a1:Int)(r:Int)(h:eO k a0 a1=some r):
 bX Tryz.prog 106 [.eq (.int .u8 a0),I a1] [] (fun _:Unit=>(bu [.eq (.int .u8 r)],[])):=by
 unfold eO at h
 replace h:=ba h
 refine bX.of 9 Tryz.func106 rfl Tryz.ntmps106 rfl fun S w0=>?_
 refine sr ?_
 refine cq ?_
 refine nt ?_
 refine sr ?_
 iterate 2 refine mq ?_
 obtain⟨u1,c,h⟩:=aa h
 refine jb (GE rfl (aB c)) ?_
 refine jb (OJ rfl) ?_
 refine aq ?_
 refine nt ?_
 refine ay ?_
 cases h
 exact ra
def gB(k:Nat)(a0:aS)(a1:(List Int)):Nat→(Int×Int)→Option Int
 |0,_=>none
 |n+1,y4=>
  if y4.2 < (a1.length:Int) then((aR a1 y4.2).bind fun x6=>
  (aR a0.2.1 x6).bind fun x7=>
  (ck (y4.1+x7.1)).bind fun x8=>
  (ck (y4.2+1)).bind fun x9=>
  gB k a0 a1 n (x8,x9)) else(some y4.1)
def m3(k:Nat)(a0:aS)(a1:(List Int)):Option Int:=
 ((gB k a0 a1 k (0,0)):Option (Int)).bind fun x2=>
 some x2
theorem tK(k:Nat)(a0:aS)(a1:(List Int))(r:Int)(h:m3 k a0 a1=some r):
 bX Tryz.prog 107 [.rep av a0,Ri a1] [] (fun _:Unit=>(bu [I r],[])):=by
 unfold m3 at h
 replace h:=ba h
 refine bX.of 24 Tryz.func107 rfl Tryz.ntmps107 rfl fun S w0=>?_
 refine sr ?_
 refine bx fun b1=>?_
 refine cq ?_
 refine nt ?_
 refine sr ?_
 refine cq ?_
 refine nt ?_
 refine aN (Z:=Unit) (α:=Int) (fun z3 x2=>[(5,I x2)]) (fun z3 x2=>[]) h (fun K h=>?_) (fun z3 x2 h=>?_)
 ·
  refine sr (mq ?_);refine ol dC ?_;refine fg rfl ?_;refine nt (ao (aK (fun z5 y4=>[(2,Pt b1),(5,I y4.1),(8,Ri a1),(9,I (a1.length:Int)),(10,I y4.2)]) (fun z5 y4=>[.obj b1 25 (.rep av a0)]) (gB k a0 a1) k () (0,0) (fun _=>rfl) h (SE.fin [0] ⟨rfl,rfl,rfl,rfl,rfl,trivial⟩ rfl) (fun n z5 y4 h=>?_)));unfold gB at h;refine sr (jb (bq rfl) ?_);refine nt (ag (ci h (fun h=>?_) (fun h=>?_)))
  ·refine sk (ag (ao (sr ?_)));obtain⟨x6,l,h⟩:=aa h;refine jb (aC (t:=(.int .i64)) rfl dC cg l) ?_;refine ja (ak (t:=(.int .i64)) rfl cg rfl) ?_;refine aq (nt (ab ?_));refine mq ?_;refine fl bU ?_;refine lo fi ?_;refine mq ?_;obtain⟨x7,j,h⟩:=aa h;refine jb (aC (t:=aY) rfl mL jQ j) ?_;refine ja (aJ 1 false rfl kz rfl) ?_;refine ja (ak (t:=(.int .i64)) rfl cg rfl) ?_;obtain⟨x8,e,h⟩:=aa h;refine jb (bf rfl e) ?_;refine aq (au (aM (tn (ab ?_))));obtain⟨x9,c,h⟩:=aa h;refine jb (bf rfl c) ?_;refine mq (nl ?_);exact jz ((),(x8,x9)) h [0]
  ·refine xa ?_;exact jz ((),y4.1) h []
 ·
  refine sr (mq ?_);refine aq (nt (ay ?_));cases h;exact ra
def eN(k:Nat)(a0:aS)(x8:(List Int)):Nat→(Int×Int)→Option (Except Value Int)
 |0,_=>none
 |n+1,c=>
  if c.2 < (x8.length:Int) then((aR x8 c.2).bind fun e=>
  (ck ((a0.2.1.length:Int) - 1)).bind fun j=>
  (eG k e 0 j).bind fun s=>
  if¬(s=true) then(some (.error (.iface 97 (.agg #[.int .i64 3])))) else((eU k c.1 e).bind fun r=>
  if r=true then(some (.error (.iface 97 (.agg #[.int .i64 4])))) else((eO k c.1 e).bind fun l=>
  (ck (c.2+1)).bind fun h=>
  eN k a0 x8 n (l,h)))) else(some (.ok c.1))
def fM(k:Nat)(a0:aS)(a1:(List (List Int))):Nat→(Int×Int)→Option (Except Value Int)
 |0,_=>none
 |n+1,y4=>
  if y4.2 < (a1.length:Int) then(bE (α:=Int) ((aR a1 y4.2).bind fun x8=>
  bE (α:=Int) (eN k a0 x8 k (y4.1,0)) (fun e=>some (.error e)) fun x9=>
  (m3 k a0 x8).bind fun j=>
  (aR a0.2.2 y4.2).bind fun h=>
  if h < j then(some (.error (.iface 97 (.agg #[.int .i64 12])))) else(some (.ok x9))) (fun e=>some (.error e)) fun x6=>
  (ck (y4.2+1)).bind fun c=>
  fM k a0 a1 n (x6,c)) else(some (.ok y4.1))
def lA(k:Nat)(a0:aS)(a1:(List (List Int))):Option Value:=
 if(a1.length:Int) < (a0.2.2.length:Int) then(some (.iface 97 (.agg #[.int .i64 7]))) else(if(a0.2.2.length:Int) < (a1.length:Int) then(some (.iface 97 (.agg #[.int .i64 6]))) else(bE (α:=Int) (fM k a0 a1 k (0,0)) (some) fun x2=>
 (dz (0≤(a0.2.1.length:Int))).bind fun _=>
 if¬(x2=(IntKind.u8.wrap ((np .u8 1 (a0.2.1.length:Int)) - 1))) then(some (.iface 97 (.agg #[.int .i64 7]))) else(some (.nilIface))))
theorem q9(k:Nat)(a0:aS)(a1:(List (List Int)))(r:Value)(h:lA k a0 a1=some r):
 bX Tryz.prog 64 [.rep av a0,.rep (.slice (.slice (.int .i64))) a1] [] (fun _:Unit=>(bu [.eq r],[])):=by
 unfold lA at h
 replace h:=ba h
 refine bX.of 80 Tryz.func64 rfl Tryz.ntmps64 rfl fun S w0=>?_
 refine sr ?_
 refine bx fun b1=>?_
 refine cq ?_
 refine nt ?_
 refine ag ?_
 refine sr ?_
 refine fl cI ?_
 refine lo bQ ?_
 refine ol dC ?_
 refine aq ?_
 refine nt ?_
 refine ao ?_
 refine sr ?_
 refine mq ?_
 refine ol mm ?_
 refine mq ?_
 refine jb (bq rfl) ?_
 refine aq ?_
 refine nt ?_
 refine ci h (fun h=>?_) (fun h=>?_)
 ·
  refine sr (ja (cH [(0,.const (.int .i64 (7)),_)] rfl En AQ xk (g7 ⟨rfl,trivial⟩) rfl) ?_);refine ja (na rfl N6) ?_;refine aq (nt (ay (bi (aV ?_))));cases h;exact ra
 ·
  refine sr (mq ?_);refine ol mm ?_;refine mq ?_;refine jb (hC rfl) ?_;refine aq (nt ?_);refine ci h (fun h=>?_) (fun h=>?_)
  ·refine sr (ja (cH [(0,.const (.int .i64 (6)),_)] rfl En AQ xk (g7 ⟨rfl,trivial⟩) rfl) ?_);refine ja (na rfl N6) ?_;refine aq (nt (ay (bi (aV ?_))));cases h;exact ra
  ·refine aX (aM (tn (sr (cq (nt ?_)))));refine dM (Z:=Unit) (α:=Int) (fun z3 x2=>[(2,Pt b1),(6,.eq (.int .u8 x2))]) (fun z3 x2=>[.obj b1 25 (.rep av a0)]) (fun e=>e=r) h (fun e h=>Option.some.inj h) (fun K hR h=>?_) (fun z3 x2 h=>?_)
   ·refine sr (mq ?_);refine ol mm ?_;refine fg rfl ?_;refine nt (ao (aK (fun z5 y4=>[(2,Pt b1),(6,.eq (.int .u8 y4.1)),(28,.rep (.slice (.slice (.int .i64))) a1),(29,I (a1.length:Int)),(30,I y4.2)]) (fun z5 y4=>[.obj b1 25 (.rep av a0)]) (fM k a0 a1) k () (0,0) (fun _=>rfl) h (SE.fin [0] ⟨rfl,rfl,rfl,rfl,rfl,trivial⟩ rfl) (fun n z5 y4 h=>?_)));unfold fM at h;refine sr (jb (bq rfl) ?_);refine nt (ag (ci h (fun h=>?_) (fun h=>?_)))
    ·refine sk (dM (Z:=Unit) (α:=Int) (fun z7 x6=>[(2,Pt b1),(6,.eq (.int .u8 x6)),(28,.rep (.slice (.slice (.int .i64))) a1),(29,I (a1.length:Int)),(30,I y4.2)]) (fun z7 x6=>[.obj b1 25 (.rep av a0)]) (fun e=>e=r) h (fun e h=>hR e h) (fun K hR h=>?_) (fun z7 x6 h=>?_))
     ·refine ao (sr (mq ?_));obtain⟨x8,se,h⟩:=aa h;refine jb (aC (t:=(.slice (.int .i64))) rfl mm bQ se) ?_;refine ja (ak (t:=(.slice (.int .i64))) rfl bQ rfl) ?_;refine aq ?_;refine aq (nt ?_);refine dM (Z:=Unit) (α:=Int) (fun s x9=>[(2,Pt b1),(6,.eq (.int .u8 x9)),(7,I y4.2),(8,Ri x8),(28,.rep (.slice (.slice (.int .i64))) a1),(29,I (a1.length:Int)),(30,I y4.2)]) (fun s x9=>[.obj b1 25 (.rep av a0)]) (fun e=>e=r) h (fun e h=>hR e h) (fun K hR h=>?_) (fun s x9 h=>?_)
      ·refine sr (mq ?_);refine ol dC ?_;refine fg rfl ?_;refine nt (ao (aK (fun l c=>[(2,Pt b1),(6,.eq (.int .u8 c.1)),(7,I y4.2),(8,Ri x8),(28,.rep (.slice (.slice (.int .i64))) a1),(29,I (a1.length:Int)),(30,I y4.2),(35,Ri x8),(36,I (x8.length:Int)),(37,I c.2)]) (fun l c=>[.obj b1 25 (.rep av a0)]) (eN k a0 x8) k () (y4.1,0) (fun _=>rfl) h (SE.fin [0] ⟨rfl,rfl,rfl,rfl,rfl,rfl,rfl,rfl,rfl,rfl,trivial⟩ rfl) (fun n l c h=>?_)));unfold eN at h;refine sr (jb (bq rfl) ?_);refine nt (ag (ci h (fun h=>?_) (fun h=>?_)))
       ·refine sk (ag (ao (sr ?_)));obtain⟨j,F,h⟩:=aa h;refine jb (aC (t:=(.int .i64)) rfl dC cg F) ?_;refine ja (ak (t:=(.int .i64)) rfl cg rfl) ?_;refine aq (nt (ag (sr ?_)));refine mq ?_;refine fl bU ?_;refine lo fi ?_;refine ol mL ?_;obtain⟨ac,E,h⟩:=aa h;refine jb (fV rfl E) ?_;obtain⟨qt,U,h⟩:=aa h;refine jc (ap [.tmp 41,.const (.int .i64 (0)),.tmp 45] rfl rfl Af rfl (eT k j 0 ac qt U)) ?_;refine ja (dT rfl) ?_;refine nt (cw h (fun h=>?_) (fun h=>?_))
        ·refine sr (ja (cH [(0,.const (.int .i64 (3)),_)] rfl En AQ xk (g7 ⟨rfl,trivial⟩) rfl) ?_);refine ja (na rfl N6) ?_;refine aq (nt (rx (br (bi (aV (br (bi (aV ?_))))))));obtain rfl:=hR _ h;exact ra
        ·refine sk (ag (sr ?_));iterate 2 refine mq ?_
         obtain⟨pp,Q,h⟩:=aa h;refine jb (ap [.tmp 50,.tmp 51] rfl rfl Kr rfl (iq k c.1 j pp Q)) ?_;refine nt (cv h (fun h=>?_) (fun h=>?_))
         ·refine sr (ja (cH [(0,.const (.int .i64 (4)),_)] rfl En AQ xk (g7 ⟨rfl,trivial⟩) rfl) ?_);refine ja (na rfl N6) ?_;refine aq (nt (rx (br (bi (aV (br (bi (aV ?_))))))));obtain rfl:=hR _ h;exact ra
         ·refine sk (ab ?_);iterate 2 refine mq ?_
          obtain⟨u,O,h⟩:=aa h;refine jb (ap [.tmp 55,.tmp 56] rfl rfl Do rfl (jl k c.1 j u O)) ?_;refine aq (au (aM (tn (ab ?_))));obtain⟨Y,D,h⟩:=aa h;refine jb (bf rfl D) ?_;refine mq (nl ?_);exact jz ((),(u,Y)) h [0]
       ·refine xa ?_;exact jz ((),c.1) h [0]
      ·refine ag (bI ?_);refine ea 0 (aj rfl dy (tR) rfl) ?_;refine dm ?_;obtain⟨mc,M,h⟩:=aa h;refine db (ap [.tmp 59,.tmp 60] rfl rfl LF rfl (tK k a0 x8 mc M)) ?_;refine da (ar rfl cI) ?_;refine ea 0 (aj rfl bQ i9 rfl) ?_;refine dm ?_;obtain⟨TJ,y,h⟩:=aa h;refine db (aC (t:=(.int .i64)) rfl dC cg y) ?_;refine da (ak (t:=(.int .i64)) rfl cg rfl) ?_;refine df cz ?_;refine jb (hC rfl) ?_;refine nt (ci h (fun h=>?_) (fun h=>?_))
       ·refine sr (ja (cH [(0,.const (.int .i64 (12)),_)] rfl En AQ xk (g7 ⟨rfl,trivial⟩) rfl) ?_);refine ja (na rfl N6) ?_;refine aq (nt (ay (br (bi (aV ?_)))));obtain rfl:=hR _ h;exact ra
       ·refine aX (bn ?_);exact jz ((),x9) h [0]
     ·refine ab ?_;obtain⟨X,x,h⟩:=aa h;refine jb (bf rfl x) ?_;refine mq (nl ?_);exact jz ((),(x6,X)) h [0]
    ·refine xa ?_;exact jz ((),y4.1) h [0]
   ·refine ag (sr (mq ?_));refine fl bU ?_;refine lo fi ?_;refine ol mL ?_;obtain⟨TK,J,h⟩:=aa h;refine jb (GE rfl (aB J)) ?_;refine jb (Bn rfl) ?_;refine jb (g9 rfl) ?_;refine nt (cn h (fun h=>?_) (fun h=>?_))
    ·refine sr (ja (cH [(0,.const (.int .i64 (7)),_)] rfl En AQ xk (g7 ⟨rfl,trivial⟩) rfl) ?_);refine ja (na rfl N6) ?_;refine aq (nt (rx ?_));cases h;exact ra
    ·refine sk (sr (cq (nt (ay ?_))));cases h;exact ra
def cQ(k:Nat)(a0:(List (List Int)))(y5:(List (List Int))×Int):Nat→((List (List Int))×Int)→Option (List (List Int))
 |0,_=>none
 |n+1,y9=>
  if y9.2 < 5 then((((dz (0≤y5.2∧y5.2 < 3)).bind fun _=>
  (aR y9.1 y5.2).bind fun c=>
  (dz (0≤y9.2∧y9.2 < 5)).bind fun _=>
  ((if y5.2 < (a0.length:Int) then((aR a0 y5.2).bind fun r=>
  some (decide (y9.2 < (r.length:Int)))) else(some false)):Option (Bool)).bind fun s=>
  if s=true then((aR a0 y5.2).bind fun l=>
  (aR l y9.2).bind fun j=>
  (dz (0≤y5.2∧y5.2 < 3)).bind fun _=>
  (aR (List.set y9.1 (Int.toNat y5.2) (List.set c (Int.toNat y9.2) (-1:Int))) y5.2).bind fun h=>
  (dz (0≤y9.2∧y9.2 < 5)).bind fun _=>
  some (List.set (List.set y9.1 (Int.toNat y5.2) (List.set c (Int.toNat y9.2) (-1:Int))) (Int.toNat y5.2) (List.set h (Int.toNat y9.2) j))) else(some (List.set y9.1 (Int.toNat y5.2) (List.set c (Int.toNat y9.2) (-1:Int))))):Option ((List (List Int)))).bind fun u=>
  (ck (y9.2+1)).bind fun e=>
  cQ k a0 y5 n (u,e)) else(some y9.1)
def dh(k:Nat)(a0:(List (List Int))):Nat→((List (List Int))×Int)→Option (List (List Int))
 |0,_=>none
 |n+1,y5=>
  if y5.2 < 3 then(((cQ k a0 y5 k (y5.1,0)):Option ((List (List Int)))).bind fun x7=>
  (ck (y5.2+1)).bind fun c=>
  dh k a0 n (x7,c)) else(some y5.1)
def dZ(k:Nat)(a0:(List (List Int))):Option (List (List Int)):=
 ((dh k a0 k ([[0,0,0,0,0],[0,0,0,0,0],[0,0,0,0,0]],0)):Option ((List (List Int)))).bind fun x3=>
 some x3
theorem fq(k:Nat)(a0:(List (List Int)))(r:(List (List Int)))(h:dZ k a0=some r):
 bX Tryz.prog 56 [.rep (.slice (.slice (.int .i64))) a0] [] (fun _:Unit=>(bu [.rep (.arr 3 (.arr 5 (.int .i64))) r],[])):=by
 unfold dZ at h
 replace h:=ba h
 refine bX.of 43 Tryz.func56 rfl Tryz.ntmps56 rfl fun S w0=>?_
 refine sr ?_
 refine aF rfl rfl rfl (be rfl sC tD) trivial fun b1=>?_
 refine nt ?_
 refine sr ?_
 refine aF rfl rfl rfl (be rfl sC tD) trivial fun b2=>?_
 refine nt ?_
 refine aN (Z:=Unit) (α:=(List (List Int))) (fun z4 x3=>[(2,Pt b1),(3,Pt b2)]) (fun z4 x3=>[.obj b1 86 (.rep (.arr 3 (.arr 5 (.int .i64))) [[0,0,0,0,0],[0,0,0,0,0],[0,0,0,0,0]]),.obj b2 86 (.rep (.arr 3 (.arr 5 (.int .i64))) x3)]) h (fun K h=>?_) (fun z4 x3 h=>?_)
 ·
  refine sr (fg rfl ?_);refine nt (ao (aK (fun z6 y5=>[(0,.rep (.slice (.slice (.int .i64))) a0),(2,Pt b1),(3,Pt b2),(6,I y5.2)]) (fun z6 y5=>[.obj b1 86 (.rep (.arr 3 (.arr 5 (.int .i64))) [[0,0,0,0,0],[0,0,0,0,0],[0,0,0,0,0]]),.obj b2 86 (.rep (.arr 3 (.arr 5 (.int .i64))) y5.1)]) (dh k a0) k () ([[0,0,0,0,0],[0,0,0,0,0],[0,0,0,0,0]],0) (fun _=>rfl) h (SE.fin [1,0] ⟨rfl,rfl,rfl,rfl,trivial⟩ rfl) (fun n z6 y5 h=>?_)));unfold dh at h;refine sr (jb (bq rfl) ?_);refine nt (ag (ci h (fun h=>?_) (fun h=>?_)))
  ·refine sk (aN (Z:=Unit) (α:=(List (List Int))) (fun z8 x7=>[(0,.rep (.slice (.slice (.int .i64))) a0),(2,Pt b1),(3,Pt b2),(6,I y5.2)]) (fun z8 x7=>[.obj b1 86 (.rep (.arr 3 (.arr 5 (.int .i64))) [[0,0,0,0,0],[0,0,0,0,0],[0,0,0,0,0]]),.obj b2 86 (.rep (.arr 3 (.arr 5 (.int .i64))) x7)]) h (fun K h=>?_) (fun z8 x7 h=>?_))
   ·refine ao (sr (mq ?_));refine aq (nt (sr ?_));refine fg rfl ?_;refine nt (ao (aK (fun J y9=>[(0,.rep (.slice (.slice (.int .i64))) a0),(2,Pt b1),(3,Pt b2),(4,I y5.2),(6,I y5.2),(9,I y9.2)]) (fun J y9=>[.obj b1 86 (.rep (.arr 3 (.arr 5 (.int .i64))) [[0,0,0,0,0],[0,0,0,0,0],[0,0,0,0,0]]),.obj b2 86 (.rep (.arr 3 (.arr 5 (.int .i64))) y9.1)]) (cQ k a0 y5) k () (y5.1,0) (fun _=>rfl) h (SE.fin [0,1] ⟨rfl,rfl,rfl,rfl,rfl,rfl,trivial⟩ rfl) (fun n J y9 h=>?_)));unfold cQ at h;refine sr (jb (bq rfl) ?_);refine nt (ag (ci h (fun h=>?_) (fun h=>?_)))
    ·refine sk (aN (Z:=Unit) (α:=(List (List Int))) (fun F l=>[(0,.rep (.slice (.slice (.int .i64))) a0),(2,Pt b1),(3,Pt b2),(4,I y5.2),(6,I y5.2),(9,I y9.2)]) (fun F l=>[.obj b1 86 (.rep (.arr 3 (.arr 5 (.int .i64))) [[0,0,0,0,0],[0,0,0,0,0],[0,0,0,0,0]]),.obj b2 86 (.rep (.arr 3 (.arr 5 (.int .i64))) l)]) h (fun K h=>?_) (fun F l h=>?_))
     ·refine ao (sr (mq ?_));refine aq (nt (sr ?_));iterate 2 refine mq ?_
      obtain⟨TO,x,h⟩:=aa h;refine jb (iE rfl QR FY (aB x).1 (aB x).2) ?_;obtain⟨D,ac,h⟩:=aa h;obtain⟨TN,e,h⟩:=aa h;refine jb (iE rfl QT cg (aB e).1 (aB e).2) ?_;refine fr 1 ?_;refine bh rfl rfl (nM (t:=(.int .i64)) (off:=0) (i:=y5.2) (j:=y9.2) (N:=3) (L:=5) rfl cg .int rfl rfl rfl rfl ac (aB e).1 (aB e).2 rfl) ⟨rfl,rfl,trivial⟩ ?_;refine nt (aN (Z:=Unit) (α:=Bool) (fun E y=>[(0,.rep (.slice (.slice (.int .i64))) a0),(2,Pt b1),(3,Pt b2),(4,I y5.2),(5,I y9.2),(6,I y5.2),(9,I y9.2),(28,.eq (.bool y))]) (fun E y=>[.obj b1 86 (.rep (.arr 3 (.arr 5 (.int .i64))) [[0,0,0,0,0],[0,0,0,0,0],[0,0,0,0,0]]),.obj b2 86 (.rep (.arr 3 (.arr 5 (.int .i64))) (List.set y9.1 (Int.toNat y5.2) (List.set D (Int.toNat y9.2) (-1:Int))))]) h (fun K h=>?_) (fun E y h=>?_))
      ·refine ab ?_;iterate 2 refine mq ?_
       refine ol mm ?_;refine jb (bq rfl) ?_;refine mq ?_;refine cp (s:=20) rfl (fun hb=>?_) (fun hb=>?_)
       ·replace h:=cE (ou hb) h;refine gm ?_;refine gm ?_;refine gm ?_;obtain⟨TJ,Y,h⟩:=aa h;refine gb (aC (t:=(.slice (.int .i64))) rfl mm bQ Y) ?_;refine ga (ak (t:=(.slice (.int .i64))) rfl bQ rfl) ?_;refine ga (jE rfl rfl dC) ?_;refine gb (bq rfl) ?_;refine pt (nl ?_);exact jz ((),decide (y9.2 < (TJ.length:Int))) h [1,0]
       ·replace h:=bN (nw hb) h;iterate 7 refine gn ?_
        refine pf (nl ?_);exact jz ((),false) h [1,0]
      ·refine cv h (fun h=>?_) (fun h=>?_)
       ·refine bI ?_;refine dm ?_;refine dm ?_;refine dm ?_;refine dm ?_;obtain⟨TK,X,h⟩:=aa h;refine db (aC (t:=(.slice (.int .i64))) rfl mm bQ X) ?_;refine da (ak (t:=(.slice (.int .i64))) rfl bQ rfl) ?_;refine dm ?_;obtain⟨se,U,h⟩:=aa h;refine db (aC (t:=(.int .i64)) rfl dC cg U) ?_;refine da (ak (t:=(.int .i64)) rfl cg rfl) ?_;obtain⟨TM,u,h⟩:=aa h;refine db (iE rfl QR FY (aB u).1 (aB u).2) ?_;refine df cz ?_;obtain⟨qt,Q,h⟩:=aa h;obtain⟨TL,c,h⟩:=aa h;refine jb (iE rfl QT cg (aB c).1 (aB c).2) ?_;refine fr 1 ?_;refine bh rfl rfl (nM (t:=(.int .i64)) (off:=0) (i:=y5.2) (j:=y9.2) (N:=3) (L:=5) rfl cg .int rfl rfl rfl rfl Q (aB c).1 (aB c).2 rfl) ⟨rfl,rfl,trivial⟩ ?_;refine au (bn ?_);exact jz ((),List.set (List.set y9.1 (Int.toNat y5.2) (List.set D (Int.toNat y9.2) (-1:Int))) (Int.toNat y5.2) (List.set qt (Int.toNat y9.2) se)) h [1,0]
       ·refine aX (bn ?_);exact jz ((),List.set y9.1 (Int.toNat y5.2) (List.set D (Int.toNat y9.2) (-1:Int))) h [0,1]
     ·refine ab ?_;obtain⟨pp,O,h⟩:=aa h;refine jb (bf rfl O) ?_;refine mq (nl ?_);exact jz ((),(l,pp)) h [0,1]
    ·refine dH (aU (aU (bW (bn ?_))));exact jz ((),y9.1) h [0,1]
   ·refine ab ?_;obtain⟨mc,M,h⟩:=aa h;refine jb (bf rfl M) ?_;refine mq (nl ?_);exact jz ((),(x7,mc)) h [0,1]
  ·refine xa ?_;exact jz ((),y5.1) h [0,1]
 ·
  refine sr (fr 1 ?_);refine lo gf ?_;refine fr 1 ?_;refine bh rfl rfl (bb rfl gf rfl rfl rfl) ⟨rfl,rfl,trivial⟩ ?_;refine nt (ay ?_);obtain rfl:=Option.some.inj h;exact aP () [.rep (.arr 3 (.arr 5 (.int .i64))) x3] 0 ⟨⟨_,_,_,_,_,rfl,(.head _),gf,(tR),rfl⟩,trivial⟩ rfl
def cX(k:Nat)(x5:(List Int)):Nat→((List Int)×Int)→Option (List Int)
 |0,_=>none
 |n+1,y6=>
  if y6.2 < 5 then((((aR x5 y6.2).bind fun c=>
  if 0≤c then((dz (bL (List.length y6.1+List.length [c]))).bind fun _=>
  some (y6.1++[c])) else(some y6.1)):Option ((List Int))).bind fun x8=>
  (ck (y6.2+1)).bind fun e=>
  cX k x5 n (x8,e)) else(some y6.1)
def dW(k:Nat)(a0:(List (List Int)))(a1:Int):Option (List Int):=
 (((dz (0≤a1∧a1 < 3)).bind fun _=>
 (aR a0 a1).bind fun x5=>
 cX k x5 k (([]:(List Int)),0)):Option ((List Int))).bind fun x2=>
 some x2
theorem gi(k:Nat)(a0:(List (List Int)))(a1:Int)(r:(List Int))(h:dW k a0 a1=some r):
 bX Tryz.prog 80 [.rep (.arr 3 (.arr 5 (.int .i64))) a0,I a1] [] (fun _:Unit=>(bu [Ri r],[])):=by
 unfold dW at h
 replace h:=ba h
 refine bX.of 22 Tryz.func80 rfl Tryz.ntmps80 rfl fun S w0=>?_
 refine sr ?_
 refine bx fun b1=>?_
 refine cq ?_
 refine nt ?_
 refine sr ?_
 refine cq ?_
 refine nt ?_
 refine aN (Z:=Value) (α:=(List Int)) (fun z3 x2=>[(5,.eq z3)]) (fun z3 x2=>[.sl z3 3 (.int .i64) x2]) h (fun K h=>?_) (fun z3 x2 h=>?_)
 ·
  refine sr (mq ?_);obtain⟨u4,l,h⟩:=aa h;refine jb (iE rfl QR FY (aB l).1 (aB l).2) ?_;obtain⟨x5,y,h⟩:=aa h;refine ka (Bv (t:=(.arr 5 (.int .i64))) (off:=0) (i:=a1) (N:=3) rfl FY (tR) rfl rfl rfl rfl y) ?_;refine fg rfl ?_;refine nt (ao (dJ (SE.nil 3 (.int .i64)) ?_));refine aK (fun z7 y6=>[(5,.eq z7),(10,.rep (.arr 5 (.int .i64)) x5),(11,I y6.2)]) (fun z7 y6=>[.sl z7 3 (.int .i64) y6.1]) (cX k x5) k (.slice none 0 0) (([]:(List Int)),0) (fun _=>rfl) h (SE.fin [0] ⟨rfl,rfl,rfl,trivial⟩ rfl) (fun n z7 y6 h=>?_);unfold cX at h;refine sr (jb (bq rfl) ?_);refine nt (ag (ci h (fun h=>?_) (fun h=>?_)))
  ·refine sk (aN (Z:=Value) (α:=(List Int)) (fun z9 x8=>[(5,.eq z9),(10,.rep (.arr 5 (.int .i64)) x5),(11,I y6.2)]) (fun z9 x8=>[.sl z9 3 (.int .i64) x8]) h (fun K h=>?_) (fun z9 x8 h=>?_))
   ·refine ao (sr ?_);obtain⟨c,j,h⟩:=aa h;refine jb (zr (t:=(.int .i64)) rfl QT cg rfl rfl (fun _=>rfl) j) ?_;refine aq (nt (sr ?_));refine mq ?_;refine jb (qo rfl) ?_;refine nt (ci h (fun h=>?_) (fun h=>?_))
    ·refine ab ?_;iterate 2 refine mq ?_
     refine ja (bj (t:=(.int .i64)) [(.tmp 17,_)] [c] rfl rfl dB (.cons rfl .int .nil) rfl rfl) ?_;obtain⟨D,s,h⟩:=aa h;refine cU rfl rfl rfl (bD rfl rfl dB (aB s)) ⟨rfl,rfl,trivial⟩ fun x=>?_;refine aq (au (bn ?_));exact jz (x,y6.1++[c]) h [0]
    ·refine aX (bn ?_);exact jz (z7,y6.1) h [0]
   ·refine ab ?_;obtain⟨u,e,h⟩:=aa h;refine jb (bf rfl e) ?_;refine mq (nl ?_);exact jz (z9,(x8,u)) h [0]
  ·refine xa ?_;exact jz (z7,y6.1) h [0]
 ·
  refine sr (mq ?_);refine aq (nt (ay ?_));refine bv (eJ [4,5,21] ⟨rfl,rfl,rfl,trivial⟩) ?_;cases h;exact ra
def cG{σ:Type}(k:Nat)(a1:(List Int))(Y:σ→(Int×Int)→Option (σ×Bool)):Nat→(Int×σ)→Option (σ)
 |0,_=>none
 |n+1,y2=>
  if 0≤y2.1 then((aR a1 y2.1).bind fun x4=>
  (Y y2.2 (y2.1,x4)).bind fun r5=>
  if¬(r5.2=true) then(some r5.1) else((ck (y2.1 - 1)).bind fun x7=>
  cG k a1 Y n (x7,r5.1))) else(some y2.2)
def gR{σ:Type}(k:Nat)(Y:σ→(Int×Int)→Option (σ×Bool))(a1:(List Int))(s0:σ):Option (σ):=
 (ck ((a1.length:Int) - 1)).bind fun x1=>
 cG k a1 Y k (x1,s0)
theorem ow{M:Md Tryz.prog}{σ Z:Type}(E:Z→σ→List D)(l:Nat)(Y:σ→(Int×Int)→Option (σ×Bool))(k:Nat)(a1:(List Int))(c:Nat)(hY:∀z s p r,Y s p=some r→YT M l [I p.1,I p.2] (E z s) (fun z':Z=>(.eq (.bool r.2),E z' r.1))):
 ∀(z0:Z) (s0:σ) (r:σ),gR k Y a1 s0=some r→dw M 180 [.eq (.func (.yield l) #[] #[]),Pt c] ([.obj c 23 (Ri a1)]++E z0 s0) (fun z:Z=>(bu [],[.obj c 23 (Ri a1)]++E z r)):=by
 intro z0 s0 r h
 unfold gR at h
 replace h:=ba h
 refine dw.of 19 Tryz.func180 rfl Tryz.ntmps180 rfl fun S w0=>?_
 refine sr ?_
 refine lo bQ ?_
 refine ol dC ?_
 obtain⟨x1,u,h⟩:=aa h
 refine jb (fV rfl u) ?_
 refine aq ?_
 refine nt ?_
 refine ao ?_
 refine aK (Z:=Z) (α:=Int×σ) (fun z3 y2=>[(0,.eq (.func (.yield l) #[] #[])),(1,Pt c),(3,I y2.1)]) (fun z3 y2=>[.obj c 23 (Ri a1)]++E z3 y2.2) (cG k a1 Y) k z0 (x1,s0) (fun _=>rfl) h (bp [.obj c 23 (Ri a1)] (E z0 s0) [0] ⟨rfl,rfl,rfl,trivial⟩ rfl) (fun n z3 y2 h=>?_)
 unfold cG at h
 refine ag ?_
 refine sr ?_
 refine mq ?_
 refine jb (qo rfl) ?_
 refine nt ?_
 refine ci h (fun h=>?_) (fun h=>?_)
 ·
  refine sk (ag (ao (sr ?_)));iterate 2 refine mq ?_
  refine lo bQ ?_;refine mq ?_;obtain⟨x4,j,h⟩:=aa h;refine jb (aC (t:=(.int .i64)) rfl dC cg j) ?_;refine ja (ak (t:=(.int .i64)) rfl cg rfl) ?_;obtain⟨r5,x,h⟩:=aa h;refine pz [.obj c 23 (Ri a1)] rfl rfl rfl (xJ [.tmp 12,.tmp 16] rfl rfl rfl (hY z3 y2.2 (y2.1,x4) r5 x)) ⟨rfl,rfl,rfl,trivial⟩ fun z6=>?_;refine ja (dT rfl) ?_;refine nt (cw h (fun h=>?_) (fun h=>?_))
  ·refine ay (br (bi ?_));cases h;exact iQ z6 [] trivial rfl
  ·refine aX (aM (tn (ab (mq ?_))));obtain⟨x7,e,h⟩:=aa h;refine jb (fV rfl e) ?_;refine aq (nl ?_);exact iP (z6,(x7,r5.1)) h (bp [.obj c 23 (Ri a1)] (E z6 r5.1) [0] ⟨rfl,rfl,rfl,trivial⟩ rfl)
 ·
  refine dH (aU (aU (bW (jh ?_))));cases h;exact iQ z3 [] trivial rfl
theorem qh(a0:(List Int)):bX Tryz.prog 162 [Ri a0] [] (fun z:Nat=>(bu [.eq (.func (.func 180) #[] #[(Pv z)])],[.obj z 23 (Ri a0)])):=by
 refine bX.of 4 Tryz.func162 rfl Tryz.ntmps162 rfl fun S w0=>?_;refine sr (bx fun z=>?_);refine cq (nt (sr ?_));refine ja (sU [] [.tmp 1] [] [(Pv z)] rfl rfl rfl) ?_;refine aq (nt (ay ?_));exact aP z [_] 1 ⟨rfl,trivial⟩ rfl
def oL(k:Nat)(a0:(List Int)):Option (List Int):=
 (gR k (qn (fun(y3:(List Int)) (p5:(Int×Int))=>
  some ((p5.2::y3),true))) a0 ([],false)).bind fun r6=>
 if r6.2=true then(none) else(some r6.1)
theorem yS(k:Nat)(a0:(List Int))(r:(List Int))(h:oL k a0=some r):
 bX Tryz.prog 129 [Ri a0] [] (fun _:Unit=>(bu [.rep (.lst (.int .i64)) r],[])):=by
 unfold oL at h
 replace h:=ba h
 refine yz 15 Tryz.func129 rfl Tryz.ntmps129 rfl fun {M} S w0=>?_
 refine sr ?_
 refine cq ?_
 refine nt ?_
 refine sr ?_
 refine aF rfl rfl rfl (be rfl Oc Qs) trivial fun b1=>?_
 refine nt ?_
 refine ag ?_
 refine sr ?_
 refine mq ?_
 refine aF rfl rfl rfl (ap [.tmp 6] rfl rfl P5 rfl (qh a0)) ⟨rfl,trivial⟩ fun b2=>?_
 refine nt ?_
 refine ao ?_
 refine ji 1 rfl ?_
 refine dJ (nV (a:=.eq (.pointer none)) (a':=.rep (.lst (.int .i64)) []) (vP .lnil)) ?_
 refine ji 1 rfl ?_
 obtain⟨r6,c,h⟩:=aa h
 refine nY (Δ:=[.obj b2 23 (Ri a0),.obj b1 201 (.rep (.lst (.int .i64)) [])]) (F:=[]) (X:=Unit) (J:=fun _=>JL r6.2) (E:=fun z4=>[.obj b2 23 (Ri a0),.obj b1 201 (.rep (.lst (.int .i64)) r6.1)]) (r0:=fun _=>.tup .any) rfl rfl PZ (fun rec hp ha hb hs hpe hN hv l=>?_) (fun dl z4=>qD (fun hj=>?_) (fun hj=>?_))
 ·
  rcases rec with⟨st0,pe0,fn0,tm0,ps0,as0,bd0,df0⟩;dsimp only at hp ha hb hs hpe hN hv;subst hp hs hpe;have vN:vF tm0 [(3,Pt b1)]:=⟨congrArg A.eq (hv 3 _ rfl).symm,trivial⟩;refine dw.pick (M:=M) [1,0,2] [1,0,2] (ow (fun(z4:Unit) (q:(List Int)×Bool)=>[.raw l (.loop (jS ⟨.ready,none,fn0,tm0, #[8,9],as0,bd0,df0⟩ (JL q.2))),.obj b1 201 (.rep (.lst (.int .i64)) q.1)]) l (qn (fun(y3:(List Int)) (p5:(Int×Int))=>
  some ((p5.2::y3),true))) k a0 b2 (fun z4 q p r' h=>?_) () ([],false) r6 c) rfl (fun _=>rfl) (fun _=>rfl)
  obtain⟨rq,hq,h2,rfl⟩:=qE h;obtain⟨y3,b5⟩:=q;obtain rfl:b5=false:=hq;replace h:=ba h2;obtain⟨p5,hpv⟩:∃x,x=p:=⟨_,rfl⟩;subst hpv;refine YT.pick (R':=(fun z4:Unit=>(.eq (.bool rq.2),[.raw l (.loop (jS ⟨.ready,none,fn0,tm0, #[8,9],as0,bd0,df0⟩ (JL (!rq.2)))),.obj b1 201 (.rep (.lst (.int .i64)) rq.1)]))) [0,1] [0,1] (KW ha hb (N:=15) (Γ:=[(3,Pt b1)]) rfl hN (by decide) vN (fun S w=>?_)) rfl (fun _=>rfl) (fun _=>rfl);refine ab (aq (nl ?_));refine vM rfl rfl ?_;refine ao (ab (mq ?_));refine fr 1 ?_;refine lo yX ?_;refine jb (cH [(0,.tmp 10,_),(1,.tmp 11,_)] rfl OF Ob NA (g7 ⟨rfl,rfl,trivial⟩) rfl) ?_;refine aF rfl rfl rfl (oh rfl trivial) ⟨rfl,trivial⟩ fun b7=>?_;refine cC (lG (t:=FU) (x:=(p5.2,y3)) [13] (.agg (.pair .int .rep)) ⟨rfl,trivial⟩) ?_;refine bh rfl rfl (bb rfl yX trivial rfl rfl) ⟨rfl,rfl,trivial⟩ ?_;refine au (aM (bv (nV (a:=.at FU (p5.2,y3)) (a':=.rep (.lst (.int .i64)) (p5.2::y3)) (vP .lcons)) ?_));refine dj 1 rfl ?_;cases h;exact tI () 1 rfl
 ·
  replace h:=bN (D3 hj) h;refine aM (tn (sr (fr 2 ?_)));refine lo yX ?_;refine aq (nt (ay ?_));refine dj 1 rfl ?_;refine yw ?_;cases h;exact ra
 ·
  replace h:=cE (D2 hj) h;cases h
def gC(k:Nat)(a1:Int):Nat→(Int×(List Int)×(List Int)×(List Int))→Option (Int×(List Int))
 |0,_=>none
 |n+1,y2=>
  if List.isEmpty y2.2.2.2=true then((dz (bL (List.length y2.2.2.1+List.length y2.2.1))).bind fun _=>
  some (y2.1,y2.2.2.1++y2.2.1)) else((oI y2.2.2.2).bind fun x6=>
  (eU k a1 x6.1).bind fun r7=>
  if r7=true then((oI y2.2.2.2).bind fun x8=>
  (dz (bL (List.length y2.2.1+List.length [x8.1]))).bind fun _=>
  (oI y2.2.2.2).bind fun l=>
  gC k a1 n (y2.1,y2.2.1++[x8.1],y2.2.2.1,l.2)) else(((if 0 < (y2.2.1.length:Int) then((oI y2.2.2.2).bind fun h=>
  (eO k y2.1 h.1).bind fun r=>
  some r) else(some y2.1)):Option (Int)).bind fun j=>
  (oI y2.2.2.2).bind fun c=>
  (dz (bL (List.length y2.2.2.1+List.length [c.1]))).bind fun _=>
  (oI y2.2.2.2).bind fun e=>
  gC k a1 n (j,y2.2.1,y2.2.2.1++[c.1],e.2)))
def m4(k:Nat)(a0:(List Int))(a1:Int):Option (Int×(List Int)):=
 (oL k a0).bind fun r1=>
 gC k a1 k (0,([]:(List Int)),([]:(List Int)),r1)
theorem tL(k:Nat)(a0:(List Int))(a1:Int)(r:Int×(List Int))(h:m4 k a0 a1=some r):
 bX Tryz.prog 99 [Ri a0,.eq (.int .u8 a1)] [] (fun _:Unit=>(bu [.eq (.int .u8 r.1),Ri r.2],[])):=by
 unfold m4 at h
 replace h:=ba h
 refine bX.of 54 Tryz.func99 rfl Tryz.ntmps99 rfl fun S w0=>?_
 refine sr ?_
 refine cq ?_
 refine cq ?_
 refine nt ?_
 refine Ff rfl (Dk (by kernel_rfl) (Dk (by kernel_rfl) (MW MV))) ?_
 refine sr ?_
 refine cq ?_
 refine cq ?_
 refine nt ?_
 refine sr ?_
 refine mq ?_
 obtain⟨r1,mc,h⟩:=aa h
 have pp:=yS k a0 r1 mc
 refine ja (ap [.tmp 9] rfl rfl Qc rfl pp) ?_
 refine aq ?_
 refine nt ?_
 refine ag ?_
 refine IF ?_
 refine tn ?_
 refine dJ (SE.nil 3 (.int .i64)) ?_
 refine dJ (SE.nil 3 (.int .i64)) ?_
 refine CC (Z:=Value×Value) (α:=Int×(List Int)×(List Int)×(List Int)) rfl (fun z3 y2=>[(1,.eq (.int .u8 a1)),(4,.eq (.int .u8 y2.1)),(6,.eq z3.1),(7,.eq z3.2),(8,.rep (.lst (.int .i64)) y2.2.2.2)]) (fun z3 y2=>[.sl z3.1 3 (.int .i64) y2.2.1,.sl z3.2 3 (.int .i64) y2.2.2.1]) (gC k a1) k ((.slice none 0 0),(.slice none 0 0)) (0,([]:(List Int)),([]:(List Int)),r1) (fun _=>rfl) h (SE.fin [1,0] ⟨rfl,rfl,rfl,rfl,rfl,trivial⟩ rfl) (fun n z3 y2 h=>?_)
 unfold gC at h
 refine ag ?_
 refine sr ?_
 refine mq ?_
 refine jb (GK rfl SR) ?_
 refine nt ?_
 refine cv h (fun h=>?_) (fun h=>?_)
 ·
  refine sr ?_;iterate 3 refine mq ?_
  refine cC (eJ [6,15] ⟨rfl,rfl,trivial⟩) ?_;obtain⟨u4,Y,h⟩:=aa h;refine cU rfl rfl rfl (bD rfl rfl dB (aB Y)) ⟨rfl,rfl,trivial⟩ fun v5=>?_;refine aq ?_;refine aq (nt (rx ?_));refine IE ?_;refine bv (eJ [5,16] ⟨rfl,rfl,trivial⟩) ?_;cases h;exact rb
 ·
  refine sk (ag (sr ?_));iterate 2 refine mq ?_
  obtain⟨x6,U,h⟩:=aa h;refine ja (lD rfl U) ?_;refine ja (aJ 1 false rfl uo rfl) ?_;refine ja (ak (t:=(.int .i64)) rfl cg rfl) ?_;obtain⟨r7,ac,h⟩:=aa h;refine jb (ap [.tmp 17,.tmp 21] rfl rfl Kr rfl (iq k a1 x6.1 r7 ac)) ?_;refine nt (cv h (fun h=>?_) (fun h=>?_))
  ·refine sr ?_;iterate 2 refine mq ?_
   obtain⟨x8,Q,h⟩:=aa h;refine ja (lD rfl Q) ?_;refine ja (aJ 1 false rfl uo rfl) ?_;refine ja (ak (t:=(.int .i64)) rfl cg rfl) ?_;refine ja (bj (t:=(.int .i64)) [(.tmp 27,_)] [x8.1] rfl rfl dB (.cons rfl .int .nil) rfl rfl) ?_;obtain⟨u9,X,h⟩:=aa h;refine cU rfl rfl rfl (bD rfl rfl dB (aB X)) ⟨rfl,rfl,trivial⟩ fun O=>?_;refine aq (nt (sr ?_));refine mq ?_;obtain⟨J,y,h⟩:=aa h;refine ja (lD rfl y) ?_;refine ja (aJ 1 false rfl Di rfl) ?_;refine ja (ak (t:=(.lst (.int .i64))) rfl yX rfl) ?_;refine aq (nt ?_);refine DJ ?_;refine Fe ?_;exact DG ((O,z3.2),(y2.1,y2.2.1++[x8.1],y2.2.2.1,J.2)) h (SE.fin [0,1] ⟨rfl,rfl,rfl,rfl,rfl,trivial⟩ rfl)
  ·refine sk (aN (Z:=Unit) (α:=Int) (fun e c=>[(1,.eq (.int .u8 a1)),(4,.eq (.int .u8 c)),(6,.eq z3.1),(7,.eq z3.2),(8,.rep (.lst (.int .i64)) y2.2.2.2)]) (fun e c=>[.sl z3.1 3 (.int .i64) y2.2.1,.sl z3.2 3 (.int .i64) y2.2.2.1]) h (fun K h=>?_) (fun e c h=>?_))
   ·refine sr (mq ?_);refine ka (c9 rfl rfl dC) ?_;refine jb (hC rfl) ?_;refine nt (ci h (fun h=>?_) (fun h=>?_))
    ·refine ab ?_;iterate 2 refine mq ?_
     obtain⟨I,x,h⟩:=aa h;refine ja (lD rfl x) ?_;refine ja (aJ 1 false rfl uo rfl) ?_;refine ja (ak (t:=(.int .i64)) rfl cg rfl) ?_;obtain⟨l,E,h⟩:=aa h;refine jb (ap [.tmp 37,.tmp 41] rfl rfl Do rfl (jl k y2.1 I.1 l E)) ?_;refine aq (nl ?_);exact jz ((),l) h [0,1]
    ·refine aX (ae ?_);exact jz ((),y2.1) h [0,1]
   ·refine sr ?_;iterate 2 refine mq ?_
    obtain⟨j,u,h⟩:=aa h;refine ja (lD rfl u) ?_;refine ja (aJ 1 false rfl uo rfl) ?_;refine ja (ak (t:=(.int .i64)) rfl cg rfl) ?_;refine ja (bj (t:=(.int .i64)) [(.tmp 47,_)] [j.1] rfl rfl dB (.cons rfl .int .nil) rfl rfl) ?_;obtain⟨qt,D,h⟩:=aa h;refine fr 1 ?_;refine cU rfl rfl rfl (bD rfl rfl dB (aB D)) ⟨rfl,rfl,trivial⟩ fun M=>?_;refine aq (nt (sr ?_));refine mq ?_;obtain⟨F,s,h⟩:=aa h;refine ja (lD rfl s) ?_;refine ja (aJ 1 false rfl Di rfl) ?_;refine ja (ak (t:=(.lst (.int .i64))) rfl yX rfl) ?_;refine aq (nt ?_);refine DJ ?_;exact DG ((z3.1,M),(c,y2.2.1,y2.2.2.1++[j.1],F.2)) h (SE.fin [1,0] ⟨rfl,rfl,rfl,rfl,rfl,trivial⟩ rfl)
def dp(k:Nat)(a0:(List Int))(a1:Int):Nat→Int→Option (Except Int Unit)
 |0,_=>none
 |n+1,y3=>
  if y3 < (a0.length:Int) then((aR a0 y3).bind fun x5=>
  if a1=x5 then(some (.error y3)) else((ck (y3+1)).bind fun x6=>
  dp k a0 a1 n x6)) else(some (.ok ()))
def i8(k:Nat)(a0:(List Int))(a1:Int):Option Int:=
 bE (α:=Unit) (dp k a0 a1 k 0) (some) fun _=>
 some (-1:Int)
theorem sM(k:Nat)(a0:(List Int))(a1:Int)(r:Int)(h:i8 k a0 a1=some r):
 bX Tryz.prog 87 [Ri a0,I a1] [] (fun _:Unit=>(bu [I r],[])):=by
 unfold i8 at h
 replace h:=ba h
 refine bX.of 19 Tryz.func87 rfl Tryz.ntmps87 rfl fun S w0=>?_
 refine sr ?_
 refine cq ?_
 refine nt ?_
 refine dM (Z:=Unit) (α:=Unit) (fun z2 x1=>[]) (fun z2 x1=>[]) (fun e=>e=r) h (fun e h=>Option.some.inj h) (fun K hR h=>?_) (fun z2 x1 h=>?_)
 ·
  refine sr (mq ?_);refine ol dC ?_;refine fg rfl ?_;refine nt (ao (aK (fun z4 y3=>[(0,Ri a0),(1,I a1),(7,I (a0.length:Int)),(8,I y3)]) (fun z4 y3=>[]) (dp k a0 a1) k () 0 (fun _=>rfl) h (SE.fin [] ⟨rfl,rfl,rfl,rfl,trivial⟩ rfl) (fun n z4 y3 h=>?_)));unfold dp at h;refine sr (jb (bq rfl) ?_);refine nt (ag (ci h (fun h=>?_) (fun h=>?_)))
  ·refine sk (ag (ao (sr (mq ?_))));refine aq (nt (sr ?_));iterate 3 refine mq ?_
   obtain⟨x5,j,h⟩:=aa h;refine jb (aC (t:=(.int .i64)) rfl dC cg j) ?_;refine ja (ak (t:=(.int .i64)) rfl cg rfl) ?_;refine jb (fW rfl) ?_;refine nt (ci h (fun h=>?_) (fun h=>?_))
   ·refine sr (mq ?_);refine aq (nt (ay (br (bi (aV ?_)))));obtain rfl:=hR _ h;exact ra
   ·refine aX (aM (tn (ab ?_)));obtain⟨x6,c,h⟩:=aa h;refine jb (bf rfl c) ?_;refine mq (nl ?_);exact jz ((),x6) h []
  ·refine xa ?_;exact jz ((),()) h []
 ·
  refine sr (cq (nt (ay ?_)));cases h;exact ra
def gj(k:Nat)(a0:(List Int))(a1:Int):Option Bool:=
 (i8 k a0 a1).bind fun r1=>
 some (decide (0≤r1))
theorem qf(k:Nat)(a0:(List Int))(a1:Int)(r:Bool)(h:gj k a0 a1=some r):
 bX Tryz.prog 130 [Ri a0,I a1] [] (fun _:Unit=>(bu [.eq (.bool r)],[])):=by
 unfold gj at h
 replace h:=ba h
 refine bX.of 9 Tryz.func130 rfl Tryz.ntmps130 rfl fun S w0=>?_
 refine sr ?_
 refine cq ?_
 refine nt ?_
 refine sr ?_
 iterate 2 refine mq ?_
 obtain⟨r1,c,h⟩:=aa h
 have e:=sM k a0 a1 r1 c
 refine jb (ap [.tmp 5,.tmp 6] rfl rfl RQ rfl e) ?_
 refine jb (qo rfl) ?_
 refine aq ?_
 refine nt ?_
 refine ay ?_
 cases h
 exact ra
def fh(k:Nat)(a0:dn)(a1:Int):Nat→(Int×Int)→Option Int
 |0,_=>none
 |n+1,y3=>
  if y3.2 < (a0.1.2.1.length:Int) then((((aR a0.1.2.1 y3.2).bind fun x7=>
  (gj k x7.2 a1).bind fun r9=>
  if r9=true then((eO k y3.1 y3.2).bind fun e=>
  some e) else(some y3.1)):Option (Int)).bind fun x5=>
  (ck (y3.2+1)).bind fun c=>
  fh k a0 a1 n (x5,c)) else(some y3.1)
def hQ(k:Nat)(a0:dn)(a1:Int):Option Int:=
 ((fh k a0 a1 k (0,0)):Option (Int)).bind fun x1=>
 some x1
theorem mZ(k:Nat)(a0:dn)(a1:Int)(r:Int)(h:hQ k a0 a1=some r):
 bX Tryz.prog 100 [.at bK a0,I a1] [] (fun _:Unit=>(bu [.eq (.int .u8 r)],[])):=by
 unfold hQ at h
 replace h:=ba h
 refine bX.of 28 Tryz.func100 rfl Tryz.ntmps100 rfl fun S w0=>?_
 refine sr ?_
 refine cq ?_
 refine nt ?_
 refine sr ?_
 refine cq ?_
 refine nt ?_
 refine aN (Z:=Unit) (α:=Int) (fun z2 x1=>[(5,.eq (.int .u8 x1))]) (fun z2 x1=>[]) h (fun K h=>?_) (fun z2 x1 h=>?_)
 ·
  refine sr (mq ?_);refine ja (dO rfl) ?_;refine ja (aJ 3 true rfl j0 rfl) ?_;refine ja (aJ 1 false rfl bU rfl) ?_;refine ja (ak (t:=(.slice aY)) rfl fi rfl) ?_;refine ol mL ?_;refine fg rfl ?_;refine nt (ao (aK (fun z4 y3=>[(1,I a1),(5,.eq (.int .u8 y3.1)),(12,Rs aY a0.1.2.1),(13,I (a0.1.2.1.length:Int)),(14,I y3.2)]) (fun z4 y3=>[]) (fh k a0 a1) k () (0,0) (fun _=>rfl) h (SE.fin [] ⟨rfl,rfl,rfl,rfl,rfl,trivial⟩ rfl) (fun n z4 y3 h=>?_)));unfold fh at h;refine sr (jb (bq rfl) ?_);refine nt (ag (ci h (fun h=>?_) (fun h=>?_)))
  ·refine sk (aN (Z:=Unit) (α:=Int) (fun z6 x5=>[(1,I a1),(5,.eq (.int .u8 x5)),(12,Rs aY a0.1.2.1),(13,I (a0.1.2.1.length:Int)),(14,I y3.2)]) (fun z6 x5=>[]) h (fun K h=>?_) (fun z6 x5 h=>?_))
   ·refine ao (sr (mq ?_));obtain⟨x7,s,h⟩:=aa h;refine jb (aC (t:=aY) rfl mL jQ s) ?_;refine ja (ak (t:=aY) rfl jQ rfl) ?_;refine aF rfl rfl rfl (be rfl t4 KQ) trivial fun b8=>?_;refine aq ?_;refine bh rfl rfl (bb rfl jQ rfl rfl rfl) ⟨rfl,rfl,trivial⟩ ?_;refine nt (sr (fl jZ ?_));refine lo bQ ?_;refine mq ?_;obtain⟨r9,u,h⟩:=aa h;refine jb (ap [.tmp 20,.tmp 21] rfl rfl Qb rfl (qf k x7.2 a1 r9 u)) ?_;refine nt (cv h (fun h=>?_) (fun h=>?_))
    ·refine ab ?_;iterate 2 refine mq ?_
     obtain⟨c,j,h⟩:=aa h;refine jb (ap [.tmp 23,.tmp 24] rfl rfl Do rfl (jl k y3.1 y3.2 c j)) ?_;refine aq (au (bn ?_));exact jz ((),c) h []
    ·refine aX (bn ?_);exact jz ((),y3.1) h []
   ·refine ab ?_;obtain⟨l,e,h⟩:=aa h;refine jb (bf rfl e) ?_;refine mq (nl ?_);exact jz ((),(x5,l)) h []
  ·refine xa ?_;exact jz ((),y3.1) h []
 ·
  refine sr (mq ?_);refine aq (nt (ay ?_));cases h;exact ra
def cV(k:Nat)(a0:dn)(a1:(List (List Int)))(a2:Int):Nat→(Int×(List (List Int))×Int)→Option (Int×(List (List Int)))
 |0,_=>none
 |n+1,y5=>
  if y5.2.2 < 3 then((dW k a1 y5.2.2).bind fun r7=>
  (hQ k a0 a2).bind fun r8=>
  (m4 k r7 r8).bind fun r9=>
  (dz (bL (List.length y5.2.1+List.length [r9.2]))).bind fun _=>
  (ck (y5.2.2+1)).bind fun c=>
  cV k a0 a1 a2 n (Da .u8 y5.1 r9.1,y5.2.1++[r9.2],c)) else(some (y5.1,y5.2.1))
def iK(k:Nat)(a0:dn)(a1:(List (List Int)))(a2:Int):Option (Int×(List (List Int))):=
 ((cV k a0 a1 a2 k (0,([]:(List (List Int))),0)):Option (Int×(List (List Int)))).bind fun x3=>
 (dZ k x3.2).bind fun c=>
 some (x3.1,c)
theorem od(k:Nat)(a0:dn)(a1:(List (List Int)))(a2:Int)(r:Int×(List (List Int)))(h:iK k a0 a1 a2=some r):
 bX Tryz.prog 55 [.at bK a0,.rep (.arr 3 (.arr 5 (.int .i64))) a1,I a2] [] (fun _:Unit=>(bu [.eq (.int .u8 r.1),.rep (.arr 3 (.arr 5 (.int .i64))) r.2],[])):=by
 unfold iK at h
 replace h:=ba h
 refine bX.of 37 Tryz.func55 rfl Tryz.ntmps55 rfl fun S w0=>?_
 refine sr ?_
 refine bx fun b1=>?_
 refine cq ?_
 refine aF rfl rfl rfl (be rfl sC tD) trivial fun b2=>?_
 refine nt ?_
 refine sr ?_
 refine cq ?_
 refine nt ?_
 refine sr ?_
 refine cq ?_
 refine nt ?_
 refine aN (Z:=Value) (α:=Int×(List (List Int))) (fun z4 x3=>[(7,Pt b2),(8,.eq (.int .u8 x3.1)),(9,.eq z4)]) (fun z4 x3=>[.obj b2 86 (.rep (.arr 3 (.arr 5 (.int .i64))) [[0,0,0,0,0],[0,0,0,0,0],[0,0,0,0,0]]),.sl z4 23 (.slice (.int .i64)) x3.2]) h (fun K h=>?_) (fun z4 x3 h=>?_)
 ·
  refine sr (fg rfl ?_);refine nt (ao (dJ (SE.nil 23 (.slice (.int .i64))) ?_));refine aK (fun z6 y5=>[(0,.at bK a0),(2,I a2),(4,Pt b1),(7,Pt b2),(8,.eq (.int .u8 y5.1)),(9,.eq z6),(13,I y5.2.2)]) (fun z6 y5=>[.obj b1 86 (.rep (.arr 3 (.arr 5 (.int .i64))) a1),.obj b2 86 (.rep (.arr 3 (.arr 5 (.int .i64))) [[0,0,0,0,0],[0,0,0,0,0],[0,0,0,0,0]]),.sl z6 23 (.slice (.int .i64)) y5.2.1]) (cV k a0 a1 a2) k (.slice none 0 0) (0,([]:(List (List Int))),0) (fun _=>rfl) h (SE.fin [2,1,0] ⟨rfl,rfl,rfl,rfl,rfl,rfl,rfl,trivial⟩ rfl) (fun n z6 y5 h=>?_);unfold cV at h;refine sr (jb (bq rfl) ?_);refine nt (ag (ci h (fun h=>?_) (fun h=>?_)))
  ·refine sk (ag (ao (sr (mq ?_))));refine aq (nt (sr ?_));refine lo gf ?_;refine mq ?_;obtain⟨r7,D,h⟩:=aa h;refine jb (ap [.tmp 17,.tmp 18] rfl rfl Kq rfl (gi k a1 y5.2.2 r7 D)) ?_;iterate 2 refine mq ?_
   obtain⟨r8,y,h⟩:=aa h;refine jb (ap [.tmp 20,.tmp 21] rfl rfl Qm rfl (mZ k a0 a2 r8 y)) ?_;obtain⟨r9,x,h⟩:=aa h;refine jb (ap [.tmp 19,.tmp 22] rfl rfl RN rfl (tL k r7 r8 r9 x)) ?_;refine mq ?_;refine xr ?_;refine xr ?_;refine aq ?_;refine aq (nt (sr ?_));iterate 2 refine mq ?_
   refine jb (OJ rfl) ?_;refine aq (nt (ab ?_));iterate 2 refine mq ?_
   refine ja (bj (t:=(.slice (.int .i64))) [(.tmp 30,_)] [r9.2] rfl rfl oN (.cons rfl .rep .nil) rfl rfl) ?_;obtain⟨E,j,h⟩:=aa h;refine fr 2 ?_;refine cU rfl rfl rfl (bD rfl rfl oN (aB j)) ⟨rfl,rfl,trivial⟩ fun u=>?_;refine aq (au (aM (tn (ab ?_))));obtain⟨s,e,h⟩:=aa h;refine jb (bf rfl e) ?_;refine mq (nl ?_);exact jz (u,(Da .u8 y5.1 r9.1,y5.2.1++[r9.2],s)) h [1,2,0]
  ·refine xa ?_;exact jz (z6,(y5.1,y5.2.1)) h [1,2]
 ·
  refine sr ?_;iterate 2 refine mq ?_
  obtain⟨c,l,h⟩:=aa h;refine fr 1 ?_;refine ka (vJ (N:=[(.tmp 35,.eq z4)]) (ap [.tmp 35] rfl rfl ET rfl (fq k x3.2 c l)) (fun _ _ _ hv hn=>⟨(lend hn.1 hv),trivial⟩) (fun _=>⟨rfl,Ae⟩)) ?_;refine aq ?_;refine fr 1 ?_;refine bh rfl rfl (bb rfl gf rfl rfl rfl) ⟨rfl,rfl,trivial⟩ ?_;refine nt (ay ?_);cases h;exact aP () [_,.rep (.arr 3 (.arr 5 (.int .i64))) c] 0 ⟨rfl,⟨_,_,_,_,_,rfl,(.head _),gf,(tR),rfl⟩,trivial⟩ rfl
def eB(k:Nat)(a0:dn)(a1:(List (List Int))):Nat→((List (List Int))×Int)→Option (List (List Int))
 |0,_=>none
 |n+1,y6=>
  if y6.2 < ((List.replicate (Int.toNat (a0.1.2.2.length:Int)) ([]:(List Int))).length:Int) then((dW k a1 y6.2).bind fun r8=>
  (aR y6.1 y6.2).bind fun x9=>
  (ck (y6.2+1)).bind fun c=>
  eB k a0 a1 n (List.set y6.1 (Int.toNat y6.2) r8,c)) else(some y6.1)
def fp(k:Nat)(a0:dn)(a1:(List (List Int))):Option (List (List Int)):=
 (dz (0≤(a0.1.2.2.length:Int)∧bL (Int.toNat (a0.1.2.2.length:Int)))).bind fun _=>
 ((eB k a0 a1 k (List.replicate (Int.toNat (a0.1.2.2.length:Int)) ([]:(List Int)),0)):Option ((List (List Int)))).bind fun x4=>
 some x4
theorem jM(k:Nat)(a0:dn)(a1:(List (List Int)))(r:(List (List Int)))(h:fp k a0 a1=some r):
 bX Tryz.prog 58 [.at bK a0,.rep (.arr 3 (.arr 5 (.int .i64))) a1] [] (fun z:Value=>(bu [.eq z],[.sl z 23 (.slice (.int .i64)) r])):=by
 unfold fp at h
 replace h:=ba h
 refine bX.of 27 Tryz.func58 rfl Tryz.ntmps58 rfl fun S w0=>?_
 refine sr ?_
 refine bx fun b1=>?_
 refine cq ?_
 refine nt ?_
 refine sr ?_
 refine mq ?_
 refine ja (dO rfl) ?_
 refine ja (aJ 3 true rfl j0 rfl) ?_
 refine ja (aJ 1 false rfl cI rfl) ?_
 refine ja (ak (t:=(.slice (.int .i64))) rfl bQ rfl) ?_
 refine ol dC ?_
 obtain⟨u2,j,h⟩:=aa h
 refine aF rfl rfl rfl (Bt (t:=(.slice (.int .i64))) (d:=([]:(List Int))) rfl oN QZ (aB j).1 (aB j).2) ⟨rfl,rfl,trivial⟩ fun v3=>?_
 refine aq ?_
 refine nt ?_
 refine aN (Z:=Unit) (α:=(List (List Int))) (fun z5 x4=>[(5,.eq v3)]) (fun z5 x4=>[.sl v3 23 (.slice (.int .i64)) x4]) h (fun K h=>?_) (fun z5 x4 h=>?_)
 ·
  refine sr (mq ?_);refine ka (c9 rfl rfl mm) ?_;refine fg rfl ?_;refine nt (ao (aK (fun z7 y6=>[(3,Pt b1),(5,.eq v3),(15,I ((List.replicate (Int.toNat (a0.1.2.2.length:Int)) ([]:(List Int))).length:Int)),(16,I y6.2)]) (fun z7 y6=>[.obj b1 86 (.rep (.arr 3 (.arr 5 (.int .i64))) a1),.sl v3 23 (.slice (.int .i64)) y6.1]) (eB k a0 a1) k () (List.replicate (Int.toNat (a0.1.2.2.length:Int)) ([]:(List Int)),0) (fun _=>rfl) h (SE.fin [1,0] ⟨rfl,rfl,rfl,rfl,trivial⟩ rfl) (fun n z7 y6 h=>?_)));unfold eB at h;refine sr (jb (bq rfl) ?_);refine nt (ag (ci h (fun h=>?_) (fun h=>?_)))
  ·refine sk (ag (ao (sr (mq ?_))));refine aq (nt (ab ?_));iterate 2 refine mq ?_
   refine lo gf ?_;refine mq ?_;obtain⟨r8,s,h⟩:=aa h;refine jb (ap [.tmp 21,.tmp 22] rfl rfl Kq rfl (gi k a1 y6.2 r8 s)) ?_;obtain⟨x9,c,h⟩:=aa h;refine fr 1 ?_;refine kb (aZ (t:=(.slice (.int .i64))) rfl mm bQ c) ?_;refine bh rfl rfl (cR (i:=Int.toNat y6.2) rfl bQ rfl (gW c) rfl .rep rfl) ⟨rfl,rfl,trivial⟩ ?_;refine au (aM (tn (ab ?_)));obtain⟨l,e,h⟩:=aa h;refine jb (bf rfl e) ?_;refine mq (nl ?_);exact jz ((),(List.set y6.1 (Int.toNat y6.2) r8,l)) h [1,0]
  ·refine xa ?_;exact jz ((),y6.1) h [1]
 ·
  refine sr (mq ?_);refine aq (nt (ay ?_));cases h;exact aP v3 [.eq v3] 1 ⟨rfl,trivial⟩ rfl
def dI(k:Nat)(a0:(List Int))(a1:(List Int)):Nat→Int→Option (Except Bool Unit)
 |0,_=>none
 |n+1,y3=>
  if y3 < (a0.length:Int) then((aR a0 y3).bind fun x5=>
  (aR a1 y3).bind fun x6=>
  if¬(x5=x6) then(some (.error false)) else((ck (y3+1)).bind fun x7=>
  dI k a0 a1 n x7)) else(some (.ok ()))
def dE(k:Nat)(a0:(List Int))(a1:(List Int)):Option Bool:=
 if¬((a0.length:Int)=(a1.length:Int)) then(some false) else(bE (α:=Unit) (dI k a0 a1 k 0) (some) fun _=>
 some true)
theorem fK(k:Nat)(a0:(List Int))(a1:(List Int))(r:Bool)(h:dE k a0 a1=some r):
 bX Tryz.prog 24 [Ri a0,Ri a1] [] (fun _:Unit=>(bu [.eq (.bool r)],[])):=by
 unfold dE at h
 replace h:=ba h
 refine bX.of 26 Tryz.func24 rfl Tryz.ntmps24 rfl fun S w0=>?_
 refine sr ?_
 refine cq ?_
 refine nt ?_
 refine ag ?_
 refine sr ?_
 refine mq ?_
 refine ol dC ?_
 refine mq ?_
 refine ol dC ?_
 refine jb (g9 rfl) ?_
 refine nt ?_
 refine cn h (fun h=>?_) (fun h=>?_)
 ·
  refine sr (cq (nt (rx ?_)));cases h;exact ra
 ·
  refine sk (dM (Z:=Unit) (α:=Unit) (fun z2 x1=>[]) (fun z2 x1=>[]) (fun e=>e=r) h (fun e h=>Option.some.inj h) (fun K hR h=>?_) (fun z2 x1 h=>?_))
  ·refine sr (cq (nt (ao ?_)));refine aK (fun z4 y3=>[(0,Ri a0),(1,Ri a1),(5,I y3)]) (fun z4 y3=>[]) (dI k a0 a1) k () 0 (fun _=>rfl) h (SE.fin [] ⟨rfl,rfl,rfl,trivial⟩ rfl) (fun n z4 y3 h=>?_);unfold dI at h;refine ag (sr ?_);iterate 2 refine mq ?_
   refine ol dC ?_;refine jb (bq rfl) ?_;refine nt (ci h (fun h=>?_) (fun h=>?_))
   ·refine sk (ag (ao (ag (bI ?_))));refine dm ?_;refine dm ?_;obtain⟨x5,l,h⟩:=aa h;refine db (aC (t:=(.int .i64)) rfl dC cg l) ?_;refine da (ak (t:=(.int .i64)) rfl cg rfl) ?_;refine dm ?_;refine dm ?_;obtain⟨x6,j,h⟩:=aa h;refine db (aC (t:=(.int .i64)) rfl dC cg j) ?_;refine da (ak (t:=(.int .i64)) rfl cg rfl) ?_;refine df cz ?_;refine jb (g9 rfl) ?_;refine nt (cn h (fun h=>?_) (fun h=>?_))
    ·refine sr (cq (nt (ay (br (bi (aV ?_))))));obtain rfl:=hR _ h;exact ra
    ·refine aX (aM (tn (ab (mq ?_))));obtain⟨x7,c,h⟩:=aa h;refine jb (bf rfl c) ?_;refine aq (nl ?_);exact jz ((),x7) h []
   ·refine xa ?_;exact jz ((),()) h []
  ·refine sr (cq (nt (ay ?_)));cases h;exact ra
def fk(k:Nat)(a0:(List (List Int)))(a1:(List (List Int))):Nat→Int→Option (Except Bool Unit)
 |0,_=>none
 |n+1,y3=>
  if y3 < (a0.length:Int) then((aR a0 y3).bind fun x5=>
  (aR a1 y3).bind fun x6=>
  (dE k x5 x6).bind fun r7=>
  if¬(r7=true) then(some (.error false)) else((ck (y3+1)).bind fun x8=>
  fk k a0 a1 n x8)) else(some (.ok ()))
def eZ(k:Nat)(a0:(List (List Int)))(a1:(List (List Int))):Option Bool:=
 if¬((a0.length:Int)=(a1.length:Int)) then(some false) else(bE (α:=Unit) (fk k a0 a1 k 0) (some) fun _=>
 some true)
theorem iL(k:Nat)(a0:(List (List Int)))(a1:(List (List Int)))(r:Bool)(h:eZ k a0 a1=some r):
 bX Tryz.prog 25 [.rep (.slice (.slice (.int .i64))) a0,.rep (.slice (.slice (.int .i64))) a1] [] (fun _:Unit=>(bu [.eq (.bool r)],[])):=by
 unfold eZ at h
 replace h:=ba h
 refine bX.of 27 Tryz.func25 rfl Tryz.ntmps25 rfl fun S w0=>?_
 refine sr ?_
 refine cq ?_
 refine nt ?_
 refine ag ?_
 refine sr ?_
 refine mq ?_
 refine ol mm ?_
 refine mq ?_
 refine ol mm ?_
 refine jb (g9 rfl) ?_
 refine nt ?_
 refine cn h (fun h=>?_) (fun h=>?_)
 ·
  refine sr (cq (nt (rx ?_)));cases h;exact ra
 ·
  refine sk (dM (Z:=Unit) (α:=Unit) (fun z2 x1=>[]) (fun z2 x1=>[]) (fun e=>e=r) h (fun e h=>Option.some.inj h) (fun K hR h=>?_) (fun z2 x1 h=>?_))
  ·refine sr (cq (nt (ao ?_)));refine aK (fun z4 y3=>[(0,.rep (.slice (.slice (.int .i64))) a0),(1,.rep (.slice (.slice (.int .i64))) a1),(5,I y3)]) (fun z4 y3=>[]) (fk k a0 a1) k () 0 (fun _=>rfl) h (SE.fin [] ⟨rfl,rfl,rfl,trivial⟩ rfl) (fun n z4 y3 h=>?_);unfold fk at h;refine ag (sr ?_);iterate 2 refine mq ?_
   refine ol mm ?_;refine jb (bq rfl) ?_;refine nt (ci h (fun h=>?_) (fun h=>?_))
   ·refine sk (ag (ao (ag (bI ?_))));refine dm ?_;refine dm ?_;obtain⟨x5,l,h⟩:=aa h;refine db (aC (t:=(.slice (.int .i64))) rfl mm bQ l) ?_;refine da (ak (t:=(.slice (.int .i64))) rfl bQ rfl) ?_;refine dm ?_;refine dm ?_;obtain⟨x6,j,h⟩:=aa h;refine db (aC (t:=(.slice (.int .i64))) rfl mm bQ j) ?_;refine da (ak (t:=(.slice (.int .i64))) rfl bQ rfl) ?_;refine df cz ?_;obtain⟨r7,s,h⟩:=aa h;refine jb (ap [.tmp 20,.tmp 24] rfl rfl EV rfl (fK k x5 x6 r7 s)) ?_;refine ja (dT rfl) ?_;refine nt (cw h (fun h=>?_) (fun h=>?_))
    ·refine sr (cq (nt (ay (br (bi (aV ?_))))));obtain rfl:=hR _ h;exact ra
    ·refine aX (aM (tn (ab (mq ?_))));obtain⟨x8,c,h⟩:=aa h;refine jb (bf rfl c) ?_;refine aq (nl ?_);exact jz ((),x8) h []
   ·refine xa ?_;exact jz ((),()) h []
  ·refine sr (cq (nt (ay ?_)));cases h;exact ra
def kH(k:Nat)(a0:List Int):Option (List Int):=
 (dz (bL (List.length a0))).bind fun _=>some a0
theorem m7(k:Nat)(a0:List Int)(r:List Int)(h:kH k a0=some r):
 bX Tryz.prog 67 [Ri a0] [] (fun z:Value=>(bu [.eq z],[.sl z 3 (.int .i64) r])):=by
 unfold kH at h
 replace h:=ba h
 refine bX.of 8 Tryz.func67 rfl Tryz.ntmps67 rfl fun S w0=>?_
 obtain⟨u1,c,h⟩:=aa h
 cases h
 refine sr ?_
 refine cq ?_
 refine nt ?_
 refine ag ?_
 refine sr ?_
 refine mq ?_
 refine bR (Δ:=[]) (F:=_) (fun _ _ _=>ax rfl _) rfl rfl (Jp rfl dC) ⟨rfl,rfl,trivial⟩ fun b=>?_
 refine nt ?_
 refine bJ rfl (fun hb=>?_) (fun hb=>?_)
 ·
  refine sr (cq (nt (rx ?_)));obtain rfl:=b.2 hb;refine bv (SE.nil 3 (.int .i64)) ?_;exact aP (.slice none 0 0) [.eq (.slice none 0 0)] 1 ⟨rfl,trivial⟩ rfl
 ·
  refine sk (sr (aF rfl rfl rfl (lY (t:=(.int .i64)) [] [] rfl rfl dB .nil rfl rfl) trivial fun v1=>?_));refine mq ?_;refine cU rfl rfl rfl (bD rfl rfl dB (by simpa using aB c)) ⟨rfl,rfl,trivial⟩ fun v2=>?_;refine aq (nt (ay ?_));exact aP v2 [.eq v2] 1 ⟨rfl,trivial⟩ rfl
def ii(k:Nat)(a0:dn)(a2:Int):Nat→((List (List Int))×Int)→Option (List (List Int))
 |0,_=>none
 |n+1,y5=>
  if y5.2 < a2 then((iK k a0 y5.1 y5.2).bind fun r7=>
  (ck (y5.2+1)).bind fun x8=>
  ii k a0 a2 n (r7.2,x8)) else(some y5.1)
def lI(k:Nat)(a0:dn)(a1:(List (List Int)))(a2:Int):Option (List (List Int)):=
 ((ii k a0 a2 k (a1,0)):Option ((List (List Int)))).bind fun x3=>
 some x3
theorem rc(k:Nat)(a0:dn)(a1:(List (List Int)))(a2:Int)(r:(List (List Int)))(h:lI k a0 a1 a2=some r):
 bX Tryz.prog 73 [.at bK a0,.rep (.arr 3 (.arr 5 (.int .i64))) a1,I a2] [] (fun _:Unit=>(bu [.rep (.arr 3 (.arr 5 (.int .i64))) r],[])):=by
 unfold lI at h
 replace h:=ba h
 refine bX.of 21 Tryz.func73 rfl Tryz.ntmps73 rfl fun S w0=>?_
 refine sr ?_
 refine bx fun b1=>?_
 refine aF rfl rfl rfl (be rfl sC tD) trivial fun b2=>?_
 refine nt ?_
 refine aN (Z:=Unit) (α:=(List (List Int))) (fun z4 x3=>[(4,Pt b1),(6,Pt b2)]) (fun z4 x3=>[.obj b1 86 (.rep (.arr 3 (.arr 5 (.int .i64))) x3),.obj b2 86 (.rep (.arr 3 (.arr 5 (.int .i64))) [[0,0,0,0,0],[0,0,0,0,0],[0,0,0,0,0]])]) h (fun K h=>?_) (fun z4 x3 h=>?_)
 ·
  refine sr (mq ?_);refine fg rfl ?_;refine nt (ao (aK (fun z6 y5=>[(0,.at bK a0),(4,Pt b1),(6,Pt b2),(8,I a2),(9,I y5.2)]) (fun z6 y5=>[.obj b1 86 (.rep (.arr 3 (.arr 5 (.int .i64))) y5.1),.obj b2 86 (.rep (.arr 3 (.arr 5 (.int .i64))) [[0,0,0,0,0],[0,0,0,0,0],[0,0,0,0,0]])]) (ii k a0 a2) k () (a1,0) (fun _=>rfl) h (SE.fin [1,0] ⟨rfl,rfl,rfl,rfl,rfl,trivial⟩ rfl) (fun n z6 y5 h=>?_)));unfold ii at h;refine sr (jb (bq rfl) ?_);refine nt (ag (ci h (fun h=>?_) (fun h=>?_)))
  ·refine sk (ag (ao (sr (mq ?_))));refine aq (nt (ab ?_));refine mq ?_;refine lo gf ?_;refine mq ?_;obtain⟨r7,e,h⟩:=aa h;refine jc (ap [.tmp 13,.tmp 14,.tmp 15] rfl rfl PV rfl (od k a0 y5.1 y5.2 r7 e)) ?_;refine mq ?_;refine xr ?_;refine xr ?_;refine bh rfl rfl (bb rfl gf rfl rfl rfl) ⟨rfl,rfl,trivial⟩ ?_;refine au (aM (tn (ab ?_)));obtain⟨x8,c,h⟩:=aa h;refine jb (bf rfl c) ?_;refine mq (nl ?_);exact jz ((),(r7.2,x8)) h [0,1]
  ·refine xa ?_;exact jz ((),y5.1) h [0,1]
 ·
  refine sr (lo gf ?_);refine fr 1 ?_;refine bh rfl rfl (bb rfl gf rfl rfl rfl) ⟨rfl,rfl,trivial⟩ ?_;refine nt (ay ?_);obtain rfl:=Option.some.inj h;exact aP () [.rep (.arr 3 (.arr 5 (.int .i64))) x3] 0 ⟨⟨_,_,_,_,_,rfl,(.head _),gf,(tR),rfl⟩,trivial⟩ rfl
def lR(k:Nat)(a0:List Int)(a1 a2:Int):Option (List Int):=
 (dz (0≤a1∧a1 < a2∧a2≤(a0.length:Int))).bind fun _=>some (a0.take a1.toNat++a0.drop a2.toNat)
theorem ry(k:Nat)(a0:List Int)(v:Value)(a1 a2:Int)(r:List Int)(h:lR k a0 a1 a2=some r):bX Tryz.prog 115 [.eq v,.eq (.int .i64 a1),.eq (.int .i64 a2)] [.sl v 3 (.int .i64) a0] (fun z:Value=>(bu [.eq z],[.sl z 3 (.int .i64) r])):=by
 unfold lR at h
 replace h:=ba h
 obtain⟨u1,eg,h⟩:=aa h
 obtain⟨h1,h2,h3⟩:=aB eg
 obtain rfl:=Option.some.inj h
 refine bX.of 33 Tryz.func115 rfl Tryz.ntmps115 rfl fun S w0=>?_
 refine Fg (fun e=>by rw [e] at h3;simp at h3;omega) fun b cap hv hcap=>?_
 subst hv
 have hl:(a0.take a1.toNat++a0.drop a2.toNat).length=a1.toNat+(a0.length - a2.toNat):=by simp;omega
 refine ag ?_
 refine ab ?_
 refine dG rfl ?_
 refine au (ae ?_)
 show JC _ _ _ _ _
 refine ag ?_
 refine ab ?_
 refine aA rfl rfl ?_
 refine aA rfl rfl ?_
 refine aA rfl rfl ?_
 refine aA rfl rfl ?_
 refine bV rfl rfl rfl (c9 rfl rfl dC) ⟨rfl,trivial⟩ ?_
 refine aE rfl (xK rfl dC cg h1 (by omega) h3 (by omega)) ⟨rfl,rfl,rfl,rfl,trivial⟩ ?_
 refine au (ae ?_)
 show JC _ _ _ _ _
 refine ag ?_
 refine ag ?_
 refine ab ?_
 refine aA rfl rfl ?_
 refine aA rfl rfl ?_
 refine aE rfl (fW rfl) ⟨rfl,rfl,trivial⟩ ?_
 refine au (ae ?_)
 show JC _ _ _ _ _
 refine bJ rfl (fun hb=>absurd (of_decide_eq_true hb) (by omega)) (fun hb=>?_)
 refine aX (ae ?_)
 show JC _ _ _ _ _
 refine ag ?_
 refine ab ?_
 refine aA rfl rfl ?_
 refine bV rfl rfl rfl (c9 rfl rfl dC) ⟨rfl,trivial⟩ ?_
 refine di rfl rfl ?_
 refine au (ae ?_)
 show JC _ _ _ _ _
 refine ag ?_
 refine bI ?_
 refine dA rfl rfl rfl (aH rfl) ⟨rfl,trivial⟩ ?_
 refine dA rfl rfl rfl (aH rfl) ⟨rfl,trivial⟩ ?_
 refine dA rfl rfl rfl (uZ rfl dC cg h1 (by omega)) ⟨rfl,rfl,trivial⟩ ?_
 refine dA rfl rfl rfl (aH rfl) ⟨rfl,trivial⟩ ?_
 refine dA rfl rfl rfl (aH rfl) ⟨rfl,trivial⟩ ?_
 refine dA rfl rfl rfl (Bq rfl dC cg (by omega) h3) ⟨rfl,rfl,trivial⟩ ?_
 refine tJ (by kernel_rfl) cz ?_
 refine cC (sn 22 rfl fun _ _ _ h=>(CO▸h:(A.eq (.slice (some ⟨b,0,none⟩) a1.toNat cap)).holds _ _ _)) ?_
 refine bV rfl rfl rfl (xN (t:=.int .i64) (b:=b) (cap:=cap) (l:=a0) (i:=a1.toNat) (j:=a2.toNat) rfl rfl dB (by omega) (by omega) hcap) ⟨rfl,rfl,trivial⟩ ?_
 refine di rfl rfl ?_
 refine au (ae ?_)
 show JC _ _ _ _ _
 refine ag ?_
 refine ab ?_
 refine aA rfl rfl ?_
 refine aA rfl rfl ?_
 refine bV rfl rfl rfl (c9 rfl rfl dC) ⟨rfl,trivial⟩ ?_
 refine aA rfl rfl ?_
 refine aE rfl (zn rfl dC cg (by omega) (by rw [hl];omega) (by omega)) ⟨rfl,rfl,rfl,trivial⟩ ?_
 refine bh rfl rfl (zw (t:=.int .i64) (b:=b) (cap:=cap) (l:=a0.take a1.toNat++a0.drop a2.toNat) (n:=a0.length) rfl rfl dC rfl Tm rfl rfl (by rw [hl];omega) hcap) ⟨rfl,trivial⟩ ?_
 refine au (ae ?_)
 show JC _ _ _ _ _
 refine ag ?_
 refine ab ?_
 refine aA rfl rfl ?_
 refine di rfl rfl ?_
 refine au (ae ?_)
 show JC _ _ _ _ _
 refine ay ?_
 exact aP _ [.eq _] 1 ⟨rfl,trivial⟩ rfl
def kF(k:Nat)(x7:Int)(h:(List (List Int))):Nat→((List (List Int))×Int)→Option (List (List Int))
 |0,_=>none
 |n+1,c=>
  if c.2 < (h.length:Int) then((aR h c.2).bind fun e=>
  (dz (bL (List.length [x7]+List.length e))).bind fun _=>
  (dz (bL (List.length c.1+List.length [[x7]++e]))).bind fun _=>
  (ck (c.2+1)).bind fun j=>
  kF k x7 h n (c.1++[[x7]++e],j)) else(some c.1)
def kG(k:Nat)(a0:(List Int))(self:(List Int)→Option ((List (List Int)))):Nat→((List (List Int))×Int)→Option (List (List Int))
 |0,_=>none
 |n+1,y3=>
  if y3.2 < (a0.length:Int) then((((aR a0 y3.2).bind fun x7=>
  (kH k a0).bind fun r8=>
  (ck (y3.2+1)).bind fun e=>
  (lR k r8 y3.2 e).bind fun j=>
  (self j).bind fun h=>
  kF k x7 h k (y3.1,0)):Option ((List (List Int)))).bind fun x5=>
  (ck (y3.2+1)).bind fun c=>
  kG k a0 self n (x5,c)) else(some y3.1)
def lK(k:Nat):Nat→(List Int)→Option ((List (List Int)))
 |0,_=>none
 |m0+1,a0=>
  if(a0.length:Int)=0 then(some [[]]) else(((kG k a0 (lK k m0) k (([]:(List (List Int))),0)):Option ((List (List Int)))).bind fun x1=>
  some x1)
theorem vS(k:Nat):
 ∀(n:Nat) (a0:(List Int)) (r:(List (List Int))),lK k n a0=some r→bX Tryz.prog 77 [Ri a0] ([]) (fun _:Unit=>(bu [.rep (.slice (.slice (.int .i64))) r],[])):=by
 intro n
 induction n with
 |zero=>intro a0 r h;cases h
 |succ m0 ih=>
  intro a0 r h;rw [lK] at h;replace h:=ba h;refine bX.of 41 Tryz.func77 rfl Tryz.ntmps77 rfl fun S w0=>?_;refine sr (cq (nt (ag (sr ?_))));refine mq ?_;refine ol dC ?_;refine jb (fW rfl) ?_;refine nt (ci h (fun h=>?_) (fun h=>?_))
  ·refine sr (ja (bj (t:=(.slice (.int .i64))) [(.const (.slice none 0 0),_)] [[]] rfl rfl oN (.cons rfl .nil .nil) rfl rfl) ?_);refine aq (nt (rx ?_));cases h;exact ra
  ·refine sk (sr (cq (nt ?_)));refine aN (Z:=Value) (α:=(List (List Int))) (fun z2 x1=>[(3,.eq z2)]) (fun z2 x1=>[.sl z2 23 (.slice (.int .i64)) x1]) h (fun K h=>?_) (fun z2 x1 h=>?_)
   ·refine sr (mq ?_);refine ol dC ?_;refine fg rfl ?_;refine nt (ao (dJ (SE.nil 23 (.slice (.int .i64))) ?_));refine aK (fun z4 y3=>[(0,Ri a0),(3,.eq z4),(12,Ri a0),(13,I (a0.length:Int)),(14,I y3.2)]) (fun z4 y3=>[.sl z4 23 (.slice (.int .i64)) y3.1]) (kG k a0 (lK k m0)) k (.slice none 0 0) (([]:(List (List Int))),0) (fun _=>rfl) h (SE.fin [0] ⟨rfl,rfl,rfl,rfl,rfl,trivial⟩ rfl) (fun n z4 y3 h=>?_);unfold kG at h;refine sr (jb (bq rfl) ?_);refine nt (ag (ci h (fun h=>?_) (fun h=>?_)))
    ·refine sk (aN (Z:=Value) (α:=(List (List Int))) (fun z6 x5=>[(0,Ri a0),(3,.eq z6),(12,Ri a0),(13,I (a0.length:Int)),(14,I y3.2)]) (fun z6 x5=>[.sl z6 23 (.slice (.int .i64)) x5]) h (fun K h=>?_) (fun z6 x5 h=>?_))
     ·refine ao (sr (mq ?_));obtain⟨x7,Y,h⟩:=aa h;refine jb (aC (t:=(.int .i64)) rfl dC cg Y) ?_;refine ja (ak (t:=(.int .i64)) rfl cg rfl) ?_;refine aq ?_;refine aq (nt (sr ?_));refine mq ?_;obtain⟨r8,ac,h⟩:=aa h;refine aF rfl rfl rfl (ap [.tmp 19] rfl rfl R7 rfl (m7 k a0 r8 ac)) ⟨rfl,trivial⟩ fun v9=>?_;iterate 2 refine mq ?_
      obtain⟨U,D,h⟩:=aa h;refine jb (bf rfl D) ?_;obtain⟨s,M,h⟩:=aa h;refine cU rfl rfl rfl (ap [.tmp 20,.tmp 21,.tmp 23] rfl rfl Qj rfl (ry k r8 v9 y3.2 U s M)) ⟨rfl,rfl,rfl,trivial⟩ fun qt=>?_;refine cC (eJ [24] ⟨rfl,trivial⟩) ?_;obtain⟨j,J,h⟩:=aa h;refine ja (ap [.tmp 24] rfl rfl PR rfl (ih s j J)) ?_;refine ol mm ?_;refine fg rfl ?_;refine nt (ao (aK (fun e c=>[(0,Ri a0),(3,.eq e),(5,I x7),(12,Ri a0),(13,I (a0.length:Int)),(14,I y3.2),(25,.rep (.slice (.slice (.int .i64))) j),(26,I (j.length:Int)),(27,I c.2)]) (fun e c=>[.sl e 23 (.slice (.int .i64)) c.1]) (kF k x7 j) k z4 (y3.1,0) (fun _=>rfl) h (SE.fin [0] ⟨rfl,rfl,rfl,rfl,rfl,rfl,rfl,rfl,rfl,trivial⟩ rfl) (fun n e c h=>?_)));unfold kF at h;refine sr (jb (bq rfl) ?_);refine nt (ag (ci h (fun h=>?_) (fun h=>?_)))
      ·refine sk (ag (ao (sr ?_)));obtain⟨l,y,h⟩:=aa h;refine jb (aC (t:=(.slice (.int .i64))) rfl mm bQ y) ?_;refine ja (ak (t:=(.slice (.int .i64))) rfl bQ rfl) ?_;refine aq (nt (ab ?_));iterate 2 refine mq ?_
       refine aF rfl rfl rfl (lY (t:=(.int .i64)) [(.tmp 32,_)] [x7] rfl rfl dB (.cons rfl .int .nil) rfl rfl) ⟨rfl,trivial⟩ fun pp=>?_;refine mq ?_;obtain⟨TJ,F,h⟩:=aa h;refine cU rfl rfl rfl (bD rfl rfl dB (aB F)) ⟨rfl,rfl,trivial⟩ fun mc=>?_;refine cC (eJ [35] ⟨rfl,trivial⟩) ?_;refine ja (bj (t:=(.slice (.int .i64))) [(.tmp 35,_)] [[x7]++l] rfl rfl oN (.cons rfl .rep .nil) rfl rfl) ?_;obtain⟨se,E,h⟩:=aa h;refine cU rfl rfl rfl (bD rfl rfl oN (aB E)) ⟨rfl,rfl,trivial⟩ fun X=>?_;refine aq (au (aM (tn (ab ?_))));obtain⟨Q,x,h⟩:=aa h;refine jb (bf rfl x) ?_;refine mq (nl ?_);exact jz (X,(c.1++[[x7]++l],Q)) h [0]
      ·refine dH (aU (aU (bW (bn ?_))));exact jz (e,c.1) h [0]
     ·refine ab ?_;obtain⟨O,u,h⟩:=aa h;refine jb (bf rfl u) ?_;refine mq (nl ?_);exact jz (z6,(x5,O)) h [0]
    ·refine xa ?_;exact jz (z4,y3.1) h [0]
   ·refine sr (mq ?_);refine aq (nt (ay ?_));refine bv (eJ [2,3,40] ⟨rfl,rfl,rfl,trivial⟩) ?_;cases h;exact ra
def gg{σ:Type}(k:Nat)(a1:(List Int))(Y:σ→Int→Option (σ×Bool)):Nat→(Int×σ)→Option (σ)
 |0,_=>none
 |n+1,y1=>
  if y1.1 < (a1.length:Int) then((aR a1 y1.1).bind fun x3=>
  (Y y1.2 x3).bind fun r4=>
  if¬(r4.2=true) then(some r4.1) else((ck (y1.1+1)).bind fun x6=>
  gg k a1 Y n (x6,r4.1))) else(some y1.2)
def kj{σ:Type}(k:Nat)(Y:σ→Int→Option (σ×Bool))(a1:(List Int))(s0:σ):Option (σ):=
 gg k a1 Y k (0,s0)
theorem qe{M:Md Tryz.prog}{σ Z:Type}(E:Z→σ→List D)(l:Nat)(Y:σ→Int→Option (σ×Bool))(k:Nat)(a1:(List Int))(c:Nat)(hY:∀z s p r,Y s p=some r→YT M l [I p] (E z s) (fun z':Z=>(.eq (.bool r.2),E z' r.1))):
 ∀(z0:Z) (s0:σ) (r:σ),kj k Y a1 s0=some r→dw M 118 [.eq (.func (.yield l) #[] #[]),Pt c] ([.obj c 23 (Ri a1)]++E z0 s0) (fun z:Z=>(bu [],[.obj c 23 (Ri a1)]++E z r)):=by
 intro z0 s0 r h
 unfold kj at h
 replace h:=ba h
 refine dw.of 16 Tryz.func118 rfl Tryz.ntmps118 rfl fun S w0=>?_
 refine sr ?_
 refine lo bQ ?_
 refine ol dC ?_
 refine fg rfl ?_
 refine nt ?_
 refine ao ?_
 refine aK (Z:=Z) (α:=Int×σ) (fun z2 y1=>[(0,.eq (.func (.yield l) #[] #[])),(5,Ri a1),(6,I (a1.length:Int)),(7,I y1.1)]) (fun z2 y1=>[.obj c 23 (Ri a1)]++E z2 y1.2) (gg k a1 Y) k z0 (0,s0) (fun _=>rfl) h (bp [.obj c 23 (Ri a1)] (E z0 s0) [0] ⟨rfl,rfl,rfl,rfl,trivial⟩ rfl) (fun n z2 y1 h=>?_)
 unfold gg at h
 refine sr ?_
 refine jb (bq rfl) ?_
 refine nt ?_
 refine ag ?_
 refine ci h (fun h=>?_) (fun h=>?_)
 ·
  refine sk (ag (ao (sr ?_)));obtain⟨x3,j,h⟩:=aa h;refine jb (aC (t:=(.int .i64)) rfl dC cg j) ?_;refine ja (ak (t:=(.int .i64)) rfl cg rfl) ?_;refine aq (nt (sr ?_));iterate 2 refine mq ?_
  obtain⟨r4,u,h⟩:=aa h;refine pz [.obj c 23 (Ri a1)] rfl rfl rfl (xJ [.tmp 12] rfl rfl rfl (hY z2 y1.2 x3 r4 u)) ⟨rfl,rfl,trivial⟩ fun z5=>?_;refine ja (dT rfl) ?_;refine nt (cw h (fun h=>?_) (fun h=>?_))
  ·refine ay (br (bi ?_));cases h;exact iQ z5 [] trivial rfl
  ·refine aX (aM (tn (ab ?_)));obtain⟨x6,e,h⟩:=aa h;refine jb (bf rfl e) ?_;refine mq (nl ?_);exact iP (z5,(x6,r4.1)) h (bp [.obj c 23 (Ri a1)] (E z5 r4.1) [0] ⟨rfl,rfl,rfl,rfl,trivial⟩ rfl)
 ·
  refine dH (aU (aU (bW (jh ?_))));cases h;exact iQ z2 [] trivial rfl
def jR(k:Nat)(a1:(List Int)):Option (List Int):=
 (kj k (qn (fun(y2:(List Int)) (p4:Int)=>
  (dz (bL (List.length y2+List.length [p4]))).bind fun _=>
  some (y2++[p4],true))) a1 (([]:(List Int)),false)).bind fun r5=>
 if r5.2=true then(none) else(some r5.1)
theorem oM(k:Nat)(a1:(List Int))(c:Nat)(r:(List Int))(h:jR k a1=some r):
 bX Tryz.prog 155 [.eq (.slice none 0 0),.eq (.func (.func 118) #[] #[(Pv c)])] [.obj c 23 (Ri a1)] (fun z:Value=>(bu [.eq z],[.sl z 3 (.int .i64) r,.obj c 23 (Ri a1)])):=by
 unfold jR at h
 replace h:=ba h
 refine yz 13 Tryz.func155 rfl Tryz.ntmps155 rfl fun {M} S w0=>?_
 refine sr ?_
 refine bx fun b1=>?_
 refine cq ?_
 refine nt ?_
 refine ag ?_
 refine sr ?_
 refine mq ?_
 refine nt ?_
 refine ao ?_
 refine dJ (SE.nil 3 (.int .i64)) ?_
 refine ji 1 rfl ?_
 refine ji 2 rfl ?_
 obtain⟨r5,j,h⟩:=aa h
 refine nY (Δ:=[.obj c 23 (Ri a1),.obj b1 23 (.eq (.slice none 0 0)),.sl (.slice none 0 0) 3 (.int .i64) ([]:(List Int))]) (F:=[]) (X:=Value) (J:=fun _=>JL r5.2) (E:=fun z3=>[.obj c 23 (Ri a1),.obj b1 23 (.eq z3),.sl z3 3 (.int .i64) r5.1]) (r0:=fun _=>.tup .any) rfl rfl Qg (fun rec hp ha hb hs hpe hN hv l=>?_) (fun dl z3=>qD (fun hj=>?_) (fun hj=>?_))
 ·
  rcases rec with⟨st0,pe0,fn0,tm0,ps0,as0,bd0,df0⟩;dsimp only at hp ha hb hs hpe hN hv;subst hp hs hpe;have vN:vF tm0 [(2,Pt b1)]:=⟨congrArg A.eq (hv 2 _ rfl).symm,trivial⟩;refine dw.pick (M:=M) [1,0,2,3] [1,0,2,3] (qe (fun(z3:Value) (q:(List Int)×Bool)=>[.raw l (.loop (jS ⟨.ready,none,fn0,tm0, #[7],as0,bd0,df0⟩ (JL q.2))),.obj b1 23 (.eq z3),.sl z3 3 (.int .i64) q.1]) l (qn (fun(y2:(List Int)) (p4:Int)=>
  (dz (bL (List.length y2+List.length [p4]))).bind fun _=>
  some (y2++[p4],true))) k a1 c (fun z3 q p r' h=>?_) (.slice none 0 0) (([]:(List Int)),false) r5 j) rfl (fun _=>rfl) (fun _=>rfl)
  obtain⟨rq,hq,h2,rfl⟩:=qE h;obtain⟨y2,b5⟩:=q;obtain rfl:b5=false:=hq;replace h:=ba h2;obtain⟨p4,hpv⟩:∃x,x=p:=⟨_,rfl⟩;subst hpv;refine YT.pick (R':=(fun z3:Value=>(.eq (.bool rq.2),[.raw l (.loop (jS ⟨.ready,none,fn0,tm0, #[7],as0,bd0,df0⟩ (JL (!rq.2)))),.obj b1 23 (.eq z3),.sl z3 3 (.int .i64) rq.1]))) [0,1,2] [0,1,2] (Ir ha hb (N:=13) (Γ:=[(2,Pt b1)]) rfl hN (by decide) vN (fun S w=>?_)) rfl (fun _=>rfl) (fun _=>rfl);refine ab (aq (nl ?_));refine vM rfl rfl ?_;refine ao (ab (fr 1 ?_));refine lo bQ ?_;refine mq ?_;refine ja (bj (t:=(.int .i64)) [(.tmp 9,_)] [p4] rfl rfl dB (.cons rfl .int .nil) rfl rfl) ?_;obtain⟨u6,e,h⟩:=aa h;refine fr 2 ?_;refine cU rfl rfl rfl (bD rfl rfl dB (aB e)) ⟨rfl,rfl,trivial⟩ fun v7=>?_;refine nX fun o8=>?_;refine fr 1 ?_;refine bh rfl rfl (bb rfl bQ o8 rfl rfl) ⟨rfl,rfl,trivial⟩ ?_;refine au (aM (dj 1 rfl ?_));refine dj 1 rfl ?_;refine dj 2 rfl ?_;cases h;exact tI v7 2 rfl
 ·
  replace h:=bN (D3 hj) h;refine aM (tn (sr (fr 2 ?_)));refine lo bQ ?_;refine aq (nt (ay ?_));refine dj 1 rfl ?_;refine yw ?_;refine bv (SE.fin (Γ':=[(4,_)]) [2,1,0] ⟨rfl,trivial⟩ rfl) ?_;cases h;exact aP z3 [.eq z3] 2 ⟨rfl,trivial⟩ rfl
 ·
  replace h:=cE (D2 hj) h;cases h
def lb(k:Nat)(a0:(List Int)):Option (List Int):=
 (jR k a0).bind fun r1=>
 some r1
theorem qH(k:Nat)(a0:(List Int))(c:Nat)(r:(List Int))(h:lb k a0=some r):
 bX Tryz.prog 116 [.eq (.func (.func 118) #[] #[(Pv c)])] [.obj c 23 (Ri a0)] (fun z:Value=>(bu [.eq z],[.sl z 3 (.int .i64) r,.obj c 23 (Ri a0)])):=by
 unfold lb at h
 replace h:=ba h
 refine bX.of 5 Tryz.func116 rfl Tryz.ntmps116 rfl fun S w0=>?_
 refine sr ?_
 refine cq ?_
 refine nt ?_
 refine sr ?_
 refine mq ?_
 obtain⟨r1,e,h⟩:=aa h
 have j:=oM k a0 c r1 e
 refine bR (Δ:=[_]) (F:=_) (fun _ _ _=>ax rfl _) rfl rfl (ap [.const (.slice none 0 0),.tmp 3] rfl rfl P9 rfl j) ⟨rfl,rfl,trivial⟩ fun z2=>?_
 refine aq ?_
 refine nt ?_
 refine ay ?_
 cases h
 exact aP z2 [.eq z2] 2 ⟨rfl,trivial⟩ rfl
def pW(k:Nat)(a0:Int):Option Bool:=
 some (!decide (a0=a0))
theorem sa(k:Nat)(a0:Int)(r:Bool)(h:pW k a0=some r):
 bX Tryz.prog 158 [I a0] [] (fun _:Unit=>(bu [.eq (.bool r)],[])):=by
 unfold pW at h
 replace h:=ba h
 refine bX.of 6 Tryz.func158 rfl Tryz.ntmps158 rfl fun S w0=>?_
 refine sr ?_
 refine cq ?_
 refine nt ?_
 refine sr ?_
 iterate 2 refine mq ?_
 refine jb (g9 rfl) ?_
 refine aq ?_
 refine nt ?_
 refine ay ?_
 cases h
 exact ra
def vB(k:Nat)(a0:Int)(a1:Int):Option Bool:=
 (((pW k a0).bind fun r3=>
 if r3=true then((pW k a1).bind fun r4=>
 if¬(r4=true) then(some true) else(some (decide (a0 < a1)))) else(some (decide (a0 < a1)))):Option (Bool)).bind fun x1=>
 some x1
theorem Am(k:Nat)(a0:Int)(a1:Int)(r:Bool)(h:vB k a0 a1=some r):
 bX Tryz.prog 174 [I a0,I a1] [] (fun _:Unit=>(bu [.eq (.bool r)],[])):=by
 unfold vB at h
 replace h:=ba h
 refine bX.of 17 Tryz.func174 rfl Tryz.ntmps174 rfl fun S w0=>?_
 refine sr ?_
 refine cq ?_
 refine nt ?_
 refine aN (Z:=Unit) (α:=Bool) (fun z2 x1=>[(4,.eq (.bool x1))]) (fun z2 x1=>[]) h (fun K h=>?_) (fun z2 x1 h=>?_)
 ·
  refine ab (mq ?_);obtain⟨r3,e,h⟩:=aa h;refine ja (ap [.tmp 5] rfl rfl LE rfl (sa k a0 r3 e)) ?_;refine mq ?_;refine cp (s:=7) rfl (fun hb=>?_) (fun hb=>?_)
  ·replace h:=cE (D2 hb) h;refine gm ?_;obtain⟨r4,c,h⟩:=aa h;refine ga (ap [.tmp 8] rfl rfl LE rfl (sa k a1 r4 c)) ?_;refine ga (dT rfl) ?_;refine pt ?_;refine mq ?_;refine cp (s:=12) rfl (fun hb=>?_) (fun hb=>?_)
   ·replace h:=cE (zy hb) h;iterate 3 refine gn ?_
    refine pt ?_;refine aq (nl ?_);exact jz ((),true) h []
   ·replace h:=bN (tN hb) h;refine gm ?_;refine gm ?_;refine gb (bq rfl) ?_;refine pf ?_;refine aq (nl ?_);exact jz ((),decide (a0 < a1)) h []
  ·replace h:=bN (D3 hb) h;iterate 3 refine gn ?_
   refine pf ?_;refine mq ?_;refine gm ?_;refine gm ?_;refine gb (bq rfl) ?_;refine pf ?_;refine aq (nl ?_);exact jz ((),decide (a0 < a1)) h []
 ·
  refine ay ?_;cases h;exact ra
def cN(k:Nat)(a1:Int):Nat→((List Int)×Int)→Option (List Int)
 |0,_=>none
 |n+1,y6=>
  ((if a1 < y6.2 then((aR y6.1 y6.2).bind fun u=>
  (ck (y6.2 - 1)).bind fun s=>
  (aR y6.1 s).bind fun r=>
  (vB k u r).bind fun x=>
  some x) else(some false)):Option (Bool)).bind fun x8=>
  if x8=true then((ck (y6.2 - 1)).bind fun e=>
  (ck (y6.2 - 1)).bind fun l=>
  (aR y6.1 l).bind fun c=>
  (aR y6.1 y6.2).bind fun j=>
  (aR y6.1 y6.2).bind fun D=>
  (aR (List.set y6.1 (Int.toNat y6.2) c) e).bind fun y=>
  (ck (y6.2 - 1)).bind fun h=>
  cN k a1 n (List.set (List.set y6.1 (Int.toNat y6.2) c) (Int.toNat e) j,h)) else(some y6.1)
def cO(k:Nat)(a1:Int)(a2:Int):Nat→((List Int)×Int)→Option (List Int)
 |0,_=>none
 |n+1,y2=>
  if y2.2 < a2 then(((cN k a1 k (y2.1,y2.2)):Option ((List Int))).bind fun x4=>
  (ck (y2.2+1)).bind fun c=>
  cO k a1 a2 n (x4,c)) else(some y2.1)
def eH(k:Nat)(a0:(List Int))(a1:Int)(a2:Int):Option (List Int):=
 (ck (a1+1)).bind fun x1=>
 cO k a1 a2 k (a0,x1)
theorem j9(k:Nat)(a0:(List Int))(c:Value)(a1:Int)(a2:Int)(r:(List Int))(h:eH k a0 a1 a2=some r):
 bX Tryz.prog 168 [.eq c,I a1,I a2] [.sl c 3 (.int .i64) a0] (fun _:Unit=>(bu [],[.sl c 3 (.int .i64) r])):=by
 unfold eH at h
 replace h:=ba h
 refine bX.of 49 Tryz.func168 rfl Tryz.ntmps168 rfl fun S w0=>?_
 refine sr ?_
 refine mq ?_
 obtain⟨x1,Ua,h⟩:=aa h
 refine jb (bf rfl Ua) ?_
 refine aq ?_
 refine nt ?_
 refine ao ?_
 refine aK (fun z3 y2=>[(0,.eq c),(1,I a1),(2,I a2),(6,I y2.2)]) (fun z3 y2=>[.sl c 3 (.int .i64) y2.1]) (cO k a1 a2) k () (a0,x1) (fun _=>rfl) h (SE.fin [0] ⟨rfl,rfl,rfl,rfl,trivial⟩ rfl) (fun n z3 y2 h=>?_)
 unfold cO at h
 refine ag ?_
 refine sr ?_
 iterate 2 refine mq ?_
 refine jb (bq rfl) ?_
 refine nt ?_
 refine ci h (fun h=>?_) (fun h=>?_)
 ·
  refine sk (aN (Z:=Unit) (α:=(List Int)) (fun z5 x4=>[(0,.eq c),(1,I a1),(2,I a2),(6,I y2.2)]) (fun z5 x4=>[.sl c 3 (.int .i64) x4]) h (fun K h=>?_) (fun z5 x4 h=>?_))
  ·refine ao (sr (mq ?_));refine aq (nt (ao ?_));refine aK (fun z7 y6=>[(0,.eq c),(1,I a1),(2,I a2),(6,I y2.2),(7,I y6.2)]) (fun z7 y6=>[.sl c 3 (.int .i64) y6.1]) (cN k a1) k () (y2.1,y2.2) (fun _=>rfl) h (SE.fin [0] ⟨rfl,rfl,rfl,rfl,rfl,trivial⟩ rfl) (fun n z7 y6 h=>?_);unfold cN at h;refine ag (aN (Z:=Unit) (α:=Bool) (fun z9 x8=>[(0,.eq c),(1,I a1),(2,I a2),(6,I y2.2),(7,I y6.2),(30,.eq (.bool x8))]) (fun z9 x8=>[.sl c 3 (.int .i64) y6.1]) h (fun K h=>?_) (fun z9 x8 h=>?_))
   ·refine bI ?_;refine dm ?_;refine dm ?_;refine db (hC rfl) ?_;refine j8 rfl rfl rfl (aH rfl) ⟨rfl,trivial⟩ (fun hb=>?_) (fun hb=>?_)
    ·replace h:=cE (ou hb) h;refine aL rfl rfl rfl rfl rfl (aH rfl) ⟨rfl,rfl,trivial⟩ ?_;refine aL rfl rfl rfl rfl rfl (aH rfl) ⟨rfl,rfl,trivial⟩ ?_;obtain⟨TO,x,h⟩:=aa h;refine iR 0 rfl rfl rfl rfl rfl rfl (aZ (t:=(.int .i64)) rfl dC cg x) ⟨rfl,rfl,rfl,trivial⟩ ?_;refine iR 0 rfl rfl rfl rfl rfl rfl (dQ (i:=Int.toNat y6.2) (off:=0) rfl cg (fun _=>rfl) rfl (cy x).2.2 rfl) ⟨rfl,rfl,trivial⟩ ?_;refine aL rfl rfl rfl rfl rfl (aH rfl) ⟨rfl,rfl,trivial⟩ ?_;refine aL rfl rfl rfl rfl rfl (aH rfl) ⟨rfl,rfl,trivial⟩ ?_;obtain⟨TN,qt,h⟩:=aa h;refine aL rfl rfl rfl rfl rfl (fV rfl qt) ⟨rfl,rfl,rfl,trivial⟩ ?_;obtain⟨TM,u,h⟩:=aa h;refine iR 0 rfl rfl rfl rfl rfl rfl (aZ (t:=(.int .i64)) rfl dC cg u) ⟨rfl,rfl,rfl,trivial⟩ ?_;refine iR 0 rfl rfl rfl rfl rfl rfl (dQ (i:=Int.toNat TN) (off:=0) rfl cg (fun _=>rfl) rfl (cy u).2.2 rfl) ⟨rfl,rfl,trivial⟩ ?_;refine df cz ?_;obtain⟨F,se,h⟩:=aa h;refine gb (ap [.tmp 23,.tmp 28] rfl rfl P2 rfl (Am k TO TM F se)) ?_;refine pt (nl ?_);exact jz ((),F) h [0]
    ·replace h:=bN (nw hb) h;iterate 9 refine dg ?_
     refine df cz ?_;refine gn ?_;refine pf (nl ?_);exact jz ((),false) h [0]
   ·refine cv h (fun h=>?_) (fun h=>?_)
    ·refine sk (ag (ao (jj ?_)));refine aI rfl rfl rfl (aH rfl) ⟨rfl,trivial⟩ ?_;refine aI rfl rfl rfl (aH rfl) ⟨rfl,trivial⟩ ?_;refine aI rfl rfl rfl (aH rfl) ⟨rfl,trivial⟩ ?_;refine aI rfl rfl rfl (aH rfl) ⟨rfl,trivial⟩ ?_;obtain⟨y,pp,h⟩:=aa h;refine aI rfl rfl rfl (fV rfl pp) ⟨rfl,rfl,trivial⟩ ?_;refine aI rfl rfl rfl (aH rfl) ⟨rfl,trivial⟩ ?_;refine aI rfl rfl rfl (aH rfl) ⟨rfl,trivial⟩ ?_;obtain⟨TL,mc,h⟩:=aa h;refine aI rfl rfl rfl (fV rfl mc) ⟨rfl,rfl,trivial⟩ ?_;obtain⟨E,s,h⟩:=aa h;refine dk 0 rfl rfl rfl rfl (aZ (t:=(.int .i64)) rfl dC cg s) ⟨rfl,rfl,trivial⟩ ?_;refine dk 0 rfl rfl rfl rfl (dQ (i:=Int.toNat TL) (off:=0) rfl cg (fun _=>rfl) rfl (cy s).2.2 rfl) ⟨rfl,trivial⟩ ?_;refine aI rfl rfl rfl (aH rfl) ⟨rfl,trivial⟩ ?_;refine aI rfl rfl rfl (aH rfl) ⟨rfl,trivial⟩ ?_;obtain⟨D,l,h⟩:=aa h;refine dk 0 rfl rfl rfl rfl (aZ (t:=(.int .i64)) rfl dC cg l) ⟨rfl,rfl,trivial⟩ ?_;refine dk 0 rfl rfl rfl rfl (dQ (i:=Int.toNat y6.2) (off:=0) rfl cg (fun _=>rfl) rfl (cy l).2.2 rfl) ⟨rfl,trivial⟩ ?_;obtain⟨Ui,j,h⟩:=aa h;refine dk 0 rfl rfl rfl rfl (aZ (t:=(.int .i64)) rfl dC cg j) ⟨rfl,rfl,trivial⟩ ?_;refine mg 15 [true,true,false,false,false,true,true,true,true,true,true,true,true,true,true] [48] [] [] rfl (by kernel_rfl) (by kernel_rfl) (by kernel_rfl) cz (fun vs hv hB=>?_);obtain⟨w0,Uy,rfl,T9⟩:=an hv;obtain⟨w1,Ux,rfl,T8⟩:=an T9;obtain⟨w2,Uw,rfl,TZ⟩:=an T8;obtain⟨w3,Uu,rfl,TY⟩:=an TZ;obtain⟨w4,Ut,rfl,TX⟩:=an TY;obtain⟨w5,Us,rfl,TU⟩:=an TX;obtain⟨w6,Ur,rfl,TS⟩:=an TU;obtain⟨w7,Up,rfl,TR⟩:=an TS;obtain⟨w8,Uo,rfl,TP⟩:=an TR;obtain⟨w9,Ug,rfl,X⟩:=an TP;obtain⟨Un,Uf,rfl,U⟩:=an X;obtain⟨Um,Ue,rfl,Q⟩:=an U;obtain⟨Ul,Ud,rfl,O⟩:=an Q;obtain⟨Uk,Uc,rfl,M⟩:=an O;obtain⟨Uj,Ub,rfl,J⟩:=an M;obtain rfl:=jW J;refine⟨[0],[.sl c 3 (.int .i64) y6.1],by kernel_rfl,by decide,?_⟩;refine nW rfl rfl (cR (i:=Int.toNat y6.2) rfl cg rfl (gW j) rfl .int rfl) ⟨rfl,rfl,trivial⟩ (by kernel_rfl) ?_;obtain⟨Uh,e,h⟩:=aa h;refine vL rfl rfl rfl rfl (aZ (t:=(.int .i64)) rfl dC cg e) ⟨rfl,rfl,trivial⟩ (by kernel_rfl) ?_;refine nW rfl rfl (cR (i:=Int.toNat y) rfl cg rfl (gW e) rfl .int rfl) ⟨rfl,rfl,trivial⟩ (by kernel_rfl) ?_;refine py ?_;refine bv (SE.fin (Γ':=[(0,.eq c),(1,I a1),(2,I a2),(6,I y2.2),(7,I y6.2)]) (Δ':=[.sl c 3 (.int .i64) (List.set (List.set y6.1 (Int.toNat y6.2) E) (Int.toNat y) D)]) [0] ⟨rfl,rfl,rfl,rfl,rfl,trivial⟩ rfl) ?_;refine aM (tn (ab (mq ?_)));obtain⟨TK,ac,h⟩:=aa h;refine jb (fV rfl ac) ?_;refine aq (nl ?_);exact jz ((),(List.set (List.set y6.1 (Int.toNat y6.2) E) (Int.toNat y) D,TK)) h [0]
    ·refine dH (aU (aU (bW (bn ?_))));exact jz ((),y6.1) h [0]
  ·refine ab (mq ?_);obtain⟨TJ,Y,h⟩:=aa h;refine jb (bf rfl Y) ?_;refine aq (nl ?_);exact jz ((),(x4,TJ)) h [0]
 ·
  refine dH (aU (aU (bW (jh ?_))));cases h;exact aP () [] 1 trivial rfl
def lg(k:Nat)(a0:Int):Option Int:=
 ((if 4294967296≤a0 then(some (io .u64 a0 32,32)) else(some (a0,0))):Option (Int×Int)).bind fun x1=>
 ((if 65536≤x1.1 then((ck (x1.2+16)).bind fun x5=>
 some (io .u64 x1.1 16,x5)) else(some (x1.1,x1.2))):Option (Int×Int)).bind fun x3=>
 ((if 256≤x3.1 then((ck (x3.2+8)).bind fun x8=>
 some (io .u64 x3.1 8,x8)) else(some (x3.1,x3.2))):Option (Int×Int)).bind fun x6=>
 (BP JH (IntKind.u8.wrap x6.1)).bind fun x9=>
 (ck (x9.toNat:Int)).bind fun e=>
 (ck (x6.2+e)).bind fun c=>
 some c
theorem qR(k:Nat)(a0:Int)(r:Int)(h:lg k a0=some r):
 bX Tryz.prog 178 [.eq (.int .u64 a0)] [] (fun _:Unit=>(bu [I r],[])):=by
 unfold lg at h
 replace h:=ba h
 refine bX.of 25 Tryz.func178 rfl Tryz.ntmps178 rfl fun S w0=>?_
 refine sr ?_
 refine cq ?_
 refine nt ?_
 refine aN (Z:=Unit) (α:=Int×Int) (fun z2 x1=>[(0,.eq (.int .u64 x1.1)),(2,I x1.2)]) (fun z2 x1=>[]) h (fun K h=>?_) (fun z2 x1 h=>?_)
 ·
  refine sr (mq ?_);refine jb (qo rfl) ?_;refine nt (ci h (fun h=>?_) (fun h=>?_))
  ·refine sr (mq ?_);refine aE rfl (va rfl (by decide)) ⟨rfl,rfl,trivial⟩ ?_;refine aq (nt (ab ?_));refine cq (nl ?_);exact jz ((),(io .u64 a0 32,32)) h []
  ·refine aX (ae ?_);exact jz ((),(a0,0)) h []
 ·
  refine aN (Z:=Unit) (α:=Int×Int) (fun z4 x3=>[(0,.eq (.int .u64 x3.1)),(2,I x3.2)]) (fun z4 x3=>[]) h (fun K h=>?_) (fun z4 x3 h=>?_)
  ·refine sr (mq ?_);refine jb (qo rfl) ?_;refine nt (ci h (fun h=>?_) (fun h=>?_))
   ·refine sr (mq ?_);refine aE rfl (va rfl (by decide)) ⟨rfl,rfl,trivial⟩ ?_;refine aq (nt (ab ?_));refine mq ?_;obtain⟨x5,n,h⟩:=aa h;refine jb (bf rfl n) ?_;refine aq (nl ?_);exact jz ((),(io .u64 x1.1 16,x5)) h []
   ·refine aX (ae ?_);exact jz ((),(x1.1,x1.2)) h []
  ·refine aN (Z:=Unit) (α:=Int×Int) (fun z7 x6=>[(0,.eq (.int .u64 x6.1)),(2,I x6.2)]) (fun z7 x6=>[]) h (fun K h=>?_) (fun z7 x6 h=>?_)
   ·refine sr (mq ?_);refine jb (qo rfl) ?_;refine nt (ci h (fun h=>?_) (fun h=>?_))
    ·refine sr (mq ?_);refine aE rfl (va rfl (by decide)) ⟨rfl,rfl,trivial⟩ ?_;refine aq (nt (ab ?_));refine mq ?_;obtain⟨x8,l,h⟩:=aa h;refine jb (bf rfl l) ?_;refine aq (nl ?_);exact jz ((),(io .u64 x3.1 8,x8)) h []
    ·refine aX (ae ?_);exact jz ((),(x3.1,x3.2)) h []
   ·refine sr ?_;iterate 2 refine mq ?_
    refine ja (oU rfl QU U5) ?_;obtain⟨x9,j,h⟩:=aa h;refine ja (zt rfl U9 j) ?_;obtain⟨u,e,h⟩:=aa h;refine ja (zu rfl U5 U3 e) ?_;obtain⟨s,c,h⟩:=aa h;refine jb (bf rfl c) ?_;refine aq (nt (ay ?_));cases h;exact ra
def yo(k:Nat)(a0:Int):Option Int:=
 (lg k a0).bind fun r1=>
 some r1
theorem Cf(k:Nat)(a0:Int)(r:Int)(h:yo k a0=some r):
 bX Tryz.prog 157 [.eq (.int .u64 a0)] [] (fun _:Unit=>(bu [I r],[])):=by
 unfold yo at h
 replace h:=ba h
 refine bX.of 8 Tryz.func157 rfl Tryz.ntmps157 rfl fun S w0=>?_
 refine sr ?_
 refine cq ?_
 refine nt ?_
 refine ag ?_
 refine IJ (fun hb=>(by cases hb)) (fun hb=>?_)
 refine sk ?_
 refine sr ?_
 refine mq ?_
 obtain⟨r1,c,h⟩:=aa h
 have e:=qR k a0 r1 c
 refine ja (ap [.tmp 6] rfl rfl P1 rfl e) ?_
 refine aq ?_
 refine nt ?_
 refine ay ?_
 cases h
 exact ra
def fG(k:Nat)(a0:(List Int))(a1:Int)(a2:Int)(a3:Int):Nat→Unit→Option (List Int)
 |0,_=>none
 |n+1,y1=>
  (ck (a2 - a1)).bind fun x3=>
  if x3≤12 then((eH k a0 a1 a2).bind fun r4=>
  some r4) else(if a3=0 then(none) else(none))
def gQ(k:Nat)(a0:(List Int))(a1:Int)(a2:Int)(a3:Int):Option (List Int):=
 fG k a0 a1 a2 a3 k ()
theorem mj(k:Nat)(a0:(List Int))(c:Value)(a1:Int)(a2:Int)(a3:Int)(r:(List Int))(h:gQ k a0 a1 a2 a3=some r):
 bX Tryz.prog 156 [.eq c,I a1,I a2,I a3] [.sl c 3 (.int .i64) a0] (fun _:Unit=>(bu [],[.sl c 3 (.int .i64) r])):=by
 unfold gQ at h
 replace h:=ba h
 refine bX.of 134 Tryz.func156 rfl Tryz.ntmps156 rfl fun S w0=>?_
 refine sr ?_
 refine cq ?_
 refine nt ?_
 refine sr ?_
 refine cq ?_
 refine nt ?_
 refine ao ?_
 refine aK (fun z2 y1=>[(0,.eq c),(1,I a1),(2,I a2),(3,I a3),(8,.eq (.bool true)),(9,.eq (.bool true))]) (fun z2 y1=>[.sl c 3 (.int .i64) a0]) (fG k a0 a1 a2 a3) k () () (fun _=>rfl) h (SE.fin [0] ⟨rfl,rfl,rfl,rfl,rfl,rfl,trivial⟩ rfl) (fun n z2 y1 h=>?_)
 unfold fG at h
 refine ao ?_
 refine sr ?_
 iterate 2 refine mq ?_
 obtain⟨x3,e,h⟩:=aa h
 refine jb (fV rfl e) ?_
 refine aq ?_
 refine nt ?_
 refine ag ?_
 refine sr ?_
 refine mq ?_
 refine jb (vc rfl) ?_
 refine nt ?_
 refine ci h (fun h=>?_) (fun h=>?_)
 ·
  refine sr ?_;iterate 3 refine mq ?_
  obtain⟨r4,j,h⟩:=aa h;refine kc (ap [.tmp 24,.tmp 25,.tmp 26] rfl rfl P4 rfl (j9 k a0 c a1 a2 r4 j)) ?_;refine nt (rx (bi (aV (bi ?_))));cases h;exact aP () [] 1 trivial rfl
 ·
  refine sk (ag (sr (mq ?_)));refine jb (fW rfl) ?_;refine nt (ci h (fun h=>?_) (fun h=>?_))
  ·refine sr ?_;iterate 3 refine mq ?_
   cases h
  ·refine sk (ag (sr (mq ?_)));refine ja (dT rfl) ?_;refine nt (bJ rfl (fun hb=>(by cases hb)) (fun hb=>?_));refine sk (sr ?_);iterate 3 refine mq ?_
   cases h
def nH(k:Nat)(a0:(List Int)):Option (List Int):=
 (yo k (IntKind.u64.wrap (a0.length:Int))).bind fun r1=>
 (gQ k a0 0 (a0.length:Int) r1).bind fun r2=>
 some r2
theorem t7(k:Nat)(a0:(List Int))(c:Value)(r:(List Int))(h:nH k a0=some r):
 bX Tryz.prog 117 [.eq c] [.sl c 3 (.int .i64) a0] (fun _:Unit=>(bu [],[.sl c 3 (.int .i64) r])):=by
 unfold nH at h
 replace h:=ba h
 refine bX.of 11 Tryz.func117 rfl Tryz.ntmps117 rfl fun S w0=>?_
 refine sr ?_
 refine mq ?_
 refine ka (c9 rfl rfl dC) ?_
 refine aq ?_
 refine nt ?_
 refine ab ?_
 iterate 3 refine mq ?_
 refine ja (oU rfl U3 SS) ?_
 obtain⟨r1,j,h⟩:=aa h
 have n:=Cf k (IntKind.u64.wrap (a0.length:Int)) r1 j
 refine ja (ap [.tmp 8] rfl rfl P7 rfl n) ?_
 obtain⟨r2,e,h⟩:=aa h
 have l:=mj k a0 c 0 (a0.length:Int) r1 r2 e
 refine bV rfl rfl rfl (ap [.tmp 5,.const (.int .i64 (0)),.tmp 6,.tmp 9] rfl rfl P8 rfl l) ⟨rfl,rfl,rfl,rfl,trivial⟩ ?_
 refine au ?_
 refine jh ?_
 cases h
 exact aP () [] 1 trivial rfl
def lQ(k:Nat)(a0:(List Int)):Option (List Int):=
 (lb k a0).bind fun r1=>
 (nH k r1).bind fun r3=>
 some r3
theorem ru(k:Nat)(a0:(List Int))(c:Nat)(r:(List Int))(h:lQ k a0=some r):
 bX Tryz.prog 78 [.eq (.func (.func 118) #[] #[(Pv c)])] [.obj c 23 (Ri a0)] (fun _:Unit=>(bu [Ri r],[.obj c 23 (Ri a0)])):=by
 unfold lQ at h
 replace h:=ba h
 refine bX.of 9 Tryz.func78 rfl Tryz.ntmps78 rfl fun S w0=>?_
 refine sr ?_
 refine cq ?_
 refine nt ?_
 refine sr ?_
 refine mq ?_
 obtain⟨r1,j,h⟩:=aa h
 have n:=qH k a0 c r1 j
 refine bR (Δ:=[_]) (F:=_) (fun _ _ _=>ax rfl _) rfl rfl (ap [.tmp 4] rfl rfl Qi rfl n) ⟨rfl,trivial⟩ fun z2=>?_
 refine aq ?_
 refine nt ?_
 refine sr ?_
 refine mq ?_
 obtain⟨r3,e,h⟩:=aa h
 have l:=t7 k r1 z2 r3 e
 refine ka (ap [.tmp 6] rfl rfl Qh rfl l) ?_
 refine nt ?_
 refine sr ?_
 refine mq ?_
 refine aq ?_
 refine nt ?_
 refine ay ?_
 refine bv (eJ [2,3,5,6,8] ⟨rfl,rfl,rfl,rfl,rfl,trivial⟩) ?_
 cases h
 exact aP () [_] 1 ⟨rfl,trivial⟩ rfl
theorem rn(a0:(List Int)):bX Tryz.prog 79 [Ri a0] [] (fun z:Nat=>(bu [.eq (.func (.func 118) #[] #[(Pv z)])],[.obj z 23 (Ri a0)])):=by
 refine bX.of 4 Tryz.func79 rfl Tryz.ntmps79 rfl fun S w0=>?_;refine sr (bx fun z=>?_);refine cq (nt (sr ?_));refine ja (sU [] [.tmp 1] [] [(Pv z)] rfl rfl rfl) ?_;refine aq (nt (ay ?_));exact aP z [_] 1 ⟨rfl,trivial⟩ rfl
def dV{σ:Type}(k:Nat)(a0:(List (List Int)))(a1:Int)(a2:Int)(a3:dn)(self:(List (List Int))→Int→Int→σ→Option (Bool×σ))(h:(List Int)):Nat→(Int×σ)→Option (Except (Bool×σ) (σ))
 |0,_=>none
 |n+1,c=>
  if c.1 < (a3.1.2.1.length:Int) then(bE (α:=σ) ((aR a3.1.2.1 c.1).bind fun y=>
  (((eU k a2 c.1).bind fun I=>
  if I=true then(some (true,c.2)) else((m3 k a3.1 h).bind fun F=>
  (ck (F+y.1)).bind fun x=>
  (aR a3.1.2.2 a1).bind fun u=>
  some (decide (u < x),c.2))):Option (Bool×σ)).bind fun j=>
  if j.1=true then(some (.ok j.2)) else((dz (0≤a1∧a1 < 3)).bind fun _=>
  (aR a0 a1).bind fun s=>
  (dz (0≤(h.length:Int)∧(h.length:Int) < 5)).bind fun _=>
  (eO k a2 c.1).bind fun E=>
  (self (List.set a0 (Int.toNat a1) (List.set s (Int.toNat (h.length:Int)) c.1)) a1 E j.2).bind fun l=>
  if¬(l.1=true) then(some (.error (false,l.2))) else(some (.ok l.2)))) (fun e=>some (.error e)) fun D=>
  (ck (c.1+1)).bind fun r=>
  dV k a0 a1 a2 a3 self h n (r,D)) else(some (.ok c.2))
def c6{σ:Type}(k:Nat)(Y:σ→(List (List Int))→Option (σ×Bool))(a3:dn):Nat→(List (List Int))→Int→Int→σ→Option (Bool×σ)
 |0,_,_,_,_=>none
 |m0+1,a0,a1,a2,s0=>
  if a1=(a3.1.2.2.length:Int) then((((dz (0≤(a3.1.2.1.length:Int))).bind fun _=>
  if¬(a2=(IntKind.u8.wrap ((np .u8 1 (a3.1.2.1.length:Int)) - 1))) then(some (true,s0)) else((Y s0 a0).bind fun r5=>
  some (r5.2,r5.1))):Option (Bool×σ)).bind fun x2=>
  some (x2.1,x2.2)) else((ck (a1+1)).bind fun x7=>
  ((c6 k Y a3 m0) a0 x7 a2 s0).bind fun r8=>
  if¬(r8.1=true) then(some (false,r8.2)) else((dW k a0 a1).bind fun e=>
  bE (α:=σ) (dV k a0 a1 a2 a3 (c6 k Y a3 m0) e k (0,r8.2)) (some) fun c=>
  some (true,c)))
theorem mR{M:Md Tryz.prog}{σ Z:Type}(E:Z→σ→List D)(l:Nat)(Y:σ→(List (List Int))→Option (σ×Bool))(k:Nat)(a3:dn)(u:Nat)(x:Nat)(c:Nat)(hY:∀z s p r,Y s p=some r→YT M l [.rep (.arr 3 (.arr 5 (.int .i64))) p] (E z s) (fun z':Z=>(.eq (.bool r.2),E z' r.1))):
 ∀(n:Nat) (a0:(List (List Int))) (a1:Int) (a2:Int) (z0:Z) (s0:σ) (r:Bool×σ),c6 k Y a3 n a0 a1 a2 s0=some r→dw M 121 [.rep (.arr 3 (.arr 5 (.int .i64))) a0,I a1,.eq (.int .u8 a2),Pt u,Pt x,Pt c] ([.obj u 81 (.at bK a3),.obj x 195 (.eq (.func (.yield l) #[] #[])),.obj c 196 (.eq (.func (.func 121) #[] #[(Pv u),(Pv x),(Pv c)]))]++E z0 s0) (fun z:Z=>(bu [.eq (.bool r.1)],[.obj u 81 (.at bK a3),.obj x 195 (.eq (.func (.yield l) #[] #[])),.obj c 196 (.eq (.func (.func 121) #[] #[(Pv u),(Pv x),(Pv c)]))]++E z r.2)):=by
 intro n
 induction n with
 |zero=>intro a0 a1 a2 z0 s0 r h;cases h
 |succ m0 ih=>
  intro a0 a1 a2 z0 s0 r h;rw [c6] at h;replace h:=ba h;refine dw.of 97 Tryz.func121 rfl Tryz.ntmps121 rfl fun S w0=>?_;refine sr (bx fun b1=>?_);refine cq (nt (ag (sr ?_)));refine mq ?_;refine fr 1 ?_;refine lo xy ?_;refine ja (dO rfl) ?_;refine ja (aJ 3 true rfl j0 rfl) ?_;refine ja (aJ 1 false rfl cI rfl) ?_;refine ja (ak (t:=(.slice (.int .i64))) rfl bQ rfl) ?_;refine ol dC ?_;refine jb (fW rfl) ?_;refine nt (ci h (fun h=>?_) (fun h=>?_))
  ·refine aN (Z:=Z) (α:=Bool×σ) (fun z3 x2=>[(9,.eq (.bool x2.1))]) (fun z3 x2=>[.obj u 81 (.at bK a3),.obj x 195 (.eq (.func (.yield l) #[] #[])),.obj c 196 (.eq (.func (.func 121) #[] #[(Pv u),(Pv x),(Pv c)]))]++E z3 x2.2) h (fun K h=>?_) (fun z3 x2 h=>?_)
   ·refine ab (mq ?_);refine lo xy ?_;refine ja (dO rfl) ?_;refine ja (aJ 3 true rfl j0 rfl) ?_;refine ja (aJ 1 false rfl bU rfl) ?_;refine ja (ak (t:=(.slice aY)) rfl fi rfl) ?_;refine ol mL ?_;obtain⟨u4,Uh,h⟩:=aa h;refine jb (GE rfl (aB Uh)) ?_;refine jb (Bn rfl) ?_;refine jb (g9 rfl) ?_;refine mq ?_;refine cp (s:=32) rfl (fun hb=>?_) (fun hb=>?_)
    ·replace h:=cE (IR hb) h;iterate 3 refine gn ?_
     refine pt ?_;refine aq (nl ?_);exact iP (z0,(true,s0)) h (bp [.obj u 81 (.at bK a3),.obj b1 86 (.rep (.arr 3 (.arr 5 (.int .i64))) a0),.obj x 195 (.eq (.func (.yield l) #[] #[])),.obj c 196 (.eq (.func (.func 121) #[] #[(Pv u),(Pv x),(Pv c)]))] (E z0 s0) [0,2,3] ⟨rfl,trivial⟩ rfl)
    ·replace h:=bN (we hb) h;refine fr 2 ?_;refine jy rfl rfl rfl rfl rfl rfl (aj rfl OC i9 rfl) ⟨rfl,trivial⟩ ?_;refine fr 2 ?_;refine jy rfl rfl rfl rfl rfl rfl (aj rfl gf (tR) rfl) ⟨rfl,trivial⟩ ?_;obtain⟨r5,Uj,h⟩:=aa h;refine fr 3 ?_;refine fr 3 ?_;refine fr 3 ?_;refine fr 3 ?_;refine Fa [.obj b1 86 (.rep (.arr 3 (.arr 5 (.int .i64))) a0),.obj x 195 (.eq (.func (.yield l) #[] #[])),.obj u 81 (.at bK a3),.obj c 196 (.eq (.func (.func 121) #[] #[(Pv u),(Pv x),(Pv c)]))] rfl rfl rfl rfl rfl rfl (xJ [.tmp 34] rfl rfl rfl (hY z0 s0 a0 r5 Uj)) ⟨rfl,rfl,trivial⟩ fun z6=>?_;refine pf ?_;refine aq (nl ?_);exact iP (z6,(r5.2,r5.1)) h (bp [.obj b1 86 (.rep (.arr 3 (.arr 5 (.int .i64))) a0),.obj x 195 (.eq (.func (.yield l) #[] #[])),.obj u 81 (.at bK a3),.obj c 196 (.eq (.func (.func 121) #[] #[(Pv u),(Pv x),(Pv c)]))] (E z6 r5.1) [2,1,3] ⟨rfl,trivial⟩ rfl)
   ·refine rx ?_;cases h;exact iQ z3 [_] ⟨rfl,trivial⟩ rfl
  ·refine sk (ag (sr (fr 3 ?_)));refine lo CN ?_;refine fr 2 ?_;refine lo gf ?_;refine mq ?_;obtain⟨x7,Ug,h⟩:=aa h;refine jb (bf rfl Ug) ?_;refine mq ?_;obtain⟨r8,Ui,h⟩:=aa h;refine fr 1 ?_;refine fr 3 ?_;refine fr 3 ?_;refine fr 3 ?_;refine pz [.obj b1 86 (.rep (.arr 3 (.arr 5 (.int .i64))) a0)] rfl rfl rfl (oV (fs:=[]) (cs:=[(Pv u),(Pv x),(Pv c)]) (ags:=[.rep (.arr 3 (.arr 5 (.int .i64))) a0,I x7,.eq (.int .u8 a2)]) [.tmp 38,.tmp 40,.tmp 41] rfl rfl H3 rfl (ih a0 x7 a2 z0 s0 r8 Ui)) ⟨rfl,rfl,rfl,rfl,trivial⟩ fun z9=>?_;refine ja (dT rfl) ?_;refine nt (cw h (fun h=>?_) (fun h=>?_))
   ·refine sr (cq (nt (rx ?_)));refine bv (bp (Γ':=[(9,_)]) [.obj b1 86 (.rep (.arr 3 (.arr 5 (.int .i64))) a0),.obj u 81 (.at bK a3),.obj x 195 (.eq (.func (.yield l) #[] #[])),.obj c 196 (.eq (.func (.func 121) #[] #[(Pv u),(Pv x),(Pv c)]))] (E z9 r8.2) [1,2,3] ⟨rfl,trivial⟩ rfl) ?_;cases h;exact iQ z9 [_] ⟨rfl,trivial⟩ rfl
   ·refine sk (sr (lo gf ?_));refine mq ?_;obtain⟨F,T9,h⟩:=aa h;refine jb (ap [.tmp 44,.tmp 45] rfl rfl Kq rfl (gi k a0 a1 F T9)) ?_;refine aq (nt ?_);refine dM (Z:=Z) (α:=σ) (fun qt TK=>[]) (fun qt TK=>[.obj u 81 (.at bK a3),.obj x 195 (.eq (.func (.yield l) #[] #[])),.obj c 196 (.eq (.func (.func 121) #[] #[(Pv u),(Pv x),(Pv c)]))]++E qt TK) (fun e=>e=r) h (fun e h=>Option.some.inj h) (fun K hR h=>?_) (fun qt TK h=>?_)
    ·refine sr (fr 1 ?_);refine lo xy ?_;refine ja (dO rfl) ?_;refine ja (aJ 3 true rfl j0 rfl) ?_;refine ja (aJ 1 false rfl bU rfl) ?_;refine ja (ak (t:=(.slice aY)) rfl fi rfl) ?_;refine ol mL ?_;refine fg rfl ?_;refine nt (ao (aK (Z:=Z) (α:=Int×σ) (fun J y=>[(1,I a1),(2,.eq (.int .u8 a2)),(3,Pt u),(5,Pt c),(6,Pt b1),(10,Ri F),(51,Rs aY a3.1.2.1),(52,I (a3.1.2.1.length:Int)),(53,I y.1)]) (fun J y=>[.obj u 81 (.at bK a3),.obj c 196 (.eq (.func (.func 121) #[] #[(Pv u),(Pv x),(Pv c)])),.obj x 195 (.eq (.func (.yield l) #[] #[])),.obj b1 86 (.rep (.arr 3 (.arr 5 (.int .i64))) a0)]++E J y.2) (dV k a0 a1 a2 a3 (c6 k Y a3 m0) F) k z9 (0,r8.2) (fun _=>rfl) h (bp [.obj u 81 (.at bK a3),.obj b1 86 (.rep (.arr 3 (.arr 5 (.int .i64))) a0),.obj x 195 (.eq (.func (.yield l) #[] #[])),.obj c 196 (.eq (.func (.func 121) #[] #[(Pv u),(Pv x),(Pv c)]))] (E z9 r8.2) [0,3,2,1] ⟨rfl,rfl,rfl,rfl,rfl,rfl,rfl,rfl,rfl,trivial⟩ rfl) (fun n J y h=>?_)));unfold dV at h;refine sr (jb (bq rfl) ?_);refine nt (ag (ci h (fun h=>?_) (fun h=>?_)))
     ·refine sk (dM (Z:=Z) (α:=σ) (fun X mc=>[(1,I a1),(2,.eq (.int .u8 a2)),(3,Pt u),(5,Pt c),(6,Pt b1),(10,Ri F),(51,Rs aY a3.1.2.1),(52,I (a3.1.2.1.length:Int)),(53,I y.1)]) (fun X mc=>[.obj u 81 (.at bK a3),.obj c 196 (.eq (.func (.func 121) #[] #[(Pv u),(Pv x),(Pv c)])),.obj x 195 (.eq (.func (.yield l) #[] #[])),.obj b1 86 (.rep (.arr 3 (.arr 5 (.int .i64))) a0)]++E X mc) (fun e=>e=r) h (fun e h=>hR e h) (fun K hR h=>?_) (fun X mc h=>?_))
      ·refine ao (sr (mq ?_));obtain⟨TN,TU,h⟩:=aa h;refine jb (aC (t:=aY) rfl mL jQ TU) ?_;refine ja (ak (t:=aY) rfl jQ rfl) ?_;refine aF rfl rfl rfl (be rfl t4 KQ) trivial fun Ua=>?_;refine aq ?_;refine bh rfl rfl (bb rfl jQ rfl rfl rfl) ⟨rfl,rfl,trivial⟩ ?_;refine nt (ag (aN (Z:=Z) (α:=Bool×σ) (fun U O=>[(1,I a1),(2,.eq (.int .u8 a2)),(3,Pt u),(5,Pt c),(6,Pt b1),(10,Ri F),(11,I y.1),(51,Rs aY a3.1.2.1),(52,I (a3.1.2.1.length:Int)),(53,I y.1),(80,.eq (.bool O.1))]) (fun U O=>[.obj u 81 (.at bK a3),.obj c 196 (.eq (.func (.func 121) #[] #[(Pv u),(Pv x),(Pv c)])),.obj x 195 (.eq (.func (.yield l) #[] #[])),.obj b1 86 (.rep (.arr 3 (.arr 5 (.int .i64))) a0)]++E U O.2) h (fun K h=>?_) (fun U O h=>?_)))
       ·refine bI ?_;refine dm ?_;refine dm ?_;obtain⟨Uf,T8,h⟩:=aa h;refine db (ap [.tmp 58,.tmp 59] rfl rfl Kr rfl (iq k a2 y.1 Uf T8)) ?_;refine j8 rfl rfl rfl (aH rfl) ⟨rfl,trivial⟩ (fun hb=>?_) (fun hb=>?_)
        ·replace h:=cE (D2 hb) h;iterate 17 refine dg ?_
         refine df cz ?_;refine gn ?_;refine pt (nl ?_);exact iP (J,(true,y.2)) h (bp [.obj Ua 27 (.rep aY TN),.obj u 81 (.at bK a3),.obj c 196 (.eq (.func (.func 121) #[] #[(Pv u),(Pv x),(Pv c)])),.obj x 195 (.eq (.func (.yield l) #[] #[])),.obj b1 86 (.rep (.arr 3 (.arr 5 (.int .i64))) a0)] (E J y.2) [1,2,3,4] ⟨rfl,rfl,rfl,rfl,rfl,rfl,rfl,rfl,rfl,rfl,rfl,trivial⟩ rfl)
        ·replace h:=bN (D3 hb) h;refine iR 1 rfl rfl rfl rfl rfl rfl (aj rfl xy i9 rfl) ⟨rfl,rfl,trivial⟩ ?_;refine aL rfl rfl rfl rfl rfl (dO rfl) ⟨rfl,rfl,trivial⟩ ?_;refine aL rfl rfl rfl rfl rfl (aJ 3 true rfl j0 rfl) ⟨rfl,rfl,trivial⟩ ?_;refine aL rfl rfl rfl rfl rfl (ak (t:=av) rfl dy rfl) ⟨rfl,rfl,trivial⟩ ?_;refine aL rfl rfl rfl rfl rfl (aH rfl) ⟨rfl,rfl,trivial⟩ ?_;obtain⟨Ue,TZ,h⟩:=aa h;refine aL rfl rfl rfl rfl rfl (ap [.tmp 65,.tmp 66] rfl rfl LF rfl (tK k a3.1 F Ue TZ)) ⟨rfl,rfl,rfl,trivial⟩ ?_;refine aL rfl rfl rfl rfl rfl (ar rfl kz) ⟨rfl,rfl,trivial⟩ ?_;refine iR 0 rfl rfl rfl rfl rfl rfl (aj rfl cg i9 rfl) ⟨rfl,rfl,trivial⟩ ?_;obtain⟨Ud,TS,h⟩:=aa h;refine aL rfl rfl rfl rfl rfl (bf rfl TS) ⟨rfl,rfl,rfl,trivial⟩ ?_;refine iR 1 rfl rfl rfl rfl rfl rfl (aj rfl xy i9 rfl) ⟨rfl,rfl,trivial⟩ ?_;refine aL rfl rfl rfl rfl rfl (dO rfl) ⟨rfl,rfl,trivial⟩ ?_;refine aL rfl rfl rfl rfl rfl (aJ 3 true rfl j0 rfl) ⟨rfl,rfl,trivial⟩ ?_;refine aL rfl rfl rfl rfl rfl (aJ 1 false rfl cI rfl) ⟨rfl,rfl,trivial⟩ ?_;refine aL rfl rfl rfl rfl rfl (ak (t:=(.slice (.int .i64))) rfl bQ rfl) ⟨rfl,rfl,trivial⟩ ?_;refine aL rfl rfl rfl rfl rfl (aH rfl) ⟨rfl,rfl,trivial⟩ ?_;obtain⟨Uc,TR,h⟩:=aa h;refine aL rfl rfl rfl rfl rfl (aC (t:=(.int .i64)) rfl dC cg TR) ⟨rfl,rfl,rfl,trivial⟩ ?_;refine aL rfl rfl rfl rfl rfl (ak (t:=(.int .i64)) rfl cg rfl) ⟨rfl,rfl,trivial⟩ ?_;refine df cz ?_;refine gb (hC rfl) ?_;refine pf (nl ?_);exact iP (J,(decide (Uc < Ud),y.2)) h (bp [.obj Ua 27 (.rep aY TN),.obj u 81 (.at bK a3),.obj c 196 (.eq (.func (.func 121) #[] #[(Pv u),(Pv x),(Pv c)])),.obj x 195 (.eq (.func (.yield l) #[] #[])),.obj b1 86 (.rep (.arr 3 (.arr 5 (.int .i64))) a0)] (E J y.2) [1,2,3,4] ⟨rfl,rfl,rfl,rfl,rfl,rfl,rfl,rfl,rfl,rfl,rfl,trivial⟩ rfl)
       ·refine cv h (fun h=>?_) (fun h=>?_)
        ·refine dH (aU (bW (ae ?_)));exact iP (U,O.2) h (bp [.obj u 81 (.at bK a3),.obj c 196 (.eq (.func (.func 121) #[] #[(Pv u),(Pv x),(Pv c)])),.obj x 195 (.eq (.func (.yield l) #[] #[])),.obj b1 86 (.rep (.arr 3 (.arr 5 (.int .i64))) a0)] (E U O.2) [0,1,2,3] ⟨rfl,rfl,rfl,rfl,rfl,rfl,rfl,rfl,rfl,trivial⟩ rfl)
        ·refine sk (sr (fr 3 ?_));refine lo gf ?_;refine aF rfl rfl rfl (be rfl sC tD) trivial fun TM=>?_;refine bh rfl rfl (bb rfl gf rfl rfl rfl) ⟨rfl,rfl,trivial⟩ ?_;refine nt (sr ?_);iterate 2 refine mq ?_
         refine ol dC ?_;refine mq ?_;obtain⟨Ul,TJ,h⟩:=aa h;refine jb (iE rfl QR FY (aB TJ).1 (aB TJ).2) ?_;obtain⟨ac,TP,h⟩:=aa h;obtain⟨Uk,Q,h⟩:=aa h;refine jb (iE rfl QT cg (aB Q).1 (aB Q).2) ?_;refine bh rfl rfl (nM (t:=(.int .i64)) (off:=0) (i:=a1) (j:=(F.length:Int)) (N:=3) (L:=5) rfl cg .int rfl rfl rfl rfl TP (aB Q).1 (aB Q).2 rfl) ⟨rfl,rfl,trivial⟩ ?_;refine nt (ag (bI ?_));refine ea 3 (aj rfl CN i9 rfl) ?_;refine ea 0 (aj rfl gf (tR) rfl) ?_;refine dm ?_;refine dm ?_;refine dm ?_;obtain⟨TL,TY,h⟩:=aa h;refine db (ap [.tmp 91,.tmp 92] rfl rfl Do rfl (jl k a2 y.1 TL TY)) ?_;refine df cz ?_;obtain⟨se,TX,h⟩:=aa h;refine fr 3 ?_;refine fr 4 ?_;refine fr 4 ?_;refine fr 4 ?_;refine fr 4 ?_;refine pz [.obj TM 86 (.rep (.arr 3 (.arr 5 (.int .i64))) (List.set a0 (Int.toNat a1) (List.set ac (Int.toNat (F.length:Int)) y.1))),.obj b1 86 (.rep (.arr 3 (.arr 5 (.int .i64))) a0)] rfl rfl rfl (oV (fs:=[]) (cs:=[(Pv u),(Pv x),(Pv c)]) (ags:=[.rep (.arr 3 (.arr 5 (.int .i64))) (List.set a0 (Int.toNat a1) (List.set ac (Int.toNat (F.length:Int)) y.1)),I a1,.eq (.int .u8 TL)]) [.tmp 89,.tmp 90,.tmp 93] rfl rfl H3 rfl (ih (List.set a0 (Int.toNat a1) (List.set ac (Int.toNat (F.length:Int)) y.1)) a1 TL U O.2 se TX)) ⟨rfl,rfl,rfl,rfl,trivial⟩ fun pp=>?_;refine ja (dT rfl) ?_;refine nt (cw h (fun h=>?_) (fun h=>?_))
         ·refine sr (cq (nt (ay (br (bi (aV ?_))))));refine bv (bp (Γ':=[(9,_)]) [.obj TM 86 (.rep (.arr 3 (.arr 5 (.int .i64))) (List.set a0 (Int.toNat a1) (List.set ac (Int.toNat (F.length:Int)) y.1))),.obj b1 86 (.rep (.arr 3 (.arr 5 (.int .i64))) a0),.obj u 81 (.at bK a3),.obj x 195 (.eq (.func (.yield l) #[] #[])),.obj c 196 (.eq (.func (.func 121) #[] #[(Pv u),(Pv x),(Pv c)]))] (E pp se.2) [2,3,4] ⟨rfl,trivial⟩ rfl) ?_;obtain rfl:=hR _ h;exact iQ pp [_] ⟨rfl,trivial⟩ rfl
         ·refine aX (bn ?_);exact iP (pp,se.2) h (bp [.obj TM 86 (.rep (.arr 3 (.arr 5 (.int .i64))) (List.set a0 (Int.toNat a1) (List.set ac (Int.toNat (F.length:Int)) y.1))),.obj b1 86 (.rep (.arr 3 (.arr 5 (.int .i64))) a0),.obj u 81 (.at bK a3),.obj x 195 (.eq (.func (.yield l) #[] #[])),.obj c 196 (.eq (.func (.func 121) #[] #[(Pv u),(Pv x),(Pv c)]))] (E pp se.2) [2,4,3,1] ⟨rfl,rfl,rfl,rfl,rfl,rfl,rfl,rfl,rfl,trivial⟩ rfl)
      ·refine ab ?_;obtain⟨Ub,TO,h⟩:=aa h;refine jb (bf rfl TO) ?_;refine mq (nl ?_);exact iP (X,(Ub,mc)) h (bp [.obj u 81 (.at bK a3),.obj c 196 (.eq (.func (.func 121) #[] #[(Pv u),(Pv x),(Pv c)])),.obj x 195 (.eq (.func (.yield l) #[] #[])),.obj b1 86 (.rep (.arr 3 (.arr 5 (.int .i64))) a0)] (E X mc) [0,1,2,3] ⟨rfl,rfl,rfl,rfl,rfl,rfl,rfl,rfl,rfl,trivial⟩ rfl)
     ·refine xa ?_;exact iP (J,y.2) h (bp [.obj u 81 (.at bK a3),.obj c 196 (.eq (.func (.func 121) #[] #[(Pv u),(Pv x),(Pv c)])),.obj x 195 (.eq (.func (.yield l) #[] #[])),.obj b1 86 (.rep (.arr 3 (.arr 5 (.int .i64))) a0)] (E J y.2) [0,2,1] trivial rfl)
    ·refine sr (cq (nt (ay ?_)));cases h;exact iQ qt [_] ⟨rfl,trivial⟩ rfl
def iV{σ:Type}(k:Nat)(Y:σ→(List (List Int))→Option (σ×Bool))(a1:dn)(s0:σ):Option (σ):=
 (dZ k ([]:(List (List Int)))).bind fun r2=>
 (c6 k Y a1 k r2 0 0 s0).bind fun r5=>
 some r5.2
theorem nC{M:Md Tryz.prog}{σ Z:Type}(E:Z→σ→List D)(l:Nat)(Y:σ→(List (List Int))→Option (σ×Bool))(k:Nat)(a1:dn)(c:Nat)(hY:∀z s p r,Y s p=some r→YT M l [.rep (.arr 3 (.arr 5 (.int .i64))) p] (E z s) (fun z':Z=>(.eq (.bool r.2),E z' r.1))):
 ∀(z0:Z) (s0:σ) (r:σ),iV k Y a1 s0=some r→dw M 120 [.eq (.func (.yield l) #[] #[]),Pt c] ([.obj c 81 (.at bK a1)]++E z0 s0) (fun z:Z=>(bu [],[.obj c 81 (.at bK a1)]++E z r)):=by
 intro z0 s0 r h
 unfold iV at h
 replace h:=ba h
 refine dw.of 10 Tryz.func120 rfl Tryz.ntmps120 rfl fun S w0=>?_
 refine sr ?_
 refine bx fun b1=>?_
 refine nt ?_
 refine sr ?_
 obtain⟨r2,j,h⟩:=aa h
 have u:=fq k ([]:(List (List Int))) r2 j
 refine ja (eh (N:=[(.const (.slice none 0 0),.eq (.slice none 0 0))]) (ap [.const (.slice none 0 0)] rfl rfl ET rfl u) fun _ _ _ hn=>⟨(kB (t:=(.slice (.slice (.int .i64)))) (x:=([]:(List (List Int)))) .nil rfl rfl hn.1),trivial⟩) ?_
 refine aF rfl rfl rfl (be rfl sC tD) trivial fun b3=>?_
 refine bh rfl rfl (bb rfl gf rfl rfl rfl) ⟨rfl,rfl,trivial⟩ ?_
 refine nt ?_
 refine sr ?_
 refine aF rfl rfl rfl (be rfl Oe Qu) trivial fun b4=>?_
 refine nt ?_
 refine sr ?_
 refine jc (sU [] [.tmp 1,.tmp 2,.tmp 4] [] [(Pv c),(Pv b1),(Pv b4)] rfl rfl rfl) ?_
 refine bh rfl rfl (bb rfl CN rfl rfl rfl) ⟨rfl,rfl,trivial⟩ ?_
 refine nt ?_
 refine ab ?_
 refine lo CN ?_
 refine fr 1 ?_
 refine lo gf ?_
 obtain⟨r5,e,h⟩:=aa h
 have n:=mR E l Y k a1 c b1 b4 hY k r2 0 0 z0 s0 r5 e
 refine fr 1 ?_
 refine fr 2 ?_
 refine fr 3 ?_
 refine fr 3 ?_
 refine pz [.obj b3 86 (.rep (.arr 3 (.arr 5 (.int .i64))) r2)] rfl rfl rfl (oV (fs:=[]) (cs:=[(Pv c),(Pv b1),(Pv b4)]) (ags:=[.rep (.arr 3 (.arr 5 (.int .i64))) r2,I 0,.eq (.int .u8 0)]) [.tmp 8,.const (.int .i64 (0)),.const (.int .u8 (0))] rfl rfl H3 rfl n) ⟨rfl,rfl,rfl,rfl,trivial⟩ fun z6=>?_
 refine au ?_
 refine jh ?_
 refine bv (bp (Γ':=[]) [.obj b3 86 (.rep (.arr 3 (.arr 5 (.int .i64))) r2),.obj c 81 (.at bK a1),.obj b1 195 (.eq (.func (.yield l) #[] #[])),.obj b4 196 (.eq (.func (.func 121) #[] #[(Pv c),(Pv b1),(Pv b4)]))] (E z6 r5.2) [1] trivial rfl) ?_
 cases h
 exact iQ z6 [] trivial rfl
def jt(k:Nat)(a1:dn):Option (List (List (List Int))):=
 (iV k (qn (fun(y2:(List (List (List Int)))) (p4:(List (List Int)))=>
  (dz (bL (List.length y2+List.length [p4]))).bind fun _=>
  some (y2++[p4],true))) a1 (([]:(List (List (List Int)))),false)).bind fun r5=>
 if r5.2=true then(none) else(some r5.1)
theorem ox(k:Nat)(a1:dn)(c:Nat)(r:(List (List (List Int))))(h:jt k a1=some r):
 bX Tryz.prog 119 [.eq (.slice none 0 0),.eq (.func (.func 120) #[] #[(Pv c)])] [.obj c 81 (.at bK a1)] (fun z:Value=>(bu [.eq z],[.sl z 86 (.arr 3 (.arr 5 (.int .i64))) r,.obj c 81 (.at bK a1)])):=by
 unfold jt at h
 replace h:=ba h
 refine yz 13 Tryz.func119 rfl Tryz.ntmps119 rfl fun {M} S w0=>?_
 refine sr ?_
 refine bx fun b1=>?_
 refine cq ?_
 refine nt ?_
 refine ag ?_
 refine sr ?_
 refine mq ?_
 refine nt ?_
 refine ao ?_
 refine dJ (SE.nil 86 (.arr 3 (.arr 5 (.int .i64)))) ?_
 refine ji 1 rfl ?_
 refine ji 2 rfl ?_
 obtain⟨r5,j,h⟩:=aa h
 refine nY (Δ:=[.obj c 81 (.at bK a1),.obj b1 132 (.eq (.slice none 0 0)),.sl (.slice none 0 0) 86 (.arr 3 (.arr 5 (.int .i64))) ([]:(List (List (List Int))))]) (F:=[]) (X:=Value) (J:=fun _=>JL r5.2) (E:=fun z3=>[.obj c 81 (.at bK a1),.obj b1 132 (.eq z3),.sl z3 86 (.arr 3 (.arr 5 (.int .i64))) r5.1]) (r0:=fun _=>.tup .any) rfl rfl Qd (fun rec hp ha hb hs hpe hN hv l=>?_) (fun dl z3=>qD (fun hj=>?_) (fun hj=>?_))
 ·
  rcases rec with⟨st0,pe0,fn0,tm0,ps0,as0,bd0,df0⟩;dsimp only at hp ha hb hs hpe hN hv;subst hp hs hpe;have vN:vF tm0 [(2,Pt b1)]:=⟨congrArg A.eq (hv 2 _ rfl).symm,trivial⟩;refine dw.pick (M:=M) [1,0,2,3] [1,0,2,3] (nC (fun(z3:Value) (q:(List (List (List Int)))×Bool)=>[.raw l (.loop (jS ⟨.ready,none,fn0,tm0, #[7],as0,bd0,df0⟩ (JL q.2))),.obj b1 132 (.eq z3),.sl z3 86 (.arr 3 (.arr 5 (.int .i64))) q.1]) l (qn (fun(y2:(List (List (List Int)))) (p4:(List (List Int)))=>
  (dz (bL (List.length y2+List.length [p4]))).bind fun _=>
  some (y2++[p4],true))) k a1 c (fun z3 q p r' h=>?_) (.slice none 0 0) (([]:(List (List (List Int)))),false) r5 j) rfl (fun _=>rfl) (fun _=>rfl)
  obtain⟨rq,hq,h2,rfl⟩:=qE h;obtain⟨y2,b5⟩:=q;obtain rfl:b5=false:=hq;replace h:=ba h2;obtain⟨p4,hpv⟩:∃x,x=p:=⟨_,rfl⟩;subst hpv;refine YT.pick (R':=(fun z3:Value=>(.eq (.bool rq.2),[.raw l (.loop (jS ⟨.ready,none,fn0,tm0, #[7],as0,bd0,df0⟩ (JL (!rq.2)))),.obj b1 132 (.eq z3),.sl z3 86 (.arr 3 (.arr 5 (.int .i64))) rq.1]))) [0,1,2] [0,1,2] (Ir ha hb (N:=13) (Γ:=[(2,Pt b1)]) rfl hN (by decide) vN (fun S w=>?_)) rfl (fun _=>rfl) (fun _=>rfl);refine ab (aF rfl rfl rfl (be rfl sC tD) trivial fun b6=>?_);refine bh rfl rfl (bb rfl gf rfl rfl rfl) ⟨rfl,rfl,trivial⟩ ?_;refine nl (dj 1 rfl ?_);refine vM rfl rfl ?_;refine ao (ab (fr 2 ?_));refine lo FZ ?_;refine fr 2 ?_;refine lo gf ?_;refine ja (bj (t:=(.arr 3 (.arr 5 (.int .i64)))) [(.tmp 9,_)] [p4] rfl rfl Lm (.cons rfl .rep .nil) rfl rfl) ?_;obtain⟨u7,e,h⟩:=aa h;refine fr 3 ?_;refine cU rfl rfl rfl (bD rfl rfl Lm (aB e)) ⟨rfl,rfl,trivial⟩ fun v8=>?_;refine nX fun o9=>?_;refine fr 2 ?_;refine bh rfl rfl (bb rfl FZ o9 rfl rfl) ⟨rfl,rfl,trivial⟩ ?_;refine au (aM (dj 1 rfl ?_));refine dj 1 rfl ?_;refine dj 3 rfl ?_;cases h;exact tI v8 2 rfl
 ·
  replace h:=bN (D3 hj) h;refine aM (tn (sr (fr 2 ?_)));refine lo FZ ?_;refine aq (nt (ay ?_));refine dj 1 rfl ?_;refine yw ?_;refine bv (SE.fin (Γ':=[(4,_)]) [2,1,0] ⟨rfl,trivial⟩ rfl) ?_;cases h;exact aP z3 [.eq z3] 2 ⟨rfl,trivial⟩ rfl
 ·
  replace h:=cE (D2 hj) h;cases h
def kl(k:Nat)(a0:dn):Option (List (List (List Int))):=
 (jt k a0).bind fun r1=>
 some r1
theorem qg(k:Nat)(a0:dn)(c:Nat)(r:(List (List (List Int))))(h:kl k a0=some r):
 bX Tryz.prog 84 [.eq (.func (.func 120) #[] #[(Pv c)])] [.obj c 81 (.at bK a0)] (fun _:Unit=>(bu [.rep (.slice (.arr 3 (.arr 5 (.int .i64)))) r],[.obj c 81 (.at bK a0)])):=by
 unfold kl at h
 replace h:=ba h
 refine bX.of 5 Tryz.func84 rfl Tryz.ntmps84 rfl fun S w0=>?_
 refine sr ?_
 refine cq ?_
 refine nt ?_
 refine sr ?_
 refine mq ?_
 obtain⟨r1,e,h⟩:=aa h
 have j:=ox k a0 c r1 e
 refine bR (Δ:=[_]) (F:=_) (fun _ _ _=>ax rfl _) rfl rfl (ap [.const (.slice none 0 0),.tmp 3] rfl rfl Qf rfl j) ⟨rfl,rfl,trivial⟩ fun z2=>?_
 refine aq ?_
 refine nt ?_
 refine ay ?_
 refine bv (eJ [2,4] ⟨rfl,rfl,trivial⟩) ?_
 cases h
 exact aP () [_] 1 ⟨rfl,trivial⟩ rfl
theorem oK(a0:dn):bX Tryz.prog 85 [.at bK a0] [] (fun z:Nat=>(bu [.eq (.func (.func 120) #[] #[(Pv z)])],[.obj z 81 (.at bK a0)])):=by
 refine bX.of 4 Tryz.func85 rfl Tryz.ntmps85 rfl fun S w0=>?_;refine sr (aF rfl rfl rfl (oh rfl trivial) ⟨rfl,trivial⟩ fun z=>?_);refine cq (nt (sr ?_));refine ja (sU [] [.tmp 1] [] [(Pv z)] rfl rfl rfl) ?_;refine aq (nt (ay ?_));exact aP z [_] 1 ⟨rfl,trivial⟩ rfl
def kS(k:Nat)(a0:(List Int)):Option aS:=
 ((if(a0.length:Int)=0 then(some [3,2]) else(some a0)):Option ((List Int))).bind fun x2=>
 some (3,[(1,[0,2]),(1,[1]),(2,[2]),(1,[0,1])],x2)
theorem jH(k:Nat)(a0:(List Int))(r:aS)(h:kS k a0=some r):
 bX Tryz.prog 45 [Ri a0] [] (fun _:Unit=>(bu [.rep av r],[])):=by
 unfold kS at h
 replace h:=ba h
 refine bX.of 18 Tryz.func45 rfl Tryz.ntmps45 rfl fun S w0=>?_
 refine sr ?_
 refine aF rfl rfl rfl (be rfl kf ml) trivial fun b1=>?_
 refine nt ?_
 refine aN (Z:=Unit) (α:=(List Int)) (fun z3 x2=>[(0,Ri x2),(2,Pt b1)]) (fun z3 x2=>[.obj b1 25 (.agg (.pair (I 0) (.pair (.eq (.slice none 0 0)) (.eq (.slice none 0 0)))))]) h (fun K h=>?_) (fun z3 x2 h=>?_)
 ·
  refine sr (mq ?_);refine ol dC ?_;refine jb (fW rfl) ?_;refine nt (ci h (fun h=>?_) (fun h=>?_))
  ·refine ab (jb (bj (t:=(.int .i64)) [(.const (.int .i64 (3)),_),(.const (.int .i64 (2)),_)] [3,2] rfl rfl dB (.cons rfl .int (.cons rfl .int .nil)) rfl rfl) ?_);refine aq (nl ?_);exact jz ((),[3,2]) h [0]
  ·refine aX (ae ?_);exact jz ((),a0) h [0]
 ·
  refine sr (jb (bj (t:=(.int .i64)) [(.const (.int .i64 (0)),_),(.const (.int .i64 (2)),_)] [0,2] rfl rfl dB (.cons rfl .int (.cons rfl .int .nil)) rfl rfl) ?_);refine jb (cH [(0,.const (.int .i64 (1)),_),(1,.tmp 7,_)] rfl zl t4 tY (g7 ⟨rfl,rfl,trivial⟩) rfl) ?_;refine ja (bj (t:=(.int .i64)) [(.const (.int .i64 (1)),_)] [1] rfl rfl dB (.cons rfl .int .nil) rfl rfl) ?_;refine jb (cH [(0,.const (.int .i64 (1)),_),(1,.tmp 9,_)] rfl zl t4 tY (g7 ⟨rfl,rfl,trivial⟩) rfl) ?_;refine ja (bj (t:=(.int .i64)) [(.const (.int .i64 (2)),_)] [2] rfl rfl dB (.cons rfl .int .nil) rfl rfl) ?_;refine jb (cH [(0,.const (.int .i64 (2)),_),(1,.tmp 11,_)] rfl zl t4 tY (g7 ⟨rfl,rfl,trivial⟩) rfl) ?_;refine jb (bj (t:=(.int .i64)) [(.const (.int .i64 (0)),_),(.const (.int .i64 (1)),_)] [0,1] rfl rfl dB (.cons rfl .int (.cons rfl .int .nil)) rfl rfl) ?_;refine jb (cH [(0,.const (.int .i64 (1)),_),(1,.tmp 13,_)] rfl zl t4 tY (g7 ⟨rfl,rfl,trivial⟩) rfl) ?_;refine aE rfl (bj (t:=aY) [(.tmp 8,_),(.tmp 10,_),(.tmp 12,_),(.tmp 14,_)] [(1,[0,2]),(1,[1]),(2,[2]),(1,[0,1])] rfl rfl xz (.cons trivial (.agg (.pair .int .rep)) (.cons trivial (.agg (.pair .int .rep)) (.cons trivial (.agg (.pair .int .rep)) (.cons trivial (.agg (.pair .int .rep)) .nil)))) rfl rfl) ⟨rfl,rfl,rfl,rfl,trivial⟩ ?_;refine mq ?_;refine jc (cH [(0,.const (.int .i64 (3)),_),(1,.tmp 15,_),(2,.tmp 16,_)] rfl Gs kf Ar (g7 ⟨rfl,rfl,rfl,trivial⟩) rfl) ?_;refine bh rfl rfl (bb rfl dy trivial rfl rfl) ⟨rfl,rfl,trivial⟩ ?_;refine nt (ay (bv (nV (a:=.agg (.pair (I 3) (.pair (Rs aY [(1,[0,2]),(1,[1]),(2,[2]),(1,[0,1])]) (Ri x2)))) (a':=.rep av (3,[(1,[0,2]),(1,[1]),(2,[2]),(1,[0,1])],x2)) (vP (.agg (.pair .int (.pair .rep .rep))))) ?_));cases h;exact aP () [.rep av (3,[(1,[0,2]),(1,[1]),(2,[2]),(1,[0,1])],x2)] 0 ⟨⟨_,_,_,_,_,rfl,(.head _),dy,(tR),rfl⟩,trivial⟩ rfl
def wO(k:Nat):Option (List (List Int)):=
 some [[1,0,3],[2]]
theorem rO(k:Nat)(r:(List (List Int)))(h:wO k=some r):
 bX Tryz.prog 46 [] [] (fun _:Unit=>(bu [.rep (.slice (.slice (.int .i64))) r],[])):=by
 unfold wO at h
 replace h:=ba h
 refine bX.of 4 Tryz.func46 rfl Tryz.ntmps46 rfl fun S w0=>?_
 refine sr ?_
 refine cq ?_
 refine nt ?_
 refine sr ?_
 refine jc (bj (t:=(.int .i64)) [(.const (.int .i64 (1)),_),(.const (.int .i64 (0)),_),(.const (.int .i64 (3)),_)] [1,0,3] rfl rfl dB (.cons rfl .int (.cons rfl .int (.cons rfl .int .nil))) rfl rfl) ?_
 refine ja (bj (t:=(.int .i64)) [(.const (.int .i64 (2)),_)] [2] rfl rfl dB (.cons rfl .int .nil) rfl rfl) ?_
 refine jb (bj (t:=(.slice (.int .i64))) [(.tmp 1,_),(.tmp 2,_)] [[1,0,3],[2]] rfl rfl oN (.cons rfl .rep (.cons rfl .rep .nil)) rfl rfl) ?_
 refine aq ?_
 refine nt ?_
 refine ay ?_
 cases h
 exact ra
def Ht(k:Nat):Option (List (List Int)):=
 some [[0,2],[3,1]]
theorem Hr(k:Nat)(r:(List (List Int)))(h:Ht k=some r):
 bX Tryz.prog 47 [] [] (fun _:Unit=>(bu [.rep (.slice (.slice (.int .i64))) r],[])):=by
 unfold Ht at h
 replace h:=ba h
 refine bX.of 4 Tryz.func47 rfl Tryz.ntmps47 rfl fun S w0=>?_
 refine sr ?_
 refine cq ?_
 refine nt ?_
 refine sr ?_
 refine jb (bj (t:=(.int .i64)) [(.const (.int .i64 (0)),_),(.const (.int .i64 (2)),_)] [0,2] rfl rfl dB (.cons rfl .int (.cons rfl .int .nil)) rfl rfl) ?_
 refine jb (bj (t:=(.int .i64)) [(.const (.int .i64 (3)),_),(.const (.int .i64 (1)),_)] [3,1] rfl rfl dB (.cons rfl .int (.cons rfl .int .nil)) rfl rfl) ?_
 refine jb (bj (t:=(.slice (.int .i64))) [(.tmp 1,_),(.tmp 2,_)] [[0,2],[3,1]] rfl rfl oN (.cons rfl .rep (.cons rfl .rep .nil)) rfl rfl) ?_
 refine aq ?_
 refine nt ?_
 refine ay ?_
 cases h
 exact ra
def mH(k:Nat)(a0:(List Int)):Option bS:=
 some (a0,0,1)
theorem vo(k:Nat)(a0:(List Int))(r:bS)(h:mH k a0=some r):
 bX Tryz.prog 13 [Ri a0] [] (fun z:Nat=>(bu [Pt z],[.obj z 75 (.agg (.pair (Ri r.1) (.pair (I r.2.1) (.eq (.int .u64 r.2.2)))))])):=by
 unfold mH at h
 replace h:=ba h
 refine bX.of 6 Tryz.func13 rfl Tryz.ntmps13 rfl fun S w0=>?_
 refine sr ?_
 refine cq ?_
 refine nt ?_
 refine sr ?_
 refine mq ?_
 refine jb (cH [(0,.tmp 3,_),(2,.const (.int .u64 (1)),_)] rfl Rh Q1 Qq (g7 ⟨rfl,rfl,trivial⟩) rfl) ?_
 refine aF rfl rfl rfl (oh rfl trivial) ⟨rfl,trivial⟩ fun b1=>?_
 refine aq ?_
 refine nt ?_
 refine ay ?_
 cases h
 exact aP b1 [Pt b1] 1 ⟨rfl,trivial⟩ rfl
def dX(k:Nat)(a0:(List Int)):Option (List Int):=
 (dz (bL (List.length ([]:(List Int))+List.length a0))).bind fun _=>
 some (([]:(List Int))++a0)
theorem ct(k:Nat)(a0:(List Int))(r:(List Int))(h:dX k a0=some r):
 bX Tryz.prog 50 [Ri a0] [] (fun z:Value=>(bu [.eq z],[.sl z 3 (.int .i64) r])):=by
 unfold dX at h
 replace h:=ba h
 refine bX.of 6 Tryz.func50 rfl Tryz.ntmps50 rfl fun S w0=>?_
 refine sr ?_
 refine cq ?_
 refine nt ?_
 refine sr ?_
 refine aF rfl rfl rfl (lY (t:=(.int .i64)) [] ([]:(List Int)) rfl rfl dB .nil rfl rfl) trivial fun v1=>?_
 refine mq ?_
 obtain⟨u2,c,h⟩:=aa h
 refine cU rfl rfl rfl (bD rfl rfl dB (aB c)) ⟨rfl,rfl,trivial⟩ fun v3=>?_
 refine aq ?_
 refine nt ?_
 refine ay ?_
 cases h
 exact aP v3 [.eq v3] 1 ⟨rfl,trivial⟩ rfl
def fL(k:Nat)(a0:aS):Nat→((List eF)×Int)→Option (List eF)
 |0,_=>none
 |n+1,y9=>
  if y9.2 < (a0.2.1.length:Int) then((aR a0.2.1 y9.2).bind fun c=>
  (aR a0.2.1 y9.2).bind fun j=>
  (dX k j.2).bind fun e=>
  (dz (bL (List.length y9.1+List.length [(c.1,e)]))).bind fun _=>
  (ck (y9.2+1)).bind fun h=>
  fL k a0 n (y9.1++[(c.1,e)],h)) else(some y9.1)
def iN(k:Nat)(a0:aS):Option aS:=
 (dX k a0.2.2).bind fun r3=>
 ((fL k a0 k (([]:(List eF)),0)):Option ((List eF))).bind fun x7=>
 some (a0.1,x7,r3)
theorem ua(k:Nat)(a0:aS)(r:aS)(h:iN k a0=some r):
 bX Tryz.prog 16 [.rep av a0] [] (fun z:Value×Value=>(bu [.agg (.pair (I r.1) (.pair (.eq z.1) (.eq z.2)))],[.sl z.1 27 aY r.2.1,.sl z.2 3 (.int .i64) r.2.2])):=by
 unfold iN at h
 replace h:=ba h
 refine bX.of 38 Tryz.func16 rfl Tryz.ntmps16 rfl fun S w0=>?_
 refine sr ?_
 refine bx fun b1=>?_
 refine aF rfl rfl rfl (be rfl kf ml) trivial fun b2=>?_
 refine nt ?_
 refine ag ?_
 obtain⟨r3,c,h⟩:=aa h
 refine dJ (SE.fin (Γ':=[(1,Pt b1),(2,Pt b2)]) (Δ':=[.obj b2 25 (.agg (.pair (I 0) (.pair (.eq (.slice none 0 0)) (.eq (.slice none 0 0))))),.obj b1 25 (.rep av a0)]) [0,1] ⟨rfl,rfl,trivial⟩ rfl) ?_
 refine AI (I:=Value×Nat) (Ge:=fun i=>[(1,Pt b1),(2,Pt b2),(3,.eq (.pointer (some ⟨i.2,0,none⟩)))]) (De:=fun i=>[.obj b1 25 (.rep av a0),.obj b2 25 (.agg (.pair (I 0) (.pair (.eq (.slice none 0 0)) (.eq (.slice none 0 0))))),.sl i.1 3 (.int .i64) r3,.obj i.2 25 (.agg (.pair (I a0.1) (.pair (.eq (.slice none 0 0)) (.eq i.1))))]) (L:=[true,true,true,true,true,true,true,true]) cz rfl (fun J hJ hE=>?_) (by kernel_rfl) ?_
 ·
  have s127:∀(v4:Value) (b6:Nat),J 1 [true,true,true,true,true,true,true,false] [(1,Pt b1),(2,Pt b2),(3,Pt b6),(10,.agg (.pair (I a0.1) (.pair (.eq (.slice none 0 0)) (.eq v4))))] [.obj b1 25 (.rep av a0),.obj b2 25 (.agg (.pair (I 0) (.pair (.eq (.slice none 0 0)) (.eq (.slice none 0 0))))),.sl v4 3 (.int .i64) r3,.obj b6 25 (.agg (.pair (I 0) (.pair (.eq (.slice none 0 0)) (.eq (.slice none 0 0)))))]:=fun v4 b6=>by
   subst hJ;refine JD.step [7] (by kernel_rfl) rfl ?_;refine cM.cons rfl ?_ ?_
   ·refine fr 3 ?_;refine bh rfl rfl (bb rfl dy trivial rfl rfl) ⟨rfl,rfl,trivial⟩ ?_;exact aG (hE ⟨v4,b6⟩) [1,2,3,0] ⟨rfl,rfl,rfl,trivial⟩
   exact trivial
  have s63:∀(v4:Value),J 2 [true,true,true,true,true,true,false,false] [(1,Pt b1),(2,Pt b2),(10,.agg (.pair (I a0.1) (.pair (.eq (.slice none 0 0)) (.eq v4))))] [.obj b1 25 (.rep av a0),.obj b2 25 (.agg (.pair (I 0) (.pair (.eq (.slice none 0 0)) (.eq (.slice none 0 0))))),.sl v4 3 (.int .i64) r3]:=fun v4=>by
   subst hJ;refine JD.step [6] (by kernel_rfl) rfl ?_;refine cM.cons rfl ?_ ?_
   ·refine aF rfl rfl rfl (be rfl kf ml) trivial fun b6=>?_;exact aG (s127 v4 b6) [1,2,3,0] ⟨rfl,rfl,rfl,rfl,trivial⟩
   exact trivial
  have s95:∀(v4:Value) (b6:Nat),J 2 [true,true,true,true,true,false,true,false] [(1,Pt b1),(2,Pt b2),(3,Pt b6),(6,I a0.1),(9,.eq v4)] [.obj b1 25 (.rep av a0),.obj b2 25 (.agg (.pair (I 0) (.pair (.eq (.slice none 0 0)) (.eq (.slice none 0 0))))),.sl v4 3 (.int .i64) r3,.obj b6 25 (.agg (.pair (I 0) (.pair (.eq (.slice none 0 0)) (.eq (.slice none 0 0)))))]:=fun v4 b6=>by
   subst hJ;refine JD.step [5] (by kernel_rfl) rfl ?_;refine cM.cons rfl ?_ ?_
   ·refine fr 2 ?_;refine nX fun o5=>?_;refine jb (cH [(0,.tmp 6,_),(2,.tmp 9,_)] rfl Gs kf Ar (g7 ⟨rfl,o5,trivial⟩) rfl) ?_;exact aG (s127 v4 b6) [1,2,0,3] ⟨rfl,rfl,rfl,rfl,trivial⟩
   exact trivial
  have s31:∀(v4:Value),J 3 [true,true,true,true,true,false,false,false] [(1,Pt b1),(2,Pt b2),(6,I a0.1),(9,.eq v4)] [.obj b1 25 (.rep av a0),.obj b2 25 (.agg (.pair (I 0) (.pair (.eq (.slice none 0 0)) (.eq (.slice none 0 0))))),.sl v4 3 (.int .i64) r3]:=fun v4=>by
   subst hJ;refine JD.step [5,6] (by kernel_rfl) rfl ?_;refine cM.cons rfl ?_ ?_
   ·refine fr 2 ?_;refine nX fun o5=>?_;refine jb (cH [(0,.tmp 6,_),(2,.tmp 9,_)] rfl Gs kf Ar (g7 ⟨rfl,o5,trivial⟩) rfl) ?_;exact aG (s63 v4) [1,2,0] ⟨rfl,rfl,rfl,trivial⟩
   refine cM.cons rfl ?_ ?_
   ·refine aF rfl rfl rfl (be rfl kf ml) trivial fun b6=>?_;exact aG (s95 v4 b6) [1,2,3,0] ⟨rfl,rfl,rfl,rfl,rfl,trivial⟩
   exact trivial
  have s79:∀(b6:Nat),J 3 [true,true,true,true,false,false,true,false] [(1,Pt b1),(2,Pt b2),(3,Pt b6),(6,I a0.1),(8,Ri a0.2.2)] [.obj b1 25 (.rep av a0),.obj b2 25 (.agg (.pair (I 0) (.pair (.eq (.slice none 0 0)) (.eq (.slice none 0 0))))),.obj b6 25 (.agg (.pair (I 0) (.pair (.eq (.slice none 0 0)) (.eq (.slice none 0 0)))))]:=fun b6=>by
   subst hJ;refine JD.step [4] (by kernel_rfl) rfl ?_;refine cM.cons rfl ?_ ?_
   ·refine aF rfl rfl rfl (ap [.tmp 8] rfl rfl ue rfl (ct k a0.2.2 r3 c)) ⟨rfl,trivial⟩ fun v4=>?_;exact aG (s95 v4 b6) [1,2,0,3] ⟨rfl,rfl,rfl,rfl,rfl,trivial⟩
   exact trivial
  have s93:∀(v4:Value) (b6:Nat),J 3 [true,false,true,true,true,false,true,false] [(1,Pt b1),(2,Pt b2),(3,Pt b6),(5,Pt b1),(9,.eq v4)] [.obj b1 25 (.rep av a0),.obj b2 25 (.agg (.pair (I 0) (.pair (.eq (.slice none 0 0)) (.eq (.slice none 0 0))))),.sl v4 3 (.int .i64) r3,.obj b6 25 (.agg (.pair (I 0) (.pair (.eq (.slice none 0 0)) (.eq (.slice none 0 0)))))]:=fun v4 b6=>by
   subst hJ;refine JD.step [1] (by kernel_rfl) rfl ?_;refine cM.cons rfl ?_ ?_
   ·refine lo cg ?_;exact aG (s95 v4 b6) [0,1,2,3] ⟨rfl,rfl,rfl,rfl,rfl,trivial⟩
   exact trivial
  have s15:J 4 [true,true,true,true,false,false,false,false] [(1,Pt b1),(2,Pt b2),(6,I a0.1),(8,Ri a0.2.2)] [.obj b1 25 (.rep av a0),.obj b2 25 (.agg (.pair (I 0) (.pair (.eq (.slice none 0 0)) (.eq (.slice none 0 0)))))]:=by
   subst hJ;refine JD.step [4,6] (by kernel_rfl) rfl ?_;refine cM.cons rfl ?_ ?_
   ·refine aF rfl rfl rfl (ap [.tmp 8] rfl rfl ue rfl (ct k a0.2.2 r3 c)) ⟨rfl,trivial⟩ fun v4=>?_;exact aG (s31 v4) [1,2,0] ⟨rfl,rfl,rfl,rfl,trivial⟩
   refine cM.cons rfl ?_ ?_
   ·refine aF rfl rfl rfl (be rfl kf ml) trivial fun b6=>?_;exact aG (s79 b6) [1,2,0] ⟨rfl,rfl,rfl,rfl,rfl,trivial⟩
   exact trivial
  have s71:∀(b6:Nat),J 4 [true,true,true,false,false,false,true,false] [(1,Pt b1),(2,Pt b2),(3,Pt b6),(6,I a0.1),(7,.eq (.pointer (some ⟨b1,2,none⟩)))] [.obj b1 25 (.rep av a0),.obj b2 25 (.agg (.pair (I 0) (.pair (.eq (.slice none 0 0)) (.eq (.slice none 0 0))))),.obj b6 25 (.agg (.pair (I 0) (.pair (.eq (.slice none 0 0)) (.eq (.slice none 0 0)))))]:=fun b6=>by
   subst hJ;refine JD.step [3] (by kernel_rfl) rfl ?_;refine cM.cons rfl ?_ ?_
   ·refine lo bQ ?_;exact aG (s79 b6) [0,1,2] ⟨rfl,rfl,rfl,rfl,rfl,trivial⟩
   exact trivial
  have s29:∀(v4:Value),J 4 [true,false,true,true,true,false,false,false] [(1,Pt b1),(2,Pt b2),(5,Pt b1),(9,.eq v4)] [.obj b1 25 (.rep av a0),.obj b2 25 (.agg (.pair (I 0) (.pair (.eq (.slice none 0 0)) (.eq (.slice none 0 0))))),.sl v4 3 (.int .i64) r3]:=fun v4=>by
   subst hJ;refine JD.step [1,6] (by kernel_rfl) rfl ?_;refine cM.cons rfl ?_ ?_
   ·refine lo cg ?_;exact aG (s31 v4) [0,1,2] ⟨rfl,rfl,rfl,rfl,trivial⟩
   refine cM.cons rfl ?_ ?_
   ·refine aF rfl rfl rfl (be rfl kf ml) trivial fun b6=>?_;exact aG (s93 v4 b6) [1,2,3,0] ⟨rfl,rfl,rfl,rfl,rfl,trivial⟩
   exact trivial
  have s77:∀(b6:Nat),J 4 [true,false,true,true,false,false,true,false] [(1,Pt b1),(2,Pt b2),(3,Pt b6),(5,Pt b1),(8,Ri a0.2.2)] [.obj b1 25 (.rep av a0),.obj b2 25 (.agg (.pair (I 0) (.pair (.eq (.slice none 0 0)) (.eq (.slice none 0 0))))),.obj b6 25 (.agg (.pair (I 0) (.pair (.eq (.slice none 0 0)) (.eq (.slice none 0 0)))))]:=fun b6=>by
   subst hJ;refine JD.step [1,4] (by kernel_rfl) rfl ?_;refine cM.cons rfl ?_ ?_
   ·refine lo cg ?_;exact aG (s79 b6) [0,1,2] ⟨rfl,rfl,rfl,rfl,rfl,trivial⟩
   refine cM.cons rfl ?_ ?_
   ·refine aF rfl rfl rfl (ap [.tmp 8] rfl rfl ue rfl (ct k a0.2.2 r3 c)) ⟨rfl,trivial⟩ fun v4=>?_;exact aG (s93 v4 b6) [1,2,0,3] ⟨rfl,rfl,rfl,rfl,rfl,trivial⟩
   exact trivial
  have s92:∀(v4:Value) (b6:Nat),J 4 [false,false,true,true,true,false,true,false] [(1,Pt b1),(2,Pt b2),(3,Pt b6),(9,.eq v4)] [.obj b1 25 (.rep av a0),.obj b2 25 (.agg (.pair (I 0) (.pair (.eq (.slice none 0 0)) (.eq (.slice none 0 0))))),.sl v4 3 (.int .i64) r3,.obj b6 25 (.agg (.pair (I 0) (.pair (.eq (.slice none 0 0)) (.eq (.slice none 0 0)))))]:=fun v4 b6=>by
   subst hJ;refine JD.step [0] (by kernel_rfl) rfl ?_;refine cM.cons rfl ?_ ?_
   ·refine fl gd ?_;exact aG (s93 v4 b6) [0,1,2,3] ⟨rfl,rfl,rfl,rfl,rfl,trivial⟩
   exact trivial
  have s7:J 5 [true,true,true,false,false,false,false,false] [(1,Pt b1),(2,Pt b2),(6,I a0.1),(7,.eq (.pointer (some ⟨b1,2,none⟩)))] [.obj b1 25 (.rep av a0),.obj b2 25 (.agg (.pair (I 0) (.pair (.eq (.slice none 0 0)) (.eq (.slice none 0 0)))))]:=by
   subst hJ;refine JD.step [3,6] (by kernel_rfl) rfl ?_;refine cM.cons rfl ?_ ?_
   ·refine lo bQ ?_;exact aG s15 [0,1] ⟨rfl,rfl,rfl,rfl,trivial⟩
   refine cM.cons rfl ?_ ?_
   ·refine aF rfl rfl rfl (be rfl kf ml) trivial fun b6=>?_;exact aG (s71 b6) [1,2,0] ⟨rfl,rfl,rfl,rfl,rfl,trivial⟩
   exact trivial
  have s67:∀(b6:Nat),J 5 [true,true,false,false,false,false,true,false] [(1,Pt b1),(2,Pt b2),(3,Pt b6),(6,I a0.1)] [.obj b1 25 (.rep av a0),.obj b2 25 (.agg (.pair (I 0) (.pair (.eq (.slice none 0 0)) (.eq (.slice none 0 0))))),.obj b6 25 (.agg (.pair (I 0) (.pair (.eq (.slice none 0 0)) (.eq (.slice none 0 0)))))]:=fun b6=>by
   subst hJ;refine JD.step [2] (by kernel_rfl) rfl ?_;refine cM.cons rfl ?_ ?_
   ·refine fl cI ?_;exact aG (s71 b6) [0,1,2] ⟨rfl,rfl,rfl,rfl,rfl,trivial⟩
   exact trivial
  have s13:J 5 [true,false,true,true,false,false,false,false] [(1,Pt b1),(2,Pt b2),(5,Pt b1),(8,Ri a0.2.2)] [.obj b1 25 (.rep av a0),.obj b2 25 (.agg (.pair (I 0) (.pair (.eq (.slice none 0 0)) (.eq (.slice none 0 0)))))]:=by
   subst hJ;refine JD.step [1,4,6] (by kernel_rfl) rfl ?_;refine cM.cons rfl ?_ ?_
   ·refine lo cg ?_;exact aG s15 [0,1] ⟨rfl,rfl,rfl,rfl,trivial⟩
   refine cM.cons rfl ?_ ?_
   ·refine aF rfl rfl rfl (ap [.tmp 8] rfl rfl ue rfl (ct k a0.2.2 r3 c)) ⟨rfl,trivial⟩ fun v4=>?_;exact aG (s29 v4) [1,2,0] ⟨rfl,rfl,rfl,rfl,trivial⟩
   refine cM.cons rfl ?_ ?_
   ·refine aF rfl rfl rfl (be rfl kf ml) trivial fun b6=>?_;exact aG (s77 b6) [1,2,0] ⟨rfl,rfl,rfl,rfl,rfl,trivial⟩
   exact trivial
  have s69:∀(b6:Nat),J 5 [true,false,true,false,false,false,true,false] [(1,Pt b1),(2,Pt b2),(3,Pt b6),(5,Pt b1),(7,.eq (.pointer (some ⟨b1,2,none⟩)))] [.obj b1 25 (.rep av a0),.obj b2 25 (.agg (.pair (I 0) (.pair (.eq (.slice none 0 0)) (.eq (.slice none 0 0))))),.obj b6 25 (.agg (.pair (I 0) (.pair (.eq (.slice none 0 0)) (.eq (.slice none 0 0)))))]:=fun b6=>by
   subst hJ;refine JD.step [1,3] (by kernel_rfl) rfl ?_;refine cM.cons rfl ?_ ?_
   ·refine lo cg ?_;exact aG (s71 b6) [0,1,2] ⟨rfl,rfl,rfl,rfl,rfl,trivial⟩
   refine cM.cons rfl ?_ ?_
   ·refine lo bQ ?_;exact aG (s77 b6) [0,1,2] ⟨rfl,rfl,rfl,rfl,rfl,trivial⟩
   exact trivial
  have s28:∀(v4:Value),J 5 [false,false,true,true,true,false,false,false] [(1,Pt b1),(2,Pt b2),(9,.eq v4)] [.obj b1 25 (.rep av a0),.obj b2 25 (.agg (.pair (I 0) (.pair (.eq (.slice none 0 0)) (.eq (.slice none 0 0))))),.sl v4 3 (.int .i64) r3]:=fun v4=>by
   subst hJ;refine JD.step [0,6] (by kernel_rfl) rfl ?_;refine cM.cons rfl ?_ ?_
   ·refine fl gd ?_;exact aG (s29 v4) [0,1,2] ⟨rfl,rfl,rfl,rfl,trivial⟩
   refine cM.cons rfl ?_ ?_
   ·refine aF rfl rfl rfl (be rfl kf ml) trivial fun b6=>?_;exact aG (s92 v4 b6) [1,2,3,0] ⟨rfl,rfl,rfl,rfl,trivial⟩
   exact trivial
  have s76:∀(b6:Nat),J 5 [false,false,true,true,false,false,true,false] [(1,Pt b1),(2,Pt b2),(3,Pt b6),(8,Ri a0.2.2)] [.obj b1 25 (.rep av a0),.obj b2 25 (.agg (.pair (I 0) (.pair (.eq (.slice none 0 0)) (.eq (.slice none 0 0))))),.obj b6 25 (.agg (.pair (I 0) (.pair (.eq (.slice none 0 0)) (.eq (.slice none 0 0)))))]:=fun b6=>by
   subst hJ;refine JD.step [0,4] (by kernel_rfl) rfl ?_;refine cM.cons rfl ?_ ?_
   ·refine fl gd ?_;exact aG (s77 b6) [0,1,2] ⟨rfl,rfl,rfl,rfl,rfl,trivial⟩
   refine cM.cons rfl ?_ ?_
   ·refine aF rfl rfl rfl (ap [.tmp 8] rfl rfl ue rfl (ct k a0.2.2 r3 c)) ⟨rfl,trivial⟩ fun v4=>?_;exact aG (s92 v4 b6) [1,2,0,3] ⟨rfl,rfl,rfl,rfl,trivial⟩
   exact trivial
  have s3:J 6 [true,true,false,false,false,false,false,false] [(1,Pt b1),(2,Pt b2),(6,I a0.1)] [.obj b1 25 (.rep av a0),.obj b2 25 (.agg (.pair (I 0) (.pair (.eq (.slice none 0 0)) (.eq (.slice none 0 0)))))]:=by
   subst hJ;refine JD.step [2,6] (by kernel_rfl) rfl ?_;refine cM.cons rfl ?_ ?_
   ·refine fl cI ?_;exact aG s7 [0,1] ⟨rfl,rfl,rfl,rfl,trivial⟩
   refine cM.cons rfl ?_ ?_
   ·refine aF rfl rfl rfl (be rfl kf ml) trivial fun b6=>?_;exact aG (s67 b6) [1,2,0] ⟨rfl,rfl,rfl,rfl,trivial⟩
   exact trivial
  have s5:J 6 [true,false,true,false,false,false,false,false] [(1,Pt b1),(2,Pt b2),(5,Pt b1),(7,.eq (.pointer (some ⟨b1,2,none⟩)))] [.obj b1 25 (.rep av a0),.obj b2 25 (.agg (.pair (I 0) (.pair (.eq (.slice none 0 0)) (.eq (.slice none 0 0)))))]:=by
   subst hJ;refine JD.step [1,3,6] (by kernel_rfl) rfl ?_;refine cM.cons rfl ?_ ?_
   ·refine lo cg ?_;exact aG s7 [0,1] ⟨rfl,rfl,rfl,rfl,trivial⟩
   refine cM.cons rfl ?_ ?_
   ·refine lo bQ ?_;exact aG s13 [0,1] ⟨rfl,rfl,rfl,rfl,trivial⟩
   refine cM.cons rfl ?_ ?_
   ·refine aF rfl rfl rfl (be rfl kf ml) trivial fun b6=>?_;exact aG (s69 b6) [1,2,0] ⟨rfl,rfl,rfl,rfl,rfl,trivial⟩
   exact trivial
  have s65:∀(b6:Nat),J 6 [true,false,false,false,false,false,true,false] [(1,Pt b1),(2,Pt b2),(3,Pt b6),(5,Pt b1)] [.obj b1 25 (.rep av a0),.obj b2 25 (.agg (.pair (I 0) (.pair (.eq (.slice none 0 0)) (.eq (.slice none 0 0))))),.obj b6 25 (.agg (.pair (I 0) (.pair (.eq (.slice none 0 0)) (.eq (.slice none 0 0)))))]:=fun b6=>by
   subst hJ;refine JD.step [1,2] (by kernel_rfl) rfl ?_;refine cM.cons rfl ?_ ?_
   ·refine lo cg ?_;exact aG (s67 b6) [0,1,2] ⟨rfl,rfl,rfl,rfl,trivial⟩
   refine cM.cons rfl ?_ ?_
   ·refine fl cI ?_;exact aG (s69 b6) [0,1,2] ⟨rfl,rfl,rfl,rfl,rfl,trivial⟩
   exact trivial
  have s12:J 6 [false,false,true,true,false,false,false,false] [(1,Pt b1),(2,Pt b2),(8,Ri a0.2.2)] [.obj b1 25 (.rep av a0),.obj b2 25 (.agg (.pair (I 0) (.pair (.eq (.slice none 0 0)) (.eq (.slice none 0 0)))))]:=by
   subst hJ;refine JD.step [0,4,6] (by kernel_rfl) rfl ?_;refine cM.cons rfl ?_ ?_
   ·refine fl gd ?_;exact aG s13 [0,1] ⟨rfl,rfl,rfl,rfl,trivial⟩
   refine cM.cons rfl ?_ ?_
   ·refine aF rfl rfl rfl (ap [.tmp 8] rfl rfl ue rfl (ct k a0.2.2 r3 c)) ⟨rfl,trivial⟩ fun v4=>?_;exact aG (s28 v4) [1,2,0] ⟨rfl,rfl,rfl,trivial⟩
   refine cM.cons rfl ?_ ?_
   ·refine aF rfl rfl rfl (be rfl kf ml) trivial fun b6=>?_;exact aG (s76 b6) [1,2,0] ⟨rfl,rfl,rfl,rfl,trivial⟩
   exact trivial
  have s68:∀(b6:Nat),J 6 [false,false,true,false,false,false,true,false] [(1,Pt b1),(2,Pt b2),(3,Pt b6),(7,.eq (.pointer (some ⟨b1,2,none⟩)))] [.obj b1 25 (.rep av a0),.obj b2 25 (.agg (.pair (I 0) (.pair (.eq (.slice none 0 0)) (.eq (.slice none 0 0))))),.obj b6 25 (.agg (.pair (I 0) (.pair (.eq (.slice none 0 0)) (.eq (.slice none 0 0)))))]:=fun b6=>by
   subst hJ;refine JD.step [0,3] (by kernel_rfl) rfl ?_;refine cM.cons rfl ?_ ?_
   ·refine fl gd ?_;exact aG (s69 b6) [0,1,2] ⟨rfl,rfl,rfl,rfl,rfl,trivial⟩
   refine cM.cons rfl ?_ ?_
   ·refine lo bQ ?_;exact aG (s76 b6) [0,1,2] ⟨rfl,rfl,rfl,rfl,trivial⟩
   exact trivial
  have s1:J 7 [true,false,false,false,false,false,false,false] [(1,Pt b1),(2,Pt b2),(5,Pt b1)] [.obj b1 25 (.rep av a0),.obj b2 25 (.agg (.pair (I 0) (.pair (.eq (.slice none 0 0)) (.eq (.slice none 0 0)))))]:=by
   subst hJ;refine JD.step [1,2,6] (by kernel_rfl) rfl ?_;refine cM.cons rfl ?_ ?_
   ·refine lo cg ?_;exact aG s3 [0,1] ⟨rfl,rfl,rfl,trivial⟩
   refine cM.cons rfl ?_ ?_
   ·refine fl cI ?_;exact aG s5 [0,1] ⟨rfl,rfl,rfl,rfl,trivial⟩
   refine cM.cons rfl ?_ ?_
   ·refine aF rfl rfl rfl (be rfl kf ml) trivial fun b6=>?_;exact aG (s65 b6) [1,2,0] ⟨rfl,rfl,rfl,rfl,trivial⟩
   exact trivial
  have s4:J 7 [false,false,true,false,false,false,false,false] [(1,Pt b1),(2,Pt b2),(7,.eq (.pointer (some ⟨b1,2,none⟩)))] [.obj b1 25 (.rep av a0),.obj b2 25 (.agg (.pair (I 0) (.pair (.eq (.slice none 0 0)) (.eq (.slice none 0 0)))))]:=by
   subst hJ;refine JD.step [0,3,6] (by kernel_rfl) rfl ?_;refine cM.cons rfl ?_ ?_
   ·refine fl gd ?_;exact aG s5 [0,1] ⟨rfl,rfl,rfl,rfl,trivial⟩
   refine cM.cons rfl ?_ ?_
   ·refine lo bQ ?_;exact aG s12 [0,1] ⟨rfl,rfl,rfl,trivial⟩
   refine cM.cons rfl ?_ ?_
   ·refine aF rfl rfl rfl (be rfl kf ml) trivial fun b6=>?_;exact aG (s68 b6) [1,2,0] ⟨rfl,rfl,rfl,rfl,trivial⟩
   exact trivial
  have s64:∀(b6:Nat),J 7 [false,false,false,false,false,false,true,false] [(1,Pt b1),(2,Pt b2),(3,Pt b6)] [.obj b1 25 (.rep av a0),.obj b2 25 (.agg (.pair (I 0) (.pair (.eq (.slice none 0 0)) (.eq (.slice none 0 0))))),.obj b6 25 (.agg (.pair (I 0) (.pair (.eq (.slice none 0 0)) (.eq (.slice none 0 0)))))]:=fun b6=>by
   subst hJ;refine JD.step [0,2] (by kernel_rfl) rfl ?_;refine cM.cons rfl ?_ ?_
   ·refine fl gd ?_;exact aG (s65 b6) [0,1,2] ⟨rfl,rfl,rfl,rfl,trivial⟩
   refine cM.cons rfl ?_ ?_
   ·refine fl cI ?_;exact aG (s68 b6) [0,1,2] ⟨rfl,rfl,rfl,rfl,trivial⟩
   exact trivial
  have s0:J 8 [false,false,false,false,false,false,false,false] [(1,Pt b1),(2,Pt b2)] [.obj b2 25 (.agg (.pair (I 0) (.pair (.eq (.slice none 0 0)) (.eq (.slice none 0 0))))),.obj b1 25 (.rep av a0)]:=by
   subst hJ;refine JD.step [0,2,6] (by kernel_rfl) rfl ?_;refine cM.cons rfl ?_ ?_
   ·refine fl gd ?_;exact aG s1 [1,0] ⟨rfl,rfl,rfl,trivial⟩
   refine cM.cons rfl ?_ ?_
   ·refine fl cI ?_;exact aG s4 [1,0] ⟨rfl,rfl,rfl,trivial⟩
   refine cM.cons rfl ?_ ?_
   ·refine aF rfl rfl rfl (be rfl kf ml) trivial fun b6=>?_;exact aG (s64 b6) [2,1,0] ⟨rfl,rfl,rfl,trivial⟩
   exact trivial
  exact s0
 rintro⟨v4,b6⟩
 show JN _ _ [(1,Pt b1),(2,Pt b2),(3,Pt b6)] [.obj b1 25 (.rep av a0),.obj b2 25 (.agg (.pair (I 0) (.pair (.eq (.slice none 0 0)) (.eq (.slice none 0 0))))),.sl v4 3 (.int .i64) r3,.obj b6 25 (.agg (.pair (I a0.1) (.pair (.eq (.slice none 0 0)) (.eq v4))))]
 refine tn ?_
 refine aN (Z:=Value) (α:=(List eF)) (fun z8 x7=>[(2,Pt b2),(3,Pt b6)]) (fun z8 x7=>[.obj b2 25 (.agg (.pair (I 0) (.pair (.eq (.slice none 0 0)) (.eq (.slice none 0 0))))),.obj b6 25 (.agg (.pair (I a0.1) (.pair (.eq z8) (.eq v4)))),.sl z8 27 aY x7,.sl v4 3 (.int .i64) r3]) h (fun K h=>?_) (fun z8 x7 h=>?_)
 ·
  refine sr (cq (nt (ao ?_)));refine dJ (SE.nil 27 aY) ?_;refine aK (fun e y9=>[(1,Pt b1),(2,Pt b2),(3,Pt b6),(4,I y9.2)]) (fun e y9=>[.obj b1 25 (.rep av a0),.obj b2 25 (.agg (.pair (I 0) (.pair (.eq (.slice none 0 0)) (.eq (.slice none 0 0))))),.obj b6 25 (.agg (.pair (I a0.1) (.pair (.eq e) (.eq v4)))),.sl e 27 aY y9.1,.sl v4 3 (.int .i64) r3]) (fL k a0) k (.slice none 0 0) (([]:(List eF)),0) (fun _=>rfl) h (SE.fin [1,2,4,0,3] ⟨rfl,rfl,rfl,rfl,trivial⟩ rfl) (fun n e y9 h=>?_);unfold fL at h;refine ag (sr (mq ?_));refine fl bU ?_;refine lo fi ?_;refine ol mL ?_;refine jb (bq rfl) ?_;refine nt (ci h (fun h=>?_) (fun h=>?_))
  ·refine sk (ag (ao (bI ?_)));refine da (ar rfl bU) ?_;refine ea 2 (aj rfl fi i9 rfl) ?_;refine da (ar rfl bU) ?_;refine ea 0 (aj rfl fi i9 rfl) ?_;refine dm ?_;obtain⟨l,x,h⟩:=aa h;refine db (aC (t:=aY) rfl mL jQ x) ?_;refine da (aJ 1 false rfl kz rfl) ?_;refine da (ak (t:=(.int .i64)) rfl cg rfl) ?_;refine da (ar rfl bU) ?_;refine ea 0 (aj rfl fi i9 rfl) ?_;refine dm ?_;obtain⟨F,u,h⟩:=aa h;refine db (aC (t:=aY) rfl mL jQ u) ?_;refine da (aJ 1 false rfl jZ rfl) ?_;refine da (ak (t:=(.slice (.int .i64))) rfl bQ rfl) ?_;obtain⟨j,D,h⟩:=aa h;refine da (so (ap [.tmp 31] rfl rfl ue rfl (ct k F.2 j D))) ?_;refine db (cH [(0,.tmp 25,_),(1,.tmp 32,_)] rfl zl t4 tY (g7 ⟨rfl,rfl,trivial⟩) rfl) ?_;refine da (bj (t:=aY) [(.tmp 33,_)] [(l.1,j)] rfl rfl xz (.cons trivial (.agg (.pair .int .rep)) .nil) rfl rfl) ?_;refine df cz ?_;obtain⟨O,y,h⟩:=aa h;refine fr 3 ?_;refine cU rfl rfl rfl (bD rfl rfl xz (aB y)) ⟨rfl,rfl,trivial⟩ fun M=>?_;refine fl bU ?_;refine nX fun o16=>?_;refine fr 3 ?_;refine bh rfl rfl (bb rfl fi o16 rfl rfl) ⟨rfl,rfl,trivial⟩ ?_;refine au (aM (tn (ab (mq ?_))));obtain⟨E,s,h⟩:=aa h;refine jb (bf rfl s) ?_;refine aq (nl ?_);exact jz (M,(y9.1++[(l.1,j)],E)) h [2,3,0,1,4]
  ·refine xa ?_;exact jz (e,y9.1) h [1,2,3,4]
 ·
  refine sr (fr 1 ?_);refine lo dy ?_;refine fr 1 ?_;refine bh rfl rfl (bb rfl dy trivial rfl rfl) ⟨rfl,rfl,trivial⟩ ?_;refine nt (ay (bv (SE.fin (Γ':=[(2,_)]) [2,3,0,1] ⟨rfl,trivial⟩ rfl) ?_));cases h;exact aP (z8,v4) [.agg (.pair (I a0.1) (.pair (.eq z8) (.eq v4)))] 2 ⟨⟨_,_,_,_,_,rfl,(.tail _ (.tail _ (.head _))),dy,(tR),rfl⟩,trivial⟩ rfl
def iM(k:Nat)(a0:aS):Nat→((List eF)×Int)→Option (List eF)
 |0,_=>none
 |n+1,y7=>
  if y7.2 < (a0.2.1.length:Int) then((aR a0.2.1 y7.2).bind fun x9=>
  (aR a0.2.1 y7.2).bind fun h=>
  (dX k h.2).bind fun c=>
  (dz (bL (List.length y7.1+List.length [(x9.1,c)]))).bind fun _=>
  (ck (y7.2+1)).bind fun e=>
  iM k a0 n (y7.1++[(x9.1,c)],e)) else(some y7.1)
def jf(k:Nat)(a0:aS):Option aS:=
 (dX k a0.2.2).bind fun r3=>
 ((iM k a0 k (([]:(List eF)),0)):Option ((List eF))).bind fun x5=>
 some (a0.1,x5,r3)
theorem tg(k:Nat)(a0:aS)(r:aS)(h:jf k a0=some r):
 bX Tryz.prog 16 [.rep av a0] [] (fun _:Unit=>(bu [.rep av r],[])):=by
 unfold jf at h
 replace h:=ba h
 refine bX.of 38 Tryz.func16 rfl Tryz.ntmps16 rfl fun S w0=>?_
 refine sr ?_
 refine bx fun b1=>?_
 refine aF rfl rfl rfl (be rfl kf ml) trivial fun b2=>?_
 refine nt ?_
 refine ag ?_
 refine jj ?_
 refine aI rfl rfl rfl (ar rfl gd) ⟨rfl,trivial⟩ ?_
 refine dk 1 rfl rfl rfl rfl (aj rfl cg i9 rfl) ⟨rfl,trivial⟩ ?_
 refine aI rfl rfl rfl (ar rfl cI) ⟨rfl,trivial⟩ ?_
 refine dk 1 rfl rfl rfl rfl (aj rfl bQ i9 rfl) ⟨rfl,trivial⟩ ?_
 obtain⟨r3,X,h⟩:=aa h
 have Y:=ct k a0.2.2 r3 X
 refine aI rfl rfl rfl (so (ap [.tmp 8] rfl rfl ue rfl Y)) ⟨rfl,trivial⟩ ?_
 refine aI rfl rfl rfl (cH [(0,.tmp 6,_),(2,.tmp 9,_)] rfl Gs kf Ar (g7 ⟨rfl,rfl,trivial⟩) rfl) ⟨rfl,rfl,trivial⟩ ?_
 refine ut (Gk 25 (.agg (.pair (I 0) (.pair (.eq (.slice none 0 0)) (.eq (.slice none 0 0)))))) (fun _=>rfl) rfl rfl rfl (be rfl kf ml) trivial ?_
 refine mg 7 [true,true,true,true,true,true,true] [] [] [] rfl (by kernel_rfl) (by kernel_rfl) (by kernel_rfl) cz (fun vs hv hB=>?_)
 obtain⟨w0,TK,rfl,Q⟩:=an hv
 obtain⟨w1,TJ,rfl,O⟩:=an Q
 obtain⟨w2,se,rfl,M⟩:=an O
 obtain⟨w3,qt,rfl,J⟩:=an M
 obtain⟨w4,pp,rfl,F⟩:=an J
 obtain⟨w5,mc,rfl,E⟩:=an F
 obtain⟨w6,ac,rfl,D⟩:=an E
 obtain rfl:=jW D
 obtain⟨b4,rfl⟩:=Bh hB.2.2.2.2.2.2.1
 refine⟨[0,1,2],[.obj b2 25 (.agg (.pair (I 0) (.pair (.eq (.slice none 0 0)) (.eq (.slice none 0 0))))),.obj b1 25 (.rep av a0),.obj b4 25 (.agg (.pair (I 0) (.pair (.eq (.slice none 0 0)) (.eq (.slice none 0 0)))))],by kernel_rfl,by decide,?_⟩
 refine iJ 2 rfl ?_
 refine nW rfl rfl (bb rfl dy trivial rfl rfl) ⟨rfl,rfl,trivial⟩ (by kernel_rfl) ?_
 refine py ?_
 refine bv (SE.fin (Γ':=[(1,Pt b1),(2,Pt b2),(3,Pt b4)]) (Δ':=[.obj b4 25 (.agg (.pair (I a0.1) (.pair (.eq (.slice none 0 0)) (Ri r3)))),.obj b2 25 (.agg (.pair (I 0) (.pair (.eq (.slice none 0 0)) (.eq (.slice none 0 0))))),.obj b1 25 (.rep av a0)]) [0,1,2] ⟨rfl,rfl,rfl,trivial⟩ rfl) ?_
 refine tn ?_
 refine aN (Z:=Value) (α:=(List eF)) (fun z6 x5=>[(2,Pt b2),(3,Pt b4)]) (fun z6 x5=>[.obj b2 25 (.agg (.pair (I 0) (.pair (.eq (.slice none 0 0)) (.eq (.slice none 0 0))))),.obj b4 25 (.agg (.pair (I a0.1) (.pair (.eq z6) (Ri r3)))),.sl z6 27 aY x5]) h (fun K h=>?_) (fun z6 x5 h=>?_)
 ·
  refine sr (cq (nt (ao ?_)));refine dJ (SE.nil 27 aY) ?_;refine aK (fun z8 y7=>[(1,Pt b1),(2,Pt b2),(3,Pt b4),(4,I y7.2)]) (fun z8 y7=>[.obj b1 25 (.rep av a0),.obj b2 25 (.agg (.pair (I 0) (.pair (.eq (.slice none 0 0)) (.eq (.slice none 0 0))))),.obj b4 25 (.agg (.pair (I a0.1) (.pair (.eq z8) (Ri r3)))),.sl z8 27 aY y7.1]) (iM k a0) k (.slice none 0 0) (([]:(List eF)),0) (fun _=>rfl) h (SE.fin [3,2,1,0] ⟨rfl,rfl,rfl,rfl,trivial⟩ rfl) (fun n z8 y7 h=>?_);unfold iM at h;refine ag (sr (mq ?_));refine fl bU ?_;refine lo fi ?_;refine ol mL ?_;refine jb (bq rfl) ?_;refine nt (ci h (fun h=>?_) (fun h=>?_))
  ·refine sk (ag (ao (bI ?_)));refine da (ar rfl bU) ?_;refine ea 2 (aj rfl fi i9 rfl) ?_;refine da (ar rfl bU) ?_;refine ea 0 (aj rfl fi i9 rfl) ?_;refine dm ?_;obtain⟨x9,U,h⟩:=aa h;refine db (aC (t:=aY) rfl mL jQ U) ?_;refine da (aJ 1 false rfl kz rfl) ?_;refine da (ak (t:=(.int .i64)) rfl cg rfl) ?_;refine da (ar rfl bU) ?_;refine ea 0 (aj rfl fi i9 rfl) ?_;refine dm ?_;obtain⟨x,j,h⟩:=aa h;refine db (aC (t:=aY) rfl mL jQ j) ?_;refine da (aJ 1 false rfl jZ rfl) ?_;refine da (ak (t:=(.slice (.int .i64))) rfl bQ rfl) ?_;obtain⟨c,s,h⟩:=aa h;refine da (so (ap [.tmp 31] rfl rfl ue rfl (ct k x.2 c s))) ?_;refine db (cH [(0,.tmp 25,_),(1,.tmp 32,_)] rfl zl t4 tY (g7 ⟨rfl,rfl,trivial⟩) rfl) ?_;refine da (bj (t:=aY) [(.tmp 33,_)] [(x9.1,c)] rfl rfl xz (.cons trivial (.agg (.pair .int .rep)) .nil) rfl rfl) ?_;refine df cz ?_;obtain⟨TL,l,h⟩:=aa h;refine fr 3 ?_;refine cU rfl rfl rfl (bD rfl rfl xz (aB l)) ⟨rfl,rfl,trivial⟩ fun y=>?_;refine fl bU ?_;refine nX fun o14=>?_;refine fr 3 ?_;refine bh rfl rfl (bb rfl fi o14 rfl rfl) ⟨rfl,rfl,trivial⟩ ?_;refine au (aM (tn (ab (mq ?_))));obtain⟨u,e,h⟩:=aa h;refine jb (bf rfl e) ?_;refine aq (nl ?_);exact jz (y,(y7.1++[(x9.1,c)],u)) h [2,3,0,1]
  ·refine xa ?_;exact jz (z8,y7.1) h [1,2,3]
 ·
  refine sr (fr 1 ?_);refine fr 2 ?_;refine cC (kC (off:=1) [] trivial rfl rfl) ?_;refine lo dy ?_;refine fr 1 ?_;refine bh rfl rfl (bb rfl dy trivial rfl rfl) ⟨rfl,rfl,trivial⟩ ?_;refine nt (ay (bv (nV (a:=.agg (.pair (I a0.1) (.pair (Rs aY x5) (Ri r3)))) (a':=.rep av (a0.1,x5,r3)) (vP (.agg (.pair .int (.pair .rep .rep))))) ?_));cases h;exact aP () [.rep av (a0.1,x5,r3)] 0 ⟨⟨_,_,_,_,_,rfl,(.head _),dy,(tR),rfl⟩,trivial⟩ rfl
def dt(k:Nat)(a0:(List (List Int))):Nat→((List (List Int))×Int)→Option (List (List Int))
 |0,_=>none
 |n+1,y3=>
  if y3.2 < (a0.length:Int) then((aR a0 y3.2).bind fun x5=>
  (dX k x5).bind fun r6=>
  (dz (bL (List.length y3.1+List.length [r6]))).bind fun _=>
  (ck (y3.2+1)).bind fun c=>
  dt k a0 n (y3.1++[r6],c)) else(some y3.1)
def ff(k:Nat)(a0:(List (List Int))):Option (List (List Int)):=
 ((dt k a0 k (([]:(List (List Int))),0)):Option ((List (List Int)))).bind fun x1=>
 some x1
theorem ti(k:Nat)(a0:(List (List Int)))(r:(List (List Int)))(h:ff k a0=some r):
 bX Tryz.prog 17 [.rep (.slice (.slice (.int .i64))) a0] [] (fun z:Value=>(bu [.eq z],[.sl z 23 (.slice (.int .i64)) r])):=by
 unfold ff at h
 replace h:=ba h
 refine bX.of 20 Tryz.func17 rfl Tryz.ntmps17 rfl fun S w0=>?_
 refine sr ?_
 refine cq ?_
 refine nt ?_
 refine sr ?_
 refine cq ?_
 refine nt ?_
 refine aN (Z:=Value) (α:=(List (List Int))) (fun z2 x1=>[(3,.eq z2)]) (fun z2 x1=>[.sl z2 23 (.slice (.int .i64)) x1]) h (fun K h=>?_) (fun z2 x1 h=>?_)
 ·
  refine sr (cq (nt (ao ?_)));refine dJ (SE.nil 23 (.slice (.int .i64))) ?_;refine aK (fun z4 y3=>[(0,.rep (.slice (.slice (.int .i64))) a0),(3,.eq z4),(4,I y3.2)]) (fun z4 y3=>[.sl z4 23 (.slice (.int .i64)) y3.1]) (dt k a0) k (.slice none 0 0) (([]:(List (List Int))),0) (fun _=>rfl) h (SE.fin [0] ⟨rfl,rfl,rfl,trivial⟩ rfl) (fun n z4 y3 h=>?_);unfold dt at h;refine ag (sr ?_);iterate 2 refine mq ?_
  refine ol mm ?_;refine jb (bq rfl) ?_;refine nt (ci h (fun h=>?_) (fun h=>?_))
  ·refine sk (ag (ao (ab ?_)));iterate 3 refine mq ?_
   obtain⟨x5,j,h⟩:=aa h;refine jb (aC (t:=(.slice (.int .i64))) rfl mm bQ j) ?_;refine ja (ak (t:=(.slice (.int .i64))) rfl bQ rfl) ?_;obtain⟨r6,s,h⟩:=aa h;refine aF rfl rfl rfl (ap [.tmp 15] rfl rfl ue rfl (ct k x5 r6 s)) ⟨rfl,trivial⟩ fun v7=>?_;refine cC (eJ [16] ⟨rfl,trivial⟩) ?_;refine ja (bj (t:=(.slice (.int .i64))) [(.tmp 16,_)] [r6] rfl rfl oN (.cons rfl .rep .nil) rfl rfl) ?_;obtain⟨u8,l,h⟩:=aa h;refine cU rfl rfl rfl (bD rfl rfl oN (aB l)) ⟨rfl,rfl,trivial⟩ fun v9=>?_;refine aq (au (aM (tn (ab ?_))));refine mq ?_;obtain⟨e,c,h⟩:=aa h;refine jb (bf rfl c) ?_;refine aq (nl ?_);exact jz (v9,(y3.1++[r6],e)) h [0]
  ·refine xa ?_;exact jz (z4,y3.1) h [0]
 ·
  refine sr (mq ?_);refine aq (nt (ay ?_));cases h;exact aP z2 [.eq z2] 1 ⟨rfl,trivial⟩ rfl
def je(k:Nat)(a0:bS):Option (Int×bS):=
 ((if a0.2.1 < (a0.1.length:Int) then((aR a0.1 a0.2.1).bind fun x3=>
 some (IntKind.u64.wrap ((IntKind.u64.wrap ((IntKind.u64.wrap (a0.2.2 * 6364136223846793005))+1442695040888963407))+(IntKind.u64.wrap ((IntKind.u64.wrap x3) * 2862933555777941757))))) else(some (IntKind.u64.wrap ((IntKind.u64.wrap (a0.2.2 * 6364136223846793005))+1442695040888963407)))):Option (Int)).bind fun x1=>
 (ck (a0.2.1+1)).bind fun x4=>
 some (io .u64 (qS .u64 (IntKind.u64.wrap ((qS .u64 x1 (io .u64 x1 29)) * 2685821657736338717)) (io .u64 (IntKind.u64.wrap ((qS .u64 x1 (io .u64 x1 29)) * 2685821657736338717)) 32)) 8,(a0.1,x4,x1))
theorem tf(k:Nat)(a0:bS)(c:Nat)(r:Int×bS)(h:je k a0=some r):
 bX Tryz.prog 52 [Pt c] [.obj c 75 (.agg (.pair (Ri a0.1) (.pair (I a0.2.1) (.eq (.int .u64 a0.2.2)))))] (fun _:Unit=>(bu [.eq (.int .u64 r.1)],[.obj c 75 (.agg (.pair (Ri r.2.1) (.pair (I r.2.2.1) (.eq (.int .u64 r.2.2.2)))))])):=by
 unfold je at h
 replace h:=ba h
 refine bX.of 67 Tryz.func52 rfl Tryz.ntmps52 rfl fun S w0=>?_
 refine sr ?_
 refine cq ?_
 refine nt ?_
 refine sr ?_
 iterate 2 refine mq ?_
 refine ja (a9 rfl) ?_
 refine fl tl ?_
 refine lo D8 ?_
 refine jb (Br rfl) ?_
 refine jb (Bw rfl) ?_
 refine ja (a9 rfl) ?_
 refine fl tl ?_
 refine bh rfl rfl (bb rfl D8 rfl rfl rfl) ⟨rfl,rfl,trivial⟩ ?_
 refine nt ?_
 refine aN (Z:=Unit) (α:=Int) (fun z2 x1=>[(0,Pt c)]) (fun z2 x1=>[.obj c 75 (.agg (.pair (Ri a0.1) (.pair (I a0.2.1) (.eq (.int .u64 x1)))))]) h (fun K h=>?_) (fun z2 x1 h=>?_)
 ·
  refine ag (bI ?_);refine dm ?_;refine da (a9 rfl) ?_;refine da (ar rfl yg) ?_;refine ea 0 (aj rfl cg i9 rfl) ?_;refine dm ?_;refine da (a9 rfl) ?_;refine da (ar rfl HT) ?_;refine ea 0 (aj rfl bQ i9 rfl) ?_;refine da (jE rfl rfl dC) ?_;refine df cz ?_;refine jb (bq rfl) ?_;refine nt (ci h (fun h=>?_) (fun h=>?_))
  ·refine bI ?_;refine dm ?_;refine dm ?_;refine da (a9 rfl) ?_;refine da (ar rfl tl) ?_;refine ea 0 (aj rfl D8 i9 rfl) ?_;refine dm ?_;refine da (a9 rfl) ?_;refine da (ar rfl HT) ?_;refine ea 0 (aj rfl bQ i9 rfl) ?_;refine dm ?_;refine da (a9 rfl) ?_;refine da (ar rfl yg) ?_;refine ea 0 (aj rfl cg i9 rfl) ?_;obtain⟨x3,j,h⟩:=aa h;refine db (aC (t:=(.int .i64)) rfl dC cg j) ?_;refine da (ak (t:=(.int .i64)) rfl cg rfl) ?_;refine da (oU rfl U3 QU) ?_;refine db (Br rfl) ?_;refine db (Bw rfl) ?_;refine df cz ?_;refine ja (a9 rfl) ?_;refine fl tl ?_;refine bh rfl rfl (bb rfl D8 rfl rfl rfl) ⟨rfl,rfl,trivial⟩ ?_;refine nl ?_;exact jz ((),IntKind.u64.wrap ((IntKind.u64.wrap ((IntKind.u64.wrap (a0.2.2 * 6364136223846793005))+1442695040888963407))+(IntKind.u64.wrap ((IntKind.u64.wrap x3) * 2862933555777941757)))) h [0]
  ·refine aX (ae ?_);exact jz ((),IntKind.u64.wrap ((IntKind.u64.wrap (a0.2.2 * 6364136223846793005))+1442695040888963407)) h [0]
 ·
  refine sr (mq ?_);refine ja (a9 rfl) ?_;refine fl yg ?_;refine lo cg ?_;obtain⟨x4,e,h⟩:=aa h;refine jb (bf rfl e) ?_;refine ja (a9 rfl) ?_;refine fl yg ?_;refine bh rfl rfl (bb rfl cg rfl rfl rfl) ⟨rfl,rfl,trivial⟩ ?_;refine nt (ag (bI ?_));refine dm ?_;refine da (a9 rfl) ?_;refine da (ar rfl tl) ?_;refine ea 0 (aj rfl D8 i9 rfl) ?_;refine dm ?_;refine da (a9 rfl) ?_;refine da (ar rfl tl) ?_;refine ea 0 (aj rfl D8 i9 rfl) ?_;refine dA rfl rfl rfl (va rfl (by decide)) ⟨rfl,rfl,trivial⟩ ?_;refine df cz ?_;refine jb (Lr rfl) ?_;refine aq (nt (sr ?_));refine mq ?_;refine jb (Br rfl) ?_;refine aq (nt (sr ?_));iterate 2 refine mq ?_
  refine aE rfl (va rfl (by decide)) ⟨rfl,rfl,trivial⟩ ?_;refine jb (Lr rfl) ?_;refine aE rfl (va rfl (by decide)) ⟨rfl,rfl,trivial⟩ ?_;refine aq (nt (ay ?_));cases h;exact aP () [_] 1 ⟨rfl,trivial⟩ rfl
def cD(k:Nat)(a0:bS)(a1:Int):Option (Int×bS):=
 if a1 < 1 then(some (0,(a0.1,a0.2.1,a0.2.2))) else((je k (a0.1,a0.2.1,a0.2.2)).bind fun r1=>
 (ck (a1+1)).bind fun x2=>
 (dz ((IntKind.u64.wrap x2)≠0)).bind fun _=>
 (ck (Int.tmod r1.1 (IntKind.u64.wrap x2))).bind fun x4=>
 some (x4,(r1.2.1,r1.2.2.1,r1.2.2.2)))
theorem dS(k:Nat)(a0:bS)(c:Nat)(a1:Int)(r:Int×bS)(h:cD k a0 a1=some r):
 bX Tryz.prog 15 [Pt c,I a1] [.obj c 75 (.agg (.pair (Ri a0.1) (.pair (I a0.2.1) (.eq (.int .u64 a0.2.2)))))] (fun _:Unit=>(bu [I r.1],[.obj c 75 (.agg (.pair (Ri r.2.1) (.pair (I r.2.2.1) (.eq (.int .u64 r.2.2.2)))))])):=by
 unfold cD at h
 replace h:=ba h
 refine bX.of 14 Tryz.func15 rfl Tryz.ntmps15 rfl fun S w0=>?_
 refine sr ?_
 refine cq ?_
 refine nt ?_
 refine ag ?_
 refine sr ?_
 refine mq ?_
 refine jb (bq rfl) ?_
 refine nt ?_
 refine ci h (fun h=>?_) (fun h=>?_)
 ·
  refine sr (cq (nt (rx ?_)));cases h;exact aP () [_] 1 ⟨rfl,trivial⟩ rfl
 ·
  refine sk (sr (mq ?_));obtain⟨r1,n,h⟩:=aa h;refine ka (ap [.tmp 7] rfl rfl Sr rfl (tf k (a0.1,a0.2.1,a0.2.2) c r1 n)) ?_;refine mq ?_;obtain⟨x2,j,h⟩:=aa h;refine jb (bf rfl j) ?_;refine ja (oU rfl U3 QU) ?_;obtain⟨u3,l,h⟩:=aa h;refine jb (GG rfl (aB l)) ?_;obtain⟨x4,e,h⟩:=aa h;refine ja (zu rfl QU U3 e) ?_;refine aq (nt (ay ?_));cases h;exact aP () [_] 1 ⟨rfl,trivial⟩ rfl
def fe(k:Nat)(a0:bS)(a1:Int)(a2:Int):Option (Int×bS):=
 (ck (a2 - a1)).bind fun x1=>
 (cD k (a0.1,a0.2.1,a0.2.2) x1).bind fun r2=>
 (ck (a1+r2.1)).bind fun x3=>
 some (x3,(r2.2.1,r2.2.2.1,r2.2.2.2))
theorem l7(k:Nat)(a0:bS)(c:Nat)(a1:Int)(a2:Int)(r:Int×bS)(h:fe k a0 a1 a2=some r):
 bX Tryz.prog 94 [Pt c,I a1,I a2] [.obj c 75 (.agg (.pair (Ri a0.1) (.pair (I a0.2.1) (.eq (.int .u64 a0.2.2)))))] (fun _:Unit=>(bu [I r.1],[.obj c 75 (.agg (.pair (Ri r.2.1) (.pair (I r.2.2.1) (.eq (.int .u64 r.2.2.2)))))])):=by
 unfold fe at h
 replace h:=ba h
 refine bX.of 14 Tryz.func94 rfl Tryz.ntmps94 rfl fun S w0=>?_
 refine sr ?_
 refine cq ?_
 refine nt ?_
 refine sr ?_
 iterate 4 refine mq ?_
 obtain⟨x1,j,h⟩:=aa h
 refine jb (fV rfl j) ?_
 obtain⟨r2,l,h⟩:=aa h
 have n:=dS k (a0.1,a0.2.1,a0.2.2) c x1 r2 l
 refine kb (ap [.tmp 8,.tmp 11] rfl rfl Cb rfl n) ?_
 obtain⟨x3,e,h⟩:=aa h
 refine jb (bf rfl e) ?_
 refine aq ?_
 refine nt ?_
 refine ay ?_
 cases h
 exact aP () [_] 1 ⟨rfl,trivial⟩ rfl
def jI(k:Nat)(a0:bS)(a1:(List Int)):Option (Int×bS):=
 (ck ((a1.length:Int) - 1)).bind fun x1=>
 (cD k (a0.1,a0.2.1,a0.2.2) x1).bind fun r2=>
 (aR a1 r2.1).bind fun x3=>
 some (x3,(r2.2.1,r2.2.2.1,r2.2.2.2))
theorem o6(k:Nat)(a0:bS)(c:Nat)(a1:(List Int))(r:Int×bS)(h:jI k a0 a1=some r):
 bX Tryz.prog 95 [Pt c,Ri a1] [.obj c 75 (.agg (.pair (Ri a0.1) (.pair (I a0.2.1) (.eq (.int .u64 a0.2.2)))))] (fun _:Unit=>(bu [I r.1],[.obj c 75 (.agg (.pair (Ri r.2.1) (.pair (I r.2.2.1) (.eq (.int .u64 r.2.2.2)))))])):=by
 unfold jI at h
 replace h:=ba h
 refine bX.of 13 Tryz.func95 rfl Tryz.ntmps95 rfl fun S w0=>?_
 refine sr ?_
 refine cq ?_
 refine nt ?_
 refine sr ?_
 iterate 3 refine mq ?_
 refine ol dC ?_
 obtain⟨x1,j,h⟩:=aa h
 refine jb (fV rfl j) ?_
 obtain⟨r2,l,h⟩:=aa h
 have n:=dS k (a0.1,a0.2.1,a0.2.2) c x1 r2 l
 refine kb (ap [.tmp 6,.tmp 9] rfl rfl Cb rfl n) ?_
 obtain⟨x3,e,h⟩:=aa h
 refine jb (aC (t:=(.int .i64)) rfl dC cg e) ?_
 refine ja (ak (t:=(.int .i64)) rfl cg rfl) ?_
 refine aq ?_
 refine nt ?_
 refine ay ?_
 cases h
 exact aP () [_] 1 ⟨rfl,trivial⟩ rfl
def f9(k:Nat)(a0:bS)(a1:Int):Option (Bool×bS):=
 (ck (a1 - 1)).bind fun x1=>
 (cD k (a0.1,a0.2.1,a0.2.2) x1).bind fun r2=>
 some (decide (r2.1=0),(r2.2.1,r2.2.2.1,r2.2.2.2))
theorem nn(k:Nat)(a0:bS)(c:Nat)(a1:Int)(r:Bool×bS)(h:f9 k a0 a1=some r):
 bX Tryz.prog 96 [Pt c,I a1] [.obj c 75 (.agg (.pair (Ri a0.1) (.pair (I a0.2.1) (.eq (.int .u64 a0.2.2)))))] (fun _:Unit=>(bu [.eq (.bool r.1)],[.obj c 75 (.agg (.pair (Ri r.2.1) (.pair (I r.2.2.1) (.eq (.int .u64 r.2.2.2)))))])):=by
 unfold f9 at h
 replace h:=ba h
 refine bX.of 10 Tryz.func96 rfl Tryz.ntmps96 rfl fun S w0=>?_
 refine sr ?_
 refine cq ?_
 refine nt ?_
 refine sr ?_
 iterate 2 refine mq ?_
 obtain⟨x1,e,h⟩:=aa h
 refine jb (fV rfl e) ?_
 obtain⟨r2,j,h⟩:=aa h
 have l:=dS k (a0.1,a0.2.1,a0.2.2) c x1 r2 j
 refine kb (ap [.tmp 5,.tmp 7] rfl rfl Cb rfl l) ?_
 refine jb (fW rfl) ?_
 refine aq ?_
 refine nt ?_
 refine ay ?_
 cases h
 exact aP () [_] 1 ⟨rfl,trivial⟩ rfl
def eX(k:Nat)(r2:Int×bS):Nat→((List Int)×Int×Int×(List Int)×Int)→Option ((List Int)×Int×Int×(List Int))
 |0,_=>none
 |n+1,c=>
  if c.2.2.2.2 < r2.1 then((((f9 k (c.1,c.2.1,c.2.2.1) 2).bind fun e=>
  if e.1=true then((dz (bL (List.length c.2.2.2.1+List.length [c.2.2.2.2]))).bind fun _=>
  some (e.2.1,e.2.2.1,e.2.2.2,c.2.2.2.1++[c.2.2.2.2])) else(some (e.2.1,e.2.2.1,e.2.2.2,c.2.2.2.1))):Option ((List Int)×Int×Int×(List Int))).bind fun h=>
  (ck (c.2.2.2.2+1)).bind fun j=>
  eX k r2 n (h.1,h.2.1,h.2.2.1,h.2.2.2,j)) else(some (c.1,c.2.1,c.2.2.1,c.2.2.2.1))
def eY(k:Nat)(r2:Int×bS):Nat→((List Int)×Int×Int×(List eF)×Int×Int)→Option ((List Int)×Int×Int×(List eF)×Int)
 |0,_=>none
 |n+1,y7=>
  if 0 < y7.2.2.2.2.2 then((((jI k (y7.1,y7.2.1,y7.2.2.1) [1,1,1,2,3]).bind fun c=>
  ((eX k r2 k (c.2.1,c.2.2.1,c.2.2.2,([]:(List Int)),0)):Option ((List Int)×Int×Int×(List Int))).bind fun e=>
  (dz (bL (List.length y7.2.2.2.1+List.length [(c.1,e.2.2.2)]))).bind fun _=>
  (ck (y7.2.2.2.2.1+c.1)).bind fun j=>
  some (e.1,e.2.1,e.2.2.1,y7.2.2.2.1++[(c.1,e.2.2.2)],j)):Option ((List Int)×Int×Int×(List eF)×Int)).bind fun x9=>
  (ck (y7.2.2.2.2.2 - 1)).bind fun h=>
  eY k r2 n (x9.1,x9.2.1,x9.2.2.1,x9.2.2.2.1,x9.2.2.2.2,h)) else(some (y7.1,y7.2.1,y7.2.2.1,y7.2.2.2.1,y7.2.2.2.2.1))
def eW(k:Nat)(x4:(List Int)×Int×Int×(List eF)×Int):Nat→((List Int)×Int×Int×(List Int)×Int)→Option ((List Int)×Int×Int×(List Int))
 |0,_=>none
 |n+1,c=>
  if 0 < c.2.2.2.2 then((ck (x4.2.2.2.2+1)).bind fun j=>
  (jI k (c.1,c.2.1,c.2.2.1) [1,2,3,jY 9 x4.2.2.2.2,jY 9 j]).bind fun e=>
  (dz (bL (List.length c.2.2.2.1+List.length [e.1]))).bind fun _=>
  (ck (c.2.2.2.2 - 1)).bind fun h=>
  eW k x4 n (e.2.1,e.2.2.1,e.2.2.2,c.2.2.2.1++[e.1],h)) else(some (c.1,c.2.1,c.2.2.1,c.2.2.2.1))
def kw(k:Nat)(a0:bS)(a1:Int)(a2:Int):Option (aS×bS):=
 (fe k (a0.1,a0.2.1,a0.2.2) 1 4).bind fun r2=>
 (((fe k (r2.2.1,r2.2.2.1,r2.2.2.2) 0 a1).bind fun r6=>
 eY k r2 k (r6.2.1,r6.2.2.1,r6.2.2.2,([]:(List eF)),0,r6.1)):Option ((List Int)×Int×Int×(List eF)×Int)).bind fun x4=>
 (((fe k (x4.1,x4.2.1,x4.2.2.1) 1 a2).bind fun j=>
 eW k x4 k (j.2.1,j.2.2.1,j.2.2.2,([]:(List Int)),j.1)):Option ((List Int)×Int×Int×(List Int))).bind fun e=>
 (((f9 k (e.1,e.2.1,e.2.2.1) 2).bind fun c=>
 if c.1=true then((aR e.2.2.2 0).bind fun l=>
 some (List.set e.2.2.2 (Int.toNat 0) (jY 9 x4.2.2.2.2),c.2.1,c.2.2.1,c.2.2.2)) else(some (e.2.2.2,c.2.1,c.2.2.1,c.2.2.2))):Option ((List Int)×(List Int)×Int×Int)).bind fun h=>
 some ((r2.1,x4.2.2.2.1,h.1),(h.2.1,h.2.2.1,h.2.2.2))
theorem wi(k:Nat)(a0:bS)(c:Nat)(a1:Int)(a2:Int)(r:aS×bS)(h:kw k a0 a1 a2=some r):
 bX Tryz.prog 49 [Pt c,I a1,I a2] [.obj c 75 (.agg (.pair (Ri a0.1) (.pair (I a0.2.1) (.eq (.int .u64 a0.2.2)))))] (fun _:Unit=>(bu [.rep av r.1],[.obj c 75 (.agg (.pair (Ri r.2.1) (.pair (I r.2.2.1) (.eq (.int .u64 r.2.2.2)))))])):=by
 unfold kw at h
 replace h:=ba h
 refine bX.of 79 Tryz.func49 rfl Tryz.ntmps49 rfl fun S w0=>?_
 refine sr ?_
 refine aF rfl rfl rfl (be rfl kf ml) trivial fun b1=>?_
 refine nt ?_
 refine sr ?_
 refine mq ?_
 obtain⟨r2,Up,h⟩:=aa h
 have Ur:=l7 k (a0.1,a0.2.1,a0.2.2) c 1 4 r2 Up
 refine fr 1 ?_
 refine kc (ap [.tmp 13,.const (.int .i64 (1)),.const (.int .i64 (4))] rfl rfl Nc rfl Ur) ?_
 refine ja (cH [(0,.tmp 14,_)] rfl Gs kf Ar (g7 ⟨rfl,trivial⟩) rfl) ?_
 refine aF rfl rfl rfl (be rfl kf ml) trivial fun b3=>?_
 refine bh rfl rfl (bb rfl dy trivial rfl rfl) ⟨rfl,rfl,trivial⟩ ?_
 refine nt ?_
 refine sr ?_
 refine cq ?_
 refine nt ?_
 refine aN (Z:=Value) (α:=(List Int)×Int×Int×(List eF)×Int) (fun z5 x4=>[(0,Pt c),(2,I a2),(6,Pt b1),(7,Pt b3),(8,I x4.2.2.2.2)]) (fun z5 x4=>[.obj c 75 (.agg (.pair (Ri x4.1) (.pair (I x4.2.1) (.eq (.int .u64 x4.2.2.1))))),.obj b1 25 (.agg (.pair (I 0) (.pair (.eq (.slice none 0 0)) (.eq (.slice none 0 0))))),.obj b3 25 (.agg (.pair (I r2.1) (.pair (.eq z5) (.eq (.slice none 0 0))))),.sl z5 27 aY x4.2.2.2.1]) h (fun K h=>?_) (fun z5 x4 h=>?_)
 ·
  refine sr ?_;iterate 2 refine mq ?_
  obtain⟨r6,Uo,h⟩:=aa h;refine fr 1 ?_;refine kc (ap [.tmp 16,.const (.int .i64 (0)),.tmp 17] rfl rfl Nc rfl (l7 k (r2.2.1,r2.2.2.1,r2.2.2.2) c 0 a1 r6 Uo)) ?_;refine aq (nt (ao ?_));refine dJ (SE.nil 27 aY) ?_;refine aK (fun z8 y7=>[(0,Pt c),(2,I a2),(6,Pt b1),(7,Pt b3),(8,I y7.2.2.2.2.1),(9,I y7.2.2.2.2.2)]) (fun z8 y7=>[.obj c 75 (.agg (.pair (Ri y7.1) (.pair (I y7.2.1) (.eq (.int .u64 y7.2.2.1))))),.obj b1 25 (.agg (.pair (I 0) (.pair (.eq (.slice none 0 0)) (.eq (.slice none 0 0))))),.obj b3 25 (.agg (.pair (I r2.1) (.pair (.eq z8) (.eq (.slice none 0 0))))),.sl z8 27 aY y7.2.2.2.1]) (eY k r2) k (.slice none 0 0) (r6.2.1,r6.2.2.1,r6.2.2.2,([]:(List eF)),0,r6.1) (fun _=>rfl) h (SE.fin [1,3,2,0] ⟨rfl,rfl,rfl,rfl,rfl,rfl,trivial⟩ rfl) (fun n z8 y7 h=>?_);unfold eY at h;refine ag (sr (mq ?_));refine jb (hC rfl) ?_;refine nt (ci h (fun h=>?_) (fun h=>?_))
  ·refine sk (aN (Z:=Value) (α:=(List Int)×Int×Int×(List eF)×Int) (fun X x9=>[(0,Pt c),(2,I a2),(6,Pt b1),(7,Pt b3),(8,I x9.2.2.2.2),(9,I y7.2.2.2.2.2)]) (fun X x9=>[.obj c 75 (.agg (.pair (Ri x9.1) (.pair (I x9.2.1) (.eq (.int .u64 x9.2.2.1))))),.obj b1 25 (.agg (.pair (I 0) (.pair (.eq (.slice none 0 0)) (.eq (.slice none 0 0))))),.obj b3 25 (.agg (.pair (I r2.1) (.pair (.eq X) (.eq (.slice none 0 0))))),.sl X 27 aY x9.2.2.2.1]) h (fun K h=>?_) (fun X x9 h=>?_))
   ·refine ao (sr (mq ?_));refine aE rfl (bj (t:=(.int .i64)) [(.const (.int .i64 (1)),_),(.const (.int .i64 (1)),_),(.const (.int .i64 (1)),_),(.const (.int .i64 (2)),_),(.const (.int .i64 (3)),_)] [1,1,1,2,3] rfl rfl dB (.cons rfl .int (.cons rfl .int (.cons rfl .int (.cons rfl .int (.cons rfl .int .nil))))) rfl rfl) ⟨rfl,rfl,rfl,rfl,rfl,trivial⟩ ?_;obtain⟨s,T8,h⟩:=aa h;refine kb (ap [.tmp 23,.tmp 24] rfl rfl PP rfl (o6 k (y7.1,y7.2.1,y7.2.2.1) c [1,1,1,2,3] s T8)) ?_;refine ja (cH [(0,.tmp 25,_)] rfl zl t4 tY (g7 ⟨rfl,trivial⟩) rfl) ?_;refine aF rfl rfl rfl (be rfl t4 KQ) trivial fun M=>?_;refine bh rfl rfl (bb rfl jQ trivial rfl rfl) ⟨rfl,rfl,trivial⟩ ?_;refine nt (aN (Z:=Value) (α:=(List Int)×Int×Int×(List Int)) (fun ac j=>[(0,Pt c),(2,I a2),(6,Pt b1),(7,Pt b3),(8,I y7.2.2.2.2.1),(9,I y7.2.2.2.2.2),(10,Pt M)]) (fun ac j=>[.obj c 75 (.agg (.pair (Ri j.1) (.pair (I j.2.1) (.eq (.int .u64 j.2.2.1))))),.obj b1 25 (.agg (.pair (I 0) (.pair (.eq (.slice none 0 0)) (.eq (.slice none 0 0))))),.obj b3 25 (.agg (.pair (I r2.1) (.pair (.eq z8) (.eq (.slice none 0 0))))),.sl z8 27 aY y7.2.2.2.1,.obj M 27 (.agg (.pair (I s.1) (.eq ac))),.sl ac 3 (.int .i64) j.2.2.2]) h (fun K h=>?_) (fun ac j h=>?_))
    ·refine sr (cq (nt (ao ?_)));refine dJ (SE.nil 3 (.int .i64)) ?_;refine aK (fun Q e=>[(0,Pt c),(2,I a2),(6,Pt b1),(7,Pt b3),(8,I y7.2.2.2.2.1),(9,I y7.2.2.2.2.2),(10,Pt M),(11,I e.2.2.2.2)]) (fun Q e=>[.obj c 75 (.agg (.pair (Ri e.1) (.pair (I e.2.1) (.eq (.int .u64 e.2.2.1))))),.obj b1 25 (.agg (.pair (I 0) (.pair (.eq (.slice none 0 0)) (.eq (.slice none 0 0))))),.obj b3 25 (.agg (.pair (I r2.1) (.pair (.eq z8) (.eq (.slice none 0 0))))),.sl z8 27 aY y7.2.2.2.1,.obj M 27 (.agg (.pair (I s.1) (.eq Q))),.sl Q 3 (.int .i64) e.2.2.2.1]) (eX k r2) k (.slice none 0 0) (s.2.1,s.2.2.1,s.2.2.2,([]:(List Int)),0) (fun _=>rfl) h (SE.fin [2,3,4,5,1,0] ⟨rfl,rfl,rfl,rfl,rfl,rfl,rfl,rfl,trivial⟩ rfl) (fun n Q e h=>?_);unfold eX at h;refine ag (sr (mq ?_));refine fl gd ?_;refine fr 2 ?_;refine lo cg ?_;refine jb (bq rfl) ?_;refine nt (ci h (fun h=>?_) (fun h=>?_))
     ·refine sk (aN (Z:=Value) (α:=(List Int)×Int×Int×(List Int)) (fun U x=>[(0,Pt c),(2,I a2),(6,Pt b1),(7,Pt b3),(8,I y7.2.2.2.2.1),(9,I y7.2.2.2.2.2),(10,Pt M),(11,I e.2.2.2.2)]) (fun U x=>[.obj c 75 (.agg (.pair (Ri x.1) (.pair (I x.2.1) (.eq (.int .u64 x.2.2.1))))),.obj b1 25 (.agg (.pair (I 0) (.pair (.eq (.slice none 0 0)) (.eq (.slice none 0 0))))),.obj b3 25 (.agg (.pair (I r2.1) (.pair (.eq z8) (.eq (.slice none 0 0))))),.sl z8 27 aY y7.2.2.2.1,.obj M 27 (.agg (.pair (I s.1) (.eq U))),.sl U 3 (.int .i64) x.2.2.2]) h (fun K h=>?_) (fun U x h=>?_))
      ·refine ao (sr (mq ?_));obtain⟨J,TZ,h⟩:=aa h;refine fr 1 ?_;refine kb (ap [.tmp 33,.const (.int .i64 (2))] rfl rfl PO rfl (nn k (e.1,e.2.1,e.2.2.1) c 2 J TZ)) ?_;refine nt (cv h (fun h=>?_) (fun h=>?_))
       ·refine ab (fl jZ ?_);refine fr 4 ?_;refine lo bQ ?_;refine mq ?_;refine ja (bj (t:=(.int .i64)) [(.tmp 37,_)] [e.2.2.2.2] rfl rfl dB (.cons rfl .int .nil) rfl rfl) ?_;obtain⟨UG,TS,h⟩:=aa h;refine fr 5 ?_;refine cU rfl rfl rfl (bD rfl rfl dB (aB TS)) ⟨rfl,rfl,trivial⟩ fun Ue=>?_;refine fl jZ ?_;refine nX fun o22=>?_;refine fr 1 ?_;refine bh rfl rfl (bb rfl bQ o22 rfl rfl) ⟨rfl,rfl,trivial⟩ ?_;refine au (bn ?_);exact jz (Ue,(J.2.1,J.2.2.1,J.2.2.2,e.2.2.2.1++[e.2.2.2.2])) h [2,4,3,5,0,1]
       ·refine aX (bn ?_);exact jz (Q,(J.2.1,J.2.2.1,J.2.2.2,e.2.2.2.1)) h [0,2,1,3,4,5]
      ·refine ab (mq ?_);obtain⟨Uc,TO,h⟩:=aa h;refine jb (bf rfl TO) ?_;refine aq (nl ?_);exact jz (U,(x.1,x.2.1,x.2.2.1,x.2.2.2,Uc)) h [0,1,2,3,4,5]
     ·refine xa ?_;exact jz (Q,(e.1,e.2.1,e.2.2.1,e.2.2.2.1)) h [1,2,0,3,4,5]
    ·refine ji 4 rfl ?_;refine ji 5 rfl ?_;refine dJ (kC (off:=1) [] trivial rfl rfl) ?_;refine jj ?_;refine aI rfl rfl rfl (ar rfl bU) ⟨rfl,trivial⟩ ?_;refine dk 3 rfl rfl rfl rfl (aj rfl fi i9 rfl) ⟨rfl,trivial⟩ ?_;refine dk 0 rfl rfl rfl rfl (aj rfl jQ (tR) rfl) ⟨rfl,trivial⟩ ?_;refine aI rfl rfl rfl (bj (t:=aY) [(.tmp 43,_)] [(s.1,j.2.2.2)] rfl rfl xz (.cons trivial (.agg (.pair .int .rep)) .nil) rfl rfl) ⟨rfl,trivial⟩ ?_;obtain⟨UF,TR,h⟩:=aa h;refine sw 4 rfl (fun v=>[.sl v 27 aY (y7.2.2.2.1++[(s.1,j.2.2.2)])]) (fun _=>rfl) rfl rfl rfl (bD rfl rfl xz (aB TR)) ⟨rfl,rfl,trivial⟩ ?_;refine aI rfl rfl rfl (aH rfl) ⟨rfl,trivial⟩ ?_;refine aI rfl rfl rfl (ar rfl kz) ⟨rfl,trivial⟩ ?_;refine dk 0 rfl rfl rfl rfl (aj rfl cg i9 rfl) ⟨rfl,trivial⟩ ?_;obtain⟨Ub,TN,h⟩:=aa h;refine aI rfl rfl rfl (bf rfl TN) ⟨rfl,rfl,trivial⟩ ?_;refine aI rfl rfl rfl (ar rfl bU) ⟨rfl,trivial⟩ ?_;refine mg 10 [true,true,true,true,true,false,false,false,false,true] [] [0] [.obj M 27 (.agg (.pair (I s.1) (Ri j.2.2.2)))] rfl (by kernel_rfl) (by kernel_rfl) (by kernel_rfl) cz (fun vs hv hB=>?_);obtain⟨w0,UD,rfl,Un⟩:=an hv;obtain⟨w1,UC,rfl,Um⟩:=an Un;obtain⟨w2,UB,rfl,Ul⟩:=an Um;obtain⟨w3,UA,rfl,Uk⟩:=an Ul;obtain⟨se,Uz,rfl,Uj⟩:=an Uk;obtain⟨w5,Uy,rfl,Ui⟩:=an Uj;obtain⟨w6,Ux,rfl,Uh⟩:=an Ui;obtain⟨w7,Uw,rfl,Ug⟩:=an Uh;obtain⟨w8,Uu,rfl,Uf⟩:=an Ug;obtain⟨w9,Us,rfl,TJ⟩:=an Uf;obtain rfl:=jW TJ;refine⟨[0,1,2,3,4],[.obj c 75 (.agg (.pair (Ri j.1) (.pair (I j.2.1) (.eq (.int .u64 j.2.2.1))))),.obj b1 25 (.agg (.pair (I 0) (.pair (.eq (.slice none 0 0)) (.eq (.slice none 0 0))))),.obj b3 25 (.agg (.pair (I r2.1) (.pair (.eq z8) (.eq (.slice none 0 0))))),.sl se 27 aY (y7.2.2.2.1++[(s.1,j.2.2.2)])],by kernel_rfl,by decide,?_⟩;refine iJ 3 rfl ?_;refine Cj fun o27=>?_;refine iJ 3 rfl ?_;refine nW rfl rfl (bb rfl fi o27 rfl rfl) ⟨rfl,rfl,trivial⟩ (by kernel_rfl) ?_;refine Cm (by kernel_rfl) ?_;refine aq (au (bn ?_));exact jz (se,(j.1,j.2.1,j.2.2.1,y7.2.2.2.1++[(s.1,j.2.2.2)],Ub)) h [3,4,1,2]
   ·refine ab (mq ?_);obtain⟨Ua,TM,h⟩:=aa h;refine jb (fV rfl TM) ?_;refine aq (nl ?_);exact jz (X,(x9.1,x9.2.1,x9.2.2.1,x9.2.2.2.1,x9.2.2.2.2,Ua)) h [0,1,2,3]
  ·refine xa ?_;exact jz (z8,(y7.1,y7.2.1,y7.2.2.1,y7.2.2.2.1,y7.2.2.2.2.1)) h [0,1,2,3]
 ·
  refine aN (Z:=Value) (α:=(List Int)×Int×Int×(List Int)) (fun O u=>[(0,Pt c),(6,Pt b1),(7,Pt b3),(8,I x4.2.2.2.2)]) (fun O u=>[.obj c 75 (.agg (.pair (Ri u.1) (.pair (I u.2.1) (.eq (.int .u64 u.2.2.1))))),.obj b1 25 (.agg (.pair (I 0) (.pair (.eq (.slice none 0 0)) (.eq (.slice none 0 0))))),.obj b3 25 (.agg (.pair (I r2.1) (.pair (.eq z5) (.eq O)))),.sl z5 27 aY x4.2.2.2.1,.sl O 3 (.int .i64) u.2.2.2]) h (fun K h=>?_) (fun O u h=>?_)
  ·refine sr ?_;iterate 2 refine mq ?_
   obtain⟨Y,TY,h⟩:=aa h;refine kc (ap [.tmp 51,.const (.int .i64 (1)),.tmp 52] rfl rfl Nc rfl (l7 k (x4.1,x4.2.1,x4.2.2.1) c 1 a2 Y TY)) ?_;refine aq (nt (ao ?_));refine dJ (SE.nil 3 (.int .i64)) ?_;refine aK (fun E l=>[(0,Pt c),(6,Pt b1),(7,Pt b3),(8,I x4.2.2.2.2),(12,I l.2.2.2.2)]) (fun E l=>[.obj c 75 (.agg (.pair (Ri l.1) (.pair (I l.2.1) (.eq (.int .u64 l.2.2.1))))),.obj b1 25 (.agg (.pair (I 0) (.pair (.eq (.slice none 0 0)) (.eq (.slice none 0 0))))),.obj b3 25 (.agg (.pair (I r2.1) (.pair (.eq z5) (.eq E)))),.sl z5 27 aY x4.2.2.2.1,.sl E 3 (.int .i64) l.2.2.2.1]) (eW k x4) k (.slice none 0 0) (Y.2.1,Y.2.2.1,Y.2.2.2,([]:(List Int)),Y.1) (fun _=>rfl) h (SE.fin [1,2,3,4,0] ⟨rfl,rfl,rfl,rfl,rfl,trivial⟩ rfl) (fun n E l h=>?_);unfold eW at h;refine ag (sr (mq ?_));refine jb (hC rfl) ?_;refine nt (ci h (fun h=>?_) (fun h=>?_))
   ·refine sk (ag (ao (bI ?_)));refine da (ar rfl cI) ?_;refine ea 2 (aj rfl bQ i9 rfl) ?_;refine dm ?_;refine dm ?_;refine db (CZ rfl rfl) ?_;refine dm ?_;obtain⟨qt,TL,h⟩:=aa h;refine db (bf rfl TL) ?_;refine db (CZ rfl rfl) ?_;refine dA rfl rfl rfl (bj (t:=(.int .i64)) [(.const (.int .i64 (1)),_),(.const (.int .i64 (2)),_),(.const (.int .i64 (3)),_),(.tmp 62,_),(.tmp 65,_)] [1,2,3,jY 9 x4.2.2.2.2,jY 9 qt] rfl rfl dB (.cons rfl .int (.cons rfl .int (.cons rfl .int (.cons rfl .int (.cons rfl .int .nil))))) rfl rfl) ⟨rfl,rfl,rfl,rfl,rfl,trivial⟩ ?_;obtain⟨D,TX,h⟩:=aa h;refine K5 0 rfl rfl rfl rfl (ap [.tmp 60,.tmp 66] rfl rfl PP rfl (o6 k (l.1,l.2.1,l.2.2.1) c [1,2,3,jY 9 x4.2.2.2.2,jY 9 qt] D TX)) ⟨rfl,rfl,trivial⟩ ?_;refine da (bj (t:=(.int .i64)) [(.tmp 67,_)] [D.1] rfl rfl dB (.cons rfl .int .nil) rfl rfl) ?_;refine K7 (Δ':=[.obj b1 25 (.agg (.pair (I 0) (.pair (.eq (.slice none 0 0)) (.eq (.slice none 0 0))))),.obj b3 25 (.agg (.pair (I r2.1) (.pair (.eq z5) (.eq E)))),.sl z5 27 aY x4.2.2.2.1,.sl E 3 (.int .i64) l.2.2.2.1,.obj c 75 (.agg (.pair (Ri D.2.1) (.pair (I D.2.2.1) (.eq (.int .u64 D.2.2.2)))))]) (by kernel_rfl) cz (by kernel_rfl) ?_;obtain⟨UE,TP,h⟩:=aa h;refine fr 3 ?_;refine cU rfl rfl rfl (bD rfl rfl dB (aB TP)) ⟨rfl,rfl,trivial⟩ fun Ud=>?_;refine fl cI ?_;refine nX fun o38=>?_;refine fr 2 ?_;refine bh rfl rfl (bb rfl bQ o38 rfl rfl) ⟨rfl,rfl,trivial⟩ ?_;refine au (aM (tn (ab (mq ?_))));obtain⟨T9,TK,h⟩:=aa h;refine jb (fV rfl TK) ?_;refine aq (nl ?_);exact jz (Ud,(D.2.1,D.2.2.1,D.2.2.2,l.2.2.2.1++[D.1],T9)) h [4,2,0,3,1]
   ·refine xa ?_;exact jz (E,(l.1,l.2.1,l.2.2.1,l.2.2.2.1)) h [0,1,2,3,4]
  ·refine aN (Z:=Unit) (α:=(List Int)×(List Int)×Int×Int) (fun pp y=>[(6,Pt b1),(7,Pt b3)]) (fun pp y=>[.obj b1 25 (.agg (.pair (I 0) (.pair (.eq (.slice none 0 0)) (.eq (.slice none 0 0))))),.obj b3 25 (.agg (.pair (I r2.1) (.pair (.eq z5) (.eq O)))),.sl z5 27 aY x4.2.2.2.1,.sl O 3 (.int .i64) y.1,.obj c 75 (.agg (.pair (Ri y.2.1) (.pair (I y.2.2.1) (.eq (.int .u64 y.2.2.2)))))]) h (fun K h=>?_) (fun pp y h=>?_)
   ·refine sr (mq ?_);obtain⟨F,TU,h⟩:=aa h;refine kb (ap [.tmp 71,.const (.int .i64 (2))] rfl rfl PO rfl (nn k (u.1,u.2.1,u.2.2.1) c 2 F TU)) ?_;refine nt (cv h (fun h=>?_) (fun h=>?_))
    ·refine ab (fl cI ?_);refine fr 2 ?_;refine lo bQ ?_;refine mq ?_;refine jb (CZ rfl rfl) ?_;obtain⟨Ut,mc,h⟩:=aa h;refine fr 4 ?_;refine kb (aZ (t:=(.int .i64)) rfl dC cg mc) ?_;refine bh rfl rfl (cR (i:=Int.toNat 0) rfl cg rfl (gW mc) rfl .int rfl) ⟨rfl,rfl,trivial⟩ ?_;refine nl ?_;exact jz ((),(List.set u.2.2.2 (Int.toNat 0) (jY 9 x4.2.2.2.2),F.2.1,F.2.2.1,F.2.2.2)) h [3,1,4,0,2]
    ·refine aX (ae ?_);exact jz ((),(u.2.2.2,F.2.1,F.2.2.1,F.2.2.2)) h [1,2,3,4,0]
   ·refine sr (fr 1 ?_);refine fr 2 ?_;refine cC (kC (off:=1) [] trivial rfl rfl) ?_;refine fr 2 ?_;refine cC (kC (off:=2) [] trivial rfl rfl) ?_;refine lo dy ?_;refine fr 1 ?_;refine bh rfl rfl (bb rfl dy trivial rfl rfl) ⟨rfl,rfl,trivial⟩ ?_;refine nt (ay (bv (nV (a:=.agg (.pair (I r2.1) (.pair (Rs aY x4.2.2.2.1) (Ri y.1)))) (a':=.rep av (r2.1,x4.2.2.2.1,y.1)) (vP (.agg (.pair .int (.pair .rep .rep))))) ?_));refine bv (SE.fin (Γ':=[(6,_)]) [2,0,1] ⟨rfl,trivial⟩ rfl) ?_;cases h;exact aP () [.rep av (r2.1,x4.2.2.2.1,y.1)] 1 ⟨⟨_,_,_,_,_,rfl,(.tail _ (.head _)),dy,(tR),rfl⟩,trivial⟩ rfl
def eD(k:Nat)(a1:Int):Nat→((List Int)×Int×Int×(List Int)×Int)→Option ((List Int)×(List Int)×Int×Int)
 |0,_=>none
 |n+1,y3=>
  if y3.2.2.2.2 < a1 then((cD k (y3.1,y3.2.1,y3.2.2.1) y3.2.2.2.2).bind fun r5=>
  (dz (bL (List.length y3.2.2.2.1+List.length [y3.2.2.2.2]))).bind fun _=>
  (aR (y3.2.2.2.1++[y3.2.2.2.2]) r5.1).bind fun x8=>
  (aR (y3.2.2.2.1++[y3.2.2.2.2]) y3.2.2.2.2).bind fun x9=>
  (aR (List.set (y3.2.2.2.1++[y3.2.2.2.2]) (Int.toNat y3.2.2.2.2) x8) r5.1).bind fun e=>
  (ck (y3.2.2.2.2+1)).bind fun c=>
  eD k a1 n (r5.2.1,r5.2.2.1,r5.2.2.2,List.set (List.set (y3.2.2.2.1++[y3.2.2.2.2]) (Int.toNat y3.2.2.2.2) x8) (Int.toNat r5.1) y3.2.2.2.2,c)) else(some (y3.2.2.2.1,y3.1,y3.2.1,y3.2.2.1))
def gr(k:Nat)(a0:bS)(a1:Int):Option ((List Int)×bS):=
 ((eD k a1 k (a0.1,a0.2.1,a0.2.2,([]:(List Int)),0)):Option ((List Int)×(List Int)×Int×Int)).bind fun x1=>
 some (x1.1,(x1.2.1,x1.2.2.1,x1.2.2.2))
theorem rP(k:Nat)(a0:bS)(c:Nat)(a1:Int)(r:(List Int)×bS)(h:gr k a0 a1=some r):
 bX Tryz.prog 97 [Pt c,I a1] [.obj c 75 (.agg (.pair (Ri a0.1) (.pair (I a0.2.1) (.eq (.int .u64 a0.2.2)))))] (fun _:Unit=>(bu [Ri r.1],[.obj c 75 (.agg (.pair (Ri r.2.1) (.pair (I r.2.2.1) (.eq (.int .u64 r.2.2.2)))))])):=by
 unfold gr at h
 replace h:=ba h
 refine bX.of 32 Tryz.func97 rfl Tryz.ntmps97 rfl fun S w0=>?_
 refine sr ?_
 refine cq ?_
 refine nt ?_
 refine sr ?_
 refine cq ?_
 refine nt ?_
 refine aN (Z:=Value) (α:=(List Int)×(List Int)×Int×Int) (fun z2 x1=>[(5,.eq z2)]) (fun z2 x1=>[.sl z2 3 (.int .i64) x1.1,.obj c 75 (.agg (.pair (Ri x1.2.1) (.pair (I x1.2.2.1) (.eq (.int .u64 x1.2.2.2)))))]) h (fun K h=>?_) (fun z2 x1 h=>?_)
 ·
  refine sr (cq (nt (ao ?_)));refine dJ (SE.nil 3 (.int .i64)) ?_;refine aK (fun z4 y3=>[(0,Pt c),(1,I a1),(5,.eq z4),(6,I y3.2.2.2.2)]) (fun z4 y3=>[.obj c 75 (.agg (.pair (Ri y3.1) (.pair (I y3.2.1) (.eq (.int .u64 y3.2.2.1))))),.sl z4 3 (.int .i64) y3.2.2.2.1]) (eD k a1) k (.slice none 0 0) (a0.1,a0.2.1,a0.2.2,([]:(List Int)),0) (fun _=>rfl) h (SE.fin [1,0] ⟨rfl,rfl,rfl,rfl,trivial⟩ rfl) (fun n z4 y3 h=>?_);unfold eD at h;refine ag (sr ?_);iterate 2 refine mq ?_
  refine jb (bq rfl) ?_;refine nt (ci h (fun h=>?_) (fun h=>?_))
  ·refine sk (ag (ao (sr ?_)));iterate 2 refine mq ?_
   obtain⟨r5,y,h⟩:=aa h;refine kb (ap [.tmp 13,.tmp 14] rfl rfl Cb rfl (dS k (y3.1,y3.2.1,y3.2.2.1) c y3.2.2.2.2 r5 y)) ?_;refine aq (nt (sr ?_));iterate 2 refine mq ?_
   refine ja (bj (t:=(.int .i64)) [(.tmp 17,_)] [y3.2.2.2.2] rfl rfl dB (.cons rfl .int .nil) rfl rfl) ?_;obtain⟨u6,x,h⟩:=aa h;refine fr 1 ?_;refine cU rfl rfl rfl (bD rfl rfl dB (aB x)) ⟨rfl,rfl,trivial⟩ fun v7=>?_;refine aq (nt (ab ?_));iterate 6 refine mq ?_
   obtain⟨x8,l,h⟩:=aa h;refine kb (aZ (t:=(.int .i64)) rfl dC cg l) ?_;refine ka (dQ (i:=Int.toNat r5.1) (off:=0) rfl cg (fun _=>rfl) rfl (cy l).2.2 rfl) ?_;refine mq ?_;obtain⟨x9,j,h⟩:=aa h;refine kb (aZ (t:=(.int .i64)) rfl dC cg j) ?_;refine bh rfl rfl (cR (i:=Int.toNat y3.2.2.2.2) rfl cg rfl (gW j) rfl .int rfl) ⟨rfl,rfl,trivial⟩ ?_;obtain⟨D,e,h⟩:=aa h;refine kb (aZ (t:=(.int .i64)) rfl dC cg e) ?_;refine bh rfl rfl (cR (i:=Int.toNat r5.1) rfl cg rfl (gW e) rfl .int rfl) ⟨rfl,rfl,trivial⟩ ?_;refine au (aM (tn (ab (mq ?_))));obtain⟨u,s,h⟩:=aa h;refine jb (bf rfl s) ?_;refine aq (nl ?_);exact jz (v7,(r5.2.1,r5.2.2.1,r5.2.2.2,List.set (List.set (y3.2.2.2.1++[y3.2.2.2.2]) (Int.toNat y3.2.2.2.2) x8) (Int.toNat r5.1) y3.2.2.2.2,u)) h [1,0]
  ·refine xa ?_;exact jz (z4,(y3.2.2.2.1,y3.1,y3.2.1,y3.2.2.1)) h [1,0]
 ·
  refine sr (mq ?_);refine aq (nt (ay ?_));refine bv (eJ [4,5,31] ⟨rfl,rfl,rfl,trivial⟩) ?_;cases h;exact aP () [_] 1 ⟨rfl,trivial⟩ rfl
def o4(k:Nat)(a0:Int)(a1:Int):Option Int:=
 (dz (a1≠0)).bind fun _=>
 (ck ((Int.tmod a0 a1)+a1)).bind fun x2=>
 (dz (a1≠0)).bind fun _=>
 some (Int.tmod x2 a1)
theorem zV(k:Nat)(a0:Int)(a1:Int)(r:Int)(h:o4 k a0 a1=some r):
 bX Tryz.prog 98 [I a0,I a1] [] (fun _:Unit=>(bu [I r],[])):=by
 unfold o4 at h
 replace h:=ba h
 refine bX.of 12 Tryz.func98 rfl Tryz.ntmps98 rfl fun S w0=>?_
 refine sr ?_
 refine cq ?_
 refine nt ?_
 refine sr ?_
 iterate 2 refine mq ?_
 obtain⟨u1,j,h⟩:=aa h
 refine jb (GG rfl (aB j)) ?_
 refine mq ?_
 obtain⟨x2,c,h⟩:=aa h
 refine jb (bf rfl c) ?_
 refine mq ?_
 obtain⟨u3,e,h⟩:=aa h
 refine jb (GG rfl (aB e)) ?_
 refine aq ?_
 refine nt ?_
 refine ay ?_
 cases h
 exact ra
def dr(k:Nat)(a1:aS)(r7:(List Int)×bS)(c:(List Int)×Int×Int×(List Int)×Int×(List (List Int)))(e:Int×bS):Nat→(Int×(List (List Int)))→Option ((List Int)×Int×Int×(List Int)×(List (List Int)))
 |0,_=>none
 |n+1,h=>
  if h.1 < (c.2.2.2.1.length:Int) then((ck (e.1+h.1)).bind fun O=>
  (o4 k O (c.2.2.2.1.length:Int)).bind fun j=>
  (((aR c.2.2.2.1 j).bind fun M=>
  (aR r7.1 c.2.2.2.2.1).bind fun J=>
  (aR a1.2.1 J).bind fun I=>
  if I.1≤M then(some (true,h.2)) else((ck ((c.2.2.2.1.length:Int) - 1)).bind fun F=>
  some (decide (h.1=F),h.2))):Option (Bool×(List (List Int)))).bind fun l=>
  if l.1=true then((aR l.2 j).bind fun s=>
  (aR r7.1 c.2.2.2.2.1).bind fun r=>
  (dz (bL (List.length s+List.length [r]))).bind fun _=>
  (aR c.2.2.2.1 j).bind fun E=>
  (aR r7.1 c.2.2.2.2.1).bind fun D=>
  (aR a1.2.1 D).bind fun y=>
  (ck (E - y.1)).bind fun x=>
  (aR c.2.2.2.1 j).bind fun Q=>
  some (e.2.1,e.2.2.1,e.2.2.2,List.set c.2.2.2.1 (Int.toNat j) x,List.set l.2 (Int.toNat j) (s++[r]))) else((ck (h.1+1)).bind fun u=>
  dr k a1 r7 c e n (u,l.2))) else(some (e.2.1,e.2.2.1,e.2.2.2,c.2.2.2.1,h.2))
def fm(k:Nat)(a1:aS)(r7:(List Int)×bS):Nat→((List Int)×Int×Int×(List Int)×Int×(List (List Int)))→Option ((List Int)×Int×Int×(List (List Int)))
 |0,_=>none
 |n+1,c=>
  if c.2.2.2.2.1 < (r7.1.length:Int) then((((ck ((c.2.2.2.1.length:Int) - 1)).bind fun j=>
  (cD k (c.1,c.2.1,c.2.2.1) j).bind fun l=>
  dr k a1 r7 c l k (0,c.2.2.2.2.2)):Option ((List Int)×Int×Int×(List Int)×(List (List Int)))).bind fun e=>
  (ck (c.2.2.2.2.1+1)).bind fun h=>
  fm k a1 r7 n (e.1,e.2.1,e.2.2.1,e.2.2.2.1,h,e.2.2.2.2)) else(some (c.1,c.2.1,c.2.2.1,c.2.2.2.2.2))
def fa(k:Nat)(a0:bS)(a1:aS):Option ((List (List Int))×bS):=
 (dz (0≤(a1.2.2.length:Int)∧bL (Int.toNat (a1.2.2.length:Int)))).bind fun _=>
 (dz (bL (List.length ([]:(List Int))+List.length a1.2.2))).bind fun _=>
 (gr k (a0.1,a0.2.1,a0.2.2) (a1.2.1.length:Int)).bind fun r7=>
 ((fm k a1 r7 k (r7.2.1,r7.2.2.1,r7.2.2.2,([]:(List Int))++a1.2.2,0,List.replicate (Int.toNat (a1.2.2.length:Int)) ([]:(List Int)))):Option ((List Int)×Int×Int×(List (List Int)))).bind fun x8=>
 some (x8.2.2.2,(x8.1,x8.2.1,x8.2.2.1))
theorem nk(k:Nat)(a0:bS)(e:Nat)(a1:aS)(r:(List (List Int))×bS)(h:fa k a0 a1=some r):
 bX Tryz.prog 51 [Pt e,.rep av a1] [.obj e 75 (.agg (.pair (Ri a0.1) (.pair (I a0.2.1) (.eq (.int .u64 a0.2.2)))))] (fun _:Unit=>(bu [.rep (.slice (.slice (.int .i64))) r.1],[.obj e 75 (.agg (.pair (Ri r.2.1) (.pair (I r.2.2.1) (.eq (.int .u64 r.2.2.2)))))])):=by
 unfold fa at h
 replace h:=ba h
 refine bX.of 100 Tryz.func51 rfl Tryz.ntmps51 rfl fun S w0=>?_
 refine sr ?_
 refine bx fun b1=>?_
 refine cq ?_
 refine nt ?_
 refine sr ?_
 refine fl cI ?_
 refine lo bQ ?_
 refine ol dC ?_
 obtain⟨u2,Uo,h⟩:=aa h
 refine aF rfl rfl rfl (Bt (t:=.val) (d:=.slice none 0 0) rfl oN Oa (aB Uo).1 (aB Uo).2) ⟨rfl,rfl,trivial⟩ fun v3=>?_
 refine cC (Ax (F:=[.obj b1 25 (.rep av a1),.obj e 75 (.agg (.pair (Ri a0.1) (.pair (I a0.2.1) (.eq (.int .u64 a0.2.2)))))])) ?_
 refine aq ?_
 refine nt ?_
 refine sr ?_
 refine aF rfl rfl rfl (lY (t:=(.int .i64)) [] ([]:(List Int)) rfl rfl dB .nil rfl rfl) trivial fun v4=>?_
 refine fl cI ?_
 refine fr 1 ?_
 refine lo bQ ?_
 obtain⟨u5,UH,h⟩:=aa h
 refine fr 1 ?_
 refine cU rfl rfl rfl (bD rfl rfl dB (aB UH)) ⟨rfl,rfl,trivial⟩ fun v6=>?_
 refine aq ?_
 refine nt ?_
 refine sr ?_
 refine mq ?_
 refine fl bU ?_
 refine fr 1 ?_
 refine lo fi ?_
 refine ol mL ?_
 obtain⟨r7,UI,h⟩:=aa h
 have UJ:=rP k (a0.1,a0.2.1,a0.2.2) e (a1.2.1.length:Int) r7 UI
 refine fr 2 ?_
 refine kb (ap [.tmp 20,.tmp 23] rfl rfl RP rfl UJ) ?_
 refine aq ?_
 refine nt ?_
 refine aN (Z:=(Value×(Nat→Value))) (α:=(List Int)×Int×Int×(List (List Int))) (fun z9 x8=>[(5,.eq z9.1)]) (fun z9 x8=>[.obj e 75 (.agg (.pair (Ri x8.1) (.pair (I x8.2.1) (.eq (.int .u64 x8.2.2.1)))))]++fD 23 z9 x8.2.2.2) h (fun K h=>?_) (fun z9 x8 h=>?_)
 ·
  refine sr (cq (nt (ao ?_)));refine aK (Z:=(Value×(Nat→Value))) (α:=(List Int)×Int×Int×(List Int)×Int×(List (List Int))) (fun Q j=>[(0,Pt e),(3,Pt b1),(5,.eq Q.1),(6,.eq v6),(7,Ri r7.1),(8,I j.2.2.2.2.1)]) (fun Q j=>[.obj e 75 (.agg (.pair (Ri j.1) (.pair (I j.2.1) (.eq (.int .u64 j.2.2.1))))),.obj b1 25 (.rep av a1),.sl v6 3 (.int .i64) j.2.2.2.1]++fD 23 Q j.2.2.2.2.2) (fm k a1 r7) k (v3,fun _=>.slice none 0 0) (r7.2.1,r7.2.2.1,r7.2.2.2,([]:(List Int))++a1.2.2,0,List.replicate (Int.toNat (a1.2.2.length:Int)) ([]:(List Int))) (fun _=>rfl) h (bp [.obj e 75 (.agg (.pair (Ri r7.2.1) (.pair (I r7.2.2.1) (.eq (.int .u64 r7.2.2.2))))),.obj b1 25 (.rep av a1),.sl v6 3 (.int .i64) (([]:(List Int))++a1.2.2)] (fD 23 (v3,fun _=>.slice none 0 0) (List.replicate (Int.toNat (a1.2.2.length:Int)) ([]:(List Int)))) [0,1,2] ⟨rfl,rfl,rfl,rfl,rfl,rfl,trivial⟩ rfl) (fun n Q j h=>?_);unfold fm at h;refine ag (sr ?_);iterate 2 refine mq ?_
  refine ol dC ?_;refine jb (bq rfl) ?_;refine nt (ci h (fun h=>?_) (fun h=>?_))
  ·refine sk (aN (Z:=(Value×(Nat→Value))) (α:=(List Int)×Int×Int×(List Int)×(List (List Int))) (fun X u=>[(0,Pt e),(3,Pt b1),(5,.eq X.1),(6,.eq v6),(7,Ri r7.1),(8,I j.2.2.2.2.1)]) (fun X u=>[.obj e 75 (.agg (.pair (Ri u.1) (.pair (I u.2.1) (.eq (.int .u64 u.2.2.1))))),.obj b1 25 (.rep av a1),.sl v6 3 (.int .i64) u.2.2.2.1]++fD 23 X u.2.2.2.2) h (fun K h=>?_) (fun X u h=>?_))
   ·refine ao (sr ?_);iterate 2 refine mq ?_
    refine fr 2 ?_;refine ka (c9 rfl rfl dC) ?_;obtain⟨Ux,Um,h⟩:=aa h;refine jb (fV rfl Um) ?_;obtain⟨c,Ur,h⟩:=aa h;refine fr 1 ?_;refine kb (ap [.tmp 31,.tmp 34] rfl rfl Cb rfl (dS k (j.1,j.2.1,j.2.2.1) e Ux c Ur)) ?_;refine aq (nt (sr ?_));refine cq (nt (ao ?_));refine aK (Z:=(Value×(Nat→Value))) (α:=Int×(List (List Int))) (fun E y=>[(0,Pt e),(3,Pt b1),(5,.eq E.1),(6,.eq v6),(7,Ri r7.1),(8,I j.2.2.2.2.1),(9,I c.1),(10,I y.1)]) (fun E y=>[.obj e 75 (.agg (.pair (Ri c.2.1) (.pair (I c.2.2.1) (.eq (.int .u64 c.2.2.2))))),.obj b1 25 (.rep av a1),.sl v6 3 (.int .i64) j.2.2.2.1]++fD 23 E y.2) (dr k a1 r7 j c) k Q (0,j.2.2.2.2.2) (fun _=>rfl) h (bp [.obj e 75 (.agg (.pair (Ri c.2.1) (.pair (I c.2.2.1) (.eq (.int .u64 c.2.2.2))))),.sl v6 3 (.int .i64) j.2.2.2.1,.obj b1 25 (.rep av a1)] (fD 23 Q j.2.2.2.2.2) [0,2,1] ⟨rfl,rfl,rfl,rfl,rfl,rfl,rfl,rfl,trivial⟩ rfl) (fun n E y h=>?_);unfold dr at h;refine ag (sr ?_);iterate 2 refine mq ?_
    refine fr 2 ?_;refine ka (c9 rfl rfl dC) ?_;refine jb (bq rfl) ?_;refine nt (ci h (fun h=>?_) (fun h=>?_))
    ·refine sk (ag (ao (sr ?_)));iterate 2 refine mq ?_
     obtain⟨Uw,Ul,h⟩:=aa h;refine jb (bf rfl Ul) ?_;refine mq ?_;refine ka (c9 rfl rfl dC) ?_;obtain⟨s,Up,h⟩:=aa h;refine jb (ap [.tmp 44,.tmp 46] rfl rfl RO rfl (zV k Uw (j.2.2.2.1.length:Int) s Up)) ?_;refine aq (nt ?_);refine aN (Z:=(Value×(Nat→Value))) (α:=Bool×(List (List Int))) (fun l x=>[(0,Pt e),(3,Pt b1),(5,.eq l.1),(6,.eq v6),(7,Ri r7.1),(8,I j.2.2.2.2.1),(9,I c.1),(10,I y.1),(11,I s),(68,.eq (.bool x.1))]) (fun l x=>[.obj e 75 (.agg (.pair (Ri c.2.1) (.pair (I c.2.2.1) (.eq (.int .u64 c.2.2.2))))),.obj b1 25 (.rep av a1),.sl v6 3 (.int .i64) j.2.2.2.1]++fD 23 l x.2) h (fun K h=>?_) (fun l x h=>?_)
     ·refine bI ?_;refine dm ?_;refine dm ?_;obtain⟨Ve,mc,h⟩:=aa h;refine eb 0 (aZ (t:=(.int .i64)) rfl dC cg mc) ?_;refine ea 0 (dQ (i:=Int.toNat s) (off:=0) rfl cg (fun _=>rfl) rfl (cy mc).2.2 rfl) ?_;refine da (ar rfl bU) ?_;refine ea 2 (aj rfl fi i9 rfl) ?_;refine dm ?_;refine dm ?_;obtain⟨Vd,Uk,h⟩:=aa h;refine db (aC (t:=(.int .i64)) rfl dC cg Uk) ?_;refine da (ak (t:=(.int .i64)) rfl cg rfl) ?_;obtain⟨Vb,Uj,h⟩:=aa h;refine db (aC (t:=aY) rfl mL jQ Uj) ?_;refine da (aJ 1 false rfl kz rfl) ?_;refine da (ak (t:=(.int .i64)) rfl cg rfl) ?_;refine db (qo rfl) ?_;refine j8 rfl rfl rfl (aH rfl) ⟨rfl,trivial⟩ (fun hb=>?_) (fun hb=>?_)
      ·replace h:=cE (ou hb) h;iterate 4 refine dg ?_
       refine df cz ?_;refine gn ?_;refine pt (nl ?_);exact iP (E,(true,y.2)) h (bp [.sl v6 3 (.int .i64) j.2.2.2.1,.obj e 75 (.agg (.pair (Ri c.2.1) (.pair (I c.2.2.1) (.eq (.int .u64 c.2.2.2))))),.obj b1 25 (.rep av a1)] (fD 23 E y.2) [1,2,0] ⟨rfl,rfl,rfl,rfl,rfl,rfl,rfl,rfl,rfl,rfl,trivial⟩ rfl)
      ·replace h:=bN (nw hb) h;refine aL rfl rfl rfl rfl rfl (aH rfl) ⟨rfl,rfl,trivial⟩ ?_;refine aL rfl rfl rfl rfl rfl (aH rfl) ⟨rfl,rfl,trivial⟩ ?_;refine iR 0 rfl rfl rfl rfl rfl rfl (c9 rfl rfl dC) ⟨rfl,rfl,trivial⟩ ?_;obtain⟨Uu,Ui,h⟩:=aa h;refine aL rfl rfl rfl rfl rfl (fV rfl Ui) ⟨rfl,rfl,rfl,trivial⟩ ?_;refine df cz ?_;refine gb (fW rfl) ?_;refine pf (nl ?_);exact iP (E,(decide (y.1=Uu),y.2)) h (bp [.sl v6 3 (.int .i64) j.2.2.2.1,.obj e 75 (.agg (.pair (Ri c.2.1) (.pair (I c.2.2.1) (.eq (.int .u64 c.2.2.2))))),.obj b1 25 (.rep av a1)] (fD 23 E y.2) [1,2,0] ⟨rfl,rfl,rfl,rfl,rfl,rfl,rfl,rfl,rfl,rfl,trivial⟩ rfl)
     ·refine cv h (fun h=>?_) (fun h=>?_)
      ·refine ag ?_;obtain⟨O,J,h⟩:=aa h;refine dJ (tH (pre:=[.obj e 75 (.agg (.pair (Ri c.2.1) (.pair (I c.2.2.1) (.eq (.int .u64 c.2.2.2))))),.obj b1 25 (.rep av a1),.sl v6 3 (.int .i64) j.2.2.2.1]) (pS J).2) ?_;obtain⟨M,Uh,h⟩:=aa h;obtain⟨VG,Un,h⟩:=aa h;obtain⟨Va,ac,h⟩:=aa h;obtain⟨U8,Ug,h⟩:=aa h;obtain⟨U7,Uf,h⟩:=aa h;obtain⟨U,Ue,h⟩:=aa h;obtain⟨U6,Y,h⟩:=aa h;refine su (Δ:=[.sl (l.2 (Int.toNat s)) 3 (.int .i64) O,.sl l.1 23 .val (eu l.2 0 x.2),.obj e 75 (.agg (.pair (Ri c.2.1) (.pair (I c.2.2.1) (.eq (.int .u64 c.2.2.2))))),.obj b1 25 (.rep av a1),.sl v6 3 (.int .i64) j.2.2.2.1]) (F:=(kJ l.2 0 x.2).eraseIdx (Int.toNat s)) (Z:=Value) (fun i=>[(0,Pt e),(3,Pt b1),(5,.eq l.1),(6,.eq v6),(7,Ri r7.1),(8,I j.2.2.2.2.1)]) (fun i=>[.sl v6 3 (.int .i64) (List.set j.2.2.2.1 (Int.toNat s) U),.sl l.1 23 .val (List.set (eu l.2 0 x.2) (Int.toNat s) i),.sl i 3 (.int .i64) (O++[M]),.obj e 75 (.agg (.pair (Ri c.2.1) (.pair (I c.2.2.1) (.eq (.int .u64 c.2.2.2))))),.obj b1 25 (.rep av a1)]) (fun S w=>?_) (fun D=>?_)
       ·refine jj ?_;refine aI rfl rfl rfl (aH rfl) ⟨rfl,trivial⟩ ?_;refine aI rfl rfl rfl (aH rfl) ⟨rfl,trivial⟩ ?_;refine aI rfl rfl rfl (aH rfl) ⟨rfl,trivial⟩ ?_;refine aI rfl rfl rfl (aH rfl) ⟨rfl,trivial⟩ ?_;refine aI rfl rfl rfl (aH rfl) ⟨rfl,trivial⟩ ?_;refine aI rfl rfl rfl (aH rfl) ⟨rfl,trivial⟩ ?_;refine dk 1 rfl rfl rfl rfl (aZ (t:=.val) rfl mm bQ (kE J)) ⟨rfl,rfl,trivial⟩ ?_;refine dk 1 rfl rfl rfl rfl (dQ (i:=Int.toNat s) (off:=0) rfl bQ (fun _=>rfl) rfl (cy (kE J)).2.2 rfl) ⟨rfl,trivial⟩ ?_;refine aI rfl rfl rfl (aH rfl) ⟨rfl,trivial⟩ ?_;refine aI rfl rfl rfl (aH rfl) ⟨rfl,trivial⟩ ?_;refine aI rfl rfl rfl (aC (t:=(.int .i64)) rfl dC cg Uh) ⟨rfl,rfl,trivial⟩ ?_;refine aI rfl rfl rfl (ak (t:=(.int .i64)) rfl cg rfl) ⟨rfl,trivial⟩ ?_;refine aI rfl rfl rfl (bj (t:=(.int .i64)) [(.tmp 80,_)] [M] rfl rfl dB (.cons rfl .int .nil) rfl rfl) ⟨rfl,trivial⟩ ?_;refine sw 0 rfl (fun v=>[.sl v 3 (.int .i64) (O++[M])]) (fun _=>rfl) rfl rfl rfl (bD rfl rfl dB (aB Un)) ⟨rfl,rfl,trivial⟩ ?_;refine aI rfl rfl rfl (aH rfl) ⟨rfl,trivial⟩ ?_;refine aI rfl rfl rfl (aH rfl) ⟨rfl,trivial⟩ ?_;refine dk 4 rfl rfl rfl rfl (aZ (t:=(.int .i64)) rfl dC cg ac) ⟨rfl,rfl,trivial⟩ ?_;refine dk 4 rfl rfl rfl rfl (dQ (i:=Int.toNat s) (off:=0) rfl cg (fun _=>rfl) rfl (cy ac).2.2 rfl) ⟨rfl,trivial⟩ ?_;refine aI rfl rfl rfl (ar rfl bU) ⟨rfl,trivial⟩ ?_;refine dk 3 rfl rfl rfl rfl (aj rfl fi i9 rfl) ⟨rfl,trivial⟩ ?_;refine aI rfl rfl rfl (aH rfl) ⟨rfl,trivial⟩ ?_;refine aI rfl rfl rfl (aH rfl) ⟨rfl,trivial⟩ ?_;refine aI rfl rfl rfl (aC (t:=(.int .i64)) rfl dC cg Ug) ⟨rfl,rfl,trivial⟩ ?_;refine aI rfl rfl rfl (ak (t:=(.int .i64)) rfl cg rfl) ⟨rfl,trivial⟩ ?_;refine aI rfl rfl rfl (aC (t:=aY) rfl mL jQ Uf) ⟨rfl,rfl,trivial⟩ ?_;refine aI rfl rfl rfl (aJ 1 false rfl kz rfl) ⟨rfl,trivial⟩ ?_;refine aI rfl rfl rfl (ak (t:=(.int .i64)) rfl cg rfl) ⟨rfl,trivial⟩ ?_;refine aI rfl rfl rfl (fV rfl Ue) ⟨rfl,rfl,trivial⟩ ?_;refine dk 1 rfl rfl rfl rfl (aZ (t:=.val) rfl mm bQ (kE J)) ⟨rfl,rfl,trivial⟩ ?_;refine mg 29 [true,true,false,false,true,true,true,true,true,true,true,true,true,true,true,true,true,true,true,true,true,true,true,true,true,true,true,false,true] [98] [] [] rfl (by kernel_rfl) (by kernel_rfl) (by kernel_rfl) cz (fun vs hv hB=>?_);obtain⟨w0,VF,rfl,UG⟩:=an hv;obtain⟨w1,VE,rfl,UF⟩:=an UG;obtain⟨w2,VD,rfl,UE⟩:=an UF;obtain⟨w3,VC,rfl,UD⟩:=an UE;obtain⟨w4,VB,rfl,UC⟩:=an UD;obtain⟨w5,VA,rfl,UB⟩:=an UC;obtain⟨w6,Vz,rfl,UA⟩:=an UB;obtain⟨w7,Vy,rfl,Uz⟩:=an UA;obtain⟨w8,Vx,rfl,Uy⟩:=an Uz;obtain⟨w9,U4,rfl,Ub⟩:=an Uy;obtain⟨Vw,U2,rfl,Ua⟩:=an Ub;obtain⟨Vv,U1,rfl,T9⟩:=an Ua;obtain⟨Vu,U0,rfl,T8⟩:=an T9;obtain⟨D,UZ,rfl,TZ⟩:=an T8;obtain⟨Vt,UY,rfl,TY⟩:=an TZ;obtain⟨Vs,UX,rfl,TX⟩:=an TY;obtain⟨Vr,UW,rfl,TU⟩:=an TX;obtain⟨Vq,UV,rfl,TS⟩:=an TU;obtain⟨Vp,UU,rfl,TR⟩:=an TS;obtain⟨Vo,UT,rfl,TP⟩:=an TR;obtain⟨Vn,US,rfl,TO⟩:=an TP;obtain⟨Vm,UR,rfl,TN⟩:=an TO;obtain⟨Vl,UQ,rfl,TM⟩:=an TN;obtain⟨Vk,UP,rfl,TL⟩:=an TM;obtain⟨Vj,UO,rfl,TK⟩:=an TL;obtain⟨Vi,UN,rfl,TJ⟩:=an TK;obtain⟨Vh,UM,rfl,se⟩:=an TJ
        obtain⟨Vg,UL,rfl,qt⟩:=an se;obtain⟨Vf,UK,rfl,pp⟩:=an qt;obtain rfl:=jW pp;refine⟨[0,1,2,3,4],[.sl l.1 23 .val (eu l.2 0 x.2),.obj e 75 (.agg (.pair (Ri c.2.1) (.pair (I c.2.2.1) (.eq (.int .u64 c.2.2.2))))),.obj b1 25 (.rep av a1),.sl v6 3 (.int .i64) j.2.2.2.1,.sl D 3 (.int .i64) (O++[M])],by kernel_rfl,by decide,?_⟩;refine iJ 4 rfl ?_;refine Cj fun o34=>?_;refine iJ 1 rfl ?_;refine nW rfl rfl (cR (i:=Int.toNat s) rfl bQ rfl (gW (kE J)) rfl (.val o34) o34) ⟨rfl,rfl,trivial⟩ (by kernel_rfl) ?_;refine iJ 4 rfl ?_;refine vL rfl rfl rfl rfl (aZ (t:=(.int .i64)) rfl dC cg Y) ⟨rfl,rfl,trivial⟩ (by kernel_rfl) ?_;refine nW rfl rfl (cR (i:=Int.toNat s) rfl cg rfl (gW Y) rfl .int rfl) ⟨rfl,rfl,trivial⟩ (by kernel_rfl) ?_;refine py ?_;refine bv (SE.fin (Γ':=[(0,Pt e),(3,Pt b1),(5,.eq l.1),(6,.eq v6),(7,Ri r7.1),(8,I j.2.2.2.2.1)]) (Δ':=[.sl v6 3 (.int .i64) (List.set j.2.2.2.1 (Int.toNat s) U),.sl l.1 23 .val (List.set (eu l.2 0 x.2) (Int.toNat s) D),.sl D 3 (.int .i64) (O++[M]),.obj e 75 (.agg (.pair (Ri c.2.1) (.pair (I c.2.2.1) (.eq (.int .u64 c.2.2.2))))),.obj b1 25 (.rep av a1)]) [0,1,2,3,4] ⟨rfl,rfl,rfl,rfl,rfl,rfl,trivial⟩ rfl) ?_;exact fun a w st=>⟨rfl,(D),(SE.fin (Γ':=[(0,Pt e),(3,Pt b1),(5,.eq l.1),(6,.eq v6),(7,Ri r7.1),(8,I j.2.2.2.2.1)]) (Δ':=[.sl v6 3 (.int .i64) (List.set j.2.2.2.1 (Int.toNat s) U),.sl l.1 23 .val (List.set (eu l.2 0 x.2) (Int.toNat s) D),.sl D 3 (.int .i64) (O++[M]),.obj e 75 (.agg (.pair (Ri c.2.1) (.pair (I c.2.2.1) (.eq (.int .u64 c.2.2.2))))),.obj b1 25 (.rep av a1)]) [0,1,2,3,4] ⟨rfl,rfl,rfl,rfl,rfl,rfl,trivial⟩ rfl) a w st⟩
       ·show JN _ _ [(0,Pt e),(3,Pt b1),(5,.eq l.1),(6,.eq v6),(7,Ri r7.1),(8,I j.2.2.2.2.1)] ([.sl v6 3 (.int .i64) (List.set j.2.2.2.1 (Int.toNat s) U),.sl l.1 23 .val (List.set (eu l.2 0 x.2) (Int.toNat s) D),.sl D 3 (.int .i64) (O++[M]),.obj e 75 (.agg (.pair (Ri c.2.1) (.pair (I c.2.2.1) (.eq (.int .u64 c.2.2.2))))),.obj b1 25 (.rep av a1)]++(kJ l.2 0 x.2).eraseIdx (Int.toNat s));refine dj 1 rfl ?_;refine dj 2 rfl ?_;refine bv (vI (pre:=[.sl v6 3 (.int .i64) (List.set j.2.2.2.1 (Int.toNat s) U),.obj e 75 (.agg (.pair (Ri c.2.1) (.pair (I c.2.2.1) (.eq (.int .u64 c.2.2.2))))),.obj b1 25 (.rep av a1)]) (z:=l) (i:=Int.toNat s) (pS J).2) ?_;refine tn (dH (AH (eq_false (by decide)) ?_));refine aU (aU (bW (bn ?_)));exact iP ((l.1,m8 l.2 (Int.toNat s) D),(c.2.1,c.2.2.1,c.2.2.2,List.set j.2.2.2.1 (Int.toNat s) U,List.set x.2 (Int.toNat s) (O++[M]))) h (bp [.sl v6 3 (.int .i64) (List.set j.2.2.2.1 (Int.toNat s) U),.obj e 75 (.agg (.pair (Ri c.2.1) (.pair (I c.2.2.1) (.eq (.int .u64 c.2.2.2))))),.obj b1 25 (.rep av a1)] (fD 23 (l.1,m8 l.2 (Int.toNat s) D) (List.set x.2 (Int.toNat s) (O++[M]))) [1,2,0] ⟨rfl,rfl,rfl,rfl,rfl,rfl,trivial⟩ rfl)
      ·refine aX (aM (tn (ab (mq ?_))));obtain⟨Ut,Ud,h⟩:=aa h;refine jb (bf rfl Ud) ?_;refine aq (nl ?_);exact iP (l,(Ut,x.2)) h (bp [.obj e 75 (.agg (.pair (Ri c.2.1) (.pair (I c.2.2.1) (.eq (.int .u64 c.2.2.2))))),.obj b1 25 (.rep av a1),.sl v6 3 (.int .i64) j.2.2.2.1] (fD 23 l x.2) [0,1,2] ⟨rfl,rfl,rfl,rfl,rfl,rfl,rfl,rfl,trivial⟩ rfl)
    ·refine dH (aU (aU (bW (bn ?_))));exact iP (E,(c.2.1,c.2.2.1,c.2.2.2,j.2.2.2.1,y.2)) h (bp [.sl v6 3 (.int .i64) j.2.2.2.1,.obj e 75 (.agg (.pair (Ri c.2.1) (.pair (I c.2.2.1) (.eq (.int .u64 c.2.2.2))))),.obj b1 25 (.rep av a1)] (fD 23 E y.2) [1,2,0] ⟨rfl,rfl,rfl,rfl,rfl,rfl,trivial⟩ rfl)
   ·refine ab (mq ?_);obtain⟨Us,Uc,h⟩:=aa h;refine jb (bf rfl Uc) ?_;refine aq (nl ?_);exact iP (X,(u.1,u.2.1,u.2.2.1,u.2.2.2.1,Us,u.2.2.2.2)) h (bp [.obj e 75 (.agg (.pair (Ri u.1) (.pair (I u.2.1) (.eq (.int .u64 u.2.2.1))))),.obj b1 25 (.rep av a1),.sl v6 3 (.int .i64) u.2.2.2.1] (fD 23 X u.2.2.2.2) [0,1,2] ⟨rfl,rfl,rfl,rfl,rfl,rfl,trivial⟩ rfl)
  ·refine xa ?_;exact iP (Q,(j.1,j.2.1,j.2.2.1,j.2.2.2.2.2)) h (bp [.obj e 75 (.agg (.pair (Ri j.1) (.pair (I j.2.1) (.eq (.int .u64 j.2.2.1))))),.obj b1 25 (.rep av a1),.sl v6 3 (.int .i64) j.2.2.2.1] (fD 23 Q j.2.2.2.2.2) [0] ⟨rfl,trivial⟩ rfl)
 ·
  refine sr (mq ?_);refine aq (nt (ay ?_));refine bv (Az (pre:=[.obj e 75 (.agg (.pair (Ri x8.1) (.pair (I x8.2.1) (.eq (.int .u64 x8.2.2.1)))))])) ?_;refine bv (eJ [4,5,99] ⟨rfl,rfl,rfl,trivial⟩) ?_;cases h;exact aP () [_] 1 ⟨rfl,trivial⟩ rfl
def f7(k:Nat)(a0:Int)(a1:Int)(a2:Int):Option Bool:=
 ((if a1≤a0 then(some (decide (a0≤a2))) else(some false)):Option (Bool)).bind fun x1=>
 some x1
theorem ib(k:Nat)(a0:Int)(a1:Int)(a2:Int)(r:Bool)(h:f7 k a0 a1 a2=some r):
 bX Tryz.prog 60 [I a0,I a1,I a2] [] (fun _:Unit=>(bu [.eq (.bool r)],[])):=by
 unfold f7 at h
 replace h:=ba h
 refine bX.of 15 Tryz.func60 rfl Tryz.ntmps60 rfl fun S w0=>?_
 refine sr ?_
 refine cq ?_
 refine nt ?_
 refine aN (Z:=Unit) (α:=Bool) (fun z2 x1=>[(6,.eq (.bool x1))]) (fun z2 x1=>[]) h (fun K h=>?_) (fun z2 x1 h=>?_)
 ·
  refine ab ?_;iterate 2 refine mq ?_
  refine jb (qo rfl) ?_;refine mq ?_;refine cp (s:=10) rfl (fun hb=>?_) (fun hb=>?_)
  ·replace h:=cE (ou hb) h;refine gm ?_;refine gm ?_;refine gb (vc rfl) ?_;refine pt ?_;refine aq (nl ?_);exact jz ((),decide (a0≤a2)) h []
  ·replace h:=bN (nw hb) h;iterate 3 refine gn ?_
   refine pf ?_;refine aq (nl ?_);exact jz ((),false) h []
 ·
  refine ay ?_;cases h;exact ra
def fS(k:Nat)(a0:aS)(e:eF):Nat→Int→Option (Except Int Unit)
 |0,_=>none
 |n+1,c=>
  if c < (e.2.length:Int) then((aR e.2 c).bind fun x=>
  (ck (a0.1 - 1)).bind fun u=>
  (f7 k x 0 u).bind fun y=>
  if¬(y=true) then(some (.error 1)) else(((if 0 < c then((aR e.2 c).bind fun r=>
  (ck (c - 1)).bind fun l=>
  (aR e.2 l).bind fun j=>
  some (decide (r≤j))) else(some false)):Option (Bool)).bind fun s=>
  if s=true then(some (.error 5)) else((ck (c+1)).bind fun h=>
  fS k a0 e n h))) else(some (.ok ()))
def fU(k:Nat)(a0:aS):Nat→Int→Option (Except Int Unit)
 |0,_=>none
 |n+1,y5=>
  if y5 < (a0.2.1.length:Int) then(bE (α:=Unit) ((aR a0.2.1 y5).bind fun x9=>
  (f7 k x9.1 1 3).bind fun j=>
  if¬(j=true) then(some (.error 1)) else((aR a0.2.1 y5).bind fun h=>
  fS k a0 h k 0)) (fun e=>some (.error e)) fun _=>
  (ck (y5+1)).bind fun c=>
  fU k a0 n c) else(some (.ok ()))
def fR(k:Nat)(a0:aS):Nat→Int→Option (Except Int Unit)
 |0,_=>none
 |n+1,c=>
  if c < (a0.2.2.length:Int) then((aR a0.2.2 c).bind fun h=>
  (f7 k h 0 9).bind fun j=>
  if¬(j=true) then(some (.error 1)) else((ck (c+1)).bind fun e=>
  fR k a0 n e)) else(some (.ok ()))
def lC(k:Nat)(a0:aS):Option Int:=
 (f7 k a0.1 1 6).bind fun r2=>
 if¬(r2=true) then(some 1) else(if 5 < (a0.2.1.length:Int) then(some 6) else(bE (α:=Unit) (fU k a0 k 0) (some) fun _=>
 if(a0.2.2.length:Int)=0 then(some 7) else(if 3 < (a0.2.2.length:Int) then(some 6) else(bE (α:=Unit) (fR k a0 k 0) (some) fun _=>
 some 0))))
theorem rC(k:Nat)(a0:aS)(r:Int)(h:lC k a0=some r):
 bX Tryz.prog 21 [.rep av a0] [] (fun _:Unit=>(bu [I r],[])):=by
 unfold lC at h
 replace h:=ba h
 refine bX.of 87 Tryz.func21 rfl Tryz.ntmps21 rfl fun S w0=>?_
 refine sr ?_
 refine bx fun b1=>?_
 refine cq ?_
 refine nt ?_
 refine ag ?_
 refine sr ?_
 refine fl gd ?_
 refine lo cg ?_
 obtain⟨r2,TZ,h⟩:=aa h
 have T8:=ib k a0.1 1 6 r2 TZ
 refine jc (ap [.tmp 8,.const (.int .i64 (1)),.const (.int .i64 (6))] rfl rfl ES rfl T8) ?_
 refine ja (dT rfl) ?_
 refine nt ?_
 refine cw h (fun h=>?_) (fun h=>?_)
 ·
  refine sr (cq (nt (rx ?_)));cases h;exact ra
 ·
  refine sk (ag (sr (fl bU ?_)));refine lo fi ?_;refine ol mL ?_;refine jb (hC rfl) ?_;refine nt (ci h (fun h=>?_) (fun h=>?_))
  ·refine sr (cq (nt (rx ?_)));cases h;exact ra
  ·refine sk (dM (Z:=Unit) (α:=Unit) (fun z4 x3=>[(1,Pt b1)]) (fun z4 x3=>[.obj b1 25 (.rep av a0)]) (fun e=>e=r) h (fun e h=>Option.some.inj h) (fun K hR h=>?_) (fun z4 x3 h=>?_))
   ·refine sr (cq (nt (ao ?_)));refine aK (fun z6 y5=>[(1,Pt b1),(3,I y5)]) (fun z6 y5=>[.obj b1 25 (.rep av a0)]) (fU k a0) k () 0 (fun _=>rfl) h (SE.fin [0] ⟨rfl,rfl,trivial⟩ rfl) (fun n z6 y5 h=>?_);unfold fU at h;refine ag (sr (mq ?_));refine fl bU ?_;refine lo fi ?_;refine ol mL ?_;refine jb (bq rfl) ?_;refine nt (ci h (fun h=>?_) (fun h=>?_))
    ·refine sk (dM (Z:=Unit) (α:=Unit) (fun z8 x7=>[(1,Pt b1),(3,I y5)]) (fun z8 x7=>[.obj b1 25 (.rep av a0)]) (fun e=>e=r) h (fun e h=>hR e h) (fun K hR h=>?_) (fun z8 x7 h=>?_))
     ·refine ao (ag (sr (fl bU ?_)));refine lo fi ?_;refine mq ?_;obtain⟨x9,TY,h⟩:=aa h;refine jb (aC (t:=aY) rfl mL jQ TY) ?_;refine ja (aJ 1 false rfl kz rfl) ?_;refine ja (ak (t:=(.int .i64)) rfl cg rfl) ?_;obtain⟨TX,se,h⟩:=aa h;refine jc (ap [.tmp 27,.const (.int .i64 (1)),.const (.int .i64 (3))] rfl rfl ES rfl (ib k x9.1 1 3 TX se)) ?_;refine ja (dT rfl) ?_;refine nt (cw h (fun h=>?_) (fun h=>?_))
      ·refine sr (cq (nt (rx (br (bi (aV ?_))))));obtain rfl:=hR _ h;exact ra
      ·refine sk (sr (fl bU ?_));refine lo fi ?_;refine mq ?_;obtain⟨s,mc,h⟩:=aa h;refine jb (aC (t:=aY) rfl mL jQ mc) ?_;refine ja (aJ 1 false rfl jZ rfl) ?_;refine ja (ak (t:=(.slice (.int .i64))) rfl bQ rfl) ?_;refine aq (nt (sr ?_));refine cq (nt (ao ?_));refine aK (fun D c=>[(1,Pt b1),(3,I y5),(4,Ri s.2),(5,I c)]) (fun D c=>[.obj b1 25 (.rep av a0)]) (fS k a0 s) k () 0 (fun _=>rfl) h (SE.fin [0] ⟨rfl,rfl,rfl,rfl,trivial⟩ rfl) (fun n D c h=>?_);unfold fS at h;refine ag (sr ?_);iterate 2 refine mq ?_
       refine ol dC ?_;refine jb (bq rfl) ?_;refine nt (ci h (fun h=>?_) (fun h=>?_))
       ·refine sk (ag (ao (ag (ag (bI ?_)))));refine dm ?_;refine dm ?_;obtain⟨TR,ac,h⟩:=aa h;refine db (aC (t:=(.int .i64)) rfl dC cg ac) ?_;refine da (ak (t:=(.int .i64)) rfl cg rfl) ?_;refine da (ar rfl gd) ?_;refine ea 0 (aj rfl cg i9 rfl) ?_;obtain⟨TP,Y,h⟩:=aa h;refine db (fV rfl Y) ?_;refine df cz ?_;obtain⟨TU,qt,h⟩:=aa h;refine jc (ap [.tmp 45,.const (.int .i64 (0)),.tmp 48] rfl rfl ES rfl (ib k TR 0 TP TU qt)) ?_;refine ja (dT rfl) ?_;refine nt (cw h (fun h=>?_) (fun h=>?_))
        ·refine sr (cq (nt (rx (br (bi (br (bi (aV ?_))))))));obtain rfl:=hR _ h;exact ra
        ·refine sk (aN (Z:=Unit) (α:=Bool) (fun y l=>[(1,Pt b1),(3,I y5),(4,Ri s.2),(5,I c),(64,.eq (.bool l))]) (fun y l=>[.obj b1 25 (.rep av a0)]) h (fun K h=>?_) (fun y l h=>?_))
         ·refine bI ?_;refine dm ?_;refine db (hC rfl) ?_;refine j8 rfl rfl rfl (aH rfl) ⟨rfl,trivial⟩ (fun hb=>?_) (fun hb=>?_)
          ·replace h:=cE (ou hb) h;refine aL rfl rfl rfl rfl rfl (aH rfl) ⟨rfl,rfl,trivial⟩ ?_;refine aL rfl rfl rfl rfl rfl (aH rfl) ⟨rfl,rfl,trivial⟩ ?_;obtain⟨TO,X,h⟩:=aa h;refine aL rfl rfl rfl rfl rfl (aC (t:=(.int .i64)) rfl dC cg X) ⟨rfl,rfl,rfl,trivial⟩ ?_;refine aL rfl rfl rfl rfl rfl (ak (t:=(.int .i64)) rfl cg rfl) ⟨rfl,rfl,trivial⟩ ?_;refine aL rfl rfl rfl rfl rfl (aH rfl) ⟨rfl,rfl,trivial⟩ ?_;refine aL rfl rfl rfl rfl rfl (aH rfl) ⟨rfl,rfl,trivial⟩ ?_;obtain⟨T9,U,h⟩:=aa h;refine aL rfl rfl rfl rfl rfl (fV rfl U) ⟨rfl,rfl,rfl,trivial⟩ ?_;obtain⟨TN,Q,h⟩:=aa h;refine aL rfl rfl rfl rfl rfl (aC (t:=(.int .i64)) rfl dC cg Q) ⟨rfl,rfl,rfl,trivial⟩ ?_;refine aL rfl rfl rfl rfl rfl (ak (t:=(.int .i64)) rfl cg rfl) ⟨rfl,rfl,trivial⟩ ?_;refine df cz ?_;refine gb (vc rfl) ?_;refine pt (nl ?_);exact jz ((),decide (TO≤TN)) h [0]
          ·replace h:=bN (nw hb) h;iterate 9 refine dg ?_
           refine df cz ?_;refine gn ?_;refine pf (nl ?_);exact jz ((),false) h [0]
         ·refine cv h (fun h=>?_) (fun h=>?_)
          ·refine sr (cq (nt (ay (br (bi (br (bi (aV ?_))))))));obtain rfl:=hR _ h;exact ra
          ·refine aX (aM (tn (ab (mq ?_))));obtain⟨TM,O,h⟩:=aa h;refine jb (bf rfl O) ?_;refine aq (nl ?_);exact jz ((),TM) h [0]
       ·refine dH (aU (aU (bW (bn ?_))));exact jz ((),()) h [0]
     ·refine ab (mq ?_);obtain⟨TL,M,h⟩:=aa h;refine jb (bf rfl M) ?_;refine aq (nl ?_);exact jz ((),TL) h [0]
    ·refine xa ?_;exact jz ((),()) h [0]
   ·refine ag (sr (fl cI ?_));refine lo bQ ?_;refine ol dC ?_;refine jb (fW rfl) ?_;refine nt (ci h (fun h=>?_) (fun h=>?_))
    ·refine sr (cq (nt (rx ?_)));cases h;exact ra
    ·refine sk (ag (sr (fl cI ?_)));refine lo bQ ?_;refine ol dC ?_;refine jb (hC rfl) ?_;refine nt (ci h (fun h=>?_) (fun h=>?_))
     ·refine sr (cq (nt (rx ?_)));cases h;exact ra
     ·refine sk (dM (Z:=Unit) (α:=Unit) (fun x E=>[]) (fun x E=>[]) (fun e=>e=r) h (fun e h=>Option.some.inj h) (fun K hR h=>?_) (fun x E h=>?_))
      ·refine sr (cq (nt (ao ?_)));refine aK (fun u j=>[(1,Pt b1),(6,I j)]) (fun u j=>[.obj b1 25 (.rep av a0)]) (fR k a0) k () 0 (fun _=>rfl) h (SE.fin [0] ⟨rfl,rfl,trivial⟩ rfl) (fun n u j h=>?_);unfold fR at h;refine ag (sr (mq ?_));refine fl cI ?_;refine lo bQ ?_;refine ol dC ?_;refine jb (bq rfl) ?_;refine nt (ci h (fun h=>?_) (fun h=>?_))
       ·refine sk (ag (ao (sr (fl cI ?_))));refine lo bQ ?_;refine mq ?_;obtain⟨TK,J,h⟩:=aa h;refine jb (aC (t:=(.int .i64)) rfl dC cg J) ?_;refine ja (ak (t:=(.int .i64)) rfl cg rfl) ?_;obtain⟨TS,pp,h⟩:=aa h;refine jc (ap [.tmp 84,.const (.int .i64 (0)),.const (.int .i64 (9))] rfl rfl ES rfl (ib k TK 0 9 TS pp)) ?_;refine ja (dT rfl) ?_;refine nt (cw h (fun h=>?_) (fun h=>?_))
        ·refine sr (cq (nt (ay (br (bi (aV ?_))))));obtain rfl:=hR _ h;exact ra
        ·refine aX (aM (tn (ab (mq ?_))));obtain⟨TJ,F,h⟩:=aa h;refine jb (bf rfl F) ?_;refine aq (nl ?_);exact jz ((),TJ) h [0]
       ·refine xa ?_;exact jz ((),()) h []
      ·refine sr (cq (nt (ay ?_)));cases h;exact ra
def kN(k:Nat)(a0:aS)(a1:Int):Option Bool:=
 (ck ((a0.2.1.length:Int) - 1)).bind fun x2=>
 (f7 k a1 0 x2).bind fun r3=>
 some r3
theorem uM(k:Nat)(a0:aS)(a1:Int)(r:Bool)(h:kN k a0 a1=some r):
 bX Tryz.prog 65 [.rep av a0,I a1] [] (fun _:Unit=>(bu [.eq (.bool r)],[])):=by
 unfold kN at h
 replace h:=ba h
 refine bX.of 11 Tryz.func65 rfl Tryz.ntmps65 rfl fun S w0=>?_
 refine sr ?_
 refine bx fun b1=>?_
 refine cq ?_
 refine nt ?_
 refine sr ?_
 refine mq ?_
 refine fl bU ?_
 refine lo fi ?_
 refine ol mL ?_
 obtain⟨x2,c,h⟩:=aa h
 refine jb (fV rfl c) ?_
 obtain⟨r3,e,h⟩:=aa h
 have j:=ib k a1 0 x2 r3 e
 refine jc (ap [.tmp 5,.const (.int .i64 (0)),.tmp 9] rfl rfl ES rfl j) ?_
 refine aq ?_
 refine nt ?_
 refine ay ?_
 cases h
 exact ra
def iy(k:Nat)(a0:(List Int))(a1:Int):Nat→Int→Option (Except Bool Unit)
 |0,_=>none
 |n+1,y3=>
  if y3 < (a0.length:Int) then((aR a0 y3).bind fun x5=>
  if x5=a1 then(some (.error true)) else((ck (y3+1)).bind fun x6=>
  iy k a0 a1 n x6)) else(some (.ok ()))
def pH(k:Nat)(a0:(List Int))(a1:Int):Option Bool:=
 bE (α:=Unit) (iy k a0 a1 k 0) (some) fun _=>
 some false
theorem uN(k:Nat)(a0:(List Int))(a1:Int)(r:Bool)(h:pH k a0 a1=some r):
 bX Tryz.prog 66 [Ri a0,I a1] [] (fun _:Unit=>(bu [.eq (.bool r)],[])):=by
 unfold pH at h
 replace h:=ba h
 refine bX.of 18 Tryz.func66 rfl Tryz.ntmps66 rfl fun S w0=>?_
 refine sr ?_
 refine cq ?_
 refine nt ?_
 refine dM (Z:=Unit) (α:=Unit) (fun z2 x1=>[]) (fun z2 x1=>[]) (fun e=>e=r) h (fun e h=>Option.some.inj h) (fun K hR h=>?_) (fun z2 x1 h=>?_)
 ·
  refine sr (cq (nt (ao ?_)));refine aK (fun z4 y3=>[(0,Ri a0),(1,I a1),(5,I y3)]) (fun z4 y3=>[]) (iy k a0 a1) k () 0 (fun _=>rfl) h (SE.fin [] ⟨rfl,rfl,rfl,trivial⟩ rfl) (fun n z4 y3 h=>?_);unfold iy at h;refine ag (sr ?_);iterate 2 refine mq ?_
  refine ol dC ?_;refine jb (bq rfl) ?_;refine nt (ci h (fun h=>?_) (fun h=>?_))
  ·refine sk (ag (ao (sr ?_)));iterate 2 refine mq ?_
   obtain⟨x5,j,h⟩:=aa h;refine jb (aC (t:=(.int .i64)) rfl dC cg j) ?_;refine ja (ak (t:=(.int .i64)) rfl cg rfl) ?_;refine mq ?_;refine jb (fW rfl) ?_;refine nt (ci h (fun h=>?_) (fun h=>?_))
   ·refine sr (cq (nt (ay (br (bi (aV ?_))))));obtain rfl:=hR _ h;exact ra
   ·refine aX (aM (tn (ab (mq ?_))));obtain⟨x6,c,h⟩:=aa h;refine jb (bf rfl c) ?_;refine aq (nl ?_);exact jz ((),x6) h []
  ·refine xa ?_;exact jz ((),()) h []
 ·
  refine sr (cq (nt (ay ?_)));cases h;exact ra
def co(k:Nat)(a0:aS)(a1:(List (List Int)))(y5:(List Int)×Int):Nat→((List Int)×Int×Int)→Option (Except Int ((List Int)×Int))
 |0,_=>none
 |n+1,c=>
  (aR a1 y5.2).bind fun F=>
  if c.2.2 < (F.length:Int) then((aR a1 y5.2).bind fun E=>
  (aR E c.2.2).bind fun D=>
  (kN k a0 D).bind fun J=>
  if¬(J=true) then(some (.error 3)) else((aR a1 y5.2).bind fun y=>
  (aR y c.2.2).bind fun x=>
  (pH k c.1 x).bind fun I=>
  if I=true then(some (.error 4)) else((aR a1 y5.2).bind fun u=>
  (aR u c.2.2).bind fun e=>
  (dz (bL (List.length c.1+List.length [e]))).bind fun _=>
  (aR a1 y5.2).bind fun s=>
  (aR s c.2.2).bind fun r=>
  (aR a0.2.1 r).bind fun l=>
  (ck (c.2.1+l.1)).bind fun j=>
  (ck (c.2.2+1)).bind fun h=>
  co k a0 a1 y5 n (c.1++[e],j,h)))) else(some (.ok (c.1,c.2.1)))
def cF(k:Nat)(a0:aS)(a1:(List (List Int))):Nat→((List Int)×Int)→Option (Except Int (List Int))
 |0,_=>none
 |n+1,y5=>
  if y5.2 < (a1.length:Int) then(bE (α:=(List Int)) (bE (α:=(List Int)×Int) (co k a0 a1 y5 k (y5.1,0,0)) (fun e=>some (.error e)) fun x9=>
  (aR a0.2.2 y5.2).bind fun h=>
  if h < x9.2 then(some (.error 12)) else(some (.ok x9.1))) (fun e=>some (.error e)) fun x7=>
  (ck (y5.2+1)).bind fun c=>
  cF k a0 a1 n (x7,c)) else(some (.ok y5.1))
def dP(k:Nat)(a0:aS)(a1:(List (List Int))):Option Int:=
 (lC k a0).bind fun r2=>
 if¬(r2=0) then(some r2) else(if(a1.length:Int) < (a0.2.2.length:Int) then(some 7) else(if(a0.2.2.length:Int) < (a1.length:Int) then(some 6) else(bE (α:=(List Int)) (cF k a0 a1 k (([]:(List Int)),0)) (some) fun x3=>
 if(x3.length:Int) < (a0.2.1.length:Int) then(some 7) else(some 0))))
theorem ll(k:Nat)(a0:aS)(a1:(List (List Int)))(r:Int)(h:dP k a0 a1=some r):
 bX Tryz.prog 23 [.rep av a0,.rep (.slice (.slice (.int .i64))) a1] [] (fun _:Unit=>(bu [I r],[])):=by
 unfold dP at h
 replace h:=ba h
 refine bX.of 98 Tryz.func23 rfl Tryz.ntmps23 rfl fun S w0=>?_
 refine sr ?_
 refine bx fun b1=>?_
 refine cq ?_
 refine nt ?_
 refine ag ?_
 refine sr ?_
 refine lo dy ?_
 obtain⟨r2,Ur,h⟩:=aa h
 have Us:=rC k a0 r2 Ur
 refine ja (ap [.tmp 10] rfl rfl PY rfl Us) ?_
 refine aq ?_
 refine nt ?_
 refine sr ?_
 refine mq ?_
 refine jb (g9 rfl) ?_
 refine nt ?_
 refine cn h (fun h=>?_) (fun h=>?_)
 ·
  refine sr (mq ?_);refine aq (nt (rx ?_));cases h;exact ra
 ·
  refine sk (ag (sr (mq ?_)));refine ol mm ?_;refine fl cI ?_;refine lo bQ ?_;refine ol dC ?_;refine jb (bq rfl) ?_;refine nt (ci h (fun h=>?_) (fun h=>?_))
  ·refine sr (cq (nt (rx ?_)));cases h;exact ra
  ·refine sk (ag (sr (mq ?_)));refine ol mm ?_;refine fl cI ?_;refine lo bQ ?_;refine ol dC ?_;refine jb (hC rfl) ?_;refine nt (ci h (fun h=>?_) (fun h=>?_))
   ·refine sr (cq (nt (rx ?_)));cases h;exact ra
   ·refine sk (sr (cq (nt ?_)));refine dM (Z:=Value) (α:=(List Int)) (fun z4 x3=>[(2,Pt b1),(6,.eq z4)]) (fun z4 x3=>[.obj b1 25 (.rep av a0),.sl z4 3 (.int .i64) x3]) (fun e=>e=r) h (fun e h=>Option.some.inj h) (fun K hR h=>?_) (fun z4 x3 h=>?_)
    ·refine sr (cq (nt (ao ?_)));refine dJ (SE.nil 3 (.int .i64)) ?_;refine aK (fun z6 y5=>[(1,.rep (.slice (.slice (.int .i64))) a1),(2,Pt b1),(6,.eq z6),(7,I y5.2)]) (fun z6 y5=>[.obj b1 25 (.rep av a0),.sl z6 3 (.int .i64) y5.1]) (cF k a0 a1) k (.slice none 0 0) (([]:(List Int)),0) (fun _=>rfl) h (SE.fin [1,0] ⟨rfl,rfl,rfl,rfl,trivial⟩ rfl) (fun n z6 y5 h=>?_);unfold cF at h;refine ag (sr ?_);iterate 2 refine mq ?_
     refine ol mm ?_;refine jb (bq rfl) ?_;refine nt (ci h (fun h=>?_) (fun h=>?_))
     ·refine sk (dM (Z:=Value) (α:=(List Int)) (fun z8 x7=>[(1,.rep (.slice (.slice (.int .i64))) a1),(2,Pt b1),(6,.eq z8),(7,I y5.2)]) (fun z8 x7=>[.obj b1 25 (.rep av a0),.sl z8 3 (.int .i64) x7]) (fun e=>e=r) h (fun e h=>hR e h) (fun K hR h=>?_) (fun z8 x7 h=>?_))
      ·refine ao (sr (cq (nt ?_)));refine dM (Z:=Value) (α:=(List Int)×Int) (fun l x9=>[(1,.rep (.slice (.slice (.int .i64))) a1),(2,Pt b1),(6,.eq l),(7,I y5.2),(8,I x9.2)]) (fun l x9=>[.obj b1 25 (.rep av a0),.sl l 3 (.int .i64) x9.1]) (fun e=>e=r) h (fun e h=>hR e h) (fun K hR h=>?_) (fun l x9 h=>?_)
       ·refine sr (cq (nt (ao ?_)));refine aK (fun j c=>[(1,.rep (.slice (.slice (.int .i64))) a1),(2,Pt b1),(6,.eq j),(7,I y5.2),(8,I c.2.1),(9,I c.2.2)]) (fun j c=>[.obj b1 25 (.rep av a0),.sl j 3 (.int .i64) c.1]) (co k a0 a1 y5) k z6 (y5.1,0,0) (fun _=>rfl) h (SE.fin [0,1] ⟨rfl,rfl,rfl,rfl,rfl,rfl,trivial⟩ rfl) (fun n j c h=>?_);unfold co at h;refine ag (sr ?_);iterate 3 refine mq ?_
        obtain⟨UQ,TZ,h⟩:=aa h;refine jb (aC (t:=(.slice (.int .i64))) rfl mm bQ TZ) ?_;refine ja (ak (t:=(.slice (.int .i64))) rfl bQ rfl) ?_;refine ol dC ?_;refine jb (bq rfl) ?_;refine nt (ci h (fun h=>?_) (fun h=>?_))
        ·refine sk (ag (ao (ag (ag (bI ?_)))));refine ea 0 (aj rfl dy (tR) rfl) ?_;refine dm ?_;refine dm ?_;obtain⟨UP,TY,h⟩:=aa h;refine db (aC (t:=(.slice (.int .i64))) rfl mm bQ TY) ?_;refine da (ak (t:=(.slice (.int .i64))) rfl bQ rfl) ?_;refine dm ?_;obtain⟨Ue,TX,h⟩:=aa h;refine db (aC (t:=(.int .i64)) rfl dC cg TX) ?_;refine da (ak (t:=(.int .i64)) rfl cg rfl) ?_;refine df cz ?_;obtain⟨Ug,Ua,h⟩:=aa h;refine jb (ap [.tmp 42,.tmp 49] rfl rfl R9 rfl (uM k a0 Ue Ug Ua)) ?_;refine ja (dT rfl) ?_;refine nt (cw h (fun h=>?_) (fun h=>?_))
         ·refine sr (cq (nt (rx (br (bi (aV (br (bi (aV ?_)))))))));obtain rfl:=hR _ h;exact ra
         ·refine sk (ag (sr ?_));iterate 3 refine mq ?_
          obtain⟨UO,TU,h⟩:=aa h;refine jb (aC (t:=(.slice (.int .i64))) rfl mm bQ TU) ?_;refine ja (ak (t:=(.slice (.int .i64))) rfl bQ rfl) ?_;refine mq ?_;obtain⟨u,TS,h⟩:=aa h;refine jb (aC (t:=(.int .i64)) rfl dC cg TS) ?_;refine ja (ak (t:=(.int .i64)) rfl cg rfl) ?_;obtain⟨Uf,T9,h⟩:=aa h;refine fr 1 ?_;refine kb (vJ (N:=[(.tmp 52,.eq j),(.tmp 59,I u)]) (ap [.tmp 52,.tmp 59] rfl rfl PT rfl (uN k c.1 u Uf T9)) (fun _ _ _ hv hn=>⟨(lend hn.1 hv),hn.2.1,trivial⟩) (fun _=>⟨rfl,Ae⟩)) ?_;refine nt (cv h (fun h=>?_) (fun h=>?_))
          ·refine sr (cq (nt (rx (br (bi (aV (br (bi (aV ?_)))))))));obtain rfl:=hR _ h;exact ra
          ·refine sk (jj ?_);refine aI rfl rfl rfl (aH rfl) ⟨rfl,trivial⟩ ?_;refine aI rfl rfl rfl (aH rfl) ⟨rfl,trivial⟩ ?_;refine aI rfl rfl rfl (aH rfl) ⟨rfl,trivial⟩ ?_;obtain⟨UN,TR,h⟩:=aa h;refine aI rfl rfl rfl (aC (t:=(.slice (.int .i64))) rfl mm bQ TR) ⟨rfl,rfl,trivial⟩ ?_;refine aI rfl rfl rfl (ak (t:=(.slice (.int .i64))) rfl bQ rfl) ⟨rfl,trivial⟩ ?_;refine aI rfl rfl rfl (aH rfl) ⟨rfl,trivial⟩ ?_;obtain⟨s,TP,h⟩:=aa h;refine aI rfl rfl rfl (aC (t:=(.int .i64)) rfl dC cg TP) ⟨rfl,rfl,trivial⟩ ?_;refine aI rfl rfl rfl (ak (t:=(.int .i64)) rfl cg rfl) ⟨rfl,trivial⟩ ?_;refine aI rfl rfl rfl (bj (t:=(.int .i64)) [(.tmp 68,_)] [s] rfl rfl dB (.cons rfl .int .nil) rfl rfl) ⟨rfl,trivial⟩ ?_;obtain⟨Vi,T8,h⟩:=aa h;refine sw 0 rfl (fun v=>[.sl v 3 (.int .i64) (c.1++[s])]) (fun _=>rfl) rfl rfl rfl (bD rfl rfl dB (aB T8)) ⟨rfl,rfl,trivial⟩ ?_;refine aI rfl rfl rfl (aH rfl) ⟨rfl,trivial⟩ ?_;refine aI rfl rfl rfl (ar rfl bU) ⟨rfl,trivial⟩ ?_;refine dk 1 rfl rfl rfl rfl (aj rfl fi i9 rfl) ⟨rfl,trivial⟩ ?_;refine aI rfl rfl rfl (aH rfl) ⟨rfl,trivial⟩ ?_;refine aI rfl rfl rfl (aH rfl) ⟨rfl,trivial⟩ ?_;obtain⟨UM,TO,h⟩:=aa h;refine aI rfl rfl rfl (aC (t:=(.slice (.int .i64))) rfl mm bQ TO) ⟨rfl,rfl,trivial⟩ ?_;refine aI rfl rfl rfl (ak (t:=(.slice (.int .i64))) rfl bQ rfl) ⟨rfl,trivial⟩ ?_;refine aI rfl rfl rfl (aH rfl) ⟨rfl,trivial⟩ ?_;obtain⟨UL,TN,h⟩:=aa h;refine aI rfl rfl rfl (aC (t:=(.int .i64)) rfl dC cg TN) ⟨rfl,rfl,trivial⟩ ?_;refine aI rfl rfl rfl (ak (t:=(.int .i64)) rfl cg rfl) ⟨rfl,trivial⟩ ?_;obtain⟨UK,TM,h⟩:=aa h;refine aI rfl rfl rfl (aC (t:=aY) rfl mL jQ TM) ⟨rfl,rfl,trivial⟩ ?_;refine aI rfl rfl rfl (aJ 1 false rfl kz rfl) ⟨rfl,trivial⟩ ?_;refine aI rfl rfl rfl (ak (t:=(.int .i64)) rfl cg rfl) ⟨rfl,trivial⟩ ?_;obtain⟨Ud,TL,h⟩:=aa h;refine aI rfl rfl rfl (bf rfl TL) ⟨rfl,rfl,trivial⟩ ?_;refine mg 24 [true,true,true,true,true,true,true,true,true,true,false,false,false,false,false,false,false,false,false,false,false,false,false,false] [6] [1] [.obj b1 25 (.rep av a0)] rfl (by kernel_rfl) (by kernel_rfl) (by kernel_rfl) cz (fun vs hv hB=>?_);obtain⟨w0,Vh,rfl,Up⟩:=an hv;obtain⟨w1,Vg,rfl,Uo⟩:=an Up;obtain⟨w2,Vf,rfl,Un⟩:=an Uo;obtain⟨w3,Ve,rfl,Um⟩:=an Un;obtain⟨w4,Vd,rfl,Ul⟩:=an Um;obtain⟨w5,Vb,rfl,Uk⟩:=an Ul;obtain⟨w6,Va,rfl,Uj⟩:=an Uk;obtain⟨w7,U8,rfl,Ui⟩:=an Uj;obtain⟨w8,U7,rfl,Uh⟩:=an Ui;obtain⟨x,UI,rfl,qt⟩:=an Uh;obtain⟨U6,UH,rfl,pp⟩:=an qt;obtain⟨U4,UG,rfl,mc⟩:=an pp;obtain⟨U2,UF,rfl,ac⟩:=an mc;obtain⟨U1,UE,rfl,Y⟩:=an ac;obtain⟨U0,UD,rfl,X⟩:=an Y;obtain⟨UZ,UC,rfl,U⟩:=an X;obtain⟨UY,UB,rfl,Q⟩:=an U;obtain⟨UX,UA,rfl,O⟩:=an Q;obtain⟨UW,Uz,rfl,M⟩:=an O;obtain⟨UV,Uy,rfl,J⟩:=an M;obtain⟨UU,Ux,rfl,F⟩:=an J;obtain⟨UT,Uw,rfl,E⟩:=an F;obtain⟨US,Uu,rfl,D⟩:=an E;obtain⟨UR,Ut,rfl,y⟩:=an D;obtain rfl:=jW y;refine⟨[0,1],[.sl x 3 (.int .i64) (c.1++[s])],by kernel_rfl,by decide,?_⟩;refine px rfl rfl rfl rfl (fu rfl) ⟨rfl,trivial⟩ (by kernel_rfl) ?_;refine Cm (by kernel_rfl) ?_;refine aq (au (aM (tn (ab ?_))));refine mq ?_;obtain⟨Uc,TK,h⟩:=aa h
           refine jb (bf rfl TK) ?_;refine aq (nl ?_);exact jz (x,(c.1++[s],Ud,Uc)) h [0,1]
        ·refine xa ?_;exact jz (j,(c.1,c.2.1)) h [0,1]
       ·refine sr (mq ?_);refine fl cI ?_;refine lo bQ ?_;refine mq ?_;obtain⟨UJ,TJ,h⟩:=aa h;refine jb (aC (t:=(.int .i64)) rfl dC cg TJ) ?_;refine ja (ak (t:=(.int .i64)) rfl cg rfl) ?_;refine jb (hC rfl) ?_;refine nt (ci h (fun h=>?_) (fun h=>?_))
        ·refine sr (cq (nt (ay (br (bi (aV ?_))))));obtain rfl:=hR _ h;exact ra
        ·refine aX (bn ?_);exact jz (l,x9.1) h [0,1]
      ·refine ab (mq ?_);obtain⟨Ub,se,h⟩:=aa h;refine jb (bf rfl se) ?_;refine aq (nl ?_);exact jz (z8,(x7,Ub)) h [0,1]
     ·refine xa ?_;exact jz (z6,y5.1) h [0,1]
    ·refine ag (sr (mq ?_));refine fr 1 ?_;refine ka (c9 rfl rfl dC) ?_;refine fl bU ?_;refine fr 1 ?_;refine lo fi ?_;refine ol mL ?_;refine jb (bq rfl) ?_;refine nt (ci h (fun h=>?_) (fun h=>?_))
     ·refine sr (cq (nt (rx ?_)));cases h;exact ra
     ·refine sk (sr (cq (nt (ay ?_))));cases h;exact ra
def jC(k:Nat)(a0:aS)(a1:(List (List Int)))(a2:Bool):Option Int:=
 (dP k a0 a1).bind fun r2=>
 if¬(r2=0) then(some r2) else(if¬(a2=true) then(some 3) else(some 0))
theorem xG(k:Nat)(a0:aS)(a1:(List (List Int)))(a2:Bool)(r:Int)(h:jC k a0 a1 a2=some r):
 bX Tryz.prog 59 [.rep av a0,.rep (.slice (.slice (.int .i64))) a1,.eq (.bool a2)] [] (fun _:Unit=>(bu [I r],[])):=by
 unfold jC at h
 replace h:=ba h
 refine bX.of 16 Tryz.func59 rfl Tryz.ntmps59 rfl fun S w0=>?_
 refine sr ?_
 refine bx fun b1=>?_
 refine cq ?_
 refine nt ?_
 refine ag ?_
 refine sr ?_
 refine lo dy ?_
 refine mq ?_
 obtain⟨r2,c,h⟩:=aa h
 have e:=ll k a0 a1 r2 c
 refine jb (ap [.tmp 8,.tmp 9] rfl rfl PX rfl e) ?_
 refine aq ?_
 refine nt ?_
 refine sr ?_
 refine mq ?_
 refine jb (g9 rfl) ?_
 refine nt ?_
 refine cn h (fun h=>?_) (fun h=>?_)
 ·
  refine sr (mq ?_);refine aq (nt (rx ?_));cases h;exact ra
 ·
  refine sk (ag (sr (mq ?_)));refine ja (dT rfl) ?_;refine nt (cw h (fun h=>?_) (fun h=>?_))
  ·refine sr (cq (nt (rx ?_)));cases h;exact ra
  ·refine sk (sr (cq (nt (ay ?_))));cases h;exact ra
def oQ(k:Nat)(a0:aS)(a1:Int)(a2:Int):Option Bool:=
 (aR a0.2.1 a1).bind fun x2=>
 (pH k x2.2 a2).bind fun r3=>
 some r3
theorem zc(k:Nat)(a0:aS)(a1:Int)(a2:Int)(r:Bool)(h:oQ k a0 a1 a2=some r):
 bX Tryz.prog 131 [.rep av a0,I a1,I a2] [] (fun _:Unit=>(bu [.eq (.bool r)],[])):=by
 unfold oQ at h
 replace h:=ba h
 refine bX.of 15 Tryz.func131 rfl Tryz.ntmps131 rfl fun S w0=>?_
 refine sr ?_
 refine bx fun b1=>?_
 refine cq ?_
 refine nt ?_
 refine sr ?_
 refine fl bU ?_
 refine lo fi ?_
 refine mq ?_
 obtain⟨x2,c,h⟩:=aa h
 refine jb (aC (t:=aY) rfl mL jQ c) ?_
 refine ja (aJ 1 false rfl jZ rfl) ?_
 refine ja (ak (t:=(.slice (.int .i64))) rfl bQ rfl) ?_
 refine mq ?_
 obtain⟨r3,e,h⟩:=aa h
 have j:=uN k x2.2 a2 r3 e
 refine jb (ap [.tmp 12,.tmp 13] rfl rfl PT rfl j) ?_
 refine aq ?_
 refine nt ?_
 refine ay ?_
 cases h
 exact ra
def ju(k:Nat)(a0:aS)(a1:(List Int))(a2:Int):Nat→((List Int)×(List Int)×(List Int)×Int)→Option ((List Int)×(List Int)×(List Int))
 |0,_=>none
 |n+1,y4=>
  if y4.2.2.2 < (a1.length:Int) then((((aR a1 y4.2.2.2).bind fun x8=>
  (oQ k a0 x8 a2).bind fun r9=>
  if r9=true then((aR a1 y4.2.2.2).bind fun h=>
  (dz (bL (List.length y4.2.2.1+List.length [h]))).bind fun _=>
  some (y4.1,y4.2.1,y4.2.2.1++[h])) else((aR a1 y4.2.2.2).bind fun c=>
  (dz (bL (List.length y4.2.1+List.length [c]))).bind fun _=>
  if 0 < (y4.2.2.1.length:Int) then((aR a1 y4.2.2.2).bind fun e=>
  (dz (bL (List.length y4.1+List.length [e]))).bind fun _=>
  some (y4.1++[e],y4.2.1++[c],y4.2.2.1)) else(some (y4.1,y4.2.1++[c],y4.2.2.1)))):Option ((List Int)×(List Int)×(List Int))).bind fun x6=>
  (ck (y4.2.2.2+1)).bind fun j=>
  ju k a0 a1 a2 n (x6.1,x6.2.1,x6.2.2,j)) else(some (y4.1,y4.2.1,y4.2.2.1))
def rA(k:Nat)(a0:aS)(a1:(List Int))(a2:Int):Option ((List Int)×(List Int)):=
 ((ju k a0 a1 a2 k (([]:(List Int)),([]:(List Int)),([]:(List Int)),0)):Option ((List Int)×(List Int)×(List Int))).bind fun x2=>
 (dz (bL (List.length x2.2.1+List.length x2.2.2))).bind fun _=>
 some (x2.1,x2.2.1++x2.2.2)
theorem Bc(k:Nat)(a0:aS)(a1:(List Int))(a2:Int)(r:(List Int)×(List Int))(h:rA k a0 a1 a2=some r):
 bX Tryz.prog 101 [.rep av a0,Ri a1,I a2] [] (fun _:Unit=>(bu [Ri r.1,Ri r.2],[])):=by
 unfold rA at h
 replace h:=ba h
 refine bX.of 53 Tryz.func101 rfl Tryz.ntmps101 rfl fun S w0=>?_
 refine sr ?_
 refine bx fun b1=>?_
 refine cq ?_
 refine cq ?_
 refine nt ?_
 refine sr ?_
 refine cq ?_
 refine cq ?_
 refine cq ?_
 refine nt ?_
 refine aN (Z:=Value×Value×Value) (α:=(List Int)×(List Int)×(List Int)) (fun z3 x2=>[(8,.eq z3.1),(9,.eq z3.2.1),(10,.eq z3.2.2)]) (fun z3 x2=>[.sl z3.1 3 (.int .i64) x2.1,.sl z3.2.1 3 (.int .i64) x2.2.1,.sl z3.2.2 3 (.int .i64) x2.2.2]) h (fun K h=>?_) (fun z3 x2 h=>?_)
 ·
  refine sr (cq (nt (ao ?_)));refine dJ (SE.nil 3 (.int .i64)) ?_;refine dJ (SE.nil 3 (.int .i64)) ?_;refine dJ (SE.nil 3 (.int .i64)) ?_;refine aK (fun z5 y4=>[(1,Ri a1),(2,I a2),(3,Pt b1),(8,.eq z5.1),(9,.eq z5.2.1),(10,.eq z5.2.2),(11,I y4.2.2.2)]) (fun z5 y4=>[.obj b1 25 (.rep av a0),.sl z5.1 3 (.int .i64) y4.1,.sl z5.2.1 3 (.int .i64) y4.2.1,.sl z5.2.2 3 (.int .i64) y4.2.2.1]) (ju k a0 a1 a2) k ((.slice none 0 0),(.slice none 0 0),(.slice none 0 0)) (([]:(List Int)),([]:(List Int)),([]:(List Int)),0) (fun _=>rfl) h (SE.fin [3,2,1,0] ⟨rfl,rfl,rfl,rfl,rfl,rfl,rfl,trivial⟩ rfl) (fun n z5 y4 h=>?_);unfold ju at h;refine ag (sr ?_);iterate 2 refine mq ?_
  refine ol dC ?_;refine jb (bq rfl) ?_;refine nt (ci h (fun h=>?_) (fun h=>?_))
  ·refine sk (aN (Z:=Value×Value×Value) (α:=(List Int)×(List Int)×(List Int)) (fun z7 x6=>[(1,Ri a1),(2,I a2),(3,Pt b1),(8,.eq z7.1),(9,.eq z7.2.1),(10,.eq z7.2.2),(11,I y4.2.2.2)]) (fun z7 x6=>[.obj b1 25 (.rep av a0),.sl z7.1 3 (.int .i64) x6.1,.sl z7.2.1 3 (.int .i64) x6.2.1,.sl z7.2.2 3 (.int .i64) x6.2.2]) h (fun K h=>?_) (fun z7 x6 h=>?_))
   ·refine ao (ag (ag (bI ?_)));refine ea 0 (aj rfl dy (tR) rfl) ?_;refine dm ?_;refine dm ?_;obtain⟨x8,U,h⟩:=aa h;refine db (aC (t:=(.int .i64)) rfl dC cg U) ?_;refine da (ak (t:=(.int .i64)) rfl cg rfl) ?_;refine dm ?_;refine df cz ?_;obtain⟨r9,X,h⟩:=aa h;refine jc (ap [.tmp 18,.tmp 22,.tmp 23] rfl rfl Qa rfl (zc k a0 x8 a2 r9 X)) ?_;refine nt (cv h (fun h=>?_) (fun h=>?_))
    ·refine sr ?_;iterate 3 refine mq ?_
     obtain⟨j,y,h⟩:=aa h;refine jb (aC (t:=(.int .i64)) rfl dC cg y) ?_;refine ja (ak (t:=(.int .i64)) rfl cg rfl) ?_;refine ja (bj (t:=(.int .i64)) [(.tmp 29,_)] [j] rfl rfl dB (.cons rfl .int .nil) rfl rfl) ?_;obtain⟨qt,J,h⟩:=aa h;refine fr 3 ?_;refine cU rfl rfl rfl (bD rfl rfl dB (aB J)) ⟨rfl,rfl,trivial⟩ fun Q=>?_;refine aq (nt (dH (aU (bW (ae ?_)))));exact jz ((z5.1,z5.2.1,Q),(y4.1,y4.2.1,y4.2.2.1++[j])) h [1,2,3,0]
    ·refine sk (sr ?_);iterate 3 refine mq ?_
     obtain⟨c,x,h⟩:=aa h;refine jb (aC (t:=(.int .i64)) rfl dC cg x) ?_;refine ja (ak (t:=(.int .i64)) rfl cg rfl) ?_;refine ja (bj (t:=(.int .i64)) [(.tmp 36,_)] [c] rfl rfl dB (.cons rfl .int .nil) rfl rfl) ?_;obtain⟨pp,F,h⟩:=aa h;refine fr 2 ?_;refine cU rfl rfl rfl (bD rfl rfl dB (aB F)) ⟨rfl,rfl,trivial⟩ fun l=>?_;refine aq (nt (sr ?_));refine mq ?_;refine fr 3 ?_;refine ka (c9 rfl rfl dC) ?_;refine jb (hC rfl) ?_;refine nt (ci h (fun h=>?_) (fun h=>?_))
     ·refine ab ?_;iterate 3 refine mq ?_
      obtain⟨e,u,h⟩:=aa h;refine jb (aC (t:=(.int .i64)) rfl dC cg u) ?_;refine ja (ak (t:=(.int .i64)) rfl cg rfl) ?_;refine ja (bj (t:=(.int .i64)) [(.tmp 46,_)] [e] rfl rfl dB (.cons rfl .int .nil) rfl rfl) ?_;obtain⟨mc,E,h⟩:=aa h;refine fr 3 ?_;refine cU rfl rfl rfl (bD rfl rfl dB (aB E)) ⟨rfl,rfl,trivial⟩ fun O=>?_;refine aq (au (bn ?_));exact jz ((O,l,z5.2.2),(y4.1++[e],y4.2.1++[c],y4.2.2.1)) h [3,0,2,1]
     ·refine aX (bn ?_);exact jz ((z5.1,l,z5.2.2),(y4.1,y4.2.1++[c],y4.2.2.1)) h [2,3,1,0]
   ·refine ab (mq ?_);obtain⟨M,s,h⟩:=aa h;refine jb (bf rfl s) ?_;refine aq (nl ?_);exact jz ((z7.1,z7.2.1,z7.2.2),(x6.1,x6.2.1,x6.2.2,M)) h [0,1,2,3]
  ·refine xa ?_;exact jz ((z5.1,z5.2.1,z5.2.2),(y4.1,y4.2.1,y4.2.2.1)) h [1,2,3]
 ·
  refine sr ?_;iterate 3 refine mq ?_
  refine fr 2 ?_;refine cC (eJ [10,51] ⟨rfl,rfl,trivial⟩) ?_;obtain⟨ac,D,h⟩:=aa h;refine fr 1 ?_;refine cU rfl rfl rfl (bD rfl rfl dB (aB D)) ⟨rfl,rfl,trivial⟩ fun Y=>?_;refine aq ?_;refine aq (nt (ay ?_));refine dj 1 rfl ?_;refine bv (eJ [6,8,49] ⟨rfl,rfl,rfl,trivial⟩) ?_;refine bv (eJ [7,52] ⟨rfl,rfl,trivial⟩) ?_;cases h;exact rb
def iz(k:Nat)(e:(List Int)×(List Int)):Nat→((List Int)×Int)→Option (List Int)
 |0,_=>none
 |n+1,c=>
  if c.2 < (e.1.length:Int) then((aR e.1 c.2).bind fun h=>
  (aR e.1 c.2).bind fun s=>
  (aR c.1 s).bind fun r=>
  (ck (r+1)).bind fun l=>
  (aR c.1 h).bind fun u=>
  (ck (c.2+1)).bind fun j=>
  iz k e n (List.set c.1 (Int.toNat h) l,j)) else(some c.1)
def iC(k:Nat)(a0:aS)(y6:(List Int)×(List (List Int))×Int):Nat→((List Int)×(List (List Int))×Int)→Option ((List Int)×(List (List Int)))
 |0,_=>none
 |n+1,c=>
  if c.2.2 < (y6.2.1.length:Int) then((((aR y6.2.1 c.2.2).bind fun r=>
  (rA k a0 r y6.2.2).bind fun e=>
  ((iz k e k (c.1,0)):Option ((List Int))).bind fun l=>
  (dz (bL (List.length c.2.1+List.length [e.2]))).bind fun _=>
  some (l,c.2.1++[e.2])):Option ((List Int)×(List (List Int)))).bind fun h=>
  (ck (c.2.2+1)).bind fun j=>
  iC k a0 y6 n (h.1,h.2,j)) else(some (c.1,c.2.1))
def jD(k:Nat)(a0:aS)(a3:Int):Nat→((List Int)×(List (List Int))×Int)→Option ((List Int)×(List (List Int)))
 |0,_=>none
 |n+1,y6=>
  if y6.2.2 < a3 then(((((iC k a0 y6 k (y6.1,([]:(List (List Int))),0)):Option ((List Int)×(List (List Int)))).bind fun c=>
  some (c.1,c.2)):Option ((List Int)×(List (List Int)))).bind fun x8=>
  (ck (y6.2.2+1)).bind fun e=>
  jD k a0 a3 n (x8.1,x8.2,e)) else(some (y6.1,y6.2.1))
def oR(k:Nat)(a0:aS)(a1:(List (List Int)))(a2:Int)(a3:Int):Option ((List Int)×(List (List Int))):=
 (dz (0≤(a0.2.1.length:Int)∧bL (Int.toNat (a0.2.1.length:Int)))).bind fun _=>
 ((jD k a0 a3 k (List.replicate (Int.toNat (a0.2.1.length:Int)) 0,a1,a2)):Option ((List Int)×(List (List Int)))).bind fun x4=>
 some (x4.1,x4.2)
theorem zd(k:Nat)(a0:aS)(a1:(List (List Int)))(a2:Int)(a3:Int)(r:(List Int)×(List (List Int)))(h:oR k a0 a1 a2 a3=some r):
 bX Tryz.prog 61 [.rep av a0,.rep (.slice (.slice (.int .i64))) a1,I a2,I a3] [] (fun _:Unit=>(bu [Ri r.1,.rep (.slice (.slice (.int .i64))) r.2],[])):=by
 unfold oR at h
 replace h:=ba h
 refine bX.of 72 Tryz.func61 rfl Tryz.ntmps61 rfl fun S w0=>?_
 refine sr ?_
 refine bx fun b1=>?_
 refine cq ?_
 refine cq ?_
 refine nt ?_
 refine sr ?_
 refine fl bU ?_
 refine lo fi ?_
 refine ol mL ?_
 obtain⟨u2,se,h⟩:=aa h
 refine aF rfl rfl rfl (Bt (t:=(.int .i64)) (d:=0) rfl dB Tn (aB se).1 (aB se).2) ⟨rfl,rfl,trivial⟩ fun v3=>?_
 refine aq ?_
 refine nt ?_
 refine sr ?_
 refine mq ?_
 refine aq ?_
 refine nt ?_
 refine aN (Z:=Unit) (α:=(List Int)×(List (List Int))) (fun z5 x4=>[(10,.eq v3),(11,.rep (.slice (.slice (.int .i64))) x4.2)]) (fun z5 x4=>[.sl v3 3 (.int .i64) x4.1]) h (fun K h=>?_) (fun z5 x4 h=>?_)
 ·
  refine sr (mq ?_);refine aq (nt (ao ?_));refine aK (fun z7 y6=>[(3,I a3),(4,Pt b1),(10,.eq v3),(11,.rep (.slice (.slice (.int .i64))) y6.2.1),(12,I y6.2.2)]) (fun z7 y6=>[.obj b1 25 (.rep av a0),.sl v3 3 (.int .i64) y6.1]) (jD k a0 a3) k () (List.replicate (Int.toNat (a0.2.1.length:Int)) 0,a1,a2) (fun _=>rfl) h (SE.fin [1,0] ⟨rfl,rfl,rfl,rfl,rfl,trivial⟩ rfl) (fun n z7 y6 h=>?_);unfold jD at h;refine ag (sr ?_);iterate 2 refine mq ?_
  refine jb (bq rfl) ?_;refine nt (ci h (fun h=>?_) (fun h=>?_))
  ·refine sk (aN (Z:=Value) (α:=(List Int)×(List (List Int))) (fun z9 x8=>[(3,I a3),(4,Pt b1),(10,.eq v3),(11,.eq z9),(12,I y6.2.2)]) (fun z9 x8=>[.obj b1 25 (.rep av a0),.sl v3 3 (.int .i64) x8.1,.sl z9 23 (.slice (.int .i64)) x8.2]) h (fun K h=>?_) (fun z9 x8 h=>?_))
   ·refine ao (sr (cq (nt ?_)));refine aN (Z:=Value) (α:=(List Int)×(List (List Int))) (fun y u=>[(3,I a3),(4,Pt b1),(10,.eq v3),(12,I y6.2.2),(13,.eq y)]) (fun y u=>[.obj b1 25 (.rep av a0),.sl v3 3 (.int .i64) u.1,.sl y 23 (.slice (.int .i64)) u.2]) h (fun K h=>?_) (fun y u h=>?_)
    ·refine sr (cq (nt (ao ?_)));refine dJ (SE.nil 23 (.slice (.int .i64))) ?_;refine aK (fun e c=>[(3,I a3),(4,Pt b1),(10,.eq v3),(11,.rep (.slice (.slice (.int .i64))) y6.2.1),(12,I y6.2.2),(13,.eq e),(14,I c.2.2)]) (fun e c=>[.obj b1 25 (.rep av a0),.sl v3 3 (.int .i64) c.1,.sl e 23 (.slice (.int .i64)) c.2.1]) (iC k a0 y6) k (.slice none 0 0) (y6.1,([]:(List (List Int))),0) (fun _=>rfl) h (SE.fin [1,2,0] ⟨rfl,rfl,rfl,rfl,rfl,rfl,rfl,trivial⟩ rfl) (fun n e c h=>?_);unfold iC at h;refine ag (sr ?_);iterate 2 refine mq ?_
     refine ol mm ?_;refine jb (bq rfl) ?_;refine nt (ci h (fun h=>?_) (fun h=>?_))
     ·refine sk (aN (Z:=Value) (α:=(List Int)×(List (List Int))) (fun x s=>[(3,I a3),(4,Pt b1),(10,.eq v3),(11,.rep (.slice (.slice (.int .i64))) y6.2.1),(12,I y6.2.2),(13,.eq x),(14,I c.2.2)]) (fun x s=>[.obj b1 25 (.rep av a0),.sl v3 3 (.int .i64) s.1,.sl x 23 (.slice (.int .i64)) s.2]) h (fun K h=>?_) (fun x s h=>?_))
      ·refine ao (ag (bI ?_));refine ea 0 (aj rfl dy (tR) rfl) ?_;refine dm ?_;refine dm ?_;obtain⟨TP,pp,h⟩:=aa h;refine db (aC (t:=(.slice (.int .i64))) rfl mm bQ pp) ?_;refine da (ak (t:=(.slice (.int .i64))) rfl bQ rfl) ?_;refine dm ?_;obtain⟨j,TJ,h⟩:=aa h;refine dc (ap [.tmp 36,.tmp 40,.tmp 41] rfl rfl Ql rfl (Bc k a0 TP y6.2.2 j TJ)) ?_;refine dm ?_;refine da (de rfl rfl) ?_;refine da (de rfl rfl) ?_;refine da (fu rfl) ?_;refine df cz ?_;refine aq (nt ?_);refine aN (Z:=Unit) (α:=(List Int)) (fun M D=>[(3,I a3),(4,Pt b1),(10,.eq v3),(11,.rep (.slice (.slice (.int .i64))) y6.2.1),(12,I y6.2.2),(13,.eq e),(14,I c.2.2),(16,Ri j.2)]) (fun M D=>[.obj b1 25 (.rep av a0),.sl v3 3 (.int .i64) D,.sl e 23 (.slice (.int .i64)) c.2.1]) h (fun K h=>?_) (fun M D h=>?_)
       ·refine sr (cq (nt (ao ?_)));refine aK (fun J l=>[(3,I a3),(4,Pt b1),(10,.eq v3),(11,.rep (.slice (.slice (.int .i64))) y6.2.1),(12,I y6.2.2),(13,.eq e),(14,I c.2.2),(15,Ri j.1),(16,Ri j.2),(17,I l.2)]) (fun J l=>[.obj b1 25 (.rep av a0),.sl v3 3 (.int .i64) l.1,.sl e 23 (.slice (.int .i64)) c.2.1]) (iz k j) k () (c.1,0) (fun _=>rfl) h (SE.fin [0,1,2] ⟨rfl,rfl,rfl,rfl,rfl,rfl,rfl,rfl,rfl,rfl,trivial⟩ rfl) (fun n J l h=>?_);unfold iz at h;refine ag (sr ?_);iterate 2 refine mq ?_
        refine ol dC ?_;refine jb (bq rfl) ?_;refine nt (ci h (fun h=>?_) (fun h=>?_))
        ·refine sk (ag (ao (bI ?_)));refine dm ?_;refine dm ?_;refine dm ?_;obtain⟨O,mc,h⟩:=aa h;refine db (aC (t:=(.int .i64)) rfl dC cg mc) ?_;refine da (ak (t:=(.int .i64)) rfl cg rfl) ?_;refine dm ?_;refine dm ?_;refine dm ?_;obtain⟨TO,ac,h⟩:=aa h;refine db (aC (t:=(.int .i64)) rfl dC cg ac) ?_;refine da (ak (t:=(.int .i64)) rfl cg rfl) ?_;obtain⟨TU,F,h⟩:=aa h;refine eb 1 (aZ (t:=(.int .i64)) rfl dC cg F) ?_;refine ea 1 (dQ (i:=Int.toNat TO) (off:=0) rfl cg (fun _=>rfl) rfl (cy F).2.2 rfl) ?_;obtain⟨TN,Y,h⟩:=aa h;refine db (bf rfl Y) ?_;refine df cz ?_;obtain⟨TS,E,h⟩:=aa h;refine fr 1 ?_;refine kb (aZ (t:=(.int .i64)) rfl dC cg E) ?_;refine bh rfl rfl (cR (i:=Int.toNat O) rfl cg rfl (gW E) rfl .int rfl) ⟨rfl,rfl,trivial⟩ ?_;refine au (aM (tn (ab (mq ?_))));obtain⟨TM,X,h⟩:=aa h;refine jb (bf rfl X) ?_;refine aq (nl ?_);exact jz ((),(List.set l.1 (Int.toNat O) TN,TM)) h [1,0,2]
        ·refine xa ?_;exact jz ((),l.1) h [0,1,2]
       ·refine ab ?_;iterate 2 refine mq ?_
        refine ja (bj (t:=(.slice (.int .i64))) [(.tmp 66,_)] [j.2] rfl rfl oN (.cons rfl .rep .nil) rfl rfl) ?_;obtain⟨TX,qt,h⟩:=aa h;refine fr 2 ?_;refine cU rfl rfl rfl (bD rfl rfl oN (aB qt)) ⟨rfl,rfl,trivial⟩ fun TR=>?_;refine aq (au (bn ?_));exact jz (TR,(D,c.2.1++[j.2])) h [1,2,0]
      ·refine ab (mq ?_);obtain⟨TL,U,h⟩:=aa h;refine jb (bf rfl U) ?_;refine aq (nl ?_);exact jz (x,(s.1,s.2,TL)) h [0,1,2]
     ·refine xa ?_;exact jz (e,(c.1,c.2.1)) h [0,1,2]
    ·refine ab (mq ?_);refine aq (au (bn ?_));exact jz (y,(u.1,u.2)) h [0,1,2]
   ·refine ab (mq ?_);obtain⟨TK,Q,h⟩:=aa h;refine jb (bf rfl Q) ?_;refine aq (nl ?_);refine dj 2 rfl ?_;refine bv (eJ [11] ⟨rfl,trivial⟩) ?_;exact jz ((),(x8.1,x8.2,TK)) h [0,1]
  ·refine xa ?_;exact jz ((),(y6.1,y6.2.1)) h [1]
 ·
  refine sr ?_;iterate 2 refine mq ?_
  refine aq ?_;refine aq (nt (ay ?_));refine bv (eJ [8,10,70] ⟨rfl,rfl,rfl,trivial⟩) ?_;cases h;exact rb
def jv(k:Nat)(r5:(List Int)×(List (List Int))):Nat→((List Int)×Int)→Option (List Int)
 |0,_=>none
 |n+1,y8=>
  if y8.2 < (r5.1.length:Int) then((((aR r5.1 y8.2).bind fun e=>
  if 0 < e then((dz (bL (List.length y8.1+List.length [y8.2]))).bind fun _=>
  some (y8.1++[y8.2])) else(some y8.1)):Option ((List Int))).bind fun h=>
  (ck (y8.2+1)).bind fun c=>
  jv k r5 n (h,c)) else(some y8.1)
def nL(k:Nat)(a0:aS)(a1:(List (List Int)))(a2:Int):Option ((List Int)×(List (List Int))×Int):=
 (f7 k a2 0 (IntKind.i64.wrap (a0.1 - 1))).bind fun r2=>
 (jC k a0 a1 r2).bind fun r3=>
 if¬(r3=0) then(some ([],[],r3)) else((ck (a2+1)).bind fun x4=>
 (oR k a0 a1 a2 x4).bind fun r5=>
 ((jv k r5 k (([]:(List Int)),0)):Option ((List Int))).bind fun x6=>
 some (x6,r5.2,0))
theorem Bd(k:Nat)(a0:aS)(a1:(List (List Int)))(a2:Int)(r:(List Int)×(List (List Int))×Int)(h:nL k a0 a1 a2=some r):
 bX Tryz.prog 19 [.rep av a0,.rep (.slice (.slice (.int .i64))) a1,I a2] [] (fun _:Unit=>(bu [Ri r.1,.rep (.slice (.slice (.int .i64))) r.2.1,I r.2.2],[])):=by
 unfold nL at h
 replace h:=ba h
 refine bX.of 51 Tryz.func19 rfl Tryz.ntmps19 rfl fun S w0=>?_
 refine sr ?_
 refine bx fun b1=>?_
 refine cq ?_
 refine cq ?_
 refine cq ?_
 refine nt ?_
 refine ag ?_
 refine ag ?_
 refine bI ?_
 refine ea 0 (aj rfl dy (tR) rfl) ?_
 refine dm ?_
 refine dm ?_
 refine da (ar rfl gd) ?_
 refine ea 0 (aj rfl cg i9 rfl) ?_
 refine db (Bn rfl) ?_
 obtain⟨r2,J,h⟩:=aa h
 have O:=ib k a2 0 (IntKind.i64.wrap (a0.1 - 1)) r2 J
 refine dc (ap [.tmp 16,.const (.int .i64 (0)),.tmp 19] rfl rfl ES rfl O) ?_
 refine df cz ?_
 obtain⟨r3,F,h⟩:=aa h
 have M:=xG k a0 a1 r2 r3 F
 refine jc (ap [.tmp 14,.tmp 15,.tmp 20] rfl rfl Sm rfl M) ?_
 refine aq ?_
 refine nt ?_
 refine sr ?_
 refine mq ?_
 refine jb (g9 rfl) ?_
 refine nt ?_
 refine cn h (fun h=>?_) (fun h=>?_)
 ·
  refine sr (mq ?_);refine cq ?_;refine cq ?_;refine aq (nt (rx ?_));refine bv (mb (t:=(.slice (.int .i64))) (x:=[]) 6 rfl .nil rfl rfl) ?_;refine bv (mb (t:=(.slice (.slice (.int .i64)))) (x:=[]) 7 rfl .nil rfl rfl) ?_;cases h;exact aP () [_,_,_] 0 ⟨rfl,rfl,rfl,trivial⟩ rfl
 ·
  refine sk (sr (lo dy ?_));iterate 3 refine mq ?_
  obtain⟨x4,D,h⟩:=aa h;refine jb (bf rfl D) ?_;obtain⟨r5,E,h⟩:=aa h;refine aE rfl (ap [.tmp 26,.tmp 27,.tmp 28,.tmp 30] rfl rfl Sl rfl (zd k a0 a1 a2 x4 r5 E)) ⟨rfl,rfl,rfl,rfl,trivial⟩ ?_;refine mq ?_;refine xr ?_;refine xr ?_;refine aq ?_;refine aq (nt (sr ?_));refine cq (nt ?_);refine aN (Z:=Value) (α:=(List Int)) (fun z7 x6=>[(11,.rep (.slice (.slice (.int .i64))) r5.2),(12,.eq z7)]) (fun z7 x6=>[.sl z7 3 (.int .i64) x6]) h (fun K h=>?_) (fun z7 x6 h=>?_)
  ·refine sr (cq (nt (ao ?_)));refine dJ (SE.nil 3 (.int .i64)) ?_;refine aK (fun z9 y8=>[(10,Ri r5.1),(11,.rep (.slice (.slice (.int .i64))) r5.2),(12,.eq z9),(13,I y8.2)]) (fun z9 y8=>[.sl z9 3 (.int .i64) y8.1]) (jv k r5) k (.slice none 0 0) (([]:(List Int)),0) (fun _=>rfl) h (SE.fin [0] ⟨rfl,rfl,rfl,rfl,trivial⟩ rfl) (fun n z9 y8 h=>?_);unfold jv at h;refine ag (sr ?_);iterate 2 refine mq ?_
   refine ol dC ?_;refine jb (bq rfl) ?_;refine nt (ci h (fun h=>?_) (fun h=>?_))
   ·refine sk (aN (Z:=Value) (α:=(List Int)) (fun c e=>[(10,Ri r5.1),(11,.rep (.slice (.slice (.int .i64))) r5.2),(12,.eq c),(13,I y8.2)]) (fun c e=>[.sl c 3 (.int .i64) e]) h (fun K h=>?_) (fun c e h=>?_))
    ·refine ao (sr ?_);iterate 2 refine mq ?_
     obtain⟨Q,l,h⟩:=aa h;refine jb (aC (t:=(.int .i64)) rfl dC cg l) ?_;refine ja (ak (t:=(.int .i64)) rfl cg rfl) ?_;refine jb (hC rfl) ?_;refine nt (ci h (fun h=>?_) (fun h=>?_))
     ·refine ab ?_;iterate 2 refine mq ?_
      refine ja (bj (t:=(.int .i64)) [(.tmp 46,_)] [y8.2] rfl rfl dB (.cons rfl .int .nil) rfl rfl) ?_;obtain⟨U,s,h⟩:=aa h;refine cU rfl rfl rfl (bD rfl rfl dB (aB s)) ⟨rfl,rfl,trivial⟩ fun y=>?_;refine aq (au (bn ?_));exact jz (y,y8.1++[y8.2]) h [0]
     ·refine aX (bn ?_);exact jz (z9,y8.1) h [0]
    ·refine ab (mq ?_);obtain⟨u,j,h⟩:=aa h;refine jb (bf rfl j) ?_;refine aq (nl ?_);exact jz (c,(e,u)) h [0]
   ·refine xa ?_;exact jz (z9,y8.1) h [0]
  ·refine sr ?_;iterate 2 refine mq ?_
   refine aq ?_;refine aq ?_;refine cq (nt (ay ?_));refine bv (eJ [6,12,49] ⟨rfl,rfl,rfl,trivial⟩) ?_;cases h;exact aP () [_,_,_] 0 ⟨rfl,rfl,rfl,trivial⟩ rfl
def fj(k:Nat)(a0:aS)(a1:aS):Nat→Int→Option (Except Bool Unit)
 |0,_=>none
 |n+1,y8=>
  if y8 < (a0.2.1.length:Int) then((((aR a0.2.1 y8).bind fun l=>
  (aR a1.2.1 y8).bind fun j=>
  if¬(l.1=j.1) then(some true) else((aR a0.2.1 y8).bind fun h=>
  (aR a1.2.1 y8).bind fun e=>
  (dE k h.2 e.2).bind fun s=>
  some (!s))):Option (Bool)).bind fun r=>
  if r=true then(some (.error false)) else((ck (y8+1)).bind fun c=>
  fj k a0 a1 n c)) else(some (.ok ()))
def jd(k:Nat)(a0:aS)(a1:aS):Option Bool:=
 ((if¬(a0.1=a1.1) then(some true) else(if¬((a0.2.1.length:Int)=(a1.2.1.length:Int)) then(some true) else((dE k a0.2.2 a1.2.2).bind fun r5=>
 some (!r5)))):Option (Bool)).bind fun x3=>
 if x3=true then(some false) else(bE (α:=Unit) (fj k a0 a1 k 0) (some) fun _=>
 some true)
theorem te(k:Nat)(a0:aS)(a1:aS)(r:Bool)(h:jd k a0 a1=some r):
 bX Tryz.prog 26 [.rep av a0,.rep av a1] [] (fun _:Unit=>(bu [.eq (.bool r)],[])):=by
 unfold jd at h
 replace h:=ba h
 refine bX.of 64 Tryz.func26 rfl Tryz.ntmps26 rfl fun S w0=>?_
 refine sr ?_
 refine bx fun b1=>?_
 refine bx fun b2=>?_
 refine cq ?_
 refine nt ?_
 refine ag ?_
 refine aN (Z:=Unit) (α:=Bool) (fun z4 x3=>[(2,Pt b1),(3,Pt b2),(27,.eq (.bool x3))]) (fun z4 x3=>[.obj b1 25 (.rep av a0),.obj b2 25 (.rep av a1)]) h (fun K h=>?_) (fun z4 x3 h=>?_)
 ·
  refine ab (fl gd ?_);refine fr 1 ?_;refine lo cg ?_;refine fl gd ?_;refine fr 1 ?_;refine lo cg ?_;refine jb (g9 rfl) ?_;refine mq ?_;refine cp (s:=11) rfl (fun hb=>?_) (fun hb=>?_)
  ·replace h:=cE (IR hb) h;iterate 7 refine gn ?_
   refine pt ?_;refine mq ?_;iterate 6 refine gn ?_
   refine pt (nl ?_);exact jz ((),true) h [1,0]
  ·replace h:=bN (we hb) h;refine ga (ar rfl bU) ?_;refine fr 1 ?_;refine jy rfl rfl rfl rfl rfl rfl (aj rfl fi i9 rfl) ⟨rfl,trivial⟩ ?_;refine ga (jE rfl rfl mL) ?_;refine ga (ar rfl bU) ?_;refine fr 1 ?_;refine jy rfl rfl rfl rfl rfl rfl (aj rfl fi i9 rfl) ⟨rfl,trivial⟩ ?_;refine ga (jE rfl rfl mL) ?_;refine gb (g9 rfl) ?_;refine pf ?_;refine mq ?_;refine cp (s:=20) rfl (fun hb=>?_) (fun hb=>?_)
   ·replace h:=cE (IR hb) h;iterate 6 refine gn ?_
    refine pt (nl ?_);exact jz ((),true) h [1,0]
   ·replace h:=bN (we hb) h;refine ga (ar rfl cI) ?_;refine fr 1 ?_;refine jy rfl rfl rfl rfl rfl rfl (aj rfl bQ i9 rfl) ⟨rfl,trivial⟩ ?_;refine ga (ar rfl cI) ?_;refine fr 1 ?_;refine jy rfl rfl rfl rfl rfl rfl (aj rfl bQ i9 rfl) ⟨rfl,trivial⟩ ?_;obtain⟨r5,Q,h⟩:=aa h;refine gb (ap [.tmp 22,.tmp 24] rfl rfl EV rfl (fK k a0.2.2 a1.2.2 r5 Q)) ?_;refine ga (dT rfl) ?_;refine pf (nl ?_);exact jz ((), !r5) h [1,0]
 ·
  refine cv h (fun h=>?_) (fun h=>?_)
  ·refine sr (cq (nt (rx ?_)));cases h;exact ra
  ·refine sk (dM (Z:=Unit) (α:=Unit) (fun z7 x6=>[]) (fun z7 x6=>[]) (fun e=>e=r) h (fun e h=>Option.some.inj h) (fun K hR h=>?_) (fun z7 x6 h=>?_))
   ·refine sr (cq (nt (ao ?_)));refine aK (fun z9 y8=>[(2,Pt b1),(3,Pt b2),(5,I y8)]) (fun z9 y8=>[.obj b1 25 (.rep av a0),.obj b2 25 (.rep av a1)]) (fj k a0 a1) k () 0 (fun _=>rfl) h (SE.fin [0,1] ⟨rfl,rfl,rfl,trivial⟩ rfl) (fun n z9 y8 h=>?_);unfold fj at h;refine ag (sr (mq ?_));refine fl bU ?_;refine lo fi ?_;refine ol mL ?_;refine jb (bq rfl) ?_;refine nt (ci h (fun h=>?_) (fun h=>?_))
    ·refine sk (ag (ao (aN (Z:=Unit) (α:=Bool) (fun j c=>[(2,Pt b1),(3,Pt b2),(5,I y8),(63,.eq (.bool c))]) (fun j c=>[.obj b1 25 (.rep av a0),.obj b2 25 (.rep av a1)]) h (fun K h=>?_) (fun j c h=>?_))))
     ·refine bI ?_;refine da (ar rfl bU) ?_;refine ea 0 (aj rfl fi i9 rfl) ?_;refine dm ?_;obtain⟨X,E,h⟩:=aa h;refine db (aC (t:=aY) rfl mL jQ E) ?_;refine da (aJ 1 false rfl kz rfl) ?_;refine da (ak (t:=(.int .i64)) rfl cg rfl) ?_;refine da (ar rfl bU) ?_;refine ea 1 (aj rfl fi i9 rfl) ?_;refine dm ?_;obtain⟨U,D,h⟩:=aa h;refine db (aC (t:=aY) rfl mL jQ D) ?_;refine da (aJ 1 false rfl kz rfl) ?_;refine da (ak (t:=(.int .i64)) rfl cg rfl) ?_;refine db (g9 rfl) ?_;refine j8 rfl rfl rfl (aH rfl) ⟨rfl,trivial⟩ (fun hb=>?_) (fun hb=>?_)
      ·replace h:=cE (IR hb) h;iterate 12 refine dg ?_
       refine df cz ?_;iterate 2 refine gn ?_
       refine pt (nl ?_);exact jz ((),true) h [0,1]
      ·replace h:=bN (we hb) h;refine aL rfl rfl rfl rfl rfl (ar rfl bU) ⟨rfl,rfl,trivial⟩ ?_;refine iR 0 rfl rfl rfl rfl rfl rfl (aj rfl fi i9 rfl) ⟨rfl,rfl,trivial⟩ ?_;refine aL rfl rfl rfl rfl rfl (aH rfl) ⟨rfl,rfl,trivial⟩ ?_;obtain⟨O,y,h⟩:=aa h;refine aL rfl rfl rfl rfl rfl (aC (t:=aY) rfl mL jQ y) ⟨rfl,rfl,rfl,trivial⟩ ?_;refine aL rfl rfl rfl rfl rfl (aJ 1 false rfl jZ rfl) ⟨rfl,rfl,trivial⟩ ?_;refine aL rfl rfl rfl rfl rfl (ak (t:=(.slice (.int .i64))) rfl bQ rfl) ⟨rfl,rfl,trivial⟩ ?_;refine aL rfl rfl rfl rfl rfl (ar rfl bU) ⟨rfl,rfl,trivial⟩ ?_;refine iR 1 rfl rfl rfl rfl rfl rfl (aj rfl fi i9 rfl) ⟨rfl,rfl,trivial⟩ ?_;refine aL rfl rfl rfl rfl rfl (aH rfl) ⟨rfl,rfl,trivial⟩ ?_;obtain⟨M,x,h⟩:=aa h;refine aL rfl rfl rfl rfl rfl (aC (t:=aY) rfl mL jQ x) ⟨rfl,rfl,rfl,trivial⟩ ?_;refine aL rfl rfl rfl rfl rfl (aJ 1 false rfl jZ rfl) ⟨rfl,rfl,trivial⟩ ?_;refine aL rfl rfl rfl rfl rfl (ak (t:=(.slice (.int .i64))) rfl bQ rfl) ⟨rfl,rfl,trivial⟩ ?_;refine df cz ?_;obtain⟨l,F,h⟩:=aa h;refine gb (ap [.tmp 54,.tmp 60] rfl rfl EV rfl (fK k O.2 M.2 l F)) ?_;refine ga (dT rfl) ?_;refine pf (nl ?_);exact jz ((), !l) h [0,1]
     ·refine cv h (fun h=>?_) (fun h=>?_)
      ·refine sr (cq (nt (ay (br (bi (aV ?_))))));obtain rfl:=hR _ h;exact ra
      ·refine aX (aM (tn (ab (mq ?_))));obtain⟨J,u,h⟩:=aa h;refine jb (bf rfl u) ?_;refine aq (nl ?_);exact jz ((),J) h [0,1]
    ·refine xa ?_;exact jz ((),()) h []
   ·refine sr (cq (nt (ay ?_)));cases h;exact ra
end Go.Proofs.YtghkncjelangeaaGreatDoor
