import Derived.Test.YtcnpijmfgfnpiaaGreatDoorXKFacts
set_option linter.unusedSimpArgs false
set_option linter.unusedVariables false
set_option maxRecDepth 4000
set_option maxHeartbeats 1000000
namespace Go.Proofs.YtcnpijmfgfnpiaaGreatDoor
open K Go Go.Proofs
def dC(k:Nat)(a0:Int)(a1:Int)(a2:Int):Option Bool:=
 ((if a1≤a0 then(some (decide (a0≤a2))) else(some false)):Option (Bool)).bind fun x1=>
 some x1
theorem cT(k:Nat)(a0:Int)(a1:Int)(a2:Int)(r:Bool)(h:dC k a0 a1 a2=some r):
 cy Tryz.prog 83 [I a0,I a1,I a2] [] (fun _:Unit=>(bG [.eq (.bool r)],[])):=by
 unfold dC at h
 replace h:=bq h
 refine cy.of 15 Tryz.func83 rfl Tryz.ntmps83 rfl fun S w0=>?_
 refine sr ?_
 refine cq ?_
 refine nt ?_
 refine a9 (Z:=Unit) (α:=Bool) (fun z2 x1=>[(6,.eq (.bool x1))]) (fun z2 x1=>[]) h (fun K h=>?_) (fun z2 x1 h=>?_)
 ·
  refine ab ?_;iterate 2 refine mq ?_
  refine jb (tD rfl) ?_;refine mq ?_;refine aH (s:=10) rfl (fun hb=>?_) (fun hb=>?_)
  ·replace h:=bD (ln hb) h;refine gm ?_;refine gm ?_;refine gb (tD rfl) ?_;refine pt ?_;refine aq (nl ?_);exact jz ((),decide (a0≤a2)) h []
  ·replace h:=aP (kV hb) h;iterate 3 refine gn ?_
   refine pf ?_;refine aq (nl ?_);exact jz ((),false) h []
 ·
  refine aA ?_;cases h;exact ra
def fQ(k:Nat)(a0:bC)(a1:zh):Nat→Int→Option (Except Int Unit)
 |0,_=>none
 |n+1,y6=>
  if y6 < (a1.2.length:Int) then((cd a1.2 y6).bind fun x8=>
  (ck (a0.1 - 1)).bind fun x9=>
  (dC k x8 0 x9).bind fun l=>
  if¬(l=true) then(some (.error 1)) else(((if 0 < y6 then((ck (y6 - 1)).bind fun h=>
  (cd a1.2 h).bind fun e=>
  some (decide (x8≤e))) else(some false)):Option (Bool)).bind fun j=>
  if j=true then(some (.error 5)) else((ck (y6+1)).bind fun c=>
  fQ k a0 a1 n c))) else(some (.ok ()))
def jT(k:Nat)(a0:bC)(a1:zh):Option Int:=
 (dC k a1.1 1 3).bind fun r3=>
 if¬(r3=true) then(some 1) else(bE (α:=Unit) (fQ k a0 a1 k 0) (some) fun _=>
 some 0)
theorem oO(k:Nat)(a0:bC)(a1:zh)(r:Int)(h:jT k a0 a1=some r):
 cy Tryz.prog 92 [.rep aL a0,.rep c6 a1] [] (fun _:Unit=>(bG [I r],[])):=by
 unfold jT at h
 replace h:=bq h
 refine cy.of 38 Tryz.func92 rfl Tryz.ntmps92 rfl fun S w0=>?_
 refine sr ?_
 refine bx fun b1=>?_
 refine bx fun b2=>?_
 refine cq ?_
 refine nt ?_
 refine ag ?_
 refine sr ?_
 refine fl uP ?_
 refine lo d4 ?_
 obtain⟨r3,O,h⟩:=aa h
 have Q:=cT k a1.1 1 3 r3 O
 refine jc (aj [.tmp 8,.const (.int .i64 (1)),.const (.int .i64 (3))] rfl rfl tf rfl Q) ?_
 refine ja (dA rfl) ?_
 refine nt ?_
 refine cw h (fun h=>?_) (fun h=>?_)
 ·
  refine sr (cq (nt (rx ?_)));cases h;exact ra
 ·
  refine sk (fA (Z:=Unit) (α:=Unit) (fun z5 x4=>[]) (fun z5 x4=>[]) (fun e=>e=r) h (fun e h=>Option.some.inj h) (fun K hR h=>?_) (fun z5 x4 h=>?_))
  ·refine sr (fl uO ?_);refine lo dG ?_;refine ol fU ?_;refine de rfl ?_;refine nt (ao (aR (fun z7 y6=>[(2,Pt b1),(3,Pt b2),(12,Ri a1.2),(13,I (a1.2.length:Int)),(14,I y6)]) (fun z7 y6=>[.obj b1 25 (.rep aL a0),.obj b2 27 (.rep c6 a1)]) (fQ k a0 a1) k () 0 (fun _=>rfl) h (SE.fin [1,0] ⟨rfl,rfl,rfl,rfl,rfl,trivial⟩ rfl) (fun n z7 y6 h=>?_)));unfold fQ at h;refine sr (jb (bO rfl) ?_);refine nt (ag (ci h (fun h=>?_) (fun h=>?_)))
   ·refine sk (ag (ao (sr (mq ?_))));obtain⟨x8,M,h⟩:=aa h;refine jb (bH (t:=(.int .i64)) rfl fU d4 M) ?_;refine ja (au (t:=(.int .i64)) rfl d4 rfl) ?_;refine aq ?_;refine aq (nt (ag (sr ?_)));refine mq ?_;refine fl mb ?_;refine lo d4 ?_;obtain⟨x9,J,h⟩:=aa h;refine jb (gl rfl J) ?_;obtain⟨F,y,h⟩:=aa h;refine jc (aj [.tmp 19,.const (.int .i64 (0)),.tmp 22] rfl rfl tf rfl (cT k x8 0 x9 F y)) ?_;refine ja (dA rfl) ?_;refine nt (cw h (fun h=>?_) (fun h=>?_))
    ·refine sr (cq (nt (rx (br (bF (aW ?_))))));obtain rfl:=hR _ h;exact ra
    ·refine sk (a9 (Z:=Unit) (α:=Bool) (fun j c=>[(2,Pt b1),(3,Pt b2),(12,Ri a1.2),(13,I (a1.2.length:Int)),(14,I y6),(36,.eq (.bool c))]) (fun j c=>[.obj b1 25 (.rep aL a0),.obj b2 27 (.rep c6 a1)]) h (fun K h=>?_) (fun j c h=>?_))
     ·refine ab (mq ?_);refine jb (kP rfl) ?_;refine mq ?_;refine aH (s:=27) rfl (fun hb=>?_) (fun hb=>?_)
      ·replace h:=bD (ln hb) h;refine gm ?_;refine ga (aD rfl uO) ?_;refine fr 1 ?_;refine f7 rfl rfl rfl rfl rfl rfl (ap rfl dG np rfl) ⟨rfl,trivial⟩ ?_;refine gm ?_;obtain⟨U,x,h⟩:=aa h;refine gb (gl rfl x) ?_;obtain⟨E,u,h⟩:=aa h;refine gb (bH (t:=(.int .i64)) rfl fU d4 u) ?_;refine ga (au (t:=(.int .i64)) rfl d4 rfl) ?_;refine gb (tD rfl) ?_;refine pt (nl ?_);exact jz ((),decide (x8≤E)) h [1,0]
      ·replace h:=aP (kV hb) h;iterate 8 refine gn ?_
       refine pf (nl ?_);exact jz ((),false) h [0,1]
     ·refine cv h (fun h=>?_) (fun h=>?_)
      ·refine sr (cq (nt (aA (br (bF (aW ?_))))));obtain rfl:=hR _ h;exact ra
      ·refine aU (aI (tn (ab ?_)));obtain⟨D,l,h⟩:=aa h;refine jb (bM rfl l) ?_;refine mq (nl ?_);exact jz ((),D) h [0,1]
   ·refine xa ?_;exact jz ((),()) h []
  ·refine sr (cq (nt (aA ?_)));cases h;exact ra
def jB(k:Nat)(a0:bC):Nat→Int→Option (Except Int Unit)
 |0,_=>none
 |n+1,y5=>
  if y5 < (a0.2.1.length:Int) then((cd a0.2.1 y5).bind fun x7=>
  (jT k a0 x7).bind fun r9=>
  if¬(r9=0) then(some (.error r9)) else((ck (y5+1)).bind fun c=>
  jB k a0 n c)) else(some (.ok ()))
def jA(k:Nat)(a0:bC):Nat→Int→Option (Except Int Unit)
 |0,_=>none
 |n+1,c=>
  if c < (a0.2.2.length:Int) then((cd a0.2.2 c).bind fun h=>
  (dC k h 0 9).bind fun j=>
  if¬(j=true) then(some (.error 1)) else((ck (c+1)).bind fun e=>
  jA k a0 n e)) else(some (.ok ()))
def eQ(k:Nat)(a0:bC):Option Int:=
 (dC k a0.1 1 6).bind fun r2=>
 if¬(r2=true) then(some 1) else(if 5 < (a0.2.1.length:Int) then(some 6) else(bE (α:=Unit) (jB k a0 k 0) (some) fun _=>
 if(a0.2.2.length:Int) < 1 then(some 7) else(if 3 < (a0.2.2.length:Int) then(some 6) else(bE (α:=Unit) (jA k a0 k 0) (some) fun _=>
 some 0))))
theorem dI(k:Nat)(a0:bC)(r:Int)(h:eQ k a0=some r):
 cy Tryz.prog 33 [.rep aL a0] [] (fun _:Unit=>(bG [I r],[])):=by
 unfold eQ at h
 replace h:=bq h
 refine cy.of 51 Tryz.func33 rfl Tryz.ntmps33 rfl fun S w0=>?_
 refine sr ?_
 refine bx fun b1=>?_
 refine cq ?_
 refine nt ?_
 refine ag ?_
 refine sr ?_
 refine fl mb ?_
 refine lo d4 ?_
 obtain⟨r2,U,h⟩:=aa h
 have X:=cT k a0.1 1 6 r2 U
 refine jc (aj [.tmp 10,.const (.int .i64 (1)),.const (.int .i64 (6))] rfl rfl tf rfl X) ?_
 refine ja (dA rfl) ?_
 refine nt ?_
 refine cw h (fun h=>?_) (fun h=>?_)
 ·
  refine sr (cq (nt (rx ?_)));cases h;exact ra
 ·
  refine sk (ag (sr (fl ik ?_)));refine lo oS ?_;refine ol vt ?_;refine jb (kP rfl) ?_;refine nt (ci h (fun h=>?_) (fun h=>?_))
  ·refine sr (cq (nt (rx ?_)));cases h;exact ra
  ·refine sk (fA (Z:=Unit) (α:=Unit) (fun z4 x3=>[(1,Pt b1)]) (fun z4 x3=>[.obj b1 25 (.rep aL a0)]) (fun e=>e=r) h (fun e h=>Option.some.inj h) (fun K hR h=>?_) (fun z4 x3 h=>?_))
   ·refine sr (fl ik ?_);refine lo oS ?_;refine ol vt ?_;refine de rfl ?_;refine nt (ao (aR (fun z6 y5=>[(1,Pt b1),(18,Rs c6 a0.2.1),(19,I (a0.2.1.length:Int)),(20,I y5)]) (fun z6 y5=>[.obj b1 25 (.rep aL a0)]) (jB k a0) k () 0 (fun _=>rfl) h (SE.fin [0] ⟨rfl,rfl,rfl,rfl,trivial⟩ rfl) (fun n z6 y5 h=>?_)));unfold jB at h;refine sr (jb (bO rfl) ?_);refine nt (ag (ci h (fun h=>?_) (fun h=>?_)))
    ·refine sk (ag (ao (sr ?_)));obtain⟨x7,O,h⟩:=aa h;refine jb (bH (t:=c6) rfl vt pX O) ?_;refine ja (au (t:=c6) rfl pX rfl) ?_;refine ay rfl rfl rfl (ba rfl rE HW) trivial fun b8=>?_;refine aX rfl rfl (aO rfl pX rfl rfl rfl) ⟨rfl,rfl,trivial⟩ ?_;refine nt (sr (fr 1 ?_));refine lo fB ?_;refine fr 1 ?_;refine lo pX ?_;obtain⟨r9,Q,h⟩:=aa h;refine jb (aj [.tmp 24,.tmp 25] rfl rfl LL rfl (oO k a0 x7 r9 Q)) ?_;refine aq (nt (sr ?_));refine mq ?_;refine jb (cm rfl) ?_;refine nt (cn h (fun h=>?_) (fun h=>?_))
     ·refine sr (mq ?_);refine aq (nt (aA (br (bF (aW ?_)))));obtain rfl:=hR _ h;exact ra
     ·refine aU (aI (tn (ab ?_)));obtain⟨J,y,h⟩:=aa h;refine jb (bM rfl y) ?_;refine mq (nl ?_);exact jz ((),J) h [1]
    ·refine xa ?_;exact jz ((),()) h [0]
   ·refine ag (sr (fl ku ?_));refine lo dG ?_;refine ol fU ?_;refine aq (nt (ao (sr ?_)));refine mq ?_;refine jb (bO rfl) ?_;refine aq (nt ?_);refine ci h (fun h=>?_) (fun h=>?_)
    ·refine sr (cq (nt (aA (bF (aW ?_)))));cases h;exact ra
    ·refine sr (mq ?_);refine jb (kP rfl) ?_;refine aq (nt ?_);refine ci h (fun h=>?_) (fun h=>?_)
     ·refine sr (cq (nt (aA (bF (aW ?_)))));cases h;exact ra
     ·refine aU (aI (tn (fA (Z:=Unit) (α:=Unit) (fun l s=>[]) (fun l s=>[]) (fun e=>e=r) h (fun e h=>Option.some.inj h) (fun K hR h=>?_) (fun l s h=>?_))))
      ·refine sr (fl ku ?_);refine lo dG ?_;refine ol fU ?_;refine de rfl ?_;refine nt (ao (aR (fun j c=>[(41,Ri a0.2.2),(42,I (a0.2.2.length:Int)),(43,I c)]) (fun j c=>[]) (jA k a0) k () 0 (fun _=>rfl) h (SE.fin [] ⟨rfl,rfl,rfl,trivial⟩ rfl) (fun n j c h=>?_)));unfold jA at h;refine sr (jb (bO rfl) ?_);refine nt (ag (ci h (fun h=>?_) (fun h=>?_)))
       ·refine sk (ag (ao (sr ?_)));obtain⟨F,x,h⟩:=aa h;refine jb (bH (t:=(.int .i64)) rfl fU d4 x) ?_;refine ja (au (t:=(.int .i64)) rfl d4 rfl) ?_;refine aq (nt (sr ?_));refine mq ?_;obtain⟨M,D,h⟩:=aa h;refine jc (aj [.tmp 47,.const (.int .i64 (0)),.const (.int .i64 (9))] rfl rfl tf rfl (cT k F 0 9 M D)) ?_;refine ja (dA rfl) ?_;refine nt (cw h (fun h=>?_) (fun h=>?_))
        ·refine sr (cq (nt (aA (br (bF (aW ?_))))));obtain rfl:=hR _ h;exact ra
        ·refine aU (aI (tn (ab ?_)));obtain⟨E,u,h⟩:=aa h;refine jb (bM rfl u) ?_;refine mq (nl ?_);exact jz ((),E) h []
       ·refine xa ?_;exact jz ((),()) h []
      ·refine sr (cq (nt (aA ?_)));cases h;exact ra
def eA(k:Nat)(a0:Int)(a1:Int):Option Bool:=
 (fu (0≤a1)).bind fun _=>
 some (decide ((wL .u8 (ow .u8 a0 a1) 1)=1))
theorem eO(k:Nat)(a0:Int)(a1:Int)(r:Bool)(h:eA k a0 a1=some r):
 cy Tryz.prog 87 [.eq (.int .u8 a0),I a1] [] (fun _:Unit=>(bG [.eq (.bool r)],[])):=by
 unfold eA at h
 replace h:=bq h
 refine cy.of 10 Tryz.func87 rfl Tryz.ntmps87 rfl fun S w0=>?_
 refine sr ?_
 refine cq ?_
 refine nt ?_
 refine sr ?_
 iterate 2 refine mq ?_
 obtain⟨u1,c,h⟩:=aa h
 refine jb (yP rfl (aB c)) ?_
 refine jb (IS rfl) ?_
 refine jb (du rfl) ?_
 refine aq ?_
 refine nt ?_
 refine aA ?_
 cases h
 exact ra
def f9(k:Nat)(a0:Int)(a1:Int):Option Int:=
 (fu (0≤a1)).bind fun _=>
 some (Jl .u8 a0 (wI .u8 1 a1))
theorem gG(k:Nat)(a0:Int)(a1:Int)(r:Int)(h:f9 k a0 a1=some r):
 cy Tryz.prog 134 [.eq (.int .u8 a0),I a1] [] (fun _:Unit=>(bG [.eq (.int .u8 r)],[])):=by
 unfold f9 at h
 replace h:=bq h
 refine cy.of 9 Tryz.func134 rfl Tryz.ntmps134 rfl fun S w0=>?_
 refine sr ?_
 refine cq ?_
 refine nt ?_
 refine sr ?_
 iterate 2 refine mq ?_
 obtain⟨u1,c,h⟩:=aa h
 refine jb (Br rfl (aB c)) ?_
 refine jb (IQ rfl) ?_
 refine aq ?_
 refine nt ?_
 refine aA ?_
 cases h
 exact ra
def kJ(k:Nat)(a0:bC)(a1:(List Int)):Nat→(Int×Int)→Option Int
 |0,_=>none
 |n+1,y4=>
  if y4.2 < (a1.length:Int) then((cd a1 y4.2).bind fun x6=>
  (cd a0.2.1 x6).bind fun x7=>
  (ck (y4.1+x7.1)).bind fun x8=>
  (ck (y4.2+1)).bind fun x9=>
  kJ k a0 a1 n (x8,x9)) else(some y4.1)
def oK(k:Nat)(a0:bC)(a1:(List Int)):Option Int:=
 ((kJ k a0 a1 k (0,0)):Option (Int)).bind fun x2=>
 some x2
theorem qH(k:Nat)(a0:bC)(a1:(List Int))(r:Int)(h:oK k a0 a1=some r):
 cy Tryz.prog 135 [.rep aL a0,Ri a1] [] (fun _:Unit=>(bG [I r],[])):=by
 unfold oK at h
 replace h:=bq h
 refine cy.of 24 Tryz.func135 rfl Tryz.ntmps135 rfl fun S w0=>?_
 refine sr ?_
 refine bx fun b1=>?_
 refine cq ?_
 refine nt ?_
 refine sr ?_
 refine cq ?_
 refine nt ?_
 refine a9 (Z:=Unit) (α:=Int) (fun z3 x2=>[(5,I x2)]) (fun z3 x2=>[]) h (fun K h=>?_) (fun z3 x2 h=>?_)
 ·
  refine sr (mq ?_);refine ol fU ?_;refine de rfl ?_;refine nt (ao (aR (fun z5 y4=>[(2,Pt b1),(5,I y4.1),(8,Ri a1),(9,I (a1.length:Int)),(10,I y4.2)]) (fun z5 y4=>[.obj b1 25 (.rep aL a0)]) (kJ k a0 a1) k () (0,0) (fun _=>rfl) h (SE.fin [0] ⟨rfl,rfl,rfl,rfl,rfl,trivial⟩ rfl) (fun n z5 y4 h=>?_)));unfold kJ at h;refine sr (jb (bO rfl) ?_);refine nt (ag (ci h (fun h=>?_) (fun h=>?_)))
  ·refine sk (ag (ao (sr ?_)));obtain⟨x6,l,h⟩:=aa h;refine jb (bH (t:=(.int .i64)) rfl fU d4 l) ?_;refine ja (au (t:=(.int .i64)) rfl d4 rfl) ?_;refine aq (nt (ab ?_));refine mq ?_;refine fl ik ?_;refine lo oS ?_;refine mq ?_;obtain⟨x7,j,h⟩:=aa h;refine jb (bH (t:=c6) rfl vt pX j) ?_;refine ja (aN 1 false rfl uP rfl) ?_;refine ja (au (t:=(.int .i64)) rfl d4 rfl) ?_;obtain⟨x8,e,h⟩:=aa h;refine jb (bM rfl e) ?_;refine aq (an (aI (tn (ab ?_))));obtain⟨x9,c,h⟩:=aa h;refine jb (bM rfl c) ?_;refine mq (nl ?_);exact jz ((),(x8,x9)) h [0]
  ·refine xa ?_;exact jz ((),y4.1) h []
 ·
  refine sr (mq ?_);refine aq (nt (aA ?_));cases h;exact ra
def jr(k:Nat)(a0:bC)(x8:(List Int)):Nat→(Int×Int)→Option (Except Value Int)
 |0,_=>none
 |n+1,c=>
  if c.2 < (x8.length:Int) then((cd x8 c.2).bind fun e=>
  (ck ((a0.2.1.length:Int) - 1)).bind fun j=>
  (dC k e 0 j).bind fun s=>
  if¬(s=true) then(some (.error (.iface 118 (.agg #[.int .i64 3])))) else((eA k c.1 e).bind fun r=>
  if r=true then(some (.error (.iface 118 (.agg #[.int .i64 4])))) else((f9 k c.1 e).bind fun l=>
  (ck (c.2+1)).bind fun h=>
  jr k a0 x8 n (l,h)))) else(some (.ok c.1))
def jt(k:Nat)(a0:bC)(a1:(List (List Int))):Nat→(Int×Int)→Option (Except Value Int)
 |0,_=>none
 |n+1,y4=>
  if y4.2 < (a1.length:Int) then(bE (α:=Int) ((cd a1 y4.2).bind fun x8=>
  bE (α:=Int) (jr k a0 x8 k (y4.1,0)) (fun e=>some (.error e)) fun x9=>
  (oK k a0 x8).bind fun j=>
  (cd a0.2.2 y4.2).bind fun h=>
  if h < j then(some (.error (.iface 118 (.agg #[.int .i64 12])))) else(some (.ok x9))) (fun e=>some (.error e)) fun x6=>
  (ck (y4.2+1)).bind fun c=>
  jt k a0 a1 n (x6,c)) else(some (.ok y4.1))
def na(k:Nat)(a0:bC)(a1:(List (List Int))):Option Value:=
 if(a1.length:Int) < (a0.2.2.length:Int) then(some (.iface 118 (.agg #[.int .i64 7]))) else(if(a0.2.2.length:Int) < (a1.length:Int) then(some (.iface 118 (.agg #[.int .i64 6]))) else(bE (α:=Int) (jt k a0 a1 k (0,0)) (some) fun x2=>
 (fu (0≤(a0.2.1.length:Int))).bind fun _=>
 if¬(x2=(IntKind.u8.wrap ((wI .u8 1 (a0.2.1.length:Int)) - 1))) then(some (.iface 118 (.agg #[.int .i64 7]))) else(some (.nilIface))))
theorem oJ(k:Nat)(a0:bC)(a1:(List (List Int)))(r:Value)(h:na k a0 a1=some r):
 cy Tryz.prog 94 [.rep aL a0,.rep (.slice (.slice (.int .i64))) a1] [] (fun _:Unit=>(bG [.eq r],[])):=by
 unfold na at h
 replace h:=bq h
 refine cy.of 80 Tryz.func94 rfl Tryz.ntmps94 rfl fun S w0=>?_
 refine sr ?_
 refine bx fun b1=>?_
 refine cq ?_
 refine nt ?_
 refine ag ?_
 refine sr ?_
 refine fl ku ?_
 refine lo dG ?_
 refine ol fU ?_
 refine aq ?_
 refine nt ?_
 refine ao ?_
 refine sr ?_
 refine mq ?_
 refine ol nS ?_
 refine mq ?_
 refine jb (bO rfl) ?_
 refine aq ?_
 refine nt ?_
 refine ci h (fun h=>?_) (fun h=>?_)
 ·
  refine sr (ja (cK [(0,.const (.int .i64 (7)),_)] rfl tB rF qB (gy ⟨rfl,trivial⟩) rfl) ?_);refine ja (lG rfl Av) ?_;refine aq (nt (aA (bF (aW ?_))));cases h;exact ra
 ·
  refine sr (mq ?_);refine ol nS ?_;refine mq ?_;refine jb (kP rfl) ?_;refine aq (nt ?_);refine ci h (fun h=>?_) (fun h=>?_)
  ·refine sr (ja (cK [(0,.const (.int .i64 (6)),_)] rfl tB rF qB (gy ⟨rfl,trivial⟩) rfl) ?_);refine ja (lG rfl Av) ?_;refine aq (nt (aA (bF (aW ?_))));cases h;exact ra
  ·refine aU (aI (tn (sr (cq (nt ?_)))));refine fA (Z:=Unit) (α:=Int) (fun z3 x2=>[(2,Pt b1),(6,.eq (.int .u8 x2))]) (fun z3 x2=>[.obj b1 25 (.rep aL a0)]) (fun e=>e=r) h (fun e h=>Option.some.inj h) (fun K hR h=>?_) (fun z3 x2 h=>?_)
   ·refine sr (mq ?_);refine ol nS ?_;refine de rfl ?_;refine nt (ao (aR (fun z5 y4=>[(2,Pt b1),(6,.eq (.int .u8 y4.1)),(28,.rep (.slice (.slice (.int .i64))) a1),(29,I (a1.length:Int)),(30,I y4.2)]) (fun z5 y4=>[.obj b1 25 (.rep aL a0)]) (jt k a0 a1) k () (0,0) (fun _=>rfl) h (SE.fin [0] ⟨rfl,rfl,rfl,rfl,rfl,trivial⟩ rfl) (fun n z5 y4 h=>?_)));unfold jt at h;refine sr (jb (bO rfl) ?_);refine nt (ag (ci h (fun h=>?_) (fun h=>?_)))
    ·refine sk (fA (Z:=Unit) (α:=Int) (fun z7 x6=>[(2,Pt b1),(6,.eq (.int .u8 x6)),(28,.rep (.slice (.slice (.int .i64))) a1),(29,I (a1.length:Int)),(30,I y4.2)]) (fun z7 x6=>[.obj b1 25 (.rep aL a0)]) (fun e=>e=r) h (fun e h=>hR e h) (fun K hR h=>?_) (fun z7 x6 h=>?_))
     ·refine ao (sr (mq ?_));obtain⟨x8,se,h⟩:=aa h;refine jb (bH (t:=(.slice (.int .i64))) rfl nS dG se) ?_;refine ja (au (t:=(.slice (.int .i64))) rfl dG rfl) ?_;refine aq ?_;refine aq (nt ?_);refine fA (Z:=Unit) (α:=Int) (fun s x9=>[(2,Pt b1),(6,.eq (.int .u8 x9)),(7,I y4.2),(8,Ri x8),(28,.rep (.slice (.slice (.int .i64))) a1),(29,I (a1.length:Int)),(30,I y4.2)]) (fun s x9=>[.obj b1 25 (.rep aL a0)]) (fun e=>e=r) h (fun e h=>hR e h) (fun K hR h=>?_) (fun s x9 h=>?_)
      ·refine sr (mq ?_);refine ol fU ?_;refine de rfl ?_;refine nt (ao (aR (fun l c=>[(2,Pt b1),(6,.eq (.int .u8 c.1)),(7,I y4.2),(8,Ri x8),(28,.rep (.slice (.slice (.int .i64))) a1),(29,I (a1.length:Int)),(30,I y4.2),(35,Ri x8),(36,I (x8.length:Int)),(37,I c.2)]) (fun l c=>[.obj b1 25 (.rep aL a0)]) (jr k a0 x8) k () (y4.1,0) (fun _=>rfl) h (SE.fin [0] ⟨rfl,rfl,rfl,rfl,rfl,rfl,rfl,rfl,rfl,rfl,trivial⟩ rfl) (fun n l c h=>?_)));unfold jr at h;refine sr (jb (bO rfl) ?_);refine nt (ag (ci h (fun h=>?_) (fun h=>?_)))
       ·refine sk (ag (ao (sr ?_)));obtain⟨j,F,h⟩:=aa h;refine jb (bH (t:=(.int .i64)) rfl fU d4 F) ?_;refine ja (au (t:=(.int .i64)) rfl d4 rfl) ?_;refine aq (nt (ag (sr ?_)));refine mq ?_;refine fl ik ?_;refine lo oS ?_;refine ol vt ?_;obtain⟨ac,E,h⟩:=aa h;refine jb (gl rfl E) ?_;obtain⟨qt,U,h⟩:=aa h;refine jc (aj [.tmp 41,.const (.int .i64 (0)),.tmp 45] rfl rfl tf rfl (cT k j 0 ac qt U)) ?_;refine ja (dA rfl) ?_;refine nt (cw h (fun h=>?_) (fun h=>?_))
        ·refine sr (ja (cK [(0,.const (.int .i64 (3)),_)] rfl tB rF qB (gy ⟨rfl,trivial⟩) rfl) ?_);refine ja (lG rfl Av) ?_;refine aq (nt (rx (br (bF (aW (br (bF (aW ?_))))))));obtain rfl:=hR _ h;exact ra
        ·refine sk (ag (sr ?_));iterate 2 refine mq ?_
         obtain⟨pp,Q,h⟩:=aa h;refine jb (aj [.tmp 50,.tmp 51] rfl rfl Db rfl (eO k c.1 j pp Q)) ?_;refine nt (cv h (fun h=>?_) (fun h=>?_))
         ·refine sr (ja (cK [(0,.const (.int .i64 (4)),_)] rfl tB rF qB (gy ⟨rfl,trivial⟩) rfl) ?_);refine ja (lG rfl Av) ?_;refine aq (nt (rx (br (bF (aW (br (bF (aW ?_))))))));obtain rfl:=hR _ h;exact ra
         ·refine sk (ab ?_);iterate 2 refine mq ?_
          obtain⟨u,O,h⟩:=aa h;refine jb (aj [.tmp 55,.tmp 56] rfl rfl ze rfl (gG k c.1 j u O)) ?_;refine aq (an (aI (tn (ab ?_))));obtain⟨Y,D,h⟩:=aa h;refine jb (bM rfl D) ?_;refine mq (nl ?_);exact jz ((),(u,Y)) h [0]
       ·refine xa ?_;exact jz ((),c.1) h [0]
      ·refine ag (cX ?_);refine ea 0 (ap rfl fB (sS) rfl) ?_;refine dm ?_;obtain⟨mc,M,h⟩:=aa h;refine db (aj [.tmp 59,.tmp 60] rfl rfl Gm rfl (qH k a0 x8 mc M)) ?_;refine da (aD rfl ku) ?_;refine ea 0 (ap rfl dG np rfl) ?_;refine dm ?_;obtain⟨MX,y,h⟩:=aa h;refine db (bH (t:=(.int .i64)) rfl fU d4 y) ?_;refine da (au (t:=(.int .i64)) rfl d4 rfl) ?_;refine df gz ?_;refine jb (kP rfl) ?_;refine nt (ci h (fun h=>?_) (fun h=>?_))
       ·refine sr (ja (cK [(0,.const (.int .i64 (12)),_)] rfl tB rF qB (gy ⟨rfl,trivial⟩) rfl) ?_);refine ja (lG rfl Av) ?_;refine aq (nt (aA (br (bF (aW ?_)))));obtain rfl:=hR _ h;exact ra
       ·refine aU (bn ?_);exact jz ((),x9) h [0]
     ·refine ab ?_;obtain⟨X,x,h⟩:=aa h;refine jb (bM rfl x) ?_;refine mq (nl ?_);exact jz ((),(x6,X)) h [0]
    ·refine xa ?_;exact jz ((),y4.1) h [0]
   ·refine ag (sr (mq ?_));refine fl ik ?_;refine lo oS ?_;refine ol vt ?_;obtain⟨MY,J,h⟩:=aa h;refine jb (Br rfl (aB J)) ?_;refine jb (xW rfl) ?_;refine jb (cm rfl) ?_;refine nt (cn h (fun h=>?_) (fun h=>?_))
    ·refine sr (ja (cK [(0,.const (.int .i64 (7)),_)] rfl tB rF qB (gy ⟨rfl,trivial⟩) rfl) ?_);refine ja (lG rfl Av) ?_;refine aq (nt (rx ?_));cases h;exact ra
    ·refine sk (sr (cq (nt (aA ?_))));cases h;exact ra
def hQ(k:Nat)(a0:(List (List Int)))(y5:(List (List Int))×Int):Nat→((List (List Int))×Int)→Option (List (List Int))
 |0,_=>none
 |n+1,y9=>
  if y9.2 < 5 then((((fu (0≤y5.2∧y5.2 < 3)).bind fun _=>
  (cd y9.1 y5.2).bind fun c=>
  (fu (0≤y9.2∧y9.2 < 5)).bind fun _=>
  ((if y5.2 < (a0.length:Int) then((cd a0 y5.2).bind fun r=>
  some (decide (y9.2 < (r.length:Int)))) else(some false)):Option (Bool)).bind fun s=>
  if s=true then((cd a0 y5.2).bind fun l=>
  (cd l y9.2).bind fun j=>
  (fu (0≤y5.2∧y5.2 < 3)).bind fun _=>
  (cd (List.set y9.1 (Int.toNat y5.2) (List.set c (Int.toNat y9.2) (-1:Int))) y5.2).bind fun h=>
  (fu (0≤y9.2∧y9.2 < 5)).bind fun _=>
  some (List.set (List.set y9.1 (Int.toNat y5.2) (List.set c (Int.toNat y9.2) (-1:Int))) (Int.toNat y5.2) (List.set h (Int.toNat y9.2) j))) else(some (List.set y9.1 (Int.toNat y5.2) (List.set c (Int.toNat y9.2) (-1:Int))))):Option ((List (List Int)))).bind fun u=>
  (ck (y9.2+1)).bind fun e=>
  hQ k a0 y5 n (u,e)) else(some y9.1)
def ia(k:Nat)(a0:(List (List Int))):Nat→((List (List Int))×Int)→Option (List (List Int))
 |0,_=>none
 |n+1,y5=>
  if y5.2 < 3 then(((hQ k a0 y5 k (y5.1,0)):Option ((List (List Int)))).bind fun x7=>
  (ck (y5.2+1)).bind fun c=>
  ia k a0 n (x7,c)) else(some y5.1)
def cY(k:Nat)(a0:(List (List Int))):Option (List (List Int)):=
 ((ia k a0 k ([[0,0,0,0,0],[0,0,0,0,0],[0,0,0,0,0]],0)):Option ((List (List Int)))).bind fun x3=>
 some x3
theorem cE(k:Nat)(a0:(List (List Int)))(r:(List (List Int)))(h:cY k a0=some r):
 cy Tryz.prog 86 [.rep (.slice (.slice (.int .i64))) a0] [] (fun _:Unit=>(bG [.rep (.arr 3 (.arr 5 (.int .i64))) r],[])):=by
 unfold cY at h
 replace h:=bq h
 refine cy.of 43 Tryz.func86 rfl Tryz.ntmps86 rfl fun S w0=>?_
 refine sr ?_
 refine ay rfl rfl rfl (ba rfl iu ix) trivial fun b1=>?_
 refine nt ?_
 refine sr ?_
 refine ay rfl rfl rfl (ba rfl iu ix) trivial fun b2=>?_
 refine nt ?_
 refine a9 (Z:=Unit) (α:=(List (List Int))) (fun z4 x3=>[(2,Pt b1),(3,Pt b2)]) (fun z4 x3=>[.obj b1 107 (.rep (.arr 3 (.arr 5 (.int .i64))) [[0,0,0,0,0],[0,0,0,0,0],[0,0,0,0,0]]),.obj b2 107 (.rep (.arr 3 (.arr 5 (.int .i64))) x3)]) h (fun K h=>?_) (fun z4 x3 h=>?_)
 ·
  refine sr (de rfl ?_);refine nt (ao (aR (fun z6 y5=>[(0,.rep (.slice (.slice (.int .i64))) a0),(2,Pt b1),(3,Pt b2),(6,I y5.2)]) (fun z6 y5=>[.obj b1 107 (.rep (.arr 3 (.arr 5 (.int .i64))) [[0,0,0,0,0],[0,0,0,0,0],[0,0,0,0,0]]),.obj b2 107 (.rep (.arr 3 (.arr 5 (.int .i64))) y5.1)]) (ia k a0) k () ([[0,0,0,0,0],[0,0,0,0,0],[0,0,0,0,0]],0) (fun _=>rfl) h (SE.fin [1,0] ⟨rfl,rfl,rfl,rfl,trivial⟩ rfl) (fun n z6 y5 h=>?_)));unfold ia at h;refine sr (jb (bO rfl) ?_);refine nt (ag (ci h (fun h=>?_) (fun h=>?_)))
  ·refine sk (a9 (Z:=Unit) (α:=(List (List Int))) (fun z8 x7=>[(0,.rep (.slice (.slice (.int .i64))) a0),(2,Pt b1),(3,Pt b2),(6,I y5.2)]) (fun z8 x7=>[.obj b1 107 (.rep (.arr 3 (.arr 5 (.int .i64))) [[0,0,0,0,0],[0,0,0,0,0],[0,0,0,0,0]]),.obj b2 107 (.rep (.arr 3 (.arr 5 (.int .i64))) x7)]) h (fun K h=>?_) (fun z8 x7 h=>?_))
   ·refine ao (sr (mq ?_));refine aq (nt (sr ?_));refine de rfl ?_;refine nt (ao (aR (fun J y9=>[(0,.rep (.slice (.slice (.int .i64))) a0),(2,Pt b1),(3,Pt b2),(4,I y5.2),(6,I y5.2),(9,I y9.2)]) (fun J y9=>[.obj b1 107 (.rep (.arr 3 (.arr 5 (.int .i64))) [[0,0,0,0,0],[0,0,0,0,0],[0,0,0,0,0]]),.obj b2 107 (.rep (.arr 3 (.arr 5 (.int .i64))) y9.1)]) (hQ k a0 y5) k () (y5.1,0) (fun _=>rfl) h (SE.fin [0,1] ⟨rfl,rfl,rfl,rfl,rfl,rfl,trivial⟩ rfl) (fun n J y9 h=>?_)));unfold hQ at h;refine sr (jb (bO rfl) ?_);refine nt (ag (ci h (fun h=>?_) (fun h=>?_)))
    ·refine sk (a9 (Z:=Unit) (α:=(List (List Int))) (fun F l=>[(0,.rep (.slice (.slice (.int .i64))) a0),(2,Pt b1),(3,Pt b2),(4,I y5.2),(6,I y5.2),(9,I y9.2)]) (fun F l=>[.obj b1 107 (.rep (.arr 3 (.arr 5 (.int .i64))) [[0,0,0,0,0],[0,0,0,0,0],[0,0,0,0,0]]),.obj b2 107 (.rep (.arr 3 (.arr 5 (.int .i64))) l)]) h (fun K h=>?_) (fun F l h=>?_))
     ·refine ao (sr (mq ?_));refine aq (nt (sr ?_));iterate 2 refine mq ?_
      obtain⟨M6,x,h⟩:=aa h;refine jb (fg rfl Aw qL (aB x).1 (aB x).2) ?_;obtain⟨D,ac,h⟩:=aa h;obtain⟨M5,e,h⟩:=aa h;refine jb (fg rfl FD d4 (aB e).1 (aB e).2) ?_;refine fr 1 ?_;refine aX rfl rfl (lZ (t:=(.int .i64)) (off:=0) (i:=y5.2) (j:=y9.2) (N:=3) (L:=5) rfl d4 .int rfl rfl rfl rfl ac (aB e).1 (aB e).2 rfl) ⟨rfl,rfl,trivial⟩ ?_;refine nt (a9 (Z:=Unit) (α:=Bool) (fun E y=>[(0,.rep (.slice (.slice (.int .i64))) a0),(2,Pt b1),(3,Pt b2),(4,I y5.2),(5,I y9.2),(6,I y5.2),(9,I y9.2),(28,.eq (.bool y))]) (fun E y=>[.obj b1 107 (.rep (.arr 3 (.arr 5 (.int .i64))) [[0,0,0,0,0],[0,0,0,0,0],[0,0,0,0,0]]),.obj b2 107 (.rep (.arr 3 (.arr 5 (.int .i64))) (List.set y9.1 (Int.toNat y5.2) (List.set D (Int.toNat y9.2) (-1:Int))))]) h (fun K h=>?_) (fun E y h=>?_))
      ·refine ab ?_;iterate 2 refine mq ?_
       refine ol nS ?_;refine jb (bO rfl) ?_;refine mq ?_;refine aH (s:=20) rfl (fun hb=>?_) (fun hb=>?_)
       ·replace h:=bD (ln hb) h;refine gm ?_;refine gm ?_;refine gm ?_;obtain⟨MX,Y,h⟩:=aa h;refine gb (bH (t:=(.slice (.int .i64))) rfl nS dG Y) ?_;refine ga (au (t:=(.slice (.int .i64))) rfl dG rfl) ?_;refine ga (kg rfl rfl fU) ?_;refine gb (bO rfl) ?_;refine pt (nl ?_);exact jz ((),decide (y9.2 < (MX.length:Int))) h [1,0]
       ·replace h:=aP (kV hb) h;iterate 7 refine gn ?_
        refine pf (nl ?_);exact jz ((),false) h [1,0]
      ·refine cv h (fun h=>?_) (fun h=>?_)
       ·refine cX ?_;refine dm ?_;refine dm ?_;refine dm ?_;refine dm ?_;obtain⟨MY,X,h⟩:=aa h;refine db (bH (t:=(.slice (.int .i64))) rfl nS dG X) ?_;refine da (au (t:=(.slice (.int .i64))) rfl dG rfl) ?_;refine dm ?_;obtain⟨se,U,h⟩:=aa h;refine db (bH (t:=(.int .i64)) rfl fU d4 U) ?_;refine da (au (t:=(.int .i64)) rfl d4 rfl) ?_;obtain⟨M4,u,h⟩:=aa h;refine db (fg rfl Aw qL (aB u).1 (aB u).2) ?_;refine df gz ?_;obtain⟨qt,Q,h⟩:=aa h;obtain⟨MZ,c,h⟩:=aa h;refine jb (fg rfl FD d4 (aB c).1 (aB c).2) ?_;refine fr 1 ?_;refine aX rfl rfl (lZ (t:=(.int .i64)) (off:=0) (i:=y5.2) (j:=y9.2) (N:=3) (L:=5) rfl d4 .int rfl rfl rfl rfl Q (aB c).1 (aB c).2 rfl) ⟨rfl,rfl,trivial⟩ ?_;refine an (bn ?_);exact jz ((),List.set (List.set y9.1 (Int.toNat y5.2) (List.set D (Int.toNat y9.2) (-1:Int))) (Int.toNat y5.2) (List.set qt (Int.toNat y9.2) se)) h [1,0]
       ·refine aU (bn ?_);exact jz ((),List.set y9.1 (Int.toNat y5.2) (List.set D (Int.toNat y9.2) (-1:Int))) h [0,1]
     ·refine ab ?_;obtain⟨pp,O,h⟩:=aa h;refine jb (bM rfl O) ?_;refine mq (nl ?_);exact jz ((),(l,pp)) h [0,1]
    ·refine dM (aZ (aZ (bY (bn ?_))));exact jz ((),y9.1) h [0,1]
   ·refine ab ?_;obtain⟨mc,M,h⟩:=aa h;refine jb (bM rfl M) ?_;refine mq (nl ?_);exact jz ((),(x7,mc)) h [0,1]
  ·refine xa ?_;exact jz ((),y5.1) h [0,1]
 ·
  refine sr (fr 1 ?_);refine lo bW ?_;refine fr 1 ?_;refine aX rfl rfl (aO rfl bW rfl rfl rfl) ⟨rfl,rfl,trivial⟩ ?_;refine nt (aA ?_);obtain rfl:=Option.some.inj h;exact aC () [.rep (.arr 3 (.arr 5 (.int .i64))) x3] 0 ⟨⟨_,_,_,_,_,rfl,(.head _),bW,(sS),rfl⟩,trivial⟩ rfl
def gd(k:Nat)(x5:(List Int)):Nat→((List Int)×Int)→Option (List Int)
 |0,_=>none
 |n+1,y6=>
  if y6.2 < 5 then((((cd x5 y6.2).bind fun c=>
  if 0≤c then((fu (cg (List.length y6.1+List.length [c]))).bind fun _=>
  some (y6.1++[c])) else(some y6.1)):Option ((List Int))).bind fun x8=>
  (ck (y6.2+1)).bind fun e=>
  gd k x5 n (x8,e)) else(some y6.1)
def eG(k:Nat)(a0:(List (List Int)))(a1:Int):Option (List Int):=
 (((fu (0≤a1∧a1 < 3)).bind fun _=>
 (cd a0 a1).bind fun x5=>
 gd k x5 k (([]:(List Int)),0)):Option ((List Int))).bind fun x2=>
 some x2
theorem eP(k:Nat)(a0:(List (List Int)))(a1:Int)(r:(List Int))(h:eG k a0 a1=some r):
 cy Tryz.prog 110 [.rep (.arr 3 (.arr 5 (.int .i64))) a0,I a1] [] (fun _:Unit=>(bG [Ri r],[])):=by
 unfold eG at h
 replace h:=bq h
 refine cy.of 22 Tryz.func110 rfl Tryz.ntmps110 rfl fun S w0=>?_
 refine sr ?_
 refine bx fun b1=>?_
 refine cq ?_
 refine nt ?_
 refine sr ?_
 refine cq ?_
 refine nt ?_
 refine a9 (Z:=Value) (α:=(List Int)) (fun z3 x2=>[(5,.eq z3)]) (fun z3 x2=>[.sl z3 3 (.int .i64) x2]) h (fun K h=>?_) (fun z3 x2 h=>?_)
 ·
  refine sr (mq ?_);obtain⟨u4,l,h⟩:=aa h;refine jb (fg rfl Aw qL (aB l).1 (aB l).2) ?_;obtain⟨x5,y,h⟩:=aa h;refine ka (si (t:=(.arr 5 (.int .i64))) (off:=0) (i:=a1) (N:=3) rfl qL (sS) rfl rfl rfl rfl y) ?_;refine de rfl ?_;refine nt (ao (gr (SE.nil 3 (.int .i64)) ?_));refine aR (fun z7 y6=>[(5,.eq z7),(10,.rep (.arr 5 (.int .i64)) x5),(11,I y6.2)]) (fun z7 y6=>[.sl z7 3 (.int .i64) y6.1]) (gd k x5) k (.slice none 0 0) (([]:(List Int)),0) (fun _=>rfl) h (SE.fin [0] ⟨rfl,rfl,rfl,trivial⟩ rfl) (fun n z7 y6 h=>?_);unfold gd at h;refine sr (jb (bO rfl) ?_);refine nt (ag (ci h (fun h=>?_) (fun h=>?_)))
  ·refine sk (a9 (Z:=Value) (α:=(List Int)) (fun z9 x8=>[(5,.eq z9),(10,.rep (.arr 5 (.int .i64)) x5),(11,I y6.2)]) (fun z9 x8=>[.sl z9 3 (.int .i64) x8]) h (fun K h=>?_) (fun z9 x8 h=>?_))
   ·refine ao (sr ?_);obtain⟨c,j,h⟩:=aa h;refine jb (qN (t:=(.int .i64)) rfl FD d4 rfl rfl (fun _=>rfl) j) ?_;refine aq (nt (sr ?_));refine mq ?_;refine jb (mr rfl) ?_;refine nt (ci h (fun h=>?_) (fun h=>?_))
    ·refine ab ?_;iterate 2 refine mq ?_
     refine ja (aJ (t:=(.int .i64)) [(.tmp 17,_)] [c] rfl rfl cR (.cons rfl .int .nil) rfl rfl) ?_;obtain⟨D,s,h⟩:=aa h;refine eh rfl rfl rfl (cV rfl rfl cR (aB s)) ⟨rfl,rfl,trivial⟩ fun x=>?_;refine aq (an (bn ?_));exact jz (x,y6.1++[c]) h [0]
    ·refine aU (bn ?_);exact jz (z7,y6.1) h [0]
   ·refine ab ?_;obtain⟨u,e,h⟩:=aa h;refine jb (bM rfl e) ?_;refine mq (nl ?_);exact jz (z9,(x8,u)) h [0]
  ·refine xa ?_;exact jz (z7,y6.1) h [0]
 ·
  refine sr (mq ?_);refine aq (nt (aA ?_));refine bf (d6 [4,5,21] ⟨rfl,rfl,rfl,trivial⟩) ?_;cases h;exact ra
def dX{σ:Type}(k:Nat)(a1:(List Int))(Y:σ→(Int×Int)→Option (σ×Bool)):Nat→(Int×σ)→Option (σ)
 |0,_=>none
 |n+1,y2=>
  if 0≤y2.1 then((cd a1 y2.1).bind fun x4=>
  (Y y2.2 (y2.1,x4)).bind fun r5=>
  if¬(r5.2=true) then(some r5.1) else((ck (y2.1 - 1)).bind fun x7=>
  dX k a1 Y n (x7,r5.1))) else(some y2.2)
def gR{σ:Type}(k:Nat)(Y:σ→(Int×Int)→Option (σ×Bool))(a1:(List Int))(s0:σ):Option (σ):=
 (ck ((a1.length:Int) - 1)).bind fun x1=>
 dX k a1 Y k (x1,s0)
theorem mz{M:Md Tryz.prog}{σ Z:Type}(E:Z→σ→List D)(l:Nat)(Y:σ→(Int×Int)→Option (σ×Bool))(k:Nat)(a1:(List Int))(c:Nat)(hY:∀z s p r,Y s p=some r→YT M l [I p.1,I p.2] (E z s) (fun z':Z=>(.eq (.bool r.2),E z' r.1))):
 ∀(z0:Z) (s0:σ) (r:σ),gR k Y a1 s0=some r→cH M 208 [.eq (.func (.yield l) #[] #[]),Pt c] ([.obj c 23 (Ri a1)]++E z0 s0) (fun z:Z=>(bG [],[.obj c 23 (Ri a1)]++E z r)):=by
 intro z0 s0 r h
 unfold gR at h
 replace h:=bq h
 refine cH.of 19 Tryz.func208 rfl Tryz.ntmps208 rfl fun S w0=>?_
 refine sr ?_
 refine lo dG ?_
 refine ol fU ?_
 obtain⟨x1,u,h⟩:=aa h
 refine jb (gl rfl u) ?_
 refine aq ?_
 refine nt ?_
 refine ao ?_
 refine aR (Z:=Z) (α:=Int×σ) (fun z3 y2=>[(0,.eq (.func (.yield l) #[] #[])),(1,Pt c),(3,I y2.1)]) (fun z3 y2=>[.obj c 23 (Ri a1)]++E z3 y2.2) (dX k a1 Y) k z0 (x1,s0) (fun _=>rfl) h (bi [.obj c 23 (Ri a1)] (E z0 s0) [0] ⟨rfl,rfl,rfl,trivial⟩ rfl) (fun n z3 y2 h=>?_)
 unfold dX at h
 refine ag ?_
 refine sr ?_
 refine mq ?_
 refine jb (mr rfl) ?_
 refine nt ?_
 refine ci h (fun h=>?_) (fun h=>?_)
 ·
  refine sk (ag (ao (sr ?_)));iterate 2 refine mq ?_
  refine lo dG ?_;refine mq ?_;obtain⟨x4,j,h⟩:=aa h;refine jb (bH (t:=(.int .i64)) rfl fU d4 j) ?_;refine ja (au (t:=(.int .i64)) rfl d4 rfl) ?_;obtain⟨r5,x,h⟩:=aa h;refine m3 [.obj c 23 (Ri a1)] rfl rfl rfl (ux [.tmp 12,.tmp 16] rfl rfl rfl (hY z3 y2.2 (y2.1,x4) r5 x)) ⟨rfl,rfl,rfl,trivial⟩ fun z6=>?_;refine ja (dA rfl) ?_;refine nt (cw h (fun h=>?_) (fun h=>?_))
  ·refine aA (br (bF ?_));cases h;exact gj z6 [] trivial rfl
  ·refine aU (aI (tn (ab (mq ?_))));obtain⟨x7,e,h⟩:=aa h;refine jb (gl rfl e) ?_;refine aq (nl ?_);exact g9 (z6,(x7,r5.1)) h (bi [.obj c 23 (Ri a1)] (E z6 r5.1) [0] ⟨rfl,rfl,rfl,trivial⟩ rfl)
 ·
  refine dM (aZ (aZ (bY (gB ?_))));cases h;exact gj z3 [] trivial rfl
theorem nH(a0:(List Int)):cy Tryz.prog 190 [Ri a0] [] (fun z:Nat=>(bG [.eq (.func (.func 208) #[] #[(Pv z)])],[.obj z 23 (Ri a0)])):=by
 refine cy.of 4 Tryz.func190 rfl Tryz.ntmps190 rfl fun S w0=>?_;refine sr (bx fun z=>?_);refine cq (nt (sr ?_));refine ja (qh [] [.tmp 1] [] [(Pv z)] rfl rfl rfl) ?_;refine aq (nt (aA ?_));exact aC z [_] 1 ⟨rfl,trivial⟩ rfl
def rI(k:Nat)(a0:(List Int)):Option (List Int):=
 (gR k (mn (fun(y3:(List Int)) (p5:(Int×Int))=>
  some ((p5.2::y3),true))) a0 ([],false)).bind fun r6=>
 if r6.2=true then(none) else(some r6.1)
theorem vI(k:Nat)(a0:(List Int))(r:(List Int))(h:rI k a0=some r):
 cy Tryz.prog 157 [Ri a0] [] (fun _:Unit=>(bG [.rep (.lst (.int .i64)) r],[])):=by
 unfold rI at h
 replace h:=bq h
 refine vo 15 Tryz.func157 rfl Tryz.ntmps157 rfl fun {M} S w0=>?_
 refine sr ?_
 refine cq ?_
 refine nt ?_
 refine sr ?_
 refine ay rfl rfl rfl (ba rfl Il Kz) trivial fun b1=>?_
 refine nt ?_
 refine ag ?_
 refine sr ?_
 refine mq ?_
 refine ay rfl rfl rfl (aj [.tmp 6] rfl rfl JV rfl (nH a0)) ⟨rfl,trivial⟩ fun b2=>?_
 refine nt ?_
 refine ao ?_
 refine cC 1 rfl ?_
 refine gr (nz (a:=.eq (.pointer none)) (a':=.rep (.lst (.int .i64)) []) (vp .lnil)) ?_
 refine cC 1 rfl ?_
 obtain⟨r6,c,h⟩:=aa h
 refine ip (Δ:=[.obj b2 23 (Ri a0),.obj b1 216 (.rep (.lst (.int .i64)) [])]) (F:=[]) (X:=Unit) (J:=fun _=>yi r6.2) (E:=fun z4=>[.obj b2 23 (Ri a0),.obj b1 216 (.rep (.lst (.int .i64)) r6.1)]) (r0:=fun _=>.tup .any) rfl rfl JQ (fun rec hp ha hb hs hpe hN hv l=>?_) (fun dl z4=>jW (fun hj=>?_) (fun hj=>?_))
 ·
  rcases rec with⟨st0,pe0,fn0,tm0,ps0,as0,bd0,df0⟩;dsimp only at hp ha hb hs hpe hN hv;subst hp hs hpe;have vN:qC tm0 [(3,Pt b1)]:=⟨congrArg A.eq (hv 3 _ rfl).symm,trivial⟩;refine cH.pick (M:=M) [1,0,2] [1,0,2] (mz (fun(z4:Unit) (q:(List Int)×Bool)=>[.raw l (.loop (fJ ⟨.ready,none,fn0,tm0, #[8,9],as0,bd0,df0⟩ (yi q.2))),.obj b1 216 (.rep (.lst (.int .i64)) q.1)]) l (mn (fun(y3:(List Int)) (p5:(Int×Int))=>
  some ((p5.2::y3),true))) k a0 b2 (fun z4 q p r' h=>?_) () ([],false) r6 c) rfl (fun _=>rfl) (fun _=>rfl)
  obtain⟨rq,hq,h2,rfl⟩:=jX h;obtain⟨y3,b5⟩:=q;obtain rfl:b5=false:=hq;replace h:=bq h2;obtain⟨p5,hpv⟩:∃x,x=p:=⟨_,rfl⟩;subst hpv;refine YT.pick (R':=(fun z4:Unit=>(.eq (.bool rq.2),[.raw l (.loop (fJ ⟨.ready,none,fn0,tm0, #[8,9],as0,bd0,df0⟩ (yi (!rq.2)))),.obj b1 216 (.rep (.lst (.int .i64)) rq.1)]))) [0,1] [0,1] (FC ha hb (N:=15) (Γ:=[(3,Pt b1)]) rfl hN (by decide) vN (fun S w=>?_)) rfl (fun _=>rfl) (fun _=>rfl);refine ab (aq (nl ?_));refine m4 rfl rfl ?_;refine ao (ab (mq ?_));refine fr 1 ?_;refine lo vK ?_;refine jb (cK [(0,.tmp 10,_),(1,.tmp 11,_)] rfl IM Ik HU (gy ⟨rfl,rfl,trivial⟩) rfl) ?_;refine ay rfl rfl rfl (mL rfl trivial) ⟨rfl,trivial⟩ fun b7=>?_;refine bX (jM (t:=A5) (x:=(p5.2,y3)) [13] (.agg (.pair .int .rep)) ⟨rfl,trivial⟩) ?_;refine aX rfl rfl (aO rfl vK trivial rfl rfl) ⟨rfl,rfl,trivial⟩ ?_;refine an (aI (bf (nz (a:=.at A5 (p5.2,y3)) (a':=.rep (.lst (.int .i64)) (p5.2::y3)) (vp .lcons)) ?_));refine aE 1 rfl ?_;cases h;exact g8 () 1 rfl
 ·
  replace h:=aP (xC hj) h;refine aI (tn (sr (fr 2 ?_)));refine lo vK ?_;refine aq (nt (aA ?_));refine aE 1 rfl ?_;refine nB ?_;cases h;exact ra
 ·
  replace h:=bD (xB hj) h;cases h
def iR(k:Nat)(a1:Int):Nat→(Int×(List Int)×(List Int)×(List Int))→Option (Int×(List Int))
 |0,_=>none
 |n+1,y2=>
  if List.isEmpty y2.2.2.2=true then((fu (cg (List.length y2.2.2.1+List.length y2.2.1))).bind fun _=>
  some (y2.1,y2.2.2.1++y2.2.1)) else((nU y2.2.2.2).bind fun x6=>
  (eA k a1 x6.1).bind fun r7=>
  if r7=true then((nU y2.2.2.2).bind fun x8=>
  (fu (cg (List.length y2.2.1+List.length [x8.1]))).bind fun _=>
  (nU y2.2.2.2).bind fun l=>
  iR k a1 n (y2.1,y2.2.1++[x8.1],y2.2.2.1,l.2)) else(((if 0 < (y2.2.1.length:Int) then((nU y2.2.2.2).bind fun h=>
  (f9 k y2.1 h.1).bind fun r=>
  some r) else(some y2.1)):Option (Int)).bind fun j=>
  (nU y2.2.2.2).bind fun c=>
  (fu (cg (List.length y2.2.2.1+List.length [c.1]))).bind fun _=>
  (nU y2.2.2.2).bind fun e=>
  iR k a1 n (j,y2.2.1,y2.2.2.1++[c.1],e.2)))
def oL(k:Nat)(a0:(List Int))(a1:Int):Option (Int×(List Int)):=
 (rI k a0).bind fun r1=>
 iR k a1 k (0,([]:(List Int)),([]:(List Int)),r1)
theorem qI(k:Nat)(a0:(List Int))(a1:Int)(r:Int×(List Int))(h:oL k a0 a1=some r):
 cy Tryz.prog 127 [Ri a0,.eq (.int .u8 a1)] [] (fun _:Unit=>(bG [.eq (.int .u8 r.1),Ri r.2],[])):=by
 unfold oL at h
 replace h:=bq h
 refine cy.of 54 Tryz.func127 rfl Tryz.ntmps127 rfl fun S w0=>?_
 refine sr ?_
 refine cq ?_
 refine cq ?_
 refine nt ?_
 refine uf rfl (me (by kernel_rfl) (me (by kernel_rfl) (C3 C0))) ?_
 refine sr ?_
 refine cq ?_
 refine cq ?_
 refine nt ?_
 refine sr ?_
 refine mq ?_
 obtain⟨r1,mc,h⟩:=aa h
 have pp:=vI k a0 r1 mc
 refine ja (aj [.tmp 9] rfl rfl J0 rfl pp) ?_
 refine aq ?_
 refine nt ?_
 refine ag ?_
 refine xk ?_
 refine tn ?_
 refine gr (SE.nil 3 (.int .i64)) ?_
 refine gr (SE.nil 3 (.int .i64)) ?_
 refine yD (Z:=Value×Value) (α:=Int×(List Int)×(List Int)×(List Int)) rfl (fun z3 y2=>[(1,.eq (.int .u8 a1)),(4,.eq (.int .u8 y2.1)),(6,.eq z3.1),(7,.eq z3.2),(8,.rep (.lst (.int .i64)) y2.2.2.2)]) (fun z3 y2=>[.sl z3.1 3 (.int .i64) y2.2.1,.sl z3.2 3 (.int .i64) y2.2.2.1]) (iR k a1) k ((.slice none 0 0),(.slice none 0 0)) (0,([]:(List Int)),([]:(List Int)),r1) (fun _=>rfl) h (SE.fin [1,0] ⟨rfl,rfl,rfl,rfl,rfl,trivial⟩ rfl) (fun n z3 y2 h=>?_)
 unfold iR at h
 refine ag ?_
 refine sr ?_
 refine mq ?_
 refine jb (BA rfl LU) ?_
 refine nt ?_
 refine cv h (fun h=>?_) (fun h=>?_)
 ·
  refine sr ?_;iterate 3 refine mq ?_
  refine bX (d6 [6,15] ⟨rfl,rfl,trivial⟩) ?_;obtain⟨u4,Y,h⟩:=aa h;refine eh rfl rfl rfl (cV rfl rfl cR (aB Y)) ⟨rfl,rfl,trivial⟩ fun v5=>?_;refine aq ?_;refine aq (nt (rx ?_));refine pJ ?_;refine bf (d6 [5,16] ⟨rfl,rfl,trivial⟩) ?_;cases h;exact rb
 ·
  refine sk (ag (sr ?_));iterate 2 refine mq ?_
  obtain⟨x6,U,h⟩:=aa h;refine ja (jJ rfl U) ?_;refine ja (aN 1 false rfl rC rfl) ?_;refine ja (au (t:=(.int .i64)) rfl d4 rfl) ?_;obtain⟨r7,ac,h⟩:=aa h;refine jb (aj [.tmp 17,.tmp 21] rfl rfl Db rfl (eO k a1 x6.1 r7 ac)) ?_;refine nt (cv h (fun h=>?_) (fun h=>?_))
  ·refine sr ?_;iterate 2 refine mq ?_
   obtain⟨x8,Q,h⟩:=aa h;refine ja (jJ rfl Q) ?_;refine ja (aN 1 false rfl rC rfl) ?_;refine ja (au (t:=(.int .i64)) rfl d4 rfl) ?_;refine ja (aJ (t:=(.int .i64)) [(.tmp 27,_)] [x8.1] rfl rfl cR (.cons rfl .int .nil) rfl rfl) ?_;obtain⟨u9,X,h⟩:=aa h;refine eh rfl rfl rfl (cV rfl rfl cR (aB X)) ⟨rfl,rfl,trivial⟩ fun O=>?_;refine aq (nt (sr ?_));refine mq ?_;obtain⟨J,y,h⟩:=aa h;refine ja (jJ rfl y) ?_;refine ja (aN 1 false rfl za rfl) ?_;refine ja (au (t:=(.lst (.int .i64))) rfl vK rfl) ?_;refine aq (nt ?_);refine zu ?_;refine AG ?_;exact zr ((O,z3.2),(y2.1,y2.2.1++[x8.1],y2.2.2.1,J.2)) h (SE.fin [0,1] ⟨rfl,rfl,rfl,rfl,rfl,trivial⟩ rfl)
  ·refine sk (a9 (Z:=Unit) (α:=Int) (fun e c=>[(1,.eq (.int .u8 a1)),(4,.eq (.int .u8 c)),(6,.eq z3.1),(7,.eq z3.2),(8,.rep (.lst (.int .i64)) y2.2.2.2)]) (fun e c=>[.sl z3.1 3 (.int .i64) y2.2.1,.sl z3.2 3 (.int .i64) y2.2.2.1]) h (fun K h=>?_) (fun e c h=>?_))
   ·refine sr (mq ?_);refine ka (dh rfl rfl fU) ?_;refine jb (kP rfl) ?_;refine nt (ci h (fun h=>?_) (fun h=>?_))
    ·refine ab ?_;iterate 2 refine mq ?_
     obtain⟨I,x,h⟩:=aa h;refine ja (jJ rfl x) ?_;refine ja (aN 1 false rfl rC rfl) ?_;refine ja (au (t:=(.int .i64)) rfl d4 rfl) ?_;obtain⟨l,E,h⟩:=aa h;refine jb (aj [.tmp 37,.tmp 41] rfl rfl ze rfl (gG k y2.1 I.1 l E)) ?_;refine aq (nl ?_);exact jz ((),l) h [0,1]
    ·refine aU (ae ?_);exact jz ((),y2.1) h [0,1]
   ·refine sr ?_;iterate 2 refine mq ?_
    obtain⟨j,u,h⟩:=aa h;refine ja (jJ rfl u) ?_;refine ja (aN 1 false rfl rC rfl) ?_;refine ja (au (t:=(.int .i64)) rfl d4 rfl) ?_;refine ja (aJ (t:=(.int .i64)) [(.tmp 47,_)] [j.1] rfl rfl cR (.cons rfl .int .nil) rfl rfl) ?_;obtain⟨qt,D,h⟩:=aa h;refine fr 1 ?_;refine eh rfl rfl rfl (cV rfl rfl cR (aB D)) ⟨rfl,rfl,trivial⟩ fun M=>?_;refine aq (nt (sr ?_));refine mq ?_;obtain⟨F,s,h⟩:=aa h;refine ja (jJ rfl s) ?_;refine ja (aN 1 false rfl za rfl) ?_;refine ja (au (t:=(.lst (.int .i64))) rfl vK rfl) ?_;refine aq (nt ?_);refine zu ?_;exact zr ((z3.1,M),(c,y2.2.1,y2.2.2.1++[j.1],F.2)) h (SE.fin [1,0] ⟨rfl,rfl,rfl,rfl,rfl,trivial⟩ rfl)
def ge(k:Nat)(a0:(List Int))(a1:Int):Nat→Int→Option (Except Int Unit)
 |0,_=>none
 |n+1,y3=>
  if y3 < (a0.length:Int) then((cd a0 y3).bind fun x5=>
  if a1=x5 then(some (.error y3)) else((ck (y3+1)).bind fun x6=>
  ge k a0 a1 n x6)) else(some (.ok ()))
def iO(k:Nat)(a0:(List Int))(a1:Int):Option Int:=
 bE (α:=Unit) (ge k a0 a1 k 0) (some) fun _=>
 some (-1:Int)
theorem lB(k:Nat)(a0:(List Int))(a1:Int)(r:Int)(h:iO k a0 a1=some r):
 cy Tryz.prog 123 [Ri a0,I a1] [] (fun _:Unit=>(bG [I r],[])):=by
 unfold iO at h
 replace h:=bq h
 refine cy.of 19 Tryz.func123 rfl Tryz.ntmps123 rfl fun S w0=>?_
 refine sr ?_
 refine cq ?_
 refine nt ?_
 refine fA (Z:=Unit) (α:=Unit) (fun z2 x1=>[]) (fun z2 x1=>[]) (fun e=>e=r) h (fun e h=>Option.some.inj h) (fun K hR h=>?_) (fun z2 x1 h=>?_)
 ·
  refine sr (mq ?_);refine ol fU ?_;refine de rfl ?_;refine nt (ao (aR (fun z4 y3=>[(0,Ri a0),(1,I a1),(7,I (a0.length:Int)),(8,I y3)]) (fun z4 y3=>[]) (ge k a0 a1) k () 0 (fun _=>rfl) h (SE.fin [] ⟨rfl,rfl,rfl,rfl,trivial⟩ rfl) (fun n z4 y3 h=>?_)));unfold ge at h;refine sr (jb (bO rfl) ?_);refine nt (ag (ci h (fun h=>?_) (fun h=>?_)))
  ·refine sk (ag (ao (sr (mq ?_))));refine aq (nt (sr ?_));iterate 3 refine mq ?_
   obtain⟨x5,j,h⟩:=aa h;refine jb (bH (t:=(.int .i64)) rfl fU d4 j) ?_;refine ja (au (t:=(.int .i64)) rfl d4 rfl) ?_;refine jb (du rfl) ?_;refine nt (ci h (fun h=>?_) (fun h=>?_))
   ·refine sr (mq ?_);refine aq (nt (aA (br (bF (aW ?_)))));obtain rfl:=hR _ h;exact ra
   ·refine aU (aI (tn (ab ?_)));obtain⟨x6,c,h⟩:=aa h;refine jb (bM rfl c) ?_;refine mq (nl ?_);exact jz ((),x6) h []
  ·refine xa ?_;exact jz ((),()) h []
 ·
  refine sr (cq (nt (aA ?_)));cases h;exact ra
def iC(k:Nat)(a0:(List Int))(a1:Int):Option Bool:=
 (iO k a0 a1).bind fun r1=>
 some (decide (0≤r1))
theorem nF(k:Nat)(a0:(List Int))(a1:Int)(r:Bool)(h:iC k a0 a1=some r):
 cy Tryz.prog 158 [Ri a0,I a1] [] (fun _:Unit=>(bG [.eq (.bool r)],[])):=by
 unfold iC at h
 replace h:=bq h
 refine cy.of 9 Tryz.func158 rfl Tryz.ntmps158 rfl fun S w0=>?_
 refine sr ?_
 refine cq ?_
 refine nt ?_
 refine sr ?_
 iterate 2 refine mq ?_
 obtain⟨r1,c,h⟩:=aa h
 have e:=lB k a0 a1 r1 c
 refine jb (aj [.tmp 5,.tmp 6] rfl rfl Gn rfl e) ?_
 refine jb (mr rfl) ?_
 refine aq ?_
 refine nt ?_
 refine aA ?_
 cases h
 exact ra
def f8(k:Nat)(a0:cI)(a1:Int):Nat→(Int×Int)→Option Int
 |0,_=>none
 |n+1,y3=>
  if y3.2 < (a0.1.2.1.length:Int) then((((cd a0.1.2.1 y3.2).bind fun x7=>
  (iC k x7.2 a1).bind fun r9=>
  if r9=true then((f9 k y3.1 y3.2).bind fun e=>
  some e) else(some y3.1)):Option (Int)).bind fun x5=>
  (ck (y3.2+1)).bind fun c=>
  f8 k a0 a1 n (x5,c)) else(some y3.1)
def iL(k:Nat)(a0:cI)(a1:Int):Option Int:=
 ((f8 k a0 a1 k (0,0)):Option (Int)).bind fun x1=>
 some x1
theorem lw(k:Nat)(a0:cI)(a1:Int)(r:Int)(h:iL k a0 a1=some r):
 cy Tryz.prog 128 [.at bp a0,I a1] [] (fun _:Unit=>(bG [.eq (.int .u8 r)],[])):=by
 unfold iL at h
 replace h:=bq h
 refine cy.of 28 Tryz.func128 rfl Tryz.ntmps128 rfl fun S w0=>?_
 refine sr ?_
 refine cq ?_
 refine nt ?_
 refine sr ?_
 refine cq ?_
 refine nt ?_
 refine a9 (Z:=Unit) (α:=Int) (fun z2 x1=>[(5,.eq (.int .u8 x1))]) (fun z2 x1=>[]) h (fun K h=>?_) (fun z2 x1 h=>?_)
 ·
  refine sr (mq ?_);refine ja (c9 rfl) ?_;refine ja (aN 3 true rfl il rfl) ?_;refine ja (aN 1 false rfl ik rfl) ?_;refine ja (au (t:=(.slice c6)) rfl oS rfl) ?_;refine ol vt ?_;refine de rfl ?_;refine nt (ao (aR (fun z4 y3=>[(1,I a1),(5,.eq (.int .u8 y3.1)),(12,Rs c6 a0.1.2.1),(13,I (a0.1.2.1.length:Int)),(14,I y3.2)]) (fun z4 y3=>[]) (f8 k a0 a1) k () (0,0) (fun _=>rfl) h (SE.fin [] ⟨rfl,rfl,rfl,rfl,rfl,trivial⟩ rfl) (fun n z4 y3 h=>?_)));unfold f8 at h;refine sr (jb (bO rfl) ?_);refine nt (ag (ci h (fun h=>?_) (fun h=>?_)))
  ·refine sk (a9 (Z:=Unit) (α:=Int) (fun z6 x5=>[(1,I a1),(5,.eq (.int .u8 x5)),(12,Rs c6 a0.1.2.1),(13,I (a0.1.2.1.length:Int)),(14,I y3.2)]) (fun z6 x5=>[]) h (fun K h=>?_) (fun z6 x5 h=>?_))
   ·refine ao (sr (mq ?_));obtain⟨x7,s,h⟩:=aa h;refine jb (bH (t:=c6) rfl vt pX s) ?_;refine ja (au (t:=c6) rfl pX rfl) ?_;refine ay rfl rfl rfl (ba rfl rE HW) trivial fun b8=>?_;refine aq ?_;refine aX rfl rfl (aO rfl pX rfl rfl rfl) ⟨rfl,rfl,trivial⟩ ?_;refine nt (sr (fl uO ?_));refine lo dG ?_;refine mq ?_;obtain⟨r9,u,h⟩:=aa h;refine jb (aj [.tmp 20,.tmp 21] rfl rfl JZ rfl (nF k x7.2 a1 r9 u)) ?_;refine nt (cv h (fun h=>?_) (fun h=>?_))
    ·refine ab ?_;iterate 2 refine mq ?_
     obtain⟨c,j,h⟩:=aa h;refine jb (aj [.tmp 23,.tmp 24] rfl rfl ze rfl (gG k y3.1 y3.2 c j)) ?_;refine aq (an (bn ?_));exact jz ((),c) h []
    ·refine aU (bn ?_);exact jz ((),y3.1) h []
   ·refine ab ?_;obtain⟨l,e,h⟩:=aa h;refine jb (bM rfl e) ?_;refine mq (nl ?_);exact jz ((),(x5,l)) h []
  ·refine xa ?_;exact jz ((),y3.1) h []
 ·
  refine sr (mq ?_);refine aq (nt (aA ?_));cases h;exact ra
def gC(k:Nat)(a0:cI)(a1:(List (List Int)))(a2:Int):Nat→(Int×(List (List Int))×Int)→Option (Int×(List (List Int)))
 |0,_=>none
 |n+1,y5=>
  if y5.2.2 < 3 then((eG k a1 y5.2.2).bind fun r7=>
  (iL k a0 a2).bind fun r8=>
  (oL k r7 r8).bind fun r9=>
  (fu (cg (List.length y5.2.1+List.length [r9.2]))).bind fun _=>
  (ck (y5.2.2+1)).bind fun c=>
  gC k a0 a1 a2 n (Jl .u8 y5.1 r9.1,y5.2.1++[r9.2],c)) else(some (y5.1,y5.2.1))
def hH(k:Nat)(a0:cI)(a1:(List (List Int)))(a2:Int):Option (Int×(List (List Int))):=
 ((gC k a0 a1 a2 k (0,([]:(List (List Int))),0)):Option (Int×(List (List Int)))).bind fun x3=>
 (cY k x3.2).bind fun c=>
 some (x3.1,c)
theorem jh(k:Nat)(a0:cI)(a1:(List (List Int)))(a2:Int)(r:Int×(List (List Int)))(h:hH k a0 a1 a2=some r):
 cy Tryz.prog 85 [.at bp a0,.rep (.arr 3 (.arr 5 (.int .i64))) a1,I a2] [] (fun _:Unit=>(bG [.eq (.int .u8 r.1),.rep (.arr 3 (.arr 5 (.int .i64))) r.2],[])):=by
 unfold hH at h
 replace h:=bq h
 refine cy.of 37 Tryz.func85 rfl Tryz.ntmps85 rfl fun S w0=>?_
 refine sr ?_
 refine bx fun b1=>?_
 refine cq ?_
 refine ay rfl rfl rfl (ba rfl iu ix) trivial fun b2=>?_
 refine nt ?_
 refine sr ?_
 refine cq ?_
 refine nt ?_
 refine sr ?_
 refine cq ?_
 refine nt ?_
 refine a9 (Z:=Value) (α:=Int×(List (List Int))) (fun z4 x3=>[(7,Pt b2),(8,.eq (.int .u8 x3.1)),(9,.eq z4)]) (fun z4 x3=>[.obj b2 107 (.rep (.arr 3 (.arr 5 (.int .i64))) [[0,0,0,0,0],[0,0,0,0,0],[0,0,0,0,0]]),.sl z4 23 (.slice (.int .i64)) x3.2]) h (fun K h=>?_) (fun z4 x3 h=>?_)
 ·
  refine sr (de rfl ?_);refine nt (ao (gr (SE.nil 23 (.slice (.int .i64))) ?_));refine aR (fun z6 y5=>[(0,.at bp a0),(2,I a2),(4,Pt b1),(7,Pt b2),(8,.eq (.int .u8 y5.1)),(9,.eq z6),(13,I y5.2.2)]) (fun z6 y5=>[.obj b1 107 (.rep (.arr 3 (.arr 5 (.int .i64))) a1),.obj b2 107 (.rep (.arr 3 (.arr 5 (.int .i64))) [[0,0,0,0,0],[0,0,0,0,0],[0,0,0,0,0]]),.sl z6 23 (.slice (.int .i64)) y5.2.1]) (gC k a0 a1 a2) k (.slice none 0 0) (0,([]:(List (List Int))),0) (fun _=>rfl) h (SE.fin [2,1,0] ⟨rfl,rfl,rfl,rfl,rfl,rfl,rfl,trivial⟩ rfl) (fun n z6 y5 h=>?_);unfold gC at h;refine sr (jb (bO rfl) ?_);refine nt (ag (ci h (fun h=>?_) (fun h=>?_)))
  ·refine sk (ag (ao (sr (mq ?_))));refine aq (nt (sr ?_));refine lo bW ?_;refine mq ?_;obtain⟨r7,D,h⟩:=aa h;refine jb (aj [.tmp 17,.tmp 18] rfl rfl zg rfl (eP k a1 y5.2.2 r7 D)) ?_;iterate 2 refine mq ?_
   obtain⟨r8,y,h⟩:=aa h;refine jb (aj [.tmp 20,.tmp 21] rfl rfl J8 rfl (lw k a0 a2 r8 y)) ?_;obtain⟨r9,x,h⟩:=aa h;refine jb (aj [.tmp 19,.tmp 22] rfl rfl J9 rfl (qI k r7 r8 r9 x)) ?_;refine mq ?_;refine xr ?_;refine xr ?_;refine aq ?_;refine aq (nt (sr ?_));iterate 2 refine mq ?_
   refine jb (IQ rfl) ?_;refine aq (nt (ab ?_));iterate 2 refine mq ?_
   refine ja (aJ (t:=(.slice (.int .i64))) [(.tmp 30,_)] [r9.2] rfl rfl lh (.cons rfl .rep .nil) rfl rfl) ?_;obtain⟨E,j,h⟩:=aa h;refine fr 2 ?_;refine eh rfl rfl rfl (cV rfl rfl lh (aB j)) ⟨rfl,rfl,trivial⟩ fun u=>?_;refine aq (an (aI (tn (ab ?_))));obtain⟨s,e,h⟩:=aa h;refine jb (bM rfl e) ?_;refine mq (nl ?_);exact jz (u,(Jl .u8 y5.1 r9.1,y5.2.1++[r9.2],s)) h [1,2,0]
  ·refine xa ?_;exact jz (z6,(y5.1,y5.2.1)) h [1,2]
 ·
  refine sr ?_;iterate 2 refine mq ?_
  obtain⟨c,l,h⟩:=aa h;refine fr 1 ?_;refine ka (yA (N:=[(.tmp 35,.eq z4)]) (aj [.tmp 35] rfl rfl uS rfl (cE k x3.2 c l)) (fun _ _ _ hv hn=>⟨(lend hn.1 hv),trivial⟩) (fun _=>⟨rfl,CZ⟩)) ?_;refine aq ?_;refine fr 1 ?_;refine aX rfl rfl (aO rfl bW rfl rfl rfl) ⟨rfl,rfl,trivial⟩ ?_;refine nt (aA ?_);cases h;exact aC () [_,.rep (.arr 3 (.arr 5 (.int .i64))) c] 0 ⟨rfl,⟨_,_,_,_,_,rfl,(.head _),bW,(sS),rfl⟩,trivial⟩ rfl
def fM(k:Nat)(a0:cI)(a1:(List (List Int))):Nat→((List (List Int))×Int)→Option (List (List Int))
 |0,_=>none
 |n+1,y6=>
  if y6.2 < ((List.replicate (Int.toNat (a0.1.2.2.length:Int)) ([]:(List Int))).length:Int) then((eG k a1 y6.2).bind fun r8=>
  (cd y6.1 y6.2).bind fun x9=>
  (ck (y6.2+1)).bind fun c=>
  fM k a0 a1 n (List.set y6.1 (Int.toNat y6.2) r8,c)) else(some y6.1)
def dR(k:Nat)(a0:cI)(a1:(List (List Int))):Option (List (List Int)):=
 (fu (0≤(a0.1.2.2.length:Int)∧cg (Int.toNat (a0.1.2.2.length:Int)))).bind fun _=>
 ((fM k a0 a1 k (List.replicate (Int.toNat (a0.1.2.2.length:Int)) ([]:(List Int)),0)):Option ((List (List Int)))).bind fun x4=>
 some x4
theorem er(k:Nat)(a0:cI)(a1:(List (List Int)))(r:(List (List Int)))(h:dR k a0 a1=some r):
 cy Tryz.prog 88 [.at bp a0,.rep (.arr 3 (.arr 5 (.int .i64))) a1] [] (fun z:Value=>(bG [.eq z],[.sl z 23 (.slice (.int .i64)) r])):=by
 unfold dR at h
 replace h:=bq h
 refine cy.of 27 Tryz.func88 rfl Tryz.ntmps88 rfl fun S w0=>?_
 refine sr ?_
 refine bx fun b1=>?_
 refine cq ?_
 refine nt ?_
 refine sr ?_
 refine mq ?_
 refine ja (c9 rfl) ?_
 refine ja (aN 3 true rfl il rfl) ?_
 refine ja (aN 1 false rfl ku rfl) ?_
 refine ja (au (t:=(.slice (.int .i64))) rfl dG rfl) ?_
 refine ol fU ?_
 obtain⟨u2,j,h⟩:=aa h
 refine ay rfl rfl rfl (Bz (t:=(.slice (.int .i64))) (d:=([]:(List Int))) rfl lh K8 (aB j).1 (aB j).2) ⟨rfl,rfl,trivial⟩ fun v3=>?_
 refine aq ?_
 refine nt ?_
 refine a9 (Z:=Unit) (α:=(List (List Int))) (fun z5 x4=>[(5,.eq v3)]) (fun z5 x4=>[.sl v3 23 (.slice (.int .i64)) x4]) h (fun K h=>?_) (fun z5 x4 h=>?_)
 ·
  refine sr (mq ?_);refine ka (dh rfl rfl nS) ?_;refine de rfl ?_;refine nt (ao (aR (fun z7 y6=>[(3,Pt b1),(5,.eq v3),(15,I ((List.replicate (Int.toNat (a0.1.2.2.length:Int)) ([]:(List Int))).length:Int)),(16,I y6.2)]) (fun z7 y6=>[.obj b1 107 (.rep (.arr 3 (.arr 5 (.int .i64))) a1),.sl v3 23 (.slice (.int .i64)) y6.1]) (fM k a0 a1) k () (List.replicate (Int.toNat (a0.1.2.2.length:Int)) ([]:(List Int)),0) (fun _=>rfl) h (SE.fin [1,0] ⟨rfl,rfl,rfl,rfl,trivial⟩ rfl) (fun n z7 y6 h=>?_)));unfold fM at h;refine sr (jb (bO rfl) ?_);refine nt (ag (ci h (fun h=>?_) (fun h=>?_)))
  ·refine sk (ag (ao (sr (mq ?_))));refine aq (nt (ab ?_));iterate 2 refine mq ?_
   refine lo bW ?_;refine mq ?_;obtain⟨r8,s,h⟩:=aa h;refine jb (aj [.tmp 21,.tmp 22] rfl rfl zg rfl (eP k a1 y6.2 r8 s)) ?_;obtain⟨x9,c,h⟩:=aa h;refine fr 1 ?_;refine kb (bR (t:=(.slice (.int .i64))) rfl nS dG c) ?_;refine aX rfl rfl (ff (i:=Int.toNat y6.2) rfl dG rfl (kS c) rfl .rep rfl) ⟨rfl,rfl,trivial⟩ ?_;refine an (aI (tn (ab ?_)));obtain⟨l,e,h⟩:=aa h;refine jb (bM rfl e) ?_;refine mq (nl ?_);exact jz ((),(List.set y6.1 (Int.toNat y6.2) r8,l)) h [1,0]
  ·refine xa ?_;exact jz ((),y6.1) h [1]
 ·
  refine sr (mq ?_);refine aq (nt (aA ?_));cases h;exact aC v3 [.eq v3] 1 ⟨rfl,trivial⟩ rfl
def gP(k:Nat)(a0:(List Int))(a1:(List Int)):Nat→Int→Option (Except Bool Unit)
 |0,_=>none
 |n+1,y3=>
  if y3 < (a0.length:Int) then((cd a0 y3).bind fun x5=>
  (cd a1 y3).bind fun x6=>
  if¬(x5=x6) then(some (.error false)) else((ck (y3+1)).bind fun x7=>
  gP k a0 a1 n x7)) else(some (.ok ()))
def eC(k:Nat)(a0:(List Int))(a1:(List Int)):Option Bool:=
 if¬((a0.length:Int)=(a1.length:Int)) then(some false) else(bE (α:=Unit) (gP k a0 a1 k 0) (some) fun _=>
 some true)
theorem ep(k:Nat)(a0:(List Int))(a1:(List Int))(r:Bool)(h:eC k a0 a1=some r):
 cy Tryz.prog 37 [Ri a0,Ri a1] [] (fun _:Unit=>(bG [.eq (.bool r)],[])):=by
 unfold eC at h
 replace h:=bq h
 refine cy.of 26 Tryz.func37 rfl Tryz.ntmps37 rfl fun S w0=>?_
 refine sr ?_
 refine cq ?_
 refine nt ?_
 refine ag ?_
 refine sr ?_
 refine mq ?_
 refine ol fU ?_
 refine mq ?_
 refine ol fU ?_
 refine jb (cm rfl) ?_
 refine nt ?_
 refine cn h (fun h=>?_) (fun h=>?_)
 ·
  refine sr (cq (nt (rx ?_)));cases h;exact ra
 ·
  refine sk (fA (Z:=Unit) (α:=Unit) (fun z2 x1=>[]) (fun z2 x1=>[]) (fun e=>e=r) h (fun e h=>Option.some.inj h) (fun K hR h=>?_) (fun z2 x1 h=>?_))
  ·refine sr (cq (nt (ao ?_)));refine aR (fun z4 y3=>[(0,Ri a0),(1,Ri a1),(5,I y3)]) (fun z4 y3=>[]) (gP k a0 a1) k () 0 (fun _=>rfl) h (SE.fin [] ⟨rfl,rfl,rfl,trivial⟩ rfl) (fun n z4 y3 h=>?_);unfold gP at h;refine ag (sr ?_);iterate 2 refine mq ?_
   refine ol fU ?_;refine jb (bO rfl) ?_;refine nt (ci h (fun h=>?_) (fun h=>?_))
   ·refine sk (ag (ao (ag (cX ?_))));refine dm ?_;refine dm ?_;obtain⟨x5,l,h⟩:=aa h;refine db (bH (t:=(.int .i64)) rfl fU d4 l) ?_;refine da (au (t:=(.int .i64)) rfl d4 rfl) ?_;refine dm ?_;refine dm ?_;obtain⟨x6,j,h⟩:=aa h;refine db (bH (t:=(.int .i64)) rfl fU d4 j) ?_;refine da (au (t:=(.int .i64)) rfl d4 rfl) ?_;refine df gz ?_;refine jb (cm rfl) ?_;refine nt (cn h (fun h=>?_) (fun h=>?_))
    ·refine sr (cq (nt (aA (br (bF (aW ?_))))));obtain rfl:=hR _ h;exact ra
    ·refine aU (aI (tn (ab (mq ?_))));obtain⟨x7,c,h⟩:=aa h;refine jb (bM rfl c) ?_;refine aq (nl ?_);exact jz ((),x7) h []
   ·refine xa ?_;exact jz ((),()) h []
  ·refine sr (cq (nt (aA ?_)));cases h;exact ra
def gg(k:Nat)(a0:(List (List Int)))(a1:(List (List Int))):Nat→Int→Option (Except Bool Unit)
 |0,_=>none
 |n+1,y3=>
  if y3 < (a0.length:Int) then((cd a0 y3).bind fun x5=>
  (cd a1 y3).bind fun x6=>
  (eC k x5 x6).bind fun r7=>
  if¬(r7=true) then(some (.error false)) else((ck (y3+1)).bind fun x8=>
  gg k a0 a1 n x8)) else(some (.ok ()))
def dq(k:Nat)(a0:(List (List Int)))(a1:(List (List Int))):Option Bool:=
 if¬((a0.length:Int)=(a1.length:Int)) then(some false) else(bE (α:=Unit) (gg k a0 a1 k 0) (some) fun _=>
 some true)
theorem di(k:Nat)(a0:(List (List Int)))(a1:(List (List Int)))(r:Bool)(h:dq k a0 a1=some r):
 cy Tryz.prog 38 [.rep (.slice (.slice (.int .i64))) a0,.rep (.slice (.slice (.int .i64))) a1] [] (fun _:Unit=>(bG [.eq (.bool r)],[])):=by
 unfold dq at h
 replace h:=bq h
 refine cy.of 27 Tryz.func38 rfl Tryz.ntmps38 rfl fun S w0=>?_
 refine sr ?_
 refine cq ?_
 refine nt ?_
 refine ag ?_
 refine sr ?_
 refine mq ?_
 refine ol nS ?_
 refine mq ?_
 refine ol nS ?_
 refine jb (cm rfl) ?_
 refine nt ?_
 refine cn h (fun h=>?_) (fun h=>?_)
 ·
  refine sr (cq (nt (rx ?_)));cases h;exact ra
 ·
  refine sk (fA (Z:=Unit) (α:=Unit) (fun z2 x1=>[]) (fun z2 x1=>[]) (fun e=>e=r) h (fun e h=>Option.some.inj h) (fun K hR h=>?_) (fun z2 x1 h=>?_))
  ·refine sr (cq (nt (ao ?_)));refine aR (fun z4 y3=>[(0,.rep (.slice (.slice (.int .i64))) a0),(1,.rep (.slice (.slice (.int .i64))) a1),(5,I y3)]) (fun z4 y3=>[]) (gg k a0 a1) k () 0 (fun _=>rfl) h (SE.fin [] ⟨rfl,rfl,rfl,trivial⟩ rfl) (fun n z4 y3 h=>?_);unfold gg at h;refine ag (sr ?_);iterate 2 refine mq ?_
   refine ol nS ?_;refine jb (bO rfl) ?_;refine nt (ci h (fun h=>?_) (fun h=>?_))
   ·refine sk (ag (ao (ag (cX ?_))));refine dm ?_;refine dm ?_;obtain⟨x5,l,h⟩:=aa h;refine db (bH (t:=(.slice (.int .i64))) rfl nS dG l) ?_;refine da (au (t:=(.slice (.int .i64))) rfl dG rfl) ?_;refine dm ?_;refine dm ?_;obtain⟨x6,j,h⟩:=aa h;refine db (bH (t:=(.slice (.int .i64))) rfl nS dG j) ?_;refine da (au (t:=(.slice (.int .i64))) rfl dG rfl) ?_;refine df gz ?_;obtain⟨r7,s,h⟩:=aa h;refine jb (aj [.tmp 20,.tmp 24] rfl rfl Ao rfl (ep k x5 x6 r7 s)) ?_;refine ja (dA rfl) ?_;refine nt (cw h (fun h=>?_) (fun h=>?_))
    ·refine sr (cq (nt (aA (br (bF (aW ?_))))));obtain rfl:=hR _ h;exact ra
    ·refine aU (aI (tn (ab (mq ?_))));obtain⟨x8,c,h⟩:=aa h;refine jb (bM rfl c) ?_;refine aq (nl ?_);exact jz ((),x8) h []
   ·refine xa ?_;exact jz ((),()) h []
  ·refine sr (cq (nt (aA ?_)));cases h;exact ra
def iP(k:Nat)(a0:List Int):Option (List Int):=
 (fu (cg (List.length a0))).bind fun _=>some a0
theorem lC(k:Nat)(a0:List Int)(r:List Int)(h:iP k a0=some r):
 cy Tryz.prog 97 [Ri a0] [] (fun z:Value=>(bG [.eq z],[.sl z 3 (.int .i64) r])):=by
 unfold iP at h
 replace h:=bq h
 refine cy.of 8 Tryz.func97 rfl Tryz.ntmps97 rfl fun S w0=>?_
 obtain⟨u1,c,h⟩:=aa h
 cases h
 refine sr ?_
 refine cq ?_
 refine nt ?_
 refine ag ?_
 refine sr ?_
 refine mq ?_
 refine bI (Δ:=[]) (F:=_) (fun _ _ _=>ar rfl _) rfl rfl (Es rfl fU) ⟨rfl,rfl,trivial⟩ fun b=>?_
 refine nt ?_
 refine bu rfl (fun hb=>?_) (fun hb=>?_)
 ·
  refine sr (cq (nt (rx ?_)));obtain rfl:=b.2 hb;refine bf (SE.nil 3 (.int .i64)) ?_;exact aC (.slice none 0 0) [.eq (.slice none 0 0)] 1 ⟨rfl,trivial⟩ rfl
 ·
  refine sk (sr (ay rfl rfl rfl (l5 (t:=(.int .i64)) [] [] rfl rfl cR .nil rfl rfl) trivial fun v1=>?_));refine mq ?_;refine eh rfl rfl rfl (cV rfl rfl cR (by simpa using aB c)) ⟨rfl,rfl,trivial⟩ fun v2=>?_;refine aq (nt (aA ?_));exact aC v2 [.eq v2] 1 ⟨rfl,trivial⟩ rfl
def fN(k:Nat)(a0:cI)(a2:Int):Nat→((List (List Int))×Int)→Option (List (List Int))
 |0,_=>none
 |n+1,y5=>
  if y5.2 < a2 then((hH k a0 y5.1 y5.2).bind fun r7=>
  (ck (y5.2+1)).bind fun x8=>
  fN k a0 a2 n (r7.2,x8)) else(some y5.1)
def hP(k:Nat)(a0:cI)(a1:(List (List Int)))(a2:Int):Option (List (List Int)):=
 ((fN k a0 a2 k (a1,0)):Option ((List (List Int)))).bind fun x3=>
 some x3
theorem kH(k:Nat)(a0:cI)(a1:(List (List Int)))(a2:Int)(r:(List (List Int)))(h:hP k a0 a1 a2=some r):
 cy Tryz.prog 103 [.at bp a0,.rep (.arr 3 (.arr 5 (.int .i64))) a1,I a2] [] (fun _:Unit=>(bG [.rep (.arr 3 (.arr 5 (.int .i64))) r],[])):=by
 unfold hP at h
 replace h:=bq h
 refine cy.of 21 Tryz.func103 rfl Tryz.ntmps103 rfl fun S w0=>?_
 refine sr ?_
 refine bx fun b1=>?_
 refine ay rfl rfl rfl (ba rfl iu ix) trivial fun b2=>?_
 refine nt ?_
 refine a9 (Z:=Unit) (α:=(List (List Int))) (fun z4 x3=>[(4,Pt b1),(6,Pt b2)]) (fun z4 x3=>[.obj b1 107 (.rep (.arr 3 (.arr 5 (.int .i64))) x3),.obj b2 107 (.rep (.arr 3 (.arr 5 (.int .i64))) [[0,0,0,0,0],[0,0,0,0,0],[0,0,0,0,0]])]) h (fun K h=>?_) (fun z4 x3 h=>?_)
 ·
  refine sr (mq ?_);refine de rfl ?_;refine nt (ao (aR (fun z6 y5=>[(0,.at bp a0),(4,Pt b1),(6,Pt b2),(8,I a2),(9,I y5.2)]) (fun z6 y5=>[.obj b1 107 (.rep (.arr 3 (.arr 5 (.int .i64))) y5.1),.obj b2 107 (.rep (.arr 3 (.arr 5 (.int .i64))) [[0,0,0,0,0],[0,0,0,0,0],[0,0,0,0,0]])]) (fN k a0 a2) k () (a1,0) (fun _=>rfl) h (SE.fin [1,0] ⟨rfl,rfl,rfl,rfl,rfl,trivial⟩ rfl) (fun n z6 y5 h=>?_)));unfold fN at h;refine sr (jb (bO rfl) ?_);refine nt (ag (ci h (fun h=>?_) (fun h=>?_)))
  ·refine sk (ag (ao (sr (mq ?_))));refine aq (nt (ab ?_));refine mq ?_;refine lo bW ?_;refine mq ?_;obtain⟨r7,e,h⟩:=aa h;refine jc (aj [.tmp 13,.tmp 14,.tmp 15] rfl rfl HF rfl (jh k a0 y5.1 y5.2 r7 e)) ?_;refine mq ?_;refine xr ?_;refine xr ?_;refine aX rfl rfl (aO rfl bW rfl rfl rfl) ⟨rfl,rfl,trivial⟩ ?_;refine an (aI (tn (ab ?_)));obtain⟨x8,c,h⟩:=aa h;refine jb (bM rfl c) ?_;refine mq (nl ?_);exact jz ((),(r7.2,x8)) h [0,1]
  ·refine xa ?_;exact jz ((),y5.1) h [0,1]
 ·
  refine sr (lo bW ?_);refine fr 1 ?_;refine aX rfl rfl (aO rfl bW rfl rfl rfl) ⟨rfl,rfl,trivial⟩ ?_;refine nt (aA ?_);obtain rfl:=Option.some.inj h;exact aC () [.rep (.arr 3 (.arr 5 (.int .i64))) x3] 0 ⟨⟨_,_,_,_,_,rfl,(.head _),bW,(sS),rfl⟩,trivial⟩ rfl
def j0(k:Nat)(a0:List Int)(a1 a2:Int):Option (List Int):=
 (fu (0≤a1∧a1 < a2∧a2≤(a0.length:Int))).bind fun _=>some (a0.take a1.toNat++a0.drop a2.toNat)
theorem oZ(k:Nat)(a0:List Int)(v:Value)(a1 a2:Int)(r:List Int)(h:j0 k a0 a1 a2=some r):cy Tryz.prog 143 [.eq v,.eq (.int .i64 a1),.eq (.int .i64 a2)] [.sl v 3 (.int .i64) a0] (fun z:Value=>(bG [.eq z],[.sl z 3 (.int .i64) r])):=by
 unfold j0 at h
 replace h:=bq h
 obtain⟨u1,eg,h⟩:=aa h
 obtain⟨h1,h2,h3⟩:=aB eg
 obtain rfl:=Option.some.inj h
 refine cy.of 33 Tryz.func143 rfl Tryz.ntmps143 rfl fun S w0=>?_
 refine AH (fun e=>by rw [e] at h3;simp at h3;omega) fun b cap hv hcap=>?_
 subst hv
 have hl:(a0.take a1.toNat++a0.drop a2.toNat).length=a1.toNat+(a0.length - a2.toNat):=by simp;omega
 refine ag ?_
 refine ab ?_
 refine dn rfl ?_
 refine an (ae ?_)
 show JC _ _ _ _ _
 refine ag ?_
 refine ab ?_
 refine av rfl rfl ?_
 refine av rfl rfl ?_
 refine av rfl rfl ?_
 refine av rfl rfl ?_
 refine bL rfl rfl rfl (dh rfl rfl fU) ⟨rfl,trivial⟩ ?_
 refine ax rfl (uy rfl fU d4 h1 (by omega) h3 (by omega)) ⟨rfl,rfl,rfl,rfl,trivial⟩ ?_
 refine an (ae ?_)
 show JC _ _ _ _ _
 refine ag ?_
 refine ag ?_
 refine ab ?_
 refine av rfl rfl ?_
 refine av rfl rfl ?_
 refine ax rfl (du rfl) ⟨rfl,rfl,trivial⟩ ?_
 refine an (ae ?_)
 show JC _ _ _ _ _
 refine bu rfl (fun hb=>absurd (of_decide_eq_true hb) (by omega)) (fun hb=>?_)
 refine aU (ae ?_)
 show JC _ _ _ _ _
 refine ag ?_
 refine ab ?_
 refine av rfl rfl ?_
 refine bL rfl rfl rfl (dh rfl rfl fU) ⟨rfl,trivial⟩ ?_
 refine cS rfl rfl ?_
 refine an (ae ?_)
 show JC _ _ _ _ _
 refine ag ?_
 refine cX ?_
 refine dj rfl rfl rfl (bZ rfl) ⟨rfl,trivial⟩ ?_
 refine dj rfl rfl rfl (bZ rfl) ⟨rfl,trivial⟩ ?_
 refine dj rfl rfl rfl (sf rfl fU d4 h1 (by omega)) ⟨rfl,rfl,trivial⟩ ?_
 refine dj rfl rfl rfl (bZ rfl) ⟨rfl,trivial⟩ ?_
 refine dj rfl rfl rfl (bZ rfl) ⟨rfl,trivial⟩ ?_
 refine dj rfl rfl rfl (xX rfl fU d4 (by omega) h3) ⟨rfl,rfl,trivial⟩ ?_
 refine qG (by kernel_rfl) gz ?_
 refine bX (pH 22 rfl fun _ _ _ h=>(yK▸h:(A.eq (.slice (some ⟨b,0,none⟩) a1.toNat cap)).holds _ _ _)) ?_
 refine bL rfl rfl rfl (uB (t:=.int .i64) (b:=b) (cap:=cap) (l:=a0) (i:=a1.toNat) (j:=a2.toNat) rfl rfl cR (by omega) (by omega) hcap) ⟨rfl,rfl,trivial⟩ ?_
 refine cS rfl rfl ?_
 refine an (ae ?_)
 show JC _ _ _ _ _
 refine ag ?_
 refine ab ?_
 refine av rfl rfl ?_
 refine av rfl rfl ?_
 refine bL rfl rfl rfl (dh rfl rfl fU) ⟨rfl,trivial⟩ ?_
 refine av rfl rfl ?_
 refine ax rfl (vU rfl fU d4 (by omega) (by rw [hl];omega) (by omega)) ⟨rfl,rfl,rfl,trivial⟩ ?_
 refine aX rfl rfl (wb (t:=.int .i64) (b:=b) (cap:=cap) (l:=a0.take a1.toNat++a0.drop a2.toNat) (n:=a0.length) rfl rfl fU rfl MI rfl rfl (by rw [hl];omega) hcap) ⟨rfl,trivial⟩ ?_
 refine an (ae ?_)
 show JC _ _ _ _ _
 refine ag ?_
 refine ab ?_
 refine av rfl rfl ?_
 refine cS rfl rfl ?_
 refine an (ae ?_)
 show JC _ _ _ _ _
 refine aA ?_
 exact aC _ [.eq _] 1 ⟨rfl,trivial⟩ rfl
def iM(k:Nat)(x7:Int)(h:(List (List Int))):Nat→((List (List Int))×Int)→Option (List (List Int))
 |0,_=>none
 |n+1,c=>
  if c.2 < (h.length:Int) then((cd h c.2).bind fun e=>
  (fu (cg (List.length [x7]+List.length e))).bind fun _=>
  (fu (cg (List.length c.1+List.length [[x7]++e]))).bind fun _=>
  (ck (c.2+1)).bind fun j=>
  iM k x7 h n (c.1++[[x7]++e],j)) else(some c.1)
def iN(k:Nat)(a0:(List Int))(self:(List Int)→Option ((List (List Int)))):Nat→((List (List Int))×Int)→Option (List (List Int))
 |0,_=>none
 |n+1,y3=>
  if y3.2 < (a0.length:Int) then((((cd a0 y3.2).bind fun x7=>
  (iP k a0).bind fun r8=>
  (ck (y3.2+1)).bind fun e=>
  (j0 k r8 y3.2 e).bind fun j=>
  (self j).bind fun h=>
  iM k x7 h k (y3.1,0)):Option ((List (List Int)))).bind fun x5=>
  (ck (y3.2+1)).bind fun c=>
  iN k a0 self n (x5,c)) else(some y3.1)
def jP(k:Nat):Nat→(List Int)→Option ((List (List Int)))
 |0,_=>none
 |m0+1,a0=>
  if(a0.length:Int)=0 then(some [[]]) else(((iN k a0 (jP k m0) k (([]:(List (List Int))),0)):Option ((List (List Int)))).bind fun x1=>
  some x1)
theorem sV(k:Nat):
 ∀(n:Nat) (a0:(List Int)) (r:(List (List Int))),jP k n a0=some r→cy Tryz.prog 107 [Ri a0] ([]) (fun _:Unit=>(bG [.rep (.slice (.slice (.int .i64))) r],[])):=by
 intro n
 induction n with
 |zero=>intro a0 r h;cases h
 |succ m0 ih=>
  intro a0 r h;rw [jP] at h;replace h:=bq h;refine cy.of 41 Tryz.func107 rfl Tryz.ntmps107 rfl fun S w0=>?_;refine sr (cq (nt (ag (sr ?_))));refine mq ?_;refine ol fU ?_;refine jb (du rfl) ?_;refine nt (ci h (fun h=>?_) (fun h=>?_))
  ·refine sr (ja (aJ (t:=(.slice (.int .i64))) [(.const (.slice none 0 0),_)] [[]] rfl rfl lh (.cons rfl .nil .nil) rfl rfl) ?_);refine aq (nt (rx ?_));cases h;exact ra
  ·refine sk (sr (cq (nt ?_)));refine a9 (Z:=Value) (α:=(List (List Int))) (fun z2 x1=>[(3,.eq z2)]) (fun z2 x1=>[.sl z2 23 (.slice (.int .i64)) x1]) h (fun K h=>?_) (fun z2 x1 h=>?_)
   ·refine sr (mq ?_);refine ol fU ?_;refine de rfl ?_;refine nt (ao (gr (SE.nil 23 (.slice (.int .i64))) ?_));refine aR (fun z4 y3=>[(0,Ri a0),(3,.eq z4),(12,Ri a0),(13,I (a0.length:Int)),(14,I y3.2)]) (fun z4 y3=>[.sl z4 23 (.slice (.int .i64)) y3.1]) (iN k a0 (jP k m0)) k (.slice none 0 0) (([]:(List (List Int))),0) (fun _=>rfl) h (SE.fin [0] ⟨rfl,rfl,rfl,rfl,rfl,trivial⟩ rfl) (fun n z4 y3 h=>?_);unfold iN at h;refine sr (jb (bO rfl) ?_);refine nt (ag (ci h (fun h=>?_) (fun h=>?_)))
    ·refine sk (a9 (Z:=Value) (α:=(List (List Int))) (fun z6 x5=>[(0,Ri a0),(3,.eq z6),(12,Ri a0),(13,I (a0.length:Int)),(14,I y3.2)]) (fun z6 x5=>[.sl z6 23 (.slice (.int .i64)) x5]) h (fun K h=>?_) (fun z6 x5 h=>?_))
     ·refine ao (sr (mq ?_));obtain⟨x7,Y,h⟩:=aa h;refine jb (bH (t:=(.int .i64)) rfl fU d4 Y) ?_;refine ja (au (t:=(.int .i64)) rfl d4 rfl) ?_;refine aq ?_;refine aq (nt (sr ?_));refine mq ?_;obtain⟨r8,ac,h⟩:=aa h;refine ay rfl rfl rfl (aj [.tmp 19] rfl rfl LJ rfl (lC k a0 r8 ac)) ⟨rfl,trivial⟩ fun v9=>?_;iterate 2 refine mq ?_
      obtain⟨U,D,h⟩:=aa h;refine jb (bM rfl D) ?_;obtain⟨s,M,h⟩:=aa h;refine eh rfl rfl rfl (aj [.tmp 20,.tmp 21,.tmp 23] rfl rfl J6 rfl (oZ k r8 v9 y3.2 U s M)) ⟨rfl,rfl,rfl,trivial⟩ fun qt=>?_;refine bX (d6 [24] ⟨rfl,trivial⟩) ?_;obtain⟨j,J,h⟩:=aa h;refine ja (aj [.tmp 24] rfl rfl Gq rfl (ih s j J)) ?_;refine ol nS ?_;refine de rfl ?_;refine nt (ao (aR (fun e c=>[(0,Ri a0),(3,.eq e),(5,I x7),(12,Ri a0),(13,I (a0.length:Int)),(14,I y3.2),(25,.rep (.slice (.slice (.int .i64))) j),(26,I (j.length:Int)),(27,I c.2)]) (fun e c=>[.sl e 23 (.slice (.int .i64)) c.1]) (iM k x7 j) k z4 (y3.1,0) (fun _=>rfl) h (SE.fin [0] ⟨rfl,rfl,rfl,rfl,rfl,rfl,rfl,rfl,rfl,trivial⟩ rfl) (fun n e c h=>?_)));unfold iM at h;refine sr (jb (bO rfl) ?_);refine nt (ag (ci h (fun h=>?_) (fun h=>?_)))
      ·refine sk (ag (ao (sr ?_)));obtain⟨l,y,h⟩:=aa h;refine jb (bH (t:=(.slice (.int .i64))) rfl nS dG y) ?_;refine ja (au (t:=(.slice (.int .i64))) rfl dG rfl) ?_;refine aq (nt (ab ?_));iterate 2 refine mq ?_
       refine ay rfl rfl rfl (l5 (t:=(.int .i64)) [(.tmp 32,_)] [x7] rfl rfl cR (.cons rfl .int .nil) rfl rfl) ⟨rfl,trivial⟩ fun pp=>?_;refine mq ?_;obtain⟨MX,F,h⟩:=aa h;refine eh rfl rfl rfl (cV rfl rfl cR (aB F)) ⟨rfl,rfl,trivial⟩ fun mc=>?_;refine bX (d6 [35] ⟨rfl,trivial⟩) ?_;refine ja (aJ (t:=(.slice (.int .i64))) [(.tmp 35,_)] [[x7]++l] rfl rfl lh (.cons rfl .rep .nil) rfl rfl) ?_;obtain⟨se,E,h⟩:=aa h;refine eh rfl rfl rfl (cV rfl rfl lh (aB E)) ⟨rfl,rfl,trivial⟩ fun X=>?_;refine aq (an (aI (tn (ab ?_))));obtain⟨Q,x,h⟩:=aa h;refine jb (bM rfl x) ?_;refine mq (nl ?_);exact jz (X,(c.1++[[x7]++l],Q)) h [0]
      ·refine dM (aZ (aZ (bY (bn ?_))));exact jz (e,c.1) h [0]
     ·refine ab ?_;obtain⟨O,u,h⟩:=aa h;refine jb (bM rfl u) ?_;refine mq (nl ?_);exact jz (z6,(x5,O)) h [0]
    ·refine xa ?_;exact jz (z4,y3.1) h [0]
   ·refine sr (mq ?_);refine aq (nt (aA ?_));refine bf (d6 [2,3,40] ⟨rfl,rfl,rfl,trivial⟩) ?_;cases h;exact ra
def eM{σ:Type}(k:Nat)(a1:(List Int))(Y:σ→Int→Option (σ×Bool)):Nat→(Int×σ)→Option (σ)
 |0,_=>none
 |n+1,y1=>
  if y1.1 < (a1.length:Int) then((cd a1 y1.1).bind fun x3=>
  (Y y1.2 x3).bind fun r4=>
  if¬(r4.2=true) then(some r4.1) else((ck (y1.1+1)).bind fun x6=>
  eM k a1 Y n (x6,r4.1))) else(some y1.2)
def iz{σ:Type}(k:Nat)(Y:σ→Int→Option (σ×Bool))(a1:(List Int))(s0:σ):Option (σ):=
 eM k a1 Y k (0,s0)
theorem nE{M:Md Tryz.prog}{σ Z:Type}(E:Z→σ→List D)(l:Nat)(Y:σ→Int→Option (σ×Bool))(k:Nat)(a1:(List Int))(c:Nat)(hY:∀z s p r,Y s p=some r→YT M l [I p] (E z s) (fun z':Z=>(.eq (.bool r.2),E z' r.1))):
 ∀(z0:Z) (s0:σ) (r:σ),iz k Y a1 s0=some r→cH M 146 [.eq (.func (.yield l) #[] #[]),Pt c] ([.obj c 23 (Ri a1)]++E z0 s0) (fun z:Z=>(bG [],[.obj c 23 (Ri a1)]++E z r)):=by
 intro z0 s0 r h
 unfold iz at h
 replace h:=bq h
 refine cH.of 16 Tryz.func146 rfl Tryz.ntmps146 rfl fun S w0=>?_
 refine sr ?_
 refine lo dG ?_
 refine ol fU ?_
 refine de rfl ?_
 refine nt ?_
 refine ao ?_
 refine aR (Z:=Z) (α:=Int×σ) (fun z2 y1=>[(0,.eq (.func (.yield l) #[] #[])),(5,Ri a1),(6,I (a1.length:Int)),(7,I y1.1)]) (fun z2 y1=>[.obj c 23 (Ri a1)]++E z2 y1.2) (eM k a1 Y) k z0 (0,s0) (fun _=>rfl) h (bi [.obj c 23 (Ri a1)] (E z0 s0) [0] ⟨rfl,rfl,rfl,rfl,trivial⟩ rfl) (fun n z2 y1 h=>?_)
 unfold eM at h
 refine sr ?_
 refine jb (bO rfl) ?_
 refine nt ?_
 refine ag ?_
 refine ci h (fun h=>?_) (fun h=>?_)
 ·
  refine sk (ag (ao (sr ?_)));obtain⟨x3,j,h⟩:=aa h;refine jb (bH (t:=(.int .i64)) rfl fU d4 j) ?_;refine ja (au (t:=(.int .i64)) rfl d4 rfl) ?_;refine aq (nt (sr ?_));iterate 2 refine mq ?_
  obtain⟨r4,u,h⟩:=aa h;refine m3 [.obj c 23 (Ri a1)] rfl rfl rfl (ux [.tmp 12] rfl rfl rfl (hY z2 y1.2 x3 r4 u)) ⟨rfl,rfl,trivial⟩ fun z5=>?_;refine ja (dA rfl) ?_;refine nt (cw h (fun h=>?_) (fun h=>?_))
  ·refine aA (br (bF ?_));cases h;exact gj z5 [] trivial rfl
  ·refine aU (aI (tn (ab ?_)));obtain⟨x6,e,h⟩:=aa h;refine jb (bM rfl e) ?_;refine mq (nl ?_);exact g9 (z5,(x6,r4.1)) h (bi [.obj c 23 (Ri a1)] (E z5 r4.1) [0] ⟨rfl,rfl,rfl,rfl,trivial⟩ rfl)
 ·
  refine dM (aZ (aZ (bY (gB ?_))));cases h;exact gj z2 [] trivial rfl
def ie(k:Nat)(a1:(List Int)):Option (List Int):=
 (iz k (mn (fun(y2:(List Int)) (p4:Int)=>
  (fu (cg (List.length y2+List.length [p4]))).bind fun _=>
  some (y2++[p4],true))) a1 (([]:(List Int)),false)).bind fun r5=>
 if r5.2=true then(none) else(some r5.1)
theorem mF(k:Nat)(a1:(List Int))(c:Nat)(r:(List Int))(h:ie k a1=some r):
 cy Tryz.prog 183 [.eq (.slice none 0 0),.eq (.func (.func 146) #[] #[(Pv c)])] [.obj c 23 (Ri a1)] (fun z:Value=>(bG [.eq z],[.sl z 3 (.int .i64) r,.obj c 23 (Ri a1)])):=by
 unfold ie at h
 replace h:=bq h
 refine vo 13 Tryz.func183 rfl Tryz.ntmps183 rfl fun {M} S w0=>?_
 refine sr ?_
 refine bx fun b1=>?_
 refine cq ?_
 refine nt ?_
 refine ag ?_
 refine sr ?_
 refine mq ?_
 refine nt ?_
 refine ao ?_
 refine gr (SE.nil 3 (.int .i64)) ?_
 refine cC 1 rfl ?_
 refine cC 2 rfl ?_
 obtain⟨r5,j,h⟩:=aa h
 refine ip (Δ:=[.obj c 23 (Ri a1),.obj b1 23 (.eq (.slice none 0 0)),.sl (.slice none 0 0) 3 (.int .i64) ([]:(List Int))]) (F:=[]) (X:=Value) (J:=fun _=>yi r5.2) (E:=fun z3=>[.obj c 23 (Ri a1),.obj b1 23 (.eq z3),.sl z3 3 (.int .i64) r5.1]) (r0:=fun _=>.tup .any) rfl rfl J3 (fun rec hp ha hb hs hpe hN hv l=>?_) (fun dl z3=>jW (fun hj=>?_) (fun hj=>?_))
 ·
  rcases rec with⟨st0,pe0,fn0,tm0,ps0,as0,bd0,df0⟩;dsimp only at hp ha hb hs hpe hN hv;subst hp hs hpe;have vN:qC tm0 [(2,Pt b1)]:=⟨congrArg A.eq (hv 2 _ rfl).symm,trivial⟩;refine cH.pick (M:=M) [1,0,2,3] [1,0,2,3] (nE (fun(z3:Value) (q:(List Int)×Bool)=>[.raw l (.loop (fJ ⟨.ready,none,fn0,tm0, #[7],as0,bd0,df0⟩ (yi q.2))),.obj b1 23 (.eq z3),.sl z3 3 (.int .i64) q.1]) l (mn (fun(y2:(List Int)) (p4:Int)=>
  (fu (cg (List.length y2+List.length [p4]))).bind fun _=>
  some (y2++[p4],true))) k a1 c (fun z3 q p r' h=>?_) (.slice none 0 0) (([]:(List Int)),false) r5 j) rfl (fun _=>rfl) (fun _=>rfl)
  obtain⟨rq,hq,h2,rfl⟩:=jX h;obtain⟨y2,b5⟩:=q;obtain rfl:b5=false:=hq;replace h:=bq h2;obtain⟨p4,hpv⟩:∃x,x=p:=⟨_,rfl⟩;subst hpv;refine YT.pick (R':=(fun z3:Value=>(.eq (.bool rq.2),[.raw l (.loop (fJ ⟨.ready,none,fn0,tm0, #[7],as0,bd0,df0⟩ (yi (!rq.2)))),.obj b1 23 (.eq z3),.sl z3 3 (.int .i64) rq.1]))) [0,1,2] [0,1,2] (vb ha hb (N:=13) (Γ:=[(2,Pt b1)]) rfl hN (by decide) vN (fun S w=>?_)) rfl (fun _=>rfl) (fun _=>rfl);refine ab (aq (nl ?_));refine m4 rfl rfl ?_;refine ao (ab (fr 1 ?_));refine lo dG ?_;refine mq ?_;refine ja (aJ (t:=(.int .i64)) [(.tmp 9,_)] [p4] rfl rfl cR (.cons rfl .int .nil) rfl rfl) ?_;obtain⟨u6,e,h⟩:=aa h;refine fr 2 ?_;refine eh rfl rfl rfl (cV rfl rfl cR (aB e)) ⟨rfl,rfl,trivial⟩ fun v7=>?_;refine vi fun o8=>?_;refine fr 1 ?_;refine aX rfl rfl (aO rfl dG o8 rfl rfl) ⟨rfl,rfl,trivial⟩ ?_;refine an (aI (aE 1 rfl ?_));refine aE 1 rfl ?_;refine aE 2 rfl ?_;cases h;exact g8 v7 2 rfl
 ·
  replace h:=aP (xC hj) h;refine aI (tn (sr (fr 2 ?_)));refine lo dG ?_;refine aq (nt (aA ?_));refine aE 1 rfl ?_;refine nB ?_;refine bf (SE.fin (Γ':=[(4,_)]) [2,1,0] ⟨rfl,trivial⟩ rfl) ?_;cases h;exact aC z3 [.eq z3] 2 ⟨rfl,trivial⟩ rfl
 ·
  replace h:=bD (xB hj) h;cases h
def ji(k:Nat)(a0:(List Int)):Option (List Int):=
 (ie k a0).bind fun r1=>
 some r1
theorem oa(k:Nat)(a0:(List Int))(c:Nat)(r:(List Int))(h:ji k a0=some r):
 cy Tryz.prog 144 [.eq (.func (.func 146) #[] #[(Pv c)])] [.obj c 23 (Ri a0)] (fun z:Value=>(bG [.eq z],[.sl z 3 (.int .i64) r,.obj c 23 (Ri a0)])):=by
 unfold ji at h
 replace h:=bq h
 refine cy.of 5 Tryz.func144 rfl Tryz.ntmps144 rfl fun S w0=>?_
 refine sr ?_
 refine cq ?_
 refine nt ?_
 refine sr ?_
 refine mq ?_
 obtain⟨r1,e,h⟩:=aa h
 have j:=mF k a0 c r1 e
 refine bI (Δ:=[_]) (F:=_) (fun _ _ _=>ar rfl _) rfl rfl (aj [.const (.slice none 0 0),.tmp 3] rfl rfl JY rfl j) ⟨rfl,rfl,trivial⟩ fun z2=>?_
 refine aq ?_
 refine nt ?_
 refine aA ?_
 cases h
 exact aC z2 [.eq z2] 2 ⟨rfl,trivial⟩ rfl
def jL(k:Nat)(a0:Int):Option Bool:=
 some (!decide (a0=a0))
theorem jE(k:Nat)(a0:Int)(r:Bool)(h:jL k a0=some r):
 cy Tryz.prog 189 [I a0] [] (fun _:Unit=>(bG [.eq (.bool r)],[])):=by
 unfold jL at h
 replace h:=bq h
 refine cy.of 6 Tryz.func189 rfl Tryz.ntmps189 rfl fun S w0=>?_
 refine sr ?_
 refine cq ?_
 refine nt ?_
 refine sr ?_
 iterate 2 refine mq ?_
 refine jb (cm rfl) ?_
 refine aq ?_
 refine nt ?_
 refine aA ?_
 cases h
 exact ra
def sJ(k:Nat)(a0:Int)(a1:Int):Option Bool:=
 (((jL k a0).bind fun r3=>
 if r3=true then((jL k a1).bind fun r4=>
 if¬(r4=true) then(some true) else(some (decide (a0 < a1)))) else(some (decide (a0 < a1)))):Option (Bool)).bind fun x1=>
 some x1
theorem wW(k:Nat)(a0:Int)(a1:Int)(r:Bool)(h:sJ k a0 a1=some r):
 cy Tryz.prog 202 [I a0,I a1] [] (fun _:Unit=>(bG [.eq (.bool r)],[])):=by
 unfold sJ at h
 replace h:=bq h
 refine cy.of 17 Tryz.func202 rfl Tryz.ntmps202 rfl fun S w0=>?_
 refine sr ?_
 refine cq ?_
 refine nt ?_
 refine a9 (Z:=Unit) (α:=Bool) (fun z2 x1=>[(4,.eq (.bool x1))]) (fun z2 x1=>[]) h (fun K h=>?_) (fun z2 x1 h=>?_)
 ·
  refine ab (mq ?_);obtain⟨r3,e,h⟩:=aa h;refine ja (aj [.tmp 5] rfl rfl zd rfl (jE k a0 r3 e)) ?_;refine mq ?_;refine aH (s:=7) rfl (fun hb=>?_) (fun hb=>?_)
  ·replace h:=bD (xB hb) h;refine gm ?_;obtain⟨r4,c,h⟩:=aa h;refine ga (aj [.tmp 8] rfl rfl zd rfl (jE k a1 r4 c)) ?_;refine ga (dA rfl) ?_;refine pt ?_;refine mq ?_;refine aH (s:=12) rfl (fun hb=>?_) (fun hb=>?_)
   ·replace h:=bD (sZ hb) h;iterate 3 refine gn ?_
    refine pt ?_;refine aq (nl ?_);exact jz ((),true) h []
   ·replace h:=aP (nP hb) h;refine gm ?_;refine gm ?_;refine gb (bO rfl) ?_;refine pf ?_;refine aq (nl ?_);exact jz ((),decide (a0 < a1)) h []
  ·replace h:=aP (xC hb) h;iterate 3 refine gn ?_
   refine pf ?_;refine mq ?_;refine gm ?_;refine gm ?_;refine gb (bO rfl) ?_;refine pf ?_;refine aq (nl ?_);exact jz ((),decide (a0 < a1)) h []
 ·
  refine aA ?_;cases h;exact ra
def cp(k:Nat)(a1:Int):Nat→((List Int)×Int)→Option (List Int)
 |0,_=>none
 |n+1,y6=>
  ((if a1 < y6.2 then((cd y6.1 y6.2).bind fun u=>
  (ck (y6.2 - 1)).bind fun s=>
  (cd y6.1 s).bind fun r=>
  (sJ k u r).bind fun x=>
  some x) else(some false)):Option (Bool)).bind fun x8=>
  if x8=true then((ck (y6.2 - 1)).bind fun e=>
  (ck (y6.2 - 1)).bind fun l=>
  (cd y6.1 l).bind fun c=>
  (cd y6.1 y6.2).bind fun j=>
  (cd y6.1 y6.2).bind fun D=>
  (cd (List.set y6.1 (Int.toNat y6.2) c) e).bind fun y=>
  (ck (y6.2 - 1)).bind fun h=>
  cp k a1 n (List.set (List.set y6.1 (Int.toNat y6.2) c) (Int.toNat e) j,h)) else(some y6.1)
def cr(k:Nat)(a1:Int)(a2:Int):Nat→((List Int)×Int)→Option (List Int)
 |0,_=>none
 |n+1,y2=>
  if y2.2 < a2 then(((cp k a1 k (y2.1,y2.2)):Option ((List Int))).bind fun x4=>
  (ck (y2.2+1)).bind fun c=>
  cr k a1 a2 n (x4,c)) else(some y2.1)
def dD(k:Nat)(a0:(List Int))(a1:Int)(a2:Int):Option (List Int):=
 (ck (a1+1)).bind fun x1=>
 cr k a1 a2 k (a0,x1)
theorem ir(k:Nat)(a0:(List Int))(c:Value)(a1:Int)(a2:Int)(r:(List Int))(h:dD k a0 a1 a2=some r):
 cy Tryz.prog 196 [.eq c,I a1,I a2] [.sl c 3 (.int .i64) a0] (fun _:Unit=>(bG [],[.sl c 3 (.int .i64) r])):=by
 unfold dD at h
 replace h:=bq h
 refine cy.of 49 Tryz.func196 rfl Tryz.ntmps196 rfl fun S w0=>?_
 refine sr ?_
 refine mq ?_
 obtain⟨x1,Nk,h⟩:=aa h
 refine jb (bM rfl Nk) ?_
 refine aq ?_
 refine nt ?_
 refine ao ?_
 refine aR (fun z3 y2=>[(0,.eq c),(1,I a1),(2,I a2),(6,I y2.2)]) (fun z3 y2=>[.sl c 3 (.int .i64) y2.1]) (cr k a1 a2) k () (a0,x1) (fun _=>rfl) h (SE.fin [0] ⟨rfl,rfl,rfl,rfl,trivial⟩ rfl) (fun n z3 y2 h=>?_)
 unfold cr at h
 refine ag ?_
 refine sr ?_
 iterate 2 refine mq ?_
 refine jb (bO rfl) ?_
 refine nt ?_
 refine ci h (fun h=>?_) (fun h=>?_)
 ·
  refine sk (a9 (Z:=Unit) (α:=(List Int)) (fun z5 x4=>[(0,.eq c),(1,I a1),(2,I a2),(6,I y2.2)]) (fun z5 x4=>[.sl c 3 (.int .i64) x4]) h (fun K h=>?_) (fun z5 x4 h=>?_))
  ·refine ao (sr (mq ?_));refine aq (nt (ao ?_));refine aR (fun z7 y6=>[(0,.eq c),(1,I a1),(2,I a2),(6,I y2.2),(7,I y6.2)]) (fun z7 y6=>[.sl c 3 (.int .i64) y6.1]) (cp k a1) k () (y2.1,y2.2) (fun _=>rfl) h (SE.fin [0] ⟨rfl,rfl,rfl,rfl,rfl,trivial⟩ rfl) (fun n z7 y6 h=>?_);unfold cp at h;refine ag (a9 (Z:=Unit) (α:=Bool) (fun z9 x8=>[(0,.eq c),(1,I a1),(2,I a2),(6,I y2.2),(7,I y6.2),(30,.eq (.bool x8))]) (fun z9 x8=>[.sl c 3 (.int .i64) y6.1]) h (fun K h=>?_) (fun z9 x8 h=>?_))
   ·refine cX ?_;refine dm ?_;refine dm ?_;refine db (kP rfl) ?_;refine zC rfl rfl rfl (bZ rfl) ⟨rfl,trivial⟩ (fun hb=>?_) (fun hb=>?_)
    ·replace h:=bD (ln hb) h;refine dN rfl rfl rfl rfl rfl (bZ rfl) ⟨rfl,rfl,trivial⟩ ?_;refine dN rfl rfl rfl rfl rfl (bZ rfl) ⟨rfl,rfl,trivial⟩ ?_;obtain⟨M6,x,h⟩:=aa h;refine mi 0 rfl rfl rfl rfl rfl rfl (bR (t:=(.int .i64)) rfl fU d4 x) ⟨rfl,rfl,rfl,trivial⟩ ?_;refine mi 0 rfl rfl rfl rfl rfl rfl (gY (i:=Int.toNat y6.2) (off:=0) rfl d4 (fun _=>rfl) rfl (cM x).2.2 rfl) ⟨rfl,rfl,trivial⟩ ?_;refine dN rfl rfl rfl rfl rfl (bZ rfl) ⟨rfl,rfl,trivial⟩ ?_;refine dN rfl rfl rfl rfl rfl (bZ rfl) ⟨rfl,rfl,trivial⟩ ?_;obtain⟨M5,qt,h⟩:=aa h;refine dN rfl rfl rfl rfl rfl (gl rfl qt) ⟨rfl,rfl,rfl,trivial⟩ ?_;obtain⟨M4,u,h⟩:=aa h;refine mi 0 rfl rfl rfl rfl rfl rfl (bR (t:=(.int .i64)) rfl fU d4 u) ⟨rfl,rfl,rfl,trivial⟩ ?_;refine mi 0 rfl rfl rfl rfl rfl rfl (gY (i:=Int.toNat M5) (off:=0) rfl d4 (fun _=>rfl) rfl (cM u).2.2 rfl) ⟨rfl,rfl,trivial⟩ ?_;refine df gz ?_;obtain⟨F,se,h⟩:=aa h;refine gb (aj [.tmp 23,.tmp 28] rfl rfl JS rfl (wW k M6 M4 F se)) ?_;refine pt (nl ?_);exact jz ((),F) h [0]
    ·replace h:=aP (kV hb) h;iterate 9 refine dg ?_
     refine df gz ?_;refine gn ?_;refine pf (nl ?_);exact jz ((),false) h [0]
   ·refine cv h (fun h=>?_) (fun h=>?_)
    ·refine sk (ag (ao (lN ?_)));refine cG rfl rfl rfl (bZ rfl) ⟨rfl,trivial⟩ ?_;refine cG rfl rfl rfl (bZ rfl) ⟨rfl,trivial⟩ ?_;refine cG rfl rfl rfl (bZ rfl) ⟨rfl,trivial⟩ ?_;refine cG rfl rfl rfl (bZ rfl) ⟨rfl,trivial⟩ ?_;obtain⟨y,pp,h⟩:=aa h;refine cG rfl rfl rfl (gl rfl pp) ⟨rfl,rfl,trivial⟩ ?_;refine cG rfl rfl rfl (bZ rfl) ⟨rfl,trivial⟩ ?_;refine cG rfl rfl rfl (bZ rfl) ⟨rfl,trivial⟩ ?_;obtain⟨MZ,mc,h⟩:=aa h;refine cG rfl rfl rfl (gl rfl mc) ⟨rfl,rfl,trivial⟩ ?_;obtain⟨E,s,h⟩:=aa h;refine iq 0 rfl rfl rfl rfl (bR (t:=(.int .i64)) rfl fU d4 s) ⟨rfl,rfl,trivial⟩ ?_;refine iq 0 rfl rfl rfl rfl (gY (i:=Int.toNat MZ) (off:=0) rfl d4 (fun _=>rfl) rfl (cM s).2.2 rfl) ⟨rfl,trivial⟩ ?_;refine cG rfl rfl rfl (bZ rfl) ⟨rfl,trivial⟩ ?_;refine cG rfl rfl rfl (bZ rfl) ⟨rfl,trivial⟩ ?_;obtain⟨D,l,h⟩:=aa h;refine iq 0 rfl rfl rfl rfl (bR (t:=(.int .i64)) rfl fU d4 l) ⟨rfl,rfl,trivial⟩ ?_;refine iq 0 rfl rfl rfl rfl (gY (i:=Int.toNat y6.2) (off:=0) rfl d4 (fun _=>rfl) rfl (cM l).2.2 rfl) ⟨rfl,trivial⟩ ?_;obtain⟨Nw,j,h⟩:=aa h;refine iq 0 rfl rfl rfl rfl (bR (t:=(.int .i64)) rfl fU d4 j) ⟨rfl,rfl,trivial⟩ ?_;refine qF 15 [true,true,false,false,false,true,true,true,true,true,true,true,true,true,true] [48] [] [] rfl (by kernel_rfl) (by kernel_rfl) (by kernel_rfl) gz (fun vs hv hB=>?_);obtain⟨w0,NP,rfl,Nj⟩:=aM hv;obtain⟨w1,NN,rfl,Ni⟩:=aM Nj;obtain⟨w2,NL,rfl,Nh⟩:=aM Ni;obtain⟨w3,NK,rfl,Nc⟩:=aM Nh;obtain⟨w4,NJ,rfl,Nb⟩:=aM Nc;obtain⟨w5,NH,rfl,Na⟩:=aM Nb;obtain⟨w6,NG,rfl,M9⟩:=aM Na;obtain⟨w7,NF,rfl,M8⟩:=aM M9;obtain⟨w8,NE,rfl,M7⟩:=aM M8;obtain⟨w9,Nu,rfl,X⟩:=aM M7;obtain⟨ND,Nr,rfl,U⟩:=aM X;obtain⟨NC,Nq,rfl,Q⟩:=aM U;obtain⟨NA,Np,rfl,O⟩:=aM Q;obtain⟨Nz,Nn,rfl,M⟩:=aM O;obtain⟨Ny,Nl,rfl,J⟩:=aM M;obtain rfl:=nq J;refine⟨[0],[.sl c 3 (.int .i64) y6.1],by kernel_rfl,by decide,?_⟩;refine qE rfl rfl (ff (i:=Int.toNat y6.2) rfl d4 rfl (kS j) rfl .int rfl) ⟨rfl,rfl,trivial⟩ (by kernel_rfl) ?_;obtain⟨Nv,e,h⟩:=aa h;refine yB rfl rfl rfl rfl (bR (t:=(.int .i64)) rfl fU d4 e) ⟨rfl,rfl,trivial⟩ (by kernel_rfl) ?_;refine qE rfl rfl (ff (i:=Int.toNat y) rfl d4 rfl (kS e) rfl .int rfl) ⟨rfl,rfl,trivial⟩ (by kernel_rfl) ?_;refine vg ?_;refine bf (SE.fin (Γ':=[(0,.eq c),(1,I a1),(2,I a2),(6,I y2.2),(7,I y6.2)]) (Δ':=[.sl c 3 (.int .i64) (List.set (List.set y6.1 (Int.toNat y6.2) E) (Int.toNat y) D)]) [0] ⟨rfl,rfl,rfl,rfl,rfl,trivial⟩ rfl) ?_;refine aI (tn (ab (mq ?_)));obtain⟨MY,ac,h⟩:=aa h;refine jb (gl rfl ac) ?_;refine aq (nl ?_);exact jz ((),(List.set (List.set y6.1 (Int.toNat y6.2) E) (Int.toNat y) D,MY)) h [0]
    ·refine dM (aZ (aZ (bY (bn ?_))));exact jz ((),y6.1) h [0]
  ·refine ab (mq ?_);obtain⟨MX,Y,h⟩:=aa h;refine jb (bM rfl Y) ?_;refine aq (nl ?_);exact jz ((),(x4,MX)) h [0]
 ·
  refine dM (aZ (aZ (bY (gB ?_))));cases h;exact aC () [] 1 trivial rfl
def jj(k:Nat)(a0:Int):Option Int:=
 ((if 4294967296≤a0 then(some (ow .u64 a0 32,32)) else(some (a0,0))):Option (Int×Int)).bind fun x1=>
 ((if 65536≤x1.1 then((ck (x1.2+16)).bind fun x5=>
 some (ow .u64 x1.1 16,x5)) else(some (x1.1,x1.2))):Option (Int×Int)).bind fun x3=>
 ((if 256≤x3.1 then((ck (x3.2+8)).bind fun x8=>
 some (ow .u64 x3.1 8,x8)) else(some (x3.1,x3.2))):Option (Int×Int)).bind fun x6=>
 (yj EI (IntKind.u8.wrap x6.1)).bind fun x9=>
 (ck (x9.toNat:Int)).bind fun e=>
 (ck (x6.2+e)).bind fun c=>
 some c
theorem ou(k:Nat)(a0:Int)(r:Int)(h:jj k a0=some r):
 cy Tryz.prog 206 [.eq (.int .u64 a0)] [] (fun _:Unit=>(bG [I r],[])):=by
 unfold jj at h
 replace h:=bq h
 refine cy.of 25 Tryz.func206 rfl Tryz.ntmps206 rfl fun S w0=>?_
 refine sr ?_
 refine cq ?_
 refine nt ?_
 refine a9 (Z:=Unit) (α:=Int×Int) (fun z2 x1=>[(0,.eq (.int .u64 x1.1)),(2,I x1.2)]) (fun z2 x1=>[]) h (fun K h=>?_) (fun z2 x1 h=>?_)
 ·
  refine sr (mq ?_);refine jb (mr rfl) ?_;refine nt (ci h (fun h=>?_) (fun h=>?_))
  ·refine sr (mq ?_);refine ax rfl (yP rfl (by decide)) ⟨rfl,rfl,trivial⟩ ?_;refine aq (nt (ab ?_));refine cq (nl ?_);exact jz ((),(ow .u64 a0 32,32)) h []
  ·refine aU (ae ?_);exact jz ((),(a0,0)) h []
 ·
  refine a9 (Z:=Unit) (α:=Int×Int) (fun z4 x3=>[(0,.eq (.int .u64 x3.1)),(2,I x3.2)]) (fun z4 x3=>[]) h (fun K h=>?_) (fun z4 x3 h=>?_)
  ·refine sr (mq ?_);refine jb (mr rfl) ?_;refine nt (ci h (fun h=>?_) (fun h=>?_))
   ·refine sr (mq ?_);refine ax rfl (yP rfl (by decide)) ⟨rfl,rfl,trivial⟩ ?_;refine aq (nt (ab ?_));refine mq ?_;obtain⟨x5,n,h⟩:=aa h;refine jb (bM rfl n) ?_;refine aq (nl ?_);exact jz ((),(ow .u64 x1.1 16,x5)) h []
   ·refine aU (ae ?_);exact jz ((),(x1.1,x1.2)) h []
  ·refine a9 (Z:=Unit) (α:=Int×Int) (fun z7 x6=>[(0,.eq (.int .u64 x6.1)),(2,I x6.2)]) (fun z7 x6=>[]) h (fun K h=>?_) (fun z7 x6 h=>?_)
   ·refine sr (mq ?_);refine jb (mr rfl) ?_;refine nt (ci h (fun h=>?_) (fun h=>?_))
    ·refine sr (mq ?_);refine ax rfl (yP rfl (by decide)) ⟨rfl,rfl,trivial⟩ ?_;refine aq (nt (ab ?_));refine mq ?_;obtain⟨x8,l,h⟩:=aa h;refine jb (bM rfl l) ?_;refine aq (nl ?_);exact jz ((),(ow .u64 x3.1 8,x8)) h []
    ·refine aU (ae ?_);exact jz ((),(x3.1,x3.2)) h []
   ·refine sr ?_;iterate 2 refine mq ?_
    refine ja (qi rfl MS U5) ?_;obtain⟨x9,j,h⟩:=aa h;refine ja (vZ rfl U9 j) ?_;obtain⟨u,e,h⟩:=aa h;refine ja (wa rfl U5 U3 e) ?_;obtain⟨s,c,h⟩:=aa h;refine jb (bM rfl c) ?_;refine aq (nt (aA ?_));cases h;exact ra
def uX(k:Nat)(a0:Int):Option Int:=
 (jj k a0).bind fun r1=>
 some r1
theorem yx(k:Nat)(a0:Int)(r:Int)(h:uX k a0=some r):
 cy Tryz.prog 185 [.eq (.int .u64 a0)] [] (fun _:Unit=>(bG [I r],[])):=by
 unfold uX at h
 replace h:=bq h
 refine cy.of 8 Tryz.func185 rfl Tryz.ntmps185 rfl fun S w0=>?_
 refine sr ?_
 refine cq ?_
 refine nt ?_
 refine ag ?_
 refine DZ (fun hb=>(by cases hb)) (fun hb=>?_)
 refine sk ?_
 refine sr ?_
 refine mq ?_
 obtain⟨r1,c,h⟩:=aa h
 have e:=ou k a0 r1 c
 refine ja (aj [.tmp 6] rfl rfl JR rfl e) ?_
 refine aq ?_
 refine nt ?_
 refine aA ?_
 cases h
 exact ra
def d5(k:Nat)(a0:(List Int))(a1:Int)(a2:Int)(a3:Int):Nat→Unit→Option (List Int)
 |0,_=>none
 |n+1,y1=>
  (ck (a2 - a1)).bind fun x3=>
  if x3≤12 then((dD k a0 a1 a2).bind fun r4=>
  some r4) else(if a3=0 then(none) else(none))
def fm(k:Nat)(a0:(List Int))(a1:Int)(a2:Int)(a3:Int):Option (List Int):=
 d5 k a0 a1 a2 a3 k ()
theorem kB(k:Nat)(a0:(List Int))(c:Value)(a1:Int)(a2:Int)(a3:Int)(r:(List Int))(h:fm k a0 a1 a2 a3=some r):
 cy Tryz.prog 184 [.eq c,I a1,I a2,I a3] [.sl c 3 (.int .i64) a0] (fun _:Unit=>(bG [],[.sl c 3 (.int .i64) r])):=by
 unfold fm at h
 replace h:=bq h
 refine cy.of 134 Tryz.func184 rfl Tryz.ntmps184 rfl fun S w0=>?_
 refine sr ?_
 refine cq ?_
 refine nt ?_
 refine sr ?_
 refine cq ?_
 refine nt ?_
 refine ao ?_
 refine aR (fun z2 y1=>[(0,.eq c),(1,I a1),(2,I a2),(3,I a3),(8,.eq (.bool true)),(9,.eq (.bool true))]) (fun z2 y1=>[.sl c 3 (.int .i64) a0]) (d5 k a0 a1 a2 a3) k () () (fun _=>rfl) h (SE.fin [0] ⟨rfl,rfl,rfl,rfl,rfl,rfl,trivial⟩ rfl) (fun n z2 y1 h=>?_)
 unfold d5 at h
 refine ao ?_
 refine sr ?_
 iterate 2 refine mq ?_
 obtain⟨x3,e,h⟩:=aa h
 refine jb (gl rfl e) ?_
 refine aq ?_
 refine nt ?_
 refine ag ?_
 refine sr ?_
 refine mq ?_
 refine jb (tD rfl) ?_
 refine nt ?_
 refine ci h (fun h=>?_) (fun h=>?_)
 ·
  refine sr ?_;iterate 3 refine mq ?_
  obtain⟨r4,j,h⟩:=aa h;refine kc (aj [.tmp 24,.tmp 25,.tmp 26] rfl rfl JU rfl (ir k a0 c a1 a2 r4 j)) ?_;refine nt (rx (bF (aW (bF ?_))));cases h;exact aC () [] 1 trivial rfl
 ·
  refine sk (ag (sr (mq ?_)));refine jb (du rfl) ?_;refine nt (ci h (fun h=>?_) (fun h=>?_))
  ·refine sr ?_;iterate 3 refine mq ?_
   cases h
  ·refine sk (ag (sr (mq ?_)));refine ja (dA rfl) ?_;refine nt (bu rfl (fun hb=>(by cases hb)) (fun hb=>?_));refine sk (sr ?_);iterate 3 refine mq ?_
   cases h
def lV(k:Nat)(a0:(List Int)):Option (List Int):=
 (uX k (IntKind.u64.wrap (a0.length:Int))).bind fun r1=>
 (fm k a0 0 (a0.length:Int) r1).bind fun r2=>
 some r2
theorem qZ(k:Nat)(a0:(List Int))(c:Value)(r:(List Int))(h:lV k a0=some r):
 cy Tryz.prog 145 [.eq c] [.sl c 3 (.int .i64) a0] (fun _:Unit=>(bG [],[.sl c 3 (.int .i64) r])):=by
 unfold lV at h
 replace h:=bq h
 refine cy.of 11 Tryz.func145 rfl Tryz.ntmps145 rfl fun S w0=>?_
 refine sr ?_
 refine mq ?_
 refine ka (dh rfl rfl fU) ?_
 refine aq ?_
 refine nt ?_
 refine ab ?_
 iterate 3 refine mq ?_
 refine ja (qi rfl U3 LV) ?_
 obtain⟨r1,j,h⟩:=aa h
 have n:=yx k (IntKind.u64.wrap (a0.length:Int)) r1 j
 refine ja (aj [.tmp 8] rfl rfl JW rfl n) ?_
 obtain⟨r2,e,h⟩:=aa h
 have l:=kB k a0 c 0 (a0.length:Int) r1 r2 e
 refine bL rfl rfl rfl (aj [.tmp 5,.const (.int .i64 (0)),.tmp 6,.tmp 9] rfl rfl JX rfl l) ⟨rfl,rfl,rfl,rfl,trivial⟩ ?_
 refine an ?_
 refine gB ?_
 cases h
 exact aC () [] 1 trivial rfl
def jZ(k:Nat)(a0:(List Int)):Option (List Int):=
 (ji k a0).bind fun r1=>
 (lV k r1).bind fun r3=>
 some r3
theorem oY(k:Nat)(a0:(List Int))(c:Nat)(r:(List Int))(h:jZ k a0=some r):
 cy Tryz.prog 108 [.eq (.func (.func 146) #[] #[(Pv c)])] [.obj c 23 (Ri a0)] (fun _:Unit=>(bG [Ri r],[.obj c 23 (Ri a0)])):=by
 unfold jZ at h
 replace h:=bq h
 refine cy.of 9 Tryz.func108 rfl Tryz.ntmps108 rfl fun S w0=>?_
 refine sr ?_
 refine cq ?_
 refine nt ?_
 refine sr ?_
 refine mq ?_
 obtain⟨r1,j,h⟩:=aa h
 have n:=oa k a0 c r1 j
 refine bI (Δ:=[_]) (F:=_) (fun _ _ _=>ar rfl _) rfl rfl (aj [.tmp 4] rfl rfl J5 rfl n) ⟨rfl,trivial⟩ fun z2=>?_
 refine aq ?_
 refine nt ?_
 refine sr ?_
 refine mq ?_
 obtain⟨r3,e,h⟩:=aa h
 have l:=qZ k r1 z2 r3 e
 refine ka (aj [.tmp 6] rfl rfl J4 rfl l) ?_
 refine nt ?_
 refine sr ?_
 refine mq ?_
 refine aq ?_
 refine nt ?_
 refine aA ?_
 refine bf (d6 [2,3,5,6,8] ⟨rfl,rfl,rfl,rfl,rfl,trivial⟩) ?_
 cases h
 exact aC () [_] 1 ⟨rfl,trivial⟩ rfl
theorem oW(a0:(List Int)):cy Tryz.prog 109 [Ri a0] [] (fun z:Nat=>(bG [.eq (.func (.func 146) #[] #[(Pv z)])],[.obj z 23 (Ri a0)])):=by
 refine cy.of 4 Tryz.func109 rfl Tryz.ntmps109 rfl fun S w0=>?_;refine sr (bx fun z=>?_);refine cq (nt (sr ?_));refine ja (qh [] [.tmp 1] [] [(Pv z)] rfl rfl rfl) ?_;refine aq (nt (aA ?_));exact aC z [_] 1 ⟨rfl,trivial⟩ rfl
def dp{σ:Type}(k:Nat)(a0:(List (List Int)))(a1:Int)(a2:Int)(a3:cI)(self:(List (List Int))→Int→Int→σ→Option (Bool×σ))(h:(List Int)):Nat→(Int×σ)→Option (Except (Bool×σ) (σ))
 |0,_=>none
 |n+1,c=>
  if c.1 < (a3.1.2.1.length:Int) then(bE (α:=σ) ((cd a3.1.2.1 c.1).bind fun y=>
  (((eA k a2 c.1).bind fun I=>
  if I=true then(some (true,c.2)) else((oK k a3.1 h).bind fun F=>
  (ck (F+y.1)).bind fun x=>
  (cd a3.1.2.2 a1).bind fun u=>
  some (decide (u < x),c.2))):Option (Bool×σ)).bind fun j=>
  if j.1=true then(some (.ok j.2)) else((fu (0≤a1∧a1 < 3)).bind fun _=>
  (cd a0 a1).bind fun s=>
  (fu (0≤(h.length:Int)∧(h.length:Int) < 5)).bind fun _=>
  (f9 k a2 c.1).bind fun E=>
  (self (List.set a0 (Int.toNat a1) (List.set s (Int.toNat (h.length:Int)) c.1)) a1 E j.2).bind fun l=>
  if¬(l.1=true) then(some (.error (false,l.2))) else(some (.ok l.2)))) (fun e=>some (.error e)) fun D=>
  (ck (c.1+1)).bind fun r=>
  dp k a0 a1 a2 a3 self h n (r,D)) else(some (.ok c.2))
def cD{σ:Type}(k:Nat)(Y:σ→(List (List Int))→Option (σ×Bool))(a3:cI):Nat→(List (List Int))→Int→Int→σ→Option (Bool×σ)
 |0,_,_,_,_=>none
 |m0+1,a0,a1,a2,s0=>
  if a1=(a3.1.2.2.length:Int) then((((fu (0≤(a3.1.2.1.length:Int))).bind fun _=>
  if¬(a2=(IntKind.u8.wrap ((wI .u8 1 (a3.1.2.1.length:Int)) - 1))) then(some (true,s0)) else((Y s0 a0).bind fun r5=>
  some (r5.2,r5.1))):Option (Bool×σ)).bind fun x2=>
  some (x2.1,x2.2)) else((ck (a1+1)).bind fun x7=>
  ((cD k Y a3 m0) a0 x7 a2 s0).bind fun r8=>
  if¬(r8.1=true) then(some (false,r8.2)) else((eG k a0 a1).bind fun e=>
  bE (α:=σ) (dp k a0 a1 a2 a3 (cD k Y a3 m0) e k (0,r8.2)) (some) fun c=>
  some (true,c)))
theorem lb{M:Md Tryz.prog}{σ Z:Type}(E:Z→σ→List D)(l:Nat)(Y:σ→(List (List Int))→Option (σ×Bool))(k:Nat)(a3:cI)(u:Nat)(x:Nat)(c:Nat)(hY:∀z s p r,Y s p=some r→YT M l [.rep (.arr 3 (.arr 5 (.int .i64))) p] (E z s) (fun z':Z=>(.eq (.bool r.2),E z' r.1))):
 ∀(n:Nat) (a0:(List (List Int))) (a1:Int) (a2:Int) (z0:Z) (s0:σ) (r:Bool×σ),cD k Y a3 n a0 a1 a2 s0=some r→cH M 149 [.rep (.arr 3 (.arr 5 (.int .i64))) a0,I a1,.eq (.int .u8 a2),Pt u,Pt x,Pt c] ([.obj u 102 (.at bp a3),.obj x 210 (.eq (.func (.yield l) #[] #[])),.obj c 211 (.eq (.func (.func 149) #[] #[(Pv u),(Pv x),(Pv c)]))]++E z0 s0) (fun z:Z=>(bG [.eq (.bool r.1)],[.obj u 102 (.at bp a3),.obj x 210 (.eq (.func (.yield l) #[] #[])),.obj c 211 (.eq (.func (.func 149) #[] #[(Pv u),(Pv x),(Pv c)]))]++E z r.2)):=by
 intro n
 induction n with
 |zero=>intro a0 a1 a2 z0 s0 r h;cases h
 |succ m0 ih=>
  intro a0 a1 a2 z0 s0 r h;rw [cD] at h;replace h:=bq h;refine cH.of 97 Tryz.func149 rfl Tryz.ntmps149 rfl fun S w0=>?_;refine sr (bx fun b1=>?_);refine cq (nt (ag (sr ?_)));refine mq ?_;refine fr 1 ?_;refine lo jl ?_;refine ja (c9 rfl) ?_;refine ja (aN 3 true rfl il rfl) ?_;refine ja (aN 1 false rfl ku rfl) ?_;refine ja (au (t:=(.slice (.int .i64))) rfl dG rfl) ?_;refine ol fU ?_;refine jb (du rfl) ?_;refine nt (ci h (fun h=>?_) (fun h=>?_))
  ·refine a9 (Z:=Z) (α:=Bool×σ) (fun z3 x2=>[(9,.eq (.bool x2.1))]) (fun z3 x2=>[.obj u 102 (.at bp a3),.obj x 210 (.eq (.func (.yield l) #[] #[])),.obj c 211 (.eq (.func (.func 149) #[] #[(Pv u),(Pv x),(Pv c)]))]++E z3 x2.2) h (fun K h=>?_) (fun z3 x2 h=>?_)
   ·refine ab (mq ?_);refine lo jl ?_;refine ja (c9 rfl) ?_;refine ja (aN 3 true rfl il rfl) ?_;refine ja (aN 1 false rfl ik rfl) ?_;refine ja (au (t:=(.slice c6)) rfl oS rfl) ?_;refine ol vt ?_;obtain⟨u4,Nv,h⟩:=aa h;refine jb (Br rfl (aB Nv)) ?_;refine jb (xW rfl) ?_;refine jb (cm rfl) ?_;refine mq ?_;refine aH (s:=32) rfl (fun hb=>?_) (fun hb=>?_)
    ·replace h:=bD (qR hb) h;iterate 3 refine gn ?_
     refine pt ?_;refine aq (nl ?_);exact g9 (z0,(true,s0)) h (bi [.obj u 102 (.at bp a3),.obj b1 107 (.rep (.arr 3 (.arr 5 (.int .i64))) a0),.obj x 210 (.eq (.func (.yield l) #[] #[])),.obj c 211 (.eq (.func (.func 149) #[] #[(Pv u),(Pv x),(Pv c)]))] (E z0 s0) [0,2,3] ⟨rfl,trivial⟩ rfl)
    ·replace h:=aP (iY hb) h;refine fr 2 ?_;refine f7 rfl rfl rfl rfl rfl rfl (ap rfl II np rfl) ⟨rfl,trivial⟩ ?_;refine fr 2 ?_;refine f7 rfl rfl rfl rfl rfl rfl (ap rfl bW (sS) rfl) ⟨rfl,trivial⟩ ?_;obtain⟨r5,Ny,h⟩:=aa h;refine fr 3 ?_;refine fr 3 ?_;refine fr 3 ?_;refine fr 3 ?_;refine AB [.obj b1 107 (.rep (.arr 3 (.arr 5 (.int .i64))) a0),.obj x 210 (.eq (.func (.yield l) #[] #[])),.obj u 102 (.at bp a3),.obj c 211 (.eq (.func (.func 149) #[] #[(Pv u),(Pv x),(Pv c)]))] rfl rfl rfl rfl rfl rfl (ux [.tmp 34] rfl rfl rfl (hY z0 s0 a0 r5 Ny)) ⟨rfl,rfl,trivial⟩ fun z6=>?_;refine pf ?_;refine aq (nl ?_);exact g9 (z6,(r5.2,r5.1)) h (bi [.obj b1 107 (.rep (.arr 3 (.arr 5 (.int .i64))) a0),.obj x 210 (.eq (.func (.yield l) #[] #[])),.obj u 102 (.at bp a3),.obj c 211 (.eq (.func (.func 149) #[] #[(Pv u),(Pv x),(Pv c)]))] (E z6 r5.1) [2,1,3] ⟨rfl,trivial⟩ rfl)
   ·refine rx ?_;cases h;exact gj z3 [_] ⟨rfl,trivial⟩ rfl
  ·refine sk (ag (sr (fr 3 ?_)));refine lo yJ ?_;refine fr 2 ?_;refine lo bW ?_;refine mq ?_;obtain⟨x7,Nu,h⟩:=aa h;refine jb (bM rfl Nu) ?_;refine mq ?_;obtain⟨r8,Nw,h⟩:=aa h;refine fr 1 ?_;refine fr 3 ?_;refine fr 3 ?_;refine fr 3 ?_;refine m3 [.obj b1 107 (.rep (.arr 3 (.arr 5 (.int .i64))) a0)] rfl rfl rfl (mK (fs:=[]) (cs:=[(Pv u),(Pv x),(Pv c)]) (ags:=[.rep (.arr 3 (.arr 5 (.int .i64))) a0,I x7,.eq (.int .u8 a2)]) [.tmp 38,.tmp 40,.tmp 41] rfl rfl Dc rfl (ih a0 x7 a2 z0 s0 r8 Nw)) ⟨rfl,rfl,rfl,rfl,trivial⟩ fun z9=>?_;refine ja (dA rfl) ?_;refine nt (cw h (fun h=>?_) (fun h=>?_))
   ·refine sr (cq (nt (rx ?_)));refine bf (bi (Γ':=[(9,_)]) [.obj b1 107 (.rep (.arr 3 (.arr 5 (.int .i64))) a0),.obj u 102 (.at bp a3),.obj x 210 (.eq (.func (.yield l) #[] #[])),.obj c 211 (.eq (.func (.func 149) #[] #[(Pv u),(Pv x),(Pv c)]))] (E z9 r8.2) [1,2,3] ⟨rfl,trivial⟩ rfl) ?_;cases h;exact gj z9 [_] ⟨rfl,trivial⟩ rfl
   ·refine sk (sr (lo bW ?_));refine mq ?_;obtain⟨F,Nj,h⟩:=aa h;refine jb (aj [.tmp 44,.tmp 45] rfl rfl zg rfl (eP k a0 a1 F Nj)) ?_;refine aq (nt ?_);refine fA (Z:=Z) (α:=σ) (fun qt MY=>[]) (fun qt MY=>[.obj u 102 (.at bp a3),.obj x 210 (.eq (.func (.yield l) #[] #[])),.obj c 211 (.eq (.func (.func 149) #[] #[(Pv u),(Pv x),(Pv c)]))]++E qt MY) (fun e=>e=r) h (fun e h=>Option.some.inj h) (fun K hR h=>?_) (fun qt MY h=>?_)
    ·refine sr (fr 1 ?_);refine lo jl ?_;refine ja (c9 rfl) ?_;refine ja (aN 3 true rfl il rfl) ?_;refine ja (aN 1 false rfl ik rfl) ?_;refine ja (au (t:=(.slice c6)) rfl oS rfl) ?_;refine ol vt ?_;refine de rfl ?_;refine nt (ao (aR (Z:=Z) (α:=Int×σ) (fun J y=>[(1,I a1),(2,.eq (.int .u8 a2)),(3,Pt u),(5,Pt c),(6,Pt b1),(10,Ri F),(51,Rs c6 a3.1.2.1),(52,I (a3.1.2.1.length:Int)),(53,I y.1)]) (fun J y=>[.obj u 102 (.at bp a3),.obj c 211 (.eq (.func (.func 149) #[] #[(Pv u),(Pv x),(Pv c)])),.obj x 210 (.eq (.func (.yield l) #[] #[])),.obj b1 107 (.rep (.arr 3 (.arr 5 (.int .i64))) a0)]++E J y.2) (dp k a0 a1 a2 a3 (cD k Y a3 m0) F) k z9 (0,r8.2) (fun _=>rfl) h (bi [.obj u 102 (.at bp a3),.obj b1 107 (.rep (.arr 3 (.arr 5 (.int .i64))) a0),.obj x 210 (.eq (.func (.yield l) #[] #[])),.obj c 211 (.eq (.func (.func 149) #[] #[(Pv u),(Pv x),(Pv c)]))] (E z9 r8.2) [0,3,2,1] ⟨rfl,rfl,rfl,rfl,rfl,rfl,rfl,rfl,rfl,trivial⟩ rfl) (fun n J y h=>?_)));unfold dp at h;refine sr (jb (bO rfl) ?_);refine nt (ag (ci h (fun h=>?_) (fun h=>?_)))
     ·refine sk (fA (Z:=Z) (α:=σ) (fun X mc=>[(1,I a1),(2,.eq (.int .u8 a2)),(3,Pt u),(5,Pt c),(6,Pt b1),(10,Ri F),(51,Rs c6 a3.1.2.1),(52,I (a3.1.2.1.length:Int)),(53,I y.1)]) (fun X mc=>[.obj u 102 (.at bp a3),.obj c 211 (.eq (.func (.func 149) #[] #[(Pv u),(Pv x),(Pv c)])),.obj x 210 (.eq (.func (.yield l) #[] #[])),.obj b1 107 (.rep (.arr 3 (.arr 5 (.int .i64))) a0)]++E X mc) (fun e=>e=r) h (fun e h=>hR e h) (fun K hR h=>?_) (fun X mc h=>?_))
      ·refine ao (sr (mq ?_));obtain⟨M5,Na,h⟩:=aa h;refine jb (bH (t:=c6) rfl vt pX Na) ?_;refine ja (au (t:=c6) rfl pX rfl) ?_;refine ay rfl rfl rfl (ba rfl rE HW) trivial fun Nk=>?_;refine aq ?_;refine aX rfl rfl (aO rfl pX rfl rfl rfl) ⟨rfl,rfl,trivial⟩ ?_;refine nt (ag (a9 (Z:=Z) (α:=Bool×σ) (fun U O=>[(1,I a1),(2,.eq (.int .u8 a2)),(3,Pt u),(5,Pt c),(6,Pt b1),(10,Ri F),(11,I y.1),(51,Rs c6 a3.1.2.1),(52,I (a3.1.2.1.length:Int)),(53,I y.1),(80,.eq (.bool O.1))]) (fun U O=>[.obj u 102 (.at bp a3),.obj c 211 (.eq (.func (.func 149) #[] #[(Pv u),(Pv x),(Pv c)])),.obj x 210 (.eq (.func (.yield l) #[] #[])),.obj b1 107 (.rep (.arr 3 (.arr 5 (.int .i64))) a0)]++E U O.2) h (fun K h=>?_) (fun U O h=>?_)))
       ·refine cX ?_;refine dm ?_;refine dm ?_;obtain⟨Nr,Ni,h⟩:=aa h;refine db (aj [.tmp 58,.tmp 59] rfl rfl Db rfl (eO k a2 y.1 Nr Ni)) ?_;refine zC rfl rfl rfl (bZ rfl) ⟨rfl,trivial⟩ (fun hb=>?_) (fun hb=>?_)
        ·replace h:=bD (xB hb) h;iterate 17 refine dg ?_
         refine df gz ?_;refine gn ?_;refine pt (nl ?_);exact g9 (J,(true,y.2)) h (bi [.obj Nk 27 (.rep c6 M5),.obj u 102 (.at bp a3),.obj c 211 (.eq (.func (.func 149) #[] #[(Pv u),(Pv x),(Pv c)])),.obj x 210 (.eq (.func (.yield l) #[] #[])),.obj b1 107 (.rep (.arr 3 (.arr 5 (.int .i64))) a0)] (E J y.2) [1,2,3,4] ⟨rfl,rfl,rfl,rfl,rfl,rfl,rfl,rfl,rfl,rfl,rfl,trivial⟩ rfl)
        ·replace h:=aP (xC hb) h;refine mi 1 rfl rfl rfl rfl rfl rfl (ap rfl jl np rfl) ⟨rfl,rfl,trivial⟩ ?_;refine dN rfl rfl rfl rfl rfl (c9 rfl) ⟨rfl,rfl,trivial⟩ ?_;refine dN rfl rfl rfl rfl rfl (aN 3 true rfl il rfl) ⟨rfl,rfl,trivial⟩ ?_;refine dN rfl rfl rfl rfl rfl (au (t:=aL) rfl fB rfl) ⟨rfl,rfl,trivial⟩ ?_;refine dN rfl rfl rfl rfl rfl (bZ rfl) ⟨rfl,rfl,trivial⟩ ?_;obtain⟨Nq,Nh,h⟩:=aa h;refine dN rfl rfl rfl rfl rfl (aj [.tmp 65,.tmp 66] rfl rfl Gm rfl (qH k a3.1 F Nq Nh)) ⟨rfl,rfl,rfl,trivial⟩ ?_;refine dN rfl rfl rfl rfl rfl (aD rfl uP) ⟨rfl,rfl,trivial⟩ ?_;refine mi 0 rfl rfl rfl rfl rfl rfl (ap rfl d4 np rfl) ⟨rfl,rfl,trivial⟩ ?_;obtain⟨Np,M9,h⟩:=aa h;refine dN rfl rfl rfl rfl rfl (bM rfl M9) ⟨rfl,rfl,rfl,trivial⟩ ?_;refine mi 1 rfl rfl rfl rfl rfl rfl (ap rfl jl np rfl) ⟨rfl,rfl,trivial⟩ ?_;refine dN rfl rfl rfl rfl rfl (c9 rfl) ⟨rfl,rfl,trivial⟩ ?_;refine dN rfl rfl rfl rfl rfl (aN 3 true rfl il rfl) ⟨rfl,rfl,trivial⟩ ?_;refine dN rfl rfl rfl rfl rfl (aN 1 false rfl ku rfl) ⟨rfl,rfl,trivial⟩ ?_;refine dN rfl rfl rfl rfl rfl (au (t:=(.slice (.int .i64))) rfl dG rfl) ⟨rfl,rfl,trivial⟩ ?_;refine dN rfl rfl rfl rfl rfl (bZ rfl) ⟨rfl,rfl,trivial⟩ ?_;obtain⟨Nn,M8,h⟩:=aa h;refine dN rfl rfl rfl rfl rfl (bH (t:=(.int .i64)) rfl fU d4 M8) ⟨rfl,rfl,rfl,trivial⟩ ?_;refine dN rfl rfl rfl rfl rfl (au (t:=(.int .i64)) rfl d4 rfl) ⟨rfl,rfl,trivial⟩ ?_;refine df gz ?_;refine gb (kP rfl) ?_;refine pf (nl ?_);exact g9 (J,(decide (Nn < Np),y.2)) h (bi [.obj Nk 27 (.rep c6 M5),.obj u 102 (.at bp a3),.obj c 211 (.eq (.func (.func 149) #[] #[(Pv u),(Pv x),(Pv c)])),.obj x 210 (.eq (.func (.yield l) #[] #[])),.obj b1 107 (.rep (.arr 3 (.arr 5 (.int .i64))) a0)] (E J y.2) [1,2,3,4] ⟨rfl,rfl,rfl,rfl,rfl,rfl,rfl,rfl,rfl,rfl,rfl,trivial⟩ rfl)
       ·refine cv h (fun h=>?_) (fun h=>?_)
        ·refine dM (aZ (bY (ae ?_)));exact g9 (U,O.2) h (bi [.obj u 102 (.at bp a3),.obj c 211 (.eq (.func (.func 149) #[] #[(Pv u),(Pv x),(Pv c)])),.obj x 210 (.eq (.func (.yield l) #[] #[])),.obj b1 107 (.rep (.arr 3 (.arr 5 (.int .i64))) a0)] (E U O.2) [0,1,2,3] ⟨rfl,rfl,rfl,rfl,rfl,rfl,rfl,rfl,rfl,trivial⟩ rfl)
        ·refine sk (sr (fr 3 ?_));refine lo bW ?_;refine ay rfl rfl rfl (ba rfl iu ix) trivial fun M4=>?_;refine aX rfl rfl (aO rfl bW rfl rfl rfl) ⟨rfl,rfl,trivial⟩ ?_;refine nt (sr ?_);iterate 2 refine mq ?_
         refine ol fU ?_;refine mq ?_;obtain⟨NA,MX,h⟩:=aa h;refine jb (fg rfl Aw qL (aB MX).1 (aB MX).2) ?_;obtain⟨ac,M7,h⟩:=aa h;obtain⟨Nz,Q,h⟩:=aa h;refine jb (fg rfl FD d4 (aB Q).1 (aB Q).2) ?_;refine aX rfl rfl (lZ (t:=(.int .i64)) (off:=0) (i:=a1) (j:=(F.length:Int)) (N:=3) (L:=5) rfl d4 .int rfl rfl rfl rfl M7 (aB Q).1 (aB Q).2 rfl) ⟨rfl,rfl,trivial⟩ ?_;refine nt (ag (cX ?_));refine ea 3 (ap rfl yJ np rfl) ?_;refine ea 0 (ap rfl bW (sS) rfl) ?_;refine dm ?_;refine dm ?_;refine dm ?_;obtain⟨MZ,Nc,h⟩:=aa h;refine db (aj [.tmp 91,.tmp 92] rfl rfl ze rfl (gG k a2 y.1 MZ Nc)) ?_;refine df gz ?_;obtain⟨se,Nb,h⟩:=aa h;refine fr 3 ?_;refine fr 4 ?_;refine fr 4 ?_;refine fr 4 ?_;refine fr 4 ?_;refine m3 [.obj M4 107 (.rep (.arr 3 (.arr 5 (.int .i64))) (List.set a0 (Int.toNat a1) (List.set ac (Int.toNat (F.length:Int)) y.1))),.obj b1 107 (.rep (.arr 3 (.arr 5 (.int .i64))) a0)] rfl rfl rfl (mK (fs:=[]) (cs:=[(Pv u),(Pv x),(Pv c)]) (ags:=[.rep (.arr 3 (.arr 5 (.int .i64))) (List.set a0 (Int.toNat a1) (List.set ac (Int.toNat (F.length:Int)) y.1)),I a1,.eq (.int .u8 MZ)]) [.tmp 89,.tmp 90,.tmp 93] rfl rfl Dc rfl (ih (List.set a0 (Int.toNat a1) (List.set ac (Int.toNat (F.length:Int)) y.1)) a1 MZ U O.2 se Nb)) ⟨rfl,rfl,rfl,rfl,trivial⟩ fun pp=>?_;refine ja (dA rfl) ?_;refine nt (cw h (fun h=>?_) (fun h=>?_))
         ·refine sr (cq (nt (aA (br (bF (aW ?_))))));refine bf (bi (Γ':=[(9,_)]) [.obj M4 107 (.rep (.arr 3 (.arr 5 (.int .i64))) (List.set a0 (Int.toNat a1) (List.set ac (Int.toNat (F.length:Int)) y.1))),.obj b1 107 (.rep (.arr 3 (.arr 5 (.int .i64))) a0),.obj u 102 (.at bp a3),.obj x 210 (.eq (.func (.yield l) #[] #[])),.obj c 211 (.eq (.func (.func 149) #[] #[(Pv u),(Pv x),(Pv c)]))] (E pp se.2) [2,3,4] ⟨rfl,trivial⟩ rfl) ?_;obtain rfl:=hR _ h;exact gj pp [_] ⟨rfl,trivial⟩ rfl
         ·refine aU (bn ?_);exact g9 (pp,se.2) h (bi [.obj M4 107 (.rep (.arr 3 (.arr 5 (.int .i64))) (List.set a0 (Int.toNat a1) (List.set ac (Int.toNat (F.length:Int)) y.1))),.obj b1 107 (.rep (.arr 3 (.arr 5 (.int .i64))) a0),.obj u 102 (.at bp a3),.obj x 210 (.eq (.func (.yield l) #[] #[])),.obj c 211 (.eq (.func (.func 149) #[] #[(Pv u),(Pv x),(Pv c)]))] (E pp se.2) [2,4,3,1] ⟨rfl,rfl,rfl,rfl,rfl,rfl,rfl,rfl,rfl,trivial⟩ rfl)
      ·refine ab ?_;obtain⟨Nl,M6,h⟩:=aa h;refine jb (bM rfl M6) ?_;refine mq (nl ?_);exact g9 (X,(Nl,mc)) h (bi [.obj u 102 (.at bp a3),.obj c 211 (.eq (.func (.func 149) #[] #[(Pv u),(Pv x),(Pv c)])),.obj x 210 (.eq (.func (.yield l) #[] #[])),.obj b1 107 (.rep (.arr 3 (.arr 5 (.int .i64))) a0)] (E X mc) [0,1,2,3] ⟨rfl,rfl,rfl,rfl,rfl,rfl,rfl,rfl,rfl,trivial⟩ rfl)
     ·refine xa ?_;exact g9 (J,y.2) h (bi [.obj u 102 (.at bp a3),.obj c 211 (.eq (.func (.func 149) #[] #[(Pv u),(Pv x),(Pv c)])),.obj x 210 (.eq (.func (.yield l) #[] #[])),.obj b1 107 (.rep (.arr 3 (.arr 5 (.int .i64))) a0)] (E J y.2) [0,2,1] trivial rfl)
    ·refine sr (cq (nt (aA ?_)));cases h;exact gj qt [_] ⟨rfl,trivial⟩ rfl
def dF{σ:Type}(k:Nat)(Y:σ→(List (List Int))→Option (σ×Bool))(a1:cI)(s0:σ):Option (σ):=
 (cY k ([]:(List (List Int)))).bind fun r2=>
 (cD k Y a1 k r2 0 0 s0).bind fun r5=>
 some r5.2
theorem fi{M:Md Tryz.prog}{σ Z:Type}(E:Z→σ→List D)(l:Nat)(Y:σ→(List (List Int))→Option (σ×Bool))(k:Nat)(a1:cI)(c:Nat)(hY:∀z s p r,Y s p=some r→YT M l [.rep (.arr 3 (.arr 5 (.int .i64))) p] (E z s) (fun z':Z=>(.eq (.bool r.2),E z' r.1))):
 ∀(z0:Z) (s0:σ) (r:σ),dF k Y a1 s0=some r→cH M 148 [.eq (.func (.yield l) #[] #[]),Pt c] ([.obj c 102 (.at bp a1)]++E z0 s0) (fun z:Z=>(bG [],[.obj c 102 (.at bp a1)]++E z r)):=by
 intro z0 s0 r h
 unfold dF at h
 replace h:=bq h
 refine cH.of 10 Tryz.func148 rfl Tryz.ntmps148 rfl fun S w0=>?_
 refine sr ?_
 refine bx fun b1=>?_
 refine nt ?_
 refine sr ?_
 obtain⟨r2,j,h⟩:=aa h
 have u:=cE k ([]:(List (List Int))) r2 j
 refine ja (aK (N:=[(.const (.slice none 0 0),.eq (.slice none 0 0))]) (aj [.const (.slice none 0 0)] rfl rfl uS rfl u) fun _ _ _ hn=>⟨(bb (t:=(.slice (.slice (.int .i64)))) (x:=([]:(List (List Int)))) .nil rfl rfl hn.1),trivial⟩) ?_
 refine ay rfl rfl rfl (ba rfl iu ix) trivial fun b3=>?_
 refine aX rfl rfl (aO rfl bW rfl rfl rfl) ⟨rfl,rfl,trivial⟩ ?_
 refine nt ?_
 refine sr ?_
 refine ay rfl rfl rfl (ba rfl Im KB) trivial fun b4=>?_
 refine nt ?_
 refine sr ?_
 refine jc (qh [] [.tmp 1,.tmp 2,.tmp 4] [] [(Pv c),(Pv b1),(Pv b4)] rfl rfl rfl) ?_
 refine aX rfl rfl (aO rfl yJ rfl rfl rfl) ⟨rfl,rfl,trivial⟩ ?_
 refine nt ?_
 refine ab ?_
 refine lo yJ ?_
 refine fr 1 ?_
 refine lo bW ?_
 obtain⟨r5,e,h⟩:=aa h
 have n:=lb E l Y k a1 c b1 b4 hY k r2 0 0 z0 s0 r5 e
 refine fr 1 ?_
 refine fr 2 ?_
 refine fr 3 ?_
 refine fr 3 ?_
 refine m3 [.obj b3 107 (.rep (.arr 3 (.arr 5 (.int .i64))) r2)] rfl rfl rfl (mK (fs:=[]) (cs:=[(Pv c),(Pv b1),(Pv b4)]) (ags:=[.rep (.arr 3 (.arr 5 (.int .i64))) r2,I 0,.eq (.int .u8 0)]) [.tmp 8,.const (.int .i64 (0)),.const (.int .u8 (0))] rfl rfl Dc rfl n) ⟨rfl,rfl,rfl,rfl,trivial⟩ fun z6=>?_
 refine an ?_
 refine gB ?_
 refine bf (bi (Γ':=[]) [.obj b3 107 (.rep (.arr 3 (.arr 5 (.int .i64))) r2),.obj c 102 (.at bp a1),.obj b1 210 (.eq (.func (.yield l) #[] #[])),.obj b4 211 (.eq (.func (.func 149) #[] #[(Pv c),(Pv b1),(Pv b4)]))] (E z6 r5.2) [1] trivial rfl) ?_
 cases h
 exact gj z6 [] trivial rfl
def gU(k:Nat)(a1:cI):Option (List (List (List Int))):=
 (dF k (mn (fun(y2:(List (List (List Int)))) (p4:(List (List Int)))=>
  (fu (cg (List.length y2+List.length [p4]))).bind fun _=>
  some (y2++[p4],true))) a1 (([]:(List (List (List Int)))),false)).bind fun r5=>
 if r5.2=true then(none) else(some r5.1)
theorem mA(k:Nat)(a1:cI)(c:Nat)(r:(List (List (List Int))))(h:gU k a1=some r):
 cy Tryz.prog 147 [.eq (.slice none 0 0),.eq (.func (.func 148) #[] #[(Pv c)])] [.obj c 102 (.at bp a1)] (fun z:Value=>(bG [.eq z],[.sl z 107 (.arr 3 (.arr 5 (.int .i64))) r,.obj c 102 (.at bp a1)])):=by
 unfold gU at h
 replace h:=bq h
 refine vo 13 Tryz.func147 rfl Tryz.ntmps147 rfl fun {M} S w0=>?_
 refine sr ?_
 refine bx fun b1=>?_
 refine cq ?_
 refine nt ?_
 refine ag ?_
 refine sr ?_
 refine mq ?_
 refine nt ?_
 refine ao ?_
 refine gr (SE.nil 107 (.arr 3 (.arr 5 (.int .i64)))) ?_
 refine cC 1 rfl ?_
 refine cC 2 rfl ?_
 obtain⟨r5,j,h⟩:=aa h
 refine ip (Δ:=[.obj c 102 (.at bp a1),.obj b1 152 (.eq (.slice none 0 0)),.sl (.slice none 0 0) 107 (.arr 3 (.arr 5 (.int .i64))) ([]:(List (List (List Int))))]) (F:=[]) (X:=Value) (J:=fun _=>yi r5.2) (E:=fun z3=>[.obj c 102 (.at bp a1),.obj b1 152 (.eq z3),.sl z3 107 (.arr 3 (.arr 5 (.int .i64))) r5.1]) (r0:=fun _=>.tup .any) rfl rfl Df (fun rec hp ha hb hs hpe hN hv l=>?_) (fun dl z3=>jW (fun hj=>?_) (fun hj=>?_))
 ·
  rcases rec with⟨st0,pe0,fn0,tm0,ps0,as0,bd0,df0⟩;dsimp only at hp ha hb hs hpe hN hv;subst hp hs hpe;have vN:qC tm0 [(2,Pt b1)]:=⟨congrArg A.eq (hv 2 _ rfl).symm,trivial⟩;refine cH.pick (M:=M) [1,0,2,3] [1,0,2,3] (fi (fun(z3:Value) (q:(List (List (List Int)))×Bool)=>[.raw l (.loop (fJ ⟨.ready,none,fn0,tm0, #[7],as0,bd0,df0⟩ (yi q.2))),.obj b1 152 (.eq z3),.sl z3 107 (.arr 3 (.arr 5 (.int .i64))) q.1]) l (mn (fun(y2:(List (List (List Int)))) (p4:(List (List Int)))=>
  (fu (cg (List.length y2+List.length [p4]))).bind fun _=>
  some (y2++[p4],true))) k a1 c (fun z3 q p r' h=>?_) (.slice none 0 0) (([]:(List (List (List Int)))),false) r5 j) rfl (fun _=>rfl) (fun _=>rfl)
  obtain⟨rq,hq,h2,rfl⟩:=jX h;obtain⟨y2,b5⟩:=q;obtain rfl:b5=false:=hq;replace h:=bq h2;obtain⟨p4,hpv⟩:∃x,x=p:=⟨_,rfl⟩;subst hpv;refine YT.pick (R':=(fun z3:Value=>(.eq (.bool rq.2),[.raw l (.loop (fJ ⟨.ready,none,fn0,tm0, #[7],as0,bd0,df0⟩ (yi (!rq.2)))),.obj b1 152 (.eq z3),.sl z3 107 (.arr 3 (.arr 5 (.int .i64))) rq.1]))) [0,1,2] [0,1,2] (vb ha hb (N:=13) (Γ:=[(2,Pt b1)]) rfl hN (by decide) vN (fun S w=>?_)) rfl (fun _=>rfl) (fun _=>rfl);refine ab (ay rfl rfl rfl (ba rfl iu ix) trivial fun b6=>?_);refine aX rfl rfl (aO rfl bW rfl rfl rfl) ⟨rfl,rfl,trivial⟩ ?_;refine nl (aE 1 rfl ?_);refine m4 rfl rfl ?_;refine ao (ab (fr 2 ?_));refine lo A8 ?_;refine fr 2 ?_;refine lo bW ?_;refine ja (aJ (t:=(.arr 3 (.arr 5 (.int .i64)))) [(.tmp 9,_)] [p4] rfl rfl F6 (.cons rfl .rep .nil) rfl rfl) ?_;obtain⟨u7,e,h⟩:=aa h;refine fr 3 ?_;refine eh rfl rfl rfl (cV rfl rfl F6 (aB e)) ⟨rfl,rfl,trivial⟩ fun v8=>?_;refine vi fun o9=>?_;refine fr 2 ?_;refine aX rfl rfl (aO rfl A8 o9 rfl rfl) ⟨rfl,rfl,trivial⟩ ?_;refine an (aI (aE 1 rfl ?_));refine aE 1 rfl ?_;refine aE 3 rfl ?_;cases h;exact g8 v8 2 rfl
 ·
  replace h:=aP (xC hj) h;refine aI (tn (sr (fr 2 ?_)));refine lo A8 ?_;refine aq (nt (aA ?_));refine aE 1 rfl ?_;refine nB ?_;refine bf (SE.fin (Γ':=[(4,_)]) [2,1,0] ⟨rfl,trivial⟩ rfl) ?_;cases h;exact aC z3 [.eq z3] 2 ⟨rfl,trivial⟩ rfl
 ·
  replace h:=bD (xB hj) h;cases h
def iD(k:Nat)(a0:cI):Option (List (List (List Int))):=
 (gU k a0).bind fun r1=>
 some r1
theorem nG(k:Nat)(a0:cI)(c:Nat)(r:(List (List (List Int))))(h:iD k a0=some r):
 cy Tryz.prog 115 [.eq (.func (.func 148) #[] #[(Pv c)])] [.obj c 102 (.at bp a0)] (fun _:Unit=>(bG [.rep (.slice (.arr 3 (.arr 5 (.int .i64)))) r],[.obj c 102 (.at bp a0)])):=by
 unfold iD at h
 replace h:=bq h
 refine cy.of 5 Tryz.func115 rfl Tryz.ntmps115 rfl fun S w0=>?_
 refine sr ?_
 refine cq ?_
 refine nt ?_
 refine sr ?_
 refine mq ?_
 obtain⟨r1,e,h⟩:=aa h
 have j:=mA k a0 c r1 e
 refine bI (Δ:=[_]) (F:=_) (fun _ _ _=>ar rfl _) rfl rfl (aj [.const (.slice none 0 0),.tmp 3] rfl rfl J2 rfl j) ⟨rfl,rfl,trivial⟩ fun z2=>?_
 refine aq ?_
 refine nt ?_
 refine aA ?_
 refine bf (d6 [2,4] ⟨rfl,rfl,trivial⟩) ?_
 cases h
 exact aC () [_] 1 ⟨rfl,trivial⟩ rfl
theorem fX(a0:cI):cy Tryz.prog 116 [.at bp a0] [] (fun z:Nat=>(bG [.eq (.func (.func 148) #[] #[(Pv z)])],[.obj z 102 (.at bp a0)])):=by
 refine cy.of 4 Tryz.func116 rfl Tryz.ntmps116 rfl fun S w0=>?_;refine sr (ay rfl rfl rfl (mL rfl trivial) ⟨rfl,trivial⟩ fun z=>?_);refine cq (nt (sr ?_));refine ja (qh [] [.tmp 1] [] [(Pv z)] rfl rfl rfl) ?_;refine aq (nt (aA ?_));exact aC z [_] 1 ⟨rfl,trivial⟩ rfl
def bB(k:Nat)(a0:(List Int)):Option bC:=
 ((if(a0.length:Int)=0 then(some [3,2]) else(some a0)):Option ((List Int))).bind fun x2=>
 some (3,[(1,[0,2]),(1,[1]),(2,[2]),(1,[0,1])],x2)
theorem be(k:Nat)(a0:(List Int))(r:bC)(h:bB k a0=some r):
 cy Tryz.prog 78 [Ri a0] [] (fun _:Unit=>(bG [.rep aL r],[])):=by
 unfold bB at h
 replace h:=bq h
 refine cy.of 18 Tryz.func78 rfl Tryz.ntmps78 rfl fun S w0=>?_
 refine sr ?_
 refine ay rfl rfl rfl (ba rfl vv Au) trivial fun b1=>?_
 refine nt ?_
 refine a9 (Z:=Unit) (α:=(List Int)) (fun z3 x2=>[(0,Ri x2),(2,Pt b1)]) (fun z3 x2=>[.obj b1 25 (.agg (.pair (I 0) (.pair (.eq (.slice none 0 0)) (.eq (.slice none 0 0)))))]) h (fun K h=>?_) (fun z3 x2 h=>?_)
 ·
  refine sr (mq ?_);refine ol fU ?_;refine jb (du rfl) ?_;refine nt (ci h (fun h=>?_) (fun h=>?_))
  ·refine ab (jb (aJ (t:=(.int .i64)) [(.const (.int .i64 (3)),_),(.const (.int .i64 (2)),_)] [3,2] rfl rfl cR (.cons rfl .int (.cons rfl .int .nil)) rfl rfl) ?_);refine aq (nl ?_);exact jz ((),[3,2]) h [0]
  ·refine aU (ae ?_);exact jz ((),a0) h [0]
 ·
  refine sr (jb (aJ (t:=(.int .i64)) [(.const (.int .i64 (0)),_),(.const (.int .i64 (2)),_)] [0,2] rfl rfl cR (.cons rfl .int (.cons rfl .int .nil)) rfl rfl) ?_);refine jb (cK [(0,.const (.int .i64 (1)),_),(1,.tmp 7,_)] rfl vS rE qU (gy ⟨rfl,rfl,trivial⟩) rfl) ?_;refine ja (aJ (t:=(.int .i64)) [(.const (.int .i64 (1)),_)] [1] rfl rfl cR (.cons rfl .int .nil) rfl rfl) ?_;refine jb (cK [(0,.const (.int .i64 (1)),_),(1,.tmp 9,_)] rfl vS rE qU (gy ⟨rfl,rfl,trivial⟩) rfl) ?_;refine ja (aJ (t:=(.int .i64)) [(.const (.int .i64 (2)),_)] [2] rfl rfl cR (.cons rfl .int .nil) rfl rfl) ?_;refine jb (cK [(0,.const (.int .i64 (2)),_),(1,.tmp 11,_)] rfl vS rE qU (gy ⟨rfl,rfl,trivial⟩) rfl) ?_;refine jb (aJ (t:=(.int .i64)) [(.const (.int .i64 (0)),_),(.const (.int .i64 (1)),_)] [0,1] rfl rfl cR (.cons rfl .int (.cons rfl .int .nil)) rfl rfl) ?_;refine jb (cK [(0,.const (.int .i64 (1)),_),(1,.tmp 13,_)] rfl vS rE qU (gy ⟨rfl,rfl,trivial⟩) rfl) ?_;refine ax rfl (aJ (t:=c6) [(.tmp 8,_),(.tmp 10,_),(.tmp 12,_),(.tmp 14,_)] [(1,[0,2]),(1,[1]),(2,[2]),(1,[0,1])] rfl rfl IJ (.cons trivial (.agg (.pair .int .rep)) (.cons trivial (.agg (.pair .int .rep)) (.cons trivial (.agg (.pair .int .rep)) (.cons trivial (.agg (.pair .int .rep)) .nil)))) rfl rfl) ⟨rfl,rfl,rfl,rfl,trivial⟩ ?_;refine mq ?_;refine jc (cK [(0,.const (.int .i64 (3)),_),(1,.tmp 15,_),(2,.tmp 16,_)] rfl IL vv Gx (gy ⟨rfl,rfl,rfl,trivial⟩) rfl) ?_;refine aX rfl rfl (aO rfl fB trivial rfl rfl) ⟨rfl,rfl,trivial⟩ ?_;refine nt (aA (bf (nz (a:=.agg (.pair (I 3) (.pair (Rs c6 [(1,[0,2]),(1,[1]),(2,[2]),(1,[0,1])]) (Ri x2)))) (a':=.rep aL (3,[(1,[0,2]),(1,[1]),(2,[2]),(1,[0,1])],x2)) (vp (.agg (.pair .int (.pair .rep .rep))))) ?_));cases h;exact aC () [.rep aL (3,[(1,[0,2]),(1,[1]),(2,[2]),(1,[0,1])],x2)] 0 ⟨⟨_,_,_,_,_,rfl,(.head _),fB,(sS),rfl⟩,trivial⟩ rfl
theorem jD(k:Nat)(a0:(List Int))(r:bC)(h:bB k a0=some r):
 cy Tryz.prog 78 [Ri a0] [] (fun z:Value=>(bG [.agg (.pair (I r.1) (.pair (.eq z) (Ri r.2.2)))],[.sl z 27 c6 r.2.1])):=by
 unfold bB at h
 replace h:=bq h
 refine cy.of 18 Tryz.func78 rfl Tryz.ntmps78 rfl fun S w0=>?_
 refine sr ?_
 refine ay rfl rfl rfl (ba rfl vv Au) trivial fun b1=>?_
 refine nt ?_
 refine a9 (Z:=Unit) (α:=(List Int)) (fun z3 x2=>[(0,Ri x2),(2,Pt b1)]) (fun z3 x2=>[.obj b1 25 (.agg (.pair (I 0) (.pair (.eq (.slice none 0 0)) (.eq (.slice none 0 0)))))]) h (fun K h=>?_) (fun z3 x2 h=>?_)
 ·
  refine sr (mq ?_);refine ol fU ?_;refine jb (du rfl) ?_;refine nt (ci h (fun h=>?_) (fun h=>?_))
  ·refine ab (jb (aJ (t:=(.int .i64)) [(.const (.int .i64 (3)),_),(.const (.int .i64 (2)),_)] [3,2] rfl rfl cR (.cons rfl .int (.cons rfl .int .nil)) rfl rfl) ?_);refine aq (nl ?_);exact jz ((),[3,2]) h [0]
  ·refine aU (ae ?_);exact jz ((),a0) h [0]
 ·
  refine sr (jb (aJ (t:=(.int .i64)) [(.const (.int .i64 (0)),_),(.const (.int .i64 (2)),_)] [0,2] rfl rfl cR (.cons rfl .int (.cons rfl .int .nil)) rfl rfl) ?_);refine jb (cK [(0,.const (.int .i64 (1)),_),(1,.tmp 7,_)] rfl vS rE qU (gy ⟨rfl,rfl,trivial⟩) rfl) ?_;refine ja (aJ (t:=(.int .i64)) [(.const (.int .i64 (1)),_)] [1] rfl rfl cR (.cons rfl .int .nil) rfl rfl) ?_;refine jb (cK [(0,.const (.int .i64 (1)),_),(1,.tmp 9,_)] rfl vS rE qU (gy ⟨rfl,rfl,trivial⟩) rfl) ?_;refine ja (aJ (t:=(.int .i64)) [(.const (.int .i64 (2)),_)] [2] rfl rfl cR (.cons rfl .int .nil) rfl rfl) ?_;refine jb (cK [(0,.const (.int .i64 (2)),_),(1,.tmp 11,_)] rfl vS rE qU (gy ⟨rfl,rfl,trivial⟩) rfl) ?_;refine jb (aJ (t:=(.int .i64)) [(.const (.int .i64 (0)),_),(.const (.int .i64 (1)),_)] [0,1] rfl rfl cR (.cons rfl .int (.cons rfl .int .nil)) rfl rfl) ?_;refine jb (cK [(0,.const (.int .i64 (1)),_),(1,.tmp 13,_)] rfl vS rE qU (gy ⟨rfl,rfl,trivial⟩) rfl) ?_;refine ay rfl rfl rfl (l5 (t:=c6) [(.tmp 8,_),(.tmp 10,_),(.tmp 12,_),(.tmp 14,_)] [(1,[0,2]),(1,[1]),(2,[2]),(1,[0,1])] rfl rfl IJ (.cons trivial (.agg (.pair .int .rep)) (.cons trivial (.agg (.pair .int .rep)) (.cons trivial (.agg (.pair .int .rep)) (.cons trivial (.agg (.pair .int .rep)) .nil)))) rfl rfl) ⟨rfl,rfl,rfl,rfl,trivial⟩ fun v4=>?_;refine mq ?_;refine vi fun o5=>?_;refine jc (cK [(0,.const (.int .i64 (3)),_),(1,.tmp 15,_),(2,.tmp 16,_)] rfl IL vv Gx (gy ⟨rfl,o5,rfl,trivial⟩) rfl) ?_;refine fr 1 ?_;refine aX rfl rfl (aO rfl fB trivial rfl rfl) ⟨rfl,rfl,trivial⟩ ?_;refine nt (aA (bf (SE.fin (Γ':=[(2,_)]) [1,0] ⟨rfl,trivial⟩ rfl) ?_));cases h;exact aC v4 [.agg (.pair (I 3) (.pair (.eq v4) (Ri x2)))] 1 ⟨⟨_,_,_,_,_,rfl,(.tail _ (.head _)),fB,(sS),rfl⟩,trivial⟩ rfl
def iZ(k:Nat):Option (List (List Int)):=
 some [[1,0,3],[2]]
theorem dT(k:Nat)(r:(List (List Int)))(h:iZ k=some r):
 cy Tryz.prog 79 [] [] (fun _:Unit=>(bG [.rep (.slice (.slice (.int .i64))) r],[])):=by
 unfold iZ at h
 replace h:=bq h
 refine cy.of 4 Tryz.func79 rfl Tryz.ntmps79 rfl fun S w0=>?_
 refine sr ?_
 refine cq ?_
 refine nt ?_
 refine sr ?_
 refine jc (aJ (t:=(.int .i64)) [(.const (.int .i64 (1)),_),(.const (.int .i64 (0)),_),(.const (.int .i64 (3)),_)] [1,0,3] rfl rfl cR (.cons rfl .int (.cons rfl .int (.cons rfl .int .nil))) rfl rfl) ?_
 refine ja (aJ (t:=(.int .i64)) [(.const (.int .i64 (2)),_)] [2] rfl rfl cR (.cons rfl .int .nil) rfl rfl) ?_
 refine jb (aJ (t:=(.slice (.int .i64))) [(.tmp 1,_),(.tmp 2,_)] [[1,0,3],[2]] rfl rfl lh (.cons rfl .rep (.cons rfl .rep .nil)) rfl rfl) ?_
 refine aq ?_
 refine nt ?_
 refine aA ?_
 cases h
 exact ra
def yV(k:Nat):Option (List (List Int)):=
 some [[0,2],[3,1]]
theorem wE(k:Nat)(r:(List (List Int)))(h:yV k=some r):
 cy Tryz.prog 80 [] [] (fun _:Unit=>(bG [.rep (.slice (.slice (.int .i64))) r],[])):=by
 unfold yV at h
 replace h:=bq h
 refine cy.of 4 Tryz.func80 rfl Tryz.ntmps80 rfl fun S w0=>?_
 refine sr ?_
 refine cq ?_
 refine nt ?_
 refine sr ?_
 refine jb (aJ (t:=(.int .i64)) [(.const (.int .i64 (0)),_),(.const (.int .i64 (2)),_)] [0,2] rfl rfl cR (.cons rfl .int (.cons rfl .int .nil)) rfl rfl) ?_
 refine jb (aJ (t:=(.int .i64)) [(.const (.int .i64 (3)),_),(.const (.int .i64 (1)),_)] [3,1] rfl rfl cR (.cons rfl .int (.cons rfl .int .nil)) rfl rfl) ?_
 refine jb (aJ (t:=(.slice (.int .i64))) [(.tmp 1,_),(.tmp 2,_)] [[0,2],[3,1]] rfl rfl lh (.cons rfl .rep (.cons rfl .rep .nil)) rfl rfl) ?_
 refine aq ?_
 refine nt ?_
 refine aA ?_
 cases h
 exact ra
def mV(k:Nat)(a0:Int)(a1:Int):Option Int:=
 (jL k a0).bind fun r1=>
 (jL k a1).bind fun r2=>
 if r1=true then(if r2=true then(some 0) else(some (-1:Int))) else(if r2=true then(some 1) else(if a0 < a1 then(some (-1:Int)) else(if a1 < a0 then(some 1) else(some 0))))
theorem sK(k:Nat)(a0:Int)(a1:Int)(r:Int)(h:mV k a0 a1=some r):
 cy Tryz.prog 155 [I a0,I a1] [] (fun _:Unit=>(bG [I r],[])):=by
 unfold mV at h
 replace h:=bq h
 refine cy.of 20 Tryz.func155 rfl Tryz.ntmps155 rfl fun S w0=>?_
 refine sr ?_
 refine cq ?_
 refine nt ?_
 refine sr ?_
 refine mq ?_
 obtain⟨r1,e,h⟩:=aa h
 have l:=jE k a0 r1 e
 refine ja (aj [.tmp 7] rfl rfl zd rfl l) ?_
 refine aq ?_
 refine nt ?_
 refine sr ?_
 refine mq ?_
 obtain⟨r2,c,h⟩:=aa h
 have j:=jE k a1 r2 c
 refine ja (aj [.tmp 9] rfl rfl zd rfl j) ?_
 refine aq ?_
 refine nt ?_
 refine ag ?_
 refine sr ?_
 refine mq ?_
 refine nt ?_
 refine cv h (fun h=>?_) (fun h=>?_)
 ·
  refine ag (sr (mq (nt ?_)));refine cv h (fun h=>?_) (fun h=>?_)
  ·refine sr (cq (nt (rx (aW ?_))));cases h;exact ra
  ·refine sk (sr (cq (nt (rx ?_))));cases h;exact ra
 ·
  refine sk (ag (sr (mq (nt ?_))));refine cv h (fun h=>?_) (fun h=>?_)
  ·refine sr (cq (nt (rx ?_)));cases h;exact ra
  ·refine sk (ag (sr ?_));iterate 2 refine mq ?_
   refine jb (bO rfl) ?_;refine nt (ci h (fun h=>?_) (fun h=>?_))
   ·refine sr (cq (nt (rx ?_)));cases h;exact ra
   ·refine sk (ag (sr ?_));iterate 2 refine mq ?_
    refine jb (kP rfl) ?_;refine nt (ci h (fun h=>?_) (fun h=>?_))
    ·refine sr (cq (nt (rx ?_)));cases h;exact ra
    ·refine sk (sr (cq (nt (aA ?_))));cases h;exact ra
def fo(k:Nat)(a0:(List Int))(a1:(List Int)):Nat→Int→Option (Except Int Unit)
 |0,_=>none
 |n+1,y3=>
  if y3 < (a0.length:Int) then((cd a0 y3).bind fun x5=>
  if(a1.length:Int)≤y3 then(some (.error 1)) else((cd a1 y3).bind fun x6=>
  (mV k x5 x6).bind fun r7=>
  if¬(r7=0) then(some (.error r7)) else((ck (y3+1)).bind fun x8=>
  fo k a0 a1 n x8))) else(some (.ok ()))
def gI(k:Nat)(a0:(List Int))(a1:(List Int)):Option Int:=
 bE (α:=Unit) (fo k a0 a1 k 0) (some) fun _=>
 if(a0.length:Int) < (a1.length:Int) then(some (-1:Int)) else(some 0)
theorem nZ(k:Nat)(a0:(List Int))(a1:(List Int))(r:Int)(h:gI k a0 a1=some r):
 cy Tryz.prog 124 [Ri a0,Ri a1] [] (fun _:Unit=>(bG [I r],[])):=by
 unfold gI at h
 replace h:=bq h
 refine cy.of 36 Tryz.func124 rfl Tryz.ntmps124 rfl fun S w0=>?_
 refine sr ?_
 refine cq ?_
 refine nt ?_
 refine fA (Z:=Unit) (α:=Unit) (fun z2 x1=>[(0,Ri a0),(1,Ri a1)]) (fun z2 x1=>[]) (fun e=>e=r) h (fun e h=>Option.some.inj h) (fun K hR h=>?_) (fun z2 x1 h=>?_)
 ·
  refine sr (mq ?_);refine ol fU ?_;refine de rfl ?_;refine nt (ao (aR (fun z4 y3=>[(0,Ri a0),(1,Ri a1),(9,Ri a0),(10,I (a0.length:Int)),(11,I y3)]) (fun z4 y3=>[]) (fo k a0 a1) k () 0 (fun _=>rfl) h (SE.fin [] ⟨rfl,rfl,rfl,rfl,rfl,trivial⟩ rfl) (fun n z4 y3 h=>?_)));unfold fo at h;refine sr (jb (bO rfl) ?_);refine nt (ag (ci h (fun h=>?_) (fun h=>?_)))
  ·refine sk (ag (ao (sr (mq ?_))));obtain⟨x5,l,h⟩:=aa h;refine jb (bH (t:=(.int .i64)) rfl fU d4 l) ?_;refine ja (au (t:=(.int .i64)) rfl d4 rfl) ?_;refine aq ?_;refine aq (nt (ag (sr ?_)));iterate 2 refine mq ?_
   refine ol fU ?_;refine jb (mr rfl) ?_;refine nt (ci h (fun h=>?_) (fun h=>?_))
   ·refine sr (cq (nt (rx (br (bF (aW ?_))))));obtain rfl:=hR _ h;exact ra
   ·refine sk (sr ?_);iterate 2 refine mq ?_
    obtain⟨x6,j,h⟩:=aa h;refine jb (bH (t:=(.int .i64)) rfl fU d4 j) ?_;refine ja (au (t:=(.int .i64)) rfl d4 rfl) ?_;refine aq (nt (sr ?_));iterate 2 refine mq ?_
    obtain⟨r7,s,h⟩:=aa h;refine jb (aj [.tmp 24,.tmp 25] rfl rfl J1 rfl (sK k x5 x6 r7 s)) ?_;refine aq (nt (sr ?_));refine mq ?_;refine jb (cm rfl) ?_;refine nt (cn h (fun h=>?_) (fun h=>?_))
    ·refine sr (mq ?_);refine aq (nt (aA (br (bF (aW ?_)))));obtain rfl:=hR _ h;exact ra
    ·refine aU (aI (tn (ab ?_)));obtain⟨x8,c,h⟩:=aa h;refine jb (bM rfl c) ?_;refine mq (nl ?_);exact jz ((),x8) h []
  ·refine xa ?_;exact jz ((),()) h []
 ·
  refine ag (sr (mq ?_));refine ol fU ?_;refine mq ?_;refine ol fU ?_;refine jb (bO rfl) ?_;refine nt (ci h (fun h=>?_) (fun h=>?_))
  ·refine sr (cq (nt (rx ?_)));cases h;exact ra
  ·refine sk (sr (cq (nt (aA ?_))));cases h;exact ra
end Go.Proofs.YtcnpijmfgfnpiaaGreatDoor
