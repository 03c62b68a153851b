import Derived.Test.YtopgphikdglphaaGreatP1
set_option linter.unusedVariables false
set_option maxRecDepth 4000
namespace Go.Proofs.YtopgphikdglphaaGreat
open K Go Go.Proofs
def lv(k:Nat)(a1:(List ap))(a2:Int)(q3:(ae×(List (Bool×Int))×(List Int)))(r6:(List Int)×(List Int)):Nat→(Int×Int×Int)→Option (Int×Int)
 |0,_=>none
 |n+1,c=>
  if c.2.2 < (a1.length:Int) then((((aL a1 c.2.2).bind fun h=>
  (aL q3.2.1 h.1).bind fun e=>
  if¬(e.1=true) then((aL r6.1 c.2.2).bind fun s=>
  if s≤a2 then((cond e.1 (dr k e.2) (cV k e.2)).bind fun D=>
  (eK k [D]).bind fun y=>
  some (pP .u8 c.1 y,c.2.1)) else(some (c.1,c.2.1))) else((cF (0≤h.1∧h.1 < 4)).bind fun _=>
  (aL r6.2 h.1).bind fun r=>
  if r≤a2 then((cond e.1 (dr k e.2) (cV k e.2)).bind fun x=>
  (eK k [x]).bind fun u=>
  some (c.1,nF .u8 c.2.1 u)) else(some (c.1,c.2.1)))):Option (Int×Int)).bind fun j=>
  (ck (c.2.2+1)).bind fun l=>
  lv k a1 a2 q3 r6 n (j.1,j.2,l)) else(some (c.1,c.2.1))
def qH(k:Nat)(a0:ae)(a1:(List ap))(a2:Int):Option ((List Int)×Int):=
 (oM k a0 a1).bind fun r2=>
 jE r2.1 (if¬(r2.2=0) then(some ([],r2.2)) else(if a2 < 0 then(some ([],1)) else(none))) (fun q3=>if¬(r2.2=0) then(some ([],r2.2)) else(if a2 < 0 then(some ([],1)) else((eK k q3.1.2.2.1).bind fun r5=>
 (dZ k ((q3.1.1,q3.1.2.1,q3.1.2.2.1,q3.1.2.2.2),q3.2.1,q3.2.2) a1).bind fun r6=>
 ((lv k a1 a2 q3 r6 k (r5,0,0)):Option (Int×Int)).bind fun x8=>
 (eN k (nF .u8 x8.1 x8.2)).bind fun c=>
 some (c,0))))
theorem xn(k:Nat)(a0:ae)(a1:(List ap))(a2:Int)(r:(List Int)×Int)(h:qH k a0 a1 a2=some r):
 bQ Tryz.prog 22 [.rep ag a0,Rs aB a1,I a2] [] (fun _:Unit=>(bG [Ri r.1,I r.2],[])):=by
 unfold qH at h
 replace h:=bi h
 refine bQ.of 88 Tryz.func22 rfl Tryz.ntmps22 rfl fun S w0=>?_
 refine sr ?_
 refine bx fun b1=>?_
 refine cq ?_
 refine cq ?_
 refine nt ?_
 refine sr ?_
 refine lo bL ?_
 refine mq ?_
 obtain⟨r2,QH,h⟩:=aa h
 have u:=pD k a0 a1 r2 QH
 rcases hr:r2.1 with _ |q3
 ·
  rw [hr] at h u;replace h:=xj h;refine be (Δ:=[]) (F:=_) (fun _ _ _=>az rfl _) rfl rfl (ak [.tmp 18,.tmp 19] rfl rfl FU rfl u) ⟨rfl,rfl,trivial⟩ fun _=>?_;refine mq ?_;refine xr ?_;refine xr ?_;refine aq ?_;refine aq (nt (aj (sr ?_)));refine mq ?_;refine jb (bT rfl) ?_;refine nt (cn h (fun h=>?_) (fun h=>?_))
  ·refine sr (mq ?_);refine cq ?_;refine aq (nt (rx ?_));refine bC (fY (t:=(.slice (.int .i64))) (x:=[]) 6 rfl .nil rfl rfl) ?_;cases h;exact rb
  ·refine sk (aj (sr (mq ?_)));refine jb (ba rfl) ?_;refine nt (ci h (fun h=>?_) (fun h=>?_))
   ·refine sr (cq ?_);refine cq (nt (rx ?_));refine bC (fY (t:=(.slice (.int .i64))) (x:=[]) 6 rfl .nil rfl rfl) ?_;cases h;exact rb
   ·refine sk (sr (mq ?_));cases h
 ·
  rw [hr] at h u;replace h:=xi h;refine be (Δ:=[]) (F:=_) (fun _ _ _=>az rfl _) rfl rfl (ak [.tmp 18,.tmp 19] rfl rfl FU rfl u) ⟨rfl,rfl,trivial⟩ fun z4=>?_;refine mq ?_;refine xr ?_;refine xr ?_;refine aq ?_;refine aq (nt (aj (sr ?_)));refine mq ?_;refine jb (bT rfl) ?_;refine nt (cn h (fun h=>?_) (fun h=>?_))
  ·refine sr (mq ?_);refine cq ?_;refine aq (nt (rx ?_));refine bC (fY (t:=(.slice (.int .i64))) (x:=[]) 6 rfl .nil rfl rfl) ?_;cases h;exact rb
  ·refine sk (aj (sr (mq ?_)));refine jb (ba rfl) ?_;refine nt (ci h (fun h=>?_) (fun h=>?_))
   ·refine sr (cq ?_);refine cq (nt (rx ?_));refine bC (fY (t:=(.slice (.int .i64))) (x:=[]) 6 rfl .nil rfl rfl) ?_;cases h;exact rb
   ·refine sk (sr (mq ?_));refine ja (aN rfl) ?_;refine fl eT ?_;refine fl fQ ?_;refine lo bR ?_;obtain⟨r5,QG,h⟩:=aa h;refine ja (ak [.tmp 32] rfl rfl uP rfl (fJ k q3.1.2.2.1 r5 QG)) ?_;refine aq (nt (sr ?_));iterate 2 refine mq ?_
    obtain⟨r6,QF,h⟩:=aa h;refine kb (ak [.tmp 35,.tmp 36] rfl rfl KU rfl (ib k ((q3.1.1,q3.1.2.1,q3.1.2.2.1,q3.1.2.2.2),q3.2.1,q3.2.2) z4.1 (.map (some z4.2)) a1 r6 QF)) ?_;refine mq ?_;refine xr ?_;refine xr ?_;refine aA rfl rfl rfl (aF rfl ES F9) trivial fun b7=>?_;refine aq ?_;refine aK rfl rfl (aE rfl CJ rfl rfl rfl) ⟨rfl,rfl,trivial⟩ ?_;refine nt (sr (cq (nt ?_)));refine ay (Z:=Unit) (α:=Int×Int) (fun z9 x8=>[(10,.eq (.int .u8 x8.1)),(13,.eq (.int .u8 x8.2))]) (fun z9 x8=>[.raw z4.2 (.map #[] 0)]) h (fun K h=>?_) (fun z9 x8 h=>?_)
    ·refine sr (mq ?_);refine ol rR ?_;refine fg rfl ?_;refine nt (al (aD (fun M c=>[(2,I a2),(8,.eq (.pointer (some ⟨z4.1,0,none⟩))),(10,.eq (.int .u8 c.1)),(11,Ri r6.1),(12,Pt b7),(13,.eq (.int .u8 c.2.1)),(40,Rs aB a1),(41,I (a1.length:Int)),(42,I c.2.2)]) (fun M c=>[.obj z4.1 80 (Qq q3 (.eq (.map (some z4.2)))),.obj b7 95 (.rep (.arr 4 (.int .i64)) r6.2),.raw z4.2 (.map #[] 0)]) (lv k a1 a2 q3 r6) k () (r5,0,0) (fun _=>rfl) h (SE.fin [1,0,2] ⟨rfl,rfl,rfl,rfl,rfl,rfl,rfl,rfl,rfl,trivial⟩ rfl) (fun n M c h=>?_)));unfold lv at h;refine sr (jb (ba rfl) ?_);refine nt (aj (ci h (fun h=>?_) (fun h=>?_)))
     ·refine sk (ay (Z:=Unit) (α:=Int×Int) (fun J e=>[(2,I a2),(8,.eq (.pointer (some ⟨z4.1,0,none⟩))),(10,.eq (.int .u8 e.1)),(11,Ri r6.1),(12,Pt b7),(13,.eq (.int .u8 e.2)),(40,Rs aB a1),(41,I (a1.length:Int)),(42,I c.2.2)]) (fun J e=>[.obj z4.1 80 (Qq q3 (.eq (.map (some z4.2)))),.obj b7 95 (.rep (.arr 4 (.int .i64)) r6.2),.raw z4.2 (.map #[] 0)]) h (fun K h=>?_) (fun J e h=>?_))
      ·refine al (sr (mq ?_));obtain⟨QD,mc,h⟩:=aa h;refine jb (aC (t:=aB) rfl rR j0 mc) ?_;refine ja (ao (t:=aB) rfl j0 rfl) ?_;refine aA rfl rfl rfl (aF rfl vn IN) trivial fun QM=>?_;refine aq ?_;refine aK rfl rfl (aE rfl j0 rfl rfl rfl) ⟨rfl,rfl,trivial⟩ ?_;refine nt (aj (a6 ?_));refine dm ?_;refine da (aN rfl) ?_;refine da (am rfl jX) ?_;refine ea 1 (ai rfl rF dF rfl) ?_;refine da (am rfl gY) ?_;refine ea 0 (ai rfl cj dF rfl) ?_;refine df bw ?_;obtain⟨j,ac,h⟩:=aa h;refine jb (aC (t:=(.tag 104 115)) rfl Gi pM ac) ?_;refine ja (ao (t:=(.tag 104 115)) rfl pM rfl) ?_;refine aq (nt (sr ?_));refine mq (nt (al (sr ?_)));refine dx rfl (LN rfl LJ (by decide)) ⟨rfl,trivial⟩ ?_;refine xr ?_;refine xr ?_;refine nt (cw h (fun h=>?_) (fun h=>?_))
       ·refine sr ?_;iterate 2 refine mq ?_
        obtain⟨QK,Y,h⟩:=aa h;refine jb (aC (t:=(.int .i64)) rfl jt cj Y) ?_;refine ja (ao (t:=(.int .i64)) rfl cj rfl) ?_;refine mq ?_;refine jb (qj rfl) ?_;refine nt (ci h (fun h=>?_) (fun h=>?_))
        ·refine ah ?_;iterate 2 refine mq ?_
         obtain⟨s,E,h⟩:=aa h;refine dx rfl (lb rfl rfl gw gr (lu (fun hb=>dt k j.2 s (by simpa [hb] using E)) (fun hb=>dJ k j.2 s (by simpa [hb] using E)))) ⟨rfl,trivial⟩ ?_;refine ja (bv (t:=(.int .i64)) [(.tmp 79,_)] [s] rfl rfl eo (.cons rfl .int .nil) rfl rfl) ?_;obtain⟨Q,QB,h⟩:=aa h;refine ja (ak [.tmp 80] rfl rfl uP rfl (fJ k [s] Q QB)) ?_;refine jb (C9 rfl) ?_;refine aq (aT (aO (bn ?_)));exact jz ((),(pP .u8 c.1 Q,c.2.1)) h [1,2,3]
        ·refine aU (aO (bn ?_));exact jz ((),(c.1,c.2.1)) h [1,2,3]
       ·refine sr (fl gY ?_);refine lo cj ?_;obtain⟨QL,y,h⟩:=aa h;refine jb (cL rfl OF cj (av y).1 (av y).2) ?_;obtain⟨QJ,X,h⟩:=aa h;refine fr 2 ?_;refine ka (fN (t:=(.int .i64)) (off:=0) (i:=QD.1) (N:=4) rfl cj (fun _=>rfl) rfl rfl rfl rfl X) ?_;refine mq ?_;refine jb (qj rfl) ?_;refine nt (ci h (fun h=>?_) (fun h=>?_))
        ·refine ah ?_;iterate 2 refine mq ?_
         obtain⟨l,D,h⟩:=aa h;refine dx rfl (lb rfl rfl gw gr (lu (fun hb=>dt k j.2 l (by simpa [hb] using D)) (fun hb=>dJ k j.2 l (by simpa [hb] using D)))) ⟨rfl,trivial⟩ ?_;refine ja (bv (t:=(.int .i64)) [(.tmp 64,_)] [l] rfl rfl eo (.cons rfl .int .nil) rfl rfl) ?_;obtain⟨O,QA,h⟩:=aa h;refine ja (ak [.tmp 65] rfl rfl uP rfl (fJ k [l] O QA)) ?_;refine jb (xU rfl) ?_;refine aq (aT (aO (bn ?_)));exact jz ((),(c.1,nF .u8 c.2.1 O)) h [2,0,3]
        ·refine aU (aO (bn ?_));exact jz ((),(c.1,c.2.1)) h [2,0,3]
      ·refine ah ?_;obtain⟨QC,U,h⟩:=aa h;refine jb (bh rfl U) ?_;refine mq (nl ?_);exact jz ((),(e.1,e.2,QC)) h [0,1,2]
     ·refine xa ?_;exact jz ((),(c.1,c.2.1)) h [2]
    ·refine sr ?_;iterate 2 refine mq ?_
     refine jb (xU rfl) ?_;obtain⟨QE,se,h⟩:=aa h;refine ja (ak [.tmp 86] rfl rfl Ir rfl (iY k (nF .u8 x8.1 x8.2) QE se)) ?_;refine aq ?_;refine cq (nt (aG ?_));cases h;exact rb
def lA(k:Nat)(a0:(List ae)):Nat→((List fp)×Int)→Option (Except ((List Int)×Int) (List fp))
 |0,_=>none
 |n+1,y4=>
  if y4.2 < (a0.length:Int) then((aL a0 y4.2).bind fun x6=>
  (bM k x6).bind fun r8=>
  jE r8.1 (if¬(r8.2=0) then(some (.error ([],r8.2))) else(none)) (fun q9=>if¬(r8.2=0) then(some (.error ([],r8.2))) else((cF (cx (List.length y4.1+List.length [((q9.1.1,q9.1.2.1,q9.1.2.2.1,q9.1.2.2.2),q9.2.1,q9.2.2,())]))).bind fun _=>
  (ck (y4.2+1)).bind fun c=>
  lA k a0 n (y4.1++[((q9.1.1,q9.1.2.1,q9.1.2.2.1,q9.1.2.2.2),q9.2.1,q9.2.2,())],c)))) else(some (.ok y4.1))
def lz(k:Nat)(x2:(List fp)):Nat→Int→Option (Except ((List Int)×Int) Unit)
 |0,_=>none
 |n+1,c=>
  if c < (x2.length:Int) then((aL x2 c).bind fun j=>
  (aL x2 0).bind fun h=>
  if¬((j.1.2.1.length:Int)=(h.1.2.1.length:Int)) then(some (.error ([],9))) else((ck (c+1)).bind fun e=>
  lz k x2 n e)) else(some (.ok ()))
def ly(k:Nat)(a1:(List Int)):Nat→Int→Option (Except ((List Int)×Int) Unit)
 |0,_=>none
 |n+1,c=>
  if c < (a1.length:Int) then((aL a1 c).bind fun h=>
  (bD k h 0 20).bind fun j=>
  if j=true then(some (.error ([],1))) else((ck (c+1)).bind fun e=>
  ly k a1 n e)) else(some (.ok ()))
def lw(k:Nat)(h:Int)(j:(List ax)):Nat→((List ax)×Int)→Option (List ax)
 |0,_=>none
 |n+1,c=>
  if c.2 < (j.length:Int) then((aL c.1 c.2).bind fun s=>
  (ck (s.2.2 - h)).bind fun r=>
  (aL c.1 c.2).bind fun e=>
  (ck (c.2+1)).bind fun l=>
  lw k h j n (List.set c.1 (Int.toNat c.2) (e.1,e.2.1,kD 0 r),l)) else(some c.1)
def lx(k:Nat)(a1:(List Int))(x2:(List fp)):Nat→((List Int)×Int×Int)→Option (Except ((List Int)×Int) (List Int))
 |0,_=>none
 |n+1,c=>
  if c.2.2 < (x2.length:Int) then(bE (α:=(List Int)×Int) ((aL x2 c.2.2).bind fun l=>
  ((if 0 < c.2.2 then((ck (c.2.2 - 1)).bind fun F=>
  (aL a1 F).bind fun E=>
  (ck (c.2.1+E)).bind fun D=>
  some D) else(some c.2.1)):Option (Int)).bind fun j=>
  (bS k l.1.2.1).bind fun u=>
  ((lw k j u k (u,0)):Option ((List ax))).bind fun y=>
  (ff k l y).bind fun s=>
  if¬(s.2=true) then(some (.error ([],11))) else((ck (j+s.1)).bind fun h=>
  (cF (cx (List.length c.1+List.length [h]))).bind fun _=>
  some (.ok (c.1++[h],h)))) (fun e=>some (.error e)) fun r=>
  (ck (c.2.2+1)).bind fun x=>
  lx k a1 x2 n (r.1,r.2,x)) else(some (.ok c.1))
def qI(k:Nat)(a0:(List ae))(a1:(List Int)):Option ((List Int)×Int):=
 (iw k (a0.length:Int) 3).bind fun r1=>
 if¬(r1=0) then(some ([],r1)) else(bE (α:=(List fp)) (lA k a0 k (([]:(List fp)),0)) (some) fun x2=>
 bE (α:=Unit) (lz k x2 k 0) (some) fun _=>
 (ck ((a0.length:Int) - 1)).bind fun e=>
 if¬((a1.length:Int)=e) then(some ([],9)) else(bE (α:=Unit) (ly k a1 k 0) (some) fun _=>
 bE (α:=(List Int)) (lx k a1 x2 k (([]:(List Int)),0,0)) (some) fun c=>
 some (c,0)))
theorem xo(k:Nat)(a0:(List ae))(a1:(List Int))(r:(List Int)×Int)(h:qI k a0 a1=some r):
 bQ Tryz.prog 23 [Rs ag a0,Ri a1] [] (fun _:Unit=>(bG [Ri r.1,I r.2],[])):=by
 unfold qI at h
 replace h:=bi h
 refine bQ.of 143 Tryz.func23 rfl Tryz.ntmps23 rfl fun S w0=>?_
 refine sr ?_
 refine cq ?_
 refine cq ?_
 refine nt ?_
 refine aj ?_
 refine sr ?_
 refine mq ?_
 refine ol Le ?_
 obtain⟨r1,Rq,h⟩:=aa h
 have Rr:=pA k (a0.length:Int) 3 r1 Rq
 refine jb (ak [.tmp 25,.const (.int .i64 (3))] rfl rfl M9 rfl Rr) ?_
 refine aq ?_
 refine nt ?_
 refine sr ?_
 refine mq ?_
 refine jb (bT rfl) ?_
 refine nt ?_
 refine cn h (fun h=>?_) (fun h=>?_)
 ·
  refine sr (mq ?_);refine cq ?_;refine aq (nt (rx ?_));refine bC (fY (t:=(.slice (.int .i64))) (x:=[]) 4 rfl .nil rfl rfl) ?_;cases h;exact rb
 ·
  refine sk (sr (cq (nt ?_)));refine cE (Z:=Value) (α:=(List fp)) (fun z3 x2=>[(0,Rs ag a0),(1,Ri a1),(7,.eq z3)]) (fun z3 x2=>[.sl z3 65 (.ptr di) x2]) (fun e=>e=r) h (fun e h=>Option.some.inj h) (fun K hR h=>?_) (fun z3 x2 h=>?_)
  ·refine sr (mq ?_);refine ol Le ?_;refine fg rfl ?_;refine nt (al (eL (SE.nil 65 (.ptr di)) ?_));refine aD (fun z5 y4=>[(0,Rs ag a0),(1,Ri a1),(7,.eq z5),(30,Rs ag a0),(31,I (a0.length:Int)),(32,I y4.2)]) (fun z5 y4=>[.sl z5 65 (.ptr di) y4.1]) (lA k a0) k (.slice none 0 0) (([]:(List fp)),0) (fun _=>rfl) h (SE.fin [0] ⟨rfl,rfl,rfl,rfl,rfl,rfl,trivial⟩ rfl) (fun n z5 y4 h=>?_);unfold lA at h;refine sr (jb (ba rfl) ?_);refine nt (aj (ci h (fun h=>?_) (fun h=>?_)))
   ·refine sk (aj (al (sr ?_)));obtain⟨x6,Rn,h⟩:=aa h;refine jb (aC (t:=ag) rfl Le bL Rn) ?_;refine ja (ao (t:=ag) rfl bL rfl) ?_;refine aA rfl rfl rfl (aF rfl oS rM) trivial fun b7=>?_;refine aK rfl rfl (aE rfl bL rfl rfl rfl) ⟨rfl,rfl,trivial⟩ ?_;refine nt (sr (lo bL ?_));obtain⟨r8,Ro,h⟩:=aa h;have Y:=gz k x6 r8 Ro;rcases hr:r8.1 with _ |q9
    ·rw [hr] at h Y;replace h:=xj h;refine be (Δ:=[]) (F:=_) (fun _ _ _=>az rfl _) rfl rfl (ak [.tmp 37] rfl rfl rI rfl Y) ⟨rfl,trivial⟩ fun _=>?_;refine mq ?_;refine xr ?_;refine xr ?_;refine aq ?_;refine aq (nt (aj (sr ?_)));refine mq ?_;refine jb (bT rfl) ?_;refine nt (cn h (fun h=>?_) (fun h=>?_))
     ·refine sr (mq ?_);refine cq ?_;refine aq (nt (rx (br (aV (aR ?_)))));refine bC (fY (t:=(.slice (.int .i64))) (x:=[]) 4 rfl .nil rfl rfl) ?_;obtain rfl:=hR _ h;exact rb
     ·refine sk (ah ?_);iterate 2 refine mq ?_
      cases h
    ·rw [hr] at h Y;replace h:=xi h;refine be (Δ:=[]) (F:=_) (fun _ _ _=>az rfl _) rfl rfl (ak [.tmp 37] rfl rfl rI rfl Y) ⟨rfl,trivial⟩ fun Rt=>?_;refine mq ?_;refine xr ?_;refine xr ?_;refine aq ?_;refine aq (nt (aj (sr ?_)));refine mq ?_;refine jb (bT rfl) ?_;refine nt (cn h (fun h=>?_) (fun h=>?_))
     ·refine sr (mq ?_);refine cq ?_;refine aq (nt (rx (br (aV (aR ?_)))));refine bC (fY (t:=(.slice (.int .i64))) (x:=[]) 4 rfl .nil rfl rfl) ?_;obtain rfl:=hR _ h;exact rb
     ·refine sk (ah ?_);iterate 2 refine mq ?_
      refine eX (lV (t:=di) (x:=((q9.1.1,q9.1.2.1,q9.1.2.2.1,q9.1.2.2.2),q9.2.1,q9.2.2,())) [10,39,45] (.agg (.pair (.agg (.pair .rep (.pair .rep (.pair .rep .rep)))) (.pair .rep (.pair .rep (.ign rfl))))) ⟨rfl,rfl,rfl,trivial⟩) ?_;refine ja (bv (t:=(.ptr di)) [(.tmp 45,_)] [((q9.1.1,q9.1.2.1,q9.1.2.2.1,q9.1.2.2.2),q9.2.1,q9.2.2,())] rfl rfl LL (.cons trivial .ptr .nil) rfl rfl) ?_;obtain⟨RD,Q2,h⟩:=aa h;refine fr 2 ?_;refine dE rfl rfl rfl (bI rfl rfl LL (av Q2)) ⟨rfl,rfl,trivial⟩ fun Rk=>?_;refine aq (aT (aO (tn (ah ?_))));obtain⟨Rh,Q0,h⟩:=aa h;refine jb (bh rfl Q0) ?_;refine mq (nl ?_);exact jz (Rk,(y4.1++[((q9.1.1,q9.1.2.1,q9.1.2.2.1,q9.1.2.2.2),q9.2.1,q9.2.2,())],Rh)) h [0]
   ·refine xa ?_;exact jz (z5,y4.1) h [0]
  ·refine cE (Z:=Unit) (α:=Unit) (fun QK QN=>[(0,Rs ag a0),(1,Ri a1),(7,.eq z3)]) (fun QK QN=>[.sl z3 65 (.ptr di) x2]) (fun e=>e=r) h (fun e h=>Option.some.inj h) (fun K hR h=>?_) (fun QK QN h=>?_)
   ·refine sr (mq ?_);refine ka (je rfl rfl IR) ?_;refine fg rfl ?_;refine nt (al (aD (fun QJ Q=>[(0,Rs ag a0),(1,Ri a1),(7,.eq z3),(49,.eq z3),(50,I (x2.length:Int)),(51,I Q)]) (fun QJ Q=>[.sl z3 65 (.ptr di) x2]) (lz k x2) k () 0 (fun _=>rfl) h (SE.fin [0] ⟨rfl,rfl,rfl,rfl,rfl,rfl,trivial⟩ rfl) (fun n QJ Q h=>?_)));unfold lz at h;refine sr (jb (ba rfl) ?_);refine nt (aj (ci h (fun h=>?_) (fun h=>?_)))
    ·refine sk (aj (al (sr ?_)));obtain⟨RA,se,h⟩:=aa h;refine kb (bk (t:=(.ptr di)) rfl IR ie se) ?_;refine ka (dW (i:=Int.toNat Q) (off:=0) rfl ie (fun _=>rfl) rfl (bP se).2.2 rfl) ?_;refine aq (nt (aj ?_));refine a6 ?_;refine dm ?_;refine da (j9 rfl) ?_;refine da (a8 4 true rfl eT rfl) ?_;refine da (a8 1 false rfl bA rfl) ?_;refine da (ao (t:=(.slice aw)) rfl eu rfl) ?_;refine da (mD rfl rfl l8) ?_;refine dm ?_;obtain⟨Rz,mc,h⟩:=aa h;refine eb 0 (bk (t:=(.ptr di)) rfl IR ie mc) ?_;refine ea 0 (dW (i:=Int.toNat 0) (off:=0) rfl ie (fun _=>rfl) rfl (bP mc).2.2 rfl) ?_;refine da (j9 rfl) ?_;refine da (a8 4 true rfl eT rfl) ?_;refine da (a8 1 false rfl bA rfl) ?_;refine da (ao (t:=(.slice aw)) rfl eu rfl) ?_;refine da (mD rfl rfl l8) ?_;refine df bw ?_;refine jb (bT rfl) ?_;refine nt (cn h (fun h=>?_) (fun h=>?_))
     ·refine sr (cq ?_);refine cq (nt (aG (br (aV (aR ?_)))));refine bC (fY (t:=(.slice (.int .i64))) (x:=[]) 4 rfl .nil rfl rfl) ?_;obtain rfl:=hR _ h;exact rb
     ·refine aU (aO (tn (ah ?_)));obtain⟨Rf,QZ,h⟩:=aa h;refine jb (bh rfl QZ) ?_;refine mq (nl ?_);exact jz ((),Rf) h [0]
    ·refine xa ?_;exact jz ((),()) h [0]
   ·refine aj (sr (mq ?_));refine ol jt ?_;refine mq ?_;refine ol Le ?_;obtain⟨Ry,QY,h⟩:=aa h;refine jb (g7 rfl QY) ?_;refine jb (bT rfl) ?_;refine nt (cn h (fun h=>?_) (fun h=>?_))
    ·refine sr (cq ?_);refine cq (nt (rx ?_));refine bC (fY (t:=(.slice (.int .i64))) (x:=[]) 4 rfl .nil rfl rfl) ?_;cases h;exact rb
    ·refine sk (cE (Z:=Unit) (α:=Unit) (fun QH QM=>[(1,Ri a1),(7,.eq z3)]) (fun QH QM=>[.sl z3 65 (.ptr di) x2]) (fun e=>e=r) h (fun e h=>Option.some.inj h) (fun K hR h=>?_) (fun QH QM h=>?_))
     ·refine sr (mq ?_);refine ol jt ?_;refine fg rfl ?_;refine nt (al (aD (fun QG QA=>[(1,Ri a1),(7,.eq z3),(77,Ri a1),(78,I (a1.length:Int)),(79,I QA)]) (fun QG QA=>[.sl z3 65 (.ptr di) x2]) (ly k a1) k () 0 (fun _=>rfl) h (SE.fin [0] ⟨rfl,rfl,rfl,rfl,rfl,trivial⟩ rfl) (fun n QG QA h=>?_)));unfold ly at h;refine sr (jb (ba rfl) ?_);refine nt (aj (ci h (fun h=>?_) (fun h=>?_)))
      ·refine sk (aj (al (sr ?_)));obtain⟨Re,QX,h⟩:=aa h;refine jb (aC (t:=(.int .i64)) rfl jt cj QX) ?_;refine ja (ao (t:=(.int .i64)) rfl cj rfl) ?_;refine aq (nt (sr ?_));refine mq ?_;obtain⟨Rm,Q5,h⟩:=aa h;refine jc (ak [.tmp 83,.const (.int .i64 (0)),.const (.int .i64 (20))] rfl rfl xd rfl (dk k Re 0 20 Rm Q5)) ?_;refine nt (cv h (fun h=>?_) (fun h=>?_))
       ·refine sr (cq ?_);refine cq (nt (aG (br (aV (aR ?_)))));refine bC (fY (t:=(.slice (.int .i64))) (x:=[]) 4 rfl .nil rfl rfl) ?_;obtain rfl:=hR _ h;exact rb
       ·refine aU (aO (tn (ah ?_)));obtain⟨Rb,QW,h⟩:=aa h;refine jb (bh rfl QW) ?_;refine mq (nl ?_);exact jz ((),Rb) h [0]
      ·refine xa ?_;exact jz ((),()) h [0]
     ·refine sr (cq (nt (sr ?_)));refine cq (nt ?_);refine cE (Z:=Value) (α:=(List Int)) (fun O QC=>[(16,.eq O)]) (fun O QC=>[.sl O 3 (.int .i64) QC]) (fun e=>e=r) h (fun e h=>Option.some.inj h) (fun K hR h=>?_) (fun O QC h=>?_)
      ·refine sr (mq ?_);refine ka (je rfl rfl IR) ?_;refine fg rfl ?_;refine nt (al (eL (SE.nil 3 (.int .i64)) ?_));refine aD (fun j c=>[(1,Ri a1),(16,.eq j),(17,I c.2.1),(86,.eq z3),(87,I (x2.length:Int)),(88,I c.2.2)]) (fun j c=>[.sl j 3 (.int .i64) c.1,.sl z3 65 (.ptr di) x2]) (lx k a1 x2) k (.slice none 0 0) (([]:(List Int)),0,0) (fun _=>rfl) h (SE.fin [0,1] ⟨rfl,rfl,rfl,rfl,rfl,rfl,trivial⟩ rfl) (fun n j c h=>?_);unfold lx at h;refine sr (jb (ba rfl) ?_);refine nt (aj (ci h (fun h=>?_) (fun h=>?_)))
       ·refine sk (cE (Z:=Value) (α:=(List Int)×Int) (fun D y=>[(1,Ri a1),(16,.eq D),(17,I y.2),(86,.eq z3),(87,I (x2.length:Int)),(88,I c.2.2)]) (fun D y=>[.sl D 3 (.int .i64) y.1,.sl z3 65 (.ptr di) x2]) (fun e=>e=r) h (fun e h=>hR e h) (fun K hR h=>?_) (fun D y h=>?_))
        ·refine al (sr (mq ?_));obtain⟨u,ac,h⟩:=aa h;refine fr 1 ?_;refine kb (bk (t:=(.ptr di)) rfl IR ie ac) ?_;refine ka (dW (i:=Int.toNat c.2.2) (off:=0) rfl ie (fun _=>rfl) rfl (bP ac).2.2 rfl) ?_;refine aq ?_;refine aq (nt ?_);refine ay (Z:=Unit) (α:=Int) (fun QF s=>[(1,Ri a1),(16,.eq j),(17,I s),(19,.at di u),(86,.eq z3),(87,I (x2.length:Int)),(88,I c.2.2)]) (fun QF s=>[.sl j 3 (.int .i64) c.1,.sl z3 65 (.ptr di) x2]) h (fun K h=>?_) (fun QF s h=>?_)
         ·refine sr (mq ?_);refine jb (ik rfl) ?_;refine nt (ci h (fun h=>?_) (fun h=>?_))
          ·refine ah ?_;iterate 3 refine mq ?_
           obtain⟨Rx,QU,h⟩:=aa h;refine jb (g7 rfl QU) ?_;obtain⟨Rw,QT,h⟩:=aa h;refine jb (aC (t:=(.int .i64)) rfl jt cj QT) ?_;refine ja (ao (t:=(.int .i64)) rfl cj rfl) ?_;obtain⟨Q9,QS,h⟩:=aa h;refine jb (bh rfl QS) ?_;refine aq (nl ?_);exact jz ((),Q9) h [1,0]
          ·refine aU (a7 ?_);exact jz ((),c.2.1) h [1,0]
         ·refine sr (mq ?_);refine ja (j9 rfl) ?_;refine ja (a8 4 true rfl eT rfl) ?_;refine ja (a8 1 false rfl bA rfl) ?_;refine ja (ao (t:=(.slice aw)) rfl eu rfl) ?_;obtain⟨X,Q4,h⟩:=aa h;refine aA rfl rfl rfl (ak [.tmp 106] rfl rfl KV rfl (f8 k u.1.2.1 X Q4)) ⟨rfl,trivial⟩ fun E=>?_;refine aq (nt ?_);refine ay (Z:=Unit) (α:=(List ax)) (fun QE U=>[(1,Ri a1),(16,.eq j),(17,I s),(19,.at di u),(20,.eq E),(86,.eq z3),(87,I (x2.length:Int)),(88,I c.2.2)]) (fun QE U=>[.sl j 3 (.int .i64) c.1,.sl E 47 aw U,.sl z3 65 (.ptr di) x2]) h (fun K h=>?_) (fun QE U h=>?_)
          ·refine sr (mq ?_);refine ka (je rfl rfl l8) ?_;refine fg rfl ?_;refine nt (al (aD (fun QD l=>[(1,Ri a1),(16,.eq j),(17,I s),(19,.at di u),(20,.eq E),(86,.eq z3),(87,I (x2.length:Int)),(88,I c.2.2),(109,I (X.length:Int)),(110,I l.2)]) (fun QD l=>[.sl j 3 (.int .i64) c.1,.sl E 47 aw l.1,.sl z3 65 (.ptr di) x2]) (lw k s X) k () (X,0) (fun _=>rfl) h (SE.fin [1,0,2] ⟨rfl,rfl,rfl,rfl,rfl,rfl,rfl,rfl,rfl,rfl,trivial⟩ rfl) (fun n QD l h=>?_)));unfold lw at h;refine sr (jb (ba rfl) ?_);refine nt (aj (ci h (fun h=>?_) (fun h=>?_)))
           ·refine sk (aj (al (sr (mq ?_))));refine aq (nt (ah ?_));iterate 4 refine mq ?_
            obtain⟨Ru,M,h⟩:=aa h;refine fr 1 ?_;refine kb (bk (t:=aw) rfl l8 eI M) ?_;refine ka (kC rfl od (pp M)) ?_;refine ka (dW (i:=Int.toNat l.2) (off:=2) rfl cj (fun _=>rfl) rfl (bP M).2.2 rfl) ?_;refine mq ?_;obtain⟨Q8,QR,h⟩:=aa h;refine jb (g7 rfl QR) ?_;refine jb (AP rfl rfl) ?_;obtain⟨QL,J,h⟩:=aa h;refine kb (bk (t:=aw) rfl l8 eI J) ?_;refine ka (kC rfl od (pp J)) ?_;refine aK rfl rfl (nb (i:=Int.toNat l.2) (off:=2) rfl cj rfl (bP J).2.2 .int rfl (.agg (.right (.right .whole rfl) rfl))) ⟨rfl,rfl,trivial⟩ ?_;refine aT (aO (tn (ah ?_)));obtain⟨Q7,QQ,h⟩:=aa h;refine jb (bh rfl QQ) ?_;refine mq (nl ?_);exact jz ((),(List.set l.1 (Int.toNat l.2) (QL.1,QL.2.1,kD 0 Q8),Q7)) h [1,0,2]
           ·refine xa ?_;exact jz ((),l.1) h [0,1,2]
          ·refine sr ?_;iterate 2 refine mq ?_
           obtain⟨Rl,Q3,h⟩:=aa h;refine fr 1 ?_;refine kb (pI (N:=[(.tmp 127,.at di u),(.tmp 128,.eq E)]) (ak [.tmp 127,.tmp 128] rfl rfl Na rfl (ml k u U Rl Q3)) (fun _ _ _ hv hn=>⟨hn.1,(HY hn.2.1 hv),trivial⟩) (fun _=>⟨rfl,wX⟩)) ?_;refine mq ?_;refine xr ?_;refine xr ?_;refine aq ?_;refine aq (nt (aj (sr ?_)));refine mq ?_;refine ja (eE rfl) ?_;refine nt (cw h (fun h=>?_) (fun h=>?_))
           ·refine sr (cq ?_);refine cq (nt (rx (br (aV (aR ?_)))));refine bC (fY (t:=(.slice (.int .i64))) (x:=[]) 4 rfl .nil rfl rfl) ?_;obtain rfl:=hR _ h;exact rb
           ·refine sk (sr ?_);iterate 2 refine mq ?_
            obtain⟨QB,QP,h⟩:=aa h;refine jb (bh rfl QP) ?_;refine aq (nt (ah ?_));iterate 2 refine mq ?_
            refine ja (bv (t:=(.int .i64)) [(.tmp 138,_)] [QB] rfl rfl eo (.cons rfl .int .nil) rfl rfl) ?_;obtain⟨RB,Q1,h⟩:=aa h;refine fr 1 ?_;refine dE rfl rfl rfl (bI rfl rfl eo (av Q1)) ⟨rfl,rfl,trivial⟩ fun Rj=>?_;refine aq (aT (bn ?_));exact jz (Rj,(c.1++[QB],QB)) h [0,2]
        ·refine ah ?_;obtain⟨Q6,QO,h⟩:=aa h;refine jb (bh rfl QO) ?_;refine mq (nl ?_);exact jz (D,(y.1,y.2,Q6)) h [0,1]
       ·refine xa ?_;exact jz (j,c.1) h [0]
      ·refine sr (mq ?_);refine aq ?_;refine cq (nt (aG ?_));refine bC (nu [4,16,142] ⟨rfl,rfl,rfl,trivial⟩) ?_;cases h;exact rb
def jK(k:Nat)(a0:(List ap))(a1:(List ap)):Nat→Int→Option (Except Bool Unit)
 |0,_=>none
 |n+1,y3=>
  if y3 < (a0.length:Int) then((aL a0 y3).bind fun x5=>
  (aL a1 y3).bind fun x6=>
  if¬(x5=x6) then(some (.error false)) else((ck (y3+1)).bind fun x7=>
  jK k a0 a1 n x7)) else(some (.ok ()))
def oa(k:Nat)(a0:(List ap))(a1:(List ap)):Option Bool:=
 if¬((a0.length:Int)=(a1.length:Int)) then(some false) else(bE (α:=Unit) (jK k a0 a1 k 0) (some) fun _=>
 some true)
theorem uG(k:Nat)(a0:(List ap))(a1:(List ap))(r:Bool)(h:oa k a0 a1=some r):
 bQ Tryz.prog 24 [Rs aB a0,Rs aB a1] [] (fun _:Unit=>(bG [.eq (.bool r)],[])):=by
 unfold oa at h
 replace h:=bi h
 refine bQ.of 26 Tryz.func24 rfl Tryz.ntmps24 rfl fun S w0=>?_
 refine sr ?_
 refine cq ?_
 refine nt ?_
 refine aj ?_
 refine sr ?_
 refine mq ?_
 refine ol rR ?_
 refine mq ?_
 refine ol rR ?_
 refine jb (bT rfl) ?_
 refine nt ?_
 refine cn h (fun h=>?_) (fun h=>?_)
 ·
  refine sr (cq (nt (rx ?_)));cases h;exact ra
 ·
  refine sk (cE (Z:=Unit) (α:=Unit) (fun z2 x1=>[]) (fun z2 x1=>[]) (fun e=>e=r) h (fun e h=>Option.some.inj h) (fun K hR h=>?_) (fun z2 x1 h=>?_))
  ·refine sr (cq (nt (al ?_)));refine aD (fun z4 y3=>[(0,Rs aB a0),(1,Rs aB a1),(5,I y3)]) (fun z4 y3=>[]) (jK k a0 a1) k () 0 (fun _=>rfl) h (SE.fin [] ⟨rfl,rfl,rfl,trivial⟩ rfl) (fun n z4 y3 h=>?_);unfold jK at h;refine aj (sr ?_);iterate 2 refine mq ?_
   refine ol rR ?_;refine jb (ba rfl) ?_;refine nt (ci h (fun h=>?_) (fun h=>?_))
   ·refine sk (aj (al (aj (a6 ?_))));refine dm ?_;refine dm ?_;obtain⟨x5,l,h⟩:=aa h;refine db (aC (t:=aB) rfl rR j0 l) ?_;refine da (ao (t:=aB) rfl j0 rfl) ?_;refine dm ?_;refine dm ?_;obtain⟨x6,j,h⟩:=aa h;refine db (aC (t:=aB) rfl rR j0 j) ?_;refine da (ao (t:=aB) rfl j0 rfl) ?_;refine df bw ?_;refine jb (MJ rfl Ph rfl) ?_;refine nt (cn h (fun h=>?_) (fun h=>?_))
    ·refine sr (cq (nt (aG (br (aV (aR ?_))))));obtain rfl:=hR _ h;exact ra
    ·refine aU (aO (tn (ah (mq ?_))));obtain⟨x7,c,h⟩:=aa h;refine jb (bh rfl c) ?_;refine aq (nl ?_);exact jz ((),x7) h []
   ·refine xa ?_;exact jz ((),()) h []
  ·refine sr (cq (nt (aG ?_)));cases h;exact ra
def kL(k:Nat):Option Bool:=
 (lP k 0 0 [0,2]).bind fun r1=>
 (sG k r1).bind fun r3=>
 (mT k).bind fun r4=>
 (sH k r1 r4).bind fun r5=>
 (lP k 3 0 [0,2]).bind fun r6=>
 (mT k).bind fun r7=>
 (xp k r6 r7).bind fun r8=>
 (jP k r1 1).bind fun r9=>
 (mT k).bind fun E=>
 (qH k r1 E 4).bind fun h=>
 (lP k 0 3 [0,2]).bind fun D=>
 (lP k 0 3 [0,2]).bind fun y=>
 (qI k [D,y] [0]).bind fun e=>
 (lP k 0 0 [0]).bind fun x=>
 (kQ k x).bind fun c=>
 ((if r3.2.2=0 then(if r5.2=0 then(if r8.2.2=0 then(if r9.2=0 then(if h.2=0 then(if e.2=0 then(if c.2.2.2=0 then(if r3.2.1=4 then(if r8.1=2 then(if r8.2.1=3 then(if r9.1=3 then(if c.1=1 then(if c.2.1=2 then(if c.2.2.1=4 then((mT k).bind fun u=>
 (oa k r3.1 u).bind fun s=>
 if s=true then((dG k r5.1 [0,1,3,1]).bind fun r=>
 if r=true then((dG k h.1 [1,2]).bind fun n=>
 if n=true then((dG k e.1 [7,11]).bind fun l=>
 some l) else(some false)) else(some false)) else(some false)) else(some false)) else(some false)) else(some false)) else(some false)) else(some false)) else(some false)) else(some false)) else(some false)) else(some false)) else(some false)) else(some false)) else(some false)) else(some false)) else(some false)):Option (Bool)).bind fun j=>
 some j
theorem qs(k:Nat)(r:Bool)(h:kL k=some r):
 bQ Tryz.prog 5 [] [] (fun _:Unit=>(bG [.eq (.bool r)],[])):=by
 unfold kL at h
 replace h:=bi h
 refine bQ.of 145 Tryz.func5 rfl Tryz.ntmps5 rfl fun S w0=>?_
 refine sr ?_
 refine cq ?_
 refine nt ?_
 refine sr ?_
 refine jb (bv (t:=(.int .i64)) [(.const (.int .i64 (0)),_),(.const (.int .i64 (2)),_)] [0,2] rfl rfl eo (.cons rfl .int (.cons rfl .int .nil)) rfl rfl) ?_
 obtain⟨r1,QT,h⟩:=aa h
 have Q2:=lp k 0 0 [0,2] r1 QT
 refine jc (ak [.const (.int .i64 (0)),.const (.int .i64 (0)),.tmp 20] rfl rfl Is rfl Q2) ?_
 refine aA rfl rfl rfl (aF rfl oS rM) trivial fun b2=>?_
 refine aK rfl rfl (aE rfl bL rfl rfl rfl) ⟨rfl,rfl,trivial⟩ ?_
 refine nt ?_
 refine sr ?_
 refine lo bL ?_
 obtain⟨r3,QS,h⟩:=aa h
 have Q1:=yi k r1 r3 QS
 refine ja (ak [.tmp 23] rfl rfl P5 rfl Q1) ?_
 refine mq ?_
 refine xr ?_
 refine xr ?_
 refine xr ?_
 refine aq ?_
 refine aq ?_
 refine aq ?_
 refine nt ?_
 refine aj ?_
 refine a6 ?_
 refine ea 0 (ai rfl bL (sn) rfl) ?_
 obtain⟨r4,QR,h⟩:=aa h
 have Q0:=mI k r4 QR
 refine nB rfl rfl rfl (ak [] rfl rfl KW rfl Q0) trivial ?_
 obtain⟨r5,QQ,h⟩:=aa h
 have QZ:=yj k r1 r4 r5 QQ
 refine db (ak [.tmp 29,.tmp 30] rfl rfl P4 rfl QZ) ?_
 refine dm ?_
 refine da (fa rfl rfl) ?_
 refine da (fa rfl rfl) ?_
 refine da (il rfl) ?_
 refine df bw ?_
 refine aq ?_
 refine nt ?_
 refine sr ?_
 refine jb (bv (t:=(.int .i64)) [(.const (.int .i64 (0)),_),(.const (.int .i64 (2)),_)] [0,2] rfl rfl eo (.cons rfl .int (.cons rfl .int .nil)) rfl rfl) ?_
 obtain⟨r6,QP,h⟩:=aa h
 have QY:=lp k 3 0 [0,2] r6 QP
 refine jc (ak [.const (.int .i64 (3)),.const (.int .i64 (0)),.tmp 35] rfl rfl Is rfl QY) ?_
 obtain⟨r7,QO,h⟩:=aa h
 have QX:=mI k r7 QO
 refine dx rfl (ak [] rfl rfl KW rfl QX) trivial ?_
 obtain⟨r8,QN,h⟩:=aa h
 have QW:=BG k r6 r7 r8 QN
 refine jb (ak [.tmp 36,.tmp 37] rfl rfl P3 rfl QW) ?_
 refine mq ?_
 refine xr ?_
 refine xr ?_
 refine xr ?_
 refine aq ?_
 refine aq ?_
 refine aq ?_
 refine nt ?_
 refine sr ?_
 refine lo bL ?_
 obtain⟨r9,QM,h⟩:=aa h
 have QU:=tR k r1 1 r9 QM
 refine jb (ak [.tmp 43,.const (.int .i64 (1))] rfl rfl Om rfl QU) ?_
 refine mq ?_
 refine xr ?_
 refine xr ?_
 refine aq ?_
 refine aq ?_
 refine nt ?_
 refine aj ?_
 refine a6 ?_
 refine ea 0 (ai rfl bL (sn) rfl) ?_
 obtain⟨E,se,h⟩:=aa h
 have QG:=mI k E se
 refine nB rfl rfl rfl (ak [] rfl rfl KW rfl QG) trivial ?_
 obtain⟨D,mc,h⟩:=aa h
 have QF:=xn k r1 E 4 D mc
 refine dc (ak [.tmp 48,.tmp 49,.const (.int .i64 (4))] rfl rfl P0 rfl QF) ?_
 refine dm ?_
 refine da (fa rfl rfl) ?_
 refine da (fa rfl rfl) ?_
 refine da (il rfl) ?_
 refine df bw ?_
 refine aq ?_
 refine nt ?_
 refine sr ?_
 refine jb (bv (t:=(.int .i64)) [(.const (.int .i64 (0)),_),(.const (.int .i64 (2)),_)] [0,2] rfl rfl eo (.cons rfl .int (.cons rfl .int .nil)) rfl rfl) ?_
 obtain⟨j,ac,h⟩:=aa h
 have QE:=lp k 0 3 [0,2] j ac
 refine jc (ak [.const (.int .i64 (0)),.const (.int .i64 (3)),.tmp 54] rfl rfl Is rfl QE) ?_
 refine jb (bv (t:=(.int .i64)) [(.const (.int .i64 (0)),_),(.const (.int .i64 (2)),_)] [0,2] rfl rfl eo (.cons rfl .int (.cons rfl .int .nil)) rfl rfl) ?_
 obtain⟨e,Y,h⟩:=aa h
 have QD:=lp k 0 3 [0,2] e Y
 refine jc (ak [.const (.int .i64 (0)),.const (.int .i64 (3)),.tmp 56] rfl rfl Is rfl QD) ?_
 refine jb (bv (t:=ag) [(.tmp 55,_),(.tmp 57,_)] [j,e] rfl rfl NV (.cons rfl .rep (.cons rfl .rep .nil)) rfl rfl) ?_
 refine ja (bv (t:=(.int .i64)) [(.const (.int .i64 (0)),_)] [0] rfl rfl eo (.cons rfl .int .nil) rfl rfl) ?_
 obtain⟨y,X,h⟩:=aa h
 have QC:=xo k [j,e] [0] y X
 refine jb (ak [.tmp 58,.tmp 59] rfl rfl PZ rfl QC) ?_
 refine mq ?_
 refine xr ?_
 refine xr ?_
 refine aq ?_
 refine aq ?_
 refine nt ?_
 refine sr ?_
 refine ja (bv (t:=(.int .i64)) [(.const (.int .i64 (0)),_)] [0] rfl rfl eo (.cons rfl .int .nil) rfl rfl) ?_
 obtain⟨x,U,h⟩:=aa h
 have QB:=lp k 0 0 [0] x U
 refine jc (ak [.const (.int .i64 (0)),.const (.int .i64 (0)),.tmp 64] rfl rfl Is rfl QB) ?_
 obtain⟨QL,Q,h⟩:=aa h
 have QA:=tU k x QL Q
 refine ja (ak [.tmp 65] rfl rfl Ol rfl QA) ?_
 refine mq ?_
 refine xr ?_
 refine xr ?_
 refine xr ?_
 refine xr ?_
 refine aq ?_
 refine aq ?_
 refine aq ?_
 refine aq ?_
 refine nt ?_
 refine ay (Z:=Unit) (α:=Bool) (fun l c=>[(0,.eq (.bool c))]) (fun l c=>[]) h (fun K h=>?_) (fun l c h=>?_)
 ·
  refine ah (mq ?_);refine jb (cM rfl) ?_;refine mq ?_;refine aM (s:=73) rfl (fun hb=>?_) (fun hb=>?_)
  ·replace h:=bY (oQ hb) h;refine gm ?_;refine gb (cM rfl) ?_;refine pt ?_;refine mq ?_;refine aM (s:=77) rfl (fun hb=>?_) (fun hb=>?_)
   ·replace h:=bY (oQ hb) h;refine gm ?_;refine gb (cM rfl) ?_;refine pt ?_;refine mq ?_;refine aM (s:=81) rfl (fun hb=>?_) (fun hb=>?_)
    ·replace h:=bY (oQ hb) h;refine gm ?_;refine gb (cM rfl) ?_;refine pt ?_;refine mq ?_;refine aM (s:=85) rfl (fun hb=>?_) (fun hb=>?_)
     ·replace h:=bY (oQ hb) h;refine gm ?_;refine gb (cM rfl) ?_;refine pt ?_;refine mq ?_;refine aM (s:=89) rfl (fun hb=>?_) (fun hb=>?_)
      ·replace h:=bY (oQ hb) h;refine gm ?_;refine gb (cM rfl) ?_;refine pt ?_;refine mq ?_;refine aM (s:=93) rfl (fun hb=>?_) (fun hb=>?_)
       ·replace h:=bY (oQ hb) h;refine gm ?_;refine gb (cM rfl) ?_;refine pt ?_;refine mq ?_;refine aM (s:=97) rfl (fun hb=>?_) (fun hb=>?_)
        ·replace h:=bY (oQ hb) h;refine gm ?_;refine gb (cM rfl) ?_;refine pt ?_;refine mq ?_;refine aM (s:=101) rfl (fun hb=>?_) (fun hb=>?_)
         ·replace h:=bY (oQ hb) h;refine gm ?_;refine gb (cM rfl) ?_;refine pt ?_;refine mq ?_;refine aM (s:=105) rfl (fun hb=>?_) (fun hb=>?_)
          ·replace h:=bY (oQ hb) h;refine gm ?_;refine gb (cM rfl) ?_;refine pt ?_;refine mq ?_;refine aM (s:=109) rfl (fun hb=>?_) (fun hb=>?_)
           ·replace h:=bY (oQ hb) h;refine gm ?_;refine gb (cM rfl) ?_;refine pt ?_;refine mq ?_;refine aM (s:=113) rfl (fun hb=>?_) (fun hb=>?_)
            ·replace h:=bY (oQ hb) h;refine gm ?_;refine gb (cM rfl) ?_;refine pt ?_;refine mq ?_;refine aM (s:=117) rfl (fun hb=>?_) (fun hb=>?_)
             ·replace h:=bY (oQ hb) h;refine gm ?_;refine gb (cM rfl) ?_;refine pt ?_;refine mq ?_;refine aM (s:=121) rfl (fun hb=>?_) (fun hb=>?_)
              ·replace h:=bY (oQ hb) h;refine gm ?_;refine gb (cM rfl) ?_;refine pt ?_;refine mq ?_;refine aM (s:=125) rfl (fun hb=>?_) (fun hb=>?_)
               ·replace h:=bY (oQ hb) h;refine gm ?_;obtain⟨u,O,h⟩:=aa h;refine mz rfl rfl rfl rfl rfl rfl (ak [] rfl rfl KW rfl (mI k u O)) trivial ?_;obtain⟨QK,M,h⟩:=aa h;refine gb (ak [.tmp 126,.tmp 127] rfl rfl PY rfl (uG k r3.1 u QK M)) ?_;refine pt ?_;refine mq ?_;refine aM (s:=130) rfl (fun hb=>?_) (fun hb=>?_)
                ·replace h:=bY (uc hb) h;refine gm ?_;refine mz rfl rfl rfl rfl rfl rfl (bv (t:=(.int .i64)) [(.const (.int .i64 (0)),_),(.const (.int .i64 (1)),_),(.const (.int .i64 (3)),_),(.const (.int .i64 (1)),_)] [0,1,3,1] rfl rfl eo (.cons rfl .int (.cons rfl .int (.cons rfl .int (.cons rfl .int .nil)))) rfl rfl) ⟨rfl,rfl,rfl,rfl,trivial⟩ ?_;obtain⟨QJ,J,h⟩:=aa h;refine gb (ak [.tmp 131,.tmp 132] rfl rfl Bw rfl (eF k r5.1 [0,1,3,1] QJ J)) ?_;refine pt ?_;refine mq ?_;refine aM (s:=135) rfl (fun hb=>?_) (fun hb=>?_)
                 ·replace h:=bY (uc hb) h;refine gm ?_;refine gb (bv (t:=(.int .i64)) [(.const (.int .i64 (1)),_),(.const (.int .i64 (2)),_)] [1,2] rfl rfl eo (.cons rfl .int (.cons rfl .int .nil)) rfl rfl) ?_;obtain⟨QH,I,h⟩:=aa h;refine gb (ak [.tmp 136,.tmp 137] rfl rfl Bw rfl (eF k D.1 [1,2] QH I)) ?_;refine pt ?_;refine mq ?_;refine aM (s:=140) rfl (fun hb=>?_) (fun hb=>?_)
                  ·replace h:=bY (uc hb) h;refine gm ?_;refine gb (bv (t:=(.int .i64)) [(.const (.int .i64 (7)),_),(.const (.int .i64 (11)),_)] [7,11] rfl rfl eo (.cons rfl .int (.cons rfl .int .nil)) rfl rfl) ?_;obtain⟨n,F,h⟩:=aa h;refine gb (ak [.tmp 141,.tmp 142] rfl rfl Bw rfl (eF k y.1 [7,11] n F)) ?_;refine pt ?_;refine aq (nl ?_);exact jz ((),n) h []
                  ·replace h:=bj (ud hb) h;iterate 3 refine gn ?_
                   refine pf ?_;refine aq (nl ?_);exact jz ((),false) h []
                 ·replace h:=bj (ud hb) h;iterate 3 refine gn ?_
                  refine pf ?_;refine mq ?_;iterate 3 refine gn ?_
                  refine pf ?_;refine aq (nl ?_);exact jz ((),false) h []
                ·replace h:=bj (ud hb) h;iterate 3 refine gn ?_
                 refine pf ?_;refine mq ?_;iterate 3 refine gn ?_
                 refine pf ?_;refine mq ?_;iterate 3 refine gn ?_
                 refine pf ?_;refine aq (nl ?_);exact jz ((),false) h []
               ·replace h:=bj (oR hb) h;iterate 3 refine gn ?_
                refine pf ?_;refine mq ?_;iterate 3 refine gn ?_
                refine pf ?_;refine mq ?_;iterate 3 refine gn ?_
                refine pf ?_;refine mq ?_;iterate 3 refine gn ?_
                refine pf ?_;refine aq (nl ?_);exact jz ((),false) h []
              ·replace h:=bj (oR hb) h;iterate 2 refine gn ?_
               refine pf ?_;refine mq ?_;iterate 3 refine gn ?_
               refine pf ?_;refine mq ?_;iterate 3 refine gn ?_
               refine pf ?_;refine mq ?_;iterate 3 refine gn ?_
               refine pf ?_;refine mq ?_;iterate 3 refine gn ?_
               refine pf ?_;refine aq (nl ?_);exact jz ((),false) h []
             ·replace h:=bj (oR hb) h;iterate 2 refine gn ?_
              refine pf ?_;refine mq ?_;iterate 2 refine gn ?_
              refine pf ?_;refine mq ?_;iterate 3 refine gn ?_
              refine pf ?_;refine mq ?_;iterate 3 refine gn ?_
              refine pf ?_;refine mq ?_;iterate 3 refine gn ?_
              refine pf ?_;refine mq ?_;iterate 3 refine gn ?_
              refine pf ?_;refine aq (nl ?_);exact jz ((),false) h []
            ·replace h:=bj (oR hb) h;iterate 2 refine gn ?_
             refine pf ?_;refine mq ?_;iterate 2 refine gn ?_
             refine pf ?_;refine mq ?_;iterate 2 refine gn ?_
             refine pf ?_;refine mq ?_;iterate 3 refine gn ?_
             refine pf ?_;refine mq ?_;iterate 3 refine gn ?_
             refine pf ?_;refine mq ?_;iterate 3 refine gn ?_
             refine pf ?_;refine mq ?_;iterate 3 refine gn ?_
             refine pf ?_;refine aq (nl ?_);exact jz ((),false) h []
           ·replace h:=bj (oR hb) h;iterate 2 refine gn ?_
            refine pf ?_;refine mq ?_;iterate 2 refine gn ?_
            refine pf ?_;refine mq ?_;iterate 2 refine gn ?_
            refine pf ?_;refine mq ?_;iterate 2 refine gn ?_
            refine pf ?_;refine mq ?_;iterate 3 refine gn ?_
            refine pf ?_;refine mq ?_;iterate 3 refine gn ?_
            refine pf ?_;refine mq ?_;iterate 3 refine gn ?_
            refine pf ?_;refine mq ?_;iterate 3 refine gn ?_
            refine pf ?_;refine aq (nl ?_);exact jz ((),false) h []
          ·replace h:=bj (oR hb) h;iterate 2 refine gn ?_
           refine pf ?_;refine mq ?_;iterate 2 refine gn ?_
           refine pf ?_;refine mq ?_;iterate 2 refine gn ?_
           refine pf ?_;refine mq ?_;iterate 2 refine gn ?_
           refine pf ?_;refine mq ?_;iterate 2 refine gn ?_
           refine pf ?_;refine mq ?_;iterate 3 refine gn ?_
           refine pf ?_;refine mq ?_;iterate 3 refine gn ?_
           refine pf ?_;refine mq ?_;iterate 3 refine gn ?_
           refine pf ?_;refine mq ?_;iterate 3 refine gn ?_
           refine pf ?_;refine aq (nl ?_);exact jz ((),false) h []
         ·replace h:=bj (oR hb) h;iterate 2 refine gn ?_
          refine pf ?_;refine mq ?_;iterate 2 refine gn ?_
          refine pf ?_;refine mq ?_;iterate 2 refine gn ?_
          refine pf ?_;refine mq ?_;iterate 2 refine gn ?_
          refine pf ?_;refine mq ?_;iterate 2 refine gn ?_
          refine pf ?_;refine mq ?_;iterate 2 refine gn ?_
          refine pf ?_;refine mq ?_;iterate 3 refine gn ?_
          refine pf ?_;refine mq ?_;iterate 3 refine gn ?_
          refine pf ?_;refine mq ?_;iterate 3 refine gn ?_
          refine pf ?_;refine mq ?_;iterate 3 refine gn ?_
          refine pf ?_;refine aq (nl ?_);exact jz ((),false) h []
        ·replace h:=bj (oR hb) h;iterate 2 refine gn ?_
         refine pf ?_;refine mq ?_;iterate 2 refine gn ?_
         refine pf ?_;refine mq ?_;iterate 2 refine gn ?_
         refine pf ?_;refine mq ?_;iterate 2 refine gn ?_
         refine pf ?_;refine mq ?_;iterate 2 refine gn ?_
         refine pf ?_;refine mq ?_;iterate 2 refine gn ?_
         refine pf ?_;refine mq ?_;iterate 2 refine gn ?_
         refine pf ?_;refine mq ?_;iterate 3 refine gn ?_
         refine pf ?_;refine mq ?_;iterate 3 refine gn ?_
         refine pf ?_;refine mq ?_;iterate 3 refine gn ?_
         refine pf ?_;refine mq ?_;iterate 3 refine gn ?_
         refine pf ?_;refine aq (nl ?_);exact jz ((),false) h []
       ·replace h:=bj (oR hb) h;iterate 2 refine gn ?_
        refine pf ?_;refine mq ?_;iterate 2 refine gn ?_
        refine pf ?_;refine mq ?_;iterate 2 refine gn ?_
        refine pf ?_;refine mq ?_;iterate 2 refine gn ?_
        refine pf ?_;refine mq ?_;iterate 2 refine gn ?_
        refine pf ?_;refine mq ?_;iterate 2 refine gn ?_
        refine pf ?_;refine mq ?_;iterate 2 refine gn ?_
        refine pf ?_;refine mq ?_;iterate 2 refine gn ?_
        refine pf ?_;refine mq ?_;iterate 3 refine gn ?_
        refine pf ?_;refine mq ?_;iterate 3 refine gn ?_
        refine pf ?_;refine mq ?_;iterate 3 refine gn ?_
        refine pf ?_;refine mq ?_;iterate 3 refine gn ?_
        refine pf ?_;refine aq (nl ?_);exact jz ((),false) h []
      ·replace h:=bj (oR hb) h;iterate 2 refine gn ?_
       refine pf ?_;refine mq ?_;iterate 2 refine gn ?_
       refine pf ?_;refine mq ?_;iterate 2 refine gn ?_
       refine pf ?_;refine mq ?_;iterate 2 refine gn ?_
       refine pf ?_;refine mq ?_;iterate 2 refine gn ?_
       refine pf ?_;refine mq ?_;iterate 2 refine gn ?_
       refine pf ?_;refine mq ?_;iterate 2 refine gn ?_
       refine pf ?_;refine mq ?_;iterate 2 refine gn ?_
       refine pf ?_;refine mq ?_;iterate 2 refine gn ?_
       refine pf ?_;refine mq ?_;iterate 3 refine gn ?_
       refine pf ?_;refine mq ?_;iterate 3 refine gn ?_
       refine pf ?_;refine mq ?_;iterate 3 refine gn ?_
       refine pf ?_;refine mq ?_;iterate 3 refine gn ?_
       refine pf ?_;refine aq (nl ?_);exact jz ((),false) h []
     ·replace h:=bj (oR hb) h;iterate 2 refine gn ?_
      refine pf ?_;refine mq ?_;iterate 2 refine gn ?_
      refine pf ?_;refine mq ?_;iterate 2 refine gn ?_
      refine pf ?_;refine mq ?_;iterate 2 refine gn ?_
      refine pf ?_;refine mq ?_;iterate 2 refine gn ?_
      refine pf ?_;refine mq ?_;iterate 2 refine gn ?_
      refine pf ?_;refine mq ?_;iterate 2 refine gn ?_
      refine pf ?_;refine mq ?_;iterate 2 refine gn ?_
      refine pf ?_;refine mq ?_;iterate 2 refine gn ?_
      refine pf ?_;refine mq ?_;iterate 2 refine gn ?_
      refine pf ?_;refine mq ?_;iterate 3 refine gn ?_
      refine pf ?_;refine mq ?_;iterate 3 refine gn ?_
      refine pf ?_;refine mq ?_;iterate 3 refine gn ?_
      refine pf ?_;refine mq ?_;iterate 3 refine gn ?_
      refine pf ?_;refine aq (nl ?_);exact jz ((),false) h []
    ·replace h:=bj (oR hb) h;iterate 2 refine gn ?_
     refine pf ?_;refine mq ?_;iterate 2 refine gn ?_
     refine pf ?_;refine mq ?_;iterate 2 refine gn ?_
     refine pf ?_;refine mq ?_;iterate 2 refine gn ?_
     refine pf ?_;refine mq ?_;iterate 2 refine gn ?_
     refine pf ?_;refine mq ?_;iterate 2 refine gn ?_
     refine pf ?_;refine mq ?_;iterate 2 refine gn ?_
     refine pf ?_;refine mq ?_;iterate 2 refine gn ?_
     refine pf ?_;refine mq ?_;iterate 2 refine gn ?_
     refine pf ?_;refine mq ?_;iterate 2 refine gn ?_
     refine pf ?_;refine mq ?_;iterate 2 refine gn ?_
     refine pf ?_;refine mq ?_;iterate 3 refine gn ?_
     refine pf ?_;refine mq ?_;iterate 3 refine gn ?_
     refine pf ?_;refine mq ?_;iterate 3 refine gn ?_
     refine pf ?_;refine mq ?_;iterate 3 refine gn ?_
     refine pf ?_;refine aq (nl ?_);exact jz ((),false) h []
   ·replace h:=bj (oR hb) h;iterate 2 refine gn ?_
    refine pf ?_;refine mq ?_;iterate 2 refine gn ?_
    refine pf ?_;refine mq ?_;iterate 2 refine gn ?_
    refine pf ?_;refine mq ?_;iterate 2 refine gn ?_
    refine pf ?_;refine mq ?_;iterate 2 refine gn ?_
    refine pf ?_;refine mq ?_;iterate 2 refine gn ?_
    refine pf ?_;refine mq ?_;iterate 2 refine gn ?_
    refine pf ?_;refine mq ?_;iterate 2 refine gn ?_
    refine pf ?_;refine mq ?_;iterate 2 refine gn ?_
    refine pf ?_;refine mq ?_;iterate 2 refine gn ?_
    refine pf ?_;refine mq ?_;iterate 2 refine gn ?_
    refine pf ?_;refine mq ?_;iterate 2 refine gn ?_
    refine pf ?_;refine mq ?_;iterate 3 refine gn ?_
    refine pf ?_;refine mq ?_;iterate 3 refine gn ?_
    refine pf ?_;refine mq ?_;iterate 3 refine gn ?_
    refine pf ?_;refine mq ?_;iterate 3 refine gn ?_
    refine pf ?_;refine aq (nl ?_);exact jz ((),false) h []
  ·replace h:=bj (oR hb) h;iterate 2 refine gn ?_
   refine pf ?_;refine mq ?_;iterate 2 refine gn ?_
   refine pf ?_;refine mq ?_;iterate 2 refine gn ?_
   refine pf ?_;refine mq ?_;iterate 2 refine gn ?_
   refine pf ?_;refine mq ?_;iterate 2 refine gn ?_
   refine pf ?_;refine mq ?_;iterate 2 refine gn ?_
   refine pf ?_;refine mq ?_;iterate 2 refine gn ?_
   refine pf ?_;refine mq ?_;iterate 2 refine gn ?_
   refine pf ?_;refine mq ?_;iterate 2 refine gn ?_
   refine pf ?_;refine mq ?_;iterate 2 refine gn ?_
   refine pf ?_;refine mq ?_;iterate 2 refine gn ?_
   refine pf ?_;refine mq ?_;iterate 2 refine gn ?_
   refine pf ?_;refine mq ?_;iterate 2 refine gn ?_
   refine pf ?_;refine mq ?_;iterate 3 refine gn ?_
   refine pf ?_;refine mq ?_;iterate 3 refine gn ?_
   refine pf ?_;refine mq ?_;iterate 3 refine gn ?_
   refine pf ?_;refine mq ?_;iterate 3 refine gn ?_
   refine pf ?_;refine aq (nl ?_);exact jz ((),false) h []
 ·
  refine aG ?_;cases h;exact ra
def dq(k:Nat)(a0:(List Int)):Option (List Int):=
 (cF (cx (List.length ([]:(List Int))+List.length a0))).bind fun _=>
 some (([]:(List Int))++a0)
theorem dH(k:Nat)(a0:(List Int))(r:(List Int))(h:dq k a0=some r):
 bQ Tryz.prog 27 [Ri a0] [] (fun z:Value=>(bG [.eq z],[.sl z 3 (.int .i64) r])):=by
 unfold dq at h
 replace h:=bi h
 refine bQ.of 6 Tryz.func27 rfl Tryz.ntmps27 rfl fun S w0=>?_
 refine sr ?_
 refine cq ?_
 refine nt ?_
 refine sr ?_
 refine aA rfl rfl rfl (lO (t:=(.int .i64)) [] ([]:(List Int)) rfl rfl eo .nil rfl rfl) trivial fun v1=>?_
 refine mq ?_
 obtain⟨u2,c,h⟩:=aa h
 refine dE rfl rfl rfl (bI rfl rfl eo (av c)) ⟨rfl,rfl,trivial⟩ fun v3=>?_
 refine aq ?_
 refine nt ?_
 refine aG ?_
 cases h
 exact aZ v3 [.eq v3] 1 ⟨rfl,trivial⟩ rfl
def eC(k:Nat)(a0:ae):Nat→((List bp)×Int)→Option (List bp)
 |0,_=>none
 |n+1,y8=>
  if y8.2 < (a0.1.length:Int) then((aL a0.1 y8.2).bind fun c=>
  (dq k c.1).bind fun e=>
  (cF (cx (List.length y8.1+List.length [(e,c.2)]))).bind fun _=>
  (ck (y8.2+1)).bind fun h=>
  eC k a0 n (y8.1++[(e,c.2)],h)) else(some y8.1)
def eB(k:Nat)(a0:ae):Nat→((List ax)×Int)→Option (List ax)
 |0,_=>none
 |n+1,c=>
  if c.2 < (a0.2.1.length:Int) then((aL a0.2.1 c.2).bind fun e=>
  (dq k e.1).bind fun h=>
  (cF (cx (List.length c.1+List.length [(h,e.2)]))).bind fun _=>
  (ck (c.2+1)).bind fun j=>
  eB k a0 n (c.1++[(h,e.2)],j)) else(some c.1)
def fP(k:Nat)(a0:ae):Option ae:=
 (dq k a0.2.2.1).bind fun r3=>
 (dq k a0.2.2.2).bind fun r4=>
 ((eC k a0 k (([]:(List bp)),0)):Option ((List bp))).bind fun x6=>
 ((eB k a0 k (([]:(List ax)),0)):Option ((List ax))).bind fun c=>
 some (x6,c,r3,r4)
theorem nO(k:Nat)(a0:ae)(r:ae)(h:fP k a0=some r):
 bQ Tryz.prog 8 [.rep ag a0] [] (fun z:Value×Value=>(bG [.agg (.pair (.eq z.1) (.pair (.eq z.2) (.pair (Ri r.2.2.1) (Ri r.2.2.2))))],[.sl z.1 45 aJ r.1,.sl z.2 47 aw r.2.1])):=by
 unfold fP at h
 replace h:=bi h
 refine bQ.of 60 Tryz.func8 rfl Tryz.ntmps8 rfl fun S w0=>?_
 refine sr ?_
 refine bx fun b1=>?_
 refine aA rfl rfl rfl (aF rfl oS rM) trivial fun b2=>?_
 refine nt ?_
 refine aj ?_
 refine i8 ?_
 refine aP rfl rfl rfl (am rfl fQ) ⟨rfl,trivial⟩ ?_
 refine fy 1 rfl rfl rfl rfl (ai rfl bR dF rfl) ⟨rfl,trivial⟩ ?_
 obtain⟨r3,QJ,h⟩:=aa h
 have QL:=dH k a0.2.2.1 r3 QJ
 refine aP rfl rfl rfl (t9 (ak [.tmp 9] rfl rfl zR rfl QL)) ⟨rfl,trivial⟩ ?_
 refine aP rfl rfl rfl (am rfl eV) ⟨rfl,trivial⟩ ?_
 refine fy 1 rfl rfl rfl rfl (ai rfl bR dF rfl) ⟨rfl,trivial⟩ ?_
 obtain⟨r4,QH,h⟩:=aa h
 have QK:=dH k a0.2.2.2 r4 QH
 refine aP rfl rfl rfl (t9 (ak [.tmp 12] rfl rfl zR rfl QK)) ⟨rfl,trivial⟩ ?_
 refine aP rfl rfl rfl (cR [(2,.tmp 10,_),(3,.tmp 13,_)] rfl MG oS IM (iF ⟨rfl,rfl,trivial⟩) rfl) ⟨rfl,rfl,trivial⟩ ?_
 refine kx (vr 26 N4) (fun _=>rfl) rfl rfl rfl (aF rfl oS rM) trivial ?_
 refine mA 8 [true,true,true,true,true,true,true,true] [] [] [] rfl (by kernel_rfl) (by kernel_rfl) (by kernel_rfl) bw (fun vs hv hB=>?_)
 obtain⟨w0,QT,rfl,QG⟩:=ar hv
 obtain⟨w1,QS,rfl,QF⟩:=ar QG
 obtain⟨w2,QR,rfl,QE⟩:=ar QF
 obtain⟨w3,QQ,rfl,QD⟩:=ar QE
 obtain⟨w4,QP,rfl,QC⟩:=ar QD
 obtain⟨w5,QO,rfl,QB⟩:=ar QC
 obtain⟨w6,QN,rfl,QA⟩:=ar QB
 obtain⟨w7,QM,rfl,se⟩:=ar QA
 obtain rfl:=kp se
 obtain⟨b5,rfl⟩:=nW hB.2.2.2.2.2.2.2.1
 refine⟨[0,1,2],[.obj b2 26 N4,.obj b1 26 (.rep ag a0),.obj b5 26 N4],by kernel_rfl,by decide,?_⟩
 refine i7 2 rfl ?_
 refine nw rfl rfl (aE rfl bL trivial rfl rfl) ⟨rfl,rfl,trivial⟩ (by kernel_rfl) ?_
 refine sN ?_
 refine bC (SE.fin (Γ':=[(1,Pt b1),(2,Pt b2),(3,Pt b5)]) (Δ':=[.obj b5 26 (.agg (.pair (.eq (.slice none 0 0)) (.pair (.eq (.slice none 0 0)) (.pair (Ri r3) (Ri r4))))),.obj b2 26 N4,.obj b1 26 (.rep ag a0)]) [0,1,2] ⟨rfl,rfl,rfl,trivial⟩ rfl) ?_
 refine tn ?_
 refine ay (Z:=Value) (α:=(List bp)) (fun z7 x6=>[(1,Pt b1),(2,Pt b2),(3,Pt b5)]) (fun z7 x6=>[.obj b1 26 (.rep ag a0),.obj b2 26 N4,.obj b5 26 (.agg (.pair (.eq z7) (.pair (.eq (.slice none 0 0)) (.pair (Ri r3) (Ri r4))))),.sl z7 45 aJ x6]) h (fun K h=>?_) (fun z7 x6 h=>?_)
 ·
  refine sr (cq (nt (al ?_)));refine eL (SE.nil 45 aJ) ?_;refine aD (fun z9 y8=>[(1,Pt b1),(2,Pt b2),(3,Pt b5),(4,I y8.2)]) (fun z9 y8=>[.obj b1 26 (.rep ag a0),.obj b2 26 N4,.obj b5 26 (.agg (.pair (.eq z9) (.pair (.eq (.slice none 0 0)) (.pair (Ri r3) (Ri r4))))),.sl z9 45 aJ y8.1]) (eC k a0) k (.slice none 0 0) (([]:(List bp)),0) (fun _=>rfl) h (SE.fin [3,2,1,0] ⟨rfl,rfl,rfl,rfl,trivial⟩ rfl) (fun n z9 y8 h=>?_);unfold eC at h;refine aj (sr (mq ?_));refine fl bu ?_;refine lo dM ?_;refine ol kU ?_;refine jb (ba rfl) ?_;refine nt (ci h (fun h=>?_) (fun h=>?_))
  ·refine sk (aj (al (sr (fl bu ?_))));refine lo dM ?_;refine mq ?_;obtain⟨u,J,h⟩:=aa h;refine jb (aC (t:=aJ) rfl kU eY J) ?_;refine ja (ao (t:=aJ) rfl eY rfl) ?_;refine aA rfl rfl rfl (aF rfl pU vB) trivial fun Q0=>?_;refine aK rfl rfl (aE rfl eY rfl rfl rfl) ⟨rfl,rfl,trivial⟩ ?_;refine nt (sr (fl iq ?_));refine lo bR ?_;obtain⟨y,U,h⟩:=aa h;refine aA rfl rfl rfl (ak [.tmp 28] rfl rfl zR rfl (dH k u.1 y U)) ⟨rfl,trivial⟩ fun QW=>?_;refine fl iq ?_;refine fV fun o14=>?_;refine fr 1 ?_;refine aK rfl rfl (aE rfl bR o14 rfl rfl) ⟨rfl,rfl,trivial⟩ ?_;refine nt (ah (fl bu ?_));refine fr 4 ?_;refine lo dM ?_;refine fr 1 ?_;refine fr 2 ?_;refine eX (cD (off:=0) [29] ⟨rfl,trivial⟩ rfl rfl) ?_;refine lo eY ?_;refine ja (bv (t:=aJ) [(.tmp 33,_)] [(y,u.2)] rfl rfl CP (.cons trivial (.agg (.pair .rep .rep)) .nil) rfl rfl) ?_;obtain⟨QY,O,h⟩:=aa h;refine fr 4 ?_;refine dE rfl rfl rfl (bI rfl rfl CP (av O)) ⟨rfl,rfl,trivial⟩ fun mc=>?_;refine fl bu ?_;refine fV fun o17=>?_;refine fr 2 ?_;refine aK rfl rfl (aE rfl dM o17 rfl rfl) ⟨rfl,rfl,trivial⟩ ?_;refine aT (aO (tn (ah (mq ?_))));obtain⟨Y,F,h⟩:=aa h;refine jb (bh rfl F) ?_;refine aq (nl ?_);exact jz (mc,(y8.1++[(y,u.2)],Y)) h [3,4,0,1]
  ·refine xa ?_;exact jz (z9,y8.1) h [0,1,2,3]
 ·
  refine ay (Z:=Value) (α:=(List ax)) (fun c s=>[(2,Pt b2),(3,Pt b5)]) (fun c s=>[.obj b2 26 N4,.obj b5 26 (.agg (.pair (.eq z7) (.pair (.eq c) (.pair (Ri r3) (Ri r4))))),.sl z7 45 aJ x6,.sl c 47 aw s]) h (fun K h=>?_) (fun c s h=>?_)
  ·refine sr (cq (nt (al ?_)));refine eL (SE.nil 47 aw) ?_;refine aD (fun j e=>[(1,Pt b1),(2,Pt b2),(3,Pt b5),(6,I e.2)]) (fun j e=>[.obj b1 26 (.rep ag a0),.obj b2 26 N4,.obj b5 26 (.agg (.pair (.eq z7) (.pair (.eq j) (.pair (Ri r3) (Ri r4))))),.sl z7 45 aJ x6,.sl j 47 aw e.1]) (eB k a0) k (.slice none 0 0) (([]:(List ax)),0) (fun _=>rfl) h (SE.fin [1,2,3,4,0] ⟨rfl,rfl,rfl,rfl,trivial⟩ rfl) (fun n j e h=>?_);unfold eB at h;refine aj (sr (mq ?_));refine fl bA ?_;refine lo eu ?_;refine ol l8 ?_;refine jb (ba rfl) ?_;refine nt (ci h (fun h=>?_) (fun h=>?_))
   ·refine sk (aj (al (sr (fl bA ?_))));refine lo eu ?_;refine mq ?_;obtain⟨l,E,h⟩:=aa h;refine jb (aC (t:=aw) rfl l8 eI E) ?_;refine ja (ao (t:=aw) rfl eI rfl) ?_;refine aA rfl rfl rfl (aF rfl rS xz) trivial fun QZ=>?_;refine aK rfl rfl (aE rfl eI rfl rfl rfl) ⟨rfl,rfl,trivial⟩ ?_;refine nt (sr (fl eU ?_));refine lo bR ?_;obtain⟨x,Q,h⟩:=aa h;refine aA rfl rfl rfl (ak [.tmp 50] rfl rfl zR rfl (dH k l.1 x Q)) ⟨rfl,trivial⟩ fun QU=>?_;refine fl eU ?_;refine fV fun o27=>?_;refine fr 1 ?_;refine aK rfl rfl (aE rfl bR o27 rfl rfl) ⟨rfl,rfl,trivial⟩ ?_;refine nt (ah (fl bA ?_));refine fr 4 ?_;refine lo eu ?_;refine fr 1 ?_;refine fr 2 ?_;refine eX (cD (off:=0) [51] ⟨rfl,trivial⟩ rfl rfl) ?_;refine lo eI ?_;refine ja (bv (t:=aw) [(.tmp 55,_)] [(x,l.2)] rfl rfl wa (.cons trivial (.agg (.pair .rep .rep)) .nil) rfl rfl) ?_;obtain⟨QX,M,h⟩:=aa h;refine fr 5 ?_;refine dE rfl rfl rfl (bI rfl rfl wa (av M)) ⟨rfl,rfl,trivial⟩ fun ac=>?_;refine fl bA ?_;refine fV fun o30=>?_;refine fr 2 ?_;refine aK rfl rfl (aE rfl eu o30 rfl rfl) ⟨rfl,rfl,trivial⟩ ?_;refine aT (aO (tn (ah (mq ?_))));obtain⟨X,D,h⟩:=aa h;refine jb (bh rfl D) ?_;refine aq (nl ?_);exact jz (ac,(e.1++[(x,l.2)],X)) h [3,4,0,5,1]
   ·refine xa ?_;exact jz (j,e.1) h [1,2,3,4]
  ·refine sr (fr 1 ?_);refine lo bL ?_;refine fr 1 ?_;refine aK rfl rfl (aE rfl bL trivial rfl rfl) ⟨rfl,rfl,trivial⟩ ?_;refine nt (aG (bC (SE.fin (Γ':=[(2,_)]) [2,3,0,1] ⟨rfl,trivial⟩ rfl) ?_));cases h;exact aZ (z7,c) [.agg (.pair (.eq z7) (.pair (.eq c) (.pair (Ri r3) (Ri r4))))] 2 ⟨⟨_,_,_,_,_,rfl,(.tail _ (.tail _ (.head _))),bL,(sn),rfl⟩,trivial⟩ rfl
def dQ(k:Nat)(a0:ae):Nat→((List bp)×Int)→Option (List bp)
 |0,_=>none
 |n+1,y8=>
  if y8.2 < (a0.1.length:Int) then((aL a0.1 y8.2).bind fun c=>
  (dq k c.1).bind fun e=>
  (cF (cx (List.length y8.1+List.length [(e,c.2)]))).bind fun _=>
  (ck (y8.2+1)).bind fun h=>
  dQ k a0 n (y8.1++[(e,c.2)],h)) else(some y8.1)
def dP(k:Nat)(a0:ae):Nat→((List ax)×Int)→Option (List ax)
 |0,_=>none
 |n+1,c=>
  if c.2 < (a0.2.1.length:Int) then((aL a0.2.1 c.2).bind fun e=>
  (dq k e.1).bind fun h=>
  (cF (cx (List.length c.1+List.length [(h,e.2)]))).bind fun _=>
  (ck (c.2+1)).bind fun j=>
  dP k a0 n (c.1++[(h,e.2)],j)) else(some c.1)
def fk(k:Nat)(a0:ae):Option ae:=
 (dq k a0.2.2.1).bind fun r3=>
 (dq k a0.2.2.2).bind fun r4=>
 ((dQ k a0 k (([]:(List bp)),0)):Option ((List bp))).bind fun x6=>
 ((dP k a0 k (([]:(List ax)),0)):Option ((List ax))).bind fun c=>
 some (x6,c,r3,r4)
theorem ni(k:Nat)(a0:ae)(r:ae)(h:fk k a0=some r):
 bQ Tryz.prog 8 [.rep ag a0] [] (fun _:Unit=>(bG [.rep ag r],[])):=by
 unfold fk at h
 replace h:=bi h
 refine bQ.of 60 Tryz.func8 rfl Tryz.ntmps8 rfl fun S w0=>?_
 refine sr ?_
 refine bx fun b1=>?_
 refine aA rfl rfl rfl (aF rfl oS rM) trivial fun b2=>?_
 refine nt ?_
 refine aj ?_
 refine i8 ?_
 refine aP rfl rfl rfl (am rfl fQ) ⟨rfl,trivial⟩ ?_
 refine fy 1 rfl rfl rfl rfl (ai rfl bR dF rfl) ⟨rfl,trivial⟩ ?_
 obtain⟨r3,QJ,h⟩:=aa h
 have QL:=dH k a0.2.2.1 r3 QJ
 refine aP rfl rfl rfl (t9 (ak [.tmp 9] rfl rfl zR rfl QL)) ⟨rfl,trivial⟩ ?_
 refine aP rfl rfl rfl (am rfl eV) ⟨rfl,trivial⟩ ?_
 refine fy 1 rfl rfl rfl rfl (ai rfl bR dF rfl) ⟨rfl,trivial⟩ ?_
 obtain⟨r4,QH,h⟩:=aa h
 have QK:=dH k a0.2.2.2 r4 QH
 refine aP rfl rfl rfl (t9 (ak [.tmp 12] rfl rfl zR rfl QK)) ⟨rfl,trivial⟩ ?_
 refine aP rfl rfl rfl (cR [(2,.tmp 10,_),(3,.tmp 13,_)] rfl MG oS IM (iF ⟨rfl,rfl,trivial⟩) rfl) ⟨rfl,rfl,trivial⟩ ?_
 refine kx (vr 26 N4) (fun _=>rfl) rfl rfl rfl (aF rfl oS rM) trivial ?_
 refine mA 8 [true,true,true,true,true,true,true,true] [] [] [] rfl (by kernel_rfl) (by kernel_rfl) (by kernel_rfl) bw (fun vs hv hB=>?_)
 obtain⟨w0,QT,rfl,QG⟩:=ar hv
 obtain⟨w1,QS,rfl,QF⟩:=ar QG
 obtain⟨w2,QR,rfl,QE⟩:=ar QF
 obtain⟨w3,QQ,rfl,QD⟩:=ar QE
 obtain⟨w4,QP,rfl,QC⟩:=ar QD
 obtain⟨w5,QO,rfl,QB⟩:=ar QC
 obtain⟨w6,QN,rfl,QA⟩:=ar QB
 obtain⟨w7,QM,rfl,se⟩:=ar QA
 obtain rfl:=kp se
 obtain⟨b5,rfl⟩:=nW hB.2.2.2.2.2.2.2.1
 refine⟨[0,1,2],[.obj b2 26 N4,.obj b1 26 (.rep ag a0),.obj b5 26 N4],by kernel_rfl,by decide,?_⟩
 refine i7 2 rfl ?_
 refine nw rfl rfl (aE rfl bL trivial rfl rfl) ⟨rfl,rfl,trivial⟩ (by kernel_rfl) ?_
 refine sN ?_
 refine bC (SE.fin (Γ':=[(1,Pt b1),(2,Pt b2),(3,Pt b5)]) (Δ':=[.obj b5 26 (.agg (.pair (.eq (.slice none 0 0)) (.pair (.eq (.slice none 0 0)) (.pair (Ri r3) (Ri r4))))),.obj b2 26 N4,.obj b1 26 (.rep ag a0)]) [0,1,2] ⟨rfl,rfl,rfl,trivial⟩ rfl) ?_
 refine tn ?_
 refine ay (Z:=Value) (α:=(List bp)) (fun z7 x6=>[(1,Pt b1),(2,Pt b2),(3,Pt b5)]) (fun z7 x6=>[.obj b1 26 (.rep ag a0),.obj b2 26 N4,.obj b5 26 (.agg (.pair (.eq z7) (.pair (.eq (.slice none 0 0)) (.pair (Ri r3) (Ri r4))))),.sl z7 45 aJ x6]) h (fun K h=>?_) (fun z7 x6 h=>?_)
 ·
  refine sr (cq (nt (al ?_)));refine eL (SE.nil 45 aJ) ?_;refine aD (fun z9 y8=>[(1,Pt b1),(2,Pt b2),(3,Pt b5),(4,I y8.2)]) (fun z9 y8=>[.obj b1 26 (.rep ag a0),.obj b2 26 N4,.obj b5 26 (.agg (.pair (.eq z9) (.pair (.eq (.slice none 0 0)) (.pair (Ri r3) (Ri r4))))),.sl z9 45 aJ y8.1]) (dQ k a0) k (.slice none 0 0) (([]:(List bp)),0) (fun _=>rfl) h (SE.fin [3,2,1,0] ⟨rfl,rfl,rfl,rfl,trivial⟩ rfl) (fun n z9 y8 h=>?_);unfold dQ at h;refine aj (sr (mq ?_));refine fl bu ?_;refine lo dM ?_;refine ol kU ?_;refine jb (ba rfl) ?_;refine nt (ci h (fun h=>?_) (fun h=>?_))
  ·refine sk (aj (al (sr (fl bu ?_))));refine lo dM ?_;refine mq ?_;obtain⟨u,J,h⟩:=aa h;refine jb (aC (t:=aJ) rfl kU eY J) ?_;refine ja (ao (t:=aJ) rfl eY rfl) ?_;refine aA rfl rfl rfl (aF rfl pU vB) trivial fun Q0=>?_;refine aK rfl rfl (aE rfl eY rfl rfl rfl) ⟨rfl,rfl,trivial⟩ ?_;refine nt (sr (fl iq ?_));refine lo bR ?_;obtain⟨y,U,h⟩:=aa h;refine aA rfl rfl rfl (ak [.tmp 28] rfl rfl zR rfl (dH k u.1 y U)) ⟨rfl,trivial⟩ fun QW=>?_;refine fl iq ?_;refine fV fun o14=>?_;refine fr 1 ?_;refine aK rfl rfl (aE rfl bR o14 rfl rfl) ⟨rfl,rfl,trivial⟩ ?_;refine nt (ah (fl bu ?_));refine fr 4 ?_;refine lo dM ?_;refine fr 1 ?_;refine fr 2 ?_;refine eX (cD (off:=0) [29] ⟨rfl,trivial⟩ rfl rfl) ?_;refine lo eY ?_;refine ja (bv (t:=aJ) [(.tmp 33,_)] [(y,u.2)] rfl rfl CP (.cons trivial (.agg (.pair .rep .rep)) .nil) rfl rfl) ?_;obtain⟨QY,O,h⟩:=aa h;refine fr 4 ?_;refine dE rfl rfl rfl (bI rfl rfl CP (av O)) ⟨rfl,rfl,trivial⟩ fun mc=>?_;refine fl bu ?_;refine fV fun o17=>?_;refine fr 2 ?_;refine aK rfl rfl (aE rfl dM o17 rfl rfl) ⟨rfl,rfl,trivial⟩ ?_;refine aT (aO (tn (ah (mq ?_))));obtain⟨Y,F,h⟩:=aa h;refine jb (bh rfl F) ?_;refine aq (nl ?_);exact jz (mc,(y8.1++[(y,u.2)],Y)) h [3,4,0,1]
  ·refine xa ?_;exact jz (z9,y8.1) h [0,1,2,3]
 ·
  refine ay (Z:=Value) (α:=(List ax)) (fun l e=>[(2,Pt b2),(3,Pt b5)]) (fun l e=>[.obj b2 26 N4,.obj b5 26 (.agg (.pair (.eq z7) (.pair (.eq l) (.pair (Ri r3) (Ri r4))))),.sl z7 45 aJ x6,.sl l 47 aw e]) h (fun K h=>?_) (fun l e h=>?_)
  ·refine sr (cq (nt (al ?_)));refine eL (SE.nil 47 aw) ?_;refine aD (fun j c=>[(1,Pt b1),(2,Pt b2),(3,Pt b5),(6,I c.2)]) (fun j c=>[.obj b1 26 (.rep ag a0),.obj b2 26 N4,.obj b5 26 (.agg (.pair (.eq z7) (.pair (.eq j) (.pair (Ri r3) (Ri r4))))),.sl z7 45 aJ x6,.sl j 47 aw c.1]) (dP k a0) k (.slice none 0 0) (([]:(List ax)),0) (fun _=>rfl) h (SE.fin [1,2,3,4,0] ⟨rfl,rfl,rfl,rfl,trivial⟩ rfl) (fun n j c h=>?_);unfold dP at h;refine aj (sr (mq ?_));refine fl bA ?_;refine lo eu ?_;refine ol l8 ?_;refine jb (ba rfl) ?_;refine nt (ci h (fun h=>?_) (fun h=>?_))
   ·refine sk (aj (al (sr (fl bA ?_))));refine lo eu ?_;refine mq ?_;obtain⟨s,E,h⟩:=aa h;refine jb (aC (t:=aw) rfl l8 eI E) ?_;refine ja (ao (t:=aw) rfl eI rfl) ?_;refine aA rfl rfl rfl (aF rfl rS xz) trivial fun QZ=>?_;refine aK rfl rfl (aE rfl eI rfl rfl rfl) ⟨rfl,rfl,trivial⟩ ?_;refine nt (sr (fl eU ?_));refine lo bR ?_;obtain⟨x,Q,h⟩:=aa h;refine aA rfl rfl rfl (ak [.tmp 50] rfl rfl zR rfl (dH k s.1 x Q)) ⟨rfl,trivial⟩ fun QU=>?_;refine fl eU ?_;refine fV fun o27=>?_;refine fr 1 ?_;refine aK rfl rfl (aE rfl bR o27 rfl rfl) ⟨rfl,rfl,trivial⟩ ?_;refine nt (ah (fl bA ?_));refine fr 4 ?_;refine lo eu ?_;refine fr 1 ?_;refine fr 2 ?_;refine eX (cD (off:=0) [51] ⟨rfl,trivial⟩ rfl rfl) ?_;refine lo eI ?_;refine ja (bv (t:=aw) [(.tmp 55,_)] [(x,s.2)] rfl rfl wa (.cons trivial (.agg (.pair .rep .rep)) .nil) rfl rfl) ?_;obtain⟨QX,M,h⟩:=aa h;refine fr 5 ?_;refine dE rfl rfl rfl (bI rfl rfl wa (av M)) ⟨rfl,rfl,trivial⟩ fun ac=>?_;refine fl bA ?_;refine fV fun o30=>?_;refine fr 2 ?_;refine aK rfl rfl (aE rfl eu o30 rfl rfl) ⟨rfl,rfl,trivial⟩ ?_;refine aT (aO (tn (ah (mq ?_))));obtain⟨X,D,h⟩:=aa h;refine jb (bh rfl D) ?_;refine aq (nl ?_);exact jz (ac,(c.1++[(x,s.2)],X)) h [3,4,0,5,1]
   ·refine xa ?_;exact jz (j,c.1) h [1,2,3,4]
  ·refine sr (fr 1 ?_);refine fr 2 ?_;refine eX (cD (off:=0) [] trivial rfl rfl) ?_;refine fr 2 ?_;refine eX (cD (off:=1) [] trivial rfl rfl) ?_;refine lo bL ?_;refine fr 1 ?_;refine aK rfl rfl (aE rfl bL trivial rfl rfl) ⟨rfl,rfl,trivial⟩ ?_;refine nt (aG (bC (mO (a:=.agg (.pair (Rs aJ x6) (.pair (Rs aw e) (.pair (Ri r3) (Ri r4))))) (a':=.rep ag (x6,e,r3,r4)) (sO (.agg (.pair .rep (.pair .rep (.pair .rep .rep)))))) ?_));cases h;exact aZ () [.rep ag (x6,e,r3,r4)] 0 ⟨⟨_,_,_,_,_,rfl,(.head _),bL,(sn),rfl⟩,trivial⟩ rfl
def kg(k:Nat)(a0:cr):Option (Int×cr):=
 ((if a0.2.1 < (a0.1.length:Int) then((aL a0.1 a0.2.1).bind fun x3=>
 some (IntKind.u64.wrap ((IntKind.u64.wrap ((IntKind.u64.wrap (a0.2.2 * 6364136223846793005))+1442695040888963407))+(IntKind.u64.wrap ((IntKind.u64.wrap x3) * 2862933555777941757))))) else(some (IntKind.u64.wrap ((IntKind.u64.wrap (a0.2.2 * 6364136223846793005))+1442695040888963407)))):Option (Int)).bind fun x1=>
 (ck (a0.2.1+1)).bind fun x4=>
 some (kT .u64 (mf .u64 (IntKind.u64.wrap ((mf .u64 x1 (kT .u64 x1 29)) * 2685821657736338717)) (kT .u64 (IntKind.u64.wrap ((mf .u64 x1 (kT .u64 x1 29)) * 2685821657736338717)) 32)) 8,(a0.1,x4,x1))
theorem uH(k:Nat)(a0:cr)(c:Nat)(r:Int×cr)(h:kg k a0=some r):
 bQ Tryz.prog 56 [Pt c] [.obj c 64 (.agg (.pair (Ri a0.1) (.pair (I a0.2.1) (.eq (.int .u64 a0.2.2)))))] (fun _:Unit=>(bG [.eq (.int .u64 r.1)],[.obj c 64 (.agg (.pair (Ri r.2.1) (.pair (I r.2.2.1) (.eq (.int .u64 r.2.2.2)))))])):=by
 unfold kg at h
 replace h:=bi h
 refine bQ.of 67 Tryz.func56 rfl Tryz.ntmps56 rfl fun S w0=>?_
 refine sr ?_
 refine cq ?_
 refine nt ?_
 refine sr ?_
 iterate 2 refine mq ?_
 refine ja (aN rfl) ?_
 refine fl uL ?_
 refine lo EZ ?_
 refine jb (C5 rfl) ?_
 refine jb (Hn rfl) ?_
 refine ja (aN rfl) ?_
 refine fl uL ?_
 refine aK rfl rfl (aE rfl EZ rfl rfl rfl) ⟨rfl,rfl,trivial⟩ ?_
 refine nt ?_
 refine ay (Z:=Unit) (α:=Int) (fun z2 x1=>[(0,Pt c)]) (fun z2 x1=>[.obj c 64 (.agg (.pair (Ri a0.1) (.pair (I a0.2.1) (.eq (.int .u64 x1)))))]) h (fun K h=>?_) (fun z2 x1 h=>?_)
 ·
  refine aj (a6 ?_);refine dm ?_;refine da (aN rfl) ?_;refine da (am rfl zO) ?_;refine ea 0 (ai rfl cj dF rfl) ?_;refine dm ?_;refine da (aN rfl) ?_;refine da (am rfl Ig) ?_;refine ea 0 (ai rfl bR dF rfl) ?_;refine da (mD rfl rfl jt) ?_;refine df bw ?_;refine jb (ba rfl) ?_;refine nt (ci h (fun h=>?_) (fun h=>?_))
  ·refine a6 ?_;refine dm ?_;refine dm ?_;refine da (aN rfl) ?_;refine da (am rfl uL) ?_;refine ea 0 (ai rfl EZ dF rfl) ?_;refine dm ?_;refine da (aN rfl) ?_;refine da (am rfl Ig) ?_;refine ea 0 (ai rfl bR dF rfl) ?_;refine dm ?_;refine da (aN rfl) ?_;refine da (am rfl zO) ?_;refine ea 0 (ai rfl cj dF rfl) ?_;obtain⟨x3,j,h⟩:=aa h;refine db (aC (t:=(.int .i64)) rfl jt cj j) ?_;refine da (ao (t:=(.int .i64)) rfl cj rfl) ?_;refine da (wy rfl U3 OS) ?_;refine db (C5 rfl) ?_;refine db (Hn rfl) ?_;refine df bw ?_;refine ja (aN rfl) ?_;refine fl uL ?_;refine aK rfl rfl (aE rfl EZ rfl rfl rfl) ⟨rfl,rfl,trivial⟩ ?_;refine nl ?_;exact jz ((),IntKind.u64.wrap ((IntKind.u64.wrap ((IntKind.u64.wrap (a0.2.2 * 6364136223846793005))+1442695040888963407))+(IntKind.u64.wrap ((IntKind.u64.wrap x3) * 2862933555777941757)))) h [0]
  ·refine aU (a7 ?_);exact jz ((),IntKind.u64.wrap ((IntKind.u64.wrap (a0.2.2 * 6364136223846793005))+1442695040888963407)) h [0]
 ·
  refine sr (mq ?_);refine ja (aN rfl) ?_;refine fl zO ?_;refine lo cj ?_;obtain⟨x4,e,h⟩:=aa h;refine jb (bh rfl e) ?_;refine ja (aN rfl) ?_;refine fl zO ?_;refine aK rfl rfl (aE rfl cj rfl rfl rfl) ⟨rfl,rfl,trivial⟩ ?_;refine nt (aj (a6 ?_));refine dm ?_;refine da (aN rfl) ?_;refine da (am rfl uL) ?_;refine ea 0 (ai rfl EZ dF rfl) ?_;refine dm ?_;refine da (aN rfl) ?_;refine da (am rfl uL) ?_;refine ea 0 (ai rfl EZ dF rfl) ?_;refine nB rfl rfl rfl (wx rfl (by decide)) ⟨rfl,rfl,trivial⟩ ?_;refine df bw ?_;refine jb (Hk rfl) ?_;refine aq (nt (sr ?_));refine mq ?_;refine jb (C5 rfl) ?_;refine aq (nt (sr ?_));iterate 2 refine mq ?_
  refine dx rfl (wx rfl (by decide)) ⟨rfl,rfl,trivial⟩ ?_;refine jb (Hk rfl) ?_;refine dx rfl (wx rfl (by decide)) ⟨rfl,rfl,trivial⟩ ?_;refine aq (nt (aG ?_));cases h;exact aZ () [_] 1 ⟨rfl,trivial⟩ rfl
def cy(k:Nat)(a0:cr)(a1:Int):Option (Int×cr):=
 if a1 < 1 then(some (0,(a0.1,a0.2.1,a0.2.2))) else((kg k (a0.1,a0.2.1,a0.2.2)).bind fun r1=>
 (ck (a1+1)).bind fun x2=>
 (cF ((IntKind.u64.wrap x2)≠0)).bind fun _=>
 (ck (Int.tmod r1.1 (IntKind.u64.wrap x2))).bind fun x4=>
 some (x4,(r1.2.1,r1.2.2.1,r1.2.2.2)))
theorem dY(k:Nat)(a0:cr)(c:Nat)(a1:Int)(r:Int×cr)(h:cy k a0 a1=some r):
 bQ Tryz.prog 26 [Pt c,I a1] [.obj c 64 (.agg (.pair (Ri a0.1) (.pair (I a0.2.1) (.eq (.int .u64 a0.2.2)))))] (fun _:Unit=>(bG [I r.1],[.obj c 64 (.agg (.pair (Ri r.2.1) (.pair (I r.2.2.1) (.eq (.int .u64 r.2.2.2)))))])):=by
 unfold cy at h
 replace h:=bi h
 refine bQ.of 14 Tryz.func26 rfl Tryz.ntmps26 rfl fun S w0=>?_
 refine sr ?_
 refine cq ?_
 refine nt ?_
 refine aj ?_
 refine sr ?_
 refine mq ?_
 refine jb (ba rfl) ?_
 refine nt ?_
 refine ci h (fun h=>?_) (fun h=>?_)
 ·
  refine sr (cq (nt (rx ?_)));cases h;exact aZ () [_] 1 ⟨rfl,trivial⟩ rfl
 ·
  refine sk (sr (mq ?_));obtain⟨r1,n,h⟩:=aa h;refine ka (ak [.tmp 7] rfl rfl PQ rfl (uH k (a0.1,a0.2.1,a0.2.2) c r1 n)) ?_;refine mq ?_;obtain⟨x2,j,h⟩:=aa h;refine jb (bh rfl j) ?_;refine ja (wy rfl U3 OS) ?_;obtain⟨u3,l,h⟩:=aa h;refine jb (N6 rfl (av l)) ?_;obtain⟨x4,e,h⟩:=aa h;refine ja (AT rfl OS U3 e) ?_;refine aq (nt (aG ?_));cases h;exact aZ () [_] 1 ⟨rfl,trivial⟩ rfl
def fE(k:Nat)(a0:cr)(a1:Int)(a2:Int):Option (Int×cr):=
 (ck (a2 - a1)).bind fun x1=>
 (cy k (a0.1,a0.2.1,a0.2.2) x1).bind fun r2=>
 (ck (a1+r2.1)).bind fun x3=>
 some (x3,(r2.2.1,r2.2.2.1,r2.2.2.2))
theorem ip(k:Nat)(a0:cr)(c:Nat)(a1:Int)(a2:Int)(r:Int×cr)(h:fE k a0 a1 a2=some r):
 bQ Tryz.prog 52 [Pt c,I a1,I a2] [.obj c 64 (.agg (.pair (Ri a0.1) (.pair (I a0.2.1) (.eq (.int .u64 a0.2.2)))))] (fun _:Unit=>(bG [I r.1],[.obj c 64 (.agg (.pair (Ri r.2.1) (.pair (I r.2.2.1) (.eq (.int .u64 r.2.2.2)))))])):=by
 unfold fE at h
 replace h:=bi h
 refine bQ.of 14 Tryz.func52 rfl Tryz.ntmps52 rfl fun S w0=>?_
 refine sr ?_
 refine cq ?_
 refine nt ?_
 refine sr ?_
 iterate 4 refine mq ?_
 obtain⟨x1,j,h⟩:=aa h
 refine jb (g7 rfl j) ?_
 obtain⟨r2,l,h⟩:=aa h
 have n:=dY k (a0.1,a0.2.1,a0.2.2) c x1 r2 l
 refine kb (ak [.tmp 8,.tmp 11] rfl rfl Bv rfl n) ?_
 obtain⟨x3,e,h⟩:=aa h
 refine jb (bh rfl e) ?_
 refine aq ?_
 refine nt ?_
 refine aG ?_
 cases h
 exact aZ () [_] 1 ⟨rfl,trivial⟩ rfl
def fC(k:Nat)(a0:cr)(a1:Int):Option (Bool×cr):=
 (ck (a1 - 1)).bind fun x1=>
 (cy k (a0.1,a0.2.1,a0.2.2) x1).bind fun r2=>
 some (decide (r2.1=0),(r2.2.1,r2.2.2.1,r2.2.2.2))
theorem jL(k:Nat)(a0:cr)(c:Nat)(a1:Int)(r:Bool×cr)(h:fC k a0 a1=some r):
 bQ Tryz.prog 53 [Pt c,I a1] [.obj c 64 (.agg (.pair (Ri a0.1) (.pair (I a0.2.1) (.eq (.int .u64 a0.2.2)))))] (fun _:Unit=>(bG [.eq (.bool r.1)],[.obj c 64 (.agg (.pair (Ri r.2.1) (.pair (I r.2.2.1) (.eq (.int .u64 r.2.2.2)))))])):=by
 unfold fC at h
 replace h:=bi h
 refine bQ.of 10 Tryz.func53 rfl Tryz.ntmps53 rfl fun S w0=>?_
 refine sr ?_
 refine cq ?_
 refine nt ?_
 refine sr ?_
 iterate 2 refine mq ?_
 obtain⟨x1,e,h⟩:=aa h
 refine jb (g7 rfl e) ?_
 obtain⟨r2,j,h⟩:=aa h
 have l:=dY k (a0.1,a0.2.1,a0.2.2) c x1 r2 j
 refine kb (ak [.tmp 5,.tmp 7] rfl rfl Bv rfl l) ?_
 refine jb (cM rfl) ?_
 refine aq ?_
 refine nt ?_
 refine aG ?_
 cases h
 exact aZ () [_] 1 ⟨rfl,trivial⟩ rfl
def fD(k:Nat)(a0:cr)(a1:(List Int)):Option (Int×cr):=
 (ck ((a1.length:Int) - 1)).bind fun x1=>
 (cy k (a0.1,a0.2.1,a0.2.2) x1).bind fun r2=>
 (aL a1 r2.1).bind fun x3=>
 some (x3,(r2.2.1,r2.2.2.1,r2.2.2.2))
theorem io(k:Nat)(a0:cr)(c:Nat)(a1:(List Int))(r:Int×cr)(h:fD k a0 a1=some r):
 bQ Tryz.prog 54 [Pt c,Ri a1] [.obj c 64 (.agg (.pair (Ri a0.1) (.pair (I a0.2.1) (.eq (.int .u64 a0.2.2)))))] (fun _:Unit=>(bG [I r.1],[.obj c 64 (.agg (.pair (Ri r.2.1) (.pair (I r.2.2.1) (.eq (.int .u64 r.2.2.2)))))])):=by
 unfold fD at h
 replace h:=bi h
 refine bQ.of 13 Tryz.func54 rfl Tryz.ntmps54 rfl fun S w0=>?_
 refine sr ?_
 refine cq ?_
 refine nt ?_
 refine sr ?_
 iterate 3 refine mq ?_
 refine ol jt ?_
 obtain⟨x1,j,h⟩:=aa h
 refine jb (g7 rfl j) ?_
 obtain⟨r2,l,h⟩:=aa h
 have n:=dY k (a0.1,a0.2.1,a0.2.2) c x1 r2 l
 refine kb (ak [.tmp 6,.tmp 9] rfl rfl Bv rfl n) ?_
 obtain⟨x3,e,h⟩:=aa h
 refine jb (aC (t:=(.int .i64)) rfl jt cj e) ?_
 refine ja (ao (t:=(.int .i64)) rfl cj rfl) ?_
 refine aq ?_
 refine nt ?_
 refine aG ?_
 cases h
 exact aZ () [_] 1 ⟨rfl,trivial⟩ rfl
def mU(k:Nat)(a0:(List Int))(a1:Int):Nat→Int→Option (Except Int Unit)
 |0,_=>none
 |n+1,y3=>
  if y3 < (a0.length:Int) then((aL a0 y3).bind fun x5=>
  if x5=a1 then(some (.error y3)) else((ck (y3+1)).bind fun x6=>
  mU k a0 a1 n x6)) else(some (.ok ()))
def lq(k:Nat)(a0:(List Int))(a1:Int):Option Int:=
 bE (α:=Unit) (mU k a0 a1 k 0) (some) fun _=>
 some (-1:Int)
theorem kN(k:Nat)(a0:(List Int))(a1:Int)(r:Int)(h:lq k a0 a1=some r):
 bQ Tryz.prog 76 [Ri a0,I a1] [] (fun _:Unit=>(bG [I r],[])):=by
 unfold lq at h
 replace h:=bi h
 refine bQ.of 19 Tryz.func76 rfl Tryz.ntmps76 rfl fun S w0=>?_
 refine sr ?_
 refine cq ?_
 refine nt ?_
 refine cE (Z:=Unit) (α:=Unit) (fun z2 x1=>[]) (fun z2 x1=>[]) (fun e=>e=r) h (fun e h=>Option.some.inj h) (fun K hR h=>?_) (fun z2 x1 h=>?_)
 ·
  refine sr (cq (nt (al ?_)));refine aD (fun z4 y3=>[(0,Ri a0),(1,I a1),(5,I y3)]) (fun z4 y3=>[]) (mU k a0 a1) k () 0 (fun _=>rfl) h (SE.fin [] ⟨rfl,rfl,rfl,trivial⟩ rfl) (fun n z4 y3 h=>?_);unfold mU at h;refine aj (sr ?_);iterate 2 refine mq ?_
  refine ol jt ?_;refine jb (ba rfl) ?_;refine nt (ci h (fun h=>?_) (fun h=>?_))
  ·refine sk (aj (al (sr ?_)));iterate 2 refine mq ?_
   obtain⟨x5,j,h⟩:=aa h;refine jb (aC (t:=(.int .i64)) rfl jt cj j) ?_;refine ja (ao (t:=(.int .i64)) rfl cj rfl) ?_;refine mq ?_;refine jb (cM rfl) ?_;refine nt (ci h (fun h=>?_) (fun h=>?_))
   ·refine sr (mq ?_);refine aq (nt (aG (br (aV (aR ?_)))));obtain rfl:=hR _ h;exact ra
   ·refine aU (aO (tn (ah (mq ?_))));obtain⟨x6,c,h⟩:=aa h;refine jb (bh rfl c) ?_;refine aq (nl ?_);exact jz ((),x6) h []
  ·refine xa ?_;exact jz ((),()) h []
 ·
  refine sr (cq (nt (aG ?_)));cases h;exact ra
def eA(k:Nat)(a0:ae)(e:(List Bool)×Bool×Int):Nat→(Bool×Int)→Option Bool
 |0,_=>none
 |n+1,c=>
  ((if c.2 < (a0.1.length:Int) then((lq k a0.2.2.1 e.2.2).bind fun y=>
  if 0≤y then((lq k a0.2.2.2 e.2.2).bind fun x=>
  some (decide (0≤x))) else(some false)) else(some false)):Option (Bool)).bind fun s=>
  if s=true then(((if c.1=true then(some true) else((aL e.1 c.2).bind fun l=>
  if l=true then((aL a0.1 c.2).bind fun j=>
  (lq k j.1 e.2.2).bind fun u=>
  some (decide (0≤u))) else(some false))):Option (Bool)).bind fun r=>
  (ck (c.2+1)).bind fun h=>
  eA k a0 e n (r,h)) else(some c.1)
def eR(k:Nat)(a0:ae):Nat→((List Bool)×Bool×Int)→Option ((List Bool)×Bool)
 |0,_=>none
 |n+1,c=>
  if c.2.2 < (a0.1.length:Int) then((((lq k a0.2.2.1 c.2.2).bind fun u=>
  (lq k a0.2.2.2 c.2.2).bind fun s=>
  ((eA k a0 c k (!decide ((decide (0≤u))=(decide (0≤s))),0)):Option (Bool)).bind fun r=>
  ((if r=true then((aL c.1 c.2.2).bind fun j=>
  some (!j)) else(some false)):Option (Bool)).bind fun l=>
  if l=true then((aL c.1 c.2.2).bind fun x=>
  some (List.set c.1 (Int.toNat c.2.2) true,true)) else(some (c.1,c.2.1))):Option ((List Bool)×Bool)).bind fun e=>
  (ck (c.2.2+1)).bind fun h=>
  eR k a0 n (e.1,e.2,h)) else(some (c.1,c.2.1))
def fO(k:Nat)(a0:ae):Nat→((List Bool)×Bool)→Option (List Bool)
 |0,_=>none
 |n+1,y6=>
  if y6.2=true then(((eR k a0 k (y6.1,false,0)):Option ((List Bool)×Bool)).bind fun x8=>
  fO k a0 n (x8.1,x8.2)) else(some y6.1)
def eQ(k:Nat)(a0:ae)(x4:(List Bool))(e:(List cZ)×Int):Nat→((List cZ)×Int)→Option (List cZ)
 |0,_=>none
 |n+1,c=>
  if c.2 < (x4.length:Int) then((((((aL x4 c.2).bind fun j=>
  if j=true then(if e.2=0 then((lq k a0.2.2.1 c.2).bind fun x=>
  if 0≤x then(some true) else(if e.2=1 then((lq k a0.2.2.2 c.2).bind fun u=>
  some (decide (0≤u))) else(some false))) else(if e.2=1 then((lq k a0.2.2.2 c.2).bind fun s=>
  some (decide (0≤s))) else(some false))) else(some false)):Option (Bool)).bind fun l=>
  if l=true then((cF (cx (List.length c.1+List.length [(c.2,decide (e.2=1))]))).bind fun _=>
  some (c.1++[(c.2,decide (e.2=1))])) else(some c.1)):Option ((List cZ))).bind fun r=>
  (ck (c.2+1)).bind fun h=>
  eQ k a0 x4 e n (r,h)) else(some c.1)
def cI(k:Nat)(a0:ae)(x4:(List Bool)):Nat→((List cZ)×Int)→Option (List cZ)
 |0,_=>none
 |n+1,c=>
  if c.2 < 2 then(((eQ k a0 x4 c k (c.1,0)):Option ((List cZ))).bind fun h=>
  (ck (c.2+1)).bind fun e=>
  cI k a0 x4 n (h,e)) else(some c.1)
def fB(k:Nat)(a0:ae):Option (List cZ):=
 (cF (0≤(a0.1.length:Int)∧cx (Int.toNat (a0.1.length:Int)))).bind fun _=>
 ((fO k a0 k (List.replicate (Int.toNat (a0.1.length:Int)) false,true)):Option ((List Bool))).bind fun x4=>
 ((cI k a0 x4 k (([]:(List cZ)),0)):Option ((List cZ))).bind fun c=>
 some c
theorem wO(k:Nat)(a0:ae)(r:(List cZ))(h:fB k a0=some r):
 bQ Tryz.prog 55 [.rep ag a0] [] (fun _:Unit=>(bG [Rs cH r],[])):=by
 unfold fB at h
 replace h:=bi h
 refine bQ.of 128 Tryz.func55 rfl Tryz.ntmps55 rfl fun S w0=>?_
 refine sr ?_
 refine bx fun b1=>?_
 refine cq ?_
 refine nt ?_
 refine sr ?_
 refine cq ?_
 refine nt ?_
 refine sr ?_
 refine fl bu ?_
 refine lo dM ?_
 refine ol kU ?_
 obtain⟨u2,QY,h⟩:=aa h
 refine aA rfl rfl rfl (C6 (t:=.bool) (d:=false) rfl GR OT (av QY).1 (av QY).2) ⟨rfl,rfl,trivial⟩ fun v3=>?_
 refine aq ?_
 refine nt ?_
 refine ay (Z:=Unit) (α:=(List Bool)) (fun z5 x4=>[(1,Pt b1),(3,.eq (.slice none 0 0)),(4,.eq v3)]) (fun z5 x4=>[.obj b1 26 (.rep ag a0),.sl v3 4 .bool x4]) h (fun K h=>?_) (fun z5 x4 h=>?_)
 ·
  refine sr (cq (nt (al ?_)));refine aD (fun z7 y6=>[(1,Pt b1),(3,.eq (.slice none 0 0)),(4,.eq v3),(5,.eq (.bool y6.2))]) (fun z7 y6=>[.obj b1 26 (.rep ag a0),.sl v3 4 .bool y6.1]) (fO k a0) k () (List.replicate (Int.toNat (a0.1.length:Int)) false,true) (fun _=>rfl) h (SE.fin [1,0] ⟨rfl,rfl,rfl,rfl,trivial⟩ rfl) (fun n z7 y6 h=>?_);unfold fO at h;refine aj (sr (mq (nt ?_)));refine cv h (fun h=>?_) (fun h=>?_)
  ·refine sk (Jf (Z:=Unit) (α:=(List Bool)×Bool) (fun z9 x8=>[(1,Pt b1),(3,.eq (.slice none 0 0)),(4,.eq v3),(5,.eq (.bool x8.2))]) (fun z9 x8=>[.obj b1 26 (.rep ag a0),.sl v3 4 .bool x8.1]) h (fun K h=>?_) (fun z9 x8 h=>?_))
   ·refine al (sr (cq (nt (sr ?_))));refine cq (nt (al ?_));refine aD (fun QK c=>[(1,Pt b1),(3,.eq (.slice none 0 0)),(4,.eq v3),(5,.eq (.bool c.2.1)),(6,I c.2.2)]) (fun QK c=>[.obj b1 26 (.rep ag a0),.sl v3 4 .bool c.1]) (eR k a0) k () (y6.1,false,0) (fun _=>rfl) h (SE.fin [0,1] ⟨rfl,rfl,rfl,rfl,rfl,trivial⟩ rfl) (fun n QK c h=>?_);unfold eR at h;refine aj (sr (mq ?_));refine fl bu ?_;refine lo dM ?_;refine ol kU ?_;refine jb (ba rfl) ?_;refine nt (ci h (fun h=>?_) (fun h=>?_))
    ·refine sk (ay (Z:=Unit) (α:=(List Bool)×Bool) (fun QJ y=>[(1,Pt b1),(3,.eq (.slice none 0 0)),(4,.eq v3),(5,.eq (.bool y.2)),(6,I c.2.2)]) (fun QJ y=>[.obj b1 26 (.rep ag a0),.sl v3 4 .bool y.1]) h (fun K h=>?_) (fun QJ y h=>?_))
     ·refine al (aj (a6 ?_));refine da (am rfl fQ) ?_;refine ea 0 (ai rfl bR dF rfl) ?_;refine dm ?_;obtain⟨QQ,Q6,h⟩:=aa h;refine db (ak [.tmp 24,.tmp 25] rfl rfl Br rfl (kN k a0.2.2.1 c.2.2 QQ Q6)) ?_;refine db (mE rfl) ?_;refine da (am rfl eV) ?_;refine ea 0 (ai rfl bR dF rfl) ?_;refine dm ?_;obtain⟨QP,Q5,h⟩:=aa h;refine db (ak [.tmp 29,.tmp 30] rfl rfl Br rfl (kN k a0.2.2.2 c.2.2 QP Q5)) ?_;refine db (mE rfl) ?_;refine df bw ?_;refine jb (Hl rfl U4) ?_;refine aq (nt ?_);refine ay (Z:=Unit) (α:=Bool) (fun QH QB=>[(1,Pt b1),(3,.eq (.slice none 0 0)),(4,.eq v3),(5,.eq (.bool c.2.1)),(6,I c.2.2),(7,.eq (.bool QB))]) (fun QH QB=>[.obj b1 26 (.rep ag a0),.sl v3 4 .bool c.1]) h (fun K h=>?_) (fun QH QB h=>?_)
      ·refine sr (cq (nt (al ?_)));refine aD (fun QG l=>[(1,Pt b1),(3,.eq (.slice none 0 0)),(4,.eq v3),(5,.eq (.bool c.2.1)),(6,I c.2.2),(7,.eq (.bool l.1)),(8,I l.2)]) (fun QG l=>[.obj b1 26 (.rep ag a0),.sl v3 4 .bool c.1]) (eA k a0 c) k () (!decide ((decide (0≤QQ))=(decide (0≤QP))),0) (fun _=>rfl) h (SE.fin [0,1] ⟨rfl,rfl,rfl,rfl,rfl,rfl,rfl,trivial⟩ rfl) (fun n QG l h=>?_);unfold eA at h;refine aj (ay (Z:=Unit) (α:=Bool) (fun QF QA=>[(1,Pt b1),(3,.eq (.slice none 0 0)),(4,.eq v3),(5,.eq (.bool c.2.1)),(6,I c.2.2),(7,.eq (.bool l.1)),(8,I l.2),(52,.eq (.bool QA))]) (fun QF QA=>[.obj b1 26 (.rep ag a0),.sl v3 4 .bool c.1]) h (fun K h=>?_) (fun QF QA h=>?_))
       ·refine ah (mq ?_);refine fl bu ?_;refine lo dM ?_;refine ol kU ?_;refine jb (ba rfl) ?_;refine mq ?_;refine aM (s:=39) rfl (fun hb=>?_) (fun hb=>?_)
        ·replace h:=bY (oQ hb) h;refine ga (am rfl fQ) ?_;refine bO rfl rfl rfl rfl rfl rfl (ai rfl bR dF rfl) ⟨rfl,trivial⟩ ?_;refine gm ?_;obtain⟨Rk,Q4,h⟩:=aa h;refine gb (ak [.tmp 41,.tmp 42] rfl rfl Br rfl (kN k a0.2.2.1 c.2.2 Rk Q4)) ?_;refine gb (mE rfl) ?_;refine pt ?_;refine mq ?_;refine aM (s:=46) rfl (fun hb=>?_) (fun hb=>?_)
         ·replace h:=bY (oQ hb) h;refine ga (am rfl eV) ?_;refine bO rfl rfl rfl rfl rfl rfl (ai rfl bR dF rfl) ⟨rfl,trivial⟩ ?_;refine gm ?_;obtain⟨QO,Q3,h⟩:=aa h;refine gb (ak [.tmp 48,.tmp 49] rfl rfl Br rfl (kN k a0.2.2.2 c.2.2 QO Q3)) ?_;refine gb (mE rfl) ?_;refine pt (nl ?_);exact jz ((),decide (0≤QO)) h [0,1]
         ·replace h:=bj (oR hb) h;iterate 5 refine gn ?_
          refine pf (nl ?_);exact jz ((),false) h [0,1]
        ·replace h:=bj (oR hb) h;iterate 5 refine gn ?_
         refine pf ?_;refine mq ?_;iterate 5 refine gn ?_
         refine pf (nl ?_);exact jz ((),false) h [0,1]
       ·refine cv h (fun h=>?_) (fun h=>?_)
        ·refine sk (ay (Z:=Unit) (α:=Bool) (fun QE O=>[(1,Pt b1),(3,.eq (.slice none 0 0)),(4,.eq v3),(5,.eq (.bool c.2.1)),(6,I c.2.2),(7,.eq (.bool O)),(8,I l.2)]) (fun QE O=>[.obj b1 26 (.rep ag a0),.sl v3 4 .bool c.1]) h (fun K h=>?_) (fun QE O h=>?_))
         ·refine al (ah ?_);iterate 2 refine mq ?_
          refine aM (s:=56) rfl (fun hb=>?_) (fun hb=>?_)
          ·replace h:=bY (uc hb) h;iterate 5 refine gn ?_
           refine gu ?_;refine gu ?_;refine gu ?_;refine gu ?_;refine gu ?_;refine gu ?_;refine gu ?_;refine gu ?_;refine gu ?_;refine gn ?_;refine pt ?_;refine aq (aT (bn ?_));exact jz ((),true) h [0,1]
          ·replace h:=bj (ud hb) h;refine gm ?_;refine gm ?_;obtain⟨Rn,Y,h⟩:=aa h;refine fr 1 ?_;refine bO rfl rfl rfl rfl rfl rfl (bk (t:=.bool) rfl sL qU Y) ⟨rfl,rfl,trivial⟩ ?_;refine bO rfl rfl rfl rfl rfl rfl (dW (i:=Int.toNat l.2) (off:=0) rfl qU (fun _=>rfl) rfl (bP Y).2.2 rfl) ⟨rfl,trivial⟩ ?_;refine gm ?_;refine aM (s:=61) rfl (fun hb=>?_) (fun hb=>?_)
           ·replace h:=bY (uc hb) h;refine ga (am rfl bu) ?_;refine fr 1 ?_;refine bO rfl rfl rfl rfl rfl rfl (ai rfl dM dF rfl) ⟨rfl,trivial⟩ ?_;refine gm ?_;obtain⟨Rf,QW,h⟩:=aa h;refine gb (aC (t:=aJ) rfl kU eY QW) ?_;refine ga (a8 1 false rfl iq rfl) ?_;refine ga (ao (t:=(.slice (.int .i64))) rfl bR rfl) ?_;refine gm ?_;obtain⟨QN,Q2,h⟩:=aa h;refine gb (ak [.tmp 67,.tmp 68] rfl rfl Br rfl (kN k Rf.1 c.2.2 QN Q2)) ?_;refine gb (mE rfl) ?_;refine gb (dw rfl) ?_;refine pf ?_;refine aq (aT (bn ?_));exact jz ((),decide (0≤QN)) h [0,1]
           ·replace h:=bj (ud hb) h;iterate 9 refine gn ?_
            refine gb (dV rfl) ?_;refine pf ?_;refine aq (aT (bn ?_));exact jz ((),false) h [1,0]
         ·refine ah (mq ?_);obtain⟨Re,QU,h⟩:=aa h;refine jb (bh rfl QU) ?_;refine aq (nl ?_);exact jz ((),(O,Re)) h [0,1]
        ·refine xa ?_;exact jz ((),l.1) h [0,1]
      ·refine ay (Z:=Unit) (α:=Bool) (fun QD se=>[(1,Pt b1),(3,.eq (.slice none 0 0)),(4,.eq v3),(5,.eq (.bool c.2.1)),(6,I c.2.2),(80,.eq (.bool se))]) (fun QD se=>[.obj b1 26 (.rep ag a0),.sl v3 4 .bool c.1]) h (fun K h=>?_) (fun QD se h=>?_)
       ·refine ah ?_;iterate 2 refine mq ?_
        refine aM (s:=74) rfl (fun hb=>?_) (fun hb=>?_)
        ·replace h:=bY (uc hb) h;refine gm ?_;refine gm ?_;obtain⟨Rb,X,h⟩:=aa h;refine fr 1 ?_;refine bO rfl rfl rfl rfl rfl rfl (bk (t:=.bool) rfl sL qU X) ⟨rfl,rfl,trivial⟩ ?_;refine bO rfl rfl rfl rfl rfl rfl (dW (i:=Int.toNat c.2.2) (off:=0) rfl qU (fun _=>rfl) rfl (bP X).2.2 rfl) ⟨rfl,trivial⟩ ?_;refine ga (eE rfl) ?_;refine pt (nl ?_);exact jz ((), !Rb) h [1,0]
        ·replace h:=bj (ud hb) h;iterate 5 refine gn ?_
         refine pf (nl ?_);exact jz ((),false) h [0,1]
       ·refine cv h (fun h=>?_) (fun h=>?_)
        ·refine ah ?_;iterate 2 refine mq ?_
         obtain⟨Rm,U,h⟩:=aa h;refine fr 1 ?_;refine kb (bk (t:=.bool) rfl sL qU U) ?_;refine aK rfl rfl (gl (i:=Int.toNat c.2.2) rfl qU rfl (mJ U) rfl .bool rfl) ⟨rfl,rfl,trivial⟩ ?_;refine cq (aT (bn ?_));exact jz ((),(List.set c.1 (Int.toNat c.2.2) true,true)) h [1,0]
        ·refine aU (bn ?_);exact jz ((),(c.1,c.2.1)) h [0,1]
     ·refine ah (mq ?_);obtain⟨Q9,QT,h⟩:=aa h;refine jb (bh rfl QT) ?_;refine aq (nl ?_);exact jz ((),(y.1,y.2,Q9)) h [0,1]
    ·refine eD (bf (bf (cg (bn ?_))));exact jz ((),(c.1,c.2.1)) h [0,1]
   ·refine a7 ?_;exact jz ((),(x8.1,x8.2)) h [0,1]
  ·refine xa ?_;exact jz ((),y6.1) h [0,1]
 ·
  refine ay (Z:=Value) (α:=(List cZ)) (fun F mc=>[(3,.eq F)]) (fun F mc=>[.sl F 137 cH mc]) h (fun K h=>?_) (fun F mc h=>?_)
  ·refine sr (cq (nt (al ?_)));refine eL (SE.nil 137 cH) ?_;refine aD (fun x j=>[(1,Pt b1),(3,.eq x),(4,.eq v3),(9,I j.2)]) (fun x j=>[.obj b1 26 (.rep ag a0),.sl x 137 cH j.1,.sl v3 4 .bool x4]) (cI k a0 x4) k (.slice none 0 0) (([]:(List cZ)),0) (fun _=>rfl) h (SE.fin [1,0,2] ⟨rfl,rfl,rfl,rfl,trivial⟩ rfl) (fun n x j h=>?_);unfold cI at h;refine aj (sr (mq ?_));refine jb (ba rfl) ?_;refine nt (ci h (fun h=>?_) (fun h=>?_))
   ·refine sk (ay (Z:=Value) (α:=(List cZ)) (fun E M=>[(1,Pt b1),(3,.eq E),(4,.eq v3),(9,I j.2)]) (fun E M=>[.obj b1 26 (.rep ag a0),.sl E 137 cH M,.sl v3 4 .bool x4]) h (fun K h=>?_) (fun E M h=>?_))
    ·refine al (sr (cq (nt (al ?_))));refine aD (fun u e=>[(1,Pt b1),(3,.eq u),(4,.eq v3),(9,I j.2),(10,I e.2)]) (fun u e=>[.obj b1 26 (.rep ag a0),.sl u 137 cH e.1,.sl v3 4 .bool x4]) (eQ k a0 x4 j) k x (j.1,0) (fun _=>rfl) h (SE.fin [0,1,2] ⟨rfl,rfl,rfl,rfl,rfl,trivial⟩ rfl) (fun n u e h=>?_);unfold eQ at h;refine aj (sr ?_);iterate 2 refine mq ?_
     refine fr 2 ?_;refine ka (je rfl rfl sL) ?_;refine jb (ba rfl) ?_;refine nt (ci h (fun h=>?_) (fun h=>?_))
     ·refine sk (ay (Z:=Value) (α:=(List cZ)) (fun D J=>[(1,Pt b1),(3,.eq D),(4,.eq v3),(9,I j.2),(10,I e.2)]) (fun D J=>[.obj b1 26 (.rep ag a0),.sl D 137 cH J,.sl v3 4 .bool x4]) h (fun K h=>?_) (fun D J h=>?_))
      ·refine al (ay (Z:=Unit) (α:=Bool) (fun QC ac=>[(1,Pt b1),(3,.eq u),(4,.eq v3),(9,I j.2),(10,I e.2),(119,.eq (.bool ac))]) (fun QC ac=>[.obj b1 26 (.rep ag a0),.sl u 137 cH e.1,.sl v3 4 .bool x4]) h (fun K h=>?_) (fun QC ac h=>?_))
       ·refine ah ?_;iterate 2 refine mq ?_
        obtain⟨Rl,Q,h⟩:=aa h;refine kb (bk (t:=.bool) rfl sL qU Q) ?_;refine ka (dW (i:=Int.toNat e.2) (off:=0) rfl qU (fun _=>rfl) rfl (bP Q).2.2 rfl) ?_;refine mq ?_;refine aM (s:=98) rfl (fun hb=>?_) (fun hb=>?_)
        ·replace h:=bY (uc hb) h;refine gm ?_;refine gb (cM rfl) ?_;refine gm ?_;refine aM (s:=101) rfl (fun hb=>?_) (fun hb=>?_)
         ·replace h:=bY (oQ hb) h;refine ga (am rfl fQ) ?_;refine fr 1 ?_;refine bO rfl rfl rfl rfl rfl rfl (ai rfl bR dF rfl) ⟨rfl,trivial⟩ ?_;refine gm ?_;obtain⟨Rj,Q1,h⟩:=aa h;refine gb (ak [.tmp 103,.tmp 104] rfl rfl Br rfl (kN k a0.2.2.1 e.2 Rj Q1)) ?_;refine gb (mE rfl) ?_;refine gb (dw rfl) ?_;refine gm ?_;refine aM (s:=108) rfl (fun hb=>?_) (fun hb=>?_)
          ·replace h:=bY (oQ hb) h;iterate 3 refine gn ?_
           refine gu ?_;refine gu ?_;refine gu ?_;refine gu ?_;refine gu ?_;refine gn ?_;refine gb (dw rfl) ?_;refine pt (nl ?_);exact jz ((),true) h [0,2,1]
          ·replace h:=bj (oR hb) h;refine gm ?_;refine gb (cM rfl) ?_;refine gm ?_;refine aM (s:=111) rfl (fun hb=>?_) (fun hb=>?_)
           ·replace h:=bY (oQ hb) h;refine ga (am rfl eV) ?_;refine bO rfl rfl rfl rfl rfl rfl (ai rfl bR dF rfl) ⟨rfl,trivial⟩ ?_;refine gm ?_;obtain⟨QM,Q0,h⟩:=aa h;refine gb (ak [.tmp 113,.tmp 114] rfl rfl Br rfl (kN k a0.2.2.2 e.2 QM Q0)) ?_;refine gb (mE rfl) ?_;refine gb (dw rfl) ?_;refine gb (dV rfl) ?_;refine pt (nl ?_);exact jz ((),decide (0≤QM)) h [0,2,1]
           ·replace h:=bj (oR hb) h;iterate 5 refine gn ?_
            refine gb (dV rfl) ?_;refine gb (dV rfl) ?_;refine pt (nl ?_);exact jz ((),false) h [0,2,1]
         ·replace h:=bj (oR hb) h;iterate 5 refine gn ?_
          refine gb (dV rfl) ?_;refine gm ?_;refine gm ?_;refine gb (cM rfl) ?_;refine gm ?_;refine aM (s:=111) rfl (fun hb=>?_) (fun hb=>?_)
          ·replace h:=bY (oQ hb) h;refine ga (am rfl eV) ?_;refine fr 1 ?_;refine bO rfl rfl rfl rfl rfl rfl (ai rfl bR dF rfl) ⟨rfl,trivial⟩ ?_;refine gm ?_;obtain⟨QL,QZ,h⟩:=aa h;refine gb (ak [.tmp 113,.tmp 114] rfl rfl Br rfl (kN k a0.2.2.2 e.2 QL QZ)) ?_;refine gb (mE rfl) ?_;refine gb (dw rfl) ?_;refine gb (dV rfl) ?_;refine pt (nl ?_);exact jz ((),decide (0≤QL)) h [0,2,1]
          ·replace h:=bj (oR hb) h;iterate 5 refine gn ?_
           refine gb (dV rfl) ?_;refine gb (dV rfl) ?_;refine pt (nl ?_);exact jz ((),false) h [1,2,0]
        ·replace h:=bj (ud hb) h;iterate 3 refine gn ?_
         refine gu ?_;refine gu ?_;refine gu ?_;refine gu ?_;refine gu ?_;iterate 2 refine gn ?_
         refine gu ?_;refine gu ?_;refine gu ?_;refine gu ?_;refine gu ?_;refine gu ?_;refine gu ?_;refine gu ?_;refine gu ?_;refine gn ?_;refine pf (nl ?_);exact jz ((),false) h [1,2,0]
       ·refine cv h (fun h=>?_) (fun h=>?_)
        ·refine ah ?_;iterate 3 refine mq ?_
         refine jb (cM rfl) ?_;refine jb (cR [(0,.tmp 121,_),(1,.tmp 123,_)] rfl He DX DK (iF ⟨rfl,rfl,trivial⟩) rfl) ?_;refine ja (bv (t:=cH) [(.tmp 124,_)] [(e.2,decide (j.2=1))] rfl rfl yp (.cons trivial (.agg (.pair .int .bool)) .nil) rfl rfl) ?_;obtain⟨Ro,QX,h⟩:=aa h;refine fr 1 ?_;refine dE rfl rfl rfl (bI rfl rfl yp (av QX)) ⟨rfl,rfl,trivial⟩ fun Rh=>?_;refine aq (aT (bn ?_));exact jz (Rh,e.1++[(e.2,decide (j.2=1))]) h [1,0,2]
        ·refine aU (bn ?_);exact jz (u,e.1) h [0,1,2]
      ·refine ah (mq ?_);obtain⟨Q8,QS,h⟩:=aa h;refine jb (bh rfl QS) ?_;refine aq (nl ?_);exact jz (D,(J,Q8)) h [0,1,2]
     ·refine eD (bf (bf (cg (bn ?_))));exact jz (u,e.1) h [1,2,0]
    ·refine ah (mq ?_);obtain⟨Q7,QR,h⟩:=aa h;refine jb (bh rfl QR) ?_;refine aq (nl ?_);exact jz (E,(M,Q7)) h [0,1,2]
   ·refine xa ?_;exact jz (x,j.1) h [1]
  ·refine sr (mq ?_);refine aq (nt (aG ?_));refine bC (nu [2,3,127] ⟨rfl,rfl,rfl,trivial⟩) ?_;cases h;exact ra
def eH(k:Nat)(r3:Int×cr)(r4:Bool×cr)(y7:(List Int)×Int×Int×(List bp)×(List Int)×(List Int)×Int):Nat→((List Int)×Int×Int×(List Int)×Int)→Option ((List Int)×Int×Int×(List Int))
 |0,_=>none
 |n+1,c=>
  if c.2.2.2.2 < r3.1 then(((((if(decide (y7.2.2.2.2.2.2 < c.2.2.2.2))=r4.1 then(if¬(c.2.2.2.2=y7.2.2.2.2.2.2) then((fC k (c.1,c.2.1,c.2.2.1) 3).bind fun j=>
  some (j.2.1,j.2.2.1,j.2.2.2,j.1)) else(some (c.1,c.2.1,c.2.2.1,false))) else(some (c.1,c.2.1,c.2.2.1,false))):Option ((List Int)×Int×Int×Bool)).bind fun e=>
  if e.2.2.2=true then((cF (cx (List.length c.2.2.2.1+List.length [c.2.2.2.2]))).bind fun _=>
  some (e.1,e.2.1,e.2.2.1,c.2.2.2.1++[c.2.2.2.2])) else(some (e.1,e.2.1,e.2.2.1,c.2.2.2.1))):Option ((List Int)×Int×Int×(List Int))).bind fun h=>
  (ck (c.2.2.2.2+1)).bind fun l=>
  eH k r3 r4 y7 n (h.1,h.2.1,h.2.2.1,h.2.2.2,l)) else(some (c.1,c.2.1,c.2.2.1,c.2.2.2.1))
def dI(k:Nat)(r3:Int×cr)(r4:Bool×cr):Nat→((List Int)×Int×Int×(List bp)×(List Int)×(List Int)×Int)→Option ((List Int)×Int×Int×(List bp)×(List Int)×(List Int))
 |0,_=>none
 |n+1,y7=>
  if y7.2.2.2.2.2.2 < r3.1 then((((fE k (y7.1,y7.2.1,y7.2.2.1) 1 4).bind fun y=>
  (fD k (y.2.1,y.2.2.1,y.2.2.2) [1,1,2,y.1]).bind fun r=>
  (fE k (r.2.1,r.2.2.1,r.2.2.2) 1 4).bind fun x=>
  (fD k (x.2.1,x.2.2.1,x.2.2.2) [1,2,2,x.1]).bind fun l=>
  (fD k (l.2.1,l.2.2.1,l.2.2.2) [0,0,1,2]).bind fun j=>
  (fE k (j.2.1,j.2.2.1,j.2.2.2) 1 6).bind fun u=>
  (fE k (u.2.1,u.2.2.1,u.2.2.2) 3 12).bind fun s=>
  (fD k (s.2.1,s.2.2.1,s.2.2.2) [0,0,u.1,s.1]).bind fun h=>
  ((eH k r3 r4 y7 k (h.2.1,h.2.2.1,h.2.2.2,([]:(List Int)),0)):Option ((List Int)×Int×Int×(List Int))).bind fun e=>
  (cF (cx (List.length y7.2.2.2.1+List.length [(e.2.2.2,r.1,l.1,j.1,h.1)]))).bind fun _=>
  (cy k (e.1,e.2.1,e.2.2.1) 5).bind fun c=>
  if c.1=0 then(some (c.2.1,c.2.2.1,c.2.2.2,y7.2.2.2.1++[(e.2.2.2,r.1,l.1,j.1,h.1)],y7.2.2.2.2.1,y7.2.2.2.2.2.1)) else(((if c.1=1 then(some (decide (c.1=1))) else(some (decide (c.1=2)))):Option (Bool)).bind fun E=>
  if E=true then((cF (cx (List.length y7.2.2.2.2.1+List.length [y7.2.2.2.2.2.2]))).bind fun _=>
  some (c.2.1,c.2.2.1,c.2.2.2,y7.2.2.2.1++[(e.2.2.2,r.1,l.1,j.1,h.1)],y7.2.2.2.2.1++[y7.2.2.2.2.2.2],y7.2.2.2.2.2.1)) else(if c.1=3 then((cF (cx (List.length y7.2.2.2.2.2.1+List.length [y7.2.2.2.2.2.2]))).bind fun _=>
  some (c.2.1,c.2.2.1,c.2.2.2,y7.2.2.2.1++[(e.2.2.2,r.1,l.1,j.1,h.1)],y7.2.2.2.2.1,y7.2.2.2.2.2.1++[y7.2.2.2.2.2.2])) else((cF (cx (List.length y7.2.2.2.2.1+List.length [y7.2.2.2.2.2.2]))).bind fun _=>
  (cF (cx (List.length y7.2.2.2.2.2.1+List.length [y7.2.2.2.2.2.2]))).bind fun _=>
  some (c.2.1,c.2.2.1,c.2.2.2,y7.2.2.2.1++[(e.2.2.2,r.1,l.1,j.1,h.1)],y7.2.2.2.2.1++[y7.2.2.2.2.2.2],y7.2.2.2.2.2.1++[y7.2.2.2.2.2.2]))))):Option ((List Int)×Int×Int×(List bp)×(List Int)×(List Int))).bind fun x9=>
  (ck (y7.2.2.2.2.2.2+1)).bind fun D=>
  dI k r3 r4 n (x9.1,x9.2.1,x9.2.2.1,x9.2.2.2.1,x9.2.2.2.2.1,x9.2.2.2.2.2,D)) else(some (y7.1,y7.2.1,y7.2.2.1,y7.2.2.2.1,y7.2.2.2.2.1,y7.2.2.2.2.2.1))
def fm(k:Nat)(r3:Int×cr):Nat→((List Int)×Int×Int×(List Int)×Int)→Option ((List Int)×Int×Int×(List Int))
 |0,_=>none
 |n+1,c=>
  if c.2.2.2.2 < r3.1 then((((fC k (c.1,c.2.1,c.2.2.1) 4).bind fun e=>
  if¬(e.1=true) then((cF (cx (List.length c.2.2.2.1+List.length [c.2.2.2.2]))).bind fun _=>
  some (e.2.1,e.2.2.1,e.2.2.2,c.2.2.2.1++[c.2.2.2.2])) else(some (e.2.1,e.2.2.1,e.2.2.2,c.2.2.2.1))):Option ((List Int)×Int×Int×(List Int))).bind fun h=>
  (ck (c.2.2.2.2+1)).bind fun j=>
  fm k r3 n (h.1,h.2.1,h.2.2.1,h.2.2.2,j)) else(some (c.1,c.2.1,c.2.2.1,c.2.2.2.1))
def fo(k:Nat)(r3:Int×cr):Nat→((List Int)×Int×Int×(List ax)×Int)→Option ((List Int)×Int×Int×(List ax))
 |0,_=>none
 |n+1,c=>
  if 0 < c.2.2.2.2 then((((fD k (c.1,c.2.1,c.2.2.1) [0,0,1,2]).bind fun j=>
  (cy k (j.2.1,j.2.2.1,j.2.2.2) 4).bind fun r=>
  (fD k (r.2.1,r.2.2.1,r.2.2.2) [0,0,1,r.1]).bind fun h=>
  ((fm k r3 k (h.2.1,h.2.2.1,h.2.2.2,([]:(List Int)),0)):Option ((List Int)×Int×Int×(List Int))).bind fun e=>
  (cF (cx (List.length c.2.2.2.1+List.length [(e.2.2.2,j.1,h.1)]))).bind fun _=>
  some (e.1,e.2.1,e.2.2.1,c.2.2.2.1++[(e.2.2.2,j.1,h.1)])):Option ((List Int)×Int×Int×(List ax))).bind fun l=>
  (ck (c.2.2.2.2 - 1)).bind fun s=>
  fo k r3 n (l.1,l.2.1,l.2.2.1,l.2.2.2,s)) else(some (c.1,c.2.1,c.2.2.1,c.2.2.2.1))
def bU(k:Nat):Nat→((List Int)×Int×Int×(List bp)×(List ax)×(List Int)×(List Int))→Option ((List bp)×(List ax)×(List Int)×(List Int)×(List Int)×Int×Int)
 |0,_=>none
 |n+1,c=>
  (fB k (c.2.2.2.1,c.2.2.2.2.1,c.2.2.2.2.2.1,c.2.2.2.2.2.2)).bind fun r=>
  if 4 < (r.length:Int) then(((if 0 < (c.2.2.2.2.2.2.length:Int) then((fC k (c.1,c.2.1,c.2.2.1) 2).bind fun h=>
  some (h.2.1,h.2.2.1,h.2.2.2,h.1)) else(some (c.1,c.2.1,c.2.2.1,false))):Option ((List Int)×Int×Int×Bool)).bind fun e=>
  if e.2.2.2=true then((ck ((c.2.2.2.2.2.2.length:Int) - 1)).bind fun l=>
  (cF (0≤l∧l≤(c.2.2.2.2.2.2.length:Int))).bind fun _=>
  bU k n (e.1,e.2.1,e.2.2.1,c.2.2.2.1,c.2.2.2.2.1,c.2.2.2.2.2.1,List.take (Int.toNat l) c.2.2.2.2.2.2)) else(if 0 < (c.2.2.2.2.2.1.length:Int) then((ck ((c.2.2.2.2.2.1.length:Int) - 1)).bind fun j=>
  (cF (0≤j∧j≤(c.2.2.2.2.2.1.length:Int))).bind fun _=>
  bU k n (e.1,e.2.1,e.2.2.1,c.2.2.2.1,c.2.2.2.2.1,List.take (Int.toNat j) c.2.2.2.2.2.1,c.2.2.2.2.2.2)) else(bU k n (e.1,e.2.1,e.2.2.1,c.2.2.2.1,c.2.2.2.2.1,c.2.2.2.2.2.1,[])))) else(some (c.2.2.2.1,c.2.2.2.2.1,c.2.2.2.2.2.1,c.2.2.2.2.2.2,c.1,c.2.1,c.2.2.1))
def jM(k:Nat)(a0:cr):Option (ae×cr):=
 (fE k (a0.1,a0.2.1,a0.2.2) 1 4).bind fun r3=>
 (fC k (r3.2.1,r3.2.2.1,r3.2.2.2) 2).bind fun r4=>
 ((dI k r3 r4 k (r4.2.1,r4.2.2.1,r4.2.2.2,([]:(List bp)),([]:(List Int)),([]:(List Int)),0)):Option ((List Int)×Int×Int×(List bp)×(List Int)×(List Int))).bind fun x5=>
 (((fE k (x5.1,x5.2.1,x5.2.2.1) 1 3).bind fun h=>
 fo k r3 k (h.2.1,h.2.2.1,h.2.2.2,([]:(List ax)),h.1)):Option ((List Int)×Int×Int×(List ax))).bind fun e=>
 ((bU k k (e.1,e.2.1,e.2.2.1,x5.2.2.2.1,e.2.2.2,x5.2.2.2.2.1,x5.2.2.2.2.2)):Option ((List bp)×(List ax)×(List Int)×(List Int)×(List Int)×Int×Int)).bind fun c=>
 some ((c.1,c.2.1,c.2.2.1,c.2.2.2.1),(c.2.2.2.2.1,c.2.2.2.2.2.1,c.2.2.2.2.2.2))
theorem vv(k:Nat)(a0:cr)(c:Nat)(r:ae×cr)(h:jM k a0=some r):
 bQ Tryz.prog 25 [Pt c] [.obj c 64 (.agg (.pair (Ri a0.1) (.pair (I a0.2.1) (.eq (.int .u64 a0.2.2)))))] (fun _:Unit=>(bG [.rep ag r.1],[.obj c 64 (.agg (.pair (Ri r.2.1) (.pair (I r.2.2.1) (.eq (.int .u64 r.2.2.2)))))])):=by
 unfold jM at h
 replace h:=bi h
 refine bQ.of 175 Tryz.func25 rfl Tryz.ntmps25 rfl fun S w0=>?_
 refine sr ?_
 refine aA rfl rfl rfl (aF rfl oS rM) trivial fun b1=>?_
 refine nt ?_
 refine sr ?_
 refine aA rfl rfl rfl (aF rfl oS rM) trivial fun b2=>?_
 refine nt ?_
 refine sr ?_
 refine mq ?_
 obtain⟨r3,SD,h⟩:=aa h
 have SH:=ip k (a0.1,a0.2.1,a0.2.2) c 1 4 r3 SD
 refine fr 2 ?_
 refine kc (ak [.tmp 12,.const (.int .i64 (1)),.const (.int .i64 (4))] rfl rfl FT rfl SH) ?_
 refine aq ?_
 refine nt ?_
 refine sr ?_
 refine mq ?_
 obtain⟨r4,SC,h⟩:=aa h
 have SG:=jL k (r3.2.1,r3.2.2.1,r3.2.2.2) c 2 r4 SC
 refine kb (ak [.tmp 14,.const (.int .i64 (2))] rfl rfl KT rfl SG) ?_
 refine aq ?_
 refine nt ?_
 refine ay (Z:=Value×Value×Value) (α:=(List Int)×Int×Int×(List bp)×(List Int)×(List Int)) (fun z6 x5=>[(0,Pt c),(2,Pt b1),(3,Pt b2),(4,I r3.1)]) (fun z6 x5=>[.obj c 64 (.agg (.pair (Ri x5.1) (.pair (I x5.2.1) (.eq (.int .u64 x5.2.2.1))))),.obj b1 26 N4,.obj b2 26 (.agg (.pair (.eq z6.1) (.pair (.eq (.slice none 0 0)) (.pair (.eq z6.2.1) (.eq z6.2.2))))),.sl z6.1 45 aJ x5.2.2.2.1,.sl z6.2.1 3 (.int .i64) x5.2.2.2.2.1,.sl z6.2.2 3 (.int .i64) x5.2.2.2.2.2]) h (fun K h=>?_) (fun z6 x5 h=>?_)
 ·
  refine sr (cq (nt (al ?_)));refine eL (SE.nil 45 aJ) ?_;refine eL (SE.nil 3 (.int .i64)) ?_;refine eL (SE.nil 3 (.int .i64)) ?_;refine aD (fun z8 y7=>[(0,Pt c),(2,Pt b1),(3,Pt b2),(4,I r3.1),(5,.eq (.bool r4.1)),(6,I y7.2.2.2.2.2.2)]) (fun z8 y7=>[.obj c 64 (.agg (.pair (Ri y7.1) (.pair (I y7.2.1) (.eq (.int .u64 y7.2.2.1))))),.obj b1 26 N4,.obj b2 26 (.agg (.pair (.eq z8.1) (.pair (.eq (.slice none 0 0)) (.pair (.eq z8.2.1) (.eq z8.2.2))))),.sl z8.1 45 aJ y7.2.2.2.1,.sl z8.2.1 3 (.int .i64) y7.2.2.2.2.1,.sl z8.2.2 3 (.int .i64) y7.2.2.2.2.2.1]) (dI k r3 r4) k ((.slice none 0 0),(.slice none 0 0),(.slice none 0 0)) (r4.2.1,r4.2.2.1,r4.2.2.2,([]:(List bp)),([]:(List Int)),([]:(List Int)),0) (fun _=>rfl) h (SE.fin [3,5,4,2,1,0] ⟨rfl,rfl,rfl,rfl,rfl,rfl,trivial⟩ rfl) (fun n z8 y7 h=>?_);unfold dI at h;refine aj (sr ?_);iterate 2 refine mq ?_
  refine jb (ba rfl) ?_;refine nt (ci h (fun h=>?_) (fun h=>?_))
  ·refine sk (ay (Z:=Value×Value×Value) (α:=(List Int)×Int×Int×(List bp)×(List Int)×(List Int)) (fun Y x9=>[(0,Pt c),(2,Pt b1),(3,Pt b2),(4,I r3.1),(5,.eq (.bool r4.1)),(6,I y7.2.2.2.2.2.2)]) (fun Y x9=>[.obj c 64 (.agg (.pair (Ri x9.1) (.pair (I x9.2.1) (.eq (.int .u64 x9.2.2.1))))),.obj b1 26 N4,.obj b2 26 (.agg (.pair (.eq Y.1) (.pair (.eq (.slice none 0 0)) (.pair (.eq Y.2.1) (.eq Y.2.2))))),.sl Y.1 45 aJ x9.2.2.2.1,.sl Y.2.1 3 (.int .i64) x9.2.2.2.2.1,.sl Y.2.2 3 (.int .i64) x9.2.2.2.2.2]) h (fun K h=>?_) (fun Y x9 h=>?_))
   ·refine al (sr ?_);iterate 2 refine mq ?_
    obtain⟨QO,RR,h⟩:=aa h;refine kc (ak [.tmp 22,.const (.int .i64 (1)),.const (.int .i64 (4))] rfl rfl FT rfl (ip k (y7.1,y7.2.1,y7.2.2.1) c 1 4 QO RR)) ?_;refine dx rfl (bv (t:=(.int .i64)) [(.const (.int .i64 (1)),_),(.const (.int .i64 (1)),_),(.const (.int .i64 (2)),_),(.tmp 23,_)] [1,1,2,QO.1] rfl rfl eo (.cons rfl .int (.cons rfl .int (.cons rfl .int (.cons rfl .int .nil)))) rfl rfl) ⟨rfl,rfl,rfl,rfl,trivial⟩ ?_;obtain⟨O,RQ,h⟩:=aa h;refine kb (ak [.tmp 21,.tmp 24] rfl rfl FR rfl (io k (QO.2.1,QO.2.2.1,QO.2.2.2) c [1,1,2,QO.1] O RQ)) ?_;iterate 2 refine mq ?_
    obtain⟨QN,RP,h⟩:=aa h;refine kc (ak [.tmp 27,.const (.int .i64 (1)),.const (.int .i64 (4))] rfl rfl FT rfl (ip k (O.2.1,O.2.2.1,O.2.2.2) c 1 4 QN RP)) ?_;refine dx rfl (bv (t:=(.int .i64)) [(.const (.int .i64 (1)),_),(.const (.int .i64 (2)),_),(.const (.int .i64 (2)),_),(.tmp 28,_)] [1,2,2,QN.1] rfl rfl eo (.cons rfl .int (.cons rfl .int (.cons rfl .int (.cons rfl .int .nil)))) rfl rfl) ⟨rfl,rfl,rfl,rfl,trivial⟩ ?_;obtain⟨M,RO,h⟩:=aa h;refine kb (ak [.tmp 26,.tmp 29] rfl rfl FR rfl (io k (QN.2.1,QN.2.2.1,QN.2.2.2) c [1,2,2,QN.1] M RO)) ?_;refine mq ?_;refine dx rfl (bv (t:=(.int .i64)) [(.const (.int .i64 (0)),_),(.const (.int .i64 (0)),_),(.const (.int .i64 (1)),_),(.const (.int .i64 (2)),_)] [0,0,1,2] rfl rfl eo (.cons rfl .int (.cons rfl .int (.cons rfl .int (.cons rfl .int .nil)))) rfl rfl) ⟨rfl,rfl,rfl,rfl,trivial⟩ ?_;obtain⟨J,RN,h⟩:=aa h;refine kb (ak [.tmp 31,.tmp 32] rfl rfl FR rfl (io k (M.2.1,M.2.2.1,M.2.2.2) c [0,0,1,2] J RN)) ?_;iterate 2 refine mq ?_
    obtain⟨QM,RL,h⟩:=aa h;refine kc (ak [.tmp 35,.const (.int .i64 (1)),.const (.int .i64 (6))] rfl rfl FT rfl (ip k (J.2.1,J.2.2.1,J.2.2.2) c 1 6 QM RL)) ?_;refine mq ?_;obtain⟨QL,RJ,h⟩:=aa h;refine kc (ak [.tmp 37,.const (.int .i64 (3)),.const (.int .i64 (12))] rfl rfl FT rfl (ip k (QM.2.1,QM.2.2.1,QM.2.2.2) c 3 12 QL RJ)) ?_;refine dx rfl (bv (t:=(.int .i64)) [(.const (.int .i64 (0)),_),(.const (.int .i64 (0)),_),(.tmp 36,_),(.tmp 38,_)] [0,0,QM.1,QL.1] rfl rfl eo (.cons rfl .int (.cons rfl .int (.cons rfl .int (.cons rfl .int .nil)))) rfl rfl) ⟨rfl,rfl,rfl,rfl,trivial⟩ ?_;obtain⟨F,RI,h⟩:=aa h;refine kb (ak [.tmp 34,.tmp 39] rfl rfl FR rfl (io k (QL.2.1,QL.2.2.1,QL.2.2.2) c [0,0,QM.1,QL.1] F RI)) ?_;refine dx rfl (cR [(1,.tmp 25,_),(2,.tmp 30,_),(3,.tmp 33,_),(4,.tmp 40,_)] rfl Ha pU BR (iF ⟨rfl,rfl,rfl,rfl,trivial⟩) rfl) ⟨rfl,rfl,rfl,rfl,trivial⟩ ?_;refine aA rfl rfl rfl (aF rfl pU vB) trivial fun QG=>?_;refine aK rfl rfl (aE rfl eY trivial rfl rfl) ⟨rfl,rfl,trivial⟩ ?_;refine nt (ay (Z:=Value) (α:=(List Int)×Int×Int×(List Int)) (fun QZ E=>[(0,Pt c),(2,Pt b1),(3,Pt b2),(4,I r3.1),(5,.eq (.bool r4.1)),(6,I y7.2.2.2.2.2.2),(7,Pt QG)]) (fun QZ E=>[.obj c 64 (.agg (.pair (Ri E.1) (.pair (I E.2.1) (.eq (.int .u64 E.2.2.1))))),.obj b1 26 N4,.obj b2 26 (.agg (.pair (.eq z8.1) (.pair (.eq (.slice none 0 0)) (.pair (.eq z8.2.1) (.eq z8.2.2))))),.sl z8.1 45 aJ y7.2.2.2.1,.sl z8.2.1 3 (.int .i64) y7.2.2.2.2.1,.sl z8.2.2 3 (.int .i64) y7.2.2.2.2.2.1,.obj QG 45 (.agg (.pair (.eq QZ) (.pair (I O.1) (.pair (I M.1) (.pair (I J.1) (I F.1)))))),.sl QZ 3 (.int .i64) E.2.2.2]) h (fun K h=>?_) (fun QZ E h=>?_))
    ·refine sr (cq (nt (al ?_)));refine eL (SE.nil 3 (.int .i64)) ?_;refine aD (fun QF j=>[(0,Pt c),(2,Pt b1),(3,Pt b2),(4,I r3.1),(5,.eq (.bool r4.1)),(6,I y7.2.2.2.2.2.2),(7,Pt QG),(8,I j.2.2.2.2)]) (fun QF j=>[.obj c 64 (.agg (.pair (Ri j.1) (.pair (I j.2.1) (.eq (.int .u64 j.2.2.1))))),.obj b1 26 N4,.obj b2 26 (.agg (.pair (.eq z8.1) (.pair (.eq (.slice none 0 0)) (.pair (.eq z8.2.1) (.eq z8.2.2))))),.sl z8.1 45 aJ y7.2.2.2.1,.sl z8.2.1 3 (.int .i64) y7.2.2.2.2.1,.sl z8.2.2 3 (.int .i64) y7.2.2.2.2.2.1,.obj QG 45 (.agg (.pair (.eq QF) (.pair (I O.1) (.pair (I M.1) (.pair (I J.1) (I F.1)))))),.sl QF 3 (.int .i64) j.2.2.2.1]) (eH k r3 r4 y7) k (.slice none 0 0) (F.2.1,F.2.2.1,F.2.2.2,([]:(List Int)),0) (fun _=>rfl) h (SE.fin [2,3,4,5,6,7,1,0] ⟨rfl,rfl,rfl,rfl,rfl,rfl,rfl,rfl,trivial⟩ rfl) (fun n QF j h=>?_);unfold eH at h;refine aj (sr ?_);iterate 2 refine mq ?_
     refine jb (ba rfl) ?_;refine nt (ci h (fun h=>?_) (fun h=>?_))
     ·refine sk (ay (Z:=Value) (α:=(List Int)×Int×Int×(List Int)) (fun QS QB=>[(0,Pt c),(2,Pt b1),(3,Pt b2),(4,I r3.1),(5,.eq (.bool r4.1)),(6,I y7.2.2.2.2.2.2),(7,Pt QG),(8,I j.2.2.2.2)]) (fun QS QB=>[.obj c 64 (.agg (.pair (Ri QB.1) (.pair (I QB.2.1) (.eq (.int .u64 QB.2.2.1))))),.obj b1 26 N4,.obj b2 26 (.agg (.pair (.eq z8.1) (.pair (.eq (.slice none 0 0)) (.pair (.eq z8.2.1) (.eq z8.2.2))))),.sl z8.1 45 aJ y7.2.2.2.1,.sl z8.2.1 3 (.int .i64) y7.2.2.2.2.1,.sl z8.2.2 3 (.int .i64) y7.2.2.2.2.2.1,.obj QG 45 (.agg (.pair (.eq QS) (.pair (I O.1) (.pair (I M.1) (.pair (I J.1) (I F.1)))))),.sl QS 3 (.int .i64) QB.2.2.2]) h (fun K h=>?_) (fun QS QB h=>?_))
      ·refine al (ay (Z:=Unit) (α:=(List Int)×Int×Int×Bool) (fun Q9 U=>[(0,Pt c),(2,Pt b1),(3,Pt b2),(4,I r3.1),(5,.eq (.bool r4.1)),(6,I y7.2.2.2.2.2.2),(7,Pt QG),(8,I j.2.2.2.2),(60,.eq (.bool U.2.2.2))]) (fun Q9 U=>[.obj c 64 (.agg (.pair (Ri U.1) (.pair (I U.2.1) (.eq (.int .u64 U.2.2.1))))),.obj b1 26 N4,.obj b2 26 (.agg (.pair (.eq z8.1) (.pair (.eq (.slice none 0 0)) (.pair (.eq z8.2.1) (.eq z8.2.2))))),.sl z8.1 45 aJ y7.2.2.2.1,.sl z8.2.1 3 (.int .i64) y7.2.2.2.2.1,.sl z8.2.2 3 (.int .i64) y7.2.2.2.2.2.1,.obj QG 45 (.agg (.pair (.eq QF) (.pair (I O.1) (.pair (I M.1) (.pair (I J.1) (I F.1)))))),.sl QF 3 (.int .i64) j.2.2.2.1]) h (fun K h=>?_) (fun Q9 U h=>?_))
       ·refine ah ?_;iterate 2 refine mq ?_
        refine jb (ik rfl) ?_;refine mq ?_;refine jb (MK rfl U4) ?_;refine mq ?_;refine aM (s:=52) rfl (fun hb=>?_) (fun hb=>?_)
        ·replace h:=bY (oQ hb) h;refine gm ?_;refine gm ?_;refine gb (bT rfl) ?_;refine pt ?_;refine mq ?_;refine aM (s:=57) rfl (fun hb=>?_) (fun hb=>?_)
         ·replace h:=bY (Ef hb) h;refine gm ?_;obtain⟨QW,RH,h⟩:=aa h;refine bO rfl rfl rfl rfl rfl rfl (ak [.tmp 58,.const (.int .i64 (3))] rfl rfl KT rfl (jL k (j.1,j.2.1,j.2.2.1) c 3 QW RH)) ⟨rfl,rfl,trivial⟩ ?_;refine pt (nl ?_);exact jz ((),(QW.2.1,QW.2.2.1,QW.2.2.2,QW.1)) h [0,1,2,3,4,5,6,7]
         ·replace h:=bj (tu hb) h;iterate 2 refine gn ?_
          refine pf (nl ?_);exact jz ((),(j.1,j.2.1,j.2.2.1,false)) h [0,1,2,3,4,5,6,7]
        ·replace h:=bj (oR hb) h;iterate 3 refine gn ?_
         refine pf ?_;refine mq ?_;iterate 2 refine gn ?_
         refine pf (nl ?_);exact jz ((),(j.1,j.2.1,j.2.2.1,false)) h [0,1,2,3,4,5,6,7]
       ·refine cv h (fun h=>?_) (fun h=>?_)
        ·refine ah (fl iq ?_);refine fr 6 ?_;refine lo bR ?_;refine mq ?_;refine ja (bv (t:=(.int .i64)) [(.tmp 63,_)] [j.2.2.2.2] rfl rfl eo (.cons rfl .int .nil) rfl rfl) ?_;obtain⟨Tj,Rx,h⟩:=aa h;refine fr 7 ?_;refine dE rfl rfl rfl (bI rfl rfl eo (av Rx)) ⟨rfl,rfl,trivial⟩ fun Si=>?_;refine fl iq ?_;refine fV fun o31=>?_;refine fr 1 ?_;refine aK rfl rfl (aE rfl bR o31 rfl rfl) ⟨rfl,rfl,trivial⟩ ?_;refine aT (bn ?_);exact jz (Si,(U.1,U.2.1,U.2.2.1,j.2.2.2.1++[j.2.2.2.2])) h [2,3,4,5,6,7,0,1]
        ·refine aU (bn ?_);exact jz (QF,(U.1,U.2.1,U.2.2.1,j.2.2.2.1)) h [0,1,2,3,4,5,6,7]
      ·refine ah (mq ?_);obtain⟨RZ,Rm,h⟩:=aa h;refine jb (bh rfl Rm) ?_;refine aq (nl ?_);exact jz (QS,(QB.1,QB.2.1,QB.2.2.1,QB.2.2.2,RZ)) h [0,1,2,3,4,5,6,7]
     ·refine xa ?_;exact jz (QF,(j.1,j.2.1,j.2.2.1,j.2.2.2.1)) h [0,1,2,3,4,5,6,7]
    ·refine sr (fl bu ?_);refine fr 2 ?_;refine lo dM ?_;refine fr 6 ?_;refine fr 7 ?_;refine eX (cD (off:=0) [] trivial rfl rfl) ?_;refine lo eY ?_;refine ja (bv (t:=aJ) [(.tmp 69,_)] [(E.2.2.2,O.1,M.1,J.1,F.1)] rfl rfl CP (.cons trivial (.agg (.pair .rep (.pair .int (.pair .int (.pair .int .int))))) .nil) rfl rfl) ?_;obtain⟨Ti,Rw,h⟩:=aa h;refine fr 4 ?_;refine dE rfl rfl rfl (bI rfl rfl CP (av Rw)) ⟨rfl,rfl,trivial⟩ fun QC=>?_;refine fl bu ?_;refine fV fun o35=>?_;refine fr 2 ?_;refine aK rfl rfl (aE rfl dM o35 rfl rfl) ⟨rfl,rfl,trivial⟩ ?_;refine nt (sr (mq ?_));obtain⟨l,RG,h⟩:=aa h;refine fr 3 ?_;refine kb (ak [.tmp 73,.const (.int .i64 (5))] rfl rfl Bv rfl (dY k (E.1,E.2.1,E.2.2.1) c 5 l RG)) ?_;refine nt (al (sr (jb (cM rfl) ?_)));refine aq (nt ?_);refine ci h (fun h=>?_) (fun h=>?_)
     ·refine aU (aO (bn ?_));exact jz ((QC,z8.2.1,z8.2.2),(l.2.1,l.2.2.1,l.2.2.2,y7.2.2.2.1++[(E.2.2.2,O.1,M.1,J.1,F.1)],y7.2.2.2.2.1,y7.2.2.2.2.2.1)) h [0,4,1,2,5,6]
     ·refine ay (Z:=Unit) (α:=Bool) (fun Q8 Q4=>[(0,Pt c),(2,Pt b1),(3,Pt b2),(4,I r3.1),(5,.eq (.bool r4.1)),(6,I y7.2.2.2.2.2.2),(74,I l.1),(89,.eq (.bool Q4))]) (fun Q8 Q4=>[.obj c 64 (.agg (.pair (Ri l.2.1) (.pair (I l.2.2.1) (.eq (.int .u64 l.2.2.2))))),.obj b1 26 N4,.obj b2 26 (.agg (.pair (.eq QC) (.pair (.eq (.slice none 0 0)) (.pair (.eq z8.2.1) (.eq z8.2.2))))),.sl QC 45 aJ (y7.2.2.2.1++[(E.2.2.2,O.1,M.1,J.1,F.1)]),.sl z8.2.1 3 (.int .i64) y7.2.2.2.2.1,.sl z8.2.2 3 (.int .i64) y7.2.2.2.2.2.1]) h (fun K h=>?_) (fun Q8 Q4 h=>?_)
      ·refine sr (jb (cM rfl) ?_);refine aq (nt ?_);refine ci h (fun h=>?_) (fun h=>?_)
       ·refine aU (a7 ?_);exact jz ((),decide (l.1=1)) h [0,4,1,2,5,6]
       ·refine ah (jb (cM rfl) ?_);refine aq (nl ?_);exact jz ((),decide (l.1=2)) h [0,4,1,2,5,6]
      ·refine cv h (fun h=>?_) (fun h=>?_)
       ·refine ah (fl fQ ?_);refine fr 2 ?_;refine lo bR ?_;refine mq ?_;refine ja (bv (t:=(.int .i64)) [(.tmp 94,_)] [y7.2.2.2.2.2.2] rfl rfl eo (.cons rfl .int .nil) rfl rfl) ?_;obtain⟨Tf,Ru,h⟩:=aa h;refine fr 4 ?_;refine dE rfl rfl rfl (bI rfl rfl eo (av Ru)) ⟨rfl,rfl,trivial⟩ fun R9=>?_;refine fl fQ ?_;refine fV fun o41=>?_;refine fr 1 ?_;refine aK rfl rfl (aE rfl bR o41 rfl rfl) ⟨rfl,rfl,trivial⟩ ?_;refine aT (aO (bn ?_));exact jz ((QC,R9,z8.2.2),(l.2.1,l.2.2.1,l.2.2.2,y7.2.2.2.1++[(E.2.2.2,O.1,M.1,J.1,F.1)],y7.2.2.2.2.1++[y7.2.2.2.2.2.2],y7.2.2.2.2.2.1)) h [2,3,0,4,1,5]
       ·refine sr (jb (cM rfl) ?_);refine aq (nt ?_);refine ci h (fun h=>?_) (fun h=>?_)
        ·refine ah (fl eV ?_);refine fr 2 ?_;refine lo bR ?_;refine mq ?_;refine ja (bv (t:=(.int .i64)) [(.tmp 102,_)] [y7.2.2.2.2.2.2] rfl rfl eo (.cons rfl .int .nil) rfl rfl) ?_;obtain⟨Td,Rt,h⟩:=aa h;refine fr 5 ?_;refine dE rfl rfl rfl (bI rfl rfl eo (av Rt)) ⟨rfl,rfl,trivial⟩ fun R7=>?_;refine fl eV ?_;refine fV fun o44=>?_;refine fr 1 ?_;refine aK rfl rfl (aE rfl bR o44 rfl rfl) ⟨rfl,rfl,trivial⟩ ?_;refine aT (aO (bn ?_));exact jz ((QC,z8.2.1,R7),(l.2.1,l.2.2.1,l.2.2.2,y7.2.2.2.1++[(E.2.2.2,O.1,M.1,J.1,F.1)],y7.2.2.2.2.1,y7.2.2.2.2.2.1++[y7.2.2.2.2.2.2])) h [2,3,0,4,5,1]
        ·refine i8 ?_;refine aP rfl rfl rfl (am rfl fQ) ⟨rfl,trivial⟩ ?_;refine fy 2 rfl rfl rfl rfl (ai rfl bR dF rfl) ⟨rfl,trivial⟩ ?_;refine aP rfl rfl rfl (bg rfl) ⟨rfl,trivial⟩ ?_;refine aP rfl rfl rfl (bv (t:=(.int .i64)) [(.tmp 77,_)] [y7.2.2.2.2.2.2] rfl rfl eo (.cons rfl .int .nil) rfl rfl) ⟨rfl,trivial⟩ ?_;obtain⟨Ta,Rr,h⟩:=aa h;refine xI 4 rfl (fun v=>[.sl v 3 (.int .i64) (y7.2.2.2.2.1++[y7.2.2.2.2.2.2])]) (fun _=>rfl) rfl rfl rfl (bI rfl rfl eo (av Rr)) ⟨rfl,rfl,trivial⟩ ?_;refine aP rfl rfl rfl (am rfl eV) ⟨rfl,trivial⟩ ?_;refine fy 2 rfl rfl rfl rfl (ai rfl bR dF rfl) ⟨rfl,trivial⟩ ?_;refine aP rfl rfl rfl (bg rfl) ⟨rfl,trivial⟩ ?_;refine aP rfl rfl rfl (bv (t:=(.int .i64)) [(.tmp 82,_)] [y7.2.2.2.2.2.2] rfl rfl eo (.cons rfl .int .nil) rfl rfl) ⟨rfl,trivial⟩ ?_;obtain⟨S9,Rq,h⟩:=aa h;refine xI 5 rfl (fun v=>[.sl v 3 (.int .i64) (y7.2.2.2.2.2.1++[y7.2.2.2.2.2.2])]) (fun _=>rfl) rfl rfl rfl (bI rfl rfl eo (av Rq)) ⟨rfl,rfl,trivial⟩ ?_;refine aP rfl rfl rfl (am rfl fQ) ⟨rfl,trivial⟩ ?_;refine mA 11 [true,true,true,true,true,true,true,true,true,true,true] [86] [] [] rfl (by kernel_rfl) (by kernel_rfl) (by kernel_rfl) bw (fun vs hv hB=>?_);obtain⟨w0,SX,rfl,SB⟩:=ar hv;obtain⟨w1,SV,rfl,SA⟩:=ar SB;obtain⟨w2,SU,rfl,Sz⟩:=ar SA;obtain⟨w3,SS,rfl,Sv⟩:=ar Sz;obtain⟨Q1,SR,rfl,Su⟩:=ar Sv;obtain⟨w5,SQ,rfl,Ss⟩:=ar Su;obtain⟨w6,SO,rfl,Sr⟩:=ar Ss;obtain⟨w7,SN,rfl,Sm⟩:=ar Sr;obtain⟨w8,SL,rfl,Sl⟩:=ar Sm;obtain⟨Q0,SJ,rfl,Re⟩:=ar Sl;obtain⟨SK,SI,rfl,Rb⟩:=ar Re;obtain rfl:=kp Rb;refine⟨[0,1,2,3,4,5],[.obj c 64 (.agg (.pair (Ri l.2.1) (.pair (I l.2.2.1) (.eq (.int .u64 l.2.2.2))))),.obj b1 26 N4,.obj b2 26 (.agg (.pair (.eq QC) (.pair (.eq (.slice none 0 0)) (.pair (.eq z8.2.1) (.eq z8.2.2))))),.sl QC 45 aJ (y7.2.2.2.1++[(E.2.2.2,O.1,M.1,J.1,F.1)]),.sl Q1 3 (.int .i64) (y7.2.2.2.2.1++[y7.2.2.2.2.2.2]),.sl Q0 3 (.int .i64) (y7.2.2.2.2.2.1++[y7.2.2.2.2.2.2])],by kernel_rfl,by decide,?_⟩;refine i7 4 rfl ?_;refine I6 fun o49=>?_;refine i7 3 rfl ?_;refine nw rfl rfl (aE rfl bR o49 rfl rfl) ⟨rfl,rfl,trivial⟩ (by kernel_rfl) ?_;refine uZ rfl rfl rfl rfl (am rfl eV) ⟨rfl,trivial⟩ (by kernel_rfl) ?_;refine i7 5 rfl ?_;refine I6 fun o50=>?_;refine i7 1 rfl ?_;refine nw rfl rfl (aE rfl bR o50 rfl rfl) ⟨rfl,rfl,trivial⟩ (by kernel_rfl) ?_;refine sN ?_;refine bC (SE.fin (Γ':=[(0,Pt c),(2,Pt b1),(3,Pt b2),(4,I r3.1),(5,.eq (.bool r4.1)),(6,I y7.2.2.2.2.2.2)]) (Δ':=[.obj b2 26 (.agg (.pair (.eq QC) (.pair (.eq (.slice none 0 0)) (.pair (.eq Q1) (.eq Q0))))),.sl Q0 3 (.int .i64) (y7.2.2.2.2.2.1++[y7.2.2.2.2.2.2]),.sl Q1 3 (.int .i64) (y7.2.2.2.2.1++[y7.2.2.2.2.2.2]),.obj c 64 (.agg (.pair (Ri l.2.1) (.pair (I l.2.2.1) (.eq (.int .u64 l.2.2.2))))),.obj b1 26 N4,.sl QC 45 aJ (y7.2.2.2.1++[(E.2.2.2,O.1,M.1,J.1,F.1)])]) [0,1,2,3,4,5] ⟨rfl,rfl,rfl,rfl,rfl,rfl,trivial⟩ rfl) ?_;refine aO (bn ?_);exact jz ((QC,Q1,Q0),(l.2.1,l.2.2.1,l.2.2.2,y7.2.2.2.1++[(E.2.2.2,O.1,M.1,J.1,F.1)],y7.2.2.2.2.1++[y7.2.2.2.2.2.2],y7.2.2.2.2.2.1++[y7.2.2.2.2.2.2])) h [3,4,0,5,2,1]
   ·refine ah (mq ?_);obtain⟨RY,Rl,h⟩:=aa h;refine jb (bh rfl Rl) ?_;refine aq (nl ?_);exact jz ((Y.1,Y.2.1,Y.2.2),(x9.1,x9.2.1,x9.2.2.1,x9.2.2.2.1,x9.2.2.2.2.1,x9.2.2.2.2.2,RY)) h [0,1,2,3,4,5]
  ·refine xa ?_;exact jz ((z8.1,z8.2.1,z8.2.2),(y7.1,y7.2.1,y7.2.2.1,y7.2.2.2.1,y7.2.2.2.2.1,y7.2.2.2.2.2.1)) h [0,1,2,3,4,5]
 ·
  refine ay (Z:=Value) (α:=(List Int)×Int×Int×(List ax)) (fun QY QA=>[(0,Pt c),(2,Pt b1),(3,Pt b2)]) (fun QY QA=>[.obj c 64 (.agg (.pair (Ri QA.1) (.pair (I QA.2.1) (.eq (.int .u64 QA.2.2.1))))),.obj b1 26 N4,.obj b2 26 (.agg (.pair (.eq z6.1) (.pair (.eq QY) (.pair (.eq z6.2.1) (.eq z6.2.2))))),.sl z6.1 45 aJ x5.2.2.2.1,.sl QY 47 aw QA.2.2.2,.sl z6.2.1 3 (.int .i64) x5.2.2.2.2.1,.sl z6.2.2 3 (.int .i64) x5.2.2.2.2.2]) h (fun K h=>?_) (fun QY QA h=>?_)
  ·refine sr (mq ?_);obtain⟨QU,RF,h⟩:=aa h;refine kc (ak [.tmp 106,.const (.int .i64 (1)),.const (.int .i64 (3))] rfl rfl FT rfl (ip k (x5.1,x5.2.1,x5.2.2.1) c 1 3 QU RF)) ?_;refine aq (nt (al ?_));refine eL (SE.nil 47 aw) ?_;refine aD (fun X u=>[(0,Pt c),(2,Pt b1),(3,Pt b2),(4,I r3.1),(9,I u.2.2.2.2)]) (fun X u=>[.obj c 64 (.agg (.pair (Ri u.1) (.pair (I u.2.1) (.eq (.int .u64 u.2.2.1))))),.obj b1 26 N4,.obj b2 26 (.agg (.pair (.eq z6.1) (.pair (.eq X) (.pair (.eq z6.2.1) (.eq z6.2.2))))),.sl z6.1 45 aJ x5.2.2.2.1,.sl X 47 aw u.2.2.2.1,.sl z6.2.1 3 (.int .i64) x5.2.2.2.2.1,.sl z6.2.2 3 (.int .i64) x5.2.2.2.2.2]) (fo k r3) k (.slice none 0 0) (QU.2.1,QU.2.2.1,QU.2.2.2,([]:(List ax)),QU.1) (fun _=>rfl) h (SE.fin [1,2,3,4,0,5,6] ⟨rfl,rfl,rfl,rfl,rfl,trivial⟩ rfl) (fun n X u h=>?_);unfold fo at h;refine aj (sr (mq ?_));refine jb (ik rfl) ?_;refine nt (ci h (fun h=>?_) (fun h=>?_))
   ·refine sk (ay (Z:=Value) (α:=(List Int)×Int×Int×(List ax)) (fun QR se=>[(0,Pt c),(2,Pt b1),(3,Pt b2),(4,I r3.1),(9,I u.2.2.2.2)]) (fun QR se=>[.obj c 64 (.agg (.pair (Ri se.1) (.pair (I se.2.1) (.eq (.int .u64 se.2.2.1))))),.obj b1 26 N4,.obj b2 26 (.agg (.pair (.eq z6.1) (.pair (.eq QR) (.pair (.eq z6.2.1) (.eq z6.2.2))))),.sl z6.1 45 aJ x5.2.2.2.1,.sl QR 47 aw se.2.2.2,.sl z6.2.1 3 (.int .i64) x5.2.2.2.2.1,.sl z6.2.2 3 (.int .i64) x5.2.2.2.2.2]) h (fun K h=>?_) (fun QR se h=>?_))
    ·refine al (sr (mq ?_));refine dx rfl (bv (t:=(.int .i64)) [(.const (.int .i64 (0)),_),(.const (.int .i64 (0)),_),(.const (.int .i64 (1)),_),(.const (.int .i64 (2)),_)] [0,0,1,2] rfl rfl eo (.cons rfl .int (.cons rfl .int (.cons rfl .int (.cons rfl .int .nil)))) rfl rfl) ⟨rfl,rfl,rfl,rfl,trivial⟩ ?_;obtain⟨QE,RE,h⟩:=aa h;refine kb (ak [.tmp 112,.tmp 113] rfl rfl FR rfl (io k (u.1,u.2.1,u.2.2.1) c [0,0,1,2] QE RE)) ?_;iterate 2 refine mq ?_
     obtain⟨QK,RD,h⟩:=aa h;refine kb (ak [.tmp 116,.const (.int .i64 (4))] rfl rfl Bv rfl (dY k (QE.2.1,QE.2.2.1,QE.2.2.2) c 4 QK RD)) ?_;refine dx rfl (bv (t:=(.int .i64)) [(.const (.int .i64 (0)),_),(.const (.int .i64 (0)),_),(.const (.int .i64 (1)),_),(.tmp 117,_)] [0,0,1,QK.1] rfl rfl eo (.cons rfl .int (.cons rfl .int (.cons rfl .int (.cons rfl .int .nil)))) rfl rfl) ⟨rfl,rfl,rfl,rfl,trivial⟩ ?_;obtain⟨QD,RB,h⟩:=aa h;refine kb (ak [.tmp 115,.tmp 118] rfl rfl FR rfl (io k (QK.2.1,QK.2.2.1,QK.2.2.2) c [0,0,1,QK.1] QD RB)) ?_;refine jb (cR [(1,.tmp 114,_),(2,.tmp 119,_)] rfl JR rS EH (iF ⟨rfl,rfl,trivial⟩) rfl) ?_;refine aA rfl rfl rfl (aF rfl rS xz) trivial fun QP=>?_;refine aK rfl rfl (aE rfl eI trivial rfl rfl) ⟨rfl,rfl,trivial⟩ ?_;refine nt (ay (Z:=Value) (α:=(List Int)×Int×Int×(List Int)) (fun QX ac=>[(0,Pt c),(2,Pt b1),(3,Pt b2),(4,I r3.1),(9,I u.2.2.2.2),(10,Pt QP)]) (fun QX ac=>[.obj c 64 (.agg (.pair (Ri ac.1) (.pair (I ac.2.1) (.eq (.int .u64 ac.2.2.1))))),.obj b1 26 N4,.obj b2 26 (.agg (.pair (.eq z6.1) (.pair (.eq X) (.pair (.eq z6.2.1) (.eq z6.2.2))))),.sl z6.1 45 aJ x5.2.2.2.1,.sl X 47 aw u.2.2.2.1,.sl z6.2.1 3 (.int .i64) x5.2.2.2.2.1,.sl z6.2.2 3 (.int .i64) x5.2.2.2.2.2,.obj QP 47 (.agg (.pair (.eq QX) (.pair (I QE.1) (I QD.1)))),.sl QX 3 (.int .i64) ac.2.2.2]) h (fun K h=>?_) (fun QX ac h=>?_))
     ·refine sr (cq (nt (al ?_)));refine eL (SE.nil 3 (.int .i64)) ?_;refine aD (fun QJ D=>[(0,Pt c),(2,Pt b1),(3,Pt b2),(4,I r3.1),(9,I u.2.2.2.2),(10,Pt QP),(11,I D.2.2.2.2)]) (fun QJ D=>[.obj c 64 (.agg (.pair (Ri D.1) (.pair (I D.2.1) (.eq (.int .u64 D.2.2.1))))),.obj b1 26 N4,.obj b2 26 (.agg (.pair (.eq z6.1) (.pair (.eq X) (.pair (.eq z6.2.1) (.eq z6.2.2))))),.sl z6.1 45 aJ x5.2.2.2.1,.sl X 47 aw u.2.2.2.1,.sl z6.2.1 3 (.int .i64) x5.2.2.2.2.1,.sl z6.2.2 3 (.int .i64) x5.2.2.2.2.2,.obj QP 47 (.agg (.pair (.eq QJ) (.pair (I QE.1) (I QD.1)))),.sl QJ 3 (.int .i64) D.2.2.2.1]) (fm k r3) k (.slice none 0 0) (QD.2.1,QD.2.2.1,QD.2.2.2,([]:(List Int)),0) (fun _=>rfl) h (SE.fin [2,3,4,5,6,7,8,1,0] ⟨rfl,rfl,rfl,rfl,rfl,rfl,rfl,trivial⟩ rfl) (fun n QJ D h=>?_);unfold fm at h;refine aj (sr ?_);iterate 2 refine mq ?_
      refine jb (ba rfl) ?_;refine nt (ci h (fun h=>?_) (fun h=>?_))
      ·refine sk (ay (Z:=Value) (α:=(List Int)×Int×Int×(List Int)) (fun QQ mc=>[(0,Pt c),(2,Pt b1),(3,Pt b2),(4,I r3.1),(9,I u.2.2.2.2),(10,Pt QP),(11,I D.2.2.2.2)]) (fun QQ mc=>[.obj c 64 (.agg (.pair (Ri mc.1) (.pair (I mc.2.1) (.eq (.int .u64 mc.2.2.1))))),.obj b1 26 N4,.obj b2 26 (.agg (.pair (.eq z6.1) (.pair (.eq X) (.pair (.eq z6.2.1) (.eq z6.2.2))))),.sl z6.1 45 aJ x5.2.2.2.1,.sl X 47 aw u.2.2.2.1,.sl z6.2.1 3 (.int .i64) x5.2.2.2.2.1,.sl z6.2.2 3 (.int .i64) x5.2.2.2.2.2,.obj QP 47 (.agg (.pair (.eq QQ) (.pair (I QE.1) (I QD.1)))),.sl QQ 3 (.int .i64) mc.2.2.2]) h (fun K h=>?_) (fun QQ mc h=>?_))
       ·refine al (sr (mq ?_));obtain⟨QH,RA,h⟩:=aa h;refine kb (ak [.tmp 126,.const (.int .i64 (4))] rfl rfl KT rfl (jL k (D.1,D.2.1,D.2.2.1) c 4 QH RA)) ?_;refine ja (eE rfl) ?_;refine nt (cw h (fun h=>?_) (fun h=>?_))
        ·refine ah (fl eU ?_);refine fr 7 ?_;refine lo bR ?_;refine mq ?_;refine ja (bv (t:=(.int .i64)) [(.tmp 131,_)] [D.2.2.2.2] rfl rfl eo (.cons rfl .int .nil) rfl rfl) ?_;obtain⟨S8,Ro,h⟩:=aa h;refine fr 8 ?_;refine dE rfl rfl rfl (bI rfl rfl eo (av Ro)) ⟨rfl,rfl,trivial⟩ fun R2=>?_;refine fl eU ?_;refine fV fun o72=>?_;refine fr 1 ?_;refine aK rfl rfl (aE rfl bR o72 rfl rfl) ⟨rfl,rfl,trivial⟩ ?_;refine aT (bn ?_);exact jz (R2,(QH.2.1,QH.2.2.1,QH.2.2.2,D.2.2.2.1++[D.2.2.2.2])) h [2,3,4,5,6,7,8,0,1]
        ·refine aU (bn ?_);exact jz (QJ,(QH.2.1,QH.2.2.1,QH.2.2.2,D.2.2.2.1)) h [0,1,2,3,4,5,6,7,8]
       ·refine ah (mq ?_);obtain⟨RX,Rk,h⟩:=aa h;refine jb (bh rfl Rk) ?_;refine aq (nl ?_);exact jz (QQ,(mc.1,mc.2.1,mc.2.2.1,mc.2.2.2,RX)) h [0,1,2,3,4,5,6,7,8]
      ·refine xa ?_;exact jz (QJ,(D.1,D.2.1,D.2.2.1,D.2.2.2.1)) h [0,1,2,3,4,5,6,7,8]
     ·refine ah (fl bA ?_);refine fr 2 ?_;refine lo eu ?_;refine fr 7 ?_;refine fr 8 ?_;refine eX (cD (off:=0) [] trivial rfl rfl) ?_;refine lo eI ?_;refine ja (bv (t:=aw) [(.tmp 137,_)] [(ac.2.2.2,QE.1,QD.1)] rfl rfl wa (.cons trivial (.agg (.pair .rep (.pair .int .int))) .nil) rfl rfl) ?_;obtain⟨S7,Rn,h⟩:=aa h;refine fr 5 ?_;refine dE rfl rfl rfl (bI rfl rfl wa (av Rn)) ⟨rfl,rfl,trivial⟩ fun R1=>?_;refine fl bA ?_;refine fV fun o76=>?_;refine fr 2 ?_;refine aK rfl rfl (aE rfl eu o76 rfl rfl) ⟨rfl,rfl,trivial⟩ ?_;refine aT (bn ?_);exact jz (R1,(ac.1,ac.2.1,ac.2.2.1,u.2.2.2.1++[(ac.2.2.2,QE.1,QD.1)])) h [3,4,0,5,1,6,7]
    ·refine ah (mq ?_);obtain⟨RV,Rj,h⟩:=aa h;refine jb (g7 rfl Rj) ?_;refine aq (nl ?_);exact jz (QR,(se.1,se.2.1,se.2.2.1,se.2.2.2,RV)) h [0,1,2,3,4,5,6]
   ·refine xa ?_;exact jz (X,(u.1,u.2.1,u.2.2.1,u.2.2.2.1)) h [0,1,2,3,4,5,6]
  ·refine ay (Z:=Unit) (α:=(List bp)×(List ax)×(List Int)×(List Int)×(List Int)×Int×Int) (fun Q7 y=>[(2,Pt b1),(3,Pt b2)]) (fun Q7 y=>[.obj b1 26 N4,.obj b2 26 (.agg (.pair (Rs aJ y.1) (.pair (Rs aw y.2.1) (.pair (Ri y.2.2.1) (Ri y.2.2.2.1))))),.obj c 64 (.agg (.pair (Ri y.2.2.2.2.1) (.pair (I y.2.2.2.2.2.1) (.eq (.int .u64 y.2.2.2.2.2.2)))))]) h (fun K h=>?_) (fun Q7 y h=>?_)
   ·refine al (ef 2 rfl ?_);refine ef 3 rfl ?_;refine eL (cD (off:=0) [] trivial rfl rfl) ?_;refine ef 3 rfl ?_;refine eL (cD (off:=1) [] trivial rfl rfl) ?_;refine ef 3 rfl ?_;refine eL (cD (off:=2) [] trivial rfl rfl) ?_;refine ef 3 rfl ?_;refine eL (cD (off:=3) [] trivial rfl rfl) ?_;refine aD (fun Q6 e=>[(0,Pt c),(2,Pt b1),(3,Pt b2)]) (fun Q6 e=>[.obj c 64 (.agg (.pair (Ri e.1) (.pair (I e.2.1) (.eq (.int .u64 e.2.2.1))))),.obj b1 26 N4,.obj b2 26 (Qc e.2.2.2)]) (bU k) k () (QA.1,QA.2.1,QA.2.2.1,x5.2.2.2.1,QA.2.2.2,x5.2.2.2.2.1,x5.2.2.2.2.2) (fun _=>rfl) h (SE.fin [1,2,0] ⟨rfl,rfl,rfl,trivial⟩ rfl) (fun n Q6 e h=>?_);unfold bU at h;refine aj (sr (fr 2 ?_));refine lo bL ?_;obtain⟨Sj,Rz,h⟩:=aa h;refine ja (gJ (N:=[(.tmp 141,.agg (.pair (Rs aJ e.2.2.2.1) (.pair (Rs aw e.2.2.2.2.1) (.pair (Ri e.2.2.2.2.2.1) (Ri e.2.2.2.2.2.2)))))]) (ak [.tmp 141] rfl rfl PR rfl (wO k (e.2.2.2.1,e.2.2.2.2.1,e.2.2.2.2.2.1,e.2.2.2.2.2.2) Sj Rz)) fun _ _ _ hn=>⟨(fe (t:=ag) (x:=(e.2.2.2.1,e.2.2.2.2.1,e.2.2.2.2.2.1,e.2.2.2.2.2.2)) (.agg (.pair .rep (.pair .rep (.pair .rep .rep)))) trivial rfl hn.1),trivial⟩) ?_;refine ol uX ?_;refine jb (ik rfl) ?_;refine nt (ci h (fun h=>?_) (fun h=>?_))
    ·refine sk (al (ay (Z:=Unit) (α:=(List Int)×Int×Int×Bool) (fun Q5 Q=>[(0,Pt c),(2,Pt b1),(3,Pt b2),(152,.eq (.bool Q.2.2.2))]) (fun Q5 Q=>[.obj c 64 (.agg (.pair (Ri Q.1) (.pair (I Q.2.1) (.eq (.int .u64 Q.2.2.1))))),.obj b1 26 N4,.obj b2 26 (Qc e.2.2.2)]) h (fun K h=>?_) (fun Q5 Q h=>?_)))
     ·refine ah (fl eV ?_);refine lo bR ?_;refine ol jt ?_;refine jb (ik rfl) ?_;refine mq ?_;refine aM (s:=149) rfl (fun hb=>?_) (fun hb=>?_)
      ·replace h:=bY (oQ hb) h;refine gm ?_;obtain⟨QT,Ry,h⟩:=aa h;refine fr 1 ?_;refine bO rfl rfl rfl rfl rfl rfl (ak [.tmp 150,.const (.int .i64 (2))] rfl rfl KT rfl (jL k (e.1,e.2.1,e.2.2.1) c 2 QT Ry)) ⟨rfl,rfl,trivial⟩ ?_;refine pt (nl ?_);exact jz ((),(QT.2.1,QT.2.2.1,QT.2.2.2,QT.1)) h [0,2,1]
      ·replace h:=bj (oR hb) h;iterate 2 refine gn ?_
       refine pf (nl ?_);exact jz ((),(e.1,e.2.1,e.2.2.1,false)) h [1,2,0]
     ·refine cv h (fun h=>?_) (fun h=>?_)
      ·refine ah (fl eV ?_);refine fr 2 ?_;refine lo bR ?_;refine fl eV ?_;refine lo bR ?_;refine ol jt ?_;obtain⟨RU,Rh,h⟩:=aa h;refine jb (g7 rfl Rh) ?_;obtain⟨SZ,Q3,h⟩:=aa h;refine jb (yw (t:=(.int .i64)) rfl jt cj (av Q3).1 (av Q3).2) ?_;refine fl eV ?_;refine aK rfl rfl (aE rfl bR rfl rfl rfl) ⟨rfl,rfl,trivial⟩ ?_;refine aT (bn ?_);exact jz ((),(Q.1,Q.2.1,Q.2.2.1,e.2.2.2.1,e.2.2.2.2.1,e.2.2.2.2.2.1,List.take (Int.toNat RU) e.2.2.2.2.2.2)) h [1,2,0]
      ·refine sr (fl fQ ?_);refine fr 2 ?_;refine lo bR ?_;refine ol jt ?_;refine jb (ik rfl) ?_;refine nt (ci h (fun h=>?_) (fun h=>?_))
       ·refine ah (fl fQ ?_);refine lo bR ?_;refine fl fQ ?_;refine lo bR ?_;refine ol jt ?_;obtain⟨RS,Rf,h⟩:=aa h;refine jb (g7 rfl Rf) ?_;obtain⟨SY,Q2,h⟩:=aa h;refine jb (yw (t:=(.int .i64)) rfl jt cj (av Q2).1 (av Q2).2) ?_;refine fl fQ ?_;refine aK rfl rfl (aE rfl bR rfl rfl rfl) ⟨rfl,rfl,trivial⟩ ?_;refine aT (bn ?_);exact jz ((),(Q.1,Q.2.1,Q.2.2.1,e.2.2.2.1,e.2.2.2.2.1,List.take (Int.toNat RS) e.2.2.2.2.2.1,e.2.2.2.2.2.2)) h [1,2,0]
       ·refine ah (fl eV ?_);refine aK rfl rfl (aE rfl bR rfl rfl rfl) ⟨rfl,rfl,trivial⟩ ?_;refine aT (bn (bC (mO (a:=.agg (.pair (Rs aJ e.2.2.2.1) (.pair (Rs aw e.2.2.2.2.1) (.pair (Ri e.2.2.2.2.2.1) (.eq (.slice none 0 0)))))) (a':=.agg (.pair (Rs aJ e.2.2.2.1) (.pair (Rs aw e.2.2.2.2.1) (.pair (Ri e.2.2.2.2.2.1) (Ri []))))) (AE.agg (AE.pair AE.rfl (AE.pair AE.rfl (AE.pair AE.rfl (sO .nil)))))) ?_));exact jz ((),(Q.1,Q.2.1,Q.2.2.1,e.2.2.2.1,e.2.2.2.2.1,e.2.2.2.2.2.1,[])) h [1,2,0]
    ·refine xa ?_;exact jz ((),(e.2.2.2.1,e.2.2.2.2.1,e.2.2.2.2.2.1,e.2.2.2.2.2.2,e.1,e.2.1,e.2.2.1)) h [2,0,1]
   ·refine sr (fr 1 ?_);refine lo bL ?_;refine fr 1 ?_;refine aK rfl rfl (aE rfl bL trivial rfl rfl) ⟨rfl,rfl,trivial⟩ ?_;refine nt (aG (bC (mO (a:=.agg (.pair (Rs aJ y.1) (.pair (Rs aw y.2.1) (.pair (Ri y.2.2.1) (Ri y.2.2.2.1))))) (a':=.rep ag (y.1,y.2.1,y.2.2.1,y.2.2.2.1)) (sO (.agg (.pair .rep (.pair .rep (.pair .rep .rep)))))) ?_));refine bC (SE.fin (Γ':=[(2,_)]) [2,0,1] ⟨rfl,trivial⟩ rfl) ?_;cases h;exact aZ () [.rep ag (y.1,y.2.1,y.2.2.1,y.2.2.2.1)] 1 ⟨⟨_,_,_,_,_,rfl,(.tail _ (.head _)),bL,(sn),rfl⟩,trivial⟩ rfl
def oG(k:Nat)(a0:ae)(a1:cr):Option ((List ae)×cr):=
 (jM k (a1.1,a1.2.1,a1.2.2)).bind fun r2=>
 (fP k r2.1).bind fun r4=>
 (((cy k (r2.2.1,r2.2.2.1,r2.2.2.2) 2).bind fun r9=>
 if r9.1=0 then((dq k a0.2.2.2).bind fun u=>
 some (r4.1,r4.2.1,u,r9.2.1,r9.2.2.1,r9.2.2.2)) else(if r9.1=1 then(if 0 < (a0.1.length:Int) then((ck ((r4.1.length:Int) - 1)).bind fun n=>
 (cy k (r9.2.1,r9.2.2.1,r9.2.2.2) n).bind fun e=>
 (fk k a0).bind fun s=>
 (aL s.1 0).bind fun l=>
 (aL r4.1 e.1).bind fun y=>
 some (List.set r4.1 (Int.toNat e.1) l,r4.2.1,r4.2.2.2,e.2.1,e.2.2.1,e.2.2.2)) else(some (r4.1,r4.2.1,r4.2.2.2,r9.2.1,r9.2.2.1,r9.2.2.2))) else(if r9.1=2 then(if 0 < (a0.2.1.length:Int) then((ck ((r4.2.1.length:Int) - 1)).bind fun j=>
 (cy k (r9.2.1,r9.2.2.1,r9.2.2.2) j).bind fun c=>
 (fk k a0).bind fun r=>
 (aL r.2.1 0).bind fun h=>
 (aL r4.2.1 c.1).bind fun x=>
 some (r4.1,List.set r4.2.1 (Int.toNat c.1) h,r4.2.2.2,c.2.1,c.2.2.1,c.2.2.2)) else(some (r4.1,r4.2.1,r4.2.2.2,r9.2.1,r9.2.2.1,r9.2.2.2))) else(some (r4.1,r4.2.1,r4.2.2.2,r9.2.1,r9.2.2.1,r9.2.2.2))))):Option ((List bp)×(List ax)×(List Int)×(List Int)×Int×Int)).bind fun x7=>
 some ([a0,r2.1,(x7.1,x7.2.1,r4.2.2.1,x7.2.2.1),r2.1],(x7.2.2.2.1,x7.2.2.2.2.1,x7.2.2.2.2.2))
theorem Bc(k:Nat)(a0:ae)(a1:cr)(c:Nat)(r:(List ae)×cr)(h:oG k a0 a1=some r):
 bQ Tryz.prog 6 [.rep ag a0,Pt c] [.obj c 64 (.agg (.pair (Ri a1.1) (.pair (I a1.2.1) (.eq (.int .u64 a1.2.2)))))] (fun _:Unit=>(bG [Rs ag r.1],[.obj c 64 (.agg (.pair (Ri r.2.1) (.pair (I r.2.2.1) (.eq (.int .u64 r.2.2.2)))))])):=by
 unfold oG at h
 replace h:=bi h
 refine bQ.of 64 Tryz.func6 rfl Tryz.ntmps6 rfl fun S w0=>?_
 refine sr ?_
 refine bx fun b1=>?_
 refine cq ?_
 refine nt ?_
 refine sr ?_
 refine mq ?_
 obtain⟨r2,QC,h⟩:=aa h
 have QE:=vv k (a1.1,a1.2.1,a1.2.2) c r2 QC
 refine fr 1 ?_
 refine ka (ak [.tmp 7] rfl rfl PX rfl QE) ?_
 refine aA rfl rfl rfl (aF rfl oS rM) trivial fun b3=>?_
 refine aK rfl rfl (aE rfl bL rfl rfl rfl) ⟨rfl,rfl,trivial⟩ ?_
 refine nt ?_
 refine sr ?_
 refine lo bL ?_
 obtain⟨r4,QB,h⟩:=aa h
 have QD:=nO k r2.1 r4 QB
 refine be (Δ:=[]) (F:=_) (fun _ _ _=>az rfl _) rfl rfl (ak [.tmp 9] rfl rfl OQ rfl QD) ⟨rfl,trivial⟩ fun z5=>?_
 refine aA rfl rfl rfl (aF rfl oS rM) trivial fun b6=>?_
 refine aK rfl rfl (aE rfl bL trivial rfl rfl) ⟨rfl,rfl,trivial⟩ ?_
 refine nt ?_
 refine ay (Z:=Unit) (α:=(List bp)×(List ax)×(List Int)×(List Int)×Int×Int) (fun z8 x7=>[(2,Pt b1),(5,Pt b3),(6,Pt b6)]) (fun z8 x7=>[.obj b1 26 (.rep ag a0),.obj b3 26 (.rep ag r2.1),.obj b6 26 (.agg (.pair (.eq z5.1) (.pair (.eq z5.2) (.pair (Ri r4.2.2.1) (Ri x7.2.2.1))))),.sl z5.1 45 aJ x7.1,.sl z5.2 47 aw x7.2.1,.obj c 64 (.agg (.pair (Ri x7.2.2.2.1) (.pair (I x7.2.2.2.2.1) (.eq (.int .u64 x7.2.2.2.2.2)))))]) h (fun K h=>?_) (fun z8 x7 h=>?_)
 ·
  refine sr (mq ?_);obtain⟨r9,QA,h⟩:=aa h;refine fr 4 ?_;refine kb (ak [.tmp 11,.const (.int .i64 (2))] rfl rfl Bv rfl (dY k (r2.2.1,r2.2.2.1,r2.2.2.2) c 2 r9 QA)) ?_;refine nt (al (sr (jb (cM rfl) ?_)));refine aq (nt ?_);refine ci h (fun h=>?_) (fun h=>?_)
  ·refine ah (fl eV ?_);refine fr 5 ?_;refine lo bR ?_;obtain⟨s,Q,h⟩:=aa h;refine aA rfl rfl rfl (ak [.tmp 16] rfl rfl zR rfl (dH k a0.2.2.2 s Q)) ⟨rfl,trivial⟩ fun QH=>?_;refine fl eV ?_;refine fV fun o12=>?_;refine fr 3 ?_;refine aK rfl rfl (aE rfl bR o12 rfl rfl) ⟨rfl,rfl,trivial⟩ ?_;refine aT (bn (dn 1 rfl ?_));refine bC (cD (off:=3) [17] ⟨rfl,trivial⟩ rfl rfl) ?_;exact jz ((),(r4.1,r4.2.1,s,r9.2.1,r9.2.2.1,r9.2.2.2)) h [1,5,0,3,4,2]
  ·refine sr (jb (cM rfl) ?_);refine aq (nt ?_);refine ci h (fun h=>?_) (fun h=>?_)
   ·refine sr (fl bu ?_);refine fr 5 ?_;refine lo dM ?_;refine ol kU ?_;refine jb (ik rfl) ?_;refine nt (ci h (fun h=>?_) (fun h=>?_))
    ·refine a6 ?_;refine da (am rfl bu) ?_;refine ea 2 (ai rfl dM dF rfl) ?_;refine dm ?_;refine da (am rfl bu) ?_;refine ea 2 (ai rfl dM dF rfl) ?_;refine ea 3 (je rfl rfl kU) ?_;obtain⟨ac,D,h⟩:=aa h;refine db (g7 rfl D) ?_;obtain⟨j,O,h⟩:=aa h;refine EQ 1 rfl rfl rfl rfl (ak [.tmp 27,.tmp 31] rfl rfl Bv rfl (dY k (r9.2.1,r9.2.2.1,r9.2.2.2) c ac j O)) ⟨rfl,rfl,trivial⟩ ?_;refine ea 0 (ai rfl bL (sn) rfl) ?_;obtain⟨se,M,h⟩:=aa h;refine da (ak [.tmp 33] rfl rfl OQ rfl (ni k a0 se M)) ?_;refine da (D6 rfl Qp rfl dM (fun _=>rfl) rfl rfl rfl) ?_;obtain⟨Y,y,h⟩:=aa h;refine db (aC (t:=aJ) rfl kU eY y) ?_;refine da (ao (t:=aJ) rfl eY rfl) ?_;refine ER (Δ':=[.obj b1 26 (.rep ag a0),.obj b6 26 (.agg (.pair (.eq z5.1) (.pair (.eq z5.2) (.pair (Ri r4.2.2.1) (Ri r4.2.2.2))))),.sl z5.1 45 aJ r4.1,.sl z5.2 47 aw r4.2.1,.obj b3 26 (.rep ag r2.1),.obj c 64 (.agg (.pair (Ri j.2.1) (.pair (I j.2.2.1) (.eq (.int .u64 j.2.2.2)))))]) (by kernel_rfl) bw (by kernel_rfl) ?_;obtain⟨QG,n,h⟩:=aa h;refine fr 2 ?_;refine kb (bk (t:=aJ) rfl kU eY n) ?_;refine aK rfl rfl (gl (i:=Int.toNat j.1) rfl eY rfl (mJ n) rfl .rep rfl) ⟨rfl,rfl,trivial⟩ ?_;refine aT (bn ?_);exact jz ((),(List.set r4.1 (Int.toNat j.1) Y,r4.2.1,r4.2.2.2,j.2.1,j.2.2.1,j.2.2.2)) h [1,4,2,0,3,5]
    ·refine aU (bn ?_);exact jz ((),(r4.1,r4.2.1,r4.2.2.2,r9.2.1,r9.2.2.1,r9.2.2.2)) h [0,5,2,3,4,1]
   ·refine sr (jb (cM rfl) ?_);refine aq (nt ?_);refine ci h (fun h=>?_) (fun h=>?_)
    ·refine sr (fl bA ?_);refine fr 5 ?_;refine lo eu ?_;refine ol l8 ?_;refine jb (ik rfl) ?_;refine nt (ci h (fun h=>?_) (fun h=>?_))
     ·refine a6 ?_;refine da (am rfl bA) ?_;refine ea 2 (ai rfl eu dF rfl) ?_;refine dm ?_;refine da (am rfl bA) ?_;refine ea 2 (ai rfl eu dF rfl) ?_;refine ea 4 (je rfl rfl l8) ?_;obtain⟨X,x,h⟩:=aa h;refine db (g7 rfl x) ?_;obtain⟨e,J,h⟩:=aa h;refine EQ 1 rfl rfl rfl rfl (ak [.tmp 47,.tmp 51] rfl rfl Bv rfl (dY k (r9.2.1,r9.2.2.1,r9.2.2.2) c X e J)) ⟨rfl,rfl,trivial⟩ ?_;refine ea 0 (ai rfl bL (sn) rfl) ?_;obtain⟨mc,E,h⟩:=aa h;refine da (ak [.tmp 53] rfl rfl OQ rfl (ni k a0 mc E)) ?_;refine da (D6 rfl Qp rfl eu (fun _=>rfl) rfl rfl rfl) ?_;obtain⟨U,u,h⟩:=aa h;refine db (aC (t:=aw) rfl l8 eI u) ?_;refine da (ao (t:=aw) rfl eI rfl) ?_;refine ER (Δ':=[.obj b1 26 (.rep ag a0),.obj b6 26 (.agg (.pair (.eq z5.1) (.pair (.eq z5.2) (.pair (Ri r4.2.2.1) (Ri r4.2.2.2))))),.sl z5.1 45 aJ r4.1,.sl z5.2 47 aw r4.2.1,.obj b3 26 (.rep ag r2.1),.obj c 64 (.agg (.pair (Ri e.2.1) (.pair (I e.2.2.1) (.eq (.int .u64 e.2.2.2)))))]) (by kernel_rfl) bw (by kernel_rfl) ?_;obtain⟨QF,l,h⟩:=aa h;refine fr 3 ?_;refine kb (bk (t:=aw) rfl l8 eI l) ?_;refine aK rfl rfl (gl (i:=Int.toNat e.1) rfl eI rfl (mJ l) rfl .rep rfl) ⟨rfl,rfl,trivial⟩ ?_;refine aT (bn ?_);exact jz ((),(r4.1,List.set r4.2.1 (Int.toNat e.1) U,r4.2.2.2,e.2.1,e.2.2.1,e.2.2.2)) h [1,4,2,3,0,5]
     ·refine aU (bn ?_);exact jz ((),(r4.1,r4.2.1,r4.2.2.2,r9.2.1,r9.2.2.1,r9.2.2.2)) h [0,5,2,3,4,1]
    ·refine aU (bn ?_);exact jz ((),(r4.1,r4.2.1,r4.2.2.2,r9.2.1,r9.2.2.1,r9.2.2.2)) h [5,4,1,2,3,0]
 ·
  refine sr (lo bL ?_);refine fr 1 ?_;refine lo bL ?_;refine fr 2 ?_;refine fr 3 ?_;refine eX (cD (off:=0) [] trivial rfl rfl) ?_;refine fr 3 ?_;refine eX (cD (off:=1) [] trivial rfl rfl) ?_;refine lo bL ?_;refine fr 1 ?_;refine lo bL ?_;refine dx rfl (bv (t:=ag) [(.tmp 59,_),(.tmp 60,_),(.tmp 61,_),(.tmp 62,_)] [a0,r2.1,(x7.1,x7.2.1,r4.2.2.1,x7.2.2.1),r2.1] rfl rfl NV (.cons rfl .rep (.cons rfl .rep (.cons trivial (.agg (.pair .rep (.pair .rep (.pair .rep .rep)))) (.cons rfl .rep .nil)))) rfl rfl) ⟨rfl,rfl,rfl,rfl,trivial⟩ ?_;refine aq (nt (aG ?_));refine bC (SE.fin (Γ':=[(4,_)]) [3,0,1,2] ⟨rfl,trivial⟩ rfl) ?_;cases h;exact aZ () [_] 1 ⟨rfl,trivial⟩ rfl
def nN(k:Nat)(a0:(List Int)):Option cr:=
 some (a0,0,1)
theorem wP(k:Nat)(a0:(List Int))(r:cr)(h:nN k a0=some r):
 bQ Tryz.prog 7 [Ri a0] [] (fun z:Nat=>(bG [Pt z],[.obj z 64 (.agg (.pair (Ri r.1) (.pair (I r.2.1) (.eq (.int .u64 r.2.2)))))])):=by
 unfold nN at h
 replace h:=bi h
 refine bQ.of 6 Tryz.func7 rfl Tryz.ntmps7 rfl fun S w0=>?_
 refine sr ?_
 refine cq ?_
 refine nt ?_
 refine sr ?_
 refine mq ?_
 refine jb (cR [(0,.tmp 3,_),(2,.const (.int .u64 (1)),_)] rfl OZ OU Oy (iF ⟨rfl,rfl,trivial⟩) rfl) ?_
 refine aA rfl rfl rfl (D8 rfl trivial) ⟨rfl,trivial⟩ fun b1=>?_
 refine aq ?_
 refine nt ?_
 refine aG ?_
 cases h
 exact aZ b1 [Pt b1] 1 ⟨rfl,trivial⟩ rfl
def bW(k:Nat)(a0:fp)(a1:Int):Option (Int×Bool):=
 (bS k a0.1.2.1).bind fun r3=>
 (aL r3 a1).bind fun x6=>
 (f6 k ((a0.1.1,List.set r3 (Int.toNat a1) ([],x6.2.1,x6.2.2),a0.1.2.2),a0.2.1,a0.2.2.1)).bind fun r8=>
 some (r8.2.1,r8.2.2)
theorem qF(k:Nat)(a0:fp)(a1:Int)(r:Int×Bool)(h:bW k a0 a1=some r):
 bQ Tryz.prog 33 [.at di a0,I a1] [] (fun _:Unit=>(bG [I r.1,.eq (.bool r.2)],[])):=by
 unfold bW at h
 replace h:=bi h
 refine bQ.of 54 Tryz.func33 rfl Tryz.ntmps33 rfl fun S w0=>?_
 refine sr ?_
 refine cq ?_
 refine cq ?_
 refine nt ?_
 refine aj ?_
 refine i8 ?_
 refine aP rfl rfl rfl (bg rfl) ⟨rfl,trivial⟩ ?_
 refine aP rfl rfl rfl (j9 rfl) ⟨rfl,trivial⟩ ?_
 refine aP rfl rfl rfl (a8 4 true rfl eT rfl) ⟨rfl,trivial⟩ ?_
 refine aP rfl rfl rfl (ao (t:=ag) rfl bL rfl) ⟨rfl,trivial⟩ ?_
 refine aP rfl rfl rfl (bg rfl) ⟨rfl,trivial⟩ ?_
 refine aP rfl rfl rfl (j9 rfl) ⟨rfl,trivial⟩ ?_
 refine aP rfl rfl rfl (a8 1 false rfl jX rfl) ⟨rfl,trivial⟩ ?_
 refine aP rfl rfl rfl (ao (t:=(.slice (.tag 104 115))) rfl rF rfl) ⟨rfl,trivial⟩ ?_
 refine aP rfl rfl rfl (bg rfl) ⟨rfl,trivial⟩ ?_
 refine aP rfl rfl rfl (j9 rfl) ⟨rfl,trivial⟩ ?_
 refine aP rfl rfl rfl (a8 8 true rfl uK rfl) ⟨rfl,trivial⟩ ?_
 refine aP rfl rfl rfl (ao (t:=(.arr 8 (.int .u8))) rfl OW rfl) ⟨rfl,trivial⟩ ?_
 refine kx MX (fun _=>rfl) rfl rfl rfl (yx rfl) trivial ?_
 refine mA 13 [true,true,true,true,true,true,true,true,true,true,true,true,true] [6,23,24] [] [] rfl (by kernel_rfl) (by kernel_rfl) (by kernel_rfl) bw (fun vs hv hB=>?_)
 obtain⟨w0,QM,rfl,O⟩:=ar hv
 obtain⟨w1,QL,rfl,M⟩:=ar O
 obtain⟨w2,QK,rfl,J⟩:=ar M
 obtain⟨w3,QJ,rfl,E⟩:=ar J
 obtain⟨w4,QH,rfl,D⟩:=ar E
 obtain⟨w5,QG,rfl,y⟩:=ar D
 obtain⟨w6,QF,rfl,x⟩:=ar y
 obtain⟨w7,QE,rfl,u⟩:=ar x
 obtain⟨w8,QD,rfl,s⟩:=ar u
 obtain⟨w9,se,rfl,n⟩:=ar s
 obtain⟨QC,mc,rfl,l⟩:=ar n
 obtain⟨QB,ac,rfl,j⟩:=ar l
 obtain⟨QA,Z,rfl,e⟩:=ar j
 obtain rfl:=kp e
 obtain⟨z1,rfl⟩:=MW hB.2.2.2.2.2.2.2.2.2.2.2.2.1
 refine⟨[0],[.raw z1 (.map #[] 0)],by kernel_rfl,by decide,?_⟩
 refine uZ rfl rfl rfl rfl (cR [(0,.tmp 13,_),(1,.tmp 17,_),(2,.tmp 21,_),(3,.tmp 22,_)] rfl NX NK LV (iF ⟨rfl,rfl,rfl,rfl,trivial⟩) rfl) ⟨rfl,rfl,rfl,rfl,trivial⟩ (by kernel_rfl) ?_
 refine Ny rfl rfl rfl rfl (D8 rfl trivial) ⟨rfl,trivial⟩ (by kernel_rfl) fun b2=>?_
 refine uZ rfl rfl rfl rfl (il rfl) ⟨rfl,trivial⟩ (by kernel_rfl) ?_
 refine sN ?_
 refine bC (SE.fin (Γ':=[(0,.at di a0),(1,I a1),(6,Pt b2)]) (Δ':=[.obj b2 80 (.agg (.pair (.rep ag a0.1) (.pair (.rep (.slice (.tag 104 115)) a0.2.1) (.pair (.rep (.arr 8 (.int .u8)) a0.2.2.1) (.eq (.map (some z1))))))),.raw z1 (.map #[] 0)]) [0,1] ⟨rfl,rfl,rfl,trivial⟩ rfl) ?_
 refine tn ?_
 refine sr ?_
 iterate 2 refine mq ?_
 refine ja (j9 rfl) ?_
 refine ja (a8 4 true rfl eT rfl) ?_
 refine ja (a8 1 false rfl bA rfl) ?_
 refine ja (ao (t:=(.slice aw)) rfl eu rfl) ?_
 obtain⟨r3,U,h⟩:=aa h
 have Y:=f8 k a0.1.2.1 r3 U
 refine aA rfl rfl rfl (ak [.tmp 30] rfl rfl KV rfl Y) ⟨rfl,trivial⟩ fun v4=>?_
 refine ja (aN rfl) ?_
 refine fl eT ?_
 refine fl bA ?_
 refine fV fun o5=>?_
 refine fr 1 ?_
 refine aK rfl rfl (aE rfl eu o5 rfl rfl) ⟨rfl,rfl,trivial⟩ ?_
 refine nt ?_
 refine sr ?_
 refine mq ?_
 refine ja (aN rfl) ?_
 refine fl eT ?_
 refine fl bA ?_
 refine lo eu ?_
 refine mq ?_
 obtain⟨x6,c,h⟩:=aa h
 refine fr 1 ?_
 refine kb (bk (t:=aw) rfl l8 eI c) ?_
 refine ka (kC rfl eU (pp c)) ?_
 refine aK rfl rfl (nb (i:=Int.toNat a1) (off:=0) rfl bR rfl (bP c).2.2 .nil rfl (.agg (.left .whole))) ⟨rfl,rfl,trivial⟩ ?_
 refine nt ?_
 refine sr ?_
 refine mq ?_
 refine aA rfl rfl rfl (ak [.tmp 44] rfl rfl vy rfl (bN b2)) ⟨rfl,trivial⟩ fun b7=>?_
 refine mq ?_
 refine ja (jU [.tmp 46] [] [(Pv b2)] [] rfl rfl rfl) ?_
 refine fr 2 ?_
 refine fr 2 ?_
 refine eX (cD (off:=1) [31,39] ⟨rfl,rfl,trivial⟩ rfl rfl) ?_
 refine eX (mO (a:=.agg (.pair (.agg (.pair (Rs aJ a0.1.1) (.pair (Rs aw (List.set r3 (Int.toNat a1) ([],x6.2.1,x6.2.2))) (.rep (.pair (.slice (.int .i64)) (.slice (.int .i64))) a0.1.2.2)))) (.pair (.rep (.slice (.tag 104 115)) a0.2.1) (.pair (.rep (.arr 8 (.int .u8)) a0.2.2.1) (.eq (.map (some z1))))))) (a':=.agg (.pair (.agg (.pair (Rs aJ a0.1.1) (.pair (Rs aw (List.set r3 (Int.toNat a1) ([],x6.2.1,x6.2.2))) (.pair (Ri a0.1.2.2.1) (Ri a0.1.2.2.2))))) (.pair (.rep (.slice (.tag 104 115)) a0.2.1) (.pair (.rep (.arr 8 (.int .u8)) a0.2.2.1) (.eq (.map (some z1))))))) (AE.agg (AE.pair (AE.agg (AE.pair AE.rfl (AE.pair AE.rfl ua))) AE.rfl))) ?_
 refine fr 2 ?_
 refine eX (jS (bJ k ((a0.1.1,List.set r3 (Int.toNat a1) ([],x6.2.1,x6.2.2),a0.1.2.2),a0.2.1,a0.2.2.1)) kM) ?_
 obtain⟨r8,Q,h⟩:=aa h
 have X:=gy k ((a0.1.1,List.set r3 (Int.toNat a1) ([],x6.2.1,x6.2.2),a0.1.2.2),a0.2.1,a0.2.2.1) b2 z1 b7 r8 Q
 refine fr 2 ?_
 refine fr 1 ?_
 refine fr 2 ?_
 refine be (Δ:=[_,_,_]) (F:=_) (fun _ _ _=>az rfl _) rfl rfl (ak [.tmp 45,.tmp 47] rfl rfl Bt rfl X) ⟨rfl,rfl,trivial⟩ fun _=>?_
 refine mq ?_
 refine xr ?_
 refine xr ?_
 refine xr ?_
 refine aq ?_
 refine aq ?_
 refine aq ?_
 refine nt ?_
 refine sr ?_
 iterate 2 refine mq ?_
 refine aq ?_
 refine aq ?_
 refine nt ?_
 refine aG ?_
 cases h
 exact rb
def dy(k:Nat)(a0:Int)(a1:Int)(a2:Int):Option Bool:=
 ((if a1≤a0 then(some (decide (a0≤a2))) else(some false)):Option (Bool)).bind fun x1=>
 some x1
theorem ep(k:Nat)(a0:Int)(a1:Int)(a2:Int)(r:Bool)(h:dy k a0 a1 a2=some r):
 bQ Tryz.prog 42 [I a0,I a1,I a2] [] (fun _:Unit=>(bG [.eq (.bool r)],[])):=by
 unfold dy at h
 replace h:=bi h
 refine bQ.of 15 Tryz.func42 rfl Tryz.ntmps42 rfl fun S w0=>?_
 refine sr ?_
 refine cq ?_
 refine nt ?_
 refine ay (Z:=Unit) (α:=Bool) (fun z2 x1=>[(6,.eq (.bool x1))]) (fun z2 x1=>[]) h (fun K h=>?_) (fun z2 x1 h=>?_)
 ·
  refine ah ?_;iterate 2 refine mq ?_
  refine jb (mE rfl) ?_;refine mq ?_;refine aM (s:=10) rfl (fun hb=>?_) (fun hb=>?_)
  ·replace h:=bY (oQ hb) h;refine gm ?_;refine gm ?_;refine gb (qj rfl) ?_;refine pt ?_;refine aq (nl ?_);exact jz ((),decide (a0≤a2)) h []
  ·replace h:=bj (oR hb) h;iterate 3 refine gn ?_
   refine pf ?_;refine aq (nl ?_);exact jz ((),false) h []
 ·
  refine aG ?_;cases h;exact ra
def mR(k:Nat)(a0:Int)(a1:Int):Option Int:=
 if a0=0 then(some 7) else(if a1 < a0 then(some 6) else(some 0))
theorem sZ(k:Nat)(a0:Int)(a1:Int)(r:Int)(h:mR k a0 a1=some r):
 bQ Tryz.prog 81 [I a0,I a1] [] (fun _:Unit=>(bG [I r],[])):=by
 unfold mR at h
 replace h:=bi h
 refine bQ.of 10 Tryz.func81 rfl Tryz.ntmps81 rfl fun S w0=>?_
 refine sr ?_
 refine cq ?_
 refine nt ?_
 refine aj ?_
 refine sr ?_
 refine mq ?_
 refine jb (cM rfl) ?_
 refine nt ?_
 refine ci h (fun h=>?_) (fun h=>?_)
 ·
  refine sr (cq (nt (rx ?_)));cases h;exact ra
 ·
  refine sk (aj (sr ?_));iterate 2 refine mq ?_
  refine jb (ik rfl) ?_;refine nt (ci h (fun h=>?_) (fun h=>?_))
  ·refine sr (cq (nt (rx ?_)));cases h;exact ra
  ·refine sk (sr (cq (nt (aG ?_))));cases h;exact ra
def gQ(k:Nat)(a0:ae)(a1:(List Int))(a2:Int):Nat→Int→Option (Except Int Unit)
 |0,_=>none
 |n+1,y4=>
  if y4 < (a1.length:Int) then((((aL a1 y4).bind fun x8=>
  (ck ((a0.1.length:Int) - 1)).bind fun x9=>
  (dy k x8 0 x9).bind fun s=>
  if¬(s=true) then(some true) else((aL a1 y4).bind fun r=>
  some (decide (r=a2)))):Option (Bool)).bind fun x6=>
  if x6=true then(some (.error 3)) else(((if 0 < y4 then((aL a1 y4).bind fun j=>
  (ck (y4 - 1)).bind fun h=>
  (aL a1 h).bind fun e=>
  some (decide (j≤e))) else(some false)):Option (Bool)).bind fun l=>
  if l=true then(some (.error 5)) else((ck (y4+1)).bind fun c=>
  gQ k a0 a1 a2 n c))) else(some (.ok ()))
def ju(k:Nat)(a0:ae)(a1:(List Int))(a2:Int):Option Int:=
 bE (α:=Unit) (gQ k a0 a1 a2 k 0) (some) fun _=>
 some 0
theorem lZ(k:Nat)(a0:ae)(a1:(List Int))(a2:Int)(r:Int)(h:ju k a0 a1 a2=some r):
 bQ Tryz.prog 82 [.rep ag a0,Ri a1,I a2] [] (fun _:Unit=>(bG [I r],[])):=by
 unfold ju at h
 replace h:=bi h
 refine bQ.of 46 Tryz.func82 rfl Tryz.ntmps82 rfl fun S w0=>?_
 refine sr ?_
 refine bx fun b1=>?_
 refine cq ?_
 refine nt ?_
 refine cE (Z:=Unit) (α:=Unit) (fun z3 x2=>[]) (fun z3 x2=>[]) (fun e=>e=r) h (fun e h=>Option.some.inj h) (fun K hR h=>?_) (fun z3 x2 h=>?_)
 ·
  refine sr (cq (nt (al ?_)));refine aD (fun z5 y4=>[(1,Ri a1),(2,I a2),(3,Pt b1),(7,I y4)]) (fun z5 y4=>[.obj b1 26 (.rep ag a0)]) (gQ k a0 a1 a2) k () 0 (fun _=>rfl) h (SE.fin [0] ⟨rfl,rfl,rfl,rfl,trivial⟩ rfl) (fun n z5 y4 h=>?_);unfold gQ at h;refine aj (sr ?_);iterate 2 refine mq ?_
  refine ol jt ?_;refine jb (ba rfl) ?_;refine nt (ci h (fun h=>?_) (fun h=>?_))
  ·refine sk (aj (al (aj (ay (Z:=Unit) (α:=Bool) (fun z7 x6=>[(1,Ri a1),(2,I a2),(3,Pt b1),(7,I y4),(31,.eq (.bool x6))]) (fun z7 x6=>[.obj b1 26 (.rep ag a0)]) h (fun K h=>?_) (fun z7 x6 h=>?_)))))
   ·refine a6 ?_;refine dm ?_;refine dm ?_;obtain⟨x8,U,h⟩:=aa h;refine db (aC (t:=(.int .i64)) rfl jt cj U) ?_;refine da (ao (t:=(.int .i64)) rfl cj rfl) ?_;refine da (am rfl bu) ?_;refine ea 0 (ai rfl dM dF rfl) ?_;refine da (mD rfl rfl kU) ?_;obtain⟨x9,Q,h⟩:=aa h;refine db (g7 rfl Q) ?_;obtain⟨O,D,h⟩:=aa h;refine dc (ak [.tmp 17,.const (.int .i64 (0)),.tmp 21] rfl rfl yg rfl (ep k x8 0 x9 O D)) ?_;refine da (eE rfl) ?_;refine l9 rfl rfl rfl (bg rfl) ⟨rfl,trivial⟩ (fun hb=>?_) (fun hb=>?_)
    ·replace h:=bY (uu hb) h;iterate 5 refine dg ?_
     refine df bw ?_;refine gn ?_;refine pt (nl ?_);exact jz ((),true) h [0]
    ·replace h:=bj (ox hb) h;refine bm rfl rfl rfl rfl rfl (bg rfl) ⟨rfl,rfl,trivial⟩ ?_;refine bm rfl rfl rfl rfl rfl (bg rfl) ⟨rfl,rfl,trivial⟩ ?_;obtain⟨M,y,h⟩:=aa h;refine bm rfl rfl rfl rfl rfl (aC (t:=(.int .i64)) rfl jt cj y) ⟨rfl,rfl,rfl,trivial⟩ ?_;refine bm rfl rfl rfl rfl rfl (ao (t:=(.int .i64)) rfl cj rfl) ⟨rfl,rfl,trivial⟩ ?_;refine bm rfl rfl rfl rfl rfl (bg rfl) ⟨rfl,rfl,trivial⟩ ?_;refine df bw ?_;refine gb (cM rfl) ?_;refine pf (nl ?_);exact jz ((),decide (M=a2)) h [0]
   ·refine cv h (fun h=>?_) (fun h=>?_)
    ·refine sr (cq (nt (rx (br (aV (aR ?_))))));obtain rfl:=hR _ h;exact ra
    ·refine sk (ay (Z:=Unit) (α:=Bool) (fun j c=>[(1,Ri a1),(2,I a2),(3,Pt b1),(7,I y4),(45,.eq (.bool c))]) (fun j c=>[.obj b1 26 (.rep ag a0)]) h (fun K h=>?_) (fun j c h=>?_))
     ·refine a6 ?_;refine dm ?_;refine db (ik rfl) ?_;refine l9 rfl rfl rfl (bg rfl) ⟨rfl,trivial⟩ (fun hb=>?_) (fun hb=>?_)
      ·replace h:=bY (oQ hb) h;refine bm rfl rfl rfl rfl rfl (bg rfl) ⟨rfl,rfl,trivial⟩ ?_;refine bm rfl rfl rfl rfl rfl (bg rfl) ⟨rfl,rfl,trivial⟩ ?_;obtain⟨J,x,h⟩:=aa h;refine bm rfl rfl rfl rfl rfl (aC (t:=(.int .i64)) rfl jt cj x) ⟨rfl,rfl,rfl,trivial⟩ ?_;refine bm rfl rfl rfl rfl rfl (ao (t:=(.int .i64)) rfl cj rfl) ⟨rfl,rfl,trivial⟩ ?_;refine bm rfl rfl rfl rfl rfl (bg rfl) ⟨rfl,rfl,trivial⟩ ?_;refine bm rfl rfl rfl rfl rfl (bg rfl) ⟨rfl,rfl,trivial⟩ ?_;obtain⟨X,u,h⟩:=aa h;refine bm rfl rfl rfl rfl rfl (g7 rfl u) ⟨rfl,rfl,rfl,trivial⟩ ?_;obtain⟨F,s,h⟩:=aa h;refine bm rfl rfl rfl rfl rfl (aC (t:=(.int .i64)) rfl jt cj s) ⟨rfl,rfl,rfl,trivial⟩ ?_;refine bm rfl rfl rfl rfl rfl (ao (t:=(.int .i64)) rfl cj rfl) ⟨rfl,rfl,trivial⟩ ?_;refine df bw ?_;refine gb (qj rfl) ?_;refine pt (nl ?_);exact jz ((),decide (J≤F)) h [0]
      ·replace h:=bj (oR hb) h;iterate 9 refine dg ?_
       refine df bw ?_;refine gn ?_;refine pf (nl ?_);exact jz ((),false) h [0]
     ·refine cv h (fun h=>?_) (fun h=>?_)
      ·refine sr (cq (nt (aG (br (aV (aR ?_))))));obtain rfl:=hR _ h;exact ra
      ·refine aU (aO (tn (ah (mq ?_))));obtain⟨E,l,h⟩:=aa h;refine jb (bh rfl l) ?_;refine aq (nl ?_);exact jz ((),E) h [0]
  ·refine xa ?_;exact jz ((),()) h []
 ·
  refine sr (cq (nt (aG ?_)));cases h;exact ra
def iG(k:Nat)(a0:ae)(e:(List Bool)×Int):Nat→((List Bool)×Int)→Option (List Bool)
 |0,_=>none
 |n+1,c=>
  (aL a0.1 e.2).bind fun r=>
  if c.2 < (r.1.length:Int) then((aL a0.1 e.2).bind fun l=>
  (aL l.1 c.2).bind fun h=>
  (aL c.1 h).bind fun s=>
  (ck (c.2+1)).bind fun j=>
  iG k a0 e n (List.set c.1 (Int.toNat h) true,j)) else(some c.1)
def f9(k:Nat)(a0:ae)(a1:Int):Nat→((List Bool)×Int)→Option (List Bool)
 |0,_=>none
 |n+1,c=>
  if c.2 < (a0.1.length:Int) then(((((if¬(c.2=a1) then((aL c.1 c.2).bind fun h=>
  some (!h)) else(some false)):Option (Bool)).bind fun j=>
  if j=true then(some c.1) else(iG k a0 c k (c.1,0))):Option ((List Bool))).bind fun l=>
  (ck (c.2+1)).bind fun e=>
  f9 k a0 a1 n (l,e)) else(some c.1)
def jv(k:Nat)(a0:ae)(a1:Int):Nat→((List Bool)×Int)→Option (List Bool)
 |0,_=>none
 |n+1,y6=>
  if y6.2 < (a0.1.length:Int) then(((f9 k a0 a1 k (y6.1,0)):Option ((List Bool))).bind fun x8=>
  (ck (y6.2+1)).bind fun c=>
  jv k a0 a1 n (x8,c)) else(some y6.1)
def qg(k:Nat)(a0:ae)(a1:Int):Option Bool:=
 (cF (0≤(a0.1.length:Int)∧cx (Int.toNat (a0.1.length:Int)))).bind fun _=>
 ((jv k a0 a1 k (List.replicate (Int.toNat (a0.1.length:Int)) false,0)):Option ((List Bool))).bind fun x4=>
 (aL x4 a1).bind fun c=>
 some c
theorem AC(k:Nat)(a0:ae)(a1:Int)(r:Bool)(h:qg k a0 a1=some r):
 bQ Tryz.prog 83 [.rep ag a0,I a1] [] (fun _:Unit=>(bG [.eq (.bool r)],[])):=by
 unfold qg at h
 replace h:=bi h
 refine bQ.of 63 Tryz.func83 rfl Tryz.ntmps83 rfl fun S w0=>?_
 refine sr ?_
 refine bx fun b1=>?_
 refine cq ?_
 refine nt ?_
 refine sr ?_
 refine fl bu ?_
 refine lo dM ?_
 refine ol kU ?_
 obtain⟨u2,mc,h⟩:=aa h
 refine aA rfl rfl rfl (C6 (t:=.bool) (d:=false) rfl GR OT (av mc).1 (av mc).2) ⟨rfl,rfl,trivial⟩ fun v3=>?_
 refine aq ?_
 refine nt ?_
 refine ay (Z:=Unit) (α:=(List Bool)) (fun z5 x4=>[(1,I a1),(5,.eq v3)]) (fun z5 x4=>[.sl v3 4 .bool x4]) h (fun K h=>?_) (fun z5 x4 h=>?_)
 ·
  refine sr (cq (nt (al ?_)));refine aD (fun z7 y6=>[(1,I a1),(2,Pt b1),(5,.eq v3),(6,I y6.2)]) (fun z7 y6=>[.obj b1 26 (.rep ag a0),.sl v3 4 .bool y6.1]) (jv k a0 a1) k () (List.replicate (Int.toNat (a0.1.length:Int)) false,0) (fun _=>rfl) h (SE.fin [1,0] ⟨rfl,rfl,rfl,rfl,trivial⟩ rfl) (fun n z7 y6 h=>?_);unfold jv at h;refine aj (sr (mq ?_));refine fl bu ?_;refine lo dM ?_;refine ol kU ?_;refine jb (ba rfl) ?_;refine nt (ci h (fun h=>?_) (fun h=>?_))
  ·refine sk (ay (Z:=Unit) (α:=(List Bool)) (fun z9 x8=>[(1,I a1),(2,Pt b1),(5,.eq v3),(6,I y6.2)]) (fun z9 x8=>[.obj b1 26 (.rep ag a0),.sl v3 4 .bool x8]) h (fun K h=>?_) (fun z9 x8 h=>?_))
   ·refine al (sr (cq (nt (al ?_))));refine aD (fun J c=>[(1,I a1),(2,Pt b1),(5,.eq v3),(6,I y6.2),(7,I c.2)]) (fun J c=>[.obj b1 26 (.rep ag a0),.sl v3 4 .bool c.1]) (f9 k a0 a1) k () (y6.1,0) (fun _=>rfl) h (SE.fin [0,1] ⟨rfl,rfl,rfl,rfl,rfl,trivial⟩ rfl) (fun n J c h=>?_);unfold f9 at h;refine aj (sr (mq ?_));refine fl bu ?_;refine lo dM ?_;refine ol kU ?_;refine jb (ba rfl) ?_;refine nt (ci h (fun h=>?_) (fun h=>?_))
    ·refine sk (ay (Z:=Unit) (α:=(List Bool)) (fun F j=>[(1,I a1),(2,Pt b1),(5,.eq v3),(6,I y6.2),(7,I c.2)]) (fun F j=>[.obj b1 26 (.rep ag a0),.sl v3 4 .bool j]) h (fun K h=>?_) (fun F j h=>?_))
     ·refine al (aj (ay (Z:=Unit) (α:=Bool) (fun E y=>[(1,I a1),(2,Pt b1),(5,.eq v3),(6,I y6.2),(7,I c.2),(36,.eq (.bool y))]) (fun E y=>[.obj b1 26 (.rep ag a0),.sl v3 4 .bool c.1]) h (fun K h=>?_) (fun E y h=>?_)))
      ·refine ah ?_;iterate 2 refine mq ?_
       refine jb (bT rfl) ?_;refine mq ?_;refine aM (s:=30) rfl (fun hb=>?_) (fun hb=>?_)
       ·replace h:=bY (Ef hb) h;refine gm ?_;refine gm ?_;obtain⟨QC,x,h⟩:=aa h;refine fr 1 ?_;refine bO rfl rfl rfl rfl rfl rfl (bk (t:=.bool) rfl sL qU x) ⟨rfl,rfl,trivial⟩ ?_;refine bO rfl rfl rfl rfl rfl rfl (dW (i:=Int.toNat c.2) (off:=0) rfl qU (fun _=>rfl) rfl (bP x).2.2 rfl) ⟨rfl,trivial⟩ ?_;refine ga (eE rfl) ?_;refine pt (nl ?_);exact jz ((), !QC) h [1,0]
       ·replace h:=bj (tu hb) h;iterate 5 refine gn ?_
        refine pf (nl ?_);exact jz ((),false) h [0,1]
      ·refine cv h (fun h=>?_) (fun h=>?_)
       ·refine eD (bf (cg (a7 ?_)));exact jz ((),c.1) h [0,1]
       ·refine sk (sr (cq (nt (al ?_))));refine aD (fun D e=>[(1,I a1),(2,Pt b1),(5,.eq v3),(6,I y6.2),(7,I c.2),(8,I e.2)]) (fun D e=>[.obj b1 26 (.rep ag a0),.sl v3 4 .bool e.1]) (iG k a0 c) k () (c.1,0) (fun _=>rfl) h (SE.fin [0,1] ⟨rfl,rfl,rfl,rfl,rfl,rfl,trivial⟩ rfl) (fun n D e h=>?_);unfold iG at h;refine aj (sr (mq ?_));refine fl bu ?_;refine lo dM ?_;refine mq ?_;obtain⟨QG,ac,h⟩:=aa h;refine jb (aC (t:=aJ) rfl kU eY ac) ?_;refine ja (a8 1 false rfl iq rfl) ?_;refine ja (ao (t:=(.slice (.int .i64))) rfl bR rfl) ?_;refine ol jt ?_;refine jb (ba rfl) ?_;refine nt (ci h (fun h=>?_) (fun h=>?_))
        ·refine sk (aj (al (ah (mq ?_))));refine fl bu ?_;refine lo dM ?_;refine mq ?_;obtain⟨QF,Y,h⟩:=aa h;refine jb (aC (t:=aJ) rfl kU eY Y) ?_;refine ja (a8 1 false rfl iq rfl) ?_;refine ja (ao (t:=(.slice (.int .i64))) rfl bR rfl) ?_;refine mq ?_;obtain⟨M,X,h⟩:=aa h;refine jb (aC (t:=(.int .i64)) rfl jt cj X) ?_;refine ja (ao (t:=(.int .i64)) rfl cj rfl) ?_;obtain⟨QE,u,h⟩:=aa h;refine fr 1 ?_;refine kb (bk (t:=.bool) rfl sL qU u) ?_;refine aK rfl rfl (gl (i:=Int.toNat M) rfl qU rfl (mJ u) rfl .bool rfl) ⟨rfl,rfl,trivial⟩ ?_;refine aT (aO (tn (ah (mq ?_))));obtain⟨QB,U,h⟩:=aa h;refine jb (bh rfl U) ?_;refine aq (nl ?_);exact jz ((),(List.set e.1 (Int.toNat M) true,QB)) h [1,0]
        ·refine eD (bf (bf (cg (bn ?_))));exact jz ((),e.1) h [0,1]
     ·refine ah (mq ?_);obtain⟨QA,Q,h⟩:=aa h;refine jb (bh rfl Q) ?_;refine aq (nl ?_);exact jz ((),(j,QA)) h [0,1]
    ·refine eD (bf (bf (cg (bn ?_))));exact jz ((),c.1) h [0,1]
   ·refine ah (mq ?_);obtain⟨se,O,h⟩:=aa h;refine jb (bh rfl O) ?_;refine aq (nl ?_);exact jz ((),(x8,se)) h [0,1]
  ·refine xa ?_;exact jz ((),y6.1) h [1]
 ·
  refine sr ?_;iterate 2 refine mq ?_
  obtain⟨QD,l,h⟩:=aa h;refine kb (bk (t:=.bool) rfl sL qU l) ?_;refine ka (dW (i:=Int.toNat a1) (off:=0) rfl qU (fun _=>rfl) rfl (bP l).2.2 rfl) ?_;refine aq (nt (aG ?_));cases h;exact ra
def iR(k:Nat)(a0:ae):Nat→Int→Option (Except Int Unit)
 |0,_=>none
 |n+1,y5=>
  if y5 < (a0.1.length:Int) then((aL a0.1 y5).bind fun x7=>
  (ju k a0 x7.1 y5).bind fun r9=>
  if¬(r9=0) then(some (.error r9)) else((((dy k x7.2.1 1 4).bind fun r=>
  if¬(r=true) then(some true) else((dy k x7.2.2.1 1 4).bind fun l=>
  some (!l))):Option (Bool)).bind fun e=>
  if e=true then(some (.error 1)) else((dy k x7.2.2.2.1 0 2).bind fun j=>
  if¬(j=true) then(some (.error 8)) else((dy k x7.2.2.2.2 0 30).bind fun h=>
  if¬(h=true) then(some (.error 1)) else((ck (y5+1)).bind fun c=>
  iR k a0 n c))))) else(some (.ok ()))
def eM(k:Nat)(a0:ae):Nat→Int→Option (Except Int Unit)
 |0,_=>none
 |n+1,c=>
  if c < (a0.1.length:Int) then((qg k a0 c).bind fun h=>
  if h=true then(some (.error 9)) else((ck (c+1)).bind fun e=>
  eM k a0 n e)) else(some (.ok ()))
def iQ(k:Nat)(a0:ae):Nat→Int→Option (Except Int Unit)
 |0,_=>none
 |n+1,c=>
  if c < (a0.2.1.length:Int) then((aL a0.2.1 c).bind fun e=>
  (ju k a0 e.1 (-1:Int)).bind fun h=>
  if¬(h=0) then(some (.error h)) else((dy k e.2.1 0 2).bind fun r=>
  if¬(r=true) then(some (.error 8)) else((dy k e.2.2 0 9).bind fun l=>
  if¬(l=true) then(some (.error 1)) else((ck (c+1)).bind fun j=>
  iQ k a0 n j)))) else(some (.ok ()))
def ov(k:Nat)(a0:ae):Option Int:=
 (mR k (a0.1.length:Int) 4).bind fun r2=>
 if¬(r2=0) then(some r2) else(bE (α:=Unit) (iR k a0 k 0) (some) fun _=>
 bE (α:=Unit) (eM k a0 k 0) (some) fun _=>
 (mR k (a0.2.1.length:Int) 3).bind fun e=>
 if¬(e=0) then(some e) else(bE (α:=Unit) (iQ k a0 k 0) (some) fun _=>
 (ju k a0 a0.2.2.1 (-1:Int)).bind fun c=>
 if¬(c=0) then(some c) else((ju k a0 a0.2.2.2 (-1:Int)).bind fun h=>
 some h)))
theorem zq(k:Nat)(a0:ae)(r:Int)(h:ov k a0=some r):
 bQ Tryz.prog 67 [.rep ag a0] [] (fun _:Unit=>(bG [I r],[])):=by
 unfold ov at h
 replace h:=bi h
 refine bQ.of 113 Tryz.func67 rfl Tryz.ntmps67 rfl fun S w0=>?_
 refine sr ?_
 refine bx fun b1=>?_
 refine cq ?_
 refine nt ?_
 refine aj ?_
 refine sr ?_
 refine fl bu ?_
 refine lo dM ?_
 refine ol kU ?_
 obtain⟨r2,QZ,h⟩:=aa h
 have Q0:=sZ k (a0.1.length:Int) 4 r2 QZ
 refine jb (ak [.tmp 15,.const (.int .i64 (4))] rfl rfl Oe rfl Q0) ?_
 refine aq ?_
 refine nt ?_
 refine sr ?_
 refine mq ?_
 refine jb (bT rfl) ?_
 refine nt ?_
 refine cn h (fun h=>?_) (fun h=>?_)
 ·
  refine sr (mq ?_);refine aq (nt (rx ?_));cases h;exact ra
 ·
  refine sk (cE (Z:=Unit) (α:=Unit) (fun z4 x3=>[(1,Pt b1)]) (fun z4 x3=>[.obj b1 26 (.rep ag a0)]) (fun e=>e=r) h (fun e h=>Option.some.inj h) (fun K hR h=>?_) (fun z4 x3 h=>?_))
  ·refine sr (cq (nt (al ?_)));refine aD (fun z6 y5=>[(1,Pt b1),(4,I y5)]) (fun z6 y5=>[.obj b1 26 (.rep ag a0)]) (iR k a0) k () 0 (fun _=>rfl) h (SE.fin [0] ⟨rfl,rfl,trivial⟩ rfl) (fun n z6 y5 h=>?_);unfold iR at h;refine aj (sr (mq ?_));refine fl bu ?_;refine lo dM ?_;refine ol kU ?_;refine jb (ba rfl) ?_;refine nt (ci h (fun h=>?_) (fun h=>?_))
   ·refine sk (aj (al (sr (fl bu ?_))));refine lo dM ?_;refine mq ?_;obtain⟨x7,QX,h⟩:=aa h;refine jb (aC (t:=aJ) rfl kU eY QX) ?_;refine ja (ao (t:=aJ) rfl eY rfl) ?_;refine aA rfl rfl rfl (aF rfl pU vB) trivial fun b8=>?_;refine aK rfl rfl (aE rfl eY rfl rfl rfl) ⟨rfl,rfl,trivial⟩ ?_;refine nt (aj (sr (fr 1 ?_)));refine lo bL ?_;refine fl iq ?_;refine fr 1 ?_;refine lo bR ?_;refine mq ?_;obtain⟨r9,QY,h⟩:=aa h;refine jc (ak [.tmp 32,.tmp 34,.tmp 35] rfl rfl KQ rfl (lZ k a0 x7.1 y5 r9 QY)) ?_;refine aq (nt (sr ?_));refine mq ?_;refine jb (bT rfl) ?_;refine nt (cn h (fun h=>?_) (fun h=>?_))
    ·refine sr (mq ?_);refine aq (nt (rx (br (aV (aR ?_)))));obtain rfl:=hR _ h;exact ra
    ·refine sk (aj (ay (Z:=Unit) (α:=Bool) (fun F u=>[(1,Pt b1),(4,I y5),(5,Pt b8),(49,.eq (.bool u))]) (fun F u=>[.obj b1 26 (.rep ag a0),.obj b8 45 (.rep aJ x7)]) h (fun K h=>?_) (fun F u h=>?_)))
     ·refine ah (fl uN ?_);refine lo cj ?_;obtain⟨QW,QH,h⟩:=aa h;refine jc (ak [.tmp 41,.const (.int .i64 (1)),.const (.int .i64 (4))] rfl rfl yg rfl (ep k x7.2.1 1 4 QW QH)) ?_;refine ja (eE rfl) ?_;refine mq ?_;refine aM (s:=44) rfl (fun hb=>?_) (fun hb=>?_)
      ·replace h:=bY (uu hb) h;iterate 4 refine gn ?_
       refine pt (nl ?_);exact jz ((),true) h [1,0]
      ·replace h:=bj (ox hb) h;refine ga (am rfl uM) ?_;refine bO rfl rfl rfl rfl rfl rfl (ai rfl cj dF rfl) ⟨rfl,trivial⟩ ?_;obtain⟨O,QG,h⟩:=aa h;refine gc (ak [.tmp 46,.const (.int .i64 (1)),.const (.int .i64 (4))] rfl rfl yg rfl (ep k x7.2.2.1 1 4 O QG)) ?_;refine ga (eE rfl) ?_;refine pf (nl ?_);exact jz ((), !O) h [1,0]
     ·refine cv h (fun h=>?_) (fun h=>?_)
      ·refine sr (cq (nt (rx (br (aV (aR ?_))))));obtain rfl:=hR _ h;exact ra
      ·refine sk (aj (sr (fl sx ?_)));refine fr 1 ?_;refine lo cj ?_;obtain⟨QU,QF,h⟩:=aa h;refine jc (ak [.tmp 51,.const (.int .i64 (0)),.const (.int .i64 (2))] rfl rfl yg rfl (ep k x7.2.2.2.1 0 2 QU QF)) ?_;refine ja (eE rfl) ?_;refine nt (cw h (fun h=>?_) (fun h=>?_))
       ·refine sr (cq (nt (rx (br (aV (aR ?_))))));obtain rfl:=hR _ h;exact ra
       ·refine sk (sr (fl wW ?_));refine lo cj ?_;obtain⟨QT,QE,h⟩:=aa h;refine jc (ak [.tmp 55,.const (.int .i64 (0)),.const (.int .i64 (30))] rfl rfl yg rfl (ep k x7.2.2.2.2 0 30 QT QE)) ?_;refine ja (eE rfl) ?_;refine nt (cw h (fun h=>?_) (fun h=>?_))
        ·refine sr (cq (nt (aG (br (aV (aR ?_))))));obtain rfl:=hR _ h;exact ra
        ·refine aU (aO (tn (ah (mq ?_))));obtain⟨QL,Y,h⟩:=aa h;refine jb (bh rfl Y) ?_;refine aq (nl ?_);exact jz ((),QL) h [1]
   ·refine xa ?_;exact jz ((),()) h [0]
  ·refine cE (Z:=Unit) (α:=Unit) (fun E M=>[(1,Pt b1)]) (fun E M=>[.obj b1 26 (.rep ag a0)]) (fun e=>e=r) h (fun e h=>Option.some.inj h) (fun K hR h=>?_) (fun E M h=>?_)
   ·refine sr (cq (nt (al ?_)));refine aD (fun D c=>[(1,Pt b1),(7,I c)]) (fun D c=>[.obj b1 26 (.rep ag a0)]) (eM k a0) k () 0 (fun _=>rfl) h (SE.fin [0] ⟨rfl,rfl,trivial⟩ rfl) (fun n D c h=>?_);unfold eM at h;refine aj (sr (mq ?_));refine fl bu ?_;refine lo dM ?_;refine ol kU ?_;refine jb (ba rfl) ?_;refine nt (ci h (fun h=>?_) (fun h=>?_))
    ·refine sk (aj (al (sr (lo bL ?_))));refine mq ?_;obtain⟨QS,QD,h⟩:=aa h;refine jb (ak [.tmp 65,.tmp 66] rfl rfl Px rfl (AC k a0 c QS QD)) ?_;refine nt (cv h (fun h=>?_) (fun h=>?_))
     ·refine sr (cq (nt (aG (br (aV (aR ?_))))));obtain rfl:=hR _ h;exact ra
     ·refine aU (aO (tn (ah (mq ?_))));obtain⟨QK,X,h⟩:=aa h;refine jb (bh rfl X) ?_;refine aq (nl ?_);exact jz ((),QK) h [0]
    ·refine xa ?_;exact jz ((),()) h [0]
   ·refine aj (sr (fl bA ?_));refine lo eu ?_;refine ol l8 ?_;obtain⟨QR,QC,h⟩:=aa h;refine jb (ak [.tmp 70,.const (.int .i64 (3))] rfl rfl Oe rfl (sZ k (a0.2.1.length:Int) 3 QR QC)) ?_;refine aq (nt (sr ?_));refine mq ?_;refine jb (bT rfl) ?_;refine nt (cn h (fun h=>?_) (fun h=>?_))
    ·refine sr (mq ?_);refine aq (nt (rx ?_));cases h;exact ra
    ·refine sk (cE (Z:=Unit) (α:=Unit) (fun y J=>[(1,Pt b1)]) (fun y J=>[.obj b1 26 (.rep ag a0)]) (fun e=>e=r) h (fun e h=>Option.some.inj h) (fun K hR h=>?_) (fun y J h=>?_))
     ·refine sr (cq (nt (al ?_)));refine aD (fun x j=>[(1,Pt b1),(9,I j)]) (fun x j=>[.obj b1 26 (.rep ag a0)]) (iQ k a0) k () 0 (fun _=>rfl) h (SE.fin [0] ⟨rfl,rfl,trivial⟩ rfl) (fun n x j h=>?_);unfold iQ at h;refine aj (sr (mq ?_));refine fl bA ?_;refine lo eu ?_;refine ol l8 ?_;refine jb (ba rfl) ?_;refine nt (ci h (fun h=>?_) (fun h=>?_))
      ·refine sk (aj (al (sr (fl bA ?_))));refine lo eu ?_;refine mq ?_;obtain⟨l,U,h⟩:=aa h;refine jb (aC (t:=aw) rfl l8 eI U) ?_;refine ja (ao (t:=aw) rfl eI rfl) ?_;refine aA rfl rfl rfl (aF rfl rS xz) trivial fun Q1=>?_;refine aK rfl rfl (aE rfl eI rfl rfl rfl) ⟨rfl,rfl,trivial⟩ ?_;refine nt (aj (sr (fr 1 ?_)));refine lo bL ?_;refine fl eU ?_;refine fr 1 ?_;refine lo bR ?_;obtain⟨QQ,QB,h⟩:=aa h;refine jc (ak [.tmp 87,.tmp 89,.const (.int .i64 (-1))] rfl rfl KQ rfl (lZ k a0 l.1 (-1:Int) QQ QB)) ?_;refine aq (nt (sr ?_));refine mq ?_;refine jb (bT rfl) ?_;refine nt (cn h (fun h=>?_) (fun h=>?_))
       ·refine sr (mq ?_);refine aq (nt (rx (br (aV (aR ?_)))));obtain rfl:=hR _ h;exact ra
       ·refine sk (aj (sr (fl qA ?_)));refine lo cj ?_;obtain⟨QP,QA,h⟩:=aa h;refine jc (ak [.tmp 95,.const (.int .i64 (0)),.const (.int .i64 (2))] rfl rfl yg rfl (ep k l.2.1 0 2 QP QA)) ?_;refine ja (eE rfl) ?_;refine nt (cw h (fun h=>?_) (fun h=>?_))
        ·refine sr (cq (nt (rx (br (aV (aR ?_))))));obtain rfl:=hR _ h;exact ra
        ·refine sk (sr (fl od ?_));refine lo cj ?_;obtain⟨QO,se,h⟩:=aa h;refine jc (ak [.tmp 99,.const (.int .i64 (0)),.const (.int .i64 (9))] rfl rfl yg rfl (ep k l.2.2 0 9 QO se)) ?_;refine ja (eE rfl) ?_;refine nt (cw h (fun h=>?_) (fun h=>?_))
         ·refine sr (cq (nt (aG (br (aV (aR ?_))))));obtain rfl:=hR _ h;exact ra
         ·refine aU (aO (tn (ah (mq ?_))));obtain⟨QJ,Q,h⟩:=aa h;refine jb (bh rfl Q) ?_;refine aq (nl ?_);exact jz ((),QJ) h [1]
      ·refine xa ?_;exact jz ((),()) h [0]
     ·refine aj (sr (lo bL ?_));refine fl fQ ?_;refine lo bR ?_;obtain⟨QN,mc,h⟩:=aa h;refine jc (ak [.tmp 102,.tmp 104,.const (.int .i64 (-1))] rfl rfl KQ rfl (lZ k a0 a0.2.2.1 (-1:Int) QN mc)) ?_;refine aq (nt (sr ?_));refine mq ?_;refine jb (bT rfl) ?_;refine nt (cn h (fun h=>?_) (fun h=>?_))
      ·refine sr (mq ?_);refine aq (nt (rx ?_));cases h;exact ra
      ·refine sk (sr (lo bL ?_));refine fl eV ?_;refine lo bR ?_;obtain⟨QM,ac,h⟩:=aa h;refine jc (ak [.tmp 109,.tmp 111,.const (.int .i64 (-1))] rfl rfl KQ rfl (lZ k a0 a0.2.2.2 (-1:Int) QM ac)) ?_;refine aq (nt (aG ?_));cases h;exact ra
def jw(k:Nat)(a0:(List Int))(a1:Int):Nat→Int→Option (Except Bool Unit)
 |0,_=>none
 |n+1,y3=>
  if y3 < (a0.length:Int) then((aL a0 y3).bind fun x5=>
  if x5=a1 then(some (.error true)) else((ck (y3+1)).bind fun x6=>
  jw k a0 a1 n x6)) else(some (.ok ()))
def g9(k:Nat)(a0:(List Int))(a1:Int):Option Bool:=
 bE (α:=Unit) (jw k a0 a1 k 0) (some) fun _=>
 some false
theorem iN(k:Nat)(a0:(List Int))(a1:Int)(r:Bool)(h:g9 k a0 a1=some r):
 bQ Tryz.prog 46 [Ri a0,I a1] [] (fun _:Unit=>(bG [.eq (.bool r)],[])):=by
 unfold g9 at h
 replace h:=bi h
 refine bQ.of 18 Tryz.func46 rfl Tryz.ntmps46 rfl fun S w0=>?_
 refine sr ?_
 refine cq ?_
 refine nt ?_
 refine cE (Z:=Unit) (α:=Unit) (fun z2 x1=>[]) (fun z2 x1=>[]) (fun e=>e=r) h (fun e h=>Option.some.inj h) (fun K hR h=>?_) (fun z2 x1 h=>?_)
 ·
  refine sr (cq (nt (al ?_)));refine aD (fun z4 y3=>[(0,Ri a0),(1,I a1),(5,I y3)]) (fun z4 y3=>[]) (jw k a0 a1) k () 0 (fun _=>rfl) h (SE.fin [] ⟨rfl,rfl,rfl,trivial⟩ rfl) (fun n z4 y3 h=>?_);unfold jw at h;refine aj (sr ?_);iterate 2 refine mq ?_
  refine ol jt ?_;refine jb (ba rfl) ?_;refine nt (ci h (fun h=>?_) (fun h=>?_))
  ·refine sk (aj (al (sr ?_)));iterate 2 refine mq ?_
   obtain⟨x5,j,h⟩:=aa h;refine jb (aC (t:=(.int .i64)) rfl jt cj j) ?_;refine ja (ao (t:=(.int .i64)) rfl cj rfl) ?_;refine mq ?_;refine jb (cM rfl) ?_;refine nt (ci h (fun h=>?_) (fun h=>?_))
   ·refine sr (cq (nt (aG (br (aV (aR ?_))))));obtain rfl:=hR _ h;exact ra
   ·refine aU (aO (tn (ah (mq ?_))));obtain⟨x6,c,h⟩:=aa h;refine jb (bh rfl c) ?_;refine aq (nl ?_);exact jz ((),x6) h []
  ·refine xa ?_;exact jz ((),()) h []
 ·
  refine sr (cq (nt (aG ?_)));cases h;exact ra
def fL(k:Nat)(a0:ae)(e:(List Bool)×Int)(j:Bool)(h:Bool):Nat→((List Bool)×Int)→Option (List Bool)
 |0,_=>none
 |n+1,c=>
  ((if c.2 < (a0.1.length:Int) then(if j=true then(some h) else(some false)) else(some false)):Option (Bool)).bind fun y=>
  if y=true then((((((aL c.1 c.2).bind fun s=>
  if s=true then((aL a0.1 c.2).bind fun r=>
  (g9 k r.1 e.2).bind fun D=>
  some D) else(some false)):Option (Bool)).bind fun u=>
  if u=true then((aL c.1 e.2).bind fun E=>
  some (List.set c.1 (Int.toNat e.2) true)) else(some c.1)):Option ((List Bool))).bind fun x=>
  (ck (c.2+1)).bind fun l=>
  fL k a0 e j h n (x,l)) else(some c.1)
def fM(k:Nat)(a0:ae):Nat→((List Bool)×Int)→Option (List Bool)
 |0,_=>none
 |n+1,c=>
  if c.2 < (a0.1.length:Int) then((((g9 k a0.2.2.1 c.2).bind fun h=>
  (g9 k a0.2.2.2 c.2).bind fun e=>
  ((if¬(h=e) then((aL c.1 c.2).bind fun s=>
  some (List.set c.1 (Int.toNat c.2) true)) else(some c.1)):Option ((List Bool))).bind fun l=>
  fL k a0 c h e k (l,0)):Option ((List Bool))).bind fun r=>
  (ck (c.2+1)).bind fun j=>
  fM k a0 n (r,j)) else(some c.1)
def ii(k:Nat)(a0:ae):Nat→((List Bool)×Int)→Option (List Bool)
 |0,_=>none
 |n+1,y6=>
  if y6.2≤(a0.1.length:Int) then(((fM k a0 k (y6.1,0)):Option ((List Bool))).bind fun x8=>
  (ck (y6.2+1)).bind fun c=>
  ii k a0 n (x8,c)) else(some y6.1)
def mb(k:Nat)(a0:ae):Option (List Bool):=
 (cF (0≤(a0.1.length:Int)∧cx (Int.toNat (a0.1.length:Int)))).bind fun _=>
 ((ii k a0 k (List.replicate (Int.toNat (a0.1.length:Int)) false,0)):Option ((List Bool))).bind fun x4=>
 some x4
theorem wm(k:Nat)(a0:ae)(r:(List Bool))(h:mb k a0=some r):
 bQ Tryz.prog 84 [.rep ag a0] [] (fun _:Unit=>(bG [.rep (.slice .bool) r],[])):=by
 unfold mb at h
 replace h:=bi h
 refine bQ.of 72 Tryz.func84 rfl Tryz.ntmps84 rfl fun S w0=>?_
 refine sr ?_
 refine bx fun b1=>?_
 refine cq ?_
 refine nt ?_
 refine sr ?_
 refine fl bu ?_
 refine lo dM ?_
 refine ol kU ?_
 obtain⟨u2,QE,h⟩:=aa h
 refine aA rfl rfl rfl (C6 (t:=.bool) (d:=false) rfl GR OT (av QE).1 (av QE).2) ⟨rfl,rfl,trivial⟩ fun v3=>?_
 refine aq ?_
 refine nt ?_
 refine ay (Z:=Unit) (α:=(List Bool)) (fun z5 x4=>[(3,.eq v3)]) (fun z5 x4=>[.sl v3 4 .bool x4]) h (fun K h=>?_) (fun z5 x4 h=>?_)
 ·
  refine sr (cq (nt (al ?_)));refine aD (fun z7 y6=>[(1,Pt b1),(3,.eq v3),(4,I y6.2)]) (fun z7 y6=>[.obj b1 26 (.rep ag a0),.sl v3 4 .bool y6.1]) (ii k a0) k () (List.replicate (Int.toNat (a0.1.length:Int)) false,0) (fun _=>rfl) h (SE.fin [1,0] ⟨rfl,rfl,rfl,trivial⟩ rfl) (fun n z7 y6 h=>?_);unfold ii at h;refine aj (sr (mq ?_));refine fl bu ?_;refine lo dM ?_;refine ol kU ?_;refine jb (qj rfl) ?_;refine nt (ci h (fun h=>?_) (fun h=>?_))
  ·refine sk (ay (Z:=Unit) (α:=(List Bool)) (fun z9 x8=>[(1,Pt b1),(3,.eq v3),(4,I y6.2)]) (fun z9 x8=>[.obj b1 26 (.rep ag a0),.sl v3 4 .bool x8]) h (fun K h=>?_) (fun z9 x8 h=>?_))
   ·refine al (sr (cq (nt (al ?_))));refine aD (fun mc c=>[(1,Pt b1),(3,.eq v3),(4,I y6.2),(5,I c.2)]) (fun mc c=>[.obj b1 26 (.rep ag a0),.sl v3 4 .bool c.1]) (fM k a0) k () (y6.1,0) (fun _=>rfl) h (SE.fin [0,1] ⟨rfl,rfl,rfl,rfl,trivial⟩ rfl) (fun n mc c h=>?_);unfold fM at h;refine aj (sr (mq ?_));refine fl bu ?_;refine lo dM ?_;refine ol kU ?_;refine jb (ba rfl) ?_;refine nt (ci h (fun h=>?_) (fun h=>?_))
    ·refine sk (ay (Z:=Unit) (α:=(List Bool)) (fun ac y=>[(1,Pt b1),(3,.eq v3),(4,I y6.2),(5,I c.2)]) (fun ac y=>[.obj b1 26 (.rep ag a0),.sl v3 4 .bool y]) h (fun K h=>?_) (fun ac y h=>?_))
     ·refine al (aj (a6 ?_));refine da (am rfl fQ) ?_;refine ea 0 (ai rfl bR dF rfl) ?_;refine dm ?_;obtain⟨l,QH,h⟩:=aa h;refine db (ak [.tmp 28,.tmp 29] rfl rfl zQ rfl (iN k a0.2.2.1 c.2 l QH)) ?_;refine da (am rfl eV) ?_;refine ea 0 (ai rfl bR dF rfl) ?_;refine dm ?_;refine df bw ?_;obtain⟨j,QG,h⟩:=aa h;refine jb (ak [.tmp 32,.tmp 33] rfl rfl zQ rfl (iN k a0.2.2.2 c.2 j QG)) ?_;refine aq ?_;refine aq (nt ?_);refine ay (Z:=Unit) (α:=(List Bool)) (fun Y x=>[(1,Pt b1),(3,.eq v3),(4,I y6.2),(5,I c.2),(6,.eq (.bool l)),(7,.eq (.bool j))]) (fun Y x=>[.obj b1 26 (.rep ag a0),.sl v3 4 .bool x]) h (fun K h=>?_) (fun Y x h=>?_)
      ·refine sr ?_;iterate 2 refine mq ?_
       refine jb (Hl rfl U4) ?_;refine nt (cn h (fun h=>?_) (fun h=>?_))
       ·refine ah ?_;iterate 2 refine mq ?_
        obtain⟨QP,F,h⟩:=aa h;refine fr 1 ?_;refine kb (bk (t:=.bool) rfl sL qU F) ?_;refine aK rfl rfl (gl (i:=Int.toNat c.2) rfl qU rfl (mJ F) rfl .bool rfl) ⟨rfl,rfl,trivial⟩ ?_;refine nl ?_;exact jz ((),List.set c.1 (Int.toNat c.2) true) h [1,0]
       ·refine aU (a7 ?_);exact jz ((),c.1) h [0,1]
      ·refine sr (cq (nt (al ?_)));refine aD (fun X e=>[(1,Pt b1),(3,.eq v3),(4,I y6.2),(5,I c.2),(6,.eq (.bool l)),(7,.eq (.bool j)),(8,I e.2)]) (fun X e=>[.obj b1 26 (.rep ag a0),.sl v3 4 .bool e.1]) (fL k a0 c l j) k () (x,0) (fun _=>rfl) h (SE.fin [0,1] ⟨rfl,rfl,rfl,rfl,rfl,rfl,rfl,trivial⟩ rfl) (fun n X e h=>?_);unfold fL at h;refine aj (ay (Z:=Unit) (α:=Bool) (fun U M=>[(1,Pt b1),(3,.eq v3),(4,I y6.2),(5,I c.2),(6,.eq (.bool l)),(7,.eq (.bool j)),(8,I e.2),(51,.eq (.bool M))]) (fun U M=>[.obj b1 26 (.rep ag a0),.sl v3 4 .bool e.1]) h (fun K h=>?_) (fun U M h=>?_))
       ·refine ah (mq ?_);refine fl bu ?_;refine lo dM ?_;refine ol kU ?_;refine jb (ba rfl) ?_;refine mq ?_;refine aM (s:=46) rfl (fun hb=>?_) (fun hb=>?_)
        ·replace h:=bY (oQ hb) h;refine gm ?_;refine pt ?_;refine mq ?_;refine aM (s:=49) rfl (fun hb=>?_) (fun hb=>?_)
         ·replace h:=bY (uc hb) h;refine gm ?_;refine pt (nl ?_);exact jz ((),j) h [0,1]
         ·replace h:=bj (ud hb) h;refine gn ?_;refine pf (nl ?_);exact jz ((),false) h [0,1]
        ·replace h:=bj (oR hb) h;refine gn ?_;refine pf ?_;refine mq ?_;refine gn ?_;refine pf (nl ?_);exact jz ((),false) h [0,1]
       ·refine cv h (fun h=>?_) (fun h=>?_)
        ·refine sk (ay (Z:=Unit) (α:=(List Bool)) (fun Q u=>[(1,Pt b1),(3,.eq v3),(4,I y6.2),(5,I c.2),(6,.eq (.bool l)),(7,.eq (.bool j)),(8,I e.2)]) (fun Q u=>[.obj b1 26 (.rep ag a0),.sl v3 4 .bool u]) h (fun K h=>?_) (fun Q u h=>?_))
         ·refine al (ay (Z:=Unit) (α:=Bool) (fun O J=>[(1,Pt b1),(3,.eq v3),(4,I y6.2),(5,I c.2),(6,.eq (.bool l)),(7,.eq (.bool j)),(8,I e.2),(67,.eq (.bool J))]) (fun O J=>[.obj b1 26 (.rep ag a0),.sl v3 4 .bool e.1]) h (fun K h=>?_) (fun O J h=>?_))
          ·refine ah ?_;iterate 2 refine mq ?_
           obtain⟨QO,E,h⟩:=aa h;refine fr 1 ?_;refine kb (bk (t:=.bool) rfl sL qU E) ?_;refine ka (dW (i:=Int.toNat e.2) (off:=0) rfl qU (fun _=>rfl) rfl (bP E).2.2 rfl) ?_;refine mq ?_;refine aM (s:=58) rfl (fun hb=>?_) (fun hb=>?_)
           ·replace h:=bY (uc hb) h;refine ga (am rfl bu) ?_;refine fr 1 ?_;refine bO rfl rfl rfl rfl rfl rfl (ai rfl dM dF rfl) ⟨rfl,trivial⟩ ?_;refine gm ?_;obtain⟨QM,QD,h⟩:=aa h;refine gb (aC (t:=aJ) rfl kU eY QD) ?_;refine ga (a8 1 false rfl iq rfl) ?_;refine ga (ao (t:=(.slice (.int .i64))) rfl bR rfl) ?_;refine gm ?_;obtain⟨se,QF,h⟩:=aa h;refine gb (ak [.tmp 64,.tmp 65] rfl rfl zQ rfl (iN k QM.1 c.2 se QF)) ?_;refine pt (nl ?_);exact jz ((),se) h [0,1]
           ·replace h:=bj (ud hb) h;iterate 8 refine gn ?_
            refine pf (nl ?_);exact jz ((),false) h [1,0]
          ·refine cv h (fun h=>?_) (fun h=>?_)
           ·refine ah ?_;iterate 2 refine mq ?_
            obtain⟨QN,D,h⟩:=aa h;refine fr 1 ?_;refine kb (bk (t:=.bool) rfl sL qU D) ?_;refine aK rfl rfl (gl (i:=Int.toNat c.2) rfl qU rfl (mJ D) rfl .bool rfl) ⟨rfl,rfl,trivial⟩ ?_;refine aT (bn ?_);exact jz ((),List.set e.1 (Int.toNat c.2) true) h [1,0]
           ·refine aU (bn ?_);exact jz ((),e.1) h [0,1]
         ·refine ah (mq ?_);obtain⟨QL,QC,h⟩:=aa h;refine jb (bh rfl QC) ?_;refine aq (nl ?_);exact jz ((),(u,QL)) h [0,1]
        ·refine eD (bf (bf (cg (bn ?_))));exact jz ((),e.1) h [0,1]
     ·refine ah (mq ?_);obtain⟨QK,QB,h⟩:=aa h;refine jb (bh rfl QB) ?_;refine aq (nl ?_);exact jz ((),(y,QK)) h [0,1]
    ·refine eD (bf (bf (cg (bn ?_))));exact jz ((),c.1) h [0,1]
   ·refine ah (mq ?_);obtain⟨QJ,QA,h⟩:=aa h;refine jb (bh rfl QA) ?_;refine aq (nl ?_);exact jz ((),(x8,QJ)) h [0,1]
  ·refine xa ?_;exact jz ((),y6.1) h [1]
 ·
  refine sr (mq ?_);refine aq (nt (aG ?_));refine bC (nu [2,3,71] ⟨rfl,rfl,rfl,trivial⟩) ?_;cases h;exact ra
def fu(k:Nat)(a0:ae)(r2:(List Bool)):Nat→((List cZ)×Int)→Option (List cZ)
 |0,_=>none
 |n+1,y5=>
  if y5.2 < (r2.length:Int) then((((((aL r2 y5.2).bind fun e=>
  if e=true then((g9 k a0.2.2.1 y5.2).bind fun h=>
  some h) else(some false)):Option (Bool)).bind fun x9=>
  if x9=true then((cF (cx (List.length y5.1+List.length [(y5.2,false)]))).bind fun _=>
  some (y5.1++[(y5.2,false)])) else(some y5.1)):Option ((List cZ))).bind fun x7=>
  (ck (y5.2+1)).bind fun c=>
  fu k a0 r2 n (x7,c)) else(some y5.1)
def ft(k:Nat)(a0:ae)(r2:(List Bool)):Nat→((List cZ)×Int)→Option (List cZ)
 |0,_=>none
 |n+1,c=>
  if c.2 < (r2.length:Int) then((((((aL r2 c.2).bind fun h=>
  if h=true then((g9 k a0.2.2.2 c.2).bind fun r=>
  some r) else(some false)):Option (Bool)).bind fun j=>
  if j=true then((cF (cx (List.length c.1+List.length [(c.2,true)]))).bind fun _=>
  some (c.1++[(c.2,true)])) else(some c.1)):Option ((List cZ))).bind fun l=>
  (ck (c.2+1)).bind fun e=>
  ft k a0 r2 n (l,e)) else(some c.1)
def jG(k:Nat)(a0:ae):Option (List cZ):=
 (mb k a0).bind fun r2=>
 ((fu k a0 r2 k (([]:(List cZ)),0)):Option ((List cZ))).bind fun x3=>
 ((ft k a0 r2 k (x3,0)):Option ((List cZ))).bind fun c=>
 some c
theorem k7(k:Nat)(a0:ae)(r:(List cZ))(h:jG k a0=some r):
 bQ Tryz.prog 68 [.rep ag a0] [] (fun _:Unit=>(bG [Rs cH r],[])):=by
 unfold jG at h
 replace h:=bi h
 refine bQ.of 52 Tryz.func68 rfl Tryz.ntmps68 rfl fun S w0=>?_
 refine sr ?_
 refine bx fun b1=>?_
 refine cq ?_
 refine nt ?_
 refine sr ?_
 refine cq ?_
 refine nt ?_
 refine sr ?_
 refine lo bL ?_
 obtain⟨r2,QD,h⟩:=aa h
 have QE:=wm k a0 r2 QD
 refine ja (ak [.tmp 7] rfl rfl Po rfl QE) ?_
 refine aq ?_
 refine nt ?_
 refine ay (Z:=Value) (α:=(List cZ)) (fun z4 x3=>[(1,Pt b1),(3,.eq z4),(4,.rep (.slice .bool) r2)]) (fun z4 x3=>[.obj b1 26 (.rep ag a0),.sl z4 137 cH x3]) h (fun K h=>?_) (fun z4 x3 h=>?_)
 ·
  refine sr (cq (nt (al ?_)));refine eL (SE.nil 137 cH) ?_;refine aD (fun z6 y5=>[(1,Pt b1),(3,.eq z6),(4,.rep (.slice .bool) r2),(5,I y5.2)]) (fun z6 y5=>[.obj b1 26 (.rep ag a0),.sl z6 137 cH y5.1]) (fu k a0 r2) k (.slice none 0 0) (([]:(List cZ)),0) (fun _=>rfl) h (SE.fin [1,0] ⟨rfl,rfl,rfl,rfl,trivial⟩ rfl) (fun n z6 y5 h=>?_);unfold fu at h;refine aj (sr ?_);iterate 2 refine mq ?_
  refine ol sL ?_;refine jb (ba rfl) ?_;refine nt (ci h (fun h=>?_) (fun h=>?_))
  ·refine sk (ay (Z:=Value) (α:=(List cZ)) (fun z8 x7=>[(1,Pt b1),(3,.eq z8),(4,.rep (.slice .bool) r2),(5,I y5.2)]) (fun z8 x7=>[.obj b1 26 (.rep ag a0),.sl z8 137 cH x7]) h (fun K h=>?_) (fun z8 x7 h=>?_))
   ·refine al (ay (Z:=Unit) (α:=Bool) (fun E x9=>[(1,Pt b1),(3,.eq z6),(4,.rep (.slice .bool) r2),(5,I y5.2),(24,.eq (.bool x9))]) (fun E x9=>[.obj b1 26 (.rep ag a0),.sl z6 137 cH y5.1]) h (fun K h=>?_) (fun E x9 h=>?_))
    ·refine ah ?_;iterate 2 refine mq ?_
     obtain⟨QG,U,h⟩:=aa h;refine jb (aC (t:=.bool) rfl sL qU U) ?_;refine ja (ao (t:=.bool) rfl qU rfl) ?_;refine mq ?_;refine aM (s:=19) rfl (fun hb=>?_) (fun hb=>?_)
     ·replace h:=bY (uc hb) h;refine ga (am rfl fQ) ?_;refine bO rfl rfl rfl rfl rfl rfl (ai rfl bR dF rfl) ⟨rfl,trivial⟩ ?_;refine gm ?_;obtain⟨J,mc,h⟩:=aa h;refine gb (ak [.tmp 21,.tmp 22] rfl rfl zQ rfl (iN k a0.2.2.1 y5.2 J mc)) ?_;refine pt (nl ?_);exact jz ((),J) h [0,1]
     ·replace h:=bj (ud hb) h;iterate 4 refine gn ?_
      refine pf (nl ?_);exact jz ((),false) h [0,1]
    ·refine cv h (fun h=>?_) (fun h=>?_)
     ·refine ah ?_;iterate 2 refine mq ?_
      refine ja (cR [(0,.tmp 26,_)] rfl He DX DK (iF ⟨rfl,trivial⟩) rfl) ?_;refine ja (bv (t:=cH) [(.tmp 27,_)] [(y5.2,false)] rfl rfl yp (.cons trivial (.agg (.pair .int .bool)) .nil) rfl rfl) ?_;obtain⟨QJ,Y,h⟩:=aa h;refine fr 1 ?_;refine dE rfl rfl rfl (bI rfl rfl yp (av Y)) ⟨rfl,rfl,trivial⟩ fun QC=>?_;refine aq (aT (bn ?_));exact jz (QC,y5.1++[(y5.2,false)]) h [1,0]
     ·refine aU (bn ?_);exact jz (z6,y5.1) h [0,1]
   ·refine ah (mq ?_);obtain⟨QA,Q,h⟩:=aa h;refine jb (bh rfl Q) ?_;refine aq (nl ?_);exact jz (z8,(x7,QA)) h [0,1]
  ·refine xa ?_;exact jz (z6,y5.1) h [0,1]
 ·
  refine ay (Z:=Value) (α:=(List cZ)) (fun l y=>[(3,.eq l)]) (fun l y=>[.sl l 137 cH y]) h (fun K h=>?_) (fun l y h=>?_)
  ·refine sr (cq (nt (al ?_)));refine aD (fun e c=>[(1,Pt b1),(3,.eq e),(4,.rep (.slice .bool) r2),(6,I c.2)]) (fun e c=>[.obj b1 26 (.rep ag a0),.sl e 137 cH c.1]) (ft k a0 r2) k z4 (x3,0) (fun _=>rfl) h (SE.fin [0,1] ⟨rfl,rfl,rfl,rfl,trivial⟩ rfl) (fun n e c h=>?_);unfold ft at h;refine aj (sr ?_);iterate 2 refine mq ?_
   refine ol sL ?_;refine jb (ba rfl) ?_;refine nt (ci h (fun h=>?_) (fun h=>?_))
   ·refine sk (ay (Z:=Value) (α:=(List cZ)) (fun j u=>[(1,Pt b1),(3,.eq j),(4,.rep (.slice .bool) r2),(6,I c.2)]) (fun j u=>[.obj b1 26 (.rep ag a0),.sl j 137 cH u]) h (fun K h=>?_) (fun j u h=>?_))
    ·refine al (ay (Z:=Unit) (α:=Bool) (fun D x=>[(1,Pt b1),(3,.eq e),(4,.rep (.slice .bool) r2),(6,I c.2),(45,.eq (.bool x))]) (fun D x=>[.obj b1 26 (.rep ag a0),.sl e 137 cH c.1]) h (fun K h=>?_) (fun D x h=>?_))
     ·refine ah ?_;iterate 2 refine mq ?_
      obtain⟨QF,O,h⟩:=aa h;refine jb (aC (t:=.bool) rfl sL qU O) ?_;refine ja (ao (t:=.bool) rfl qU rfl) ?_;refine mq ?_;refine aM (s:=40) rfl (fun hb=>?_) (fun hb=>?_)
      ·replace h:=bY (uc hb) h;refine ga (am rfl eV) ?_;refine bO rfl rfl rfl rfl rfl rfl (ai rfl bR dF rfl) ⟨rfl,trivial⟩ ?_;refine gm ?_;obtain⟨F,ac,h⟩:=aa h;refine gb (ak [.tmp 42,.tmp 43] rfl rfl zQ rfl (iN k a0.2.2.2 c.2 F ac)) ?_;refine pt (nl ?_);exact jz ((),F) h [0,1]
      ·replace h:=bj (ud hb) h;iterate 4 refine gn ?_
       refine pf (nl ?_);exact jz ((),false) h [0,1]
     ·refine cv h (fun h=>?_) (fun h=>?_)
      ·refine ah ?_;iterate 2 refine mq ?_
       refine jb (cR [(0,.tmp 47,_),(1,.const (.bool true),_)] rfl He DX DK (iF ⟨rfl,rfl,trivial⟩) rfl) ?_;refine ja (bv (t:=cH) [(.tmp 48,_)] [(c.2,true)] rfl rfl yp (.cons trivial (.agg (.pair .int .bool)) .nil) rfl rfl) ?_;obtain⟨QH,X,h⟩:=aa h;refine fr 1 ?_;refine dE rfl rfl rfl (bI rfl rfl yp (av X)) ⟨rfl,rfl,trivial⟩ fun QB=>?_;refine aq (aT (bn ?_));exact jz (QB,c.1++[(c.2,true)]) h [1,0]
      ·refine aU (bn ?_);exact jz (e,c.1) h [0,1]
    ·refine ah (mq ?_);obtain⟨se,M,h⟩:=aa h;refine jb (bh rfl M) ?_;refine aq (nl ?_);exact jz (j,(u,se)) h [0,1]
   ·refine xa ?_;exact jz (e,c.1) h [1]
  ·refine sr (mq ?_);refine aq (nt (aG ?_));refine bC (nu [2,3,51] ⟨rfl,rfl,rfl,trivial⟩) ?_;cases h;exact ra
def jd(k:Nat)(a0:ae):Option Int:=
 (ov k a0).bind fun r2=>
 if¬(r2=0) then(some r2) else((jG k a0).bind fun r3=>
 if 4 < (r3.length:Int) then(some 6) else(some 0))
theorem o6(k:Nat)(a0:ae)(r:Int)(h:jd k a0=some r):
 bQ Tryz.prog 36 [.rep ag a0] [] (fun _:Unit=>(bG [I r],[])):=by
 unfold jd at h
 replace h:=bi h
 refine bQ.of 13 Tryz.func36 rfl Tryz.ntmps36 rfl fun S w0=>?_
 refine sr ?_
 refine bx fun b1=>?_
 refine cq ?_
 refine nt ?_
 refine aj ?_
 refine sr ?_
 refine lo bL ?_
 obtain⟨r2,e,h⟩:=aa h
 have j:=zq k a0 r2 e
 refine ja (ak [.tmp 4] rfl rfl PI rfl j) ?_
 refine aq ?_
 refine nt ?_
 refine sr ?_
 refine mq ?_
 refine jb (bT rfl) ?_
 refine nt ?_
 refine cn h (fun h=>?_) (fun h=>?_)
 ·
  refine sr (mq ?_);refine aq (nt (rx ?_));cases h;exact ra
 ·
  refine sk (aj (sr (lo bL ?_)));obtain⟨r3,c,h⟩:=aa h;refine ja (ak [.tmp 9] rfl rfl Iq rfl (k7 k a0 r3 c)) ?_;refine ol uX ?_;refine jb (ik rfl) ?_;refine nt (ci h (fun h=>?_) (fun h=>?_))
  ·refine sr (cq (nt (rx ?_)));cases h;exact ra
  ·refine sk (sr (cq (nt (aG ?_))));cases h;exact ra
def lK(k:Nat)(a0:ae)(a1:cZ)(a2:cZ):Option Bool:=
 if a1.1=a2.1 then(((if¬(a1.2=true) then(some a2.2) else(some false)):Option (Bool)).bind fun x4=>
 some x4) else((aL a0.1 a2.1).bind fun x6=>
 (g9 k x6.1 a1.1).bind fun r7=>
 (aL a0.1 a1.1).bind fun x8=>
 (g9 k x8.1 a2.1).bind fun r9=>
 if¬(a1.2=true) then(((if r7=true then(some true) else(if r9=true then(some a2.2) else(some false))):Option (Bool)).bind fun e=>
 some e) else(((if r9=true then(some a2.2) else(some false)):Option (Bool)).bind fun c=>
 some c))
theorem rP(k:Nat)(a0:ae)(a1:cZ)(a2:cZ)(r:Bool)(h:lK k a0 a1 a2=some r):
 bQ Tryz.prog 101 [.rep ag a0,.rep cH a1,.rep cH a2] [] (fun _:Unit=>(bG [.eq (.bool r)],[])):=by
 unfold lK at h
 replace h:=bi h
 refine bQ.of 57 Tryz.func101 rfl Tryz.ntmps101 rfl fun S w0=>?_
 refine sr ?_
 refine bx fun b1=>?_
 refine bx fun b2=>?_
 refine bx fun b3=>?_
 refine cq ?_
 refine nt ?_
 refine aj ?_
 refine sr ?_
 refine fl l6 ?_
 refine fr 1 ?_
 refine lo cj ?_
 refine fl l6 ?_
 refine fr 1 ?_
 refine lo cj ?_
 refine jb (cM rfl) ?_
 refine nt ?_
 refine ci h (fun h=>?_) (fun h=>?_)
 ·
  refine ay (Z:=Unit) (α:=Bool) (fun z5 x4=>[(6,.eq (.bool x4))]) (fun z5 x4=>[]) h (fun K h=>?_) (fun z5 x4 h=>?_)
  ·refine ah (fl rm ?_);refine fr 1 ?_;refine lo qU ?_;refine ja (eE rfl) ?_;refine mq ?_;refine aM (s:=17) rfl (fun hb=>?_) (fun hb=>?_)
   ·replace h:=bY (uu hb) h;refine ga (am rfl rm) ?_;refine fr 1 ?_;refine bO rfl rfl rfl rfl rfl rfl (ai rfl qU dF rfl) ⟨rfl,trivial⟩ ?_;refine pt ?_;refine aq (nl ?_);exact jz ((),a2.2) h []
   ·replace h:=bj (ox hb) h;iterate 2 refine gn ?_
    refine pf ?_;refine aq (nl ?_);exact jz ((),false) h []
  ·refine rx ?_;cases h;exact ra
 ·
  refine sk (aj (a6 ?_));refine da (am rfl bu) ?_;refine ea 2 (ai rfl dM dF rfl) ?_;refine da (am rfl l6) ?_;refine ea 0 (ai rfl cj dF rfl) ?_;obtain⟨x6,u,h⟩:=aa h;refine db (aC (t:=aJ) rfl kU eY u) ?_;refine da (a8 1 false rfl iq rfl) ?_;refine da (ao (t:=(.slice (.int .i64))) rfl bR rfl) ?_;refine da (am rfl l6) ?_;refine ea 1 (ai rfl cj dF rfl) ?_;obtain⟨r7,y,h⟩:=aa h;refine db (ak [.tmp 27,.tmp 29] rfl rfl zQ rfl (iN k x6.1 a1.1 r7 y)) ?_;refine da (am rfl bu) ?_;refine ea 2 (ai rfl dM dF rfl) ?_;refine da (am rfl l6) ?_;refine ea 1 (ai rfl cj dF rfl) ?_;obtain⟨x8,n,h⟩:=aa h;refine db (aC (t:=aJ) rfl kU eY n) ?_;refine da (a8 1 false rfl iq rfl) ?_;refine da (ao (t:=(.slice (.int .i64))) rfl bR rfl) ?_;refine da (am rfl l6) ?_;refine ea 0 (ai rfl cj dF rfl) ?_;refine df bw ?_;obtain⟨r9,x,h⟩:=aa h;refine jb (ak [.tmp 37,.tmp 39] rfl rfl zQ rfl (iN k x8.1 a2.1 r9 x)) ?_;refine aq ?_;refine aq (nt (aj (sr ?_)));refine fl rm ?_;refine fr 1 ?_;refine lo qU ?_;refine ja (eE rfl) ?_;refine nt (cw h (fun h=>?_) (fun h=>?_))
  ·refine ay (Z:=Unit) (α:=Bool) (fun l e=>[(6,.eq (.bool e))]) (fun l e=>[]) h (fun K h=>?_) (fun l e h=>?_)
   ·refine ah ?_;iterate 2 refine mq ?_
    refine aM (s:=45) rfl (fun hb=>?_) (fun hb=>?_)
    ·replace h:=bY (uc hb) h;iterate 2 refine gn ?_
     refine gu ?_;refine gu ?_;refine gn ?_;refine pt ?_;refine aq (nl ?_);exact jz ((),true) h []
    ·replace h:=bj (ud hb) h;refine gm ?_;refine gm ?_;refine aM (s:=47) rfl (fun hb=>?_) (fun hb=>?_)
     ·replace h:=bY (uc hb) h;refine ga (am rfl rm) ?_;refine fr 1 ?_;refine bO rfl rfl rfl rfl rfl rfl (ai rfl qU dF rfl) ⟨rfl,trivial⟩ ?_;refine gb (dw rfl) ?_;refine pf ?_;refine aq (nl ?_);exact jz ((),a2.2) h []
     ·replace h:=bj (ud hb) h;iterate 2 refine gn ?_
      refine gb (dV rfl) ?_;refine pf ?_;refine aq (nl ?_);exact jz ((),false) h []
   ·refine rx ?_;cases h;exact ra
  ·refine sk (ay (Z:=Unit) (α:=Bool) (fun j c=>[(6,.eq (.bool c))]) (fun j c=>[]) h (fun K h=>?_) (fun j c h=>?_))
   ·refine ah ?_;iterate 2 refine mq ?_
    refine aM (s:=53) rfl (fun hb=>?_) (fun hb=>?_)
    ·replace h:=bY (uc hb) h;refine ga (am rfl rm) ?_;refine fr 1 ?_;refine bO rfl rfl rfl rfl rfl rfl (ai rfl qU dF rfl) ⟨rfl,trivial⟩ ?_;refine pt ?_;refine aq (nl ?_);exact jz ((),a2.2) h []
    ·replace h:=bj (ud hb) h;iterate 2 refine gn ?_
     refine pf ?_;refine aq (nl ?_);exact jz ((),false) h []
   ·refine aG ?_;cases h;exact ra
def iH(k:Nat)(a0:(List ap))(a1:Int):Nat→Int→Option (Except Int Unit)
 |0,_=>none
 |n+1,y3=>
  if y3 < (a0.length:Int) then((aL a0 y3).bind fun x5=>
  if x5.1=a1 then(some (.error y3)) else((ck (y3+1)).bind fun x6=>
  iH k a0 a1 n x6)) else(some (.ok ()))
def ot(k:Nat)(a0:(List ap))(a1:Int):Option Int:=
 bE (α:=Unit) (iH k a0 a1 k 0) (some) fun _=>
 some (-1:Int)
theorem u4(k:Nat)(a0:(List ap))(a1:Int)(r:Int)(h:ot k a0 a1=some r):
 bQ Tryz.prog 108 [Rs aB a0,I a1] [] (fun _:Unit=>(bG [I r],[])):=by
 unfold ot at h
 replace h:=bi h
 refine bQ.of 20 Tryz.func108 rfl Tryz.ntmps108 rfl fun S w0=>?_
 refine sr ?_
 refine cq ?_
 refine nt ?_
 refine cE (Z:=Unit) (α:=Unit) (fun z2 x1=>[]) (fun z2 x1=>[]) (fun e=>e=r) h (fun e h=>Option.some.inj h) (fun K hR h=>?_) (fun z2 x1 h=>?_)
 ·
  refine sr (cq (nt (al ?_)));refine aD (fun z4 y3=>[(0,Rs aB a0),(1,I a1),(5,I y3)]) (fun z4 y3=>[]) (iH k a0 a1) k () 0 (fun _=>rfl) h (SE.fin [] ⟨rfl,rfl,rfl,trivial⟩ rfl) (fun n z4 y3 h=>?_);unfold iH at h;refine aj (sr ?_);iterate 2 refine mq ?_
  refine ol rR ?_;refine jb (ba rfl) ?_;refine nt (ci h (fun h=>?_) (fun h=>?_))
  ·refine sk (aj (al (sr ?_)));iterate 2 refine mq ?_
   obtain⟨x5,j,h⟩:=aa h;refine jb (aC (t:=aB) rfl rR j0 j) ?_;refine ja (a8 1 false rfl gY rfl) ?_;refine ja (ao (t:=(.int .i64)) rfl cj rfl) ?_;refine mq ?_;refine jb (cM rfl) ?_;refine nt (ci h (fun h=>?_) (fun h=>?_))
   ·refine sr (mq ?_);refine aq (nt (aG (br (aV (aR ?_)))));obtain rfl:=hR _ h;exact ra
   ·refine aU (aO (tn (ah (mq ?_))));obtain⟨x6,c,h⟩:=aa h;refine jb (bh rfl c) ?_;refine aq (nl ?_);exact jz ((),x6) h []
  ·refine xa ?_;exact jz ((),()) h []
 ·
  refine sr (cq (nt (aG ?_)));cases h;exact ra
def ta(k:Nat)(a0:ae)(a1:ax)(a2:cZ):Option Bool:=
 (aL a0.1 a2.1).bind fun x4=>
 (((g9 k a1.1 a2.1).bind fun r7=>
 if r7=true then(if x4.2.2.2.1=0 then(some true) else(if a1.2.1=0 then(some true) else(some (decide (x4.2.2.2.1=a1.2.1))))) else(some false)):Option (Bool)).bind fun x5=>
 some x5
theorem CV(k:Nat)(a0:ae)(a1:ax)(a2:cZ)(r:Bool)(h:ta k a0 a1 a2=some r):
 bQ Tryz.prog 109 [.rep ag a0,.rep aw a1,.rep cH a2] [] (fun _:Unit=>(bG [.eq (.bool r)],[])):=by
 unfold ta at h
 replace h:=bi h
 refine bQ.of 35 Tryz.func109 rfl Tryz.ntmps109 rfl fun S w0=>?_
 refine sr ?_
 refine bx fun b1=>?_
 refine bx fun b2=>?_
 refine bx fun b3=>?_
 refine cq ?_
 refine nt ?_
 refine sr ?_
 refine fl bu ?_
 refine fr 2 ?_
 refine lo dM ?_
 refine fl l6 ?_
 refine fr 1 ?_
 refine lo cj ?_
 obtain⟨x4,c,h⟩:=aa h
 refine jb (aC (t:=aJ) rfl kU eY c) ?_
 refine ja (a8 1 false rfl sx rfl) ?_
 refine ja (ao (t:=(.int .i64)) rfl cj rfl) ?_
 refine aq ?_
 refine nt ?_
 refine ay (Z:=Unit) (α:=Bool) (fun z6 x5=>[(6,.eq (.bool x5))]) (fun z6 x5=>[]) h (fun K h=>?_) (fun z6 x5 h=>?_)
 ·
  refine ah (fl eU ?_);refine fr 2 ?_;refine lo bR ?_;refine fl l6 ?_;refine fr 1 ?_;refine lo cj ?_;obtain⟨r7,e,h⟩:=aa h;refine jb (ak [.tmp 16,.tmp 18] rfl rfl zQ rfl (iN k a1.1 a2.1 r7 e)) ?_;refine mq ?_;refine aM (s:=20) rfl (fun hb=>?_) (fun hb=>?_)
  ·replace h:=bY (uc hb) h;refine gm ?_;refine gb (cM rfl) ?_;refine gm ?_;refine aM (s:=23) rfl (fun hb=>?_) (fun hb=>?_)
   ·replace h:=bY (oQ hb) h;iterate 3 refine gn ?_
    refine gb (dw rfl) ?_;refine gm ?_;iterate 4 refine gn ?_
    refine gb (dw rfl) ?_;refine pt ?_;refine aq (nl ?_);exact jz ((),true) h []
   ·replace h:=bj (oR hb) h;refine ga (am rfl qA) ?_;refine fr 1 ?_;refine bO rfl rfl rfl rfl rfl rfl (ai rfl cj dF rfl) ⟨rfl,trivial⟩ ?_;refine gb (cM rfl) ?_;refine gb (dV rfl) ?_;refine gm ?_;refine aM (s:=28) rfl (fun hb=>?_) (fun hb=>?_)
    ·replace h:=bY (oQ hb) h;iterate 4 refine gn ?_
     refine gb (dw rfl) ?_;refine pt ?_;refine aq (nl ?_);exact jz ((),true) h []
    ·replace h:=bj (oR hb) h;refine gm ?_;refine ga (am rfl qA) ?_;refine bO rfl rfl rfl rfl rfl rfl (ai rfl cj dF rfl) ⟨rfl,trivial⟩ ?_;refine gb (cM rfl) ?_;refine gb (dV rfl) ?_;refine pt ?_;refine aq (nl ?_);exact jz ((),decide (x4.2.2.2.1=a1.2.1)) h []
  ·replace h:=bj (ud hb) h;iterate 3 refine gn ?_
   refine gu ?_;refine gu ?_;refine gu ?_;iterate 2 refine gn ?_
   refine gu ?_;refine gu ?_;refine gu ?_;refine gu ?_;refine gn ?_;refine pf ?_;refine aq (nl ?_);exact jz ((),false) h []
 ·
  refine aG ?_;cases h;exact ra
def dT(k:Nat)(a0:ae)(a1:(List ap))(a2:ap)(r3:(List cZ)):Nat→Int→Option (Except Int Unit)
 |0,_=>none
 |n+1,c=>
  if c < (r3.length:Int) then((((aL r3 c).bind fun j=>
  (aL r3 a2.1).bind fun h=>
  (lK k a0 j h).bind fun s=>
  if s=true then((ot k a1 c).bind fun r=>
  some (decide (r < 0))) else(some false)):Option (Bool)).bind fun l=>
  if l=true then(some (.error 5)) else((ck (c+1)).bind fun e=>
  dT k a0 a1 a2 r3 n e)) else(some (.ok ()))
def j8(k:Nat)(a0:ae)(a1:(List ap))(a2:ap):Option Int:=
 (jG k a0).bind fun r3=>
 (ck ((r3.length:Int) - 1)).bind fun x4=>
 (dy k a2.1 0 x4).bind fun r5=>
 if¬(r5=true) then(some 3) else((ot k a1 a2.1).bind fun r6=>
 if 0≤r6 then(some 4) else((ck ((a0.2.1.length:Int) - 1)).bind fun x7=>
 (dy k a2.2 0 x7).bind fun r8=>
 if¬(r8=true) then(some 3) else((aL a0.2.1 a2.2).bind fun x9=>
 (aL r3 a2.1).bind fun c=>
 (ta k a0 x9 c).bind fun e=>
 if¬(e=true) then(some 8) else(bE (α:=Unit) (dT k a0 a1 a2 r3 k 0) (some) fun _=>
 some 0))))
theorem un(k:Nat)(a0:ae)(a1:(List ap))(a2:ap)(r:Int)(h:j8 k a0 a1 a2=some r):
 bQ Tryz.prog 100 [.rep ag a0,Rs aB a1,.rep aB a2] [] (fun _:Unit=>(bG [I r],[])):=by
 unfold j8 at h
 replace h:=bi h
 refine bQ.of 68 Tryz.func100 rfl Tryz.ntmps100 rfl fun S w0=>?_
 refine sr ?_
 refine bx fun b1=>?_
 refine bx fun b2=>?_
 refine cq ?_
 refine nt ?_
 refine sr ?_
 refine fr 1 ?_
 refine lo bL ?_
 obtain⟨r3,QG,h⟩:=aa h
 have QJ:=k7 k a0 r3 QG
 refine ja (ak [.tmp 9] rfl rfl Iq rfl QJ) ?_
 refine aq ?_
 refine nt ?_
 refine aj ?_
 refine sr ?_
 refine fl gY ?_
 refine fr 1 ?_
 refine lo cj ?_
 refine mq ?_
 refine ol uX ?_
 obtain⟨x4,QC,h⟩:=aa h
 refine jb (g7 rfl QC) ?_
 obtain⟨r5,QF,h⟩:=aa h
 have QH:=ep k a2.1 0 x4 r5 QF
 refine jc (ak [.tmp 12,.const (.int .i64 (0)),.tmp 15] rfl rfl yg rfl QH) ?_
 refine ja (eE rfl) ?_
 refine nt ?_
 refine cw h (fun h=>?_) (fun h=>?_)
 ·
  refine sr (cq (nt (rx ?_)));cases h;exact ra
 ·
  refine sk (aj (sr (mq ?_)));refine fl gY ?_;refine lo cj ?_;obtain⟨r6,QE,h⟩:=aa h;refine jb (ak [.tmp 18,.tmp 20] rfl rfl LR rfl (u4 k a1 a2.1 r6 QE)) ?_;refine jb (mE rfl) ?_;refine nt (ci h (fun h=>?_) (fun h=>?_))
  ·refine sr (cq (nt (rx ?_)));cases h;exact ra
  ·refine sk (aj (sr (fl px ?_)));refine lo cj ?_;refine fl bA ?_;refine fr 1 ?_;refine lo eu ?_;refine ol l8 ?_;obtain⟨x7,QB,h⟩:=aa h;refine jb (g7 rfl QB) ?_;obtain⟨r8,QD,h⟩:=aa h;refine jc (ak [.tmp 24,.const (.int .i64 (0)),.tmp 28] rfl rfl yg rfl (ep k a2.2 0 x7 r8 QD)) ?_;refine ja (eE rfl) ?_;refine nt (cw h (fun h=>?_) (fun h=>?_))
   ·refine sr (cq (nt (rx ?_)));cases h;exact ra
   ·refine sk (aj (aj (a6 ?_)));refine ea 0 (ai rfl bL (sn) rfl) ?_;refine da (am rfl bA) ?_;refine ea 0 (ai rfl eu dF rfl) ?_;refine da (am rfl px) ?_;refine ea 1 (ai rfl cj dF rfl) ?_;obtain⟨x9,QA,h⟩:=aa h;refine db (aC (t:=aw) rfl l8 eI QA) ?_;refine da (ao (t:=aw) rfl eI rfl) ?_;refine dm ?_;refine da (am rfl gY) ?_;refine ea 1 (ai rfl cj dF rfl) ?_;obtain⟨ac,J,h⟩:=aa h;refine db (aC (t:=cH) rfl uX mB J) ?_;refine da (ao (t:=cH) rfl mB rfl) ?_;refine df bw ?_;obtain⟨se,Q,h⟩:=aa h;refine jc (ak [.tmp 31,.tmp 37,.tmp 42] rfl rfl On rfl (CV k a0 x9 ac se Q)) ?_;refine ja (eE rfl) ?_;refine nt (cw h (fun h=>?_) (fun h=>?_))
    ·refine sr (cq (nt (rx ?_)));cases h;exact ra
    ·refine sk (cE (Z:=Unit) (α:=Unit) (fun u x=>[]) (fun u x=>[]) (fun e=>e=r) h (fun e h=>Option.some.inj h) (fun K hR h=>?_) (fun u x h=>?_))
     ·refine sr (cq (nt (al ?_)));refine aD (fun s c=>[(1,Rs aB a1),(3,Pt b1),(5,Pt b2),(7,Rs cH r3),(8,I c)]) (fun s c=>[.obj b1 26 (.rep ag a0),.obj b2 99 (.rep aB a2)]) (dT k a0 a1 a2 r3) k () 0 (fun _=>rfl) h (SE.fin [0,1] ⟨rfl,rfl,rfl,rfl,rfl,trivial⟩ rfl) (fun n s c h=>?_);unfold dT at h;refine aj (sr ?_);iterate 2 refine mq ?_
      refine ol uX ?_;refine jb (ba rfl) ?_;refine nt (ci h (fun h=>?_) (fun h=>?_))
      ·refine sk (aj (al (ay (Z:=Unit) (α:=Bool) (fun l j=>[(1,Rs aB a1),(3,Pt b1),(5,Pt b2),(7,Rs cH r3),(8,I c),(67,.eq (.bool j))]) (fun l j=>[.obj b1 26 (.rep ag a0),.obj b2 99 (.rep aB a2)]) h (fun K h=>?_) (fun l j h=>?_))))
       ·refine a6 ?_;refine ea 0 (ai rfl bL (sn) rfl) ?_;refine dm ?_;refine dm ?_;obtain⟨Y,F,h⟩:=aa h;refine db (aC (t:=cH) rfl uX mB F) ?_;refine da (ao (t:=cH) rfl mB rfl) ?_;refine dm ?_;refine da (am rfl gY) ?_;refine ea 1 (ai rfl cj dF rfl) ?_;obtain⟨X,E,h⟩:=aa h;refine db (aC (t:=cH) rfl uX mB E) ?_;refine da (ao (t:=cH) rfl mB rfl) ?_;obtain⟨mc,O,h⟩:=aa h;refine dc (ak [.tmp 51,.tmp 55,.tmp 60] rfl rfl LU rfl (rP k a0 Y X mc O)) ?_;refine l9 rfl rfl rfl (bg rfl) ⟨rfl,trivial⟩ (fun hb=>?_) (fun hb=>?_)
        ·replace h:=bY (uc hb) h;refine bm rfl rfl rfl rfl rfl (bg rfl) ⟨rfl,rfl,trivial⟩ ?_;refine bm rfl rfl rfl rfl rfl (bg rfl) ⟨rfl,rfl,trivial⟩ ?_;refine df bw ?_;obtain⟨y,M,h⟩:=aa h;refine gb (ak [.tmp 63,.tmp 64] rfl rfl LR rfl (u4 k a1 c y M)) ?_;refine gb (ba rfl) ?_;refine pt (nl ?_);exact jz ((),decide (y < 0)) h [0,1]
        ·replace h:=bj (ud hb) h;iterate 2 refine dg ?_
         refine df bw ?_;iterate 2 refine gn ?_
         refine pf (nl ?_);exact jz ((),false) h [0,1]
       ·refine cv h (fun h=>?_) (fun h=>?_)
        ·refine sr (cq (nt (aG (br (aV (aR ?_))))));obtain rfl:=hR _ h;exact ra
        ·refine aU (aO (tn (ah (mq ?_))));obtain⟨U,D,h⟩:=aa h;refine jb (bh rfl D) ?_;refine aq (nl ?_);exact jz ((),U) h [0,1]
      ·refine xa ?_;exact jz ((),()) h []
     ·refine sr (cq (nt (aG ?_)));cases h;exact ra
def gd(k:Nat)(a0:ae)(a1:(List ap))(self:ae→(List ap)→Option ((List (List ap))))(y5:(List (List ap))×Int):Nat→((List (List ap))×Int)→Option (List (List ap))
 |0,_=>none
 |n+1,y9=>
  if y9.2 < (a0.2.1.length:Int) then((((j8 k a0 a1 (y5.2,y9.2)).bind fun j=>
  if j=0 then((cF (cx (List.length ([]:(List ap))+List.length a1))).bind fun _=>
  (cF (cx (List.length (([]:(List ap))++a1)+List.length [(y5.2,y9.2)]))).bind fun _=>
  (self a0 ((([]:(List ap))++a1)++[(y5.2,y9.2)])).bind fun c=>
  (cF (cx (List.length y9.1+List.length c))).bind fun _=>
  some (y9.1++c)) else(some y9.1)):Option ((List (List ap)))).bind fun h=>
  (ck (y9.2+1)).bind fun e=>
  gd k a0 a1 self y5 n (h,e)) else(some y9.1)
def iM(k:Nat)(a0:ae)(a1:(List ap))(self:ae→(List ap)→Option ((List (List ap))))(r2:(List cZ)):Nat→((List (List ap))×Int)→Option (List (List ap))
 |0,_=>none
 |n+1,y5=>
  if y5.2 < (r2.length:Int) then(((gd k a0 a1 self y5 k (y5.1,0)):Option ((List (List ap)))).bind fun x7=>
  (ck (y5.2+1)).bind fun c=>
  iM k a0 a1 self r2 n (x7,c)) else(some y5.1)
def ig(k:Nat):Nat→ae→(List ap)→Option ((List (List ap)))
 |0,_,_=>none
 |m0+1,a0,a1=>
  (jG k a0).bind fun r2=>
  if(a1.length:Int)=(r2.length:Int) then(some [a1]) else(((iM k a0 a1 (ig k m0) r2 k (([]:(List (List ap))),0)):Option ((List (List ap)))).bind fun x3=>
  some x3)
theorem zm(k:Nat):
 ∀(n:Nat) (a0:ae) (a1:(List ap)) (r:(List (List ap))),ig k n a0 a1=some r→bQ Tryz.prog 85 [.rep ag a0,Rs aB a1] ([]) (fun _:Unit=>(bG [.rep (.slice (.slice aB)) r],[])):=by
 intro n
 induction n with
 |zero=>intro a0 a1 r h;cases h
 |succ m0 ih=>
  intro a0 a1 r h;rw [ig] at h;replace h:=bi h;refine bQ.of 51 Tryz.func85 rfl Tryz.ntmps85 rfl fun S w0=>?_;refine sr (bx fun b1=>?_);refine cq (nt (sr ?_));refine lo bL ?_;obtain⟨r2,QD,h⟩:=aa h;refine ja (ak [.tmp 10] rfl rfl Iq rfl (k7 k a0 r2 QD)) ?_;refine aq (nt (aj (sr ?_)));refine mq ?_;refine ol rR ?_;refine mq ?_;refine ol uX ?_;refine jb (cM rfl) ?_;refine nt (ci h (fun h=>?_) (fun h=>?_))
  ·refine sr (mq ?_);refine ja (bv (t:=(.slice aB)) [(.tmp 17,_)] [a1] rfl rfl LK (.cons rfl .rep .nil) rfl rfl) ?_;refine aq (nt (rx ?_));cases h;exact ra
  ·refine sk (sr (cq (nt ?_)));refine ay (Z:=Value) (α:=(List (List ap))) (fun z4 x3=>[(6,.eq z4)]) (fun z4 x3=>[.sl z4 49 (.slice aB) x3]) h (fun K h=>?_) (fun z4 x3 h=>?_)
   ·refine sr (cq (nt (al ?_)));refine eL (SE.nil 49 (.slice aB)) ?_;refine aD (fun z6 y5=>[(1,Rs aB a1),(2,Pt b1),(5,Rs cH r2),(6,.eq z6),(7,I y5.2)]) (fun z6 y5=>[.obj b1 26 (.rep ag a0),.sl z6 49 (.slice aB) y5.1]) (iM k a0 a1 (ig k m0) r2) k (.slice none 0 0) (([]:(List (List ap))),0) (fun _=>rfl) h (SE.fin [1,0] ⟨rfl,rfl,rfl,rfl,rfl,trivial⟩ rfl) (fun n z6 y5 h=>?_);unfold iM at h;refine aj (sr ?_);iterate 2 refine mq ?_
    refine ol uX ?_;refine jb (ba rfl) ?_;refine nt (ci h (fun h=>?_) (fun h=>?_))
    ·refine sk (ay (Z:=Value) (α:=(List (List ap))) (fun z8 x7=>[(1,Rs aB a1),(2,Pt b1),(5,Rs cH r2),(6,.eq z8),(7,I y5.2)]) (fun z8 x7=>[.obj b1 26 (.rep ag a0),.sl z8 49 (.slice aB) x7]) h (fun K h=>?_) (fun z8 x7 h=>?_))
     ·refine al (sr (cq (nt (al ?_))));refine aD (fun c y9=>[(1,Rs aB a1),(2,Pt b1),(5,Rs cH r2),(6,.eq c),(7,I y5.2),(8,I y9.2)]) (fun c y9=>[.obj b1 26 (.rep ag a0),.sl c 49 (.slice aB) y9.1]) (gd k a0 a1 (ig k m0) y5) k z6 (y5.1,0) (fun _=>rfl) h (SE.fin [0,1] ⟨rfl,rfl,rfl,rfl,rfl,rfl,trivial⟩ rfl) (fun n c y9 h=>?_);unfold gd at h;refine aj (sr (mq ?_));refine fl bA ?_;refine lo eu ?_;refine ol l8 ?_;refine jb (ba rfl) ?_;refine nt (ci h (fun h=>?_) (fun h=>?_))
      ·refine sk (ay (Z:=Value) (α:=(List (List ap))) (fun e j=>[(1,Rs aB a1),(2,Pt b1),(5,Rs cH r2),(6,.eq e),(7,I y5.2),(8,I y9.2)]) (fun e j=>[.obj b1 26 (.rep ag a0),.sl e 49 (.slice aB) j]) h (fun K h=>?_) (fun e j h=>?_))
       ·refine al (sr ?_);iterate 2 refine mq ?_
        refine jb (cR [(0,.tmp 32,_),(1,.tmp 33,_)] rfl C0 vn xy (iF ⟨rfl,rfl,trivial⟩) rfl) ?_;refine aA rfl rfl rfl (aF rfl vn IN) trivial fun QE=>?_;refine aK rfl rfl (aE rfl j0 trivial rfl rfl) ⟨rfl,rfl,trivial⟩ ?_;refine nt (sr (fr 1 ?_));refine lo bL ?_;refine mq ?_;refine fr 1 ?_;refine lo j0 ?_;obtain⟨Y,J,h⟩:=aa h;refine jc (gJ (N:=[(.tmp 35,.rep ag a0),(.tmp 36,Rs aB a1),(.tmp 37,.agg (.pair (I y5.2) (I y9.2)))]) (ak [.tmp 35,.tmp 36,.tmp 37] rfl rfl Oo rfl (un k a0 a1 (y5.2,y9.2) Y J)) fun _ _ _ hn=>⟨hn.1,hn.2.1,(fe (t:=aB) (x:=(y5.2,y9.2)) (.agg (.pair .int .int)) trivial rfl hn.2.2.1),trivial⟩) ?_;refine jb (cM rfl) ?_;refine nt (ci h (fun h=>?_) (fun h=>?_))
        ·refine Gq [0,1,3,5,6,2,4,7,8,9,10] (by kernel_rfl) ?_;refine aP rfl rfl rfl (bg rfl) ⟨rfl,trivial⟩ ?_;refine fy 1 rfl rfl rfl rfl (ai rfl bL (sn) rfl) ⟨rfl,trivial⟩ ?_;refine aP rfl rfl rfl (bg rfl) ⟨rfl,trivial⟩ ?_;refine fy 0 rfl rfl rfl rfl (ai rfl j0 (sn) rfl) ⟨rfl,trivial⟩ ?_;refine aP rfl rfl rfl (bv (t:=aB) [(.tmp 45,_)] [(y5.2,y9.2)] rfl rfl zh (.cons trivial (.agg (.pair .int .int)) .nil) rfl rfl) ⟨rfl,trivial⟩ ?_;refine kx (fun v=>[.sl v 99 aB ([]:(List ap))]) (fun _=>rfl) rfl rfl rfl (lO (t:=aB) [] ([]:(List ap)) rfl rfl zh .nil rfl rfl) trivial ?_;refine mA 6 [false,false,true,false,false,true] [44,47,48] [1,0] [.obj b1 26 (.rep ag a0),.obj QE 99 (.agg (.pair (I y5.2) (I y9.2)))] rfl (by kernel_rfl) (by kernel_rfl) (by kernel_rfl) bw (fun vs hv hB=>?_);obtain⟨w0,QL,rfl,QC⟩:=ar hv;obtain⟨w1,QK,rfl,QB⟩:=ar QC;obtain⟨w2,QJ,rfl,QA⟩:=ar QB;obtain⟨w3,QH,rfl,se⟩:=ar QA;obtain⟨w4,QG,rfl,mc⟩:=ar se;obtain⟨X,QF,rfl,ac⟩:=ar mc;obtain rfl:=kp ac;refine⟨[1,0,2,3],[.sl c 49 (.slice aB) y9.1,.sl X 99 aB ([]:(List ap))],by kernel_rfl,by decide,?_⟩;obtain⟨u16,E,h⟩:=aa h;refine i7 1 rfl ?_;refine I3 rfl rfl rfl rfl (bI rfl rfl zh (av E)) ⟨rfl,rfl,trivial⟩ (by kernel_rfl) fun QM=>?_;obtain⟨QO,D,h⟩:=aa h;refine I3 rfl rfl rfl rfl (bI rfl rfl zh (av D)) ⟨rfl,rfl,trivial⟩ (by kernel_rfl) fun U=>?_;obtain⟨l,F,h⟩:=aa h;refine I5 (Δu:=[_]) rfl rfl rfl rfl (Lp (N:=[(.tmp 41,.rep ag a0),(.tmp 47,.eq U)]) (ak [.tmp 41,.tmp 47] rfl rfl Oc rfl (ih a0 ((([]:(List ap))++a1)++[(y5.2,y9.2)]) l F)) (fun _ _ _ hv hn=>⟨hn.1,(HY hn.2.1 hv),trivial⟩)) ⟨rfl,rfl,trivial⟩ (by kernel_rfl) fun _=>?_;refine xF (by kernel_rfl) ?_;obtain⟨QN,y,h⟩:=aa h;refine fr 2 ?_;refine dE rfl rfl rfl (bI rfl rfl LK (av y)) ⟨rfl,rfl,trivial⟩ fun Q=>?_;refine aq (aT (bn ?_));exact jz (Q,y9.1++l) h [1,0]
        ·refine aU (bn ?_);exact jz (c,y9.1) h [1,2]
       ·refine ah (mq ?_);obtain⟨O,u,h⟩:=aa h;refine jb (bh rfl u) ?_;refine aq (nl ?_);exact jz (e,(j,O)) h [0,1]
      ·refine eD (bf (bf (cg (bn ?_))));exact jz (c,y9.1) h [0,1]
     ·refine ah (mq ?_);obtain⟨M,s,h⟩:=aa h;refine jb (bh rfl s) ?_;refine aq (nl ?_);exact jz (z8,(x7,M)) h [0,1]
    ·refine xa ?_;exact jz (z6,y5.1) h [1]
   ·refine sr (mq ?_);refine aq (nt (aG ?_));refine bC (nu [4,6,50] ⟨rfl,rfl,rfl,trivial⟩) ?_;cases h;exact ra
def ou(k:Nat)(a0:ae):Option (List (List ap)):=
 (ig k k a0 ([]:(List ap))).bind fun r2=>
 some r2
theorem zo(k:Nat)(a0:ae)(r:(List (List ap)))(h:ou k a0=some r):
 bQ Tryz.prog 69 [.rep ag a0] [] (fun _:Unit=>(bG [.rep (.slice (.slice aB)) r],[])):=by
 unfold ou at h
 replace h:=bi h
 refine bQ.of 5 Tryz.func69 rfl Tryz.ntmps69 rfl fun S w0=>?_
 refine sr ?_
 refine bx fun b1=>?_
 refine cq ?_
 refine nt ?_
 refine sr ?_
 refine lo bL ?_
 obtain⟨r2,c,h⟩:=aa h
 have e:=zm k k a0 ([]:(List ap)) r2 c
 refine jb (gJ (N:=[(.tmp 3,.rep ag a0),(.const (.slice none 0 0),.eq (.slice none 0 0))]) (ak [.tmp 3,.const (.slice none 0 0)] rfl rfl Oc rfl e) fun _ _ _ hn=>⟨hn.1,(fe (t:=(.slice aB)) (x:=([]:(List ap))) .nil rfl rfl hn.2.1),trivial⟩) ?_
 refine aq ?_
 refine nt ?_
 refine aG ?_
 cases h
 exact ra
def mQ(k:Nat)(a0:ae)(a1:cZ):Option Int:=
 if a1.2=true then((aL a0.1 a1.1).bind fun x3=>
 some x3.2.2.1) else((aL a0.1 a1.1).bind fun x4=>
 some x4.2.1)
theorem sY(k:Nat)(a0:ae)(a1:cZ)(r:Int)(h:mQ k a0 a1=some r):
 bQ Tryz.prog 87 [.rep ag a0,.rep cH a1] [] (fun _:Unit=>(bG [I r],[])):=by
 unfold mQ at h
 replace h:=bi h
 refine bQ.of 21 Tryz.func87 rfl Tryz.ntmps87 rfl fun S w0=>?_
 refine sr ?_
 refine bx fun b1=>?_
 refine bx fun b2=>?_
 refine cq ?_
 refine nt ?_
 refine aj ?_
 refine sr ?_
 refine fl rm ?_
 refine lo qU ?_
 refine nt ?_
 refine cv h (fun h=>?_) (fun h=>?_)
 ·
  refine sr (fl bu ?_);refine fr 1 ?_;refine lo dM ?_;refine fl l6 ?_;refine fr 1 ?_;refine lo cj ?_;obtain⟨x3,e,h⟩:=aa h;refine jb (aC (t:=aJ) rfl kU eY e) ?_;refine ja (a8 1 false rfl uM rfl) ?_;refine ja (ao (t:=(.int .i64)) rfl cj rfl) ?_;refine aq (nt (rx ?_));cases h;exact ra
 ·
  refine sk (sr (fl bu ?_));refine fr 1 ?_;refine lo dM ?_;refine fl l6 ?_;refine fr 1 ?_;refine lo cj ?_;obtain⟨x4,c,h⟩:=aa h;refine jb (aC (t:=aJ) rfl kU eY c) ?_;refine ja (a8 1 false rfl uN rfl) ?_;refine ja (ao (t:=(.int .i64)) rfl cj rfl) ?_;refine aq (nt (aG ?_));cases h;exact ra
def fA(k:Nat)(a0:ae)(a1:(List ap))(r2:(List cZ))(y5:(List Int)×Int)(e:cZ):Nat→(Int×Int)→Option Int
 |0,_=>none
 |n+1,c=>
  if c.2 < y5.2 then((((aL y5.1 c.2).bind fun E=>
  (aL a1 c.2).bind fun D=>
  (aL r2 D.1).bind fun y=>
  (mQ k a0 y).bind fun J=>
  (ck (E+J)).bind fun x=>
  (((aL a1 c.2).bind fun s=>
  (aL a1 y5.2).bind fun r=>
  if s.2=r.2 then(some true) else((aL a1 c.2).bind fun l=>
  (aL r2 l.1).bind fun j=>
  (lK k a0 j e).bind fun I=>
  some I)):Option (Bool)).bind fun u=>
  if u=true then(some (kD c.1 x)) else(some c.1)):Option (Int)).bind fun F=>
  (ck (c.2+1)).bind fun h=>
  fA k a0 a1 r2 y5 e n (F,h)) else(some c.1)
def gU(k:Nat)(a0:ae)(a1:(List ap))(r2:(List cZ)):Nat→((List Int)×Int)→Option (List Int)
 |0,_=>none
 |n+1,y5=>
  if y5.2 < (a1.length:Int) then((((aL a1 y5.2).bind fun x9=>
  (aL r2 x9.1).bind fun l=>
  (aL a1 y5.2).bind fun j=>
  (aL a0.2.1 j.2).bind fun h=>
  ((fA k a0 a1 r2 y5 l k (h.2.2,0)):Option (Int)).bind fun c=>
  (cF (cx (List.length y5.1+List.length [c]))).bind fun _=>
  some (y5.1++[c])):Option ((List Int))).bind fun x7=>
  (ck (y5.2+1)).bind fun e=>
  gU k a0 a1 r2 n (x7,e)) else(some y5.1)
def m8(k:Nat)(a0:ae)(a1:(List ap)):Option (List Int):=
 (jG k a0).bind fun r2=>
 ((gU k a0 a1 r2 k (([]:(List Int)),0)):Option ((List Int))).bind fun x3=>
 some x3
theorem xR(k:Nat)(a0:ae)(a1:(List ap))(r:(List Int))(h:m8 k a0 a1=some r):
 bQ Tryz.prog 86 [.rep ag a0,Rs aB a1] [] (fun _:Unit=>(bG [Ri r],[])):=by
 unfold m8 at h
 replace h:=bi h
 refine bQ.of 90 Tryz.func86 rfl Tryz.ntmps86 rfl fun S w0=>?_
 refine sr ?_
 refine bx fun b1=>?_
 refine cq ?_
 refine nt ?_
 refine sr ?_
 refine lo bL ?_
 obtain⟨r2,QQ,h⟩:=aa h
 have QR:=k7 k a0 r2 QQ
 refine ja (ak [.tmp 12] rfl rfl Iq rfl QR) ?_
 refine aq ?_
 refine nt ?_
 refine sr ?_
 refine cq ?_
 refine nt ?_
 refine ay (Z:=Value) (α:=(List Int)) (fun z4 x3=>[(6,.eq z4)]) (fun z4 x3=>[.sl z4 3 (.int .i64) x3]) h (fun K h=>?_) (fun z4 x3 h=>?_)
 ·
  refine sr (cq (nt (al ?_)));refine eL (SE.nil 3 (.int .i64)) ?_;refine aD (fun z6 y5=>[(1,Rs aB a1),(2,Pt b1),(5,Rs cH r2),(6,.eq z6),(7,I y5.2)]) (fun z6 y5=>[.obj b1 26 (.rep ag a0),.sl z6 3 (.int .i64) y5.1]) (gU k a0 a1 r2) k (.slice none 0 0) (([]:(List Int)),0) (fun _=>rfl) h (SE.fin [1,0] ⟨rfl,rfl,rfl,rfl,rfl,trivial⟩ rfl) (fun n z6 y5 h=>?_);unfold gU at h;refine aj (sr ?_);iterate 2 refine mq ?_
  refine ol rR ?_;refine jb (ba rfl) ?_;refine nt (ci h (fun h=>?_) (fun h=>?_))
  ·refine sk (ay (Z:=Value) (α:=(List Int)) (fun z8 x7=>[(1,Rs aB a1),(2,Pt b1),(5,Rs cH r2),(6,.eq z8),(7,I y5.2)]) (fun z8 x7=>[.obj b1 26 (.rep ag a0),.sl z8 3 (.int .i64) x7]) h (fun K h=>?_) (fun z8 x7 h=>?_))
   ·refine al (sr ?_);iterate 3 refine mq ?_
    obtain⟨x9,QP,h⟩:=aa h;refine jb (aC (t:=aB) rfl rR j0 QP) ?_;refine ja (a8 1 false rfl gY rfl) ?_;refine ja (ao (t:=(.int .i64)) rfl cj rfl) ?_;obtain⟨l,QD,h⟩:=aa h;refine jb (aC (t:=cH) rfl uX mB QD) ?_;refine ja (ao (t:=cH) rfl mB rfl) ?_;refine aA rfl rfl rfl (aF rfl DX OC) trivial fun e=>?_;refine aK rfl rfl (aE rfl mB rfl rfl rfl) ⟨rfl,rfl,trivial⟩ ?_;refine nt (aj (a6 ?_));refine da (am rfl bA) ?_;refine ea 1 (ai rfl eu dF rfl) ?_;refine dm ?_;refine dm ?_;obtain⟨QY,QC,h⟩:=aa h;refine db (aC (t:=aB) rfl rR j0 QC) ?_;refine da (a8 1 false rfl px rfl) ?_;refine da (ao (t:=(.int .i64)) rfl cj rfl) ?_;refine df bw ?_;obtain⟨QM,QB,h⟩:=aa h;refine jb (aC (t:=aw) rfl l8 eI QB) ?_;refine ja (a8 1 false rfl od rfl) ?_;refine ja (ao (t:=(.int .i64)) rfl cj rfl) ?_;refine aq (nt ?_);refine ay (Z:=Unit) (α:=Int) (fun F j=>[(1,Rs aB a1),(2,Pt b1),(5,Rs cH r2),(6,.eq z6),(7,I y5.2),(9,I j)]) (fun F j=>[.obj b1 26 (.rep ag a0),.sl z6 3 (.int .i64) y5.1]) h (fun K h=>?_) (fun F j h=>?_)
    ·refine sr (cq (nt (al ?_)));refine aD (fun E c=>[(1,Rs aB a1),(2,Pt b1),(5,Rs cH r2),(6,.eq z6),(7,I y5.2),(8,Pt e),(9,I c.1),(10,I c.2)]) (fun E c=>[.obj b1 26 (.rep ag a0),.sl z6 3 (.int .i64) y5.1,.obj e 137 (.rep cH l)]) (fA k a0 a1 r2 y5 l) k () (QM.2.2,0) (fun _=>rfl) h (SE.fin [1,2,0] ⟨rfl,rfl,rfl,rfl,rfl,rfl,rfl,rfl,trivial⟩ rfl) (fun n E c h=>?_);unfold fA at h;refine aj (sr ?_);iterate 2 refine mq ?_
     refine jb (ba rfl) ?_;refine nt (ci h (fun h=>?_) (fun h=>?_))
     ·refine sk (ay (Z:=Unit) (α:=Int) (fun D s=>[(1,Rs aB a1),(2,Pt b1),(5,Rs cH r2),(6,.eq z6),(7,I y5.2),(8,Pt e),(9,I s),(10,I c.2)]) (fun D s=>[.obj b1 26 (.rep ag a0),.sl z6 3 (.int .i64) y5.1,.obj e 137 (.rep cH l)]) h (fun K h=>?_) (fun D s h=>?_))
      ·refine al (aj (a6 ?_));refine dm ?_;refine dm ?_;obtain⟨QX,u,h⟩:=aa h;refine eb 1 (bk (t:=(.int .i64)) rfl jt cj u) ?_;refine ea 1 (dW (i:=Int.toNat c.2) (off:=0) rfl cj (fun _=>rfl) rfl (bP u).2.2 rfl) ?_;refine ea 0 (ai rfl bL (sn) rfl) ?_;refine dm ?_;refine dm ?_;refine dm ?_;obtain⟨QW,QA,h⟩:=aa h;refine db (aC (t:=aB) rfl rR j0 QA) ?_;refine da (a8 1 false rfl gY rfl) ?_;refine da (ao (t:=(.int .i64)) rfl cj rfl) ?_;obtain⟨QL,se,h⟩:=aa h;refine db (aC (t:=cH) rfl uX mB se) ?_;refine da (ao (t:=cH) rfl mB rfl) ?_;obtain⟨QO,QG,h⟩:=aa h;refine db (ak [.tmp 47,.tmp 55] rfl rfl Ob rfl (sY k a0 QL QO QG)) ?_;refine df bw ?_;obtain⟨J,mc,h⟩:=aa h;refine jb (bh rfl mc) ?_;refine aq (nt ?_);refine ay (Z:=Unit) (α:=Bool) (fun y x=>[(1,Rs aB a1),(2,Pt b1),(5,Rs cH r2),(6,.eq z6),(7,I y5.2),(8,Pt e),(9,I c.1),(10,I c.2),(11,I J),(81,.eq (.bool x))]) (fun y x=>[.obj b1 26 (.rep ag a0),.sl z6 3 (.int .i64) y5.1,.obj e 137 (.rep cH l)]) h (fun K h=>?_) (fun y x h=>?_)
       ·refine a6 ?_;refine dm ?_;refine dm ?_;obtain⟨QU,ac,h⟩:=aa h;refine db (aC (t:=aB) rfl rR j0 ac) ?_;refine da (a8 1 false rfl px rfl) ?_;refine da (ao (t:=(.int .i64)) rfl cj rfl) ?_;refine dm ?_;refine dm ?_;obtain⟨QT,Y,h⟩:=aa h;refine db (aC (t:=aB) rfl rR j0 Y) ?_;refine da (a8 1 false rfl px rfl) ?_;refine da (ao (t:=(.int .i64)) rfl cj rfl) ?_;refine db (cM rfl) ?_;refine l9 rfl rfl rfl (bg rfl) ⟨rfl,trivial⟩ (fun hb=>?_) (fun hb=>?_)
        ·replace h:=bY (oQ hb) h;iterate 10 refine dg ?_
         refine df bw ?_;refine gn ?_;refine pt (nl ?_);exact jz ((),true) h [0,1,2]
        ·replace h:=bj (oR hb) h;refine lC 0 rfl rfl rfl rfl rfl rfl (ai rfl bL (sn) rfl) ⟨rfl,rfl,trivial⟩ ?_;refine bm rfl rfl rfl rfl rfl (bg rfl) ⟨rfl,rfl,trivial⟩ ?_;refine bm rfl rfl rfl rfl rfl (bg rfl) ⟨rfl,rfl,trivial⟩ ?_;refine bm rfl rfl rfl rfl rfl (bg rfl) ⟨rfl,rfl,trivial⟩ ?_;obtain⟨QS,X,h⟩:=aa h;refine bm rfl rfl rfl rfl rfl (aC (t:=aB) rfl rR j0 X) ⟨rfl,rfl,rfl,trivial⟩ ?_;refine bm rfl rfl rfl rfl rfl (a8 1 false rfl gY rfl) ⟨rfl,rfl,trivial⟩ ?_;refine bm rfl rfl rfl rfl rfl (ao (t:=(.int .i64)) rfl cj rfl) ⟨rfl,rfl,trivial⟩ ?_;obtain⟨QK,U,h⟩:=aa h;refine bm rfl rfl rfl rfl rfl (aC (t:=cH) rfl uX mB U) ⟨rfl,rfl,rfl,trivial⟩ ?_;refine bm rfl rfl rfl rfl rfl (ao (t:=cH) rfl mB rfl) ⟨rfl,rfl,trivial⟩ ?_;refine lC 2 rfl rfl rfl rfl rfl rfl (ai rfl mB (sn) rfl) ⟨rfl,rfl,trivial⟩ ?_;refine df bw ?_;obtain⟨M,QF,h⟩:=aa h;refine gc (ak [.tmp 70,.tmp 78,.tmp 79] rfl rfl LU rfl (rP k a0 QK l M QF)) ?_;refine pf (nl ?_);exact jz ((),M) h [0,1,2]
       ·refine cv h (fun h=>?_) (fun h=>?_)
        ·refine ah ?_;iterate 2 refine mq ?_
         refine jb (AP rfl rfl) ?_;refine aq (aT (bn ?_));exact jz ((),kD c.1 J) h [0,1,2]
        ·refine aU (bn ?_);exact jz ((),c.1) h [0,1,2]
      ·refine ah (mq ?_);obtain⟨QJ,Q,h⟩:=aa h;refine jb (bh rfl Q) ?_;refine aq (nl ?_);exact jz ((),(s,QJ)) h [0,1,2]
     ·refine xa ?_;exact jz ((),c.1) h [0,1]
    ·refine ah ?_;iterate 2 refine mq ?_
     refine ja (bv (t:=(.int .i64)) [(.tmp 86,_)] [j] rfl rfl eo (.cons rfl .int .nil) rfl rfl) ?_;obtain⟨QZ,QE,h⟩:=aa h;refine fr 1 ?_;refine dE rfl rfl rfl (bI rfl rfl eo (av QE)) ⟨rfl,rfl,trivial⟩ fun QN=>?_;refine aq (aT (bn ?_));exact jz (QN,y5.1++[j]) h [1,0]
   ·refine ah (mq ?_);obtain⟨QH,O,h⟩:=aa h;refine jb (bh rfl O) ?_;refine aq (nl ?_);exact jz (z8,(x7,QH)) h [0,1]
  ·refine xa ?_;exact jz (z6,y5.1) h [1]
 ·
  refine sr (mq ?_);refine aq (nt (aG ?_));refine bC (nu [4,6,89] ⟨rfl,rfl,rfl,trivial⟩) ?_;cases h;exact ra
def jx(k:Nat)(a0:ae)(a1:(List ap))(r2:(List cZ))(r3:(List Int)):Nat→(Int×Int)→Option Int
 |0,_=>none
 |n+1,y6=>
  if y6.2 < (a1.length:Int) then((aL r3 y6.2).bind fun x8=>
  (aL a1 y6.2).bind fun x9=>
  (aL r2 x9.1).bind fun h=>
  (mQ k a0 h).bind fun j=>
  (ck (x8+j)).bind fun e=>
  (ck (y6.2+1)).bind fun c=>
  jx k a0 a1 r2 r3 n (kD y6.1 e,c)) else(some y6.1)
def m9(k:Nat)(a0:ae)(a1:(List ap)):Option Int:=
 (jG k a0).bind fun r2=>
 (m8 k a0 a1).bind fun r3=>
 ((jx k a0 a1 r2 r3 k (0,0)):Option (Int)).bind fun x4=>
 some x4
theorem u5(k:Nat)(a0:ae)(a1:(List ap))(r:Int)(h:m9 k a0 a1=some r):
 bQ Tryz.prog 70 [.rep ag a0,Rs aB a1] [] (fun _:Unit=>(bG [I r],[])):=by
 unfold m9 at h
 replace h:=bi h
 refine bQ.of 38 Tryz.func70 rfl Tryz.ntmps70 rfl fun S w0=>?_
 refine sr ?_
 refine bx fun b1=>?_
 refine cq ?_
 refine nt ?_
 refine sr ?_
 refine cq ?_
 refine nt ?_
 refine aj ?_
 refine a6 ?_
 refine ea 0 (ai rfl bL (sn) rfl) ?_
 obtain⟨r2,J,h⟩:=aa h
 have O:=k7 k a0 r2 J
 refine da (ak [.tmp 9] rfl rfl Iq rfl O) ?_
 refine ea 0 (ai rfl bL (sn) rfl) ?_
 refine dm ?_
 refine df bw ?_
 obtain⟨r3,F,h⟩:=aa h
 have M:=xR k a0 a1 r3 F
 refine jb (ak [.tmp 11,.tmp 12] rfl rfl Pn rfl M) ?_
 refine aq ?_
 refine aq ?_
 refine nt ?_
 refine ay (Z:=Unit) (α:=Int) (fun z5 x4=>[(5,I x4)]) (fun z5 x4=>[]) h (fun K h=>?_) (fun z5 x4 h=>?_)
 ·
  refine sr (cq (nt (al ?_)));refine aD (fun z7 y6=>[(1,Rs aB a1),(2,Pt b1),(5,I y6.1),(6,Rs cH r2),(7,Ri r3),(8,I y6.2)]) (fun z7 y6=>[.obj b1 26 (.rep ag a0)]) (jx k a0 a1 r2 r3) k () (0,0) (fun _=>rfl) h (SE.fin [0] ⟨rfl,rfl,rfl,rfl,rfl,rfl,trivial⟩ rfl) (fun n z7 y6 h=>?_);unfold jx at h;refine aj (sr ?_);iterate 2 refine mq ?_
  refine ol rR ?_;refine jb (ba rfl) ?_;refine nt (ci h (fun h=>?_) (fun h=>?_))
  ·refine sk (aj (al (a6 ?_)));refine dm ?_;refine dm ?_;refine dm ?_;obtain⟨x8,E,h⟩:=aa h;refine db (aC (t:=(.int .i64)) rfl jt cj E) ?_;refine da (ao (t:=(.int .i64)) rfl cj rfl) ?_;refine ea 0 (ai rfl bL (sn) rfl) ?_;refine dm ?_;refine dm ?_;refine dm ?_;obtain⟨x9,D,h⟩:=aa h;refine db (aC (t:=aB) rfl rR j0 D) ?_;refine da (a8 1 false rfl gY rfl) ?_;refine da (ao (t:=(.int .i64)) rfl cj rfl) ?_;obtain⟨x,j,h⟩:=aa h;refine db (aC (t:=cH) rfl uX mB j) ?_;refine da (ao (t:=cH) rfl mB rfl) ?_;obtain⟨y,l,h⟩:=aa h;refine db (ak [.tmp 25,.tmp 33] rfl rfl Ob rfl (sY k a0 x y l)) ?_;obtain⟨u,e,h⟩:=aa h;refine db (bh rfl e) ?_;refine df bw ?_;refine jb (AP rfl rfl) ?_;refine aq (aT (aO (tn (ah ?_))));refine mq ?_;obtain⟨s,c,h⟩:=aa h;refine jb (bh rfl c) ?_;refine aq (nl ?_);exact jz ((),(kD y6.1 u,s)) h [0]
  ·refine xa ?_;exact jz ((),y6.1) h []
 ·
  refine sr (mq ?_);refine aq (nt (aG ?_));cases h;exact ra
def gR(k:Nat)(a0:ae)(r2:(List (List ap))):Nat→(Int×Int×Int)→Option (Int×Int)
 |0,_=>none
 |n+1,y7=>
  if y7.2.2 < (r2.length:Int) then((((aL r2 y7.2.2).bind fun h=>
  (m9 k a0 h).bind fun c=>
  if c < y7.2.1 then(some (y7.2.2,c)) else(some (y7.1,y7.2.1))):Option (Int×Int)).bind fun x9=>
  (ck (y7.2.2+1)).bind fun e=>
  gR k a0 r2 n (x9.1,x9.2,e)) else(some (y7.1,y7.2.1))
def fK(k:Nat)(a0:ae):Option ((List ap)×Int×Bool):=
 (ou k a0).bind fun r2=>
 if(r2.length:Int)=0 then(some ([],0,false)) else((aL r2 0).bind fun x3=>
 (m9 k a0 x3).bind fun r4=>
 ((gR k a0 r2 k (0,r4,0)):Option (Int×Int)).bind fun x5=>
 (aL r2 x5.1).bind fun c=>
 some (c,x5.2,true))
theorem i9(k:Nat)(a0:ae)(r:(List ap)×Int×Bool)(h:fK k a0=some r):
 bQ Tryz.prog 37 [.rep ag a0] [] (fun _:Unit=>(bG [Rs aB r.1,I r.2.1,.eq (.bool r.2.2)],[])):=by
 unfold fK at h
 replace h:=bi h
 refine bQ.of 42 Tryz.func37 rfl Tryz.ntmps37 rfl fun S w0=>?_
 refine sr ?_
 refine bx fun b1=>?_
 refine cq ?_
 refine cq ?_
 refine cq ?_
 refine nt ?_
 refine sr ?_
 refine lo bL ?_
 obtain⟨r2,J,h⟩:=aa h
 have M:=zo k a0 r2 J
 refine ja (ak [.tmp 10] rfl rfl PH rfl M) ?_
 refine aq ?_
 refine nt ?_
 refine aj ?_
 refine sr ?_
 refine mq ?_
 refine ol IP ?_
 refine jb (cM rfl) ?_
 refine nt ?_
 refine ci h (fun h=>?_) (fun h=>?_)
 ·
  refine sr (cq ?_);refine cq ?_;refine cq (nt (rx ?_));refine bC (fY (t:=(.slice aB)) (x:=[]) 2 rfl .nil rfl rfl) ?_;cases h;exact aZ () [_,_,_] 0 ⟨rfl,rfl,rfl,trivial⟩ rfl
 ·
  refine sk (aj (a6 ?_));refine ea 0 (ai rfl bL (sn) rfl) ?_;refine dm ?_;obtain⟨x3,E,h⟩:=aa h;refine db (aC (t:=(.slice aB)) rfl IP rU E) ?_;refine da (ao (t:=(.slice aB)) rfl rU rfl) ?_;refine df bw ?_;obtain⟨r4,F,h⟩:=aa h;refine jb (ak [.tmp 15,.tmp 18] rfl rfl Of rfl (u5 k a0 x3 r4 F)) ?_;refine cq ?_;refine aq (nt ?_);refine ay (Z:=Unit) (α:=Int×Int) (fun z6 x5=>[(5,.rep (.slice (.slice aB)) r2),(6,I x5.1),(7,I x5.2)]) (fun z6 x5=>[]) h (fun K h=>?_) (fun z6 x5 h=>?_)
  ·refine sr (cq (nt (al ?_)));refine aD (fun z8 y7=>[(1,Pt b1),(5,.rep (.slice (.slice aB)) r2),(6,I y7.1),(7,I y7.2.1),(8,I y7.2.2)]) (fun z8 y7=>[.obj b1 26 (.rep ag a0)]) (gR k a0 r2) k () (0,r4,0) (fun _=>rfl) h (SE.fin [0] ⟨rfl,rfl,rfl,rfl,rfl,trivial⟩ rfl) (fun n z8 y7 h=>?_);unfold gR at h;refine aj (sr ?_);iterate 2 refine mq ?_
   refine ol IP ?_;refine jb (ba rfl) ?_;refine nt (ci h (fun h=>?_) (fun h=>?_))
   ·refine sk (ay (Z:=Unit) (α:=Int×Int) (fun c x9=>[(1,Pt b1),(5,.rep (.slice (.slice aB)) r2),(6,I x9.1),(7,I x9.2),(8,I y7.2.2)]) (fun c x9=>[.obj b1 26 (.rep ag a0)]) h (fun K h=>?_) (fun c x9 h=>?_))
    ·refine al (aj (a6 ?_));refine ea 0 (ai rfl bL (sn) rfl) ?_;refine dm ?_;refine dm ?_;obtain⟨D,s,h⟩:=aa h;refine db (aC (t:=(.slice aB)) rfl IP rU s) ?_;refine da (ao (t:=(.slice aB)) rfl rU rfl) ?_;refine df bw ?_;obtain⟨e,u,h⟩:=aa h;refine jb (ak [.tmp 26,.tmp 30] rfl rfl Of rfl (u5 k a0 D e u)) ?_;refine aq (nt (sr ?_));iterate 2 refine mq ?_
     refine jb (ba rfl) ?_;refine nt (ci h (fun h=>?_) (fun h=>?_))
     ·refine ah ?_;iterate 2 refine mq ?_
      refine aq ?_;refine aq (aT (bn ?_));exact jz ((),(y7.2.2,e)) h [0]
     ·refine aU (bn ?_);exact jz ((),(y7.1,y7.2.1)) h [0]
    ·refine ah (mq ?_);obtain⟨y,l,h⟩:=aa h;refine jb (bh rfl l) ?_;refine aq (nl ?_);exact jz ((),(x9.1,x9.2,y)) h [0]
   ·refine xa ?_;exact jz ((),(y7.1,y7.2.1)) h []
  ·refine sr ?_;iterate 2 refine mq ?_
   obtain⟨O,j,h⟩:=aa h;refine jb (aC (t:=(.slice aB)) rfl IP rU j) ?_;refine ja (ao (t:=(.slice aB)) rfl rU rfl) ?_;refine mq ?_;refine aq ?_;refine aq ?_;refine cq (nt (aG ?_));cases h;exact aZ () [_,_,_] 0 ⟨rfl,rfl,rfl,trivial⟩ rfl
def m7(k:Nat)(a0:ae)(a1:Int)(a2:ax):Option ae:=
 (cF (cx (List.length ([]:(List ax))+List.length a0.2.1))).bind fun _=>
 (aL (([]:(List ax))++a0.2.1) a1).bind fun x9=>
 some (a0.1,List.set (([]:(List ax))++a0.2.1) (Int.toNat a1) a2,a0.2.2)
theorem qf(k:Nat)(a0:ae)(a1:Int)(a2:ax)(r:ae)(h:m7 k a0 a1 a2=some r):
 bQ Tryz.prog 38 [.rep ag a0,I a1,.rep aw a2] [] (fun _:Unit=>(bG [.rep ag r],[])):=by
 unfold m7 at h
 replace h:=bi h
 refine bQ.of 20 Tryz.func38 rfl Tryz.ntmps38 rfl fun S w0=>?_
 refine sr ?_
 refine bx fun b1=>?_
 refine bx fun b2=>?_
 refine aA rfl rfl rfl (aF rfl oS rM) trivial fun b3=>?_
 refine nt ?_
 refine sr ?_
 refine fr 2 ?_
 refine lo bL ?_
 refine aA rfl rfl rfl (aF rfl oS rM) trivial fun b4=>?_
 refine aK rfl rfl (aE rfl bL rfl rfl rfl) ⟨rfl,rfl,trivial⟩ ?_
 refine nt ?_
 refine sr ?_
 refine aA rfl rfl rfl (lO (t:=aw) [] ([]:(List ax)) rfl rfl wa .nil rfl rfl) trivial fun v5=>?_
 refine fl bA ?_
 refine fr 2 ?_
 refine lo eu ?_
 obtain⟨u6,e,h⟩:=aa h
 refine fr 1 ?_
 refine dE rfl rfl rfl (bI rfl rfl wa (av e)) ⟨rfl,rfl,trivial⟩ fun v7=>?_
 refine fl bA ?_
 refine fV fun o8=>?_
 refine fr 2 ?_
 refine aK rfl rfl (aE rfl eu o8 rfl rfl) ⟨rfl,rfl,trivial⟩ ?_
 refine nt ?_
 refine sr ?_
 refine fl bA ?_
 refine lo eu ?_
 refine mq ?_
 refine fr 4 ?_
 refine lo eI ?_
 obtain⟨x9,c,h⟩:=aa h
 refine fr 2 ?_
 refine kb (bk (t:=aw) rfl l8 eI c) ?_
 refine aK rfl rfl (gl (i:=Int.toNat a1) rfl eI rfl (mJ c) rfl .rep rfl) ⟨rfl,rfl,trivial⟩ ?_
 refine nt ?_
 refine sr ?_
 refine fr 2 ?_
 refine fr 1 ?_
 refine eX (cD (off:=1) [12,15] ⟨rfl,rfl,trivial⟩ rfl rfl) ?_
 refine lo bL ?_
 refine fr 3 ?_
 refine aK rfl rfl (aE rfl bL trivial rfl rfl) ⟨rfl,rfl,trivial⟩ ?_
 refine nt ?_
 refine aG ?_
 refine bC (mO (a:=.agg (.pair (Rs aJ a0.1) (.pair (Rs aw (List.set (([]:(List ax))++a0.2.1) (Int.toNat a1) a2)) (.rep (.pair (.slice (.int .i64)) (.slice (.int .i64))) a0.2.2)))) (a':=.rep ag (a0.1,List.set (([]:(List ax))++a0.2.1) (Int.toNat a1) a2,a0.2.2)) (sO (.agg (.pair .rep (.pair .rep .rep))))) ?_
 cases h
 exact aZ () [.rep ag (a0.1,List.set (([]:(List ax))++a0.2.1) (Int.toNat a1) a2,a0.2.2)] 0 ⟨⟨_,_,_,_,_,rfl,(.head _),bL,(sn),rfl⟩,trivial⟩ rfl
def fi(k:Nat)(a0:ae)(r3:(List ap)×Int×Bool):Nat→((List Int)×Int)→Option (List Int)
 |0,_=>none
 |n+1,y6=>
  if y6.2 < (a0.2.1.length:Int) then((((m7 k a0 y6.2 ([],0,0)).bind fun j=>
  (fK k j).bind fun c=>
  ((if c.2.2=true then(some (decide (c.2.1=r3.2.1))) else(some false)):Option (Bool)).bind fun h=>
  if h=true then((cF (cx (List.length y6.1+List.length [y6.2]))).bind fun _=>
  some (y6.1++[y6.2])) else(some y6.1)):Option ((List Int))).bind fun x8=>
  (ck (y6.2+1)).bind fun e=>
  fi k a0 r3 n (x8,e)) else(some y6.1)
def jH(k:Nat)(a0:ae):Option ((List Int)×Int):=
 (jd k a0).bind fun r2=>
 if¬(r2=0) then(some ([],r2)) else((fK k a0).bind fun r3=>
 if¬(r3.2.2=true) then(some ([],11)) else(((fi k a0 r3 k (([]:(List Int)),0)):Option ((List Int))).bind fun x4=>
 some (x4,0)))
theorem vq(k:Nat)(a0:ae)(r:(List Int)×Int)(h:jH k a0=some r):
 bQ Tryz.prog 10 [.rep ag a0] [] (fun _:Unit=>(bG [Ri r.1,I r.2],[])):=by
 unfold jH at h
 replace h:=bi h
 refine bQ.of 53 Tryz.func10 rfl Tryz.ntmps10 rfl fun S w0=>?_
 refine sr ?_
 refine bx fun b1=>?_
 refine cq ?_
 refine cq ?_
 refine nt ?_
 refine aj ?_
 refine sr ?_
 refine lo bL ?_
 obtain⟨r2,O,h⟩:=aa h
 have Q:=o6 k a0 r2 O
 refine ja (ak [.tmp 13] rfl rfl Nc rfl Q) ?_
 refine aq ?_
 refine nt ?_
 refine sr ?_
 refine mq ?_
 refine jb (bT rfl) ?_
 refine nt ?_
 refine cn h (fun h=>?_) (fun h=>?_)
 ·
  refine sr (mq ?_);refine cq ?_;refine aq (nt (rx ?_));refine bC (fY (t:=(.slice (.int .i64))) (x:=[]) 2 rfl .nil rfl rfl) ?_;cases h;exact rb
 ·
  refine sk (sr (lo bL ?_));obtain⟨r3,M,h⟩:=aa h;refine ja (ak [.tmp 19] rfl rfl FV rfl (i9 k a0 r3 M)) ?_;refine mq ?_;refine xr ?_;refine xr ?_;refine xr ?_;refine aq ?_;refine aq ?_;refine aq (nt (aj (sr ?_)));refine mq ?_;refine ja (eE rfl) ?_;refine nt (cw h (fun h=>?_) (fun h=>?_))
  ·refine sr (cq ?_);refine cq (nt (rx ?_));refine bC (fY (t:=(.slice (.int .i64))) (x:=[]) 2 rfl .nil rfl rfl) ?_;cases h;exact rb
  ·refine sk (sr (cq (nt ?_)));refine ay (Z:=Value) (α:=(List Int)) (fun z5 x4=>[(8,.eq z5)]) (fun z5 x4=>[.sl z5 3 (.int .i64) x4]) h (fun K h=>?_) (fun z5 x4 h=>?_)
   ·refine sr (cq (nt (al ?_)));refine eL (SE.nil 3 (.int .i64)) ?_;refine aD (fun z7 y6=>[(1,Pt b1),(6,I r3.2.1),(8,.eq z7),(9,I y6.2)]) (fun z7 y6=>[.obj b1 26 (.rep ag a0),.sl z7 3 (.int .i64) y6.1]) (fi k a0 r3) k (.slice none 0 0) (([]:(List Int)),0) (fun _=>rfl) h (SE.fin [1,0] ⟨rfl,rfl,rfl,rfl,trivial⟩ rfl) (fun n z7 y6 h=>?_);unfold fi at h;refine aj (sr (mq ?_));refine fl bA ?_;refine lo eu ?_;refine ol l8 ?_;refine jb (ba rfl) ?_;refine nt (ci h (fun h=>?_) (fun h=>?_))
    ·refine sk (ay (Z:=Value) (α:=(List Int)) (fun z9 x8=>[(1,Pt b1),(6,I r3.2.1),(8,.eq z9),(9,I y6.2)]) (fun z9 x8=>[.obj b1 26 (.rep ag a0),.sl z9 3 (.int .i64) x8]) h (fun K h=>?_) (fun z9 x8 h=>?_))
     ·refine al (sr (lo bL ?_));refine mq ?_;refine dx rfl (cR [] rfl JR rS EH (iF trivial) rfl) trivial ?_;obtain⟨l,E,h⟩:=aa h;refine jc (gJ (N:=[(.tmp 34,.rep ag a0),(.tmp 35,I y6.2),(.tmp 36,.agg (.pair (.eq (.slice none 0 0)) (.pair (I 0) (I 0))))]) (ak [.tmp 34,.tmp 35,.tmp 36] rfl rfl Nb rfl (qf k a0 y6.2 ([],0,0) l E)) fun _ _ _ hn=>⟨hn.1,hn.2.1,(fe (t:=aw) (x:=([],0,0)) (.agg (.pair .nil (.pair .int .int))) trivial rfl hn.2.2.1),trivial⟩) ?_;obtain⟨j,D,h⟩:=aa h;refine ja (ak [.tmp 37] rfl rfl FV rfl (i9 k l j D)) ?_;refine mq ?_;refine xr ?_;refine xr ?_;refine xr ?_;refine aq ?_;refine aq ?_;refine aq (nt ?_);refine ay (Z:=Unit) (α:=Bool) (fun e c=>[(1,Pt b1),(6,I r3.2.1),(8,.eq z7),(9,I y6.2),(47,.eq (.bool c))]) (fun e c=>[.obj b1 26 (.rep ag a0),.sl z7 3 (.int .i64) y6.1]) h (fun K h=>?_) (fun e c h=>?_)
      ·refine ah ?_;iterate 2 refine mq ?_
       refine aM (s:=43) rfl (fun hb=>?_) (fun hb=>?_)
       ·replace h:=bY (uc hb) h;refine gm ?_;refine gm ?_;refine gb (cM rfl) ?_;refine pt (nl ?_);exact jz ((),decide (j.2.1=r3.2.1)) h [0,1]
       ·replace h:=bj (ud hb) h;iterate 3 refine gn ?_
        refine pf (nl ?_);exact jz ((),false) h [0,1]
      ·refine cv h (fun h=>?_) (fun h=>?_)
       ·refine ah ?_;iterate 2 refine mq ?_
        refine ja (bv (t:=(.int .i64)) [(.tmp 49,_)] [y6.2] rfl rfl eo (.cons rfl .int .nil) rfl rfl) ?_;obtain⟨U,y,h⟩:=aa h;refine fr 1 ?_;refine dE rfl rfl rfl (bI rfl rfl eo (av y)) ⟨rfl,rfl,trivial⟩ fun J=>?_;refine aq (aT (bn ?_));exact jz (J,y6.1++[y6.2]) h [1,0]
       ·refine aU (bn ?_);exact jz (z7,y6.1) h [0,1]
     ·refine ah (mq ?_);obtain⟨F,u,h⟩:=aa h;refine jb (bh rfl u) ?_;refine aq (nl ?_);exact jz (z9,(x8,F)) h [0,1]
    ·refine xa ?_;exact jz (z7,y6.1) h [1]
   ·refine sr (mq ?_);refine aq ?_;refine cq (nt (aG ?_));refine bC (nu [2,8,52] ⟨rfl,rfl,rfl,trivial⟩) ?_;cases h;exact rb
end Go.Proofs.YtopgphikdglphaaGreat
