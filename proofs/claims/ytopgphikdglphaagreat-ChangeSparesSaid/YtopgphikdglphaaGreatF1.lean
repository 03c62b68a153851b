import Derived.Test.YtopgphikdglphaaGreatP2
set_option linter.unusedVariables false
set_option maxRecDepth 4000
namespace Go.Proofs.YtopgphikdglphaaGreat
open K Go Go.Proofs
def iP(k:Nat)(a0:ae)(a1:Int)(r5:(List ap)×Int×Bool):Nat→(Int×Int)→Option Int
 |0,_=>none
 |n+1,y8=>
  if y8.2≤9 then((((aL a0.2.1 a1).bind fun c=>
  (m7 k a0 a1 (c.1,c.2.1,y8.2)).bind fun l=>
  (fK k l).bind fun j=>
  if j.2.1≤r5.2.1 then(some y8.2) else(some y8.1)):Option (Int)).bind fun h=>
  (ck (y8.2+1)).bind fun e=>
  iP k a0 a1 r5 n (h,e)) else(some y8.1)
def lL(k:Nat)(a0:ae)(a1:Int):Option (Int×Int):=
 (jd k a0).bind fun r2=>
 if¬(r2=0) then(some (0,r2)) else((ck ((a0.2.1.length:Int) - 1)).bind fun x3=>
 (dy k a1 0 x3).bind fun r4=>
 if¬(r4=true) then(some (0,3)) else((fK k a0).bind fun r5=>
 if¬(r5.2.2=true) then(some (0,11)) else(((iP k a0 a1 r5 k (0,0)):Option (Int)).bind fun x6=>
 some (x6,0))))
theorem zn(k:Nat)(a0:ae)(a1:Int)(r:Int×Int)(h:lL k a0 a1=some r):
 bQ Tryz.prog 13 [.rep ag a0,I a1] [] (fun _:Unit=>(bG [I r.1,I r.2],[])):=by
 unfold lL at h
 replace h:=bi h
 refine bQ.of 61 Tryz.func13 rfl Tryz.ntmps13 rfl fun S w0=>?_
 refine sr ?_
 refine bx fun b1=>?_
 refine cq ?_
 refine cq ?_
 refine nt ?_
 refine aj ?_
 refine sr ?_
 refine lo bL ?_
 obtain⟨r2,Q,h⟩:=aa h
 have U:=o6 k a0 r2 Q
 refine ja (ak [.tmp 16] rfl rfl Nc rfl U) ?_
 refine aq ?_
 refine nt ?_
 refine sr ?_
 refine mq ?_
 refine jb (bT rfl) ?_
 refine nt ?_
 refine cn h (fun h=>?_) (fun h=>?_)
 ·
  refine sr (mq ?_);refine cq ?_;refine aq (nt (rx ?_));cases h;exact rb
 ·
  refine sk (aj (sr (mq ?_)));refine fl bA ?_;refine lo eu ?_;refine ol l8 ?_;obtain⟨x3,J,h⟩:=aa h;refine jb (g7 rfl J) ?_;obtain⟨r4,O,h⟩:=aa h;refine jc (ak [.tmp 21,.const (.int .i64 (0)),.tmp 25] rfl rfl yg rfl (ep k a1 0 x3 r4 O)) ?_;refine ja (eE rfl) ?_;refine nt (cw h (fun h=>?_) (fun h=>?_))
  ·refine sr (cq ?_);refine cq (nt (rx ?_));cases h;exact rb
  ·refine sk (sr (lo bL ?_));obtain⟨r5,M,h⟩:=aa h;refine ja (ak [.tmp 29] rfl rfl FV rfl (i9 k a0 r5 M)) ?_;refine mq ?_;refine xr ?_;refine xr ?_;refine xr ?_;refine aq ?_;refine aq ?_;refine aq (nt (aj (sr ?_)));refine mq ?_;refine ja (eE rfl) ?_;refine nt (cw h (fun h=>?_) (fun h=>?_))
   ·refine sr (cq ?_);refine cq (nt (rx ?_));cases h;exact rb
   ·refine sk (sr (cq (nt ?_)));refine ay (Z:=Unit) (α:=Int) (fun z7 x6=>[(10,I x6)]) (fun z7 x6=>[]) h (fun K h=>?_) (fun z7 x6 h=>?_)
    ·refine sr (cq (nt (al ?_)));refine aD (fun z9 y8=>[(1,I a1),(2,Pt b1),(8,I r5.2.1),(10,I y8.1),(11,I y8.2)]) (fun z9 y8=>[.obj b1 26 (.rep ag a0)]) (iP k a0 a1 r5) k () (0,0) (fun _=>rfl) h (SE.fin [0] ⟨rfl,rfl,rfl,rfl,rfl,trivial⟩ rfl) (fun n z9 y8 h=>?_);unfold iP at h;refine aj (sr (mq ?_));refine jb (qj rfl) ?_;refine nt (ci h (fun h=>?_) (fun h=>?_))
     ·refine sk (ay (Z:=Unit) (α:=Int) (fun j e=>[(1,I a1),(2,Pt b1),(8,I r5.2.1),(10,I e),(11,I y8.2)]) (fun j e=>[.obj b1 26 (.rep ag a0)]) h (fun K h=>?_) (fun j e h=>?_))
      ·refine al (sr (fl bA ?_));refine lo eu ?_;refine mq ?_;obtain⟨c,u,h⟩:=aa h;refine jb (aC (t:=aw) rfl l8 eI u) ?_;refine ja (ao (t:=aw) rfl eI rfl) ?_;refine aA rfl rfl rfl (aF rfl rS xz) trivial fun X=>?_;refine aK rfl rfl (aE rfl eI rfl rfl rfl) ⟨rfl,rfl,trivial⟩ ?_;refine nt (sr (mq ?_));refine fl od ?_;refine aK rfl rfl (aE rfl cj rfl rfl rfl) ⟨rfl,rfl,trivial⟩ ?_;refine nt (sr (fr 1 ?_));refine lo bL ?_;refine mq ?_;refine fr 1 ?_;refine lo eI ?_;obtain⟨l,D,h⟩:=aa h;refine jc (gJ (N:=[(.tmp 48,.rep ag a0),(.tmp 49,I a1),(.tmp 50,.agg (.pair (Ri c.1) (.pair (.rep (.int .i64) c.2.1) (I y8.2))))]) (ak [.tmp 48,.tmp 49,.tmp 50] rfl rfl Nb rfl (qf k a0 a1 (c.1,c.2.1,y8.2) l D)) fun _ _ _ hn=>⟨hn.1,hn.2.1,(fe (t:=aw) (x:=(c.1,c.2.1,y8.2)) (.agg (.pair .rep (.pair .rep .int))) trivial rfl hn.2.2.1),trivial⟩) ?_;obtain⟨F,y,h⟩:=aa h;refine ja (ak [.tmp 51] rfl rfl FV rfl (i9 k l F y)) ?_;refine mq ?_;refine xr ?_;refine xr ?_;refine xr ?_;refine aq ?_;refine aq ?_;refine aq (nt (sr ?_));iterate 2 refine mq ?_
       refine jb (qj rfl) ?_;refine nt (ci h (fun h=>?_) (fun h=>?_))
       ·refine ah (mq ?_);refine aq (aT (bn ?_));exact jz ((),y8.2) h [1]
       ·refine aU (bn ?_);exact jz ((),y8.1) h [1]
      ·refine ah (mq ?_);obtain⟨E,s,h⟩:=aa h;refine jb (bh rfl s) ?_;refine aq (nl ?_);exact jz ((),(e,E)) h [0]
     ·refine xa ?_;exact jz ((),y8.1) h []
    ·refine sr (mq ?_);refine aq ?_;refine cq (nt (aG ?_));cases h;exact rb
def gW(k:Nat)(a0:ax)(a1:Int):Nat→((List Int)×Int)→Option (List Int)
 |0,_=>none
 |n+1,y5=>
  if y5.2 < (a0.1.length:Int) then((((aL a0.1 y5.2).bind fun x9=>
  if x9 < a1 then((aL a0.1 y5.2).bind fun c=>
  (cF (cx (List.length y5.1+List.length [c]))).bind fun _=>
  some (y5.1++[c])) else(some y5.1)):Option ((List Int))).bind fun x7=>
  (ck (y5.2+1)).bind fun e=>
  gW k a0 a1 n (x7,e)) else(some y5.1)
def gV(k:Nat)(a0:ax)(a1:Int):Nat→((List Int)×Int)→Option (List Int)
 |0,_=>none
 |n+1,c=>
  if c.2 < (a0.1.length:Int) then((((aL a0.1 c.2).bind fun j=>
  if a1 < j then((aL a0.1 c.2).bind fun e=>
  (cF (cx (List.length c.1+List.length [e]))).bind fun _=>
  some (c.1++[e])) else(some c.1)):Option ((List Int))).bind fun l=>
  (ck (c.2+1)).bind fun h=>
  gV k a0 a1 n (l,h)) else(some c.1)
def kA(k:Nat)(a0:ax)(a1:Int):Option ax:=
 ((gW k a0 a1 k (([]:(List Int)),0)):Option ((List Int))).bind fun x3=>
 (cF (cx (List.length x3+List.length [a1]))).bind fun _=>
 ((gV k a0 a1 k (x3++[a1],0)):Option ((List Int))).bind fun c=>
 some (c,a0.2)
theorem xT(k:Nat)(a0:ax)(a1:Int)(r:ax)(h:kA k a0 a1=some r):
 bQ Tryz.prog 47 [.rep aw a0,I a1] [] (fun _:Unit=>(bG [.rep aw r],[])):=by
 unfold kA at h
 replace h:=bi h
 refine bQ.of 59 Tryz.func47 rfl Tryz.ntmps47 rfl fun S w0=>?_
 refine sr ?_
 refine bx fun b1=>?_
 refine aA rfl rfl rfl (aF rfl rS xz) trivial fun b2=>?_
 refine nt ?_
 refine sr ?_
 refine cq ?_
 refine nt ?_
 refine ay (Z:=Value) (α:=(List Int)) (fun z4 x3=>[(1,I a1),(2,Pt b1),(4,Pt b2),(5,.eq z4)]) (fun z4 x3=>[.obj b1 47 (.rep aw a0),.obj b2 47 (.agg (.pair (.eq (.slice none 0 0)) (.pair (I 0) (I 0)))),.sl z4 3 (.int .i64) x3]) h (fun K h=>?_) (fun z4 x3 h=>?_)
 ·
  refine sr (cq (nt (al ?_)));refine eL (SE.nil 3 (.int .i64)) ?_;refine aD (fun z6 y5=>[(1,I a1),(2,Pt b1),(4,Pt b2),(5,.eq z6),(6,I y5.2)]) (fun z6 y5=>[.obj b1 47 (.rep aw a0),.obj b2 47 (.agg (.pair (.eq (.slice none 0 0)) (.pair (I 0) (I 0)))),.sl z6 3 (.int .i64) y5.1]) (gW k a0 a1) k (.slice none 0 0) (([]:(List Int)),0) (fun _=>rfl) h (SE.fin [2,1,0] ⟨rfl,rfl,rfl,rfl,rfl,trivial⟩ rfl) (fun n z6 y5 h=>?_);unfold gW at h;refine aj (sr (mq ?_));refine fl eU ?_;refine lo bR ?_;refine ol jt ?_;refine jb (ba rfl) ?_;refine nt (ci h (fun h=>?_) (fun h=>?_))
  ·refine sk (ay (Z:=Value) (α:=(List Int)) (fun z8 x7=>[(1,I a1),(2,Pt b1),(4,Pt b2),(5,.eq z8),(6,I y5.2)]) (fun z8 x7=>[.obj b1 47 (.rep aw a0),.obj b2 47 (.agg (.pair (.eq (.slice none 0 0)) (.pair (I 0) (I 0)))),.sl z8 3 (.int .i64) x7]) h (fun K h=>?_) (fun z8 x7 h=>?_))
   ·refine al (sr (fl eU ?_));refine lo bR ?_;refine mq ?_;obtain⟨x9,QA,h⟩:=aa h;refine jb (aC (t:=(.int .i64)) rfl jt cj QA) ?_;refine ja (ao (t:=(.int .i64)) rfl cj rfl) ?_;refine mq ?_;refine jb (ba rfl) ?_;refine nt (ci h (fun h=>?_) (fun h=>?_))
    ·refine ah (mq ?_);refine fl eU ?_;refine lo bR ?_;refine mq ?_;obtain⟨y,M,h⟩:=aa h;refine jb (aC (t:=(.int .i64)) rfl jt cj M) ?_;refine ja (ao (t:=(.int .i64)) rfl cj rfl) ?_;refine ja (bv (t:=(.int .i64)) [(.tmp 27,_)] [y] rfl rfl eo (.cons rfl .int .nil) rfl rfl) ?_;obtain⟨QE,U,h⟩:=aa h;refine fr 2 ?_;refine dE rfl rfl rfl (bI rfl rfl eo (av U)) ⟨rfl,rfl,trivial⟩ fun se=>?_;refine aq (aT (bn ?_));exact jz (se,y5.1++[y]) h [1,2,0]
    ·refine aU (bn ?_);exact jz (z6,y5.1) h [0,1,2]
   ·refine ah (mq ?_);obtain⟨Y,J,h⟩:=aa h;refine jb (bh rfl J) ?_;refine aq (nl ?_);exact jz (z8,(x7,Y)) h [0,1,2]
  ·refine xa ?_;exact jz (z6,y5.1) h [0,1,2]
 ·
  refine sr ?_;iterate 2 refine mq ?_
  refine ja (bv (t:=(.int .i64)) [(.tmp 31,_)] [a1] rfl rfl eo (.cons rfl .int .nil) rfl rfl) ?_;obtain⟨QD,Q,h⟩:=aa h;refine fr 2 ?_;refine dE rfl rfl rfl (bI rfl rfl eo (av Q)) ⟨rfl,rfl,trivial⟩ fun mc=>?_;refine aq (nt ?_);refine ay (Z:=Value) (α:=(List Int)) (fun s j=>[(2,Pt b1),(4,Pt b2),(5,.eq s)]) (fun s j=>[.obj b1 47 (.rep aw a0),.obj b2 47 (.agg (.pair (.eq (.slice none 0 0)) (.pair (I 0) (I 0)))),.sl s 3 (.int .i64) j]) h (fun K h=>?_) (fun s j h=>?_)
  ·refine sr (cq (nt (al ?_)));refine aD (fun e c=>[(1,I a1),(2,Pt b1),(4,Pt b2),(5,.eq e),(7,I c.2)]) (fun e c=>[.obj b1 47 (.rep aw a0),.obj b2 47 (.agg (.pair (.eq (.slice none 0 0)) (.pair (I 0) (I 0)))),.sl e 3 (.int .i64) c.1]) (gV k a0 a1) k mc (x3++[a1],0) (fun _=>rfl) h (SE.fin [1,2,0] ⟨rfl,rfl,rfl,rfl,rfl,trivial⟩ rfl) (fun n e c h=>?_);unfold gV at h;refine aj (sr (mq ?_));refine fl eU ?_;refine lo bR ?_;refine ol jt ?_;refine jb (ba rfl) ?_;refine nt (ci h (fun h=>?_) (fun h=>?_))
   ·refine sk (ay (Z:=Value) (α:=(List Int)) (fun l u=>[(1,I a1),(2,Pt b1),(4,Pt b2),(5,.eq l),(7,I c.2)]) (fun l u=>[.obj b1 47 (.rep aw a0),.obj b2 47 (.agg (.pair (.eq (.slice none 0 0)) (.pair (I 0) (I 0)))),.sl l 3 (.int .i64) u]) h (fun K h=>?_) (fun l u h=>?_))
    ·refine al (sr (fl eU ?_));refine lo bR ?_;refine mq ?_;obtain⟨QB,F,h⟩:=aa h;refine jb (aC (t:=(.int .i64)) rfl jt cj F) ?_;refine ja (ao (t:=(.int .i64)) rfl cj rfl) ?_;refine mq ?_;refine jb (ik rfl) ?_;refine nt (ci h (fun h=>?_) (fun h=>?_))
     ·refine ah (mq ?_);refine fl eU ?_;refine lo bR ?_;refine mq ?_;obtain⟨x,E,h⟩:=aa h;refine jb (aC (t:=(.int .i64)) rfl jt cj E) ?_;refine ja (ao (t:=(.int .i64)) rfl cj rfl) ?_;refine ja (bv (t:=(.int .i64)) [(.tmp 53,_)] [x] rfl rfl eo (.cons rfl .int .nil) rfl rfl) ?_;obtain⟨QC,O,h⟩:=aa h;refine fr 2 ?_;refine dE rfl rfl rfl (bI rfl rfl eo (av O)) ⟨rfl,rfl,trivial⟩ fun ac=>?_;refine aq (aT (bn ?_));exact jz (ac,c.1++[x]) h [1,2,0]
     ·refine aU (bn ?_);exact jz (e,c.1) h [0,1,2]
    ·refine ah (mq ?_);obtain⟨X,D,h⟩:=aa h;refine jb (bh rfl D) ?_;refine aq (nl ?_);exact jz (l,(u,X)) h [0,1,2]
   ·refine xa ?_;exact jz (e,c.1) h [0,1,2]
  ·refine sr (mq ?_);refine fl eU ?_;refine fr 2 ?_;refine fV fun o27=>?_;refine fr 1 ?_;refine aK rfl rfl (aE rfl bR o27 rfl rfl) ⟨rfl,rfl,trivial⟩ ?_;refine nt (sr (fr 1 ?_));refine eX (cD (off:=0) [5,56] ⟨rfl,rfl,trivial⟩ rfl rfl) ?_;refine lo eI ?_;refine fr 1 ?_;refine aK rfl rfl (aE rfl eI trivial rfl rfl) ⟨rfl,rfl,trivial⟩ ?_;refine nt (aG (bC (mO (a:=.agg (.pair (Ri j) (.rep (.pair (.int .i64) (.int .i64)) a0.2))) (a':=.rep aw (j,a0.2)) (sO (.agg (.pair .rep .rep)))) ?_));cases h;exact aZ () [.rep aw (j,a0.2)] 0 ⟨⟨_,_,_,_,_,rfl,(.head _),eI,(sn),rfl⟩,trivial⟩ rfl
def gf(k:Nat)(a0:ae)(y6:Int×Bool×Int×Int×Int):Nat→(Int×Bool×Int×Int×Int)→Option (Int×Bool×Int×Int)
 |0,_=>none
 |n+1,c=>
  if c.2.2.2.2 < (a0.1.length:Int) then((((aL a0.2.1 y6.2.2.2.2).bind fun s=>
  (g9 k s.1 c.2.2.2.2).bind fun y=>
  if y=true then(some (c.1,c.2.1,c.2.2.1,c.2.2.2.1)) else((aL a0.2.1 y6.2.2.2.2).bind fun r=>
  (kA k r c.2.2.2.2).bind fun x=>
  (m7 k a0 y6.2.2.2.2 x).bind fun u=>
  (fK k u).bind fun h=>
  ((if h.2.2=true then(if¬(c.2.1=true) then(some true) else(some (decide (h.2.1 < c.1)))) else(some false)):Option (Bool)).bind fun l=>
  if l=true then(some (h.2.1,true,y6.2.2.2.2,c.2.2.2.2)) else(some (c.1,c.2.1,c.2.2.1,c.2.2.2.1)))):Option (Int×Bool×Int×Int)).bind fun e=>
  (ck (c.2.2.2.2+1)).bind fun j=>
  gf k a0 y6 n (e.1,e.2.1,e.2.2.1,e.2.2.2,j)) else(some (c.1,c.2.1,c.2.2.1,c.2.2.2.1))
def gg(k:Nat)(a0:ae):Nat→(Int×Bool×Int×Int×Int)→Option (Int×Int×Int)
 |0,_=>none
 |n+1,y6=>
  if y6.2.2.2.2 < (a0.2.1.length:Int) then(((gf k a0 y6 k (y6.1,y6.2.1,y6.2.2.1,y6.2.2.2.1,0)):Option (Int×Bool×Int×Int)).bind fun x8=>
  (ck (y6.2.2.2.2+1)).bind fun c=>
  gg k a0 n (x8.1,x8.2.1,x8.2.2.1,x8.2.2.2,c)) else(some (y6.1,y6.2.2.1,y6.2.2.2.1))
def lM(k:Nat)(a0:ae):Option (Int×Int×Int×Int):=
 (jd k a0).bind fun r2=>
 if¬(r2=0) then(some (0,0,0,r2)) else((fK k a0).bind fun r3=>
 ((gg k a0 k (r3.2.1,r3.2.2,(-1:Int),(-1:Int),0)):Option (Int×Int×Int)).bind fun x4=>
 if x4.2.1 < 0 then(some (0,0,0,11)) else(some (x4.2.1,x4.2.2,x4.1,0)))
theorem zp(k:Nat)(a0:ae)(r:Int×Int×Int×Int)(h:lM k a0=some r):
 bQ Tryz.prog 15 [.rep ag a0] [] (fun _:Unit=>(bG [I r.1,I r.2.1,I r.2.2.1,I r.2.2.2],[])):=by
 unfold lM at h
 replace h:=bi h
 refine bQ.of 83 Tryz.func15 rfl Tryz.ntmps15 rfl fun S w0=>?_
 refine sr ?_
 refine bx fun b1=>?_
 refine cq ?_
 refine cq ?_
 refine cq ?_
 refine cq ?_
 refine nt ?_
 refine aj ?_
 refine sr ?_
 refine lo bL ?_
 obtain⟨r2,QD,h⟩:=aa h
 have QE:=o6 k a0 r2 QD
 refine ja (ak [.tmp 17] rfl rfl Nc rfl QE) ?_
 refine aq ?_
 refine nt ?_
 refine sr ?_
 refine mq ?_
 refine jb (bT rfl) ?_
 refine nt ?_
 refine cn h (fun h=>?_) (fun h=>?_)
 ·
  refine sr (mq ?_);refine cq ?_;refine cq ?_;refine cq ?_;refine aq (nt (rx ?_));cases h;exact aZ () [_,_,_,_] 0 ⟨rfl,rfl,rfl,rfl,trivial⟩ rfl
 ·
  refine sk (sr (lo bL ?_));obtain⟨r3,QC,h⟩:=aa h;refine ja (ak [.tmp 23] rfl rfl FV rfl (i9 k a0 r3 QC)) ?_;refine mq ?_;refine xr ?_;refine xr ?_;refine xr ?_;refine aq ?_;refine aq ?_;refine aq (nt (sr ?_));refine cq ?_;refine cq (nt ?_);refine ay (Z:=Unit) (α:=Int×Int×Int) (fun z5 x4=>[(8,I x4.1),(10,I x4.2.1),(11,I x4.2.2)]) (fun z5 x4=>[]) h (fun K h=>?_) (fun z5 x4 h=>?_)
  ·refine sr (cq (nt (al ?_)));refine aD (fun z7 y6=>[(1,Pt b1),(8,I y6.1),(9,.eq (.bool y6.2.1)),(10,I y6.2.2.1),(11,I y6.2.2.2.1),(12,I y6.2.2.2.2)]) (fun z7 y6=>[.obj b1 26 (.rep ag a0)]) (gg k a0) k () (r3.2.1,r3.2.2,(-1:Int),(-1:Int),0) (fun _=>rfl) h (SE.fin [0] ⟨rfl,rfl,rfl,rfl,rfl,rfl,trivial⟩ rfl) (fun n z7 y6 h=>?_);unfold gg at h;refine aj (sr (mq ?_));refine fl bA ?_;refine lo eu ?_;refine ol l8 ?_;refine jb (ba rfl) ?_;refine nt (ci h (fun h=>?_) (fun h=>?_))
   ·refine sk (ay (Z:=Unit) (α:=Int×Bool×Int×Int) (fun z9 x8=>[(1,Pt b1),(8,I x8.1),(9,.eq (.bool x8.2.1)),(10,I x8.2.2.1),(11,I x8.2.2.2),(12,I y6.2.2.2.2)]) (fun z9 x8=>[.obj b1 26 (.rep ag a0)]) h (fun K h=>?_) (fun z9 x8 h=>?_))
    ·refine al (sr (cq (nt (al ?_))));refine aD (fun y c=>[(1,Pt b1),(8,I c.1),(9,.eq (.bool c.2.1)),(10,I c.2.2.1),(11,I c.2.2.2.1),(12,I y6.2.2.2.2),(13,I c.2.2.2.2)]) (fun y c=>[.obj b1 26 (.rep ag a0)]) (gf k a0 y6) k () (y6.1,y6.2.1,y6.2.2.1,y6.2.2.2.1,0) (fun _=>rfl) h (SE.fin [0] ⟨rfl,rfl,rfl,rfl,rfl,rfl,rfl,trivial⟩ rfl) (fun n y c h=>?_);unfold gf at h;refine aj (sr (mq ?_));refine fl bu ?_;refine lo dM ?_;refine ol kU ?_;refine jb (ba rfl) ?_;refine nt (ci h (fun h=>?_) (fun h=>?_))
     ·refine sk (ay (Z:=Unit) (α:=Int×Bool×Int×Int) (fun x e=>[(1,Pt b1),(8,I e.1),(9,.eq (.bool e.2.1)),(10,I e.2.2.1),(11,I e.2.2.2),(12,I y6.2.2.2.2),(13,I c.2.2.2.2)]) (fun x e=>[.obj b1 26 (.rep ag a0)]) h (fun K h=>?_) (fun x e h=>?_))
      ·refine al (aj (sr (fl bA ?_)));refine lo eu ?_;refine mq ?_;obtain⟨QA,O,h⟩:=aa h;refine jb (aC (t:=aw) rfl l8 eI O) ?_;refine ja (a8 1 false rfl eU rfl) ?_;refine ja (ao (t:=(.slice (.int .i64))) rfl bR rfl) ?_;refine mq ?_;obtain⟨QB,Y,h⟩:=aa h;refine jb (ak [.tmp 47,.tmp 48] rfl rfl zQ rfl (iN k QA.1 c.2.2.2.2 QB Y)) ?_;refine nt (cv h (fun h=>?_) (fun h=>?_))
       ·refine eD (bf (cg (a7 ?_)));exact jz ((),(c.1,c.2.1,c.2.2.1,c.2.2.2.1)) h [0]
       ·refine sk (aj (a6 ?_));refine ea 0 (ai rfl bL (sn) rfl) ?_;refine dm ?_;refine da (am rfl bA) ?_;refine ea 0 (ai rfl eu dF rfl) ?_;refine dm ?_;obtain⟨se,M,h⟩:=aa h;refine db (aC (t:=aw) rfl l8 eI M) ?_;refine da (ao (t:=aw) rfl eI rfl) ?_;refine dm ?_;obtain⟨E,X,h⟩:=aa h;refine db (ak [.tmp 57,.tmp 58] rfl rfl PT rfl (xT k se c.2.2.2.2 E X)) ?_;obtain⟨D,U,h⟩:=aa h;refine dc (ak [.tmp 51,.tmp 52,.tmp 59] rfl rfl Nb rfl (qf k a0 y6.2.2.2.2 E D U)) ?_;obtain⟨j,Q,h⟩:=aa h;refine da (ak [.tmp 60] rfl rfl FV rfl (i9 k D j Q)) ?_;refine dm ?_;refine da (fa rfl rfl) ?_;refine da (fa rfl rfl) ?_;refine da (fa rfl rfl) ?_;refine da (il rfl) ?_;refine da (il rfl) ?_;refine df bw ?_;refine aq (nt ?_);refine ay (Z:=Unit) (α:=Bool) (fun u l=>[(1,Pt b1),(8,I c.1),(9,.eq (.bool c.2.1)),(10,I c.2.2.1),(11,I c.2.2.2.1),(12,I y6.2.2.2.2),(13,I c.2.2.2.2),(15,I j.2.1),(74,.eq (.bool l))]) (fun u l=>[.obj b1 26 (.rep ag a0)]) h (fun K h=>?_) (fun u l h=>?_)
        ·refine ah ?_;iterate 2 refine mq ?_
         refine aM (s:=66) rfl (fun hb=>?_) (fun hb=>?_)
         ·replace h:=bY (uc hb) h;refine gm ?_;refine ga (eE rfl) ?_;refine gm ?_;refine aM (s:=69) rfl (fun hb=>?_) (fun hb=>?_)
          ·replace h:=bY (uu hb) h;iterate 3 refine gn ?_
           refine gb (dw rfl) ?_;refine pt (nl ?_);exact jz ((),true) h [0]
          ·replace h:=bj (ox hb) h;refine gm ?_;refine gm ?_;refine gb (ba rfl) ?_;refine gb (dV rfl) ?_;refine pt (nl ?_);exact jz ((),decide (j.2.1 < c.1)) h [0]
         ·replace h:=bj (ud hb) h;iterate 3 refine gn ?_
          refine gu ?_;refine gu ?_;refine gu ?_;refine gn ?_;refine pf (nl ?_);exact jz ((),false) h [0]
        ·refine cv h (fun h=>?_) (fun h=>?_)
         ·refine ah ?_;iterate 3 refine mq ?_
          refine aq ?_;refine aq ?_;refine aq ?_;refine cq (aT (bn ?_));exact jz ((),(j.2.1,true,y6.2.2.2.2,c.2.2.2.2)) h [0]
         ·refine aU (bn ?_);exact jz ((),(c.1,c.2.1,c.2.2.1,c.2.2.2.1)) h [0]
      ·refine ah (mq ?_);obtain⟨mc,J,h⟩:=aa h;refine jb (bh rfl J) ?_;refine aq (nl ?_);exact jz ((),(e.1,e.2.1,e.2.2.1,e.2.2.2,mc)) h [0]
     ·refine eD (bf (bf (cg (bn ?_))));exact jz ((),(c.1,c.2.1,c.2.2.1,c.2.2.2.1)) h [0]
    ·refine ah (mq ?_);obtain⟨ac,F,h⟩:=aa h;refine jb (bh rfl F) ?_;refine aq (nl ?_);exact jz ((),(x8.1,x8.2.1,x8.2.2.1,x8.2.2.2,ac)) h [0]
   ·refine xa ?_;exact jz ((),(y6.1,y6.2.2.1,y6.2.2.2.1)) h []
  ·refine aj (sr (mq ?_));refine jb (ba rfl) ?_;refine nt (ci h (fun h=>?_) (fun h=>?_))
   ·refine sr (cq ?_);refine cq ?_;refine cq ?_;refine cq (nt (rx ?_));cases h;exact aZ () [_,_,_,_] 0 ⟨rfl,rfl,rfl,rfl,trivial⟩ rfl
   ·refine sk (sr ?_);iterate 3 refine mq ?_
    refine aq ?_;refine aq ?_;refine aq ?_;refine cq (nt (aG ?_));cases h;exact aZ () [_,_,_,_] 0 ⟨rfl,rfl,rfl,rfl,trivial⟩ rfl
def dO(k:Nat)(a0:ae)(a1:ae):Nat→Int→Option (Except Bool Unit)
 |0,_=>none
 |n+1,y9=>
  if y9 < (a0.1.length:Int) then((aL a0.1 y9).bind fun e=>
  (aL a1.1 y9).bind fun c=>
  (((dG k e.1 c.1).bind fun l=>
  if¬(l=true) then(some true) else(if¬(e.2.1=c.2.1) then(some true) else(if¬(e.2.2.1=c.2.2.1) then(some true) else(if¬(e.2.2.2.1=c.2.2.2.1) then(some true) else(some (!decide (e.2.2.2.2=c.2.2.2.2))))))):Option (Bool)).bind fun j=>
  if j=true then(some (.error false)) else((ck (y9+1)).bind fun h=>
  dO k a0 a1 n h)) else(some (.ok ()))
def dN(k:Nat)(a0:ae)(a1:ae):Nat→Int→Option (Except Bool Unit)
 |0,_=>none
 |n+1,c=>
  if c < (a0.2.1.length:Int) then((aL a0.2.1 c).bind fun h=>
  (aL a1.2.1 c).bind fun e=>
  (((dG k h.1 e.1).bind fun r=>
  if¬(r=true) then(some true) else(if¬(h.2.1=e.2.1) then(some true) else(some (!decide (h.2.2=e.2.2))))):Option (Bool)).bind fun l=>
  if l=true then(some (.error false)) else((ck (c+1)).bind fun j=>
  dN k a0 a1 n j)) else(some (.ok ()))
def iU(k:Nat)(a0:ae)(a1:ae):Option Bool:=
 (((dG k a0.2.2.1 a1.2.2.1).bind fun r5=>
 if¬(r5=true) then(some true) else((dG k a0.2.2.2 a1.2.2.2).bind fun r6=>
 if¬(r6=true) then(some true) else(if¬((a0.1.length:Int)=(a1.1.length:Int)) then(some true) else(some (!decide ((a0.2.1.length:Int)=(a1.2.1.length:Int))))))):Option (Bool)).bind fun x3=>
 if x3=true then(some false) else(bE (α:=Unit) (dO k a0 a1 k 0) (some) fun _=>
 bE (α:=Unit) (dN k a0 a1 k 0) (some) fun _=>
 some true)
theorem sw(k:Nat)(a0:ae)(a1:ae)(r:Bool)(h:iU k a0 a1=some r):
 bQ Tryz.prog 16 [.rep ag a0,.rep ag a1] [] (fun _:Unit=>(bG [.eq (.bool r)],[])):=by
 unfold iU at h
 replace h:=bi h
 refine bQ.of 131 Tryz.func16 rfl Tryz.ntmps16 rfl fun S w0=>?_
 refine sr ?_
 refine bx fun b1=>?_
 refine bx fun b2=>?_
 refine cq ?_
 refine nt ?_
 refine aj ?_
 refine ay (Z:=Unit) (α:=Bool) (fun z4 x3=>[(2,Pt b1),(3,Pt b2),(42,.eq (.bool x3))]) (fun z4 x3=>[.obj b1 26 (.rep ag a0),.obj b2 26 (.rep ag a1)]) h (fun K h=>?_) (fun z4 x3 h=>?_)
 ·
  refine ah (fl fQ ?_);refine fr 1 ?_;refine lo bR ?_;refine fl fQ ?_;refine fr 1 ?_;refine lo bR ?_;obtain⟨r5,Q9,h⟩:=aa h;refine jb (ak [.tmp 12,.tmp 14] rfl rfl Bw rfl (eF k a0.2.2.1 a1.2.2.1 r5 Q9)) ?_;refine ja (eE rfl) ?_;refine mq ?_;refine aM (s:=17) rfl (fun hb=>?_) (fun hb=>?_)
  ·replace h:=bY (uu hb) h;iterate 6 refine gn ?_
   refine pt ?_;refine mq ?_;iterate 7 refine gn ?_
   refine pt ?_;refine mq ?_;iterate 7 refine gn ?_
   refine pt (nl ?_);exact jz ((),true) h [1,0]
  ·replace h:=bj (ox hb) h;refine ga (am rfl eV) ?_;refine fr 1 ?_;refine bO rfl rfl rfl rfl rfl rfl (ai rfl bR dF rfl) ⟨rfl,trivial⟩ ?_;refine ga (am rfl eV) ?_;refine fr 1 ?_;refine bO rfl rfl rfl rfl rfl rfl (ai rfl bR dF rfl) ⟨rfl,trivial⟩ ?_;obtain⟨r6,Q8,h⟩:=aa h;refine gb (ak [.tmp 19,.tmp 21] rfl rfl Bw rfl (eF k a0.2.2.2 a1.2.2.2 r6 Q8)) ?_;refine ga (eE rfl) ?_;refine pf ?_;refine mq ?_;refine aM (s:=25) rfl (fun hb=>?_) (fun hb=>?_)
   ·replace h:=bY (uu hb) h;iterate 7 refine gn ?_
    refine pt ?_;refine mq ?_;iterate 7 refine gn ?_
    refine pt (nl ?_);exact jz ((),true) h [1,0]
   ·replace h:=bj (ox hb) h;refine ga (am rfl bu) ?_;refine fr 1 ?_;refine bO rfl rfl rfl rfl rfl rfl (ai rfl dM dF rfl) ⟨rfl,trivial⟩ ?_;refine ga (mD rfl rfl kU) ?_;refine ga (am rfl bu) ?_;refine fr 1 ?_;refine bO rfl rfl rfl rfl rfl rfl (ai rfl dM dF rfl) ⟨rfl,trivial⟩ ?_;refine ga (mD rfl rfl kU) ?_;refine gb (bT rfl) ?_;refine pf ?_;refine mq ?_;refine aM (s:=34) rfl (fun hb=>?_) (fun hb=>?_)
    ·replace h:=bY (Ef hb) h;iterate 7 refine gn ?_
     refine pt (nl ?_);exact jz ((),true) h [1,0]
    ·replace h:=bj (tu hb) h;refine ga (am rfl bA) ?_;refine fr 1 ?_;refine bO rfl rfl rfl rfl rfl rfl (ai rfl eu dF rfl) ⟨rfl,trivial⟩ ?_;refine ga (mD rfl rfl l8) ?_;refine ga (am rfl bA) ?_;refine fr 1 ?_;refine bO rfl rfl rfl rfl rfl rfl (ai rfl eu dF rfl) ⟨rfl,trivial⟩ ?_;refine ga (mD rfl rfl l8) ?_;refine gb (bT rfl) ?_;refine pf (nl ?_);exact jz ((), !decide ((a0.2.1.length:Int)=(a1.2.1.length:Int))) h [1,0]
 ·
  refine cv h (fun h=>?_) (fun h=>?_)
  ·refine sr (cq (nt (rx ?_)));cases h;exact ra
  ·refine sk (cE (Z:=Unit) (α:=Unit) (fun z8 x7=>[(2,Pt b1),(3,Pt b2)]) (fun z8 x7=>[.obj b1 26 (.rep ag a0),.obj b2 26 (.rep ag a1)]) (fun e=>e=r) h (fun e h=>Option.some.inj h) (fun K hR h=>?_) (fun z8 x7 h=>?_))
   ·refine sr (cq (nt (al ?_)));refine aD (fun QA y9=>[(2,Pt b1),(3,Pt b2),(5,I y9)]) (fun QA y9=>[.obj b1 26 (.rep ag a0),.obj b2 26 (.rep ag a1)]) (dO k a0 a1) k () 0 (fun _=>rfl) h (SE.fin [0,1] ⟨rfl,rfl,rfl,trivial⟩ rfl) (fun n QA y9 h=>?_);unfold dO at h;refine aj (sr (mq ?_));refine fl bu ?_;refine lo dM ?_;refine ol kU ?_;refine jb (ba rfl) ?_;refine nt (ci h (fun h=>?_) (fun h=>?_))
    ·refine sk (aj (al (aj (i8 ?_))));refine aP rfl rfl rfl (am rfl bu) ⟨rfl,trivial⟩ ?_;refine fy 0 rfl rfl rfl rfl (ai rfl dM dF rfl) ⟨rfl,trivial⟩ ?_;refine aP rfl rfl rfl (bg rfl) ⟨rfl,trivial⟩ ?_;obtain⟨QF,QP,h⟩:=aa h;refine aP rfl rfl rfl (aC (t:=aJ) rfl kU eY QP) ⟨rfl,rfl,trivial⟩ ?_;refine aP rfl rfl rfl (ao (t:=aJ) rfl eY rfl) ⟨rfl,trivial⟩ ?_;refine aP rfl rfl rfl (am rfl bu) ⟨rfl,trivial⟩ ?_;refine fy 1 rfl rfl rfl rfl (ai rfl dM dF rfl) ⟨rfl,trivial⟩ ?_;refine aP rfl rfl rfl (bg rfl) ⟨rfl,trivial⟩ ?_;obtain⟨QE,QO,h⟩:=aa h;refine aP rfl rfl rfl (aC (t:=aJ) rfl kU eY QO) ⟨rfl,rfl,trivial⟩ ?_;refine aP rfl rfl rfl (ao (t:=aJ) rfl eY rfl) ⟨rfl,trivial⟩ ?_;refine kx (vr 45 (.agg (.pair (.eq (.slice none 0 0)) (.pair (I 0) (.pair (I 0) (.pair (I 0) (I 0))))))) (fun _=>rfl) rfl rfl rfl (aF rfl pU vB) trivial ?_;refine kx (vr 45 (.agg (.pair (.eq (.slice none 0 0)) (.pair (I 0) (.pair (I 0) (.pair (I 0) (I 0))))))) (fun _=>rfl) rfl rfl rfl (aF rfl pU vB) trivial ?_;refine mA 12 [true,true,true,true,true,false,false,false,false,false,true,true] [] [1] [.obj b2 26 (.rep ag a1)] rfl (by kernel_rfl) (by kernel_rfl) (by kernel_rfl) bw (fun vs hv hB=>?_);obtain⟨w0,Q5,rfl,X⟩:=ar hv;obtain⟨w1,Q4,rfl,U⟩:=ar X;obtain⟨w2,Q3,rfl,Q⟩:=ar U;obtain⟨w3,Q2,rfl,O⟩:=ar Q;obtain⟨w4,Q1,rfl,M⟩:=ar O;obtain⟨w5,Q0,rfl,J⟩:=ar M;obtain⟨w6,QZ,rfl,F⟩:=ar J;obtain⟨w7,QY,rfl,E⟩:=ar F;obtain⟨w8,QX,rfl,D⟩:=ar E;obtain⟨w9,QJ,rfl,l⟩:=ar D;obtain⟨QW,QH,rfl,j⟩:=ar l;obtain⟨QU,QG,rfl,c⟩:=ar j;obtain rfl:=kp c;obtain⟨Rh,rfl⟩:=nW hB.2.2.2.2.2.2.2.2.2.2.1;obtain⟨Rf,rfl⟩:=nW hB.2.2.2.2.2.2.2.2.2.2.2.1;refine⟨[1,0,2,3],[.obj b1 26 (.rep ag a0),.obj Rh 45 (.agg (.pair (.eq (.slice none 0 0)) (.pair (I 0) (.pair (I 0) (.pair (I 0) (I 0)))))),.obj Rf 45 (.agg (.pair (.eq (.slice none 0 0)) (.pair (I 0) (.pair (I 0) (.pair (I 0) (I 0))))))],by kernel_rfl,by decide,?_⟩;refine i7 1 rfl ?_;refine nw rfl rfl (aE rfl eY rfl rfl rfl) ⟨rfl,rfl,trivial⟩ (by kernel_rfl) ?_;refine xF (by kernel_rfl) ?_;refine fr 3 ?_;refine aK rfl rfl (aE rfl eY rfl rfl rfl) ⟨rfl,rfl,trivial⟩ ?_;refine nt (ay (Z:=Unit) (α:=Bool) (fun se y=>[(2,Pt b1),(3,Pt b2),(5,I y9),(93,.eq (.bool y))]) (fun se y=>[.obj b1 26 (.rep ag a0),.obj b2 26 (.rep ag a1)]) h (fun K h=>?_) (fun se y h=>?_))
     ·refine ah (fl iq ?_);refine fr 2 ?_;refine lo bR ?_;refine fl iq ?_;refine fr 1 ?_;refine lo bR ?_;obtain⟨Q7,QR,h⟩:=aa h;refine jb (ak [.tmp 61,.tmp 63] rfl rfl Bw rfl (eF k QF.1 QE.1 Q7 QR)) ?_;refine ja (eE rfl) ?_;refine mq ?_;refine aM (s:=66) rfl (fun hb=>?_) (fun hb=>?_)
      ·replace h:=bY (uu hb) h;iterate 5 refine gn ?_
       refine pt ?_;refine mq ?_;iterate 5 refine gn ?_
       refine pt ?_;refine mq ?_;iterate 5 refine gn ?_
       refine pt ?_;refine mq ?_;iterate 5 refine gn ?_
       refine pt (nl ?_);exact jz ((),true) h [3,2]
      ·replace h:=bj (ox hb) h;refine ga (am rfl uN) ?_;refine fr 1 ?_;refine bO rfl rfl rfl rfl rfl rfl (ai rfl cj dF rfl) ⟨rfl,trivial⟩ ?_;refine ga (am rfl uN) ?_;refine fr 1 ?_;refine bO rfl rfl rfl rfl rfl rfl (ai rfl cj dF rfl) ⟨rfl,trivial⟩ ?_;refine gb (bT rfl) ?_;refine pf ?_;refine mq ?_;refine aM (s:=73) rfl (fun hb=>?_) (fun hb=>?_)
       ·replace h:=bY (Ef hb) h;iterate 5 refine gn ?_
        refine pt ?_;refine mq ?_;iterate 5 refine gn ?_
        refine pt ?_;refine mq ?_;iterate 5 refine gn ?_
        refine pt (nl ?_);exact jz ((),true) h [3,2]
       ·replace h:=bj (tu hb) h;refine ga (am rfl uM) ?_;refine fr 1 ?_;refine bO rfl rfl rfl rfl rfl rfl (ai rfl cj dF rfl) ⟨rfl,trivial⟩ ?_;refine ga (am rfl uM) ?_;refine fr 1 ?_;refine bO rfl rfl rfl rfl rfl rfl (ai rfl cj dF rfl) ⟨rfl,trivial⟩ ?_;refine gb (bT rfl) ?_;refine pf ?_;refine mq ?_;refine aM (s:=80) rfl (fun hb=>?_) (fun hb=>?_)
        ·replace h:=bY (Ef hb) h;iterate 5 refine gn ?_
         refine pt ?_;refine mq ?_;iterate 5 refine gn ?_
         refine pt (nl ?_);exact jz ((),true) h [3,2]
        ·replace h:=bj (tu hb) h;refine ga (am rfl sx) ?_;refine fr 1 ?_;refine bO rfl rfl rfl rfl rfl rfl (ai rfl cj dF rfl) ⟨rfl,trivial⟩ ?_;refine ga (am rfl sx) ?_;refine fr 1 ?_;refine bO rfl rfl rfl rfl rfl rfl (ai rfl cj dF rfl) ⟨rfl,trivial⟩ ?_;refine gb (bT rfl) ?_;refine pf ?_;refine mq ?_;refine aM (s:=87) rfl (fun hb=>?_) (fun hb=>?_)
         ·replace h:=bY (Ef hb) h;iterate 5 refine gn ?_
          refine pt (nl ?_);exact jz ((),true) h [3,2]
         ·replace h:=bj (tu hb) h;refine ga (am rfl wW) ?_;refine fr 1 ?_;refine bO rfl rfl rfl rfl rfl rfl (ai rfl cj dF rfl) ⟨rfl,trivial⟩ ?_;refine ga (am rfl wW) ?_;refine fr 1 ?_;refine bO rfl rfl rfl rfl rfl rfl (ai rfl cj dF rfl) ⟨rfl,trivial⟩ ?_;refine gb (bT rfl) ?_;refine pf (nl ?_);exact jz ((), !decide (QF.2.2.2.2=QE.2.2.2.2)) h [3,2]
     ·refine cv h (fun h=>?_) (fun h=>?_)
      ·refine sr (cq (nt (aG (br (aV (aR ?_))))));obtain rfl:=hR _ h;exact ra
      ·refine aU (aO (tn (ah (mq ?_))));obtain⟨QT,QN,h⟩:=aa h;refine jb (bh rfl QN) ?_;refine aq (nl ?_);exact jz ((),QT) h [0,1]
    ·refine xa ?_;exact jz ((),()) h [0,1]
   ·refine cE (Z:=Unit) (α:=Unit) (fun mc QD=>[]) (fun mc QD=>[]) (fun e=>e=r) h (fun e h=>Option.some.inj h) (fun K hR h=>?_) (fun mc QD h=>?_)
    ·refine sr (cq (nt (al ?_)));refine aD (fun ac u=>[(2,Pt b1),(3,Pt b2),(8,I u)]) (fun ac u=>[.obj b1 26 (.rep ag a0),.obj b2 26 (.rep ag a1)]) (dN k a0 a1) k () 0 (fun _=>rfl) h (SE.fin [0,1] ⟨rfl,rfl,rfl,trivial⟩ rfl) (fun n ac u h=>?_);unfold dN at h;refine aj (sr (mq ?_));refine fl bA ?_;refine lo eu ?_;refine ol l8 ?_;refine jb (ba rfl) ?_;refine nt (ci h (fun h=>?_) (fun h=>?_))
     ·refine sk (aj (al (aj (i8 ?_))));refine aP rfl rfl rfl (am rfl bA) ⟨rfl,trivial⟩ ?_;refine fy 0 rfl rfl rfl rfl (ai rfl eu dF rfl) ⟨rfl,trivial⟩ ?_;refine aP rfl rfl rfl (bg rfl) ⟨rfl,trivial⟩ ?_;obtain⟨QC,QM,h⟩:=aa h;refine aP rfl rfl rfl (aC (t:=aw) rfl l8 eI QM) ⟨rfl,rfl,trivial⟩ ?_;refine aP rfl rfl rfl (ao (t:=aw) rfl eI rfl) ⟨rfl,trivial⟩ ?_;refine aP rfl rfl rfl (am rfl bA) ⟨rfl,trivial⟩ ?_;refine fy 1 rfl rfl rfl rfl (ai rfl eu dF rfl) ⟨rfl,trivial⟩ ?_;refine aP rfl rfl rfl (bg rfl) ⟨rfl,trivial⟩ ?_;obtain⟨QB,QL,h⟩:=aa h;refine aP rfl rfl rfl (aC (t:=aw) rfl l8 eI QL) ⟨rfl,rfl,trivial⟩ ?_;refine aP rfl rfl rfl (ao (t:=aw) rfl eI rfl) ⟨rfl,trivial⟩ ?_;refine kx (vr 47 (.agg (.pair (.eq (.slice none 0 0)) (.pair (I 0) (I 0))))) (fun _=>rfl) rfl rfl rfl (aF rfl rS xz) trivial ?_;refine kx (vr 47 (.agg (.pair (.eq (.slice none 0 0)) (.pair (I 0) (I 0))))) (fun _=>rfl) rfl rfl rfl (aF rfl rS xz) trivial ?_;refine mA 12 [true,true,true,true,true,false,false,false,false,false,true,true] [] [1] [.obj b2 26 (.rep ag a1)] rfl (by kernel_rfl) (by kernel_rfl) (by kernel_rfl) bw (fun vs hv hB=>?_);obtain⟨w0,Q5,rfl,X⟩:=ar hv;obtain⟨w1,Q4,rfl,U⟩:=ar X;obtain⟨w2,Q3,rfl,Q⟩:=ar U;obtain⟨w3,Q2,rfl,O⟩:=ar Q;obtain⟨w4,Q1,rfl,M⟩:=ar O;obtain⟨w5,Q0,rfl,J⟩:=ar M;obtain⟨w6,QZ,rfl,F⟩:=ar J;obtain⟨w7,QY,rfl,E⟩:=ar F;obtain⟨w8,QX,rfl,D⟩:=ar E;obtain⟨w9,QJ,rfl,l⟩:=ar D;obtain⟨QW,QH,rfl,j⟩:=ar l;obtain⟨QU,QG,rfl,c⟩:=ar j;obtain rfl:=kp c;obtain⟨Re,rfl⟩:=nW hB.2.2.2.2.2.2.2.2.2.2.1;obtain⟨Rb,rfl⟩:=nW hB.2.2.2.2.2.2.2.2.2.2.2.1;refine⟨[1,0,2,3],[.obj b1 26 (.rep ag a0),.obj Re 47 (.agg (.pair (.eq (.slice none 0 0)) (.pair (I 0) (I 0)))),.obj Rb 47 (.agg (.pair (.eq (.slice none 0 0)) (.pair (I 0) (I 0))))],by kernel_rfl,by decide,?_⟩;refine i7 1 rfl ?_;refine nw rfl rfl (aE rfl eI rfl rfl rfl) ⟨rfl,rfl,trivial⟩ (by kernel_rfl) ?_;refine xF (by kernel_rfl) ?_;refine fr 3 ?_;refine aK rfl rfl (aE rfl eI rfl rfl rfl) ⟨rfl,rfl,trivial⟩ ?_;refine nt (ay (Z:=Unit) (α:=Bool) (fun Y x=>[(2,Pt b1),(3,Pt b2),(8,I u),(130,.eq (.bool x))]) (fun Y x=>[.obj b1 26 (.rep ag a0),.obj b2 26 (.rep ag a1)]) h (fun K h=>?_) (fun Y x h=>?_))
      ·refine ah (fl eU ?_);refine fr 2 ?_;refine lo bR ?_;refine fl eU ?_;refine fr 1 ?_;refine lo bR ?_;obtain⟨Q6,QQ,h⟩:=aa h;refine jb (ak [.tmp 112,.tmp 114] rfl rfl Bw rfl (eF k QC.1 QB.1 Q6 QQ)) ?_;refine ja (eE rfl) ?_;refine mq ?_;refine aM (s:=117) rfl (fun hb=>?_) (fun hb=>?_)
       ·replace h:=bY (uu hb) h;iterate 5 refine gn ?_
        refine pt ?_;refine mq ?_;iterate 5 refine gn ?_
        refine pt (nl ?_);exact jz ((),true) h [3,2]
       ·replace h:=bj (ox hb) h;refine ga (am rfl qA) ?_;refine fr 1 ?_;refine bO rfl rfl rfl rfl rfl rfl (ai rfl cj dF rfl) ⟨rfl,trivial⟩ ?_;refine ga (am rfl qA) ?_;refine fr 1 ?_;refine bO rfl rfl rfl rfl rfl rfl (ai rfl cj dF rfl) ⟨rfl,trivial⟩ ?_;refine gb (bT rfl) ?_;refine pf ?_;refine mq ?_;refine aM (s:=124) rfl (fun hb=>?_) (fun hb=>?_)
        ·replace h:=bY (Ef hb) h;iterate 5 refine gn ?_
         refine pt (nl ?_);exact jz ((),true) h [3,2]
        ·replace h:=bj (tu hb) h;refine ga (am rfl od) ?_;refine fr 1 ?_;refine bO rfl rfl rfl rfl rfl rfl (ai rfl cj dF rfl) ⟨rfl,trivial⟩ ?_;refine ga (am rfl od) ?_;refine fr 1 ?_;refine bO rfl rfl rfl rfl rfl rfl (ai rfl cj dF rfl) ⟨rfl,trivial⟩ ?_;refine gb (bT rfl) ?_;refine pf (nl ?_);exact jz ((), !decide (QC.2.2=QB.2.2)) h [3,2]
      ·refine cv h (fun h=>?_) (fun h=>?_)
       ·refine sr (cq (nt (aG (br (aV (aR ?_))))));obtain rfl:=hR _ h;exact ra
       ·refine aU (aO (tn (ah (mq ?_))));obtain⟨QS,QK,h⟩:=aa h;refine jb (bh rfl QK) ?_;refine aq (nl ?_);exact jz ((),QS) h [0,1]
     ·refine xa ?_;exact jz ((),()) h []
    ·refine sr (cq (nt (aG ?_)));cases h;exact ra
end Go.Proofs.YtopgphikdglphaaGreat
