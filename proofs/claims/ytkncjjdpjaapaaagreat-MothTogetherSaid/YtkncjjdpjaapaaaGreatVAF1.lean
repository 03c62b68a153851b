import Derived.Test.YtkncjjdpjaapaaaGreatVAFacts
set_option linter.unusedSimpArgs false
set_option linter.unusedVariables false
set_option maxRecDepth 4000
set_option maxHeartbeats 1000000
namespace Go.Proofs.YtkncjjdpjaapaaaGreat
open K Go Go.Proofs
def lG(k:Nat)(a0:(List Int)):Option bR:=
 some (a0,0,1)
theorem tX(k:Nat)(a0:(List Int))(r:bR)(h:lG k a0=some r):
 dy Tryz.prog 7 [Ri a0] [] (fun z:Nat=>(bI [Pt z],[.obj z 56 (.agg (.pair (Ri r.1) (.pair (I r.2.1) (.eq (.int .u64 r.2.2)))))])):=by
 unfold lG at h
 replace h:=bo h
 refine dy.of 6 Tryz.func7 rfl Tryz.ntmps7 rfl fun S w0=>?_
 refine sr ?_
 refine cq ?_
 refine nt ?_
 refine sr ?_
 refine mq ?_
 refine jb (dC [(0,.tmp 3,_),(2,.const (.int .u64 (1)),_)] rfl Qm Qh PD (i8 ⟨rfl,rfl,trivial⟩) rfl) ?_
 refine aZ rfl rfl rfl (vt rfl trivial) ⟨rfl,trivial⟩ fun b1=>?_
 refine aq ?_
 refine nt ?_
 refine aC ?_
 cases h
 exact aM b1 [Pt b1] 1 ⟨rfl,trivial⟩ rfl
def gQ(k:Nat)(a0:bR):Option (Int×bR):=
 ((if a0.2.1 < (a0.1.length:Int) then((aX a0.1 a0.2.1).bind fun x3=>
 some (IntKind.u64.wrap ((IntKind.u64.wrap ((IntKind.u64.wrap (a0.2.2 * 6364136223846793005))+1442695040888963407))+(IntKind.u64.wrap ((IntKind.u64.wrap x3) * 2862933555777941757))))) else(some (IntKind.u64.wrap ((IntKind.u64.wrap (a0.2.2 * 6364136223846793005))+1442695040888963407)))):Option (Int)).bind fun x1=>
 (ck (a0.2.1+1)).bind fun x4=>
 some (fV .u64 (pN .u64 (IntKind.u64.wrap ((pN .u64 x1 (fV .u64 x1 29)) * 2685821657736338717)) (fV .u64 (IntKind.u64.wrap ((pN .u64 x1 (fV .u64 x1 29)) * 2685821657736338717)) 32)) 8,(a0.1,x4,x1))
theorem rO(k:Nat)(a0:bR)(c:Nat)(r:Int×bR)(h:gQ k a0=some r):
 dy Tryz.prog 39 [Pt c] [.obj c 56 (.agg (.pair (Ri a0.1) (.pair (I a0.2.1) (.eq (.int .u64 a0.2.2)))))] (fun _:Unit=>(bI [.eq (.int .u64 r.1)],[.obj c 56 (.agg (.pair (Ri r.2.1) (.pair (I r.2.2.1) (.eq (.int .u64 r.2.2.2)))))])):=by
 unfold gQ at h
 replace h:=bo h
 refine dy.of 67 Tryz.func39 rfl Tryz.ntmps39 rfl fun S w0=>?_
 refine sr ?_
 refine cq ?_
 refine nt ?_
 refine sr ?_
 iterate 2 refine mq ?_
 refine ja (cG rfl) ?_
 refine fl rT ?_
 refine lo C3 ?_
 refine jb (zZ rfl) ?_
 refine jb (FK rfl) ?_
 refine ja (cG rfl) ?_
 refine fl rT ?_
 refine aU rfl rfl (aR rfl C3 rfl rfl rfl) ⟨rfl,rfl,trivial⟩ ?_
 refine nt ?_
 refine aJ (Z:=Unit) (α:=Int) (fun z2 x1=>[(0,Pt c)]) (fun z2 x1=>[.obj c 56 (.agg (.pair (Ri a0.1) (.pair (I a0.2.1) (.eq (.int .u64 x1)))))]) h (fun K h=>?_) (fun z2 x1 h=>?_)
 ·
  refine am (cS ?_);refine dm ?_;refine da (cG rfl) ?_;refine da (aN rfl wU) ?_;refine ea 0 (aD rfl bT pX rfl) ?_;refine dm ?_;refine da (cG rfl) ?_;refine da (aN rfl GP) ?_;refine ea 0 (aD rfl iD pX rfl) ?_;refine da (vq rfl rfl iC) ?_;refine df eF ?_;refine jb (bG rfl) ?_;refine nt (ci h (fun h=>?_) (fun h=>?_))
  ·refine cS ?_;refine dm ?_;refine dm ?_;refine da (cG rfl) ?_;refine da (aN rfl rT) ?_;refine ea 0 (aD rfl C3 pX rfl) ?_;refine dm ?_;refine da (cG rfl) ?_;refine da (aN rfl GP) ?_;refine ea 0 (aD rfl iD pX rfl) ?_;refine dm ?_;refine da (cG rfl) ?_;refine da (aN rfl wU) ?_;refine ea 0 (aD rfl bT pX rfl) ?_;obtain⟨x3,j,h⟩:=aa h;refine db (be (t:=(.int .i64)) rfl iC bT j) ?_;refine da (av (t:=(.int .i64)) rfl bT rfl) ?_;refine da (rA rfl U3 P9) ?_;refine db (zZ rfl) ?_;refine db (FK rfl) ?_;refine df eF ?_;refine ja (cG rfl) ?_;refine fl rT ?_;refine aU rfl rfl (aR rfl C3 rfl rfl rfl) ⟨rfl,rfl,trivial⟩ ?_;refine nl ?_;exact jz ((),IntKind.u64.wrap ((IntKind.u64.wrap ((IntKind.u64.wrap (a0.2.2 * 6364136223846793005))+1442695040888963407))+(IntKind.u64.wrap ((IntKind.u64.wrap x3) * 2862933555777941757)))) h [0]
  ·refine bh (ap ?_);exact jz ((),IntKind.u64.wrap ((IntKind.u64.wrap (a0.2.2 * 6364136223846793005))+1442695040888963407)) h [0]
 ·
  refine sr (mq ?_);refine ja (cG rfl) ?_;refine fl wU ?_;refine lo bT ?_;obtain⟨x4,e,h⟩:=aa h;refine jb (bB rfl e) ?_;refine ja (cG rfl) ?_;refine fl wU ?_;refine aU rfl rfl (aR rfl bT rfl rfl rfl) ⟨rfl,rfl,trivial⟩ ?_;refine nt (am (cS ?_));refine dm ?_;refine da (cG rfl) ?_;refine da (aN rfl rT) ?_;refine ea 0 (aD rfl C3 pX rfl) ?_;refine dm ?_;refine da (cG rfl) ?_;refine da (aN rfl rT) ?_;refine ea 0 (aD rfl C3 pX rfl) ?_;refine fE rfl rfl rfl (tH rfl (by decide)) ⟨rfl,rfl,trivial⟩ ?_;refine df eF ?_;refine jb (KX rfl) ?_;refine aq (nt (sr ?_));refine mq ?_;refine jb (zZ rfl) ?_;refine aq (nt (sr ?_));iterate 2 refine mq ?_
  refine bU rfl (tH rfl (by decide)) ⟨rfl,rfl,trivial⟩ ?_;refine jb (KX rfl) ?_;refine bU rfl (tH rfl (by decide)) ⟨rfl,rfl,trivial⟩ ?_;refine aq (nt (aC ?_));cases h;exact aM () [_] 1 ⟨rfl,trivial⟩ rfl
def cR(k:Nat)(a0:bR)(a1:Int):Option (Int×bR):=
 if a1 < 1 then(some (0,(a0.1,a0.2.1,a0.2.2))) else((gQ k (a0.1,a0.2.1,a0.2.2)).bind fun r1=>
 (ck (a1+1)).bind fun x2=>
 (cJ ((IntKind.u64.wrap x2)≠0)).bind fun _=>
 (ck (Int.tmod r1.1 (IntKind.u64.wrap x2))).bind fun x4=>
 some (x4,(r1.2.1,r1.2.2.1,r1.2.2.2)))
theorem dq(k:Nat)(a0:bR)(c:Nat)(a1:Int)(r:Int×bR)(h:cR k a0 a1=some r):
 dy Tryz.prog 16 [Pt c,I a1] [.obj c 56 (.agg (.pair (Ri a0.1) (.pair (I a0.2.1) (.eq (.int .u64 a0.2.2)))))] (fun _:Unit=>(bI [I r.1],[.obj c 56 (.agg (.pair (Ri r.2.1) (.pair (I r.2.2.1) (.eq (.int .u64 r.2.2.2)))))])):=by
 unfold cR at h
 replace h:=bo h
 refine dy.of 14 Tryz.func16 rfl Tryz.ntmps16 rfl fun S w0=>?_
 refine sr ?_
 refine cq ?_
 refine nt ?_
 refine am ?_
 refine sr ?_
 refine mq ?_
 refine jb (bG rfl) ?_
 refine nt ?_
 refine ci h (fun h=>?_) (fun h=>?_)
 ·
  refine sr (cq (nt (rx ?_)));cases h;exact aM () [_] 1 ⟨rfl,trivial⟩ rfl
 ·
  refine sk (sr (mq ?_));obtain⟨r1,n,h⟩:=aa h;refine ka (ax [.tmp 7] rfl rfl Q2 rfl (rO k (a0.1,a0.2.1,a0.2.2) c r1 n)) ?_;refine mq ?_;obtain⟨x2,j,h⟩:=aa h;refine jb (bB rfl j) ?_;refine ja (rA rfl U3 P9) ?_;obtain⟨u3,l,h⟩:=aa h;refine jb (Ov rfl (ao l)) ?_;obtain⟨x4,e,h⟩:=aa h;refine ja (yl rfl P9 U3 e) ?_;refine aq (nt (aC ?_));cases h;exact aM () [_] 1 ⟨rfl,trivial⟩ rfl
def fg(k:Nat)(a0:bR)(a1:Int)(a2:Int):Option (Int×bR):=
 (ck (a2 - a1)).bind fun x1=>
 (cR k (a0.1,a0.2.1,a0.2.2) x1).bind fun r2=>
 (ck (a1+r2.1)).bind fun x3=>
 some (x3,(r2.2.1,r2.2.2.1,r2.2.2.2))
theorem iR(k:Nat)(a0:bR)(c:Nat)(a1:Int)(a2:Int)(r:Int×bR)(h:fg k a0 a1 a2=some r):
 dy Tryz.prog 23 [Pt c,I a1,I a2] [.obj c 56 (.agg (.pair (Ri a0.1) (.pair (I a0.2.1) (.eq (.int .u64 a0.2.2)))))] (fun _:Unit=>(bI [I r.1],[.obj c 56 (.agg (.pair (Ri r.2.1) (.pair (I r.2.2.1) (.eq (.int .u64 r.2.2.2)))))])):=by
 unfold fg at h
 replace h:=bo h
 refine dy.of 14 Tryz.func23 rfl Tryz.ntmps23 rfl fun S w0=>?_
 refine sr ?_
 refine cq ?_
 refine nt ?_
 refine sr ?_
 iterate 4 refine mq ?_
 obtain⟨x1,j,h⟩:=aa h
 refine jb (ek rfl j) ?_
 obtain⟨r2,l,h⟩:=aa h
 have n:=dq k (a0.1,a0.2.1,a0.2.2) c x1 r2 l
 refine kb (ax [.tmp 8,.tmp 11] rfl rfl AG rfl n) ?_
 obtain⟨x3,e,h⟩:=aa h
 refine jb (bB rfl e) ?_
 refine aq ?_
 refine nt ?_
 refine aC ?_
 cases h
 exact aM () [_] 1 ⟨rfl,trivial⟩ rfl
def f9(k:Nat)(a0:bR)(a1:(List Int)):Option (Int×bR):=
 (ck ((a1.length:Int) - 1)).bind fun x1=>
 (cR k (a0.1,a0.2.1,a0.2.2) x1).bind fun r2=>
 (aX a1 r2.1).bind fun x3=>
 some (x3,(r2.2.1,r2.2.2.1,r2.2.2.2))
theorem kX(k:Nat)(a0:bR)(c:Nat)(a1:(List Int))(r:Int×bR)(h:f9 k a0 a1=some r):
 dy Tryz.prog 24 [Pt c,Ri a1] [.obj c 56 (.agg (.pair (Ri a0.1) (.pair (I a0.2.1) (.eq (.int .u64 a0.2.2)))))] (fun _:Unit=>(bI [I r.1],[.obj c 56 (.agg (.pair (Ri r.2.1) (.pair (I r.2.2.1) (.eq (.int .u64 r.2.2.2)))))])):=by
 unfold f9 at h
 replace h:=bo h
 refine dy.of 13 Tryz.func24 rfl Tryz.ntmps24 rfl fun S w0=>?_
 refine sr ?_
 refine cq ?_
 refine nt ?_
 refine sr ?_
 iterate 3 refine mq ?_
 refine ol iC ?_
 obtain⟨x1,j,h⟩:=aa h
 refine jb (ek rfl j) ?_
 obtain⟨r2,l,h⟩:=aa h
 have n:=dq k (a0.1,a0.2.1,a0.2.2) c x1 r2 l
 refine kb (ax [.tmp 6,.tmp 9] rfl rfl AG rfl n) ?_
 obtain⟨x3,e,h⟩:=aa h
 refine jb (be (t:=(.int .i64)) rfl iC bT e) ?_
 refine ja (av (t:=(.int .i64)) rfl bT rfl) ?_
 refine aq ?_
 refine nt ?_
 refine aC ?_
 cases h
 exact aM () [_] 1 ⟨rfl,trivial⟩ rfl
def eK(k:Nat)(a0:bR)(a1:Int):Option (Bool×bR):=
 (ck (a1 - 1)).bind fun x1=>
 (cR k (a0.1,a0.2.1,a0.2.2) x1).bind fun r2=>
 some (decide (r2.1=0),(r2.2.1,r2.2.2.1,r2.2.2.2))
theorem jm(k:Nat)(a0:bR)(c:Nat)(a1:Int)(r:Bool×bR)(h:eK k a0 a1=some r):
 dy Tryz.prog 25 [Pt c,I a1] [.obj c 56 (.agg (.pair (Ri a0.1) (.pair (I a0.2.1) (.eq (.int .u64 a0.2.2)))))] (fun _:Unit=>(bI [.eq (.bool r.1)],[.obj c 56 (.agg (.pair (Ri r.2.1) (.pair (I r.2.2.1) (.eq (.int .u64 r.2.2.2)))))])):=by
 unfold eK at h
 replace h:=bo h
 refine dy.of 10 Tryz.func25 rfl Tryz.ntmps25 rfl fun S w0=>?_
 refine sr ?_
 refine cq ?_
 refine nt ?_
 refine sr ?_
 iterate 2 refine mq ?_
 obtain⟨x1,e,h⟩:=aa h
 refine jb (ek rfl e) ?_
 obtain⟨r2,j,h⟩:=aa h
 have l:=dq k (a0.1,a0.2.1,a0.2.2) c x1 r2 j
 refine kb (ax [.tmp 5,.tmp 7] rfl rfl AG rfl l) ?_
 refine jb (jd rfl) ?_
 refine aq ?_
 refine nt ?_
 refine aC ?_
 cases h
 exact aM () [_] 1 ⟨rfl,trivial⟩ rfl
def iS(k:Nat)(a0:(List Int)):Option (List Int):=
 (cJ (cu (List.length ([]:(List Int))+List.length a0))).bind fun _=>
 some (([]:(List Int))++a0)
theorem sP(k:Nat)(a0:(List Int))(r:(List Int))(h:iS k a0=some r):
 dy Tryz.prog 46 [Ri a0] [] (fun z:Value=>(bI [.eq z],[.sl z 3 (.int .i64) r])):=by
 unfold iS at h
 replace h:=bo h
 refine dy.of 6 Tryz.func46 rfl Tryz.ntmps46 rfl fun S w0=>?_
 refine sr ?_
 refine cq ?_
 refine nt ?_
 refine sr ?_
 refine aZ rfl rfl rfl (mA (t:=(.int .i64)) [] ([]:(List Int)) rfl rfl dn .nil rfl rfl) trivial fun v1=>?_
 refine mq ?_
 obtain⟨u2,c,h⟩:=aa h
 refine dN rfl rfl rfl (cx rfl rfl dn (ao c)) ⟨rfl,rfl,trivial⟩ fun v3=>?_
 refine aq ?_
 refine nt ?_
 refine aC ?_
 cases h
 exact aM v3 [.eq v3] 1 ⟨rfl,trivial⟩ rfl
def c8(k:Nat)(a0:(List (List Int))):Nat→((List (List Int))×Int)→Option (List (List Int))
 |0,_=>none
 |n+1,y3=>
  if y3.2 < (a0.length:Int) then((aX a0 y3.2).bind fun x5=>
  (iS k x5).bind fun r6=>
  (cJ (cu (List.length y3.1+List.length [r6]))).bind fun _=>
  (ck (y3.2+1)).bind fun c=>
  c8 k a0 n (y3.1++[r6],c)) else(some y3.1)
def gR(k:Nat)(a0:(List (List Int))):Option (List (List Int)):=
 ((c8 k a0 k (([]:(List (List Int))),0)):Option ((List (List Int)))).bind fun x1=>
 some x1
theorem rP(k:Nat)(a0:(List (List Int)))(r:(List (List Int)))(h:gR k a0=some r):
 dy Tryz.prog 26 [.rep (.slice (.slice (.int .i64))) a0] [] (fun z:Value=>(bI [.eq z],[.sl z 22 (.slice (.int .i64)) r])):=by
 unfold gR at h
 replace h:=bo h
 refine dy.of 20 Tryz.func26 rfl Tryz.ntmps26 rfl fun S w0=>?_
 refine sr ?_
 refine cq ?_
 refine nt ?_
 refine sr ?_
 refine cq ?_
 refine nt ?_
 refine aJ (Z:=Value) (α:=(List (List Int))) (fun z2 x1=>[(3,.eq z2)]) (fun z2 x1=>[.sl z2 22 (.slice (.int .i64)) x1]) h (fun K h=>?_) (fun z2 x1 h=>?_)
 ·
  refine sr (cq (nt (ak ?_)));refine gX (SE.nil 22 (.slice (.int .i64))) ?_;refine aH (fun z4 y3=>[(0,.rep (.slice (.slice (.int .i64))) a0),(3,.eq z4),(4,I y3.2)]) (fun z4 y3=>[.sl z4 22 (.slice (.int .i64)) y3.1]) (c8 k a0) k (.slice none 0 0) (([]:(List (List Int))),0) (fun _=>rfl) h (SE.fin [0] ⟨rfl,rfl,rfl,trivial⟩ rfl) (fun n z4 y3 h=>?_);unfold c8 at h;refine am (sr ?_);iterate 2 refine mq ?_
  refine ol sE ?_;refine jb (bG rfl) ?_;refine nt (ci h (fun h=>?_) (fun h=>?_))
  ·refine sk (am (ak (ag ?_)));iterate 3 refine mq ?_
   obtain⟨x5,j,h⟩:=aa h;refine jb (be (t:=(.slice (.int .i64))) rfl sE iD j) ?_;refine ja (av (t:=(.slice (.int .i64))) rfl iD rfl) ?_;obtain⟨r6,s,h⟩:=aa h;refine aZ rfl rfl rfl (ax [.tmp 15] rfl rfl Q1 rfl (sP k x5 r6 s)) ⟨rfl,trivial⟩ fun v7=>?_;refine dX (iV [16] ⟨rfl,trivial⟩) ?_;refine ja (bf (t:=(.slice (.int .i64))) [(.tmp 16,_)] [r6] rfl rfl oQ (.cons rfl .rep .nil) rfl rfl) ?_;obtain⟨u8,l,h⟩:=aa h;refine dN rfl rfl rfl (cx rfl rfl oQ (ao l)) ⟨rfl,rfl,trivial⟩ fun v9=>?_;refine aq (aE (aS (tn (ag ?_))));refine mq ?_;obtain⟨e,c,h⟩:=aa h;refine jb (bB rfl c) ?_;refine aq (nl ?_);exact jz (v9,(y3.1++[r6],e)) h [0]
  ·refine xa ?_;exact jz (z4,y3.1) h [0]
 ·
  refine sr (mq ?_);refine aq (nt (aC ?_));cases h;exact aM z2 [.eq z2] 1 ⟨rfl,trivial⟩ rfl
def dG(k:Nat)(a1:Int):Nat→((List Int)×Int×Int×(List Int)×Int)→Option ((List Int)×(List Int)×Int×Int)
 |0,_=>none
 |n+1,y3=>
  if y3.2.2.2.2 < a1 then((cR k (y3.1,y3.2.1,y3.2.2.1) y3.2.2.2.2).bind fun r5=>
  (cJ (cu (List.length y3.2.2.2.1+List.length [y3.2.2.2.2]))).bind fun _=>
  (aX (y3.2.2.2.1++[y3.2.2.2.2]) r5.1).bind fun x8=>
  (aX (y3.2.2.2.1++[y3.2.2.2.2]) y3.2.2.2.2).bind fun x9=>
  (aX (List.set (y3.2.2.2.1++[y3.2.2.2.2]) (Int.toNat y3.2.2.2.2) x8) r5.1).bind fun e=>
  (ck (y3.2.2.2.2+1)).bind fun c=>
  dG k a1 n (r5.2.1,r5.2.2.1,r5.2.2.2,List.set (List.set (y3.2.2.2.1++[y3.2.2.2.2]) (Int.toNat y3.2.2.2.2) x8) (Int.toNat r5.1) y3.2.2.2.2,c)) else(some (y3.2.2.2.1,y3.1,y3.2.1,y3.2.2.1))
def gd(k:Nat)(a0:bR)(a1:Int):Option ((List Int)×bR):=
 ((dG k a1 k (a0.1,a0.2.1,a0.2.2,([]:(List Int)),0)):Option ((List Int)×(List Int)×Int×Int)).bind fun x1=>
 some (x1.1,(x1.2.1,x1.2.2.1,x1.2.2.2))
theorem qJ(k:Nat)(a0:bR)(c:Nat)(a1:Int)(r:(List Int)×bR)(h:gd k a0 a1=some r):
 dy Tryz.prog 47 [Pt c,I a1] [.obj c 56 (.agg (.pair (Ri a0.1) (.pair (I a0.2.1) (.eq (.int .u64 a0.2.2)))))] (fun _:Unit=>(bI [Ri r.1],[.obj c 56 (.agg (.pair (Ri r.2.1) (.pair (I r.2.2.1) (.eq (.int .u64 r.2.2.2)))))])):=by
 unfold gd at h
 replace h:=bo h
 refine dy.of 32 Tryz.func47 rfl Tryz.ntmps47 rfl fun S w0=>?_
 refine sr ?_
 refine cq ?_
 refine nt ?_
 refine sr ?_
 refine cq ?_
 refine nt ?_
 refine aJ (Z:=Value) (α:=(List Int)×(List Int)×Int×Int) (fun z2 x1=>[(5,.eq z2)]) (fun z2 x1=>[.sl z2 3 (.int .i64) x1.1,.obj c 56 (.agg (.pair (Ri x1.2.1) (.pair (I x1.2.2.1) (.eq (.int .u64 x1.2.2.2)))))]) h (fun K h=>?_) (fun z2 x1 h=>?_)
 ·
  refine sr (cq (nt (ak ?_)));refine gX (SE.nil 3 (.int .i64)) ?_;refine aH (fun z4 y3=>[(0,Pt c),(1,I a1),(5,.eq z4),(6,I y3.2.2.2.2)]) (fun z4 y3=>[.obj c 56 (.agg (.pair (Ri y3.1) (.pair (I y3.2.1) (.eq (.int .u64 y3.2.2.1))))),.sl z4 3 (.int .i64) y3.2.2.2.1]) (dG k a1) k (.slice none 0 0) (a0.1,a0.2.1,a0.2.2,([]:(List Int)),0) (fun _=>rfl) h (SE.fin [1,0] ⟨rfl,rfl,rfl,rfl,trivial⟩ rfl) (fun n z4 y3 h=>?_);unfold dG at h;refine am (sr ?_);iterate 2 refine mq ?_
  refine jb (bG rfl) ?_;refine nt (ci h (fun h=>?_) (fun h=>?_))
  ·refine sk (am (ak (sr ?_)));iterate 2 refine mq ?_
   obtain⟨r5,y,h⟩:=aa h;refine kb (ax [.tmp 13,.tmp 14] rfl rfl AG rfl (dq k (y3.1,y3.2.1,y3.2.2.1) c y3.2.2.2.2 r5 y)) ?_;refine aq (nt (sr ?_));iterate 2 refine mq ?_
   refine ja (bf (t:=(.int .i64)) [(.tmp 17,_)] [y3.2.2.2.2] rfl rfl dn (.cons rfl .int .nil) rfl rfl) ?_;obtain⟨u6,x,h⟩:=aa h;refine fr 1 ?_;refine dN rfl rfl rfl (cx rfl rfl dn (ao x)) ⟨rfl,rfl,trivial⟩ fun v7=>?_;refine aq (nt (ag ?_));iterate 6 refine mq ?_
   obtain⟨x8,l,h⟩:=aa h;refine kb (cz (t:=(.int .i64)) rfl iC bT l) ?_;refine ka (gh (i:=Int.toNat r5.1) (off:=0) rfl bT (fun _=>rfl) rfl (dr l).2.2 rfl) ?_;refine mq ?_;obtain⟨x9,j,h⟩:=aa h;refine kb (cz (t:=(.int .i64)) rfl iC bT j) ?_;refine aU rfl rfl (fY (i:=Int.toNat y3.2.2.2.2) rfl bT rfl (mQ j) rfl .int rfl) ⟨rfl,rfl,trivial⟩ ?_;obtain⟨D,e,h⟩:=aa h;refine kb (cz (t:=(.int .i64)) rfl iC bT e) ?_;refine aU rfl rfl (fY (i:=Int.toNat r5.1) rfl bT rfl (mQ e) rfl .int rfl) ⟨rfl,rfl,trivial⟩ ?_;refine aE (aS (tn (ag (mq ?_))));obtain⟨u,s,h⟩:=aa h;refine jb (bB rfl s) ?_;refine aq (nl ?_);exact jz (v7,(r5.2.1,r5.2.2.1,r5.2.2.2,List.set (List.set (y3.2.2.2.1++[y3.2.2.2.2]) (Int.toNat y3.2.2.2.2) x8) (Int.toNat r5.1) y3.2.2.2.2,u)) h [1,0]
  ·refine xa ?_;exact jz (z4,(y3.2.2.2.1,y3.1,y3.2.1,y3.2.2.1)) h [1,0]
 ·
  refine sr (mq ?_);refine aq (nt (aC ?_));refine b8 (iV [4,5,31] ⟨rfl,rfl,rfl,trivial⟩) ?_;cases h;exact aM () [_] 1 ⟨rfl,trivial⟩ rfl
def eV(k:Nat)(a1:Int):Nat→((List Int)×Int×Int×(List Int)×Int)→Option ((List Int)×(List Int)×Int×Int)
 |0,_=>none
 |n+1,y3=>
  if y3.2.2.2.2 < a1 then((((eK k (y3.1,y3.2.1,y3.2.2.1) 3).bind fun r7=>
  if r7.1=true then((cJ (cu (List.length y3.2.2.2.1+List.length [y3.2.2.2.2]))).bind fun _=>
  some (r7.2.1,r7.2.2.1,r7.2.2.2,y3.2.2.2.1++[y3.2.2.2.2])) else(some (r7.2.1,r7.2.2.1,r7.2.2.2,y3.2.2.2.1))):Option ((List Int)×Int×Int×(List Int))).bind fun x5=>
  (ck (y3.2.2.2.2+1)).bind fun c=>
  eV k a1 n (x5.1,x5.2.1,x5.2.2.1,x5.2.2.2,c)) else(some (y3.2.2.2.1,y3.1,y3.2.1,y3.2.2.1))
def iv(k:Nat)(a0:bR)(a1:Int):Option ((List Int)×bR):=
 ((eV k a1 k (a0.1,a0.2.1,a0.2.2,([]:(List Int)),0)):Option ((List Int)×(List Int)×Int×Int)).bind fun x1=>
 some (x1.1,(x1.2.1,x1.2.2.1,x1.2.2.2))
theorem nR(k:Nat)(a0:bR)(c:Nat)(a1:Int)(r:(List Int)×bR)(h:iv k a0 a1=some r):
 dy Tryz.prog 9 [Pt c,I a1] [.obj c 56 (.agg (.pair (Ri a0.1) (.pair (I a0.2.1) (.eq (.int .u64 a0.2.2)))))] (fun _:Unit=>(bI [Ri r.1],[.obj c 56 (.agg (.pair (Ri r.2.1) (.pair (I r.2.2.1) (.eq (.int .u64 r.2.2.2)))))])):=by
 unfold iv at h
 replace h:=bo h
 refine dy.of 19 Tryz.func9 rfl Tryz.ntmps9 rfl fun S w0=>?_
 refine sr ?_
 refine cq ?_
 refine nt ?_
 refine sr ?_
 refine cq ?_
 refine nt ?_
 refine aJ (Z:=Value) (α:=(List Int)×(List Int)×Int×Int) (fun z2 x1=>[(5,.eq z2)]) (fun z2 x1=>[.sl z2 3 (.int .i64) x1.1,.obj c 56 (.agg (.pair (Ri x1.2.1) (.pair (I x1.2.2.1) (.eq (.int .u64 x1.2.2.2)))))]) h (fun K h=>?_) (fun z2 x1 h=>?_)
 ·
  refine sr (cq (nt (ak ?_)));refine gX (SE.nil 3 (.int .i64)) ?_;refine aH (fun z4 y3=>[(0,Pt c),(1,I a1),(5,.eq z4),(6,I y3.2.2.2.2)]) (fun z4 y3=>[.obj c 56 (.agg (.pair (Ri y3.1) (.pair (I y3.2.1) (.eq (.int .u64 y3.2.2.1))))),.sl z4 3 (.int .i64) y3.2.2.2.1]) (eV k a1) k (.slice none 0 0) (a0.1,a0.2.1,a0.2.2,([]:(List Int)),0) (fun _=>rfl) h (SE.fin [1,0] ⟨rfl,rfl,rfl,rfl,trivial⟩ rfl) (fun n z4 y3 h=>?_);unfold eV at h;refine am (sr ?_);iterate 2 refine mq ?_
  refine jb (bG rfl) ?_;refine nt (ci h (fun h=>?_) (fun h=>?_))
  ·refine sk (aJ (Z:=Value) (α:=(List Int)×Int×Int×(List Int)) (fun z6 x5=>[(0,Pt c),(1,I a1),(5,.eq z6),(6,I y3.2.2.2.2)]) (fun z6 x5=>[.obj c 56 (.agg (.pair (Ri x5.1) (.pair (I x5.2.1) (.eq (.int .u64 x5.2.2.1))))),.sl z6 3 (.int .i64) x5.2.2.2]) h (fun K h=>?_) (fun z6 x5 h=>?_))
   ·refine ak (sr (mq ?_));obtain⟨r7,s,h⟩:=aa h;refine kb (ax [.tmp 12,.const (.int .i64 (3))] rfl rfl M7 rfl (jm k (y3.1,y3.2.1,y3.2.2.1) c 3 r7 s)) ?_;refine nt (cv h (fun h=>?_) (fun h=>?_))
    ·refine ag ?_;iterate 2 refine mq ?_
     refine ja (bf (t:=(.int .i64)) [(.tmp 15,_)] [y3.2.2.2.2] rfl rfl dn (.cons rfl .int .nil) rfl rfl) ?_;obtain⟨u8,l,h⟩:=aa h;refine fr 1 ?_;refine dN rfl rfl rfl (cx rfl rfl dn (ao l)) ⟨rfl,rfl,trivial⟩ fun v9=>?_;refine aq (aE (bn ?_));exact jz (v9,(r7.2.1,r7.2.2.1,r7.2.2.2,y3.2.2.2.1++[y3.2.2.2.2])) h [1,0]
    ·refine bh (bn ?_);exact jz (z4,(r7.2.1,r7.2.2.1,r7.2.2.2,y3.2.2.2.1)) h [0,1]
   ·refine ag (mq ?_);obtain⟨j,e,h⟩:=aa h;refine jb (bB rfl e) ?_;refine aq (nl ?_);exact jz (z6,(x5.1,x5.2.1,x5.2.2.1,x5.2.2.2,j)) h [0,1]
  ·refine xa ?_;exact jz (z4,(y3.2.2.2.1,y3.1,y3.2.1,y3.2.2.1)) h [1,0]
 ·
  refine sr (mq ?_);refine aq (nt (aC ?_));refine b8 (iV [4,5,18] ⟨rfl,rfl,rfl,trivial⟩) ?_;cases h;exact aM () [_] 1 ⟨rfl,trivial⟩ rfl
def kC(k:Nat)(a0:(List Int))(a1:Int):Nat→Int→Option (Except Int Unit)
 |0,_=>none
 |n+1,y3=>
  if y3 < (a0.length:Int) then((aX a0 y3).bind fun x5=>
  if x5=a1 then(some (.error y3)) else((ck (y3+1)).bind fun x6=>
  kC k a0 a1 n x6)) else(some (.ok ()))
def rQ(k:Nat)(a0:(List Int))(a1:Int):Option Int:=
 bE (α:=Unit) (kC k a0 a1 k 0) (some) fun _=>
 some (-1:Int)
theorem vA(k:Nat)(a0:(List Int))(a1:Int)(r:Int)(h:rQ k a0 a1=some r):
 dy Tryz.prog 10 [Ri a0,I a1] [] (fun _:Unit=>(bI [I r],[])):=by
 unfold rQ at h
 replace h:=bo h
 refine dy.of 19 Tryz.func10 rfl Tryz.ntmps10 rfl fun S w0=>?_
 refine sr ?_
 refine cq ?_
 refine nt ?_
 refine dx (Z:=Unit) (α:=Unit) (fun z2 x1=>[]) (fun z2 x1=>[]) (fun e=>e=r) h (fun e h=>Option.some.inj h) (fun K hR h=>?_) (fun z2 x1 h=>?_)
 ·
  refine sr (cq (nt (ak ?_)));refine aH (fun z4 y3=>[(0,Ri a0),(1,I a1),(5,I y3)]) (fun z4 y3=>[]) (kC k a0 a1) k () 0 (fun _=>rfl) h (SE.fin [] ⟨rfl,rfl,rfl,trivial⟩ rfl) (fun n z4 y3 h=>?_);unfold kC at h;refine am (sr ?_);iterate 2 refine mq ?_
  refine ol iC ?_;refine jb (bG rfl) ?_;refine nt (ci h (fun h=>?_) (fun h=>?_))
  ·refine sk (am (ak (sr ?_)));iterate 2 refine mq ?_
   obtain⟨x5,j,h⟩:=aa h;refine jb (be (t:=(.int .i64)) rfl iC bT j) ?_;refine ja (av (t:=(.int .i64)) rfl bT rfl) ?_;refine mq ?_;refine jb (jd rfl) ?_;refine nt (ci h (fun h=>?_) (fun h=>?_))
   ·refine sr (mq ?_);refine aq (nt (aC (br (bH (bF ?_)))));obtain rfl:=hR _ h;exact ra
   ·refine bh (aS (tn (ag (mq ?_))));obtain⟨x6,c,h⟩:=aa h;refine jb (bB rfl c) ?_;refine aq (nl ?_);exact jz ((),x6) h []
  ·refine xa ?_;exact jz ((),()) h []
 ·
  refine sr (cq (nt (aC ?_)));cases h;exact ra
def dp(k:Nat)(a0:Int)(a1:Int)(a2:Int):Option Bool:=
 ((if a1≤a0 then(some (decide (a0≤a2))) else(some false)):Option (Bool)).bind fun x1=>
 some x1
theorem dw(k:Nat)(a0:Int)(a1:Int)(a2:Int)(r:Bool)(h:dp k a0 a1 a2=some r):
 dy Tryz.prog 49 [I a0,I a1,I a2] [] (fun _:Unit=>(bI [.eq (.bool r)],[])):=by
 unfold dp at h
 replace h:=bo h
 refine dy.of 15 Tryz.func49 rfl Tryz.ntmps49 rfl fun S w0=>?_
 refine sr ?_
 refine cq ?_
 refine nt ?_
 refine aJ (Z:=Unit) (α:=Bool) (fun z2 x1=>[(6,.eq (.bool x1))]) (fun z2 x1=>[]) h (fun K h=>?_) (fun z2 x1 h=>?_)
 ·
  refine ag ?_;iterate 2 refine mq ?_
  refine jb (Bd rfl) ?_;refine mq ?_;refine cF (s:=10) rfl (fun hb=>?_) (fun hb=>?_)
  ·replace h:=eO (uU hb) h;refine gm ?_;refine gm ?_;refine gb (Bd rfl) ?_;refine pt ?_;refine aq (nl ?_);exact jz ((),decide (a0≤a2)) h []
  ·replace h:=cV (uV hb) h;iterate 3 refine gn ?_
   refine pf ?_;refine aq (nl ?_);exact jz ((),false) h []
 ·
  refine aC ?_;cases h;exact ra
def fy(k:Nat)(a0:Int)(a1:Int):Option Int:=
 (cJ (0≤a1)).bind fun _=>
 some (Bz .u8 a0 (nT .u8 1 a1))
theorem jZ(k:Nat)(a0:Int)(a1:Int)(r:Int)(h:fy k a0 a1=some r):
 dy Tryz.prog 50 [.eq (.int .u8 a0),I a1] [] (fun _:Unit=>(bI [.eq (.int .u8 r)],[])):=by
 unfold fy at h
 replace h:=bo h
 refine dy.of 9 Tryz.func50 rfl Tryz.ntmps50 rfl fun S w0=>?_
 refine sr ?_
 refine cq ?_
 refine nt ?_
 refine sr ?_
 iterate 2 refine mq ?_
 obtain⟨u1,c,h⟩:=aa h
 refine jb (KY rfl (ao c)) ?_
 refine jb (Qp rfl) ?_
 refine aq ?_
 refine nt ?_
 refine aC ?_
 cases h
 exact ra
def eu(k:Nat)(a0:Int)(a1:Int):Option Bool:=
 (cJ (0≤a1)).bind fun _=>
 some (decide ((pP .u8 (fV .u8 a0 a1) 1)=1))
theorem f7(k:Nat)(a0:Int)(a1:Int)(r:Bool)(h:eu k a0 a1=some r):
 dy Tryz.prog 67 [.eq (.int .u8 a0),I a1] [] (fun _:Unit=>(bI [.eq (.bool r)],[])):=by
 unfold eu at h
 replace h:=bo h
 refine dy.of 10 Tryz.func67 rfl Tryz.ntmps67 rfl fun S w0=>?_
 refine sr ?_
 refine cq ?_
 refine nt ?_
 refine sr ?_
 iterate 2 refine mq ?_
 obtain⟨u1,c,h⟩:=aa h
 refine jb (tH rfl (ao c)) ?_
 refine jb (Oz rfl) ?_
 refine jb (jd rfl) ?_
 refine aq ?_
 refine nt ?_
 refine aC ?_
 cases h
 exact ra
def cT(k:Nat)(a0:ai)(x8:(List Int)):Nat→(Int×Int)→Option (Except Int Int)
 |0,_=>none
 |n+1,y9=>
  if y9.2 < (x8.length:Int) then((aX x8 y9.2).bind fun c=>
  (ck (a0.1 - 1)).bind fun h=>
  (dp k c 0 h).bind fun r=>
  if¬(r=true) then(some (.error 3)) else((eu k y9.1 c).bind fun l=>
  if l=true then(some (.error 4)) else((fy k y9.1 c).bind fun j=>
  (ck (y9.2+1)).bind fun e=>
  cT k a0 x8 n (j,e)))) else(some (.ok y9.1))
def cU(k:Nat)(a0:ai)(a1:(List (List Int))):Nat→(Int×Int)→Option (Except Int Unit)
 |0,_=>none
 |n+1,y4=>
  if y4.2 < (a1.length:Int) then(bE (α:=Int) ((aX a1 y4.2).bind fun x8=>
  cT k a0 x8 k (y4.1,0)) (fun e=>some (.error e)) fun x6=>
  (ck (y4.2+1)).bind fun c=>
  cU k a0 a1 n (x6,c)) else(some (.ok ()))
def iO(k:Nat)(a0:ai)(a1:(List (List Int))):Option Int:=
 if 3 < (a1.length:Int) then(some 6) else(bE (α:=Unit) (cU k a0 a1 k (0,0)) (some) fun _=>
 some 0)
theorem sN(k:Nat)(a0:ai)(a1:(List (List Int)))(r:Int)(h:iO k a0 a1=some r):
 dy Tryz.prog 68 [.rep ab a0,.rep (.slice (.slice (.int .i64))) a1] [] (fun _:Unit=>(bI [I r],[])):=by
 unfold iO at h
 replace h:=bo h
 refine dy.of 39 Tryz.func68 rfl Tryz.ntmps68 rfl fun S w0=>?_
 refine sr ?_
 refine bx fun b1=>?_
 refine cq ?_
 refine nt ?_
 refine am ?_
 refine sr ?_
 refine mq ?_
 refine ol sE ?_
 refine jb (oZ rfl) ?_
 refine nt ?_
 refine ci h (fun h=>?_) (fun h=>?_)
 ·
  refine sr (cq (nt (rx ?_)));cases h;exact ra
 ·
  refine sk (sr (cq (nt ?_)));refine dx (Z:=Unit) (α:=Unit) (fun z3 x2=>[]) (fun z3 x2=>[]) (fun e=>e=r) h (fun e h=>Option.some.inj h) (fun K hR h=>?_) (fun z3 x2 h=>?_)
  ·refine sr (mq ?_);refine ol sE ?_;refine dT rfl ?_;refine nt (ak (aH (fun z5 y4=>[(2,Pt b1),(5,.eq (.int .u8 y4.1)),(13,.rep (.slice (.slice (.int .i64))) a1),(14,I (a1.length:Int)),(15,I y4.2)]) (fun z5 y4=>[.obj b1 28 (.rep ab a0)]) (cU k a0 a1) k () (0,0) (fun _=>rfl) h (SE.fin [0] ⟨rfl,rfl,rfl,rfl,rfl,trivial⟩ rfl) (fun n z5 y4 h=>?_)));unfold cU at h;refine sr (jb (bG rfl) ?_);refine nt (am (ci h (fun h=>?_) (fun h=>?_)))
   ·refine sk (dx (Z:=Unit) (α:=Int) (fun z7 x6=>[(2,Pt b1),(5,.eq (.int .u8 x6)),(13,.rep (.slice (.slice (.int .i64))) a1),(14,I (a1.length:Int)),(15,I y4.2)]) (fun z7 x6=>[.obj b1 28 (.rep ab a0)]) (fun e=>e=r) h (fun e h=>hR e h) (fun K hR h=>?_) (fun z7 x6 h=>?_))
    ·refine ak (sr ?_);obtain⟨x8,X,h⟩:=aa h;refine jb (be (t:=(.slice (.int .i64))) rfl sE iD X) ?_;refine ja (av (t:=(.slice (.int .i64))) rfl iD rfl) ?_;refine aq (nt (sr ?_));refine mq ?_;refine ol iC ?_;refine dT rfl ?_;refine nt (ak (aH (fun j y9=>[(2,Pt b1),(5,.eq (.int .u8 y9.1)),(13,.rep (.slice (.slice (.int .i64))) a1),(14,I (a1.length:Int)),(15,I y4.2),(19,Ri x8),(20,I (x8.length:Int)),(21,I y9.2)]) (fun j y9=>[.obj b1 28 (.rep ab a0)]) (cT k a0 x8) k () (y4.1,0) (fun _=>rfl) h (SE.fin [0] ⟨rfl,rfl,rfl,rfl,rfl,rfl,rfl,rfl,trivial⟩ rfl) (fun n j y9 h=>?_)));unfold cT at h;refine sr (jb (bG rfl) ?_);refine nt (am (ci h (fun h=>?_) (fun h=>?_)))
     ·refine sk (am (ak (sr ?_)));obtain⟨c,y,h⟩:=aa h;refine jb (be (t:=(.int .i64)) rfl iC bT y) ?_;refine ja (av (t:=(.int .i64)) rfl bT rfl) ?_;refine aq (nt (am (sr ?_)));refine mq ?_;refine fl eX ?_;refine lo bT ?_;obtain⟨O,x,h⟩:=aa h;refine jb (ek rfl x) ?_;obtain⟨U,F,h⟩:=aa h;refine jc (ax [.tmp 25,.const (.int .i64 (0)),.tmp 28] rfl rfl wX rfl (dw k c 0 O U F)) ?_;refine ja (gJ rfl) ?_;refine nt (cw h (fun h=>?_) (fun h=>?_))
      ·refine sr (cq (nt (rx (br (bH (br (bH (bF ?_))))))));obtain rfl:=hR _ h;exact ra
      ·refine sk (am (sr ?_));iterate 2 refine mq ?_
       obtain⟨Q,E,h⟩:=aa h;refine jb (ax [.tmp 31,.tmp 32] rfl rfl GY rfl (f7 k y9.1 c Q E)) ?_;refine nt (cv h (fun h=>?_) (fun h=>?_))
       ·refine sr (cq (nt (rx (br (bH (br (bH (bF ?_))))))));obtain rfl:=hR _ h;exact ra
       ·refine sk (ag ?_);iterate 2 refine mq ?_
        obtain⟨l,D,h⟩:=aa h;refine jb (ax [.tmp 34,.tmp 35] rfl rfl M4 rfl (jZ k y9.1 c l D)) ?_;refine aq (aE (aS (tn (ag ?_))));obtain⟨M,u,h⟩:=aa h;refine jb (bB rfl u) ?_;refine mq (nl ?_);exact jz ((),(l,M)) h [0]
     ·refine fU (bO (bO (de (bn ?_))));exact jz ((),y9.1) h [0]
    ·refine ag ?_;obtain⟨J,s,h⟩:=aa h;refine jb (bB rfl s) ?_;refine mq (nl ?_);exact jz ((),(x6,J)) h [0]
   ·refine xa ?_;exact jz ((),()) h []
  ·refine sr (cq (nt (aC ?_)));cases h;exact ra
def fJ(k:Nat)(a0:ai)(a1:cE):Option Int:=
 (((ck (a0.1 - 1)).bind fun x5=>
 (dp k a1.1 0 x5).bind fun r6=>
 if¬(r6=true) then(some true) else((dp k a1.2.1 0 (a0.2.2.2.2.1.length:Int)).bind fun r7=>
 some (!r7))):Option (Bool)).bind fun x3=>
 if x3=true then(some 3) else(some 0)
theorem pG(k:Nat)(a0:ai)(a1:cE)(r:Int)(h:fJ k a0 a1=some r):
 dy Tryz.prog 69 [.rep ab a0,.rep bP a1] [] (fun _:Unit=>(bI [I r],[])):=by
 unfold fJ at h
 replace h:=bo h
 refine dy.of 21 Tryz.func69 rfl Tryz.ntmps69 rfl fun S w0=>?_
 refine sr ?_
 refine bx fun b1=>?_
 refine bx fun b2=>?_
 refine cq ?_
 refine nt ?_
 refine am ?_
 refine aJ (Z:=Unit) (α:=Bool) (fun z4 x3=>[(20,.eq (.bool x3))]) (fun z4 x3=>[]) h (fun K h=>?_) (fun z4 x3 h=>?_)
 ·
  refine ag (fl GR ?_);refine lo bT ?_;refine fl eX ?_;refine fr 1 ?_;refine lo bT ?_;obtain⟨x5,c,h⟩:=aa h;refine jb (ek rfl c) ?_;obtain⟨r6,j,h⟩:=aa h;refine jc (ax [.tmp 6,.const (.int .i64 (0)),.tmp 9] rfl rfl wX rfl (dw k a1.1 0 x5 r6 j)) ?_;refine ja (gJ rfl) ?_;refine mq ?_;refine cF (s:=12) rfl (fun hb=>?_) (fun hb=>?_)
  ·replace h:=eO (wF hb) h;iterate 7 refine gn ?_
   refine pt (nl ?_);exact jz ((),true) h []
  ·replace h:=cV (qz hb) h;refine ga (aN rfl GQ) ?_;refine fr 1 ?_;refine lR rfl rfl rfl rfl rfl rfl (aD rfl bT pX rfl) ⟨rfl,trivial⟩ ?_;refine ga (aN rfl eL) ?_;refine fr 1 ?_;refine lR rfl rfl rfl rfl rfl rfl (aD rfl lN pX rfl) ⟨rfl,trivial⟩ ?_;refine ga (vq rfl rfl AQ) ?_;obtain⟨r7,e,h⟩:=aa h;refine gc (ax [.tmp 14,.const (.int .i64 (0)),.tmp 17] rfl rfl wX rfl (dw k a1.2.1 0 (a0.2.2.2.2.1.length:Int) r7 e)) ?_;refine ga (gJ rfl) ?_;refine pf (nl ?_);exact jz ((), !r7) h []
 ·
  refine cv h (fun h=>?_) (fun h=>?_)
  ·refine sr (cq (nt (rx ?_)));cases h;exact ra
  ·refine sk (sr (cq (nt (aC ?_))));cases h;exact ra
def eE(k:Nat)(a0:ai):Nat→Int→Option (Except Int Unit)
 |0,_=>none
 |n+1,c=>
  if c < (a0.2.2.2.2.1.length:Int) then((aX a0.2.2.2.2.1 c).bind fun j=>
  (iO k a0 j).bind fun e=>
  if¬(e=0) then(some (.error e)) else((ck (c+1)).bind fun h=>
  eE k a0 n h)) else(some (.ok ()))
def eD(k:Nat)(a0:ai):Nat→Int→Option (Except Int Unit)
 |0,_=>none
 |n+1,c=>
  if c < (a0.2.2.2.2.2.length:Int) then((aX a0.2.2.2.2.2 c).bind fun j=>
  (fJ k a0 j).bind fun e=>
  if¬(e=0) then(some (.error e)) else((ck (c+1)).bind fun h=>
  eD k a0 n h)) else(some (.ok ()))
def ma(k:Nat)(a0:ai):Option Int:=
 (((dp k a0.1 1 5).bind fun r4=>
 if¬(r4=true) then(some true) else((dp k a0.2.1 0 3).bind fun r5=>
 if¬(r5=true) then(some true) else((dp k a0.2.2.1 0 3).bind fun r6=>
 if¬(r6=true) then(some true) else((dp k a0.2.2.2.1 1 3).bind fun r7=>
 some (!r7))))):Option (Bool)).bind fun x2=>
 if x2=true then(some 1) else(if(a0.2.2.2.2.1.length:Int) < 1 then(some 7) else(if 6 < (a0.2.2.2.2.1.length:Int) then(some 6) else(bE (α:=Unit) (eE k a0 k 0) (some) fun _=>
 if 8 < (a0.2.2.2.2.2.length:Int) then(some 6) else(bE (α:=Unit) (eD k a0 k 0) (some) fun _=>
 some 0))))
theorem wK(k:Nat)(a0:ai)(r:Int)(h:ma k a0=some r):
 dy Tryz.prog 48 [.rep ab a0] [] (fun _:Unit=>(bI [I r],[])):=by
 unfold ma at h
 replace h:=bo h
 refine dy.of 73 Tryz.func48 rfl Tryz.ntmps48 rfl fun S w0=>?_
 refine sr ?_
 refine bx fun b1=>?_
 refine cq ?_
 refine nt ?_
 refine am ?_
 refine aJ (Z:=Unit) (α:=Bool) (fun z3 x2=>[(1,Pt b1),(31,.eq (.bool x2))]) (fun z3 x2=>[.obj b1 28 (.rep ab a0)]) h (fun K h=>?_) (fun z3 x2 h=>?_)
 ·
  refine ag (fl eX ?_);refine lo bT ?_;obtain⟨r4,zz,h⟩:=aa h;refine jc (ax [.tmp 11,.const (.int .i64 (1)),.const (.int .i64 (5))] rfl rfl wX rfl (dw k a0.1 1 5 r4 zz)) ?_;refine ja (gJ rfl) ?_;refine mq ?_;refine cF (s:=14) rfl (fun hb=>?_) (fun hb=>?_)
  ·replace h:=eO (wF hb) h;iterate 4 refine gn ?_
   refine pt ?_;refine mq ?_;iterate 4 refine gn ?_
   refine pt ?_;refine mq ?_;iterate 4 refine gn ?_
   refine pt (nl ?_);exact jz ((),true) h [0]
  ·replace h:=cV (qz hb) h;refine ga (aN rfl Az) ?_;refine lR rfl rfl rfl rfl rfl rfl (aD rfl bT pX rfl) ⟨rfl,trivial⟩ ?_;obtain⟨r5,qt,h⟩:=aa h;refine gc (ax [.tmp 16,.const (.int .i64 (0)),.const (.int .i64 (3))] rfl rfl wX rfl (dw k a0.2.1 0 3 r5 qt)) ?_;refine ga (gJ rfl) ?_;refine pf ?_;refine mq ?_;refine cF (s:=20) rfl (fun hb=>?_) (fun hb=>?_)
   ·replace h:=eO (wF hb) h;iterate 4 refine gn ?_
    refine pt ?_;refine mq ?_;iterate 4 refine gn ?_
    refine pt (nl ?_);exact jz ((),true) h [0]
   ·replace h:=cV (qz hb) h;refine ga (aN rfl dK) ?_;refine lR rfl rfl rfl rfl rfl rfl (aD rfl bT pX rfl) ⟨rfl,trivial⟩ ?_;obtain⟨r6,mw,h⟩:=aa h;refine gc (ax [.tmp 22,.const (.int .i64 (0)),.const (.int .i64 (3))] rfl rfl wX rfl (dw k a0.2.2.1 0 3 r6 mw)) ?_;refine ga (gJ rfl) ?_;refine pf ?_;refine mq ?_;refine cF (s:=26) rfl (fun hb=>?_) (fun hb=>?_)
    ·replace h:=eO (wF hb) h;iterate 4 refine gn ?_
     refine pt (nl ?_);exact jz ((),true) h [0]
    ·replace h:=cV (qz hb) h;refine ga (aN rfl GT) ?_;refine lR rfl rfl rfl rfl rfl rfl (aD rfl bT pX rfl) ⟨rfl,trivial⟩ ?_;obtain⟨r7,mc,h⟩:=aa h;refine gc (ax [.tmp 28,.const (.int .i64 (1)),.const (.int .i64 (3))] rfl rfl wX rfl (dw k a0.2.2.2.1 1 3 r7 mc)) ?_;refine ga (gJ rfl) ?_;refine pf (nl ?_);exact jz ((), !r7) h [0]
 ·
  refine cv h (fun h=>?_) (fun h=>?_)
  ·refine sr (cq (nt (rx ?_)));cases h;exact ra
  ·refine sk (am (sr (fl eL ?_)));refine lo lN ?_;refine ol AQ ?_;refine aq (nt (ak (sr ?_)));refine mq ?_;refine jb (bG rfl) ?_;refine aq (nt ?_);refine ci h (fun h=>?_) (fun h=>?_)
   ·refine sr (cq (nt (aC (bH (bF ?_)))));cases h;exact ra
   ·refine sr (mq ?_);refine jb (oZ rfl) ?_;refine aq (nt ?_);refine ci h (fun h=>?_) (fun h=>?_)
    ·refine sr (cq (nt (aC (bH (bF ?_)))));cases h;exact ra
    ·refine bh (aS (tn (dx (Z:=Unit) (α:=Unit) (fun z9 x8=>[(1,Pt b1)]) (fun z9 x8=>[.obj b1 28 (.rep ab a0)]) (fun e=>e=r) h (fun e h=>Option.some.inj h) (fun K hR h=>?_) (fun z9 x8 h=>?_))))
     ·refine sr (fl eL ?_);refine lo lN ?_;refine ol AQ ?_;refine dT rfl ?_;refine nt (ak (aH (fun x j=>[(1,Pt b1),(42,.rep (.slice (.slice (.slice (.int .i64)))) a0.2.2.2.2.1),(43,I (a0.2.2.2.2.1.length:Int)),(44,I j)]) (fun x j=>[.obj b1 28 (.rep ab a0)]) (eE k a0) k () 0 (fun _=>rfl) h (SE.fin [0] ⟨rfl,rfl,rfl,rfl,trivial⟩ rfl) (fun n x j h=>?_)));unfold eE at h;refine sr (jb (bG rfl) ?_);refine nt (am (ci h (fun h=>?_) (fun h=>?_)))
      ·refine sk (am (ak (sr ?_)));obtain⟨Y,J,h⟩:=aa h;refine jb (be (t:=(.slice (.slice (.int .i64)))) rfl AQ xX J) ?_;refine ja (av (t:=(.slice (.slice (.int .i64)))) rfl xX rfl) ?_;refine aq (nt (sr ?_));refine lo iZ ?_;refine mq ?_;obtain⟨gw,O,h⟩:=aa h;refine jb (ax [.tmp 48,.tmp 49] rfl rfl QU rfl (sN k a0 Y gw O)) ?_;refine aq (nt (sr ?_));refine mq ?_;refine jb (eR rfl) ?_;refine nt (cn h (fun h=>?_) (fun h=>?_))
       ·refine sr (mq ?_);refine aq (nt (aC (br (bH (bF ?_)))));obtain rfl:=hR _ h;exact ra
       ·refine bh (aS (tn (ag ?_)));obtain⟨X,F,h⟩:=aa h;refine jb (bB rfl F) ?_;refine mq (nl ?_);exact jz ((),X) h [0]
      ·refine xa ?_;exact jz ((),()) h [0]
     ·refine am (sr (fl Ax ?_));refine lo LD ?_;refine ol PL ?_;refine jb (oZ rfl) ?_;refine nt (ci h (fun h=>?_) (fun h=>?_))
      ·refine sr (cq (nt (rx ?_)));cases h;exact ra
      ·refine sk (dx (Z:=Unit) (α:=Unit) (fun u y=>[]) (fun u y=>[]) (fun e=>e=r) h (fun e h=>Option.some.inj h) (fun K hR h=>?_) (fun u y h=>?_))
       ·refine sr (fl Ax ?_);refine lo LD ?_;refine ol PL ?_;refine dT rfl ?_;refine nt (ak (aH (fun l c=>[(1,Pt b1),(60,Rs bP a0.2.2.2.2.2),(61,I (a0.2.2.2.2.2.length:Int)),(62,I c)]) (fun l c=>[.obj b1 28 (.rep ab a0)]) (eD k a0) k () 0 (fun _=>rfl) h (SE.fin [0] ⟨rfl,rfl,rfl,rfl,trivial⟩ rfl) (fun n l c h=>?_)));unfold eD at h;refine sr (jb (bG rfl) ?_);refine nt (am (ci h (fun h=>?_) (fun h=>?_)))
        ·refine sk (am (ak (sr ?_)));obtain⟨U,E,h⟩:=aa h;refine jb (be (t:=bP) rfl PL wj E) ?_;refine ja (av (t:=bP) rfl wj rfl) ?_;refine aZ rfl rfl rfl (bu rfl H5 Nv) trivial fun SG=>?_;refine aU rfl rfl (aR rfl wj rfl rfl rfl) ⟨rfl,rfl,trivial⟩ ?_;refine nt (sr (fr 1 ?_));refine lo iZ ?_;refine fr 1 ?_;refine lo wj ?_;obtain⟨gq,M,h⟩:=aa h;refine jb (ax [.tmp 66,.tmp 67] rfl rfl QT rfl (pG k a0 U gq M)) ?_;refine aq (nt (sr ?_));refine mq ?_;refine jb (eR rfl) ?_;refine nt (cn h (fun h=>?_) (fun h=>?_))
         ·refine sr (mq ?_);refine aq (nt (aC (br (bH (bF ?_)))));obtain rfl:=hR _ h;exact ra
         ·refine bh (aS (tn (ag ?_)));obtain⟨Q,D,h⟩:=aa h;refine jb (bB rfl D) ?_;refine mq (nl ?_);exact jz ((),Q) h [1]
        ·refine xa ?_;exact jz ((),()) h []
       ·refine sr (cq (nt (aC ?_)));cases h;exact ra
def co(k:Nat)(a0:ai)(a1:Int):Nat→((List Int)×Int)→Option (List Int)
 |0,_=>none
 |n+1,y5=>
  if y5.2 < 5 then((((cJ (0≤y5.2∧y5.2 < 5)).bind fun _=>
  (eu k a1 y5.2).bind fun e=>
  if e=true then((cJ (0≤y5.2∧y5.2 < 5)).bind fun _=>
  some (List.set (List.set y5.1 (Int.toNat y5.2) (-1:Int)) (Int.toNat y5.2) a0.2.1)) else(some (List.set y5.1 (Int.toNat y5.2) (-1:Int)))):Option ((List Int))).bind fun x7=>
  (ck (y5.2+1)).bind fun c=>
  co k a0 a1 n (x7,c)) else(some y5.1)
def ee(k:Nat)(a0:ai)(a1:Int):Option (List Int):=
 ((co k a0 a1 k ([0,0,0,0,0],0)):Option ((List Int))).bind fun x3=>
 some x3
theorem pD{M:Md Tryz.prog}{bm:Nat}{c0 c1 c2 c3 c4 c5:Value}(hK:Kn M bm 0 [c0,c1,c2,c3,c4,c5])(k:Nat)(a0:ai)(a1:Int)(r:(List Int))(h:ee k a0 a1=some r):
 bX M 55 [.rep (.mo (Pv bm) [c0,c1,c2,c3,c4,c5] ab) a0,.eq (.int .u8 a1)] [] (fun _:Unit=>(bI [.rep (.arr 5 (.int .i64)) r],[])):=by
 unfold ee at h
 replace h:=bo h
 refine bX.of 24 Tryz.func55 rfl Tryz.ntmps55 rfl fun S w0=>?_
 refine sr ?_
 refine aZ rfl rfl rfl (bu rfl H4 J0) trivial fun b1=>?_
 refine nt ?_
 refine sr ?_
 refine aZ rfl rfl rfl (bu rfl H4 J0) trivial fun b2=>?_
 refine nt ?_
 refine aJ (Z:=Unit) (α:=(List Int)) (fun z4 x3=>[(4,Pt b1),(5,Pt b2)]) (fun z4 x3=>[.obj b1 67 (.rep (.arr 5 (.int .i64)) [0,0,0,0,0]),.obj b2 67 (.rep (.arr 5 (.int .i64)) x3)]) h (fun K h=>?_) (fun z4 x3 h=>?_)
 ·
  refine sr (dT rfl ?_);refine nt (ak (aH (fun z6 y5=>[(0,.rep (.mo (Pv bm) [c0,c1,c2,c3,c4,c5] ab) a0),(1,.eq (.int .u8 a1)),(4,Pt b1),(5,Pt b2),(7,I y5.2)]) (fun z6 y5=>[.obj b1 67 (.rep (.arr 5 (.int .i64)) [0,0,0,0,0]),.obj b2 67 (.rep (.arr 5 (.int .i64)) y5.1)]) (co k a0 a1) k () ([0,0,0,0,0],0) (fun _=>rfl) h (SE.fin [1,0] ⟨rfl,rfl,rfl,rfl,rfl,trivial⟩ rfl) (fun n z6 y5 h=>?_)));unfold co at h;refine sr (jb (bG rfl) ?_);refine nt (am (ci h (fun h=>?_) (fun h=>?_)))
  ·refine sk (aJ (Z:=Unit) (α:=(List Int)) (fun z8 x7=>[(0,.rep (.mo (Pv bm) [c0,c1,c2,c3,c4,c5] ab) a0),(1,.eq (.int .u8 a1)),(4,Pt b1),(5,Pt b2),(7,I y5.2)]) (fun z8 x7=>[.obj b1 67 (.rep (.arr 5 (.int .i64)) [0,0,0,0,0]),.obj b2 67 (.rep (.arr 5 (.int .i64)) x7)]) h (fun K h=>?_) (fun z8 x7 h=>?_))
   ·refine ak (sr (mq ?_));refine aq (nt (sr ?_));refine mq ?_;obtain⟨u9,e,h⟩:=aa h;refine jb (dB rfl zf bT (ao e).1 (ao e).2) ?_;refine fr 1 ?_;refine aU rfl rfl (fZ (t:=(.int .i64)) (off:=0) (i:=y5.2) (N:=5) rfl bT .int rfl rfl rfl rfl (ao e).1 (ao e).2 rfl) ⟨rfl,rfl,trivial⟩ ?_;refine nt (sr ?_);iterate 2 refine mq ?_
    obtain⟨u,l,h⟩:=aa h;refine jb (ax [.tmp 12,.tmp 13] rfl rfl GY rfl (f7 k a1 y5.2 u l)) ?_;refine nt (cv h (fun h=>?_) (fun h=>?_))
    ·refine ag ?_;iterate 2 refine mq ?_
     refine ja (kP rfl) ?_;refine ja (f5 rfl gy) ?_;refine ja (ig 1 false rfl Az rfl rfl) ?_;refine ja (jg (t:=(.int .i64)) rfl bT (hK.sub 1 1 rfl (Nat.le_of_ble_eq_true rfl)) rfl rfl) ?_;obtain⟨x,c,h⟩:=aa h;refine jb (dB rfl zf bT (ao c).1 (ao c).2) ?_;refine aU rfl rfl (fZ (t:=(.int .i64)) (off:=0) (i:=y5.2) (N:=5) rfl bT .int rfl rfl rfl rfl (ao c).1 (ao c).2 rfl) ⟨rfl,rfl,trivial⟩ ?_;refine aE (bn ?_);exact jz ((),List.set (List.set y5.1 (Int.toNat y5.2) (-1:Int)) (Int.toNat y5.2) a0.2.1) h [1,0]
    ·refine bh (bn ?_);exact jz ((),List.set y5.1 (Int.toNat y5.2) (-1:Int)) h [1,0]
   ·refine ag ?_;obtain⟨s,j,h⟩:=aa h;refine jb (bB rfl j) ?_;refine mq (nl ?_);exact jz ((),(x7,s)) h [0,1]
  ·refine xa ?_;exact jz ((),y5.1) h [0,1]
 ·
  refine sr (fr 1 ?_);refine lo gB ?_;refine fr 1 ?_;refine aU rfl rfl (aR rfl gB rfl rfl rfl) ⟨rfl,rfl,trivial⟩ ?_;refine nt (aC ?_);obtain rfl:=Option.some.inj h;exact aM () [.rep (.arr 5 (.int .i64)) x3] 0 ⟨⟨_,_,_,_,_,rfl,(.head _),gB,(qD),rfl⟩,trivial⟩ rfl
def cY(k:Nat)(a0:(List Int))(a1:Int):Nat→Int→Option (Except Int Unit)
 |0,_=>none
 |n+1,y3=>
  if y3 < (a0.length:Int) then((aX a0 y3).bind fun x5=>
  if a1=x5 then(some (.error y3)) else((ck (y3+1)).bind fun x6=>
  cY k a0 a1 n x6)) else(some (.ok ()))
def eJ(k:Nat)(a0:(List Int))(a1:Int):Option Int:=
 bE (α:=Unit) (cY k a0 a1 k 0) (some) fun _=>
 some (-1:Int)
theorem je(k:Nat)(a0:(List Int))(a1:Int)(r:Int)(h:eJ k a0 a1=some r):
 dy Tryz.prog 45 [Ri a0,I a1] [] (fun _:Unit=>(bI [I r],[])):=by
 unfold eJ at h
 replace h:=bo h
 refine dy.of 19 Tryz.func45 rfl Tryz.ntmps45 rfl fun S w0=>?_
 refine sr ?_
 refine cq ?_
 refine nt ?_
 refine dx (Z:=Unit) (α:=Unit) (fun z2 x1=>[]) (fun z2 x1=>[]) (fun e=>e=r) h (fun e h=>Option.some.inj h) (fun K hR h=>?_) (fun z2 x1 h=>?_)
 ·
  refine sr (mq ?_);refine ol iC ?_;refine dT rfl ?_;refine nt (ak (aH (fun z4 y3=>[(0,Ri a0),(1,I a1),(7,I (a0.length:Int)),(8,I y3)]) (fun z4 y3=>[]) (cY k a0 a1) k () 0 (fun _=>rfl) h (SE.fin [] ⟨rfl,rfl,rfl,rfl,trivial⟩ rfl) (fun n z4 y3 h=>?_)));unfold cY at h;refine sr (jb (bG rfl) ?_);refine nt (am (ci h (fun h=>?_) (fun h=>?_)))
  ·refine sk (am (ak (sr (mq ?_))));refine aq (nt (sr ?_));iterate 3 refine mq ?_
   obtain⟨x5,j,h⟩:=aa h;refine jb (be (t:=(.int .i64)) rfl iC bT j) ?_;refine ja (av (t:=(.int .i64)) rfl bT rfl) ?_;refine jb (jd rfl) ?_;refine nt (ci h (fun h=>?_) (fun h=>?_))
   ·refine sr (mq ?_);refine aq (nt (aC (br (bH (bF ?_)))));obtain rfl:=hR _ h;exact ra
   ·refine bh (aS (tn (ag ?_)));obtain⟨x6,c,h⟩:=aa h;refine jb (bB rfl c) ?_;refine mq (nl ?_);exact jz ((),x6) h []
  ·refine xa ?_;exact jz ((),()) h []
 ·
  refine sr (cq (nt (aC ?_)));cases h;exact ra
def kD(k:Nat)(a0:Int):Option Bool:=
 some (!decide (a0=a0))
theorem qP(k:Nat)(a0:Int)(r:Bool)(h:kD k a0=some r):
 dy Tryz.prog 137 [I a0] [] (fun _:Unit=>(bI [.eq (.bool r)],[])):=by
 unfold kD at h
 replace h:=bo h
 refine dy.of 6 Tryz.func137 rfl Tryz.ntmps137 rfl fun S w0=>?_
 refine sr ?_
 refine cq ?_
 refine nt ?_
 refine sr ?_
 iterate 2 refine mq ?_
 refine jb (eR rfl) ?_
 refine aq ?_
 refine nt ?_
 refine aC ?_
 cases h
 exact ra
def nY(k:Nat)(a0:Int)(a1:Int):Option Bool:=
 (((kD k a0).bind fun r3=>
 if r3=true then((kD k a1).bind fun r4=>
 if¬(r4=true) then(some true) else(some (decide (a0 < a1)))) else(some (decide (a0 < a1)))):Option (Bool)).bind fun x1=>
 some x1
theorem yT(k:Nat)(a0:Int)(a1:Int)(r:Bool)(h:nY k a0 a1=some r):
 dy Tryz.prog 127 [I a0,I a1] [] (fun _:Unit=>(bI [.eq (.bool r)],[])):=by
 unfold nY at h
 replace h:=bo h
 refine dy.of 17 Tryz.func127 rfl Tryz.ntmps127 rfl fun S w0=>?_
 refine sr ?_
 refine cq ?_
 refine nt ?_
 refine aJ (Z:=Unit) (α:=Bool) (fun z2 x1=>[(4,.eq (.bool x1))]) (fun z2 x1=>[]) h (fun K h=>?_) (fun z2 x1 h=>?_)
 ·
  refine ag (mq ?_);obtain⟨r3,e,h⟩:=aa h;refine ja (ax [.tmp 5] rfl rfl K1 rfl (qP k a0 r3 e)) ?_;refine mq ?_;refine cF (s:=7) rfl (fun hb=>?_) (fun hb=>?_)
  ·replace h:=eO (KO hb) h;refine gm ?_;obtain⟨r4,c,h⟩:=aa h;refine ga (ax [.tmp 8] rfl rfl K1 rfl (qP k a1 r4 c)) ?_;refine ga (gJ rfl) ?_;refine pt ?_;refine mq ?_;refine cF (s:=12) rfl (fun hb=>?_) (fun hb=>?_)
   ·replace h:=eO (wF hb) h;iterate 3 refine gn ?_
    refine pt ?_;refine aq (nl ?_);exact jz ((),true) h []
   ·replace h:=cV (qz hb) h;refine gm ?_;refine gm ?_;refine gb (bG rfl) ?_;refine pf ?_;refine aq (nl ?_);exact jz ((),decide (a0 < a1)) h []
  ·replace h:=cV (KQ hb) h;iterate 3 refine gn ?_
   refine pf ?_;refine mq ?_;refine gm ?_;refine gm ?_;refine gb (bG rfl) ?_;refine pf ?_;refine aq (nl ?_);exact jz ((),decide (a0 < a1)) h []
 ·
  refine aC ?_;cases h;exact ra
def ba(k:Nat)(a1:Int):Nat→((List Int)×Int)→Option (List Int)
 |0,_=>none
 |n+1,y6=>
  ((if a1 < y6.2 then((aX y6.1 y6.2).bind fun u=>
  (ck (y6.2 - 1)).bind fun s=>
  (aX y6.1 s).bind fun r=>
  (nY k u r).bind fun x=>
  some x) else(some false)):Option (Bool)).bind fun x8=>
  if x8=true then((ck (y6.2 - 1)).bind fun e=>
  (ck (y6.2 - 1)).bind fun l=>
  (aX y6.1 l).bind fun c=>
  (aX y6.1 y6.2).bind fun j=>
  (aX y6.1 y6.2).bind fun D=>
  (aX (List.set y6.1 (Int.toNat y6.2) c) e).bind fun y=>
  (ck (y6.2 - 1)).bind fun h=>
  ba k a1 n (List.set (List.set y6.1 (Int.toNat y6.2) c) (Int.toNat e) j,h)) else(some y6.1)
def bb(k:Nat)(a1:Int)(a2:Int):Nat→((List Int)×Int)→Option (List Int)
 |0,_=>none
 |n+1,y2=>
  if y2.2 < a2 then(((ba k a1 k (y2.1,y2.2)):Option ((List Int))).bind fun x4=>
  (ck (y2.2+1)).bind fun c=>
  bb k a1 a2 n (x4,c)) else(some y2.1)
def bN(k:Nat)(a0:(List Int))(a1:Int)(a2:Int):Option (List Int):=
 (ck (a1+1)).bind fun x1=>
 bb k a1 a2 k (a0,x1)
theorem i7(k:Nat)(a0:(List Int))(c:Value)(a1:Int)(a2:Int)(r:(List Int))(h:bN k a0 a1 a2=some r):
 dy Tryz.prog 121 [.eq c,I a1,I a2] [.sl c 3 (.int .i64) a0] (fun _:Unit=>(bI [],[.sl c 3 (.int .i64) r])):=by
 unfold bN at h
 replace h:=bo h
 refine dy.of 49 Tryz.func121 rfl Tryz.ntmps121 rfl fun S w0=>?_
 refine sr ?_
 refine mq ?_
 obtain⟨x1,SY,h⟩:=aa h
 refine jb (bB rfl SY) ?_
 refine aq ?_
 refine nt ?_
 refine ak ?_
 refine aH (fun z3 y2=>[(0,.eq c),(1,I a1),(2,I a2),(6,I y2.2)]) (fun z3 y2=>[.sl c 3 (.int .i64) y2.1]) (bb k a1 a2) k () (a0,x1) (fun _=>rfl) h (SE.fin [0] ⟨rfl,rfl,rfl,rfl,trivial⟩ rfl) (fun n z3 y2 h=>?_)
 unfold bb at h
 refine am ?_
 refine sr ?_
 iterate 2 refine mq ?_
 refine jb (bG rfl) ?_
 refine nt ?_
 refine ci h (fun h=>?_) (fun h=>?_)
 ·
  refine sk (aJ (Z:=Unit) (α:=(List Int)) (fun z5 x4=>[(0,.eq c),(1,I a1),(2,I a2),(6,I y2.2)]) (fun z5 x4=>[.sl c 3 (.int .i64) x4]) h (fun K h=>?_) (fun z5 x4 h=>?_))
  ·refine ak (sr (mq ?_));refine aq (nt (ak ?_));refine aH (fun z7 y6=>[(0,.eq c),(1,I a1),(2,I a2),(6,I y2.2),(7,I y6.2)]) (fun z7 y6=>[.sl c 3 (.int .i64) y6.1]) (ba k a1) k () (y2.1,y2.2) (fun _=>rfl) h (SE.fin [0] ⟨rfl,rfl,rfl,rfl,rfl,trivial⟩ rfl) (fun n z7 y6 h=>?_);unfold ba at h;refine am (aJ (Z:=Unit) (α:=Bool) (fun z9 x8=>[(0,.eq c),(1,I a1),(2,I a2),(6,I y2.2),(7,I y6.2),(30,.eq (.bool x8))]) (fun z9 x8=>[.sl c 3 (.int .i64) y6.1]) h (fun K h=>?_) (fun z9 x8 h=>?_))
   ·refine cS ?_;refine dm ?_;refine dm ?_;refine db (oZ rfl) ?_;refine xu rfl rfl rfl (bM rfl) ⟨rfl,trivial⟩ (fun hb=>?_) (fun hb=>?_)
    ·replace h:=eO (uU hb) h;refine dH rfl rfl rfl rfl rfl (bM rfl) ⟨rfl,rfl,trivial⟩ ?_;refine dH rfl rfl rfl rfl rfl (bM rfl) ⟨rfl,rfl,trivial⟩ ?_;obtain⟨SK,x,h⟩:=aa h;refine kx 0 rfl rfl rfl rfl rfl rfl (cz (t:=(.int .i64)) rfl iC bT x) ⟨rfl,rfl,rfl,trivial⟩ ?_;refine kx 0 rfl rfl rfl rfl rfl rfl (gh (i:=Int.toNat y6.2) (off:=0) rfl bT (fun _=>rfl) rfl (dr x).2.2 rfl) ⟨rfl,rfl,trivial⟩ ?_;refine dH rfl rfl rfl rfl rfl (bM rfl) ⟨rfl,rfl,trivial⟩ ?_;refine dH rfl rfl rfl rfl rfl (bM rfl) ⟨rfl,rfl,trivial⟩ ?_;obtain⟨SJ,mw,h⟩:=aa h;refine dH rfl rfl rfl rfl rfl (ek rfl mw) ⟨rfl,rfl,rfl,trivial⟩ ?_;obtain⟨SI,u,h⟩:=aa h;refine kx 0 rfl rfl rfl rfl rfl rfl (cz (t:=(.int .i64)) rfl iC bT u) ⟨rfl,rfl,rfl,trivial⟩ ?_;refine kx 0 rfl rfl rfl rfl rfl rfl (gh (i:=Int.toNat SJ) (off:=0) rfl bT (fun _=>rfl) rfl (dr u).2.2 rfl) ⟨rfl,rfl,trivial⟩ ?_;refine df eF ?_;obtain⟨F,qt,h⟩:=aa h;refine gb (ax [.tmp 23,.tmp 28] rfl rfl Pj rfl (yT k SK SI F qt)) ?_;refine pt (nl ?_);exact jz ((),F) h [0]
    ·replace h:=cV (uV hb) h;iterate 9 refine dg ?_
     refine df eF ?_;refine gn ?_;refine pf (nl ?_);exact jz ((),false) h [0]
   ·refine cv h (fun h=>?_) (fun h=>?_)
    ·refine sk (am (ak (qV ?_)));refine cy rfl rfl rfl (bM rfl) ⟨rfl,trivial⟩ ?_;refine cy rfl rfl rfl (bM rfl) ⟨rfl,trivial⟩ ?_;refine cy rfl rfl rfl (bM rfl) ⟨rfl,trivial⟩ ?_;refine cy rfl rfl rfl (bM rfl) ⟨rfl,trivial⟩ ?_;obtain⟨y,mc,h⟩:=aa h;refine cy rfl rfl rfl (ek rfl mc) ⟨rfl,rfl,trivial⟩ ?_;refine cy rfl rfl rfl (bM rfl) ⟨rfl,trivial⟩ ?_;refine cy rfl rfl rfl (bM rfl) ⟨rfl,trivial⟩ ?_;obtain⟨SH,gw,h⟩:=aa h;refine cy rfl rfl rfl (ek rfl gw) ⟨rfl,rfl,trivial⟩ ?_;obtain⟨E,s,h⟩:=aa h;refine iY 0 rfl rfl rfl rfl (cz (t:=(.int .i64)) rfl iC bT s) ⟨rfl,rfl,trivial⟩ ?_;refine iY 0 rfl rfl rfl rfl (gh (i:=Int.toNat SH) (off:=0) rfl bT (fun _=>rfl) rfl (dr s).2.2 rfl) ⟨rfl,trivial⟩ ?_;refine cy rfl rfl rfl (bM rfl) ⟨rfl,trivial⟩ ?_;refine cy rfl rfl rfl (bM rfl) ⟨rfl,trivial⟩ ?_;obtain⟨D,l,h⟩:=aa h;refine iY 0 rfl rfl rfl rfl (cz (t:=(.int .i64)) rfl iC bT l) ⟨rfl,rfl,trivial⟩ ?_;refine iY 0 rfl rfl rfl rfl (gh (i:=Int.toNat y6.2) (off:=0) rfl bT (fun _=>rfl) rfl (dr l).2.2 rfl) ⟨rfl,trivial⟩ ?_;obtain⟨Ti,j,h⟩:=aa h;refine iY 0 rfl rfl rfl rfl (cz (t:=(.int .i64)) rfl iC bT j) ⟨rfl,rfl,trivial⟩ ?_;refine xt 15 [true,true,false,false,false,true,true,true,true,true,true,true,true,true,true] [48] [] [] rfl (by kernel_rfl) (by kernel_rfl) (by kernel_rfl) eF (fun vs hv hB=>?_);obtain⟨w0,TG,rfl,SX⟩:=aG hv;obtain⟨w1,TF,rfl,SV⟩:=aG SX;obtain⟨w2,TD,rfl,SU⟩:=aG SV;obtain⟨w3,TC,rfl,SS⟩:=aG SU;obtain⟨w4,TB,rfl,SR⟩:=aG SS;obtain⟨w5,TA,rfl,SQ⟩:=aG SR;obtain⟨w6,Tz,rfl,SO⟩:=aG SQ;obtain⟨w7,Tv,rfl,SN⟩:=aG SO;obtain⟨w8,Tu,rfl,SL⟩:=aG SN;obtain⟨w9,Td,rfl,X⟩:=aG SL;obtain⟨Tt,Ta,rfl,U⟩:=aG X;obtain⟨To,S9,rfl,Q⟩:=aG U;obtain⟨Tn,S7,rfl,O⟩:=aG Q;obtain⟨Tm,S5,rfl,M⟩:=aG O;obtain⟨Tj,SZ,rfl,J⟩:=aG M;obtain rfl:=s5 J;refine⟨[0],[.sl c 3 (.int .i64) y6.1],by kernel_rfl,by decide,?_⟩;refine sc rfl rfl (fY (i:=Int.toNat y6.2) rfl bT rfl (mQ j) rfl .int rfl) ⟨rfl,rfl,trivial⟩ (by kernel_rfl) ?_;obtain⟨Tf,e,h⟩:=aa h;refine AV rfl rfl rfl rfl (cz (t:=(.int .i64)) rfl iC bT e) ⟨rfl,rfl,trivial⟩ (by kernel_rfl) ?_;refine sc rfl rfl (fY (i:=Int.toNat y) rfl bT rfl (mQ e) rfl .int rfl) ⟨rfl,rfl,trivial⟩ (by kernel_rfl) ?_;refine xn ?_;refine b8 (SE.fin (Γ':=[(0,.eq c),(1,I a1),(2,I a2),(6,I y2.2),(7,I y6.2)]) (Δ':=[.sl c 3 (.int .i64) (List.set (List.set y6.1 (Int.toNat y6.2) E) (Int.toNat y) D)]) [0] ⟨rfl,rfl,rfl,rfl,rfl,trivial⟩ rfl) ?_;refine aS (tn (ag (mq ?_)));obtain⟨SG,gq,h⟩:=aa h;refine jb (ek rfl gq) ?_;refine aq (nl ?_);exact jz ((),(List.set (List.set y6.1 (Int.toNat y6.2) E) (Int.toNat y) D,SG)) h [0]
    ·refine fU (bO (bO (de (bn ?_))));exact jz ((),y6.1) h [0]
  ·refine ag (mq ?_);obtain⟨zz,Y,h⟩:=aa h;refine jb (bB rfl Y) ?_;refine aq (nl ?_);exact jz ((),(x4,zz)) h [0]
 ·
  refine fU (bO (bO (de (jT ?_))));cases h;exact aM () [] 1 trivial rfl
def j6(k:Nat)(a0:Int):Option Int:=
 ((if 4294967296≤a0 then(some (fV .u64 a0 32,32)) else(some (a0,0))):Option (Int×Int)).bind fun x1=>
 ((if 65536≤x1.1 then((ck (x1.2+16)).bind fun x5=>
 some (fV .u64 x1.1 16,x5)) else(some (x1.1,x1.2))):Option (Int×Int)).bind fun x3=>
 ((if 256≤x3.1 then((ck (x3.2+8)).bind fun x8=>
 some (fV .u64 x3.1 8,x8)) else(some (x3.1,x3.2))):Option (Int×Int)).bind fun x6=>
 (Aq Jk (IntKind.u8.wrap x6.1)).bind fun x9=>
 (ck (x9.toNat:Int)).bind fun e=>
 (ck (x6.2+e)).bind fun c=>
 some c
theorem pM(k:Nat)(a0:Int)(r:Int)(h:j6 k a0=some r):
 dy Tryz.prog 131 [.eq (.int .u64 a0)] [] (fun _:Unit=>(bI [I r],[])):=by
 unfold j6 at h
 replace h:=bo h
 refine dy.of 25 Tryz.func131 rfl Tryz.ntmps131 rfl fun S w0=>?_
 refine sr ?_
 refine cq ?_
 refine nt ?_
 refine aJ (Z:=Unit) (α:=Int×Int) (fun z2 x1=>[(0,.eq (.int .u64 x1.1)),(2,I x1.2)]) (fun z2 x1=>[]) h (fun K h=>?_) (fun z2 x1 h=>?_)
 ·
  refine sr (mq ?_);refine jb (i9 rfl) ?_;refine nt (ci h (fun h=>?_) (fun h=>?_))
  ·refine sr (mq ?_);refine bU rfl (tH rfl (by decide)) ⟨rfl,rfl,trivial⟩ ?_;refine aq (nt (ag ?_));refine cq (nl ?_);exact jz ((),(fV .u64 a0 32,32)) h []
  ·refine bh (ap ?_);exact jz ((),(a0,0)) h []
 ·
  refine aJ (Z:=Unit) (α:=Int×Int) (fun z4 x3=>[(0,.eq (.int .u64 x3.1)),(2,I x3.2)]) (fun z4 x3=>[]) h (fun K h=>?_) (fun z4 x3 h=>?_)
  ·refine sr (mq ?_);refine jb (i9 rfl) ?_;refine nt (ci h (fun h=>?_) (fun h=>?_))
   ·refine sr (mq ?_);refine bU rfl (tH rfl (by decide)) ⟨rfl,rfl,trivial⟩ ?_;refine aq (nt (ag ?_));refine mq ?_;obtain⟨x5,n,h⟩:=aa h;refine jb (bB rfl n) ?_;refine aq (nl ?_);exact jz ((),(fV .u64 x1.1 16,x5)) h []
   ·refine bh (ap ?_);exact jz ((),(x1.1,x1.2)) h []
  ·refine aJ (Z:=Unit) (α:=Int×Int) (fun z7 x6=>[(0,.eq (.int .u64 x6.1)),(2,I x6.2)]) (fun z7 x6=>[]) h (fun K h=>?_) (fun z7 x6 h=>?_)
   ·refine sr (mq ?_);refine jb (i9 rfl) ?_;refine nt (ci h (fun h=>?_) (fun h=>?_))
    ·refine sr (mq ?_);refine bU rfl (tH rfl (by decide)) ⟨rfl,rfl,trivial⟩ ?_;refine aq (nt (ag ?_));refine mq ?_;obtain⟨x8,l,h⟩:=aa h;refine jb (bB rfl l) ?_;refine aq (nl ?_);exact jz ((),(fV .u64 x3.1 8,x8)) h []
    ·refine bh (ap ?_);exact jz ((),(x3.1,x3.2)) h []
   ·refine sr ?_;iterate 2 refine mq ?_
    refine ja (rA rfl P9 U5) ?_;obtain⟨x9,j,h⟩:=aa h;refine ja (yk rfl U9 j) ?_;obtain⟨u,e,h⟩:=aa h;refine ja (yl rfl U5 U3 e) ?_;obtain⟨s,c,h⟩:=aa h;refine jb (bB rfl c) ?_;refine aq (nt (aC ?_));cases h;exact ra
def oM(k:Nat)(a0:Int):Option Int:=
 (j6 k a0).bind fun r1=>
 some r1
theorem AL(k:Nat)(a0:Int)(r:Int)(h:oM k a0=some r):
 dy Tryz.prog 120 [.eq (.int .u64 a0)] [] (fun _:Unit=>(bI [I r],[])):=by
 unfold oM at h
 replace h:=bo h
 refine dy.of 8 Tryz.func120 rfl Tryz.ntmps120 rfl fun S w0=>?_
 refine sr ?_
 refine cq ?_
 refine nt ?_
 refine am ?_
 refine HN (fun hb=>(by cases hb)) (fun hb=>?_)
 refine sk ?_
 refine sr ?_
 refine mq ?_
 obtain⟨r1,c,h⟩:=aa h
 have e:=pM k a0 r1 c
 refine ja (ax [.tmp 6] rfl rfl Pi rfl e) ?_
 refine aq ?_
 refine nt ?_
 refine aC ?_
 cases h
 exact ra
def cg(k:Nat)(a0:(List Int))(a1:Int)(a2:Int)(a3:Int):Nat→Unit→Option (List Int)
 |0,_=>none
 |n+1,y1=>
  (ck (a2 - a1)).bind fun x3=>
  if x3≤12 then((bN k a0 a1 a2).bind fun r4=>
  some r4) else(if a3=0 then(none) else(none))
def cM(k:Nat)(a0:(List Int))(a1:Int)(a2:Int)(a3:Int):Option (List Int):=
 cg k a0 a1 a2 a3 k ()
theorem lr(k:Nat)(a0:(List Int))(c:Value)(a1:Int)(a2:Int)(a3:Int)(r:(List Int))(h:cM k a0 a1 a2 a3=some r):
 dy Tryz.prog 119 [.eq c,I a1,I a2,I a3] [.sl c 3 (.int .i64) a0] (fun _:Unit=>(bI [],[.sl c 3 (.int .i64) r])):=by
 unfold cM at h
 replace h:=bo h
 refine dy.of 134 Tryz.func119 rfl Tryz.ntmps119 rfl fun S w0=>?_
 refine sr ?_
 refine cq ?_
 refine nt ?_
 refine sr ?_
 refine cq ?_
 refine nt ?_
 refine ak ?_
 refine aH (fun z2 y1=>[(0,.eq c),(1,I a1),(2,I a2),(3,I a3),(8,.eq (.bool true)),(9,.eq (.bool true))]) (fun z2 y1=>[.sl c 3 (.int .i64) a0]) (cg k a0 a1 a2 a3) k () () (fun _=>rfl) h (SE.fin [0] ⟨rfl,rfl,rfl,rfl,rfl,rfl,trivial⟩ rfl) (fun n z2 y1 h=>?_)
 unfold cg at h
 refine ak ?_
 refine sr ?_
 iterate 2 refine mq ?_
 obtain⟨x3,e,h⟩:=aa h
 refine jb (ek rfl e) ?_
 refine aq ?_
 refine nt ?_
 refine am ?_
 refine sr ?_
 refine mq ?_
 refine jb (Bd rfl) ?_
 refine nt ?_
 refine ci h (fun h=>?_) (fun h=>?_)
 ·
  refine sr ?_;iterate 3 refine mq ?_
  obtain⟨r4,j,h⟩:=aa h;refine kc (ax [.tmp 24,.tmp 25,.tmp 26] rfl rfl Pl rfl (i7 k a0 c a1 a2 r4 j)) ?_;refine nt (rx (bH (bF (bH ?_))));cases h;exact aM () [] 1 trivial rfl
 ·
  refine sk (am (sr (mq ?_)));refine jb (jd rfl) ?_;refine nt (ci h (fun h=>?_) (fun h=>?_))
  ·cases h
  ·cases h
def fo(k:Nat)(a0:(List Int)):Option (List Int):=
 (oM k (IntKind.u64.wrap (a0.length:Int))).bind fun r1=>
 (cM k a0 0 (a0.length:Int) r1).bind fun r2=>
 some r2
theorem sJ(k:Nat)(a0:(List Int))(c:Value)(r:(List Int))(h:fo k a0=some r):
 dy Tryz.prog 106 [.eq c] [.sl c 3 (.int .i64) a0] (fun _:Unit=>(bI [],[.sl c 3 (.int .i64) r])):=by
 unfold fo at h
 replace h:=bo h
 refine dy.of 11 Tryz.func106 rfl Tryz.ntmps106 rfl fun S w0=>?_
 refine sr ?_
 refine mq ?_
 refine ka (lZ rfl rfl iC) ?_
 refine aq ?_
 refine nt ?_
 refine ag ?_
 iterate 3 refine mq ?_
 refine ja (rA rfl U3 Rq) ?_
 obtain⟨r1,j,h⟩:=aa h
 have n:=AL k (IntKind.u64.wrap (a0.length:Int)) r1 j
 refine ja (ax [.tmp 8] rfl rfl Pm rfl n) ?_
 obtain⟨r2,e,h⟩:=aa h
 have l:=lr k a0 c 0 (a0.length:Int) r1 r2 e
 refine lQ rfl rfl rfl (ax [.tmp 5,.const (.int .i64 (0)),.tmp 6,.tmp 9] rfl rfl Pn rfl l) ⟨rfl,rfl,rfl,rfl,trivial⟩ ?_
 refine aE ?_
 refine jT ?_
 cases h
 exact aM () [] 1 trivial rfl
def cp(k:Nat)(a1:Int)(x3:(List (List Int))):Nat→Int→Option (Except (Int ⊕ (List Int)) Unit)
 |0,_=>none
 |n+1,y4=>
  if y4 < (x3.length:Int) then((aX x3 y4).bind fun x6=>
  (eJ k x6 a1).bind fun r7=>
  if 0≤r7 then(((if 0 < r7 then((ck (r7 - 1)).bind fun s=>
  (aX x6 s).bind fun e=>
  (cJ (cu (List.length ([]:(List Int))+List.length [e]))).bind fun _=>
  some (([]:(List Int))++[e])) else(some ([]:(List Int)))):Option ((List Int))).bind fun x8=>
  (((ck (r7+1)).bind fun l=>
  if l < (x6.length:Int) then((ck (r7+1)).bind fun j=>
  (aX x6 j).bind fun c=>
  (cJ (cu (List.length x8+List.length [c]))).bind fun _=>
  some (x8++[c])) else(some x8)):Option ((List Int))).bind fun r=>
  (fo k r).bind fun u=>
  some (.error (Sum.inr u:(Int ⊕ (List Int))))) else((ck (y4+1)).bind fun h=>
  cp k a1 x3 n h)) else(some (.ok ()))
def dI(k:Nat):Nat→ai→Int→Int→Option ((Int ⊕ (List Int)))
 |0,_,_,_=>none
 |m0+1,a0,a1,a2=>
  bE (α:=Unit) ((aX a0.2.2.2.2.1 a2).bind fun x3=>
  cp k a1 x3 k 0) (some) fun _=>
  ((if 0 < a2 then((ck (a2 - 1)).bind fun h=>
  ((dI k m0) a0 a1 h).bind fun c=>
  if IG c=true then((ck (1+(Om c))).bind fun e=>
  some e) else(some 1)) else(some 1)):Option (Int)).bind fun j=>
  some (Sum.inl j:(Int ⊕ (List Int)))
theorem kT{M:Md Tryz.prog}{bm:Nat}{c0 c1 c2 c3 c4 c5:Value}(hK:Kn M bm 0 [c0,c1,c2,c3,c4,c5])(k:Nat):
 ∀(n:Nat) (a0:ai) (a1:Int) (a2:Int) (r:(Int ⊕ (List Int))),dI k n a0 a1 a2=some r→bX M 76 [.rep (.mo (Pv bm) [c0,c1,c2,c3,c4,c5] ab) a0,I a1,I a2] ([]) (fun _:Unit=>(bI [.rep (.pl 141 143 (.slice (.int .i64))) r],[])):=by
 intro n
 induction n with
 |zero=>intro a0 a1 a2 r h;cases h
 |succ m0 ih=>
  intro a0 a1 a2 r h;rw [dI] at h;replace h:=bo h;refine bX.of 80 Tryz.func76 rfl Tryz.ntmps76 rfl fun S w0=>?_;refine sr (cq (nt ?_));refine dx (Z:=Unit) (α:=Unit) (fun z2 x1=>[(0,.rep (.mo (Pv bm) [c0,c1,c2,c3,c4,c5] ab) a0),(1,I a1),(2,I a2)]) (fun z2 x1=>[]) (fun e=>e=r) h (fun e h=>Option.some.inj h) (fun K hR h=>?_) (fun z2 x1 h=>?_)
  ·refine sr (mq ?_);refine ja (kP rfl) ?_;refine ja (f5 rfl gy) ?_;refine ja (ig 1 false rfl eL rfl rfl) ?_;refine ja (jg (t:=(.slice (.slice (.slice (.int .i64))))) rfl lN (hK.sub 4 1 rfl (Nat.le_of_ble_eq_true rfl)) rfl rfl) ?_;refine mq ?_;obtain⟨x3,SK,h⟩:=aa h;refine jb (be (t:=(.slice (.slice (.int .i64)))) rfl AQ xX SK) ?_;refine ja (av (t:=(.slice (.slice (.int .i64)))) rfl xX rfl) ?_;refine ol sE ?_;refine dT rfl ?_;refine nt (ak (aH (fun z5 y4=>[(0,.rep (.mo (Pv bm) [c0,c1,c2,c3,c4,c5] ab) a0),(1,I a1),(2,I a2),(21,.rep (.slice (.slice (.int .i64))) x3),(22,I (x3.length:Int)),(23,I y4)]) (fun z5 y4=>[]) (cp k a1 x3) k () 0 (fun _=>rfl) h (SE.fin [] ⟨rfl,rfl,rfl,rfl,rfl,rfl,trivial⟩ rfl) (fun n z5 y4 h=>?_)));unfold cp at h;refine sr (jb (bG rfl) ?_);refine nt (am (ci h (fun h=>?_) (fun h=>?_)))
   ·refine sk (am (ak (sr ?_)));obtain⟨x6,SJ,h⟩:=aa h;refine jb (be (t:=(.slice (.int .i64))) rfl sE iD SJ) ?_;refine ja (av (t:=(.slice (.int .i64))) rfl iD rfl) ?_;refine aq (nt (sr ?_));iterate 2 refine mq ?_
    obtain⟨r7,SL,h⟩:=aa h;refine jb (ax [.tmp 27,.tmp 28] rfl rfl M5 rfl (je k x6 a1 r7 SL)) ?_;refine aq (nt (sr ?_));refine mq ?_;refine jb (i9 rfl) ?_;refine nt (ci h (fun h=>?_) (fun h=>?_))
    ·refine sr (cq (nt ?_));refine aJ (Z:=Value) (α:=(List Int)) (fun z9 x8=>[(8,Ri x6),(9,I r7),(10,.eq z9)]) (fun z9 x8=>[.sl z9 3 (.int .i64) x8]) h (fun K h=>?_) (fun z9 x8 h=>?_)
     ·refine sr (mq ?_);refine jb (oZ rfl) ?_;refine nt (ci h (fun h=>?_) (fun h=>?_))
      ·refine ag ?_;iterate 3 refine mq ?_
       obtain⟨SQ,U,h⟩:=aa h;refine jb (ek rfl U) ?_;obtain⟨x,Q,h⟩:=aa h;refine jb (be (t:=(.int .i64)) rfl iC bT Q) ?_;refine ja (av (t:=(.int .i64)) rfl bT rfl) ?_;refine ja (bf (t:=(.int .i64)) [(.tmp 39,_)] [x] rfl rfl dn (.cons rfl .int .nil) rfl rfl) ?_;refine dX (SE.nil 3 (.int .i64)) ?_;obtain⟨SS,Y,h⟩:=aa h;refine dN rfl rfl rfl (cx rfl rfl dn (ao Y)) ⟨rfl,rfl,trivial⟩ fun SG=>?_;refine aq (nl ?_);exact jz (SG,([]:(List Int))++[x]) h [0]
      ·refine bh (ap (b8 (SE.nil 3 (.int .i64)) ?_));exact jz ((.slice none 0 0),([]:(List Int))) h [0]
     ·refine aJ (Z:=Value) (α:=(List Int)) (fun c j=>[(10,.eq c)]) (fun c j=>[.sl c 3 (.int .i64) j]) h (fun K h=>?_) (fun c j h=>?_)
      ·refine sr (mq ?_);obtain⟨SO,O,h⟩:=aa h;refine jb (bB rfl O) ?_;refine mq ?_;refine ol iC ?_;refine jb (bG rfl) ?_;refine nt (ci h (fun h=>?_) (fun h=>?_))
       ·refine ag ?_;iterate 3 refine mq ?_
        obtain⟨SN,J,h⟩:=aa h;refine jb (bB rfl J) ?_;obtain⟨u,F,h⟩:=aa h;refine jb (be (t:=(.int .i64)) rfl iC bT F) ?_;refine ja (av (t:=(.int .i64)) rfl bT rfl) ?_;refine ja (bf (t:=(.int .i64)) [(.tmp 52,_)] [u] rfl rfl dn (.cons rfl .int .nil) rfl rfl) ?_;obtain⟨SR,X,h⟩:=aa h;refine dN rfl rfl rfl (cx rfl rfl dn (ao X)) ⟨rfl,rfl,trivial⟩ fun zz=>?_;refine aq (nl ?_);exact jz (zz,x8++[u]) h [0]
       ·refine bh (ap ?_);exact jz (z9,x8) h [0]
      ·refine sr (mq ?_);obtain⟨SI,gw,h⟩:=aa h;refine ka (ax [.tmp 55] rfl rfl Po rfl (sJ k j c SI gw)) ?_;refine nt (sr (mq ?_));refine dX (iV [10,55,57] ⟨rfl,rfl,rfl,trivial⟩) ?_;refine ja (dC [(0,.tmp 57,_)] rfl Oo KG Nq (i8 ⟨rfl,trivial⟩) rfl) ?_;refine ja (IN (t0:=141) (t:=(.int .i64)) rfl Rn) ?_;refine aq (nt (aC (br (bH (bF ?_)))));obtain rfl:=hR _ h;exact ra
    ·refine bh (aS (tn (ag ?_)));obtain⟨qt,E,h⟩:=aa h;refine jb (bB rfl E) ?_;refine mq (nl ?_);exact jz ((),qt) h []
   ·refine xa ?_;exact jz ((),()) h []
  ·refine sr (cq (nt ?_));refine aJ (Z:=Unit) (α:=Int) (fun s l=>[(11,I l)]) (fun s l=>[]) h (fun K h=>?_) (fun s l h=>?_)
   ·refine sr (mq ?_);refine jb (oZ rfl) ?_;refine nt (ci h (fun h=>?_) (fun h=>?_))
    ·refine sr ?_;iterate 3 refine mq ?_
     obtain⟨mw,D,h⟩:=aa h;refine jb (ek rfl D) ?_;obtain⟨SH,gq,h⟩:=aa h;refine jc (aK [.tmp 64,.tmp 65,.tmp 67] rfl rfl MY rfl (ih a0 a1 mw SH gq)) ?_;refine bU rfl (Be rfl ET (by decide)) ⟨rfl,trivial⟩ ?_;refine mq ?_;refine xr ?_;refine xr ?_;refine aZ rfl rfl rfl (bu rfl Ek K9) trivial fun SU=>?_;refine aU rfl rfl (aR rfl KU trivial rfl rfl) ⟨rfl,rfl,trivial⟩ ?_;refine aq (nt (sr ?_));refine mq (nt ?_);refine cv h (fun h=>?_) (fun h=>?_)
     ·refine ag (mq ?_);refine fl BK ?_;refine lo bT ?_;obtain⟨mc,y,h⟩:=aa h;refine jb (bB rfl y) ?_;refine aq (nl ?_);exact jz ((),mc) h []
     ·refine bh (ap ?_);exact jz ((),1) h []
    ·refine bh (ap ?_);exact jz ((),1) h []
   ·refine sr (mq ?_);refine ja (dC [(0,.tmp 77,_)] rfl Oq Ek Nr (i8 ⟨rfl,trivial⟩) rfl) ?_;refine ja (IO (t1:=143) (t:=(.int .i64)) rfl Ro) ?_;refine aq (nt (aC ?_));cases h;exact ra
def ia(k:Nat)(a0:K3):Option (List Int):=
 some ([]:(List Int))
theorem pE(k:Nat)(a0:K3)(r:(List Int))(h:ia k a0=some r):
 dy Tryz.prog 155 [.rep Oe a0] [] (fun _:Unit=>(bI [Ri r],[])):=by
 unfold ia at h
 replace h:=bo h
 refine dy.of 3 Tryz.func155 rfl Tryz.ntmps155 rfl fun S w0=>?_
 refine sr ?_
 refine bx fun b1=>?_
 refine cq ?_
 refine nt ?_
 refine sr ?_
 refine cq ?_
 refine nt ?_
 refine aC ?_
 refine b8 (d4 (t:=(.slice (.int .i64))) (x:=([]:(List Int))) 2 rfl .nil rfl rfl) ?_
 cases h
 exact ra
def hH(k:Nat)(a0:K2):Option (List Int):=
 some a0
theorem pB(k:Nat)(a0:K2)(r:(List Int))(h:hH k a0=some r):
 dy Tryz.prog 156 [.rep Oc a0] [] (fun _:Unit=>(bI [Ri r],[])):=by
 unfold hH at h
 replace h:=bo h
 refine dy.of 5 Tryz.func156 rfl Tryz.ntmps156 rfl fun S w0=>?_
 refine sr ?_
 refine bx fun b1=>?_
 refine cq ?_
 refine nt ?_
 refine sr ?_
 refine fl Jv ?_
 refine lo iD ?_
 refine aq ?_
 refine nt ?_
 refine aC ?_
 cases h
 exact ra
def bQ(k:Nat)(a0:ai)(a1:(List Int))(r5:(List Int)):Nat→Int→Option (Except Int Unit)
 |0,_=>none
 |n+1,y6=>
  if y6 < (r5.length:Int) then((aX r5 y6).bind fun x8=>
  (cJ (0≤x8∧x8 < 5)).bind fun _=>
  (aX a1 x8).bind fun e=>
  if(j8 0 a0.2.1)≤e then(some (.error x8)) else((ck (y6+1)).bind fun c=>
  bQ k a0 a1 r5 n c)) else(some (.ok ()))
def dc(k:Nat)(a0:ai)(a1:(List Int))(a2:Int)(a3:Int):Option Int:=
 bE (α:=Unit) ((dI k k a0 a2 a3).bind fun r4=>
 (G8 r4 (fun n=>ia k n) (fun l=>hH k l)).bind fun r5=>
 bQ k a0 a1 r5 k 0) (some) fun _=>
 some (-1:Int)
theorem jH{M:Md Tryz.prog}{bm:Nat}{c0 c1 c2 c3 c4 c5:Value}(hK:Kn M bm 0 [c0,c1,c2,c3,c4,c5])(k:Nat)(a0:ai)(a1:(List Int))(a2:Int)(a3:Int)(r:Int)(h:dc k a0 a1 a2 a3=some r):
    bX M 65 [.rep (.mo (Pv bm) [c0,c1,c2,c3,c4,c5] ab) a0,.rep (.arr 5 (.int .i64)) a1,.eq (.int .i64 a2),.eq (.int .i64 a3)] [] (fun _:Unit=>(bI [.eq (.int .i64 r)],[])):=by
  unfold dc at h
  replace h:=bo h
  refine bX.of 33 Tryz.func65 rfl Tryz.ntmps65 rfl fun S w0=>?_
  refine am ?_
  refine ag ?_
  refine aZ rfl rfl rfl (vt rfl rfl) ⟨rfl,trivial⟩ fun b1=>?_
  refine CE rfl ?_
  refine aE ?_
  refine ap ?_
  show JC _ _ _ _ _
  refine dx (Z:=Unit) (α:=Unit) (fun z3 x2=>[]) (fun z3 x2=>[]) (fun e=>e=r) h (fun e h=>Option.some.inj h) (fun K hR h=>?_) (fun z3 x2 h=>?_)
  ·
    refine am ?_
    refine ag ?_
    refine gA rfl rfl ?_
    refine gA rfl rfl ?_
    refine gA rfl rfl ?_
    obtain⟨r4,D,h⟩:=aa h
    have E:=kT hK k k a0 a2 a3 r4 D
    refine bU rfl (aK [.tmp 11,.tmp 12,.tmp 13] rfl rfl MY rfl E) ⟨rfl,rfl,rfl,trivial⟩ ?_
    obtain⟨r5,c,h⟩:=aa h
    refine bU rfl (IP (r:=.rep (.slice (.int .i64)) r5) rfl rfl uQ uP (fun n hd=>.agI (pE k n r5 (by rw [hd] at c;exact c))) (fun l hd=>.agS (pB k l r5 (by rw [hd] at c;exact c)))) ⟨rfl,trivial⟩ ?_
    refine bU rfl (vq rfl rfl iC) ⟨rfl,trivial⟩ ?_
    refine dT rfl ?_
    refine aE ?_
    refine ap ?_
    show JC _ _ _ _ _
    refine ak ?_
    refine aH (fun z7 y6=>[(0,.rep (.mo (Pv bm) [c0,c1,c2,c3,c4,c5] ab) a0),(5,.eq (Pv b1)),(15,.rep (.slice (.int .i64)) r5),(16,.eq (.int .i64 (r5.length:Int))),(17,.eq (.int .i64 y6))]) (fun z7 y6=>[.obj b1 67 (.rep (.arr 5 (.int .i64)) a1)]) (bQ k a0 a1 r5) k () 0 (fun _=>rfl) h (SE.fin [0] ⟨rfl,rfl,rfl,rfl,rfl,trivial⟩ rfl) (fun n z7 y6 h=>?_)
    unfold bQ at h
    refine am ?_
    refine ag ?_
    refine bU rfl (bG rfl) ⟨rfl,rfl,trivial⟩ ?_
    refine aE ?_
    refine ap ?_
    show JC _ _ _ _ _
    refine am ?_
    refine iW rfl (fun hb=>?_) (fun hb=>?_)
    · replace h:=eO (uU hb) h
      refine bh ?_
      refine ap ?_
      show JC _ _ _ _ _
      refine am ?_
      refine ak ?_
      refine am ?_
      refine ag ?_
      obtain⟨x8,y,h⟩:=aa h
      refine bU rfl (be (t:=(.int .i64)) rfl iC bT y) ⟨rfl,rfl,trivial⟩ ?_
      refine bU rfl (av (t:=(.int .i64)) rfl bT rfl) ⟨rfl,trivial⟩ ?_
      refine uv rfl rfl ?_
      refine aE ?_
      refine ap ?_
      show JC _ _ _ _ _
      refine am ?_
      refine cS ?_
      refine fE rfl rfl rfl (bM rfl) ⟨rfl,trivial⟩ ?_
      obtain⟨u9,u,h⟩:=aa h
      refine fE rfl rfl rfl (dB rfl zf bT (ao u).1 (ao u).2) ⟨rfl,rfl,trivial⟩ ?_
      obtain⟨F,s,h⟩:=aa h
      refine uA 0 rfl rfl rfl rfl (mz (t:=(.int .i64)) (off:=0) (i:=x8) (N:=5) rfl bT (fun _=>rfl) rfl rfl rfl rfl s) ⟨rfl,trivial⟩ ?_
      refine fE rfl rfl rfl (bM rfl) ⟨rfl,trivial⟩ ?_
      refine fE rfl rfl rfl (kP rfl) ⟨rfl,trivial⟩ ?_
      refine fE rfl rfl rfl (f5 rfl gy) ⟨rfl,trivial⟩ ?_
      refine fE rfl rfl rfl (ig 1 false rfl Az rfl rfl) ⟨rfl,trivial⟩ ?_
      refine fE rfl rfl rfl (jg (t:=(.int .i64)) rfl bT (hK.sub 1 1 rfl (Nat.le_of_ble_eq_true rfl)) rfl rfl) ⟨rfl,trivial⟩ ?_
      refine fE rfl rfl rfl (yj rfl rfl) ⟨rfl,rfl,trivial⟩ ?_
      refine AX (by kernel_rfl) eF ?_
      refine bU rfl (i9 rfl) ⟨rfl,rfl,trivial⟩ ?_
      refine aE ?_
      refine ap ?_
      show JC _ _ _ _ _
      refine iW rfl (fun hb=>?_) (fun hb=>?_)
      · replace h:=eO (uU hb) h
        refine am ?_
        refine ag ?_
        refine gA rfl rfl ?_
        refine uv rfl rfl ?_
        refine aE ?_
        refine ap ?_
        show JC _ _ _ _ _
        refine aC ?_
        refine bH ?_
        refine bF ?_
        refine bF ?_
        refine bH ?_
        refine bF ?_
        obtain rfl:=hR _ h
        exact aM () [_] 0 ⟨rfl,trivial⟩ rfl
      · replace h:=cV (uV hb) h
        refine bh ?_
        refine aS ?_
        refine ap ?_
        show JC _ _ _ _ _
        refine ag ?_
        obtain⟨x,j,h⟩:=aa h
        refine bU rfl (bB rfl j) ⟨rfl,rfl,trivial⟩ ?_
        refine gA rfl rfl ?_
        refine aE ?_
        refine ap ?_
        exact uw ((),x) h (SE.fin [0] ⟨rfl,rfl,rfl,rfl,rfl,trivial⟩ rfl)
    · replace h:=cV (uV hb) h
      refine fU ?_
      refine bO ?_
      refine bO ?_
      refine de ?_
      refine ap ?_
      exact uw ((),()) h (SE.fin [] trivial rfl)
  ·
    refine am ?_
    refine ag ?_
    refine CE rfl ?_
    refine aE ?_
    refine ap ?_
    show JC _ _ _ _ _
    refine aC ?_
    obtain rfl:=Option.some.inj h
    exact aM () [_] 0 ⟨rfl,trivial⟩ rfl
def cf(k:Nat)(a0:ai)(a1:(List Int))(a2:Int):Nat→((List Int)×Int)→Option (List Int)
 |0,_=>none
 |n+1,y6=>
  if y6.2 < a0.1 then((((dI k k a0 y6.2 a2).bind fun c=>
  if IG c=true then(if a0.2.2.2.1≤(Om c) then((cJ (0≤y6.2∧y6.2 < 5)).bind fun _=>
  some (List.set y6.1 (Int.toNat y6.2) (-1:Int))) else(some y6.1)) else(if¬(IG c=true) then((cJ (0≤y6.2∧y6.2 < 5)).bind fun _=>
  (aX a1 y6.2).bind fun l=>
  if 0≤l then((cJ (0≤y6.2∧y6.2 < 5)).bind fun _=>
  (aX a1 y6.2).bind fun j=>
  (ck (j+1)).bind fun h=>
  (cJ (0≤y6.2∧y6.2 < 5)).bind fun _=>
  some (List.set y6.1 (Int.toNat y6.2) h)) else((dc k a0 a1 y6.2 a2).bind fun r=>
  if 0≤r then((cJ (0≤y6.2∧y6.2 < 5)).bind fun _=>
  some (List.set y6.1 (Int.toNat y6.2) 0)) else(some y6.1))) else(some y6.1))):Option ((List Int))).bind fun x8=>
  (ck (y6.2+1)).bind fun e=>
  cf k a0 a1 a2 n (x8,e)) else(some y6.1)
def f8(k:Nat)(a0:ai)(a1:(List Int))(a2:Int):Option (List Int):=
 ((cf k a0 a1 a2 k (a1,0)):Option ((List Int))).bind fun x4=>
 some x4
theorem qF{M:Md Tryz.prog}{bm:Nat}{c0 c1 c2 c3 c4 c5:Value}(hK:Kn M bm 0 [c0,c1,c2,c3,c4,c5])(k:Nat)(a0:ai)(a1:(List Int))(a2:Int)(r:(List Int))(h:f8 k a0 a1 a2=some r):
 bX M 56 [.rep (.mo (Pv bm) [c0,c1,c2,c3,c4,c5] ab) a0,.rep (.arr 5 (.int .i64)) a1,I a2] [] (fun _:Unit=>(bI [.rep (.arr 5 (.int .i64)) r],[])):=by
 unfold f8 at h
 replace h:=bo h
 refine bX.of 60 Tryz.func56 rfl Tryz.ntmps56 rfl fun S w0=>?_
 refine sr ?_
 refine bx fun b1=>?_
 refine aZ rfl rfl rfl (bu rfl H4 J0) trivial fun b2=>?_
 refine nt ?_
 refine sr ?_
 refine fr 1 ?_
 refine lo gB ?_
 refine aZ rfl rfl rfl (bu rfl H4 J0) trivial fun b3=>?_
 refine aU rfl rfl (aR rfl gB rfl rfl rfl) ⟨rfl,rfl,trivial⟩ ?_
 refine nt ?_
 refine aJ (Z:=Unit) (α:=(List Int)) (fun z5 x4=>[(6,Pt b2),(7,Pt b3)]) (fun z5 x4=>[.obj b2 67 (.rep (.arr 5 (.int .i64)) [0,0,0,0,0]),.obj b3 67 (.rep (.arr 5 (.int .i64)) x4)]) h (fun K h=>?_) (fun z5 x4 h=>?_)
 ·
  refine sr (mq ?_);refine ja (kP rfl) ?_;refine ja (f5 rfl gy) ?_;refine ja (ig 1 false rfl eX rfl rfl) ?_;refine ja (jg (t:=(.int .i64)) rfl bT (hK.sub 0 1 rfl (Nat.le_of_ble_eq_true rfl)) rfl rfl) ?_;refine dT rfl ?_;refine nt (ak (aH (fun z7 y6=>[(0,.rep (.mo (Pv bm) [c0,c1,c2,c3,c4,c5] ab) a0),(2,I a2),(4,Pt b1),(6,Pt b2),(7,Pt b3),(16,I a0.1),(17,I y6.2)]) (fun z7 y6=>[.obj b1 67 (.rep (.arr 5 (.int .i64)) a1),.obj b2 67 (.rep (.arr 5 (.int .i64)) [0,0,0,0,0]),.obj b3 67 (.rep (.arr 5 (.int .i64)) y6.1)]) (cf k a0 a1 a2) k () (a1,0) (fun _=>rfl) h (SE.fin [1,2,0] ⟨rfl,rfl,rfl,rfl,rfl,rfl,rfl,trivial⟩ rfl) (fun n z7 y6 h=>?_)));unfold cf at h;refine sr (jb (bG rfl) ?_);refine nt (am (ci h (fun h=>?_) (fun h=>?_)))
  ·refine sk (aJ (Z:=Unit) (α:=(List Int)) (fun z9 x8=>[(0,.rep (.mo (Pv bm) [c0,c1,c2,c3,c4,c5] ab) a0),(2,I a2),(4,Pt b1),(6,Pt b2),(7,Pt b3),(16,I a0.1),(17,I y6.2)]) (fun z9 x8=>[.obj b1 67 (.rep (.arr 5 (.int .i64)) a1),.obj b2 67 (.rep (.arr 5 (.int .i64)) [0,0,0,0,0]),.obj b3 67 (.rep (.arr 5 (.int .i64)) x8)]) h (fun K h=>?_) (fun z9 x8 h=>?_))
   ·refine ak (sr (mq ?_));refine aq (nt (sr ?_));iterate 3 refine mq ?_
    obtain⟨U,F,h⟩:=aa h;refine jc (aK [.tmp 20,.tmp 21,.tmp 22] rfl rfl MY rfl (kT hK k k a0 y6.2 a2 U F)) ?_;refine nt (ak (sr (bU rfl (Be rfl ET (by decide)) ⟨rfl,trivial⟩ ?_)));refine xr ?_;refine xr ?_;refine nt (cv h (fun h=>?_) (fun h=>?_))
    ·refine sr (aZ rfl rfl rfl (bu rfl Ek K9) trivial fun zz=>?_);refine aU rfl rfl (aR rfl KU trivial rfl rfl) ⟨rfl,rfl,trivial⟩ ?_;refine nt (am (cS ?_));refine da (aN rfl BK) ?_;refine ea 0 (aD rfl bT pX rfl) ?_;refine dm ?_;refine da (kP rfl) ?_;refine da (f5 rfl gy) ?_;refine da (ig 1 false rfl GT rfl rfl) ?_;refine da (jg (t:=(.int .i64)) rfl bT (hK.sub 3 1 rfl (Nat.le_of_ble_eq_true rfl)) rfl rfl) ?_;refine df eF ?_;refine jb (i9 rfl) ?_;refine nt (ci h (fun h=>?_) (fun h=>?_))
     ·refine ag (mq ?_);obtain⟨mw,j,h⟩:=aa h;refine jb (dB rfl zf bT (ao j).1 (ao j).2) ?_;refine fr 3 ?_;refine aU rfl rfl (fZ (t:=(.int .i64)) (off:=0) (i:=y6.2) (N:=5) rfl bT .int rfl rfl rfl rfl (ao j).1 (ao j).2 rfl) ⟨rfl,rfl,trivial⟩ ?_;refine aE (aS (bn ?_));exact jz ((),List.set y6.1 (Int.toNat y6.2) (-1:Int)) h [2,3,0]
     ·refine bh (aS (bn ?_));exact jz ((),y6.1) h [1,2,3]
    ·refine sr (bU rfl (IT rfl LC (by decide)) ⟨rfl,trivial⟩ ?_);refine xr ?_;refine xr ?_;refine nt (cw h (fun h=>?_) (fun h=>?_))
     ·refine sr (aZ rfl rfl rfl (bu rfl KG PI) trivial fun qt=>?_);refine aU rfl rfl (aR rfl Of trivial rfl rfl) ⟨rfl,rfl,trivial⟩ ?_;refine nt (sr (mq ?_));obtain⟨mc,s,h⟩:=aa h;refine jb (dB rfl zf bT (ao s).1 (ao s).2) ?_;obtain⟨Y,D,h⟩:=aa h;refine fr 1 ?_;refine ka (mz (t:=(.int .i64)) (off:=0) (i:=y6.2) (N:=5) rfl bT (fun _=>rfl) rfl rfl rfl rfl D) ?_;refine jb (i9 rfl) ?_;refine nt (ci h (fun h=>?_) (fun h=>?_))
      ·refine ag ?_;iterate 2 refine mq ?_
       obtain⟨u16,l,h⟩:=aa h;refine jb (dB rfl zf bT (ao l).1 (ao l).2) ?_;obtain⟨X,y,h⟩:=aa h;refine ka (mz (t:=(.int .i64)) (off:=0) (i:=y6.2) (N:=5) rfl bT (fun _=>rfl) rfl rfl rfl rfl y) ?_;obtain⟨O,x,h⟩:=aa h;refine jb (bB rfl x) ?_;obtain⟨gw,e,h⟩:=aa h;refine jb (dB rfl zf bT (ao e).1 (ao e).2) ?_;refine fr 3 ?_;refine aU rfl rfl (fZ (t:=(.int .i64)) (off:=0) (i:=y6.2) (N:=5) rfl bT .int rfl rfl rfl rfl (ao e).1 (ao e).2 rfl) ⟨rfl,rfl,trivial⟩ ?_;refine aE (aS (bn ?_));exact jz ((),List.set y6.1 (Int.toNat y6.2) O) h [1,3,0]
      ·refine sr (mq ?_);refine lo gB ?_;iterate 2 refine mq ?_
       obtain⟨Q,E,h⟩:=aa h;refine bU rfl (aK [.tmp 50,.tmp 51,.tmp 52,.tmp 53] rfl rfl O4 rfl (jH hK k a0 a1 y6.2 a2 Q E)) ⟨rfl,rfl,rfl,rfl,trivial⟩ ?_;refine jb (i9 rfl) ?_;refine nt (ci h (fun h=>?_) (fun h=>?_))
       ·refine ag (mq ?_);obtain⟨gq,c,h⟩:=aa h;refine jb (dB rfl zf bT (ao c).1 (ao c).2) ?_;refine fr 3 ?_;refine aU rfl rfl (fZ (t:=(.int .i64)) (off:=0) (i:=y6.2) (N:=5) rfl bT .int rfl rfl rfl rfl (ao c).1 (ao c).2 rfl) ⟨rfl,rfl,trivial⟩ ?_;refine aE (aS (bn ?_));exact jz ((),List.set y6.1 (Int.toNat y6.2) 0) h [1,3,0]
       ·refine bh (aS (bn ?_));exact jz ((),y6.1) h [0,2,3]
     ·refine bh (aS (bn ?_));exact jz ((),y6.1) h [0,1,2]
   ·refine ag ?_;obtain⟨J,u,h⟩:=aa h;refine jb (bB rfl u) ?_;refine mq (nl ?_);exact jz ((),(x8,J)) h [0,1,2]
  ·refine xa ?_;exact jz ((),y6.1) h [1,2]
 ·
  refine sr (fr 1 ?_);refine lo gB ?_;refine fr 1 ?_;refine aU rfl rfl (aR rfl gB rfl rfl rfl) ⟨rfl,rfl,trivial⟩ ?_;refine nt (aC ?_);obtain rfl:=Option.some.inj h;exact aM () [.rep (.arr 5 (.int .i64)) x4] 0 ⟨⟨_,_,_,_,_,rfl,(.head _),gB,(qD),rfl⟩,trivial⟩ rfl
def gI(k:Nat)(a0:List Int):Option (List Int):=
 (cJ (cu (List.length a0))).bind fun _=>some a0
theorem rj(k:Nat)(a0:List Int)(r:List Int)(h:gI k a0=some r):
 dy Tryz.prog 30 [Ri a0] [] (fun z:Value=>(bI [.eq z],[.sl z 3 (.int .i64) r])):=by
 unfold gI at h
 replace h:=bo h
 refine dy.of 8 Tryz.func30 rfl Tryz.ntmps30 rfl fun S w0=>?_
 obtain⟨u1,c,h⟩:=aa h
 cases h
 refine sr ?_
 refine cq ?_
 refine nt ?_
 refine am ?_
 refine sr ?_
 refine mq ?_
 refine ay (Δ:=[]) (F:=_) (fun _ _ _=>ae rfl _) rfl rfl (IR rfl iC) ⟨rfl,rfl,trivial⟩ fun b=>?_
 refine nt ?_
 refine iW rfl (fun hb=>?_) (fun hb=>?_)
 ·
  refine sr (cq (nt (rx ?_)));obtain rfl:=b.2 hb;refine b8 (SE.nil 3 (.int .i64)) ?_;exact aM (.slice none 0 0) [.eq (.slice none 0 0)] 1 ⟨rfl,trivial⟩ rfl
 ·
  refine sk (sr (aZ rfl rfl rfl (mA (t:=(.int .i64)) [] [] rfl rfl dn .nil rfl rfl) trivial fun v1=>?_));refine mq ?_;refine dN rfl rfl rfl (cx rfl rfl dn (by simpa using ao c)) ⟨rfl,rfl,trivial⟩ fun v2=>?_;refine aq (nt (aC ?_));exact aM v2 [.eq v2] 1 ⟨rfl,trivial⟩ rfl
def eG(k:Nat)(a0:ai)(a1:(List (List Int))):Nat→Int→Option (Except Bool Unit)
 |0,_=>none
 |n+1,y5=>
  if y5 < (a1.length:Int) then((aX a1 y5).bind fun x7=>
  if¬((x7.length:Int)=a0.1) then(some (.error false)) else((ck (y5+1)).bind fun x8=>
  eG k a0 a1 n x8)) else(some (.ok ()))
def jl(k:Nat)(a0:ai)(a1:(List (List Int))):Option Bool:=
 (ck ((a0.2.2.2.2.1.length:Int)+1)).bind fun x2=>
 if¬((a1.length:Int)=x2) then(some false) else(bE (α:=Unit) (eG k a0 a1 k 0) (some) fun _=>
 some true)
theorem mP(k:Nat)(a0:ai)(a1:(List (List Int)))(r:Bool)(h:jl k a0 a1=some r):
 dy Tryz.prog 12 [.rep ab a0,.rep (.slice (.slice (.int .i64))) a1] [] (fun _:Unit=>(bI [.eq (.bool r)],[])):=by
 unfold jl at h
 replace h:=bo h
 refine dy.of 27 Tryz.func12 rfl Tryz.ntmps12 rfl fun S w0=>?_
 refine sr ?_
 refine bx fun b1=>?_
 refine cq ?_
 refine nt ?_
 refine am ?_
 refine sr ?_
 refine mq ?_
 refine ol sE ?_
 refine fl eL ?_
 refine lo lN ?_
 refine ol AQ ?_
 obtain⟨x2,l,h⟩:=aa h
 refine jb (bB rfl l) ?_
 refine jb (eR rfl) ?_
 refine nt ?_
 refine cn h (fun h=>?_) (fun h=>?_)
 ·
  refine sr (cq (nt (rx ?_)));cases h;exact ra
 ·
  refine sk (dx (Z:=Unit) (α:=Unit) (fun z4 x3=>[]) (fun z4 x3=>[]) (fun e=>e=r) h (fun e h=>Option.some.inj h) (fun K hR h=>?_) (fun z4 x3 h=>?_))
  ·refine sr (cq (nt (ak ?_)));refine aH (fun z6 y5=>[(1,.rep (.slice (.slice (.int .i64))) a1),(2,Pt b1),(5,I y5)]) (fun z6 y5=>[.obj b1 28 (.rep ab a0)]) (eG k a0 a1) k () 0 (fun _=>rfl) h (SE.fin [0] ⟨rfl,rfl,rfl,trivial⟩ rfl) (fun n z6 y5 h=>?_);unfold eG at h;refine am (sr ?_);iterate 2 refine mq ?_
   refine ol sE ?_;refine jb (bG rfl) ?_;refine nt (ci h (fun h=>?_) (fun h=>?_))
   ·refine sk (am (ak (am (cS ?_))));refine dm ?_;refine dm ?_;obtain⟨x7,j,h⟩:=aa h;refine db (be (t:=(.slice (.int .i64))) rfl sE iD j) ?_;refine da (av (t:=(.slice (.int .i64))) rfl iD rfl) ?_;refine da (vq rfl rfl iC) ?_;refine da (aN rfl eX) ?_;refine ea 0 (aD rfl bT pX rfl) ?_;refine df eF ?_;refine jb (eR rfl) ?_;refine nt (cn h (fun h=>?_) (fun h=>?_))
    ·refine sr (cq (nt (aC (br (bH (bF ?_))))));obtain rfl:=hR _ h;exact ra
    ·refine bh (aS (tn (ag (mq ?_))));obtain⟨x8,c,h⟩:=aa h;refine jb (bB rfl c) ?_;refine aq (nl ?_);exact jz ((),x8) h [0]
   ·refine xa ?_;exact jz ((),()) h []
  ·refine sr (cq (nt (aC ?_)));cases h;exact ra
def fp(k:Nat):Nat→((List Int)×Int×Int)→Option (List Int)
 |0,_=>none
 |n+1,y2=>
  if y2.2.1 < y2.2.2 then((aX y2.1 y2.2.2).bind fun x4=>
  (aX y2.1 y2.2.1).bind fun x5=>
  (aX y2.1 y2.2.1).bind fun x6=>
  (aX (List.set y2.1 (Int.toNat y2.2.1) x4) y2.2.2).bind fun x7=>
  (ck (y2.2.1+1)).bind fun x8=>
  (ck (y2.2.2 - 1)).bind fun x9=>
  fp k n (List.set (List.set y2.1 (Int.toNat y2.2.1) x4) (Int.toNat y2.2.2) x5,x8,x9)) else(some y2.1)
def jV(k:Nat)(a0:(List Int)):Option (List Int):=
 (ck ((a0.length:Int) - 1)).bind fun x1=>
 fp k k (a0,0,x1)
theorem po(k:Nat)(a0:(List Int))(c:Value)(r:(List Int))(h:jV k a0=some r):
 dy Tryz.prog 38 [.eq c] [.sl c 3 (.int .i64) a0] (fun _:Unit=>(bI [],[.sl c 3 (.int .i64) r])):=by
 unfold jV at h
 replace h:=bo h
 refine dy.of 28 Tryz.func38 rfl Tryz.ntmps38 rfl fun S w0=>?_
 refine sr ?_
 refine mq ?_
 refine ka (lZ rfl rfl iC) ?_
 obtain⟨x1,gw,h⟩:=aa h
 refine jb (ek rfl gw) ?_
 refine cq ?_
 refine aq ?_
 refine nt ?_
 refine ak ?_
 refine aH (fun z3 y2=>[(0,.eq c),(2,I y2.2.1),(3,I y2.2.2)]) (fun z3 y2=>[.sl c 3 (.int .i64) y2.1]) (fp k) k () (a0,0,x1) (fun _=>rfl) h (SE.fin [0] ⟨rfl,rfl,rfl,trivial⟩ rfl) (fun n z3 y2 h=>?_)
 unfold fp at h
 refine am ?_
 refine sr ?_
 iterate 2 refine mq ?_
 refine jb (bG rfl) ?_
 refine nt ?_
 refine ci h (fun h=>?_) (fun h=>?_)
 ·
  refine sk (am (ak (qV ?_)));refine cy rfl rfl rfl (bM rfl) ⟨rfl,trivial⟩ ?_;refine cy rfl rfl rfl (bM rfl) ⟨rfl,trivial⟩ ?_;refine cy rfl rfl rfl (bM rfl) ⟨rfl,trivial⟩ ?_;refine cy rfl rfl rfl (bM rfl) ⟨rfl,trivial⟩ ?_;refine cy rfl rfl rfl (bM rfl) ⟨rfl,trivial⟩ ?_;refine cy rfl rfl rfl (bM rfl) ⟨rfl,trivial⟩ ?_;obtain⟨x4,D,h⟩:=aa h;refine iY 0 rfl rfl rfl rfl (cz (t:=(.int .i64)) rfl iC bT D) ⟨rfl,rfl,trivial⟩ ?_;refine iY 0 rfl rfl rfl rfl (gh (i:=Int.toNat y2.2.2) (off:=0) rfl bT (fun _=>rfl) rfl (dr D).2.2 rfl) ⟨rfl,trivial⟩ ?_;refine cy rfl rfl rfl (bM rfl) ⟨rfl,trivial⟩ ?_;refine cy rfl rfl rfl (bM rfl) ⟨rfl,trivial⟩ ?_;obtain⟨x5,y,h⟩:=aa h;refine iY 0 rfl rfl rfl rfl (cz (t:=(.int .i64)) rfl iC bT y) ⟨rfl,rfl,trivial⟩ ?_;refine iY 0 rfl rfl rfl rfl (gh (i:=Int.toNat y2.2.1) (off:=0) rfl bT (fun _=>rfl) rfl (dr y).2.2 rfl) ⟨rfl,trivial⟩ ?_;obtain⟨x6,x,h⟩:=aa h;refine iY 0 rfl rfl rfl rfl (cz (t:=(.int .i64)) rfl iC bT x) ⟨rfl,rfl,trivial⟩ ?_;refine xt 13 [true,true,false,false,true,true,true,true,true,true,true,true,true] [27] [] [] rfl (by kernel_rfl) (by kernel_rfl) (by kernel_rfl) eF (fun vs hv hB=>?_);obtain⟨w0,SU,rfl,Y⟩:=aG hv;obtain⟨w1,SS,rfl,X⟩:=aG Y;obtain⟨w2,SR,rfl,U⟩:=aG X;obtain⟨w3,SQ,rfl,Q⟩:=aG U;obtain⟨w4,SO,rfl,O⟩:=aG Q;obtain⟨w5,SN,rfl,M⟩:=aG O;obtain⟨w6,SL,rfl,J⟩:=aG M;obtain⟨w7,SK,rfl,F⟩:=aG J;obtain⟨w8,SJ,rfl,E⟩:=aG F;obtain⟨w9,zz,rfl,s⟩:=aG E;obtain⟨SI,qt,rfl,l⟩:=aG s;obtain⟨SH,mw,rfl,j⟩:=aG l;obtain⟨SG,mc,rfl,e⟩:=aG j;obtain rfl:=s5 e;refine⟨[0],[.sl c 3 (.int .i64) y2.1],by kernel_rfl,by decide,?_⟩;refine sc rfl rfl (fY (i:=Int.toNat y2.2.1) rfl bT rfl (mQ x) rfl .int rfl) ⟨rfl,rfl,trivial⟩ (by kernel_rfl) ?_;obtain⟨x7,u,h⟩:=aa h;refine AV rfl rfl rfl rfl (cz (t:=(.int .i64)) rfl iC bT u) ⟨rfl,rfl,trivial⟩ (by kernel_rfl) ?_;refine sc rfl rfl (fY (i:=Int.toNat y2.2.2) rfl bT rfl (mQ u) rfl .int rfl) ⟨rfl,rfl,trivial⟩ (by kernel_rfl) ?_;refine xn ?_;refine b8 (SE.fin (Γ':=[(0,.eq c),(2,I y2.2.1),(3,I y2.2.2)]) (Δ':=[.sl c 3 (.int .i64) (List.set (List.set y2.1 (Int.toNat y2.2.1) x4) (Int.toNat y2.2.2) x5)]) [0] ⟨rfl,rfl,rfl,trivial⟩ rfl) ?_;refine aS (tn (ag (mq ?_)));obtain⟨x8,gq,h⟩:=aa h;refine jb (bB rfl gq) ?_;refine mq ?_;obtain⟨x9,Z,h⟩:=aa h;refine jb (ek rfl Z) ?_;refine aq ?_;refine aq (nl ?_);exact jz ((),(List.set (List.set y2.1 (Int.toNat y2.2.1) x4) (Int.toNat y2.2.2) x5,x8,x9)) h [0]
 ·
  refine fU (bO (bO (de (jT ?_))));cases h;exact aM () [] 1 trivial rfl
def gp{σ:Type}(k:Nat)(a0:Int)(a3:Int)(self:Int→Int→σ→Option (Bool×σ)):Nat→(Int×σ)→Option (Except (Bool×σ) (σ))
 |0,_=>none
 |n+1,y5=>
  if y5.1 < a3 then((fy k a0 y5.1).bind fun r7=>
  (ck (y5.1+1)).bind fun x8=>
  (self r7 x8 y5.2).bind fun r9=>
  if¬(r9.1=true) then(some (.error (false,r9.2))) else((ck (y5.1+1)).bind fun c=>
  gp k a0 a3 self n (c,r9.2))) else(some (.ok y5.2))
def gP{σ:Type}(k:Nat)(Y:σ→Int→Option (σ×Bool))(a3:Int):Nat→Int→Int→σ→Option (Bool×σ)
 |0,_,_,_=>none
 |m0+1,a0,a1,s0=>
  (Y s0 a0).bind fun r1=>
  if¬(r1.2=true) then(some (false,r1.1)) else(bE (α:=σ) (gp k a0 a3 (gP k Y a3 m0) k (a1,r1.1)) (some) fun x3=>
  some (true,x3))
theorem rJ{M:Md Tryz.prog}{σ Z:Type}(E:Z→σ→List D)(l:Nat)(Y:σ→Int→Option (σ×Bool))(k:Nat)(u:Nat)(a3:Int)(j:Nat)(c:Nat)(hY:∀z s p r,Y s p=some r→YT M l [.eq (.int .u8 p)] (E z s) (fun z':Z=>(.eq (.bool r.2),E z' r.1))):
 ∀(n:Nat) (a0:Int) (a1:Int) (z0:Z) (s0:σ) (r:Bool×σ),gP k Y a3 n a0 a1 s0=some r→bX M 78 [.eq (.int .u8 a0),I a1,Pt u,Pt j,Pt c] ([.obj u 118 (.eq (.func (.yield l) #[] #[])),.obj j 3 (I a3),.obj c 117 (.eq (.func (.func 78) #[] #[(Pv u),(Pv j),(Pv c)]))]++E z0 s0) (fun z:Z=>(bI [.eq (.bool r.1)],[.obj u 118 (.eq (.func (.yield l) #[] #[])),.obj j 3 (I a3),.obj c 117 (.eq (.func (.func 78) #[] #[(Pv u),(Pv j),(Pv c)]))]++E z r.2)):=by
 intro n
 induction n with
 |zero=>intro a0 a1 z0 s0 r h;cases h
 |succ m0 ih=>
  intro a0 a1 z0 s0 r h;rw [gP] at h;replace h:=bo h;refine bX.of 27 Tryz.func78 rfl Tryz.ntmps78 rfl fun S w0=>?_;refine sr (cq (nt (am (sr ?_))));refine lo Og ?_;refine mq ?_;obtain⟨r1,U,h⟩:=aa h;refine fr 2 ?_;refine fr 2 ?_;refine fr 2 ?_;refine HD [.obj u 118 (.eq (.func (.yield l) #[] #[])),.obj j 3 (I a3),.obj c 117 (.eq (.func (.func 78) #[] #[(Pv u),(Pv j),(Pv c)]))] rfl rfl rfl (IK [.tmp 10] rfl rfl rfl (hY z0 s0 a0 r1 U)) ⟨rfl,rfl,trivial⟩ fun z2=>?_;refine ja (gJ rfl) ?_;refine nt (cw h (fun h=>?_) (fun h=>?_))
  ·refine sr (cq (nt (rx ?_)));cases h;exact tc z2 [_] ⟨rfl,trivial⟩ rfl
  ·refine sk (dx (Z:=Z) (α:=σ) (fun z4 x3=>[]) (fun z4 x3=>[.obj u 118 (.eq (.func (.yield l) #[] #[])),.obj j 3 (I a3),.obj c 117 (.eq (.func (.func 78) #[] #[(Pv u),(Pv j),(Pv c)]))]++E z4 x3) (fun e=>e=r) h (fun e h=>Option.some.inj h) (fun K hR h=>?_) (fun z4 x3 h=>?_))
   ·refine sr (mq ?_);refine aq (nt (ak ?_));refine aH (Z:=Z) (α:=Int×σ) (fun z6 y5=>[(0,.eq (.int .u8 a0)),(3,Pt j),(4,Pt c),(8,I y5.1)]) (fun z6 y5=>[.obj j 3 (I a3),.obj c 117 (.eq (.func (.func 78) #[] #[(Pv u),(Pv j),(Pv c)])),.obj u 118 (.eq (.func (.yield l) #[] #[]))]++E z6 y5.2) (gp k a0 a3 (gP k Y a3 m0)) k z2 (a1,r1.1) (fun _=>rfl) h (kw [.obj u 118 (.eq (.func (.yield l) #[] #[])),.obj j 3 (I a3),.obj c 117 (.eq (.func (.func 78) #[] #[(Pv u),(Pv j),(Pv c)]))] (E z2 r1.1) [1,2,0] ⟨rfl,rfl,rfl,rfl,trivial⟩ rfl) (fun n z6 y5 h=>?_);unfold gp at h;refine am (sr (mq ?_));refine lo bT ?_;refine jb (bG rfl) ?_;refine nt (ci h (fun h=>?_) (fun h=>?_))
    ·refine sk (am (ak (am (cS ?_))));refine ea 1 (aD rfl EY pX rfl) ?_;refine dm ?_;refine dm ?_;obtain⟨r7,Q,h⟩:=aa h;refine db (ax [.tmp 20,.tmp 21] rfl rfl M4 rfl (jZ k a0 y5.1 r7 Q)) ?_;refine dm ?_;obtain⟨x8,J,h⟩:=aa h;refine db (bB rfl J) ?_;refine df eF ?_;obtain⟨r9,O,h⟩:=aa h;refine fr 1 ?_;refine fr 1 ?_;refine fr 2 ?_;refine zk rfl rfl rfl (qx (fs:=[]) (cs:=[(Pv u),(Pv j),(Pv c)]) (ags:=[.eq (.int .u8 r7),I x8]) [.tmp 22,.tmp 24] rfl rfl O3 rfl (ih r7 x8 z6 y5.2 r9 O)) ⟨rfl,rfl,rfl,trivial⟩ fun x=>?_;refine ja (gJ rfl) ?_;refine nt (cw h (fun h=>?_) (fun h=>?_))
     ·refine sr (cq (nt (aC (br (bH (bF ?_))))));obtain rfl:=hR _ h;exact tc x [_] ⟨rfl,trivial⟩ rfl
     ·refine bh (aS (tn (ag (mq ?_))));obtain⟨F,y,h⟩:=aa h;refine jb (bB rfl y) ?_;refine aq (nl ?_);exact uw (x,(F,r9.2)) h (kw [.obj u 118 (.eq (.func (.yield l) #[] #[])),.obj j 3 (I a3),.obj c 117 (.eq (.func (.func 78) #[] #[(Pv u),(Pv j),(Pv c)]))] (E x r9.2) [1,2,0] ⟨rfl,rfl,rfl,rfl,trivial⟩ rfl)
    ·refine xa ?_;exact uw (z6,y5.2) h (kw [.obj j 3 (I a3),.obj c 117 (.eq (.func (.func 78) #[] #[(Pv u),(Pv j),(Pv c)])),.obj u 118 (.eq (.func (.yield l) #[] #[]))] (E z6 y5.2) [2,0,1] trivial rfl)
   ·refine sr (cq (nt (aC ?_)));cases h;exact tc z4 [_] ⟨rfl,trivial⟩ rfl
def jI{σ:Type}(k:Nat)(Y:σ→Int→Option (σ×Bool))(a1:Int)(s0:σ):Option (σ):=
 (gP k Y a1 k 0 0 s0).bind fun r3=>
 some r3.2
theorem kV{M:Md Tryz.prog}{σ Z:Type}(E:Z→σ→List D)(l:Nat)(Y:σ→Int→Option (σ×Bool))(k:Nat)(a1:Int)(c:Nat)(hY:∀z s p r,Y s p=some r→YT M l [.eq (.int .u8 p)] (E z s) (fun z':Z=>(.eq (.bool r.2),E z' r.1))):
 ∀(z0:Z) (s0:σ) (r:σ),jI k Y a1 s0=some r→bX M 77 [.eq (.func (.yield l) #[] #[]),Pt c] ([.obj c 3 (I a1)]++E z0 s0) (fun z:Z=>(bI [],[.obj c 3 (I a1)]++E z r)):=by
 intro z0 s0 r h
 unfold jI at h
 replace h:=bo h
 refine bX.of 7 Tryz.func77 rfl Tryz.ntmps77 rfl fun S w0=>?_
 refine sr ?_
 refine bx fun b1=>?_
 refine nt ?_
 refine sr ?_
 refine aZ rfl rfl rfl (bu rfl N4 PK) trivial fun b2=>?_
 refine nt ?_
 refine sr ?_
 refine jc (pw [] [.tmp 2,.tmp 1,.tmp 3] [] [(Pv b1),(Pv c),(Pv b2)] rfl rfl rfl) ?_
 refine aU rfl rfl (aR rfl EY rfl rfl rfl) ⟨rfl,rfl,trivial⟩ ?_
 refine nt ?_
 refine ag ?_
 refine lo EY ?_
 obtain⟨r3,e,h⟩:=aa h
 have j:=rJ E l Y k b1 a1 c b2 hY k 0 0 z0 s0 r3 e
 refine fr 2 ?_
 refine fr 2 ?_
 refine zk rfl rfl rfl (qx (fs:=[]) (cs:=[(Pv b1),(Pv c),(Pv b2)]) (ags:=[.eq (.int .u8 0),I 0]) [.const (.int .u8 (0)),.const (.int .i64 (0))] rfl rfl O3 rfl j) ⟨rfl,rfl,rfl,trivial⟩ fun z4=>?_
 refine aE ?_
 refine jT ?_
 refine b8 (kw (Γ':=[]) [.obj b1 118 (.eq (.func (.yield l) #[] #[])),.obj c 3 (I a1),.obj b2 117 (.eq (.func (.func 78) #[] #[(Pv b1),(Pv c),(Pv b2)]))] (E z4 r3.2) [1] trivial rfl) ?_
 cases h
 exact tc z4 [] trivial rfl
theorem mI(a0:Int):dy Tryz.prog 58 [I a0] [] (fun z:Nat=>(bI [.eq (.func (.func 77) #[] #[(Pv z)])],[.obj z 3 (I a0)])):=by
 refine dy.of 4 Tryz.func58 rfl Tryz.ntmps58 rfl fun S w0=>?_;refine sr (bx fun z=>?_);refine cq (nt (sr ?_));refine ja (pw [] [.tmp 1] [] [(Pv z)] rfl rfl rfl) ?_;refine aq (nt (aC ?_));exact aM z [_] 1 ⟨rfl,trivial⟩ rfl
def g9(k:Nat)(a0:Int):Nat→((List Int)×Int)→Option (List Int)
 |0,_=>none
 |n+1,y3=>
  if y3.2 < 5 then((((eu k a0 y3.2).bind fun r7=>
  if r7=true then((cJ (cu (List.length y3.1+List.length [y3.2]))).bind fun _=>
  some (y3.1++[y3.2])) else(some y3.1)):Option ((List Int))).bind fun x5=>
  (ck (y3.2+1)).bind fun c=>
  g9 k a0 n (x5,c)) else(some y3.1)
def gi(k:Nat)(a0:Int):Option (List Int):=
 ((g9 k a0 k (([]:(List Int)),0)):Option ((List Int))).bind fun x1=>
 some x1
theorem g7(k:Nat)(a0:Int)(r:(List Int))(h:gi k a0=some r):
 dy Tryz.prog 41 [.eq (.int .u8 a0)] [] (fun _:Unit=>(bI [Ri r],[])):=by
 unfold gi at h
 replace h:=bo h
 refine dy.of 17 Tryz.func41 rfl Tryz.ntmps41 rfl fun S w0=>?_
 refine sr ?_
 refine cq ?_
 refine nt ?_
 refine sr ?_
 refine cq ?_
 refine nt ?_
 refine aJ (Z:=Value) (α:=(List Int)) (fun z2 x1=>[(3,.eq z2)]) (fun z2 x1=>[.sl z2 3 (.int .i64) x1]) h (fun K h=>?_) (fun z2 x1 h=>?_)
 ·
  refine sr (dT rfl ?_);refine nt (ak (gX (SE.nil 3 (.int .i64)) ?_));refine aH (fun z4 y3=>[(0,.eq (.int .u8 a0)),(3,.eq z4),(5,I y3.2)]) (fun z4 y3=>[.sl z4 3 (.int .i64) y3.1]) (g9 k a0) k (.slice none 0 0) (([]:(List Int)),0) (fun _=>rfl) h (SE.fin [0] ⟨rfl,rfl,rfl,trivial⟩ rfl) (fun n z4 y3 h=>?_);unfold g9 at h;refine sr (jb (bG rfl) ?_);refine nt (am (ci h (fun h=>?_) (fun h=>?_)))
  ·refine sk (aJ (Z:=Value) (α:=(List Int)) (fun z6 x5=>[(0,.eq (.int .u8 a0)),(3,.eq z6),(5,I y3.2)]) (fun z6 x5=>[.sl z6 3 (.int .i64) x5]) h (fun K h=>?_) (fun z6 x5 h=>?_))
   ·refine ak (sr (mq ?_));refine aq (nt (sr ?_));iterate 2 refine mq ?_
    obtain⟨r7,l,h⟩:=aa h;refine jb (ax [.tmp 8,.tmp 9] rfl rfl GY rfl (f7 k a0 y3.2 r7 l)) ?_;refine nt (cv h (fun h=>?_) (fun h=>?_))
    ·refine ag ?_;iterate 2 refine mq ?_
     refine ja (bf (t:=(.int .i64)) [(.tmp 12,_)] [y3.2] rfl rfl dn (.cons rfl .int .nil) rfl rfl) ?_;obtain⟨u8,j,h⟩:=aa h;refine dN rfl rfl rfl (cx rfl rfl dn (ao j)) ⟨rfl,rfl,trivial⟩ fun v9=>?_;refine aq (aE (bn ?_));exact jz (v9,y3.1++[y3.2]) h [0]
    ·refine bh (bn ?_);exact jz (z4,y3.1) h [0]
   ·refine ag ?_;obtain⟨e,c,h⟩:=aa h;refine jb (bB rfl c) ?_;refine mq (nl ?_);exact jz (z6,(x5,e)) h [0]
  ·refine xa ?_;exact jz (z4,y3.1) h [0]
 ·
  refine sr (mq ?_);refine aq (nt (aC ?_));refine b8 (iV [2,3,16] ⟨rfl,rfl,rfl,trivial⟩) ?_;cases h;exact ra
def iF(k:Nat)(a0:(List Int)):Nat→(Int×Int)→Option Int
 |0,_=>none
 |n+1,y4=>
  if y4.2 < (a0.length:Int) then((aX a0 y4.2).bind fun x6=>
  (ck (y4.2+1)).bind fun x7=>
  iF k a0 n (GA y4.1 x6,x7)) else(some y4.1)
def im(k:Nat)(a0:(List Int)):Option Int:=
 if(a0.length:Int) < 1 then(none) else((aX a0 0).bind fun x1=>
 ((iF k a0 k (x1,1)):Option (Int)).bind fun x2=>
 some x2)
theorem iE(k:Nat)(a0:(List Int))(r:Int)(h:im k a0=some r):
 dy Tryz.prog 44 [Ri a0] [] (fun _:Unit=>(bI [I r],[])):=by
 unfold im at h
 replace h:=bo h
 refine dy.of 25 Tryz.func44 rfl Tryz.ntmps44 rfl fun S w0=>?_
 refine sr ?_
 refine cq ?_
 refine nt ?_
 refine am ?_
 refine sr ?_
 refine mq ?_
 refine ol iC ?_
 refine jb (bG rfl) ?_
 refine nt ?_
 refine ci h (fun h=>?_) (fun h=>?_)
 ·
  cases h
 ·
  refine sk (sr (mq ?_));obtain⟨x1,j,h⟩:=aa h;refine jb (be (t:=(.int .i64)) rfl iC bT j) ?_;refine ja (av (t:=(.int .i64)) rfl bT rfl) ?_;refine aq (nt ?_);refine aJ (Z:=Unit) (α:=Int) (fun z3 x2=>[(3,I x2)]) (fun z3 x2=>[]) h (fun K h=>?_) (fun z3 x2 h=>?_)
  ·refine sr (cq (nt (ak ?_)));refine aH (fun z5 y4=>[(0,Ri a0),(3,I y4.1),(4,I y4.2)]) (fun z5 y4=>[]) (iF k a0) k () (x1,1) (fun _=>rfl) h (SE.fin [] ⟨rfl,rfl,rfl,trivial⟩ rfl) (fun n z5 y4 h=>?_);unfold iF at h;refine am (sr ?_);iterate 2 refine mq ?_
   refine ol iC ?_;refine jb (bG rfl) ?_;refine nt (ci h (fun h=>?_) (fun h=>?_))
   ·refine sk (am (ak (ag ?_)));iterate 3 refine mq ?_
    obtain⟨x6,e,h⟩:=aa h;refine jb (be (t:=(.int .i64)) rfl iC bT e) ?_;refine ja (av (t:=(.int .i64)) rfl bT rfl) ?_;refine jb (Ox rfl rfl) ?_;refine aq (aE (aS (tn (ag ?_))));refine mq ?_;obtain⟨x7,c,h⟩:=aa h;refine jb (bB rfl c) ?_;refine aq (nl ?_);exact jz ((),(GA y4.1 x6,x7)) h []
   ·refine xa ?_;exact jz ((),y4.1) h []
  ·refine sr (mq ?_);refine aq (nt (aC ?_));cases h;exact ra
def kW(k:Nat)(a0:Int)(a1:Int)(a2:Bool):Option cE:=
 some (a0,a1,a2)
theorem lO(k:Nat)(a0:Int)(a1:Int)(a2:Bool)(r:cE)(h:kW k a0 a1 a2=some r):
 dy Tryz.prog 17 [I a0,I a1,.eq (.bool a2)] [] (fun _:Unit=>(bI [.rep bP r],[])):=by
 unfold kW at h
 replace h:=bo h
 refine dy.of 11 Tryz.func17 rfl Tryz.ntmps17 rfl fun S w0=>?_
 refine sr ?_
 refine aZ rfl rfl rfl (bu rfl H5 Nv) trivial fun b1=>?_
 refine nt ?_
 refine sr ?_
 iterate 3 refine mq ?_
 refine jc (dC [(0,.tmp 7,_),(1,.tmp 8,_),(2,.tmp 9,_)] rfl Qn H5 PE (i8 ⟨rfl,rfl,rfl,trivial⟩) rfl) ?_
 refine aU rfl rfl (aR rfl wj trivial rfl rfl) ⟨rfl,rfl,trivial⟩ ?_
 refine nt ?_
 refine aC ?_
 refine b8 (ic (a:=.agg (.pair (I a0) (.pair (I a1) (.eq (.bool a2))))) (a':=.rep bP (a0,a1,a2)) (og (.agg (.pair .int (.pair .int .bool))))) ?_
 cases h
 exact aM () [.rep bP (a0,a1,a2)] 0 ⟨⟨_,_,_,_,_,rfl,(.head _),wj,(qD),rfl⟩,trivial⟩ rfl
def ir(k:Nat)(a0:(List cE)):Option ai:=
 (kW k 1 2 true).bind fun r2=>
 (kW k 2 1 false).bind fun r3=>
 (kW k 3 3 false).bind fun r4=>
 (cJ (cu (List.length [r2,r3,r4]+List.length a0))).bind fun _=>
 some (4,1,1,2,[[[0,1,2],[3]],[[0,1],[2,3]],[[1,2,3]],[[1,3],[2]]],[r2,r3,r4]++a0)
theorem gr(k:Nat)(a0:(List cE))(r:ai)(h:ir k a0=some r):
 dy Tryz.prog 31 [Rs bP a0] [] (fun _:Unit=>(bI [.rep ab r],[])):=by
 unfold ir at h
 replace h:=bo h
 refine dy.of 24 Tryz.func31 rfl Tryz.ntmps31 rfl fun S w0=>?_
 refine sr ?_
 refine aZ rfl rfl rfl (bu rfl CS J1) trivial fun b1=>?_
 refine nt ?_
 refine sr ?_
 obtain⟨r2,l,h⟩:=aa h
 have u:=lO k 1 2 true r2 l
 refine jc (ax [.const (.int .i64 (1)),.const (.int .i64 (2)),.const (.bool true)] rfl rfl M9 rfl u) ?_
 obtain⟨r3,j,h⟩:=aa h
 have s:=lO k 2 1 false r3 j
 refine jc (ax [.const (.int .i64 (2)),.const (.int .i64 (1)),.const (.bool false)] rfl rfl M9 rfl s) ?_
 obtain⟨r4,e,h⟩:=aa h
 have n:=lO k 3 3 false r4 e
 refine jc (ax [.const (.int .i64 (3)),.const (.int .i64 (3)),.const (.bool false)] rfl rfl M9 rfl n) ?_
 refine aZ rfl rfl rfl (mA (t:=bP) [(.tmp 4,_),(.tmp 5,_),(.tmp 6,_)] [r2,r3,r4] rfl rfl Oi (.cons rfl .rep (.cons rfl .rep (.cons rfl .rep .nil))) rfl rfl) ⟨rfl,rfl,rfl,trivial⟩ fun v5=>?_
 refine aq ?_
 refine nt ?_
 refine sr ?_
 refine jc (bf (t:=(.int .i64)) [(.const (.int .i64 (0)),_),(.const (.int .i64 (1)),_),(.const (.int .i64 (2)),_)] [0,1,2] rfl rfl dn (.cons rfl .int (.cons rfl .int (.cons rfl .int .nil))) rfl rfl) ?_
 refine ja (bf (t:=(.int .i64)) [(.const (.int .i64 (3)),_)] [3] rfl rfl dn (.cons rfl .int .nil) rfl rfl) ?_
 refine jb (bf (t:=(.slice (.int .i64))) [(.tmp 8,_),(.tmp 9,_)] [[0,1,2],[3]] rfl rfl oQ (.cons rfl .rep (.cons rfl .rep .nil)) rfl rfl) ?_
 refine jb (bf (t:=(.int .i64)) [(.const (.int .i64 (0)),_),(.const (.int .i64 (1)),_)] [0,1] rfl rfl dn (.cons rfl .int (.cons rfl .int .nil)) rfl rfl) ?_
 refine jb (bf (t:=(.int .i64)) [(.const (.int .i64 (2)),_),(.const (.int .i64 (3)),_)] [2,3] rfl rfl dn (.cons rfl .int (.cons rfl .int .nil)) rfl rfl) ?_
 refine jb (bf (t:=(.slice (.int .i64))) [(.tmp 11,_),(.tmp 12,_)] [[0,1],[2,3]] rfl rfl oQ (.cons rfl .rep (.cons rfl .rep .nil)) rfl rfl) ?_
 refine jc (bf (t:=(.int .i64)) [(.const (.int .i64 (1)),_),(.const (.int .i64 (2)),_),(.const (.int .i64 (3)),_)] [1,2,3] rfl rfl dn (.cons rfl .int (.cons rfl .int (.cons rfl .int .nil))) rfl rfl) ?_
 refine ja (bf (t:=(.slice (.int .i64))) [(.tmp 14,_)] [[1,2,3]] rfl rfl oQ (.cons rfl .rep .nil) rfl rfl) ?_
 refine jb (bf (t:=(.int .i64)) [(.const (.int .i64 (1)),_),(.const (.int .i64 (3)),_)] [1,3] rfl rfl dn (.cons rfl .int (.cons rfl .int .nil)) rfl rfl) ?_
 refine ja (bf (t:=(.int .i64)) [(.const (.int .i64 (2)),_)] [2] rfl rfl dn (.cons rfl .int .nil) rfl rfl) ?_
 refine jb (bf (t:=(.slice (.int .i64))) [(.tmp 16,_),(.tmp 17,_)] [[1,3],[2]] rfl rfl oQ (.cons rfl .rep (.cons rfl .rep .nil)) rfl rfl) ?_
 refine bU rfl (bf (t:=(.slice (.slice (.int .i64)))) [(.tmp 10,_),(.tmp 13,_),(.tmp 15,_),(.tmp 18,_)] [[[0,1,2],[3]],[[0,1],[2,3]],[[1,2,3]],[[1,3],[2]]] rfl rfl zN (.cons rfl .rep (.cons rfl .rep (.cons rfl .rep (.cons rfl .rep .nil)))) rfl rfl) ⟨rfl,rfl,rfl,rfl,trivial⟩ ?_
 iterate 2 refine mq ?_
 obtain⟨u6,c,h⟩:=aa h
 refine dN rfl rfl rfl (cx rfl rfl Oi (ao c)) ⟨rfl,rfl,trivial⟩ fun v7=>?_
 refine dX (iV [22] ⟨rfl,trivial⟩) ?_
 refine bU rfl (dC [(0,.const (.int .i64 (4)),_),(1,.const (.int .i64 (1)),_),(2,.const (.int .i64 (1)),_),(3,.const (.int .i64 (2)),_),(4,.tmp 19,_),(5,.tmp 22,_)] rfl On CS K7 (i8 ⟨rfl,rfl,rfl,rfl,rfl,rfl,trivial⟩) rfl) ⟨rfl,rfl,rfl,rfl,rfl,rfl,trivial⟩ ?_
 refine aU rfl rfl (aR rfl iZ trivial rfl rfl) ⟨rfl,rfl,trivial⟩ ?_
 refine nt ?_
 refine aC ?_
 refine b8 (ic (a:=.agg (.pair (I 4) (.pair (I 1) (.pair (I 1) (.pair (I 2) (.pair (.rep (.slice (.slice (.slice (.int .i64)))) [[[0,1,2],[3]],[[0,1],[2,3]],[[1,2,3]],[[1,3],[2]]]) (Rs bP ([r2,r3,r4]++a0)))))))) (a':=.rep ab (4,1,1,2,[[[0,1,2],[3]],[[0,1],[2,3]],[[1,2,3]],[[1,3],[2]]],[r2,r3,r4]++a0)) (og (.agg (.pair .int (.pair .int (.pair .int (.pair .int (.pair .rep .rep)))))))) ?_
 cases h
 exact aM () [.rep ab (4,1,1,2,[[[0,1,2],[3]],[[0,1],[2,3]],[[1,2,3]],[[1,3],[2]]],[r2,r3,r4]++a0)] 0 ⟨⟨_,_,_,_,_,rfl,(.head _),iZ,(qD),rfl⟩,trivial⟩ rfl
def iG(k:Nat)(a0:(List Int)):Nat→(Int×Int)→Option Int
 |0,_=>none
 |n+1,y4=>
  if y4.2 < (a0.length:Int) then((aX a0 y4.2).bind fun x6=>
  (ck (y4.2+1)).bind fun x7=>
  iG k a0 n (j8 y4.1 x6,x7)) else(some y4.1)
def lx(k:Nat)(a0:(List Int)):Option Int:=
 if(a0.length:Int) < 1 then(none) else((aX a0 0).bind fun x1=>
 ((iG k a0 k (x1,1)):Option (Int)).bind fun x2=>
 some x2)
theorem nD(k:Nat)(a0:(List Int))(r:Int)(h:lx k a0=some r):
 dy Tryz.prog 57 [Ri a0] [] (fun _:Unit=>(bI [I r],[])):=by
 unfold lx at h
 replace h:=bo h
 refine dy.of 25 Tryz.func57 rfl Tryz.ntmps57 rfl fun S w0=>?_
 refine sr ?_
 refine cq ?_
 refine nt ?_
 refine am ?_
 refine sr ?_
 refine mq ?_
 refine ol iC ?_
 refine jb (bG rfl) ?_
 refine nt ?_
 refine ci h (fun h=>?_) (fun h=>?_)
 ·
  cases h
 ·
  refine sk (sr (mq ?_));obtain⟨x1,j,h⟩:=aa h;refine jb (be (t:=(.int .i64)) rfl iC bT j) ?_;refine ja (av (t:=(.int .i64)) rfl bT rfl) ?_;refine aq (nt ?_);refine aJ (Z:=Unit) (α:=Int) (fun z3 x2=>[(3,I x2)]) (fun z3 x2=>[]) h (fun K h=>?_) (fun z3 x2 h=>?_)
  ·refine sr (cq (nt (ak ?_)));refine aH (fun z5 y4=>[(0,Ri a0),(3,I y4.1),(4,I y4.2)]) (fun z5 y4=>[]) (iG k a0) k () (x1,1) (fun _=>rfl) h (SE.fin [] ⟨rfl,rfl,rfl,trivial⟩ rfl) (fun n z5 y4 h=>?_);unfold iG at h;refine am (sr ?_);iterate 2 refine mq ?_
   refine ol iC ?_;refine jb (bG rfl) ?_;refine nt (ci h (fun h=>?_) (fun h=>?_))
   ·refine sk (am (ak (ag ?_)));iterate 3 refine mq ?_
    obtain⟨x6,e,h⟩:=aa h;refine jb (be (t:=(.int .i64)) rfl iC bT e) ?_;refine ja (av (t:=(.int .i64)) rfl bT rfl) ?_;refine jb (yj rfl rfl) ?_;refine aq (aE (aS (tn (ag ?_))));refine mq ?_;obtain⟨x7,c,h⟩:=aa h;refine jb (bB rfl c) ?_;refine aq (nl ?_);exact jz ((),(j8 y4.1 x6,x7)) h []
   ·refine xa ?_;exact jz ((),y4.1) h []
  ·refine sr (mq ?_);refine aq (nt (aC ?_));cases h;exact ra
def kl(k:Nat)(a0:Int):Option Int:=
 (gi k a0).bind fun r1=>
 some (r1.length:Int)
theorem ng(k:Nat)(a0:Int)(r:Int)(h:kl k a0=some r):
 dy Tryz.prog 64 [.eq (.int .u8 a0)] [] (fun _:Unit=>(bI [I r],[])):=by
 unfold kl at h
 replace h:=bo h
 refine dy.of 6 Tryz.func64 rfl Tryz.ntmps64 rfl fun S w0=>?_
 refine sr ?_
 refine cq ?_
 refine nt ?_
 refine sr ?_
 refine mq ?_
 obtain⟨r1,c,h⟩:=aa h
 have e:=g7 k a0 r1 c
 refine ja (ax [.tmp 3] rfl rfl JA rfl e) ?_
 refine ol iC ?_
 refine aq ?_
 refine nt ?_
 refine aC ?_
 cases h
 exact ra
def mK(k:Nat)(a0:Int)(a1:Int):Option Int:=
 (kl k a0).bind fun r1=>
 (kl k a1).bind fun r2=>
 (ck (r1 - r2)).bind fun x3=>
 some x3
theorem sM(k:Nat)(a0:Int)(a1:Int)(c:Nat)(r:Int)(h:mK k a0 a1=some r):
 dy Tryz.prog 81 [.eq (.int .u8 a0),.eq (.int .u8 a1),Pt c] [.obj c 121 (.eq (.func (.func 64) #[] #[]))] (fun _:Unit=>(bI [I r],[.obj c 121 (.eq (.func (.func 64) #[] #[]))])):=by
 unfold mK at h
 replace h:=bo h
 refine dy.of 13 Tryz.func81 rfl Tryz.ntmps81 rfl fun S w0=>?_
 refine sr ?_
 refine cq ?_
 refine nt ?_
 refine am ?_
 refine cS ?_
 refine ea 0 (aD rfl KV pX rfl) ?_
 refine dm ?_
 obtain⟨r1,l,h⟩:=aa h
 have s:=ng k a0 r1 l
 refine db (sY (fs:=[]) (cs:=[]) (ags:=[.eq (.int .u8 a0)]) [.tmp 7] rfl rfl O5 rfl s) ?_
 refine ea 0 (aD rfl KV pX rfl) ?_
 refine dm ?_
 refine df eF ?_
 obtain⟨r2,j,h⟩:=aa h
 have n:=ng k a1 r2 j
 refine jb (sY (fs:=[]) (cs:=[]) (ags:=[.eq (.int .u8 a1)]) [.tmp 10] rfl rfl O5 rfl n) ?_
 obtain⟨x3,e,h⟩:=aa h
 refine jb (ek rfl e) ?_
 refine aq ?_
 refine nt ?_
 refine aC ?_
 cases h
 exact aM () [_] 1 ⟨rfl,trivial⟩ rfl
def fq(k:Nat)(a0:(List Int)):Nat→(Int×Int)→Option Int
 |0,_=>none
 |n+1,y4=>
  if y4.2 < (a0.length:Int) then((((aX a0 y4.2).bind fun x8=>
  (mK k x8 y4.1).bind fun r9=>
  if r9 < 0 then((aX a0 y4.2).bind fun e=>
  some e) else(some y4.1)):Option (Int)).bind fun x6=>
  (ck (y4.2+1)).bind fun c=>
  fq k a0 n (x6,c)) else(some y4.1)
def jW(k:Nat)(a0:(List Int)):Option Int:=
 if(a0.length:Int) < 1 then(none) else((aX a0 0).bind fun x1=>
 ((fq k a0 k (x1,1)):Option (Int)).bind fun x2=>
 some x2)
theorem pq(k:Nat)(a0:(List Int))(c_a1_0:Nat)(r:Int)(h:jW k a0=some r):
 dy Tryz.prog 80 [.rep (.slice (.int .u8)) a0,.eq (.func (.func 81) #[] #[(Pv c_a1_0)])] [.obj c_a1_0 121 (.eq (.func (.func 64) #[] #[]))] (fun _:Unit=>(bI [.eq (.int .u8 r)],[.obj c_a1_0 121 (.eq (.func (.func 64) #[] #[]))])):=by
 unfold jW at h
 replace h:=bo h
 refine dy.of 33 Tryz.func80 rfl Tryz.ntmps80 rfl fun S w0=>?_
 refine sr ?_
 refine cq ?_
 refine nt ?_
 refine am ?_
 refine sr ?_
 refine mq ?_
 refine ol vS ?_
 refine jb (bG rfl) ?_
 refine nt ?_
 refine ci h (fun h=>?_) (fun h=>?_)
 ·
  cases h
 ·
  refine sk (sr (mq ?_));obtain⟨x1,u,h⟩:=aa h;refine jb (be (t:=(.int .u8)) rfl vS pg u) ?_;refine ja (av (t:=(.int .u8)) rfl pg rfl) ?_;refine aq (nt ?_);refine aJ (Z:=Unit) (α:=Int) (fun z3 x2=>[(5,.eq (.int .u8 x2))]) (fun z3 x2=>[.obj c_a1_0 121 (.eq (.func (.func 64) #[] #[]))]) h (fun K h=>?_) (fun z3 x2 h=>?_)
  ·refine sr (cq (nt (ak ?_)));refine aH (fun z5 y4=>[(0,.rep (.slice (.int .u8)) a0),(1,.eq (.func (.func 81) #[] #[(Pv c_a1_0)])),(5,.eq (.int .u8 y4.1)),(6,I y4.2)]) (fun z5 y4=>[.obj c_a1_0 121 (.eq (.func (.func 64) #[] #[]))]) (fq k a0) k () (x1,1) (fun _=>rfl) h (SE.fin [0] ⟨rfl,rfl,rfl,rfl,trivial⟩ rfl) (fun n z5 y4 h=>?_);unfold fq at h;refine am (sr ?_);iterate 2 refine mq ?_
   refine ol vS ?_;refine jb (bG rfl) ?_;refine nt (ci h (fun h=>?_) (fun h=>?_))
   ·refine sk (aJ (Z:=Unit) (α:=Int) (fun z7 x6=>[(0,.rep (.slice (.int .u8)) a0),(1,.eq (.func (.func 81) #[] #[(Pv c_a1_0)])),(5,.eq (.int .u8 x6)),(6,I y4.2)]) (fun z7 x6=>[.obj c_a1_0 121 (.eq (.func (.func 64) #[] #[]))]) h (fun K h=>?_) (fun z7 x6 h=>?_))
    ·refine ak (sr ?_);iterate 3 refine mq ?_
     obtain⟨x8,s,h⟩:=aa h;refine jb (be (t:=(.int .u8)) rfl vS pg s) ?_;refine ja (av (t:=(.int .u8)) rfl pg rfl) ?_;refine mq ?_;obtain⟨r9,x,h⟩:=aa h;refine kc (sY (fs:=[]) (cs:=[(Pv c_a1_0)]) (ags:=[.eq (.int .u8 x8),.eq (.int .u8 y4.1)]) [.tmp 24,.tmp 25] rfl rfl QP rfl (sM k x8 y4.1 c_a1_0 r9 x)) ?_;refine jb (bG rfl) ?_;refine nt (ci h (fun h=>?_) (fun h=>?_))
     ·refine ag ?_;iterate 2 refine mq ?_
      obtain⟨l,e,h⟩:=aa h;refine jb (be (t:=(.int .u8)) rfl vS pg e) ?_;refine ja (av (t:=(.int .u8)) rfl pg rfl) ?_;refine aq (aE (bn ?_));exact jz ((),l) h [0]
     ·refine bh (bn ?_);exact jz ((),y4.1) h [0]
    ·refine ag (mq ?_);obtain⟨j,c,h⟩:=aa h;refine jb (bB rfl c) ?_;refine aq (nl ?_);exact jz ((),(x6,j)) h [0]
   ·refine xa ?_;exact jz ((),y4.1) h [0]
  ·refine sr (mq ?_);refine aq (nt (aC ?_));cases h;exact aM () [_] 1 ⟨rfl,trivial⟩ rfl
def mL(k:Nat)(a0:(List Int)):Option Int:=
 (jW k a0).bind fun r2=>
 some r2
theorem o6(k:Nat)(a0:(List Int))(r:Int)(h:mL k a0=some r):
 dy Tryz.prog 63 [.rep (.slice (.int .u8)) a0,.eq (.func (.func 64) #[] #[])] [] (fun _:Unit=>(bI [.eq (.int .u8 r)],[])):=by
 unfold mL at h
 replace h:=bo h
 refine dy.of 8 Tryz.func63 rfl Tryz.ntmps63 rfl fun S w0=>?_
 refine sr ?_
 refine bx fun b1=>?_
 refine cq ?_
 refine nt ?_
 refine sr ?_
 refine mq ?_
 refine ja (pw [] [.tmp 3] [] [(Pv b1)] rfl rfl rfl) ?_
 obtain⟨r2,c,h⟩:=aa h
 have e:=pq k a0 b1 r2 c
 refine kb (ax [.tmp 5,.tmp 6] rfl rfl QQ rfl e) ?_
 refine aq ?_
 refine nt ?_
 refine aC ?_
 cases h
 exact ra
def ib(k:Nat)(a0:(List Int))(a1:(List Int)):Nat→Int→Option (Except Bool Unit)
 |0,_=>none
 |n+1,y3=>
  if y3 < (a0.length:Int) then((aX a0 y3).bind fun x5=>
  (aX a1 y3).bind fun x6=>
  if¬(x5=x6) then(some (.error false)) else((ck (y3+1)).bind fun x7=>
  ib k a0 a1 n x7)) else(some (.ok ()))
def iQ(k:Nat)(a0:(List Int))(a1:(List Int)):Option Bool:=
 if¬((a0.length:Int)=(a1.length:Int)) then(some false) else(bE (α:=Unit) (ib k a0 a1 k 0) (some) fun _=>
 some true)
theorem j7(k:Nat)(a0:(List Int))(a1:(List Int))(r:Bool)(h:iQ k a0 a1=some r):
 dy Tryz.prog 35 [Ri a0,Ri a1] [] (fun _:Unit=>(bI [.eq (.bool r)],[])):=by
 unfold iQ at h
 replace h:=bo h
 refine dy.of 26 Tryz.func35 rfl Tryz.ntmps35 rfl fun S w0=>?_
 refine sr ?_
 refine cq ?_
 refine nt ?_
 refine am ?_
 refine sr ?_
 refine mq ?_
 refine ol iC ?_
 refine mq ?_
 refine ol iC ?_
 refine jb (eR rfl) ?_
 refine nt ?_
 refine cn h (fun h=>?_) (fun h=>?_)
 ·
  refine sr (cq (nt (rx ?_)));cases h;exact ra
 ·
  refine sk (dx (Z:=Unit) (α:=Unit) (fun z2 x1=>[]) (fun z2 x1=>[]) (fun e=>e=r) h (fun e h=>Option.some.inj h) (fun K hR h=>?_) (fun z2 x1 h=>?_))
  ·refine sr (cq (nt (ak ?_)));refine aH (fun z4 y3=>[(0,Ri a0),(1,Ri a1),(5,I y3)]) (fun z4 y3=>[]) (ib k a0 a1) k () 0 (fun _=>rfl) h (SE.fin [] ⟨rfl,rfl,rfl,trivial⟩ rfl) (fun n z4 y3 h=>?_);unfold ib at h;refine am (sr ?_);iterate 2 refine mq ?_
   refine ol iC ?_;refine jb (bG rfl) ?_;refine nt (ci h (fun h=>?_) (fun h=>?_))
   ·refine sk (am (ak (am (cS ?_))));refine dm ?_;refine dm ?_;obtain⟨x5,l,h⟩:=aa h;refine db (be (t:=(.int .i64)) rfl iC bT l) ?_;refine da (av (t:=(.int .i64)) rfl bT rfl) ?_;refine dm ?_;refine dm ?_;obtain⟨x6,j,h⟩:=aa h;refine db (be (t:=(.int .i64)) rfl iC bT j) ?_;refine da (av (t:=(.int .i64)) rfl bT rfl) ?_;refine df eF ?_;refine jb (eR rfl) ?_;refine nt (cn h (fun h=>?_) (fun h=>?_))
    ·refine sr (cq (nt (aC (br (bH (bF ?_))))));obtain rfl:=hR _ h;exact ra
    ·refine bh (aS (tn (ag (mq ?_))));obtain⟨x7,c,h⟩:=aa h;refine jb (bB rfl c) ?_;refine aq (nl ?_);exact jz ((),x7) h []
   ·refine xa ?_;exact jz ((),()) h []
  ·refine sr (cq (nt (aC ?_)));cases h;exact ra
def gx(k:Nat)(a0:(List (List Int)))(a1:(List (List Int))):Nat→Int→Option (Except Bool Unit)
 |0,_=>none
 |n+1,y3=>
  if y3 < (a0.length:Int) then((aX a0 y3).bind fun x5=>
  (aX a1 y3).bind fun x6=>
  (iQ k x5 x6).bind fun r7=>
  if¬(r7=true) then(some (.error false)) else((ck (y3+1)).bind fun x8=>
  gx k a0 a1 n x8)) else(some (.ok ()))
def jC(k:Nat)(a0:(List (List Int)))(a1:(List (List Int))):Option Bool:=
 if¬((a0.length:Int)=(a1.length:Int)) then(some false) else(bE (α:=Unit) (gx k a0 a1 k 0) (some) fun _=>
 some true)
theorem me(k:Nat)(a0:(List (List Int)))(a1:(List (List Int)))(r:Bool)(h:jC k a0 a1=some r):
 dy Tryz.prog 34 [.rep (.slice (.slice (.int .i64))) a0,.rep (.slice (.slice (.int .i64))) a1] [] (fun _:Unit=>(bI [.eq (.bool r)],[])):=by
 unfold jC at h
 replace h:=bo h
 refine dy.of 27 Tryz.func34 rfl Tryz.ntmps34 rfl fun S w0=>?_
 refine sr ?_
 refine cq ?_
 refine nt ?_
 refine am ?_
 refine sr ?_
 refine mq ?_
 refine ol sE ?_
 refine mq ?_
 refine ol sE ?_
 refine jb (eR rfl) ?_
 refine nt ?_
 refine cn h (fun h=>?_) (fun h=>?_)
 ·
  refine sr (cq (nt (rx ?_)));cases h;exact ra
 ·
  refine sk (dx (Z:=Unit) (α:=Unit) (fun z2 x1=>[]) (fun z2 x1=>[]) (fun e=>e=r) h (fun e h=>Option.some.inj h) (fun K hR h=>?_) (fun z2 x1 h=>?_))
  ·refine sr (cq (nt (ak ?_)));refine aH (fun z4 y3=>[(0,.rep (.slice (.slice (.int .i64))) a0),(1,.rep (.slice (.slice (.int .i64))) a1),(5,I y3)]) (fun z4 y3=>[]) (gx k a0 a1) k () 0 (fun _=>rfl) h (SE.fin [] ⟨rfl,rfl,rfl,trivial⟩ rfl) (fun n z4 y3 h=>?_);unfold gx at h;refine am (sr ?_);iterate 2 refine mq ?_
   refine ol sE ?_;refine jb (bG rfl) ?_;refine nt (ci h (fun h=>?_) (fun h=>?_))
   ·refine sk (am (ak (am (cS ?_))));refine dm ?_;refine dm ?_;obtain⟨x5,l,h⟩:=aa h;refine db (be (t:=(.slice (.int .i64))) rfl sE iD l) ?_;refine da (av (t:=(.slice (.int .i64))) rfl iD rfl) ?_;refine dm ?_;refine dm ?_;obtain⟨x6,j,h⟩:=aa h;refine db (be (t:=(.slice (.int .i64))) rfl sE iD j) ?_;refine da (av (t:=(.slice (.int .i64))) rfl iD rfl) ?_;refine df eF ?_;obtain⟨r7,s,h⟩:=aa h;refine jb (ax [.tmp 20,.tmp 24] rfl rfl M6 rfl (j7 k x5 x6 r7 s)) ?_;refine ja (gJ rfl) ?_;refine nt (cw h (fun h=>?_) (fun h=>?_))
    ·refine sr (cq (nt (aC (br (bH (bF ?_))))));obtain rfl:=hR _ h;exact ra
    ·refine bh (aS (tn (ag (mq ?_))));obtain⟨x8,c,h⟩:=aa h;refine jb (bB rfl c) ?_;refine aq (nl ?_);exact jz ((),x8) h []
   ·refine xa ?_;exact jz ((),()) h []
  ·refine sr (cq (nt (aC ?_)));cases h;exact ra
end Go.Proofs.YtkncjjdpjaapaaaGreat
