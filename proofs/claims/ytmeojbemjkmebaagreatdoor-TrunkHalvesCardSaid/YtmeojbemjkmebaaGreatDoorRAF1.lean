import Derived.Test.YtmeojbemjkmebaaGreatDoorRAFacts
import Derived.Test.YtmeojbemjkmebaaGreatDoorRAB6
set_option linter.unusedSimpArgs false
set_option linter.unusedVariables false
set_option maxRecDepth 4000
set_option maxHeartbeats 1000000
namespace Go.Proofs.YtmeojbemjkmebaaGreatDoor
open K Go Go.Proofs
def me(k:Nat)(a0:(List Int)):Option bI:=
 some (a0,0,1)
theorem uO(k:Nat)(a0:(List Int))(r:bI)(h:me k a0=some r):
 cd Tryz.prog 7 [Ri a0] [] (fun z:Nat=>(bv [Pt z],[.obj z 66 (.agg (.pair (Ri r.1) (.pair (I r.2.1) (.eq (.int .u64 r.2.2)))))])):=by
 unfold me at h
 replace h:=bg h
 refine cd.of 6 Tryz.func7 rfl Tryz.ntmps7 rfl fun S w0=>?_
 refine sr ?_
 refine cq ?_
 refine nt ?_
 refine sr ?_
 refine mq ?_
 refine jb (c6 [(0,.tmp 3,_),(2,.const (.int .u64 (1)),_)] rfl QN QG P2 (iH ⟨rfl,rfl,trivial⟩) rfl) ?_
 refine aE rfl rfl rfl (nM rfl trivial) ⟨rfl,trivial⟩ fun b1=>?_
 refine aq ?_
 refine nt ?_
 refine aC ?_
 cases h
 exact aL b1 [Pt b1] 1 ⟨rfl,trivial⟩ rfl
def iP(k:Nat)(a0:bI):Option (Int×bI):=
 ((if a0.2.1 < (a0.1.length:Int) then((a8 a0.1 a0.2.1).bind fun x3=>
 some (IntKind.u64.wrap ((IntKind.u64.wrap ((IntKind.u64.wrap (a0.2.2 * 6364136223846793005))+1442695040888963407))+(IntKind.u64.wrap ((IntKind.u64.wrap x3) * 2862933555777941757))))) else(some (IntKind.u64.wrap ((IntKind.u64.wrap (a0.2.2 * 6364136223846793005))+1442695040888963407)))):Option (Int)).bind fun x1=>
 (ck (a0.2.1+1)).bind fun x4=>
 some (ie .u64 (qD .u64 (IntKind.u64.wrap ((qD .u64 x1 (ie .u64 x1 29)) * 2685821657736338717)) (ie .u64 (IntKind.u64.wrap ((qD .u64 x1 (ie .u64 x1 29)) * 2685821657736338717)) 32)) 8,(a0.1,x4,x1))
theorem sP(k:Nat)(a0:bI)(c:Nat)(r:Int×bI)(h:iP k a0=some r):
 cd Tryz.prog 79 [Pt c] [.obj c 66 (.agg (.pair (Ri a0.1) (.pair (I a0.2.1) (.eq (.int .u64 a0.2.2)))))] (fun _:Unit=>(bv [.eq (.int .u64 r.1)],[.obj c 66 (.agg (.pair (Ri r.2.1) (.pair (I r.2.2.1) (.eq (.int .u64 r.2.2.2)))))])):=by
 unfold iP at h
 replace h:=bg h
 refine cd.of 67 Tryz.func79 rfl Tryz.ntmps79 rfl fun S w0=>?_
 refine sr ?_
 refine cq ?_
 refine nt ?_
 refine sr ?_
 iterate 2 refine mq ?_
 refine ja (aW rfl) ?_
 refine fl sR ?_
 refine lo DD ?_
 refine jb (A7 rfl) ?_
 refine jb (A9 rfl) ?_
 refine ja (aW rfl) ?_
 refine fl sR ?_
 refine aY rfl rfl (aR rfl DD rfl rfl rfl) ⟨rfl,rfl,trivial⟩ ?_
 refine nt ?_
 refine aX (Z:=Unit) (α:=Int) (fun z2 x1=>[(0,Pt c)]) (fun z2 x1=>[.obj c 66 (.agg (.pair (Ri a0.1) (.pair (I a0.2.1) (.eq (.int .u64 x1)))))]) h (fun K h=>?_) (fun z2 x1 h=>?_)
 ·
  refine ah (cz ?_);refine dm ?_;refine da (aW rfl) ?_;refine da (ax rfl xZ) ?_;refine ea 0 (ak rfl co kU rfl) ?_;refine dm ?_;refine da (aW rfl) ?_;refine da (ax rfl HC) ?_;refine ea 0 (ak rfl cg kU rfl) ?_;refine da (mP rfl rfl eS) ?_;refine df dI ?_;refine jb (bG rfl) ?_;refine nt (ci h (fun h=>?_) (fun h=>?_))
  ·refine cz ?_;refine dm ?_;refine dm ?_;refine da (aW rfl) ?_;refine da (ax rfl sR) ?_;refine ea 0 (ak rfl DD kU rfl) ?_;refine dm ?_;refine da (aW rfl) ?_;refine da (ax rfl HC) ?_;refine ea 0 (ak rfl cg kU rfl) ?_;refine dm ?_;refine da (aW rfl) ?_;refine da (ax rfl xZ) ?_;refine ea 0 (ak rfl co kU rfl) ?_;obtain⟨x3,j,h⟩:=aa h;refine db (aM (t:=(.int .i64)) rfl eS co j) ?_;refine da (ap (t:=(.int .i64)) rfl co rfl) ?_;refine da (ov rfl U3 Qy) ?_;refine db (A7 rfl) ?_;refine db (A9 rfl) ?_;refine df dI ?_;refine ja (aW rfl) ?_;refine fl sR ?_;refine aY rfl rfl (aR rfl DD rfl rfl rfl) ⟨rfl,rfl,trivial⟩ ?_;refine nl ?_;exact jz ((),IntKind.u64.wrap ((IntKind.u64.wrap ((IntKind.u64.wrap (a0.2.2 * 6364136223846793005))+1442695040888963407))+(IntKind.u64.wrap ((IntKind.u64.wrap x3) * 2862933555777941757)))) h [0]
  ·refine ba (ae ?_);exact jz ((),IntKind.u64.wrap ((IntKind.u64.wrap (a0.2.2 * 6364136223846793005))+1442695040888963407)) h [0]
 ·
  refine sr (mq ?_);refine ja (aW rfl) ?_;refine fl xZ ?_;refine lo co ?_;obtain⟨x4,e,h⟩:=aa h;refine jb (bm rfl e) ?_;refine ja (aW rfl) ?_;refine fl xZ ?_;refine aY rfl rfl (aR rfl co rfl rfl rfl) ⟨rfl,rfl,trivial⟩ ?_;refine nt (ah (cz ?_));refine dm ?_;refine da (aW rfl) ?_;refine da (ax rfl sR) ?_;refine ea 0 (ak rfl DD kU rfl) ?_;refine dm ?_;refine da (aW rfl) ?_;refine da (ax rfl sR) ?_;refine ea 0 (ak rfl DD kU rfl) ?_;refine dw rfl rfl rfl (uE rfl (by decide)) ⟨rfl,rfl,trivial⟩ ?_;refine df dI ?_;refine jb (K7 rfl) ?_;refine aq (nt (sr ?_));refine mq ?_;refine jb (A7 rfl) ?_;refine aq (nt (sr ?_));iterate 2 refine mq ?_
  refine aD rfl (uE rfl (by decide)) ⟨rfl,rfl,trivial⟩ ?_;refine jb (K7 rfl) ?_;refine aD rfl (uE rfl (by decide)) ⟨rfl,rfl,trivial⟩ ?_;refine aq (nt (aC ?_));cases h;exact aL () [_] 1 ⟨rfl,trivial⟩ rfl
def dO(k:Nat)(a0:bI)(a1:Int):Option (Int×bI):=
 if a1 < 1 then(some (0,(a0.1,a0.2.1,a0.2.2))) else((iP k (a0.1,a0.2.1,a0.2.2)).bind fun r1=>
 (ck (a1+1)).bind fun x2=>
 (dY ((IntKind.u64.wrap x2)≠0)).bind fun _=>
 (ck (Int.tmod r1.1 (IntKind.u64.wrap x2))).bind fun x4=>
 some (x4,(r1.2.1,r1.2.2.1,r1.2.2.2)))
theorem f6(k:Nat)(a0:bI)(c:Nat)(a1:Int)(r:Int×bI)(h:dO k a0 a1=some r):
 cd Tryz.prog 40 [Pt c,I a1] [.obj c 66 (.agg (.pair (Ri a0.1) (.pair (I a0.2.1) (.eq (.int .u64 a0.2.2)))))] (fun _:Unit=>(bv [I r.1],[.obj c 66 (.agg (.pair (Ri r.2.1) (.pair (I r.2.2.1) (.eq (.int .u64 r.2.2.2)))))])):=by
 unfold dO at h
 replace h:=bg h
 refine cd.of 14 Tryz.func40 rfl Tryz.ntmps40 rfl fun S w0=>?_
 refine sr ?_
 refine cq ?_
 refine nt ?_
 refine ah ?_
 refine sr ?_
 refine mq ?_
 refine jb (bG rfl) ?_
 refine nt ?_
 refine ci h (fun h=>?_) (fun h=>?_)
 ·
  refine sr (cq (nt (rx ?_)));cases h;exact aL () [_] 1 ⟨rfl,trivial⟩ rfl
 ·
  refine sk (sr (mq ?_));obtain⟨r1,n,h⟩:=aa h;refine ka (ao [.tmp 7] rfl rfl Rk rfl (sP k (a0.1,a0.2.1,a0.2.2) c r1 n)) ?_;refine mq ?_;obtain⟨x2,j,h⟩:=aa h;refine jb (bm rfl j) ?_;refine ja (ov rfl U3 Qy) ?_;obtain⟨u3,l,h⟩:=aa h;refine jb (Gh rfl (aH l)) ?_;obtain⟨x4,e,h⟩:=aa h;refine ja (zm rfl Qy U3 e) ?_;refine aq (nt (aC ?_));cases h;exact aL () [_] 1 ⟨rfl,trivial⟩ rfl
def dA(k:Nat)(a0:bI)(a1:Int)(a2:Int):Option (Int×bI):=
 (ck (a2 - a1)).bind fun x1=>
 (dO k (a0.1,a0.2.1,a0.2.2) x1).bind fun r2=>
 (ck (a1+r2.1)).bind fun x3=>
 some (x3,(r2.2.1,r2.2.2.1,r2.2.2.2))
theorem jC(k:Nat)(a0:bI)(c:Nat)(a1:Int)(a2:Int)(r:Int×bI)(h:dA k a0 a1 a2=some r):
 cd Tryz.prog 10 [Pt c,I a1,I a2] [.obj c 66 (.agg (.pair (Ri a0.1) (.pair (I a0.2.1) (.eq (.int .u64 a0.2.2)))))] (fun _:Unit=>(bv [I r.1],[.obj c 66 (.agg (.pair (Ri r.2.1) (.pair (I r.2.2.1) (.eq (.int .u64 r.2.2.2)))))])):=by
 unfold dA at h
 replace h:=bg h
 refine cd.of 14 Tryz.func10 rfl Tryz.ntmps10 rfl fun S w0=>?_
 refine sr ?_
 refine cq ?_
 refine nt ?_
 refine sr ?_
 iterate 4 refine mq ?_
 obtain⟨x1,j,h⟩:=aa h
 refine jb (d5 rfl j) ?_
 obtain⟨r2,l,h⟩:=aa h
 have n:=f6 k (a0.1,a0.2.1,a0.2.2) c x1 r2 l
 refine kb (ao [.tmp 8,.tmp 11] rfl rfl HL rfl n) ?_
 obtain⟨x3,e,h⟩:=aa h
 refine jb (bm rfl e) ?_
 refine aq ?_
 refine nt ?_
 refine aC ?_
 cases h
 exact aL () [_] 1 ⟨rfl,trivial⟩ rfl
def jm(k:Nat)(a0:bI)(a1:(List Int)):Option (Int×bI):=
 (ck ((a1.length:Int) - 1)).bind fun x1=>
 (dO k (a0.1,a0.2.1,a0.2.2) x1).bind fun r2=>
 (a8 a1 r2.1).bind fun x3=>
 some (x3,(r2.2.1,r2.2.2.1,r2.2.2.2))
theorem oH(k:Nat)(a0:bI)(c:Nat)(a1:(List Int))(r:Int×bI)(h:jm k a0 a1=some r):
 cd Tryz.prog 65 [Pt c,Ri a1] [.obj c 66 (.agg (.pair (Ri a0.1) (.pair (I a0.2.1) (.eq (.int .u64 a0.2.2)))))] (fun _:Unit=>(bv [I r.1],[.obj c 66 (.agg (.pair (Ri r.2.1) (.pair (I r.2.2.1) (.eq (.int .u64 r.2.2.2)))))])):=by
 unfold jm at h
 replace h:=bg h
 refine cd.of 13 Tryz.func65 rfl Tryz.ntmps65 rfl fun S w0=>?_
 refine sr ?_
 refine cq ?_
 refine nt ?_
 refine sr ?_
 iterate 3 refine mq ?_
 refine ol eS ?_
 obtain⟨x1,j,h⟩:=aa h
 refine jb (d5 rfl j) ?_
 obtain⟨r2,l,h⟩:=aa h
 have n:=f6 k (a0.1,a0.2.1,a0.2.2) c x1 r2 l
 refine kb (ao [.tmp 6,.tmp 9] rfl rfl HL rfl n) ?_
 obtain⟨x3,e,h⟩:=aa h
 refine jb (aM (t:=(.int .i64)) rfl eS co e) ?_
 refine ja (ap (t:=(.int .i64)) rfl co rfl) ?_
 refine aq ?_
 refine nt ?_
 refine aC ?_
 cases h
 exact aL () [_] 1 ⟨rfl,trivial⟩ rfl
def fM(k:Nat)(a0:bI)(a1:Int):Option (Bool×bI):=
 (ck (a1 - 1)).bind fun x1=>
 (dO k (a0.1,a0.2.1,a0.2.2) x1).bind fun r2=>
 some (decide (r2.1=0),(r2.2.1,r2.2.2.1,r2.2.2.2))
theorem mV(k:Nat)(a0:bI)(c:Nat)(a1:Int)(r:Bool×bI)(h:fM k a0 a1=some r):
 cd Tryz.prog 66 [Pt c,I a1] [.obj c 66 (.agg (.pair (Ri a0.1) (.pair (I a0.2.1) (.eq (.int .u64 a0.2.2)))))] (fun _:Unit=>(bv [.eq (.bool r.1)],[.obj c 66 (.agg (.pair (Ri r.2.1) (.pair (I r.2.2.1) (.eq (.int .u64 r.2.2.2)))))])):=by
 unfold fM at h
 replace h:=bg h
 refine cd.of 10 Tryz.func66 rfl Tryz.ntmps66 rfl fun S w0=>?_
 refine sr ?_
 refine cq ?_
 refine nt ?_
 refine sr ?_
 iterate 2 refine mq ?_
 obtain⟨x1,e,h⟩:=aa h
 refine jb (d5 rfl e) ?_
 obtain⟨r2,j,h⟩:=aa h
 have l:=f6 k (a0.1,a0.2.1,a0.2.2) c x1 r2 j
 refine kb (ao [.tmp 5,.tmp 7] rfl rfl HL rfl l) ?_
 refine jb (eE rfl) ?_
 refine aq ?_
 refine nt ?_
 refine aC ?_
 cases h
 exact aL () [_] 1 ⟨rfl,trivial⟩ rfl
def eQ(k:Nat)(r2:Int×bI):Nat→((List Int)×Int×Int×(List Int)×Int)→Option ((List Int)×Int×Int×(List Int))
 |0,_=>none
 |n+1,c=>
  if c.2.2.2.2 < r2.1 then((((fM k (c.1,c.2.1,c.2.2.1) 2).bind fun e=>
  if e.1=true then((dY (bU (List.length c.2.2.2.1+List.length [c.2.2.2.2]))).bind fun _=>
  some (e.2.1,e.2.2.1,e.2.2.2,c.2.2.2.1++[c.2.2.2.2])) else(some (e.2.1,e.2.2.1,e.2.2.2,c.2.2.2.1))):Option ((List Int)×Int×Int×(List Int))).bind fun h=>
  (ck (c.2.2.2.2+1)).bind fun j=>
  eQ k r2 n (h.1,h.2.1,h.2.2.1,h.2.2.2,j)) else(some (c.1,c.2.1,c.2.2.1,c.2.2.2.1))
def eR(k:Nat)(r2:Int×bI):Nat→((List Int)×Int×Int×(List cR)×Int×Int)→Option ((List Int)×Int×Int×(List cR)×Int)
 |0,_=>none
 |n+1,y7=>
  if 0 < y7.2.2.2.2.2 then((((jm k (y7.1,y7.2.1,y7.2.2.1) [1,1,1,2,3]).bind fun c=>
  ((eQ k r2 k (c.2.1,c.2.2.1,c.2.2.2,([]:(List Int)),0)):Option ((List Int)×Int×Int×(List Int))).bind fun e=>
  (dY (bU (List.length y7.2.2.2.1+List.length [(c.1,e.2.2.2)]))).bind fun _=>
  (ck (y7.2.2.2.2.1+c.1)).bind fun j=>
  some (e.1,e.2.1,e.2.2.1,y7.2.2.2.1++[(c.1,e.2.2.2)],j)):Option ((List Int)×Int×Int×(List cR)×Int)).bind fun x9=>
  (ck (y7.2.2.2.2.2 - 1)).bind fun h=>
  eR k r2 n (x9.1,x9.2.1,x9.2.2.1,x9.2.2.2.1,x9.2.2.2.2,h)) else(some (y7.1,y7.2.1,y7.2.2.1,y7.2.2.2.1,y7.2.2.2.2.1))
def eP(k:Nat)(x4:(List Int)×Int×Int×(List cR)×Int):Nat→((List Int)×Int×Int×(List Int)×Int)→Option ((List Int)×Int×Int×(List Int))
 |0,_=>none
 |n+1,c=>
  if 0 < c.2.2.2.2 then((ck (x4.2.2.2.2+1)).bind fun j=>
  (jm k (c.1,c.2.1,c.2.2.1) [1,2,3,pS 9 x4.2.2.2.2,pS 9 j]).bind fun e=>
  (dY (bU (List.length c.2.2.2.1+List.length [e.1]))).bind fun _=>
  (ck (c.2.2.2.2 - 1)).bind fun h=>
  eP k x4 n (e.2.1,e.2.2.1,e.2.2.2,c.2.2.2.1++[e.1],h)) else(some (c.1,c.2.1,c.2.2.1,c.2.2.2.1))
def jS(k:Nat)(a0:bI)(a1:Int)(a2:Int):Option (be×bI):=
 (dA k (a0.1,a0.2.1,a0.2.2) 1 4).bind fun r2=>
 (((dA k (r2.2.1,r2.2.2.1,r2.2.2.2) 0 a1).bind fun r6=>
 eR k r2 k (r6.2.1,r6.2.2.1,r6.2.2.2,([]:(List cR)),0,r6.1)):Option ((List Int)×Int×Int×(List cR)×Int)).bind fun x4=>
 (((dA k (x4.1,x4.2.1,x4.2.2.1) 1 a2).bind fun j=>
 eP k x4 k (j.2.1,j.2.2.1,j.2.2.2,([]:(List Int)),j.1)):Option ((List Int)×Int×Int×(List Int))).bind fun e=>
 (((fM k (e.1,e.2.1,e.2.2.1) 2).bind fun c=>
 if c.1=true then((a8 e.2.2.2 0).bind fun l=>
 some (List.set e.2.2.2 (Int.toNat 0) (pS 9 x4.2.2.2.2),c.2.1,c.2.2.1,c.2.2.2)) else(some (e.2.2.2,c.2.1,c.2.2.1,c.2.2.2))):Option ((List Int)×(List Int)×Int×Int)).bind fun h=>
 some ((r2.1,x4.2.2.2.1,h.1),(h.2.1,h.2.2.1,h.2.2.2))
theorem vO(k:Nat)(a0:bI)(c:Nat)(a1:Int)(a2:Int)(r:be×bI)(h:jS k a0 a1 a2=some r):
 cd Tryz.prog 31 [Pt c,I a1,I a2] [.obj c 66 (.agg (.pair (Ri a0.1) (.pair (I a0.2.1) (.eq (.int .u64 a0.2.2)))))] (fun _:Unit=>(bv [.rep aw r.1],[.obj c 66 (.agg (.pair (Ri r.2.1) (.pair (I r.2.2.1) (.eq (.int .u64 r.2.2.2)))))])):=by
 unfold jS at h
 replace h:=bg h
 refine cd.of 79 Tryz.func31 rfl Tryz.ntmps31 rfl fun S w0=>?_
 refine sr ?_
 refine aE rfl rfl rfl (aZ rfl j9 lQ) trivial fun b1=>?_
 refine nt ?_
 refine sr ?_
 refine mq ?_
 obtain⟨r2,TL,h⟩:=aa h
 have TM:=jC k (a0.1,a0.2.1,a0.2.2) c 1 4 r2 TL
 refine fr 1 ?_
 refine kc (ao [.tmp 13,.const (.int .i64 (1)),.const (.int .i64 (4))] rfl rfl J3 rfl TM) ?_
 refine ja (c6 [(0,.tmp 14,_)] rfl I3 j9 C7 (iH ⟨rfl,trivial⟩) rfl) ?_
 refine aE rfl rfl rfl (aZ rfl j9 lQ) trivial fun b3=>?_
 refine aY rfl rfl (aR rfl fJ trivial rfl rfl) ⟨rfl,rfl,trivial⟩ ?_
 refine nt ?_
 refine sr ?_
 refine cq ?_
 refine nt ?_
 refine aX (Z:=Value) (α:=(List Int)×Int×Int×(List cR)×Int) (fun z5 x4=>[(0,Pt c),(2,I a2),(6,Pt b1),(7,Pt b3),(8,I x4.2.2.2.2)]) (fun z5 x4=>[.obj c 66 (.agg (.pair (Ri x4.1) (.pair (I x4.2.1) (.eq (.int .u64 x4.2.2.1))))),.obj b1 27 (.agg (.pair (I 0) (.pair (.eq (.slice none 0 0)) (.eq (.slice none 0 0))))),.obj b3 27 (.agg (.pair (I r2.1) (.pair (.eq z5) (.eq (.slice none 0 0))))),.sl z5 35 aG x4.2.2.2.1]) h (fun K h=>?_) (fun z5 x4 h=>?_)
 ·
  refine sr ?_;iterate 2 refine mq ?_
  obtain⟨r6,TK,h⟩:=aa h;refine fr 1 ?_;refine kc (ao [.tmp 16,.const (.int .i64 (0)),.tmp 17] rfl rfl J3 rfl (jC k (r2.2.1,r2.2.2.1,r2.2.2.2) c 0 a1 r6 TK)) ?_;refine aq (nt (an ?_));refine eG (SE.nil 35 aG) ?_;refine aN (fun z8 y7=>[(0,Pt c),(2,I a2),(6,Pt b1),(7,Pt b3),(8,I y7.2.2.2.2.1),(9,I y7.2.2.2.2.2)]) (fun z8 y7=>[.obj c 66 (.agg (.pair (Ri y7.1) (.pair (I y7.2.1) (.eq (.int .u64 y7.2.2.1))))),.obj b1 27 (.agg (.pair (I 0) (.pair (.eq (.slice none 0 0)) (.eq (.slice none 0 0))))),.obj b3 27 (.agg (.pair (I r2.1) (.pair (.eq z8) (.eq (.slice none 0 0))))),.sl z8 35 aG y7.2.2.2.1]) (eR k r2) k (.slice none 0 0) (r6.2.1,r6.2.2.1,r6.2.2.2,([]:(List cR)),0,r6.1) (fun _=>rfl) h (SE.fin [1,3,2,0] ⟨rfl,rfl,rfl,rfl,rfl,rfl,trivial⟩ rfl) (fun n z8 y7 h=>?_);unfold eR at h;refine ah (sr (mq ?_));refine jb (kh rfl) ?_;refine nt (ci h (fun h=>?_) (fun h=>?_))
  ·refine sk (aX (Z:=Value) (α:=(List Int)×Int×Int×(List cR)×Int) (fun X x9=>[(0,Pt c),(2,I a2),(6,Pt b1),(7,Pt b3),(8,I x9.2.2.2.2),(9,I y7.2.2.2.2.2)]) (fun X x9=>[.obj c 66 (.agg (.pair (Ri x9.1) (.pair (I x9.2.1) (.eq (.int .u64 x9.2.2.1))))),.obj b1 27 (.agg (.pair (I 0) (.pair (.eq (.slice none 0 0)) (.eq (.slice none 0 0))))),.obj b3 27 (.agg (.pair (I r2.1) (.pair (.eq X) (.eq (.slice none 0 0))))),.sl X 35 aG x9.2.2.2.1]) h (fun K h=>?_) (fun X x9 h=>?_))
   ·refine an (sr (mq ?_));refine aD rfl (bC (t:=(.int .i64)) [(.const (.int .i64 (1)),_),(.const (.int .i64 (1)),_),(.const (.int .i64 (1)),_),(.const (.int .i64 (2)),_),(.const (.int .i64 (3)),_)] [1,1,1,2,3] rfl rfl eu (.cons rfl .int (.cons rfl .int (.cons rfl .int (.cons rfl .int (.cons rfl .int .nil))))) rfl rfl) ⟨rfl,rfl,rfl,rfl,rfl,trivial⟩ ?_;obtain⟨s,Tf,h⟩:=aa h;refine kb (ao [.tmp 23,.tmp 24] rfl rfl Pz rfl (oH k (y7.1,y7.2.1,y7.2.2.1) c [1,1,1,2,3] s Tf)) ?_;refine ja (c6 [(0,.tmp 25,_)] rfl D3 vv wY (iH ⟨rfl,trivial⟩) rfl) ?_;refine aE rfl rfl rfl (aZ rfl vv Kx) trivial fun M=>?_;refine aY rfl rfl (aR rfl jH trivial rfl rfl) ⟨rfl,rfl,trivial⟩ ?_;refine nt (aX (Z:=Value) (α:=(List Int)×Int×Int×(List Int)) (fun ac j=>[(0,Pt c),(2,I a2),(6,Pt b1),(7,Pt b3),(8,I y7.2.2.2.2.1),(9,I y7.2.2.2.2.2),(10,Pt M)]) (fun ac j=>[.obj c 66 (.agg (.pair (Ri j.1) (.pair (I j.2.1) (.eq (.int .u64 j.2.2.1))))),.obj b1 27 (.agg (.pair (I 0) (.pair (.eq (.slice none 0 0)) (.eq (.slice none 0 0))))),.obj b3 27 (.agg (.pair (I r2.1) (.pair (.eq z8) (.eq (.slice none 0 0))))),.sl z8 35 aG y7.2.2.2.1,.obj M 35 (.agg (.pair (I s.1) (.eq ac))),.sl ac 3 (.int .i64) j.2.2.2]) h (fun K h=>?_) (fun ac j h=>?_))
    ·refine sr (cq (nt (an ?_)));refine eG (SE.nil 3 (.int .i64)) ?_;refine aN (fun Q e=>[(0,Pt c),(2,I a2),(6,Pt b1),(7,Pt b3),(8,I y7.2.2.2.2.1),(9,I y7.2.2.2.2.2),(10,Pt M),(11,I e.2.2.2.2)]) (fun Q e=>[.obj c 66 (.agg (.pair (Ri e.1) (.pair (I e.2.1) (.eq (.int .u64 e.2.2.1))))),.obj b1 27 (.agg (.pair (I 0) (.pair (.eq (.slice none 0 0)) (.eq (.slice none 0 0))))),.obj b3 27 (.agg (.pair (I r2.1) (.pair (.eq z8) (.eq (.slice none 0 0))))),.sl z8 35 aG y7.2.2.2.1,.obj M 35 (.agg (.pair (I s.1) (.eq Q))),.sl Q 3 (.int .i64) e.2.2.2.1]) (eQ k r2) k (.slice none 0 0) (s.2.1,s.2.2.1,s.2.2.2,([]:(List Int)),0) (fun _=>rfl) h (SE.fin [2,3,4,5,1,0] ⟨rfl,rfl,rfl,rfl,rfl,rfl,rfl,rfl,trivial⟩ rfl) (fun n Q e h=>?_);unfold eQ at h;refine ah (sr (mq ?_));refine fl cD ?_;refine fr 2 ?_;refine lo co ?_;refine jb (bG rfl) ?_;refine nt (ci h (fun h=>?_) (fun h=>?_))
     ·refine sk (aX (Z:=Value) (α:=(List Int)×Int×Int×(List Int)) (fun U x=>[(0,Pt c),(2,I a2),(6,Pt b1),(7,Pt b3),(8,I y7.2.2.2.2.1),(9,I y7.2.2.2.2.2),(10,Pt M),(11,I e.2.2.2.2)]) (fun U x=>[.obj c 66 (.agg (.pair (Ri x.1) (.pair (I x.2.1) (.eq (.int .u64 x.2.2.1))))),.obj b1 27 (.agg (.pair (I 0) (.pair (.eq (.slice none 0 0)) (.eq (.slice none 0 0))))),.obj b3 27 (.agg (.pair (I r2.1) (.pair (.eq z8) (.eq (.slice none 0 0))))),.sl z8 35 aG y7.2.2.2.1,.obj M 35 (.agg (.pair (I s.1) (.eq U))),.sl U 3 (.int .i64) x.2.2.2]) h (fun K h=>?_) (fun U x h=>?_))
      ·refine an (sr (mq ?_));obtain⟨J,Td,h⟩:=aa h;refine fr 1 ?_;refine kb (ao [.tmp 33,.const (.int .i64 (2))] rfl rfl Py rfl (mV k (e.1,e.2.1,e.2.2.1) c 2 J Td)) ?_;refine nt (cv h (fun h=>?_) (fun h=>?_))
       ·refine ab (fl jh ?_);refine fr 4 ?_;refine lo cg ?_;refine mq ?_;refine ja (bC (t:=(.int .i64)) [(.tmp 37,_)] [e.2.2.2.2] rfl rfl eu (.cons rfl .int .nil) rfl rfl) ?_;obtain⟨Uc,S7,h⟩:=aa h;refine fr 5 ?_;refine eC rfl rfl rfl (bZ rfl rfl eu (aH S7)) ⟨rfl,rfl,trivial⟩ fun Tt=>?_;refine fl jh ?_;refine qK fun o22=>?_;refine fr 1 ?_;refine aY rfl rfl (aR rfl cg o22 rfl rfl) ⟨rfl,rfl,trivial⟩ ?_;refine ar (bn ?_);exact jz (Tt,(J.2.1,J.2.2.1,J.2.2.2,e.2.2.2.1++[e.2.2.2.2])) h [2,4,3,5,0,1]
       ·refine ba (bn ?_);exact jz (Q,(J.2.1,J.2.2.1,J.2.2.2,e.2.2.2.1)) h [0,2,1,3,4,5]
      ·refine ab (mq ?_);obtain⟨Tn,SY,h⟩:=aa h;refine jb (bm rfl SY) ?_;refine aq (nl ?_);exact jz (U,(x.1,x.2.1,x.2.2.1,x.2.2.2,Tn)) h [0,1,2,3,4,5]
     ·refine xa ?_;exact jz (Q,(e.1,e.2.1,e.2.2.1,e.2.2.2.1)) h [1,2,0,3,4,5]
    ·refine gP 4 rfl ?_;refine gP 5 rfl ?_;refine eG (ji (off:=1) [] trivial rfl rfl) ?_;refine gQ ?_;refine aF rfl rfl rfl (ax rfl cC) ⟨rfl,trivial⟩ ?_;refine cp 3 rfl rfl rfl rfl (ak rfl ic kU rfl) ⟨rfl,trivial⟩ ?_;refine cp 0 rfl rfl rfl rfl (ak rfl jH (vL) rfl) ⟨rfl,trivial⟩ ?_;refine aF rfl rfl rfl (bC (t:=aG) [(.tmp 43,_)] [(s.1,j.2.2.2)] rfl rfl FN (.cons trivial (.agg (.pair .int .rep)) .nil) rfl rfl) ⟨rfl,trivial⟩ ?_;obtain⟨Ub,S5,h⟩:=aa h;refine o4 4 rfl (fun v=>[.sl v 35 aG (y7.2.2.2.1++[(s.1,j.2.2.2)])]) (fun _=>rfl) rfl rfl rfl (bZ rfl rfl FN (aH S5)) ⟨rfl,rfl,trivial⟩ ?_;refine aF rfl rfl rfl (aO rfl) ⟨rfl,trivial⟩ ?_;refine aF rfl rfl rfl (ax rfl ny) ⟨rfl,trivial⟩ ?_;refine cp 0 rfl rfl rfl rfl (ak rfl co kU rfl) ⟨rfl,trivial⟩ ?_;obtain⟨Tm,SX,h⟩:=aa h;refine aF rfl rfl rfl (bm rfl SX) ⟨rfl,rfl,trivial⟩ ?_;refine aF rfl rfl rfl (ax rfl cC) ⟨rfl,trivial⟩ ?_;refine kK 10 [true,true,true,true,true,false,false,false,false,true] [] [0] [.obj M 35 (.agg (.pair (I s.1) (Ri j.2.2.2)))] rfl (by kernel_rfl) (by kernel_rfl) (by kernel_rfl) dI (fun vs hv hB=>?_);obtain⟨w0,T9,rfl,TJ⟩:=aj hv;obtain⟨w1,T8,rfl,TG⟩:=aj TJ;obtain⟨w2,TZ,rfl,TF⟩:=aj TG;obtain⟨w3,TY,rfl,TD⟩:=aj TF;obtain⟨se,TX,rfl,TC⟩:=aj TD;obtain⟨w5,TU,rfl,TB⟩:=aj TC;obtain⟨w6,TS,rfl,TA⟩:=aj TB;obtain⟨w7,TR,rfl,Tz⟩:=aj TA;obtain⟨w8,TP,rfl,Tv⟩:=aj Tz;obtain⟨w9,TN,rfl,SR⟩:=aj Tv;obtain rfl:=i7 SR;refine⟨[0,1,2,3,4],[.obj c 66 (.agg (.pair (Ri j.1) (.pair (I j.2.1) (.eq (.int .u64 j.2.2.1))))),.obj b1 27 (.agg (.pair (I 0) (.pair (.eq (.slice none 0 0)) (.eq (.slice none 0 0))))),.obj b3 27 (.agg (.pair (I r2.1) (.pair (.eq z8) (.eq (.slice none 0 0))))),.sl se 35 aG (y7.2.2.2.1++[(s.1,j.2.2.2)])],by kernel_rfl,by decide,?_⟩;refine dp 3 rfl ?_;refine oZ fun o27=>?_;refine dp 3 rfl ?_;refine kJ rfl rfl (aR rfl ic o27 rfl rfl) ⟨rfl,rfl,trivial⟩ (by kernel_rfl) ?_;refine BS (by kernel_rfl) ?_;refine aq (ar (bn ?_));exact jz (se,(j.1,j.2.1,j.2.2.1,y7.2.2.2.1++[(s.1,j.2.2.2)],Tm)) h [3,4,1,2]
   ·refine ab (mq ?_);obtain⟨Tj,SV,h⟩:=aa h;refine jb (d5 rfl SV) ?_;refine aq (nl ?_);exact jz (X,(x9.1,x9.2.1,x9.2.2.1,x9.2.2.2.1,x9.2.2.2.2,Tj)) h [0,1,2,3]
  ·refine xa ?_;exact jz (z8,(y7.1,y7.2.1,y7.2.2.1,y7.2.2.2.1,y7.2.2.2.2.1)) h [0,1,2,3]
 ·
  refine aX (Z:=Value) (α:=(List Int)×Int×Int×(List Int)) (fun O u=>[(0,Pt c),(6,Pt b1),(7,Pt b3),(8,I x4.2.2.2.2)]) (fun O u=>[.obj c 66 (.agg (.pair (Ri u.1) (.pair (I u.2.1) (.eq (.int .u64 u.2.2.1))))),.obj b1 27 (.agg (.pair (I 0) (.pair (.eq (.slice none 0 0)) (.eq (.slice none 0 0))))),.obj b3 27 (.agg (.pair (I r2.1) (.pair (.eq z5) (.eq O)))),.sl z5 35 aG x4.2.2.2.1,.sl O 3 (.int .i64) u.2.2.2]) h (fun K h=>?_) (fun O u h=>?_)
  ·refine sr ?_;iterate 2 refine mq ?_
   obtain⟨Y,Ta,h⟩:=aa h;refine kc (ao [.tmp 51,.const (.int .i64 (1)),.tmp 52] rfl rfl J3 rfl (jC k (x4.1,x4.2.1,x4.2.2.1) c 1 a2 Y Ta)) ?_;refine aq (nt (an ?_));refine eG (SE.nil 3 (.int .i64)) ?_;refine aN (fun E l=>[(0,Pt c),(6,Pt b1),(7,Pt b3),(8,I x4.2.2.2.2),(12,I l.2.2.2.2)]) (fun E l=>[.obj c 66 (.agg (.pair (Ri l.1) (.pair (I l.2.1) (.eq (.int .u64 l.2.2.1))))),.obj b1 27 (.agg (.pair (I 0) (.pair (.eq (.slice none 0 0)) (.eq (.slice none 0 0))))),.obj b3 27 (.agg (.pair (I r2.1) (.pair (.eq z5) (.eq E)))),.sl z5 35 aG x4.2.2.2.1,.sl E 3 (.int .i64) l.2.2.2.1]) (eP k x4) k (.slice none 0 0) (Y.2.1,Y.2.2.1,Y.2.2.2,([]:(List Int)),Y.1) (fun _=>rfl) h (SE.fin [1,2,3,4,0] ⟨rfl,rfl,rfl,rfl,rfl,trivial⟩ rfl) (fun n E l h=>?_);unfold eP at h;refine ah (sr (mq ?_));refine jb (kh rfl) ?_;refine nt (ci h (fun h=>?_) (fun h=>?_))
   ·refine sk (ah (an (cz ?_)));refine da (ax rfl dH) ?_;refine ea 2 (ak rfl cg kU rfl) ?_;refine dm ?_;refine dm ?_;refine db (Gk rfl rfl) ?_;refine dm ?_;obtain⟨qt,SU,h⟩:=aa h;refine db (bm rfl SU) ?_;refine db (Gk rfl rfl) ?_;refine dw rfl rfl rfl (bC (t:=(.int .i64)) [(.const (.int .i64 (1)),_),(.const (.int .i64 (2)),_),(.const (.int .i64 (3)),_),(.tmp 62,_),(.tmp 65,_)] [1,2,3,pS 9 x4.2.2.2.2,pS 9 qt] rfl rfl eu (.cons rfl .int (.cons rfl .int (.cons rfl .int (.cons rfl .int (.cons rfl .int .nil))))) rfl rfl) ⟨rfl,rfl,rfl,rfl,rfl,trivial⟩ ?_;obtain⟨D,S9,h⟩:=aa h;refine KQ 0 rfl rfl rfl rfl (ao [.tmp 60,.tmp 66] rfl rfl Pz rfl (oH k (l.1,l.2.1,l.2.2.1) c [1,2,3,pS 9 x4.2.2.2.2,pS 9 qt] D S9)) ⟨rfl,rfl,trivial⟩ ?_;refine da (bC (t:=(.int .i64)) [(.tmp 67,_)] [D.1] rfl rfl eu (.cons rfl .int .nil) rfl rfl) ?_;refine KT (Δ':=[.obj b1 27 (.agg (.pair (I 0) (.pair (.eq (.slice none 0 0)) (.eq (.slice none 0 0))))),.obj b3 27 (.agg (.pair (I r2.1) (.pair (.eq z5) (.eq E)))),.sl z5 35 aG x4.2.2.2.1,.sl E 3 (.int .i64) l.2.2.2.1,.obj c 66 (.agg (.pair (Ri D.2.1) (.pair (I D.2.2.1) (.eq (.int .u64 D.2.2.2)))))]) (by kernel_rfl) dI (by kernel_rfl) ?_;obtain⟨Ua,SZ,h⟩:=aa h;refine fr 3 ?_;refine eC rfl rfl rfl (bZ rfl rfl eu (aH SZ)) ⟨rfl,rfl,trivial⟩ fun To=>?_;refine fl dH ?_;refine qK fun o38=>?_;refine fr 2 ?_;refine aY rfl rfl (aR rfl cg o38 rfl rfl) ⟨rfl,rfl,trivial⟩ ?_;refine ar (aP (tn (ab (mq ?_))));obtain⟨Ti,SS,h⟩:=aa h;refine jb (d5 rfl SS) ?_;refine aq (nl ?_);exact jz (To,(D.2.1,D.2.2.1,D.2.2.2,l.2.2.2.1++[D.1],Ti)) h [4,2,0,3,1]
   ·refine xa ?_;exact jz (E,(l.1,l.2.1,l.2.2.1,l.2.2.2.1)) h [0,1,2,3,4]
  ·refine aX (Z:=Unit) (α:=(List Int)×(List Int)×Int×Int) (fun pp y=>[(6,Pt b1),(7,Pt b3)]) (fun pp y=>[.obj b1 27 (.agg (.pair (I 0) (.pair (.eq (.slice none 0 0)) (.eq (.slice none 0 0))))),.obj b3 27 (.agg (.pair (I r2.1) (.pair (.eq z5) (.eq O)))),.sl z5 35 aG x4.2.2.2.1,.sl O 3 (.int .i64) y.1,.obj c 66 (.agg (.pair (Ri y.2.1) (.pair (I y.2.2.1) (.eq (.int .u64 y.2.2.2)))))]) h (fun K h=>?_) (fun pp y h=>?_)
   ·refine sr (mq ?_);obtain⟨F,S8,h⟩:=aa h;refine kb (ao [.tmp 71,.const (.int .i64 (2))] rfl rfl Py rfl (mV k (u.1,u.2.1,u.2.2.1) c 2 F S8)) ?_;refine nt (cv h (fun h=>?_) (fun h=>?_))
    ·refine ab (fl dH ?_);refine fr 2 ?_;refine lo cg ?_;refine mq ?_;refine jb (Gk rfl rfl) ?_;obtain⟨TO,mc,h⟩:=aa h;refine fr 4 ?_;refine kb (bb (t:=(.int .i64)) rfl eS co mc) ?_;refine aY rfl rfl (dU (i:=Int.toNat 0) rfl co rfl (jE mc) rfl .int rfl) ⟨rfl,rfl,trivial⟩ ?_;refine nl ?_;exact jz ((),(List.set u.2.2.2 (Int.toNat 0) (pS 9 x4.2.2.2.2),F.2.1,F.2.2.1,F.2.2.2)) h [3,1,4,0,2]
    ·refine ba (ae ?_);exact jz ((),(u.2.2.2,F.2.1,F.2.2.1,F.2.2.2)) h [1,2,3,4,0]
   ·refine sr (fr 1 ?_);refine fr 2 ?_;refine cO (ji (off:=1) [] trivial rfl rfl) ?_;refine fr 2 ?_;refine cO (ji (off:=2) [] trivial rfl rfl) ?_;refine lo fJ ?_;refine fr 1 ?_;refine aY rfl rfl (aR rfl fJ trivial rfl rfl) ⟨rfl,rfl,trivial⟩ ?_;refine nt (aC (bF (pG (a:=.agg (.pair (I r2.1) (.pair (Rs aG x4.2.2.2.1) (Ri y.1)))) (a':=.rep aw (r2.1,x4.2.2.2.1,y.1)) (yu (.agg (.pair .int (.pair .rep .rep))))) ?_));refine bF (SE.fin (Γ':=[(6,_)]) [2,0,1] ⟨rfl,trivial⟩ rfl) ?_;cases h;exact aL () [.rep aw (r2.1,x4.2.2.2.1,y.1)] 1 ⟨⟨_,_,_,_,_,rfl,(.tail _ (.head _)),fJ,(vL),rfl⟩,trivial⟩ rfl
def oG(k:Nat)(a0:Int)(a1:Int):Option Int:=
 (dY (a1≠0)).bind fun _=>
 (ck ((Int.tmod a0 a1)+a1)).bind fun x2=>
 (dY (a1≠0)).bind fun _=>
 some (Int.tmod x2 a1)
theorem zL(k:Nat)(a0:Int)(a1:Int)(r:Int)(h:oG k a0 a1=some r):
 cd Tryz.prog 52 [I a0,I a1] [] (fun _:Unit=>(bv [I r],[])):=by
 unfold oG at h
 replace h:=bg h
 refine cd.of 12 Tryz.func52 rfl Tryz.ntmps52 rfl fun S w0=>?_
 refine sr ?_
 refine cq ?_
 refine nt ?_
 refine sr ?_
 iterate 2 refine mq ?_
 obtain⟨u1,j,h⟩:=aa h
 refine jb (Gh rfl (aH j)) ?_
 refine mq ?_
 obtain⟨x2,c,h⟩:=aa h
 refine jb (bm rfl c) ?_
 refine mq ?_
 obtain⟨u3,e,h⟩:=aa h
 refine jb (Gh rfl (aH e)) ?_
 refine aq ?_
 refine nt ?_
 refine aC ?_
 cases h
 exact ra
def d6(k:Nat)(a1:Int):Nat→((List Int)×Int×Int×(List Int)×Int)→Option ((List Int)×(List Int)×Int×Int)
 |0,_=>none
 |n+1,y3=>
  if y3.2.2.2.2 < a1 then((dO k (y3.1,y3.2.1,y3.2.2.1) y3.2.2.2.2).bind fun r5=>
  (dY (bU (List.length y3.2.2.2.1+List.length [y3.2.2.2.2]))).bind fun _=>
  (a8 (y3.2.2.2.1++[y3.2.2.2.2]) r5.1).bind fun x8=>
  (a8 (y3.2.2.2.1++[y3.2.2.2.2]) y3.2.2.2.2).bind fun x9=>
  (a8 (List.set (y3.2.2.2.1++[y3.2.2.2.2]) (Int.toNat y3.2.2.2.2) x8) r5.1).bind fun e=>
  (ck (y3.2.2.2.2+1)).bind fun c=>
  d6 k a1 n (r5.2.1,r5.2.2.1,r5.2.2.2,List.set (List.set (y3.2.2.2.1++[y3.2.2.2.2]) (Int.toNat y3.2.2.2.2) x8) (Int.toNat r5.1) y3.2.2.2.2,c)) else(some (y3.2.2.2.1,y3.1,y3.2.1,y3.2.2.1))
def f7(k:Nat)(a0:bI)(a1:Int):Option ((List Int)×bI):=
 ((d6 k a1 k (a0.1,a0.2.1,a0.2.2,([]:(List Int)),0)):Option ((List Int)×(List Int)×Int×Int)).bind fun x1=>
 some (x1.1,(x1.2.1,x1.2.2.1,x1.2.2.2))
theorem rC(k:Nat)(a0:bI)(c:Nat)(a1:Int)(r:(List Int)×bI)(h:f7 k a0 a1=some r):
 cd Tryz.prog 67 [Pt c,I a1] [.obj c 66 (.agg (.pair (Ri a0.1) (.pair (I a0.2.1) (.eq (.int .u64 a0.2.2)))))] (fun _:Unit=>(bv [Ri r.1],[.obj c 66 (.agg (.pair (Ri r.2.1) (.pair (I r.2.2.1) (.eq (.int .u64 r.2.2.2)))))])):=by
 unfold f7 at h
 replace h:=bg h
 refine cd.of 32 Tryz.func67 rfl Tryz.ntmps67 rfl fun S w0=>?_
 refine sr ?_
 refine cq ?_
 refine nt ?_
 refine sr ?_
 refine cq ?_
 refine nt ?_
 refine aX (Z:=Value) (α:=(List Int)×(List Int)×Int×Int) (fun z2 x1=>[(5,.eq z2)]) (fun z2 x1=>[.sl z2 3 (.int .i64) x1.1,.obj c 66 (.agg (.pair (Ri x1.2.1) (.pair (I x1.2.2.1) (.eq (.int .u64 x1.2.2.2)))))]) h (fun K h=>?_) (fun z2 x1 h=>?_)
 ·
  refine sr (cq (nt (an ?_)));refine eG (SE.nil 3 (.int .i64)) ?_;refine aN (fun z4 y3=>[(0,Pt c),(1,I a1),(5,.eq z4),(6,I y3.2.2.2.2)]) (fun z4 y3=>[.obj c 66 (.agg (.pair (Ri y3.1) (.pair (I y3.2.1) (.eq (.int .u64 y3.2.2.1))))),.sl z4 3 (.int .i64) y3.2.2.2.1]) (d6 k a1) k (.slice none 0 0) (a0.1,a0.2.1,a0.2.2,([]:(List Int)),0) (fun _=>rfl) h (SE.fin [1,0] ⟨rfl,rfl,rfl,rfl,trivial⟩ rfl) (fun n z4 y3 h=>?_);unfold d6 at h;refine ah (sr ?_);iterate 2 refine mq ?_
  refine jb (bG rfl) ?_;refine nt (ci h (fun h=>?_) (fun h=>?_))
  ·refine sk (ah (an (sr ?_)));iterate 2 refine mq ?_
   obtain⟨r5,y,h⟩:=aa h;refine kb (ao [.tmp 13,.tmp 14] rfl rfl HL rfl (f6 k (y3.1,y3.2.1,y3.2.2.1) c y3.2.2.2.2 r5 y)) ?_;refine aq (nt (sr ?_));iterate 2 refine mq ?_
   refine ja (bC (t:=(.int .i64)) [(.tmp 17,_)] [y3.2.2.2.2] rfl rfl eu (.cons rfl .int .nil) rfl rfl) ?_;obtain⟨u6,x,h⟩:=aa h;refine fr 1 ?_;refine eC rfl rfl rfl (bZ rfl rfl eu (aH x)) ⟨rfl,rfl,trivial⟩ fun v7=>?_;refine aq (nt (ab ?_));iterate 6 refine mq ?_
   obtain⟨x8,l,h⟩:=aa h;refine kb (bb (t:=(.int .i64)) rfl eS co l) ?_;refine ka (fZ (i:=Int.toNat r5.1) (off:=0) rfl co (fun _=>rfl) rfl (bS l).2.2 rfl) ?_;refine mq ?_;obtain⟨x9,j,h⟩:=aa h;refine kb (bb (t:=(.int .i64)) rfl eS co j) ?_;refine aY rfl rfl (dU (i:=Int.toNat y3.2.2.2.2) rfl co rfl (jE j) rfl .int rfl) ⟨rfl,rfl,trivial⟩ ?_;obtain⟨D,e,h⟩:=aa h;refine kb (bb (t:=(.int .i64)) rfl eS co e) ?_;refine aY rfl rfl (dU (i:=Int.toNat r5.1) rfl co rfl (jE e) rfl .int rfl) ⟨rfl,rfl,trivial⟩ ?_;refine ar (aP (tn (ab (mq ?_))));obtain⟨u,s,h⟩:=aa h;refine jb (bm rfl s) ?_;refine aq (nl ?_);exact jz (v7,(r5.2.1,r5.2.2.1,r5.2.2.2,List.set (List.set (y3.2.2.2.1++[y3.2.2.2.2]) (Int.toNat y3.2.2.2.2) x8) (Int.toNat r5.1) y3.2.2.2.2,u)) h [1,0]
  ·refine xa ?_;exact jz (z4,(y3.2.2.2.1,y3.1,y3.2.1,y3.2.2.1)) h [1,0]
 ·
  refine sr (mq ?_);refine aq (nt (aC ?_));refine bF (gZ [4,5,31] ⟨rfl,rfl,rfl,trivial⟩) ?_;cases h;exact aL () [_] 1 ⟨rfl,trivial⟩ rfl
def dk(k:Nat)(a1:be)(r7:(List Int)×bI)(c:(List Int)×Int×Int×(List Int)×Int×(List (List Int)))(e:Int×bI):Nat→(Int×(List (List Int)))→Option ((List Int)×Int×Int×(List Int)×(List (List Int)))
 |0,_=>none
 |n+1,h=>
  if h.1 < (c.2.2.2.1.length:Int) then((ck (e.1+h.1)).bind fun O=>
  (oG k O (c.2.2.2.1.length:Int)).bind fun j=>
  (((a8 c.2.2.2.1 j).bind fun M=>
  (a8 r7.1 c.2.2.2.2.1).bind fun J=>
  (a8 a1.2.1 J).bind fun I=>
  if I.1≤M then(some (true,h.2)) else((ck ((c.2.2.2.1.length:Int) - 1)).bind fun F=>
  some (decide (h.1=F),h.2))):Option (Bool×(List (List Int)))).bind fun l=>
  if l.1=true then((a8 l.2 j).bind fun s=>
  (a8 r7.1 c.2.2.2.2.1).bind fun r=>
  (dY (bU (List.length s+List.length [r]))).bind fun _=>
  (a8 c.2.2.2.1 j).bind fun E=>
  (a8 r7.1 c.2.2.2.2.1).bind fun D=>
  (a8 a1.2.1 D).bind fun y=>
  (ck (E - y.1)).bind fun x=>
  (a8 c.2.2.2.1 j).bind fun Q=>
  some (e.2.1,e.2.2.1,e.2.2.2,List.set c.2.2.2.1 (Int.toNat j) x,List.set l.2 (Int.toNat j) (s++[r]))) else((ck (h.1+1)).bind fun u=>
  dk k a1 r7 c e n (u,l.2))) else(some (e.2.1,e.2.2.1,e.2.2.2,c.2.2.2.1,h.2))
def eV(k:Nat)(a1:be)(r7:(List Int)×bI):Nat→((List Int)×Int×Int×(List Int)×Int×(List (List Int)))→Option ((List Int)×Int×Int×(List (List Int)))
 |0,_=>none
 |n+1,c=>
  if c.2.2.2.2.1 < (r7.1.length:Int) then((((ck ((c.2.2.2.1.length:Int) - 1)).bind fun j=>
  (dO k (c.1,c.2.1,c.2.2.1) j).bind fun l=>
  dk k a1 r7 c l k (0,c.2.2.2.2.2)):Option ((List Int)×Int×Int×(List Int)×(List (List Int)))).bind fun e=>
  (ck (c.2.2.2.2.1+1)).bind fun h=>
  eV k a1 r7 n (e.1,e.2.1,e.2.2.1,e.2.2.2.1,h,e.2.2.2.2)) else(some (c.1,c.2.1,c.2.2.1,c.2.2.2.2.2))
def gX(k:Nat)(a0:bI)(a1:be):Option ((List (List Int))×bI):=
 (dY (0≤(a1.2.2.length:Int)∧bU (Int.toNat (a1.2.2.length:Int)))).bind fun _=>
 (dY (bU (List.length ([]:(List Int))+List.length a1.2.2))).bind fun _=>
 (f7 k (a0.1,a0.2.1,a0.2.2) (a1.2.1.length:Int)).bind fun r7=>
 ((eV k a1 r7 k (r7.2.1,r7.2.2.1,r7.2.2.2,([]:(List Int))++a1.2.2,0,List.replicate (Int.toNat (a1.2.2.length:Int)) ([]:(List Int)))):Option ((List Int)×Int×Int×(List (List Int)))).bind fun x8=>
 some (x8.2.2.2,(x8.1,x8.2.1,x8.2.2.1))
theorem sO(k:Nat)(a0:bI)(e:Nat)(a1:be)(r:(List (List Int))×bI)(h:gX k a0 a1=some r):
 cd Tryz.prog 32 [Pt e,.rep aw a1] [.obj e 66 (.agg (.pair (Ri a0.1) (.pair (I a0.2.1) (.eq (.int .u64 a0.2.2)))))] (fun _:Unit=>(bv [.rep (.slice (.slice (.int .i64))) r.1],[.obj e 66 (.agg (.pair (Ri r.2.1) (.pair (I r.2.2.1) (.eq (.int .u64 r.2.2.2)))))])):=by
 unfold gX at h
 replace h:=bg h
 refine cd.of 100 Tryz.func32 rfl Tryz.ntmps32 rfl fun S w0=>?_
 refine sr ?_
 refine bx fun b1=>?_
 refine cq ?_
 refine nt ?_
 refine sr ?_
 refine fl dH ?_
 refine lo cg ?_
 refine ol eS ?_
 obtain⟨u2,TK,h⟩:=aa h
 refine aE rfl rfl rfl (Gm (t:=.val) (d:=.slice none 0 0) rfl uh NQ (aH TK).1 (aH TK).2) ⟨rfl,rfl,trivial⟩ fun v3=>?_
 refine cO (Ie (F:=[.obj b1 27 (.rep aw a1),.obj e 66 (.agg (.pair (Ri a0.1) (.pair (I a0.2.1) (.eq (.int .u64 a0.2.2)))))])) ?_
 refine aq ?_
 refine nt ?_
 refine sr ?_
 refine aE rfl rfl rfl (nn (t:=(.int .i64)) [] ([]:(List Int)) rfl rfl eu .nil rfl rfl) trivial fun v4=>?_
 refine fl dH ?_
 refine fr 1 ?_
 refine lo cg ?_
 obtain⟨u5,Ud,h⟩:=aa h
 refine fr 1 ?_
 refine eC rfl rfl rfl (bZ rfl rfl eu (aH Ud)) ⟨rfl,rfl,trivial⟩ fun v6=>?_
 refine aq ?_
 refine nt ?_
 refine sr ?_
 refine mq ?_
 refine fl cC ?_
 refine fr 1 ?_
 refine lo ic ?_
 refine ol nY ?_
 obtain⟨r7,Ue,h⟩:=aa h
 have Uf:=rC k (a0.1,a0.2.1,a0.2.2) e (a1.2.1.length:Int) r7 Ue
 refine fr 2 ?_
 refine kb (ao [.tmp 20,.tmp 23] rfl rfl Rt rfl Uf) ?_
 refine aq ?_
 refine nt ?_
 refine aX (Z:=(Value×(Nat→Value))) (α:=(List Int)×Int×Int×(List (List Int))) (fun z9 x8=>[(5,.eq z9.1)]) (fun z9 x8=>[.obj e 66 (.agg (.pair (Ri x8.1) (.pair (I x8.2.1) (.eq (.int .u64 x8.2.2.1)))))]++ge 22 z9 x8.2.2.2) h (fun K h=>?_) (fun z9 x8 h=>?_)
 ·
  refine sr (cq (nt (an ?_)));refine aN (Z:=(Value×(Nat→Value))) (α:=(List Int)×Int×Int×(List Int)×Int×(List (List Int))) (fun Q j=>[(0,Pt e),(3,Pt b1),(5,.eq Q.1),(6,.eq v6),(7,Ri r7.1),(8,I j.2.2.2.2.1)]) (fun Q j=>[.obj e 66 (.agg (.pair (Ri j.1) (.pair (I j.2.1) (.eq (.int .u64 j.2.2.1))))),.obj b1 27 (.rep aw a1),.sl v6 3 (.int .i64) j.2.2.2.1]++ge 22 Q j.2.2.2.2.2) (eV k a1 r7) k (v3,fun _=>.slice none 0 0) (r7.2.1,r7.2.2.1,r7.2.2.2,([]:(List Int))++a1.2.2,0,List.replicate (Int.toNat (a1.2.2.length:Int)) ([]:(List Int))) (fun _=>rfl) h (bh [.obj e 66 (.agg (.pair (Ri r7.2.1) (.pair (I r7.2.2.1) (.eq (.int .u64 r7.2.2.2))))),.obj b1 27 (.rep aw a1),.sl v6 3 (.int .i64) (([]:(List Int))++a1.2.2)] (ge 22 (v3,fun _=>.slice none 0 0) (List.replicate (Int.toNat (a1.2.2.length:Int)) ([]:(List Int)))) [0,1,2] ⟨rfl,rfl,rfl,rfl,rfl,rfl,trivial⟩ rfl) (fun n Q j h=>?_);unfold eV at h;refine ah (sr ?_);iterate 2 refine mq ?_
  refine ol eS ?_;refine jb (bG rfl) ?_;refine nt (ci h (fun h=>?_) (fun h=>?_))
  ·refine sk (aX (Z:=(Value×(Nat→Value))) (α:=(List Int)×Int×Int×(List Int)×(List (List Int))) (fun X u=>[(0,Pt e),(3,Pt b1),(5,.eq X.1),(6,.eq v6),(7,Ri r7.1),(8,I j.2.2.2.2.1)]) (fun X u=>[.obj e 66 (.agg (.pair (Ri u.1) (.pair (I u.2.1) (.eq (.int .u64 u.2.2.1))))),.obj b1 27 (.rep aw a1),.sl v6 3 (.int .i64) u.2.2.2.1]++ge 22 X u.2.2.2.2) h (fun K h=>?_) (fun X u h=>?_))
   ·refine an (sr ?_);iterate 2 refine mq ?_
    refine fr 2 ?_;refine ka (dx rfl rfl eS) ?_;obtain⟨TS,TG,h⟩:=aa h;refine jb (d5 rfl TG) ?_;obtain⟨c,TM,h⟩:=aa h;refine fr 1 ?_;refine kb (ao [.tmp 31,.tmp 34] rfl rfl HL rfl (f6 k (j.1,j.2.1,j.2.2.1) e TS c TM)) ?_;refine aq (nt (sr ?_));refine cq (nt (an ?_));refine aN (Z:=(Value×(Nat→Value))) (α:=Int×(List (List Int))) (fun E y=>[(0,Pt e),(3,Pt b1),(5,.eq E.1),(6,.eq v6),(7,Ri r7.1),(8,I j.2.2.2.2.1),(9,I c.1),(10,I y.1)]) (fun E y=>[.obj e 66 (.agg (.pair (Ri c.2.1) (.pair (I c.2.2.1) (.eq (.int .u64 c.2.2.2))))),.obj b1 27 (.rep aw a1),.sl v6 3 (.int .i64) j.2.2.2.1]++ge 22 E y.2) (dk k a1 r7 j c) k Q (0,j.2.2.2.2.2) (fun _=>rfl) h (bh [.obj e 66 (.agg (.pair (Ri c.2.1) (.pair (I c.2.2.1) (.eq (.int .u64 c.2.2.2))))),.sl v6 3 (.int .i64) j.2.2.2.1,.obj b1 27 (.rep aw a1)] (ge 22 Q j.2.2.2.2.2) [0,2,1] ⟨rfl,rfl,rfl,rfl,rfl,rfl,rfl,rfl,trivial⟩ rfl) (fun n E y h=>?_);unfold dk at h;refine ah (sr ?_);iterate 2 refine mq ?_
    refine fr 2 ?_;refine ka (dx rfl rfl eS) ?_;refine jb (bG rfl) ?_;refine nt (ci h (fun h=>?_) (fun h=>?_))
    ·refine sk (ah (an (sr ?_)));iterate 2 refine mq ?_
     obtain⟨TR,TF,h⟩:=aa h;refine jb (bm rfl TF) ?_;refine mq ?_;refine ka (dx rfl rfl eS) ?_;obtain⟨s,TL,h⟩:=aa h;refine jb (ao [.tmp 44,.tmp 46] rfl rfl RA rfl (zL k TR (j.2.2.2.1.length:Int) s TL)) ?_;refine aq (nt ?_);refine aX (Z:=(Value×(Nat→Value))) (α:=Bool×(List (List Int))) (fun l x=>[(0,Pt e),(3,Pt b1),(5,.eq l.1),(6,.eq v6),(7,Ri r7.1),(8,I j.2.2.2.2.1),(9,I c.1),(10,I y.1),(11,I s),(68,.eq (.bool x.1))]) (fun l x=>[.obj e 66 (.agg (.pair (Ri c.2.1) (.pair (I c.2.2.1) (.eq (.int .u64 c.2.2.2))))),.obj b1 27 (.rep aw a1),.sl v6 3 (.int .i64) j.2.2.2.1]++ge 22 l x.2) h (fun K h=>?_) (fun l x h=>?_)
     ·refine cz ?_;refine dm ?_;refine dm ?_;obtain⟨UI,mc,h⟩:=aa h;refine eb 0 (bb (t:=(.int .i64)) rfl eS co mc) ?_;refine ea 0 (fZ (i:=Int.toNat s) (off:=0) rfl co (fun _=>rfl) rfl (bS mc).2.2 rfl) ?_;refine da (ax rfl cC) ?_;refine ea 2 (ak rfl ic kU rfl) ?_;refine dm ?_;refine dm ?_;obtain⟨UH,TD,h⟩:=aa h;refine db (aM (t:=(.int .i64)) rfl eS co TD) ?_;refine da (ap (t:=(.int .i64)) rfl co rfl) ?_;obtain⟨UG,TC,h⟩:=aa h;refine db (aM (t:=aG) rfl nY jH TC) ?_;refine da (aI 1 false rfl ny rfl) ?_;refine da (ap (t:=(.int .i64)) rfl co rfl) ?_;refine db (pW rfl) ?_;refine tZ rfl rfl rfl (aO rfl) ⟨rfl,trivial⟩ (fun hb=>?_) (fun hb=>?_)
      ·replace h:=cU (nz hb) h;iterate 4 refine dg ?_
       refine df dI ?_;refine gn ?_;refine pt (nl ?_);exact iR (E,(true,y.2)) h (bh [.sl v6 3 (.int .i64) j.2.2.2.1,.obj e 66 (.agg (.pair (Ri c.2.1) (.pair (I c.2.2.1) (.eq (.int .u64 c.2.2.2))))),.obj b1 27 (.rep aw a1)] (ge 22 E y.2) [1,2,0] ⟨rfl,rfl,rfl,rfl,rfl,rfl,rfl,rfl,rfl,rfl,trivial⟩ rfl)
      ·replace h:=bT (m4 hb) h;refine cr rfl rfl rfl rfl rfl (aO rfl) ⟨rfl,rfl,trivial⟩ ?_;refine cr rfl rfl rfl rfl rfl (aO rfl) ⟨rfl,rfl,trivial⟩ ?_;refine mi 0 rfl rfl rfl rfl rfl rfl (dx rfl rfl eS) ⟨rfl,rfl,trivial⟩ ?_;obtain⟨TP,TB,h⟩:=aa h;refine cr rfl rfl rfl rfl rfl (d5 rfl TB) ⟨rfl,rfl,rfl,trivial⟩ ?_;refine df dI ?_;refine gb (eE rfl) ?_;refine pf (nl ?_);exact iR (E,(decide (y.1=TP),y.2)) h (bh [.sl v6 3 (.int .i64) j.2.2.2.1,.obj e 66 (.agg (.pair (Ri c.2.1) (.pair (I c.2.2.1) (.eq (.int .u64 c.2.2.2))))),.obj b1 27 (.rep aw a1)] (ge 22 E y.2) [1,2,0] ⟨rfl,rfl,rfl,rfl,rfl,rfl,rfl,rfl,rfl,rfl,trivial⟩ rfl)
     ·refine cv h (fun h=>?_) (fun h=>?_)
      ·refine ah ?_;obtain⟨O,J,h⟩:=aa h;refine eG (xc (pre:=[.obj e 66 (.agg (.pair (Ri c.2.1) (.pair (I c.2.2.1) (.eq (.int .u64 c.2.2.2))))),.obj b1 27 (.rep aw a1),.sl v6 3 (.int .i64) j.2.2.2.1]) (tU J).2) ?_;obtain⟨M,TA,h⟩:=aa h;obtain⟨Ve,TJ,h⟩:=aa h;obtain⟨UF,ac,h⟩:=aa h;obtain⟨UE,Tz,h⟩:=aa h;obtain⟨UD,Tv,h⟩:=aa h;obtain⟨U,Tt,h⟩:=aa h;obtain⟨UC,Y,h⟩:=aa h;refine vt (Δ:=[.sl (l.2 (Int.toNat s)) 3 (.int .i64) O,.sl l.1 22 .val (fj l.2 0 x.2),.obj e 66 (.agg (.pair (Ri c.2.1) (.pair (I c.2.2.1) (.eq (.int .u64 c.2.2.2))))),.obj b1 27 (.rep aw a1),.sl v6 3 (.int .i64) j.2.2.2.1]) (F:=(k9 l.2 0 x.2).eraseIdx (Int.toNat s)) (Z:=Value) (fun i=>[(0,Pt e),(3,Pt b1),(5,.eq l.1),(6,.eq v6),(7,Ri r7.1),(8,I j.2.2.2.2.1)]) (fun i=>[.sl v6 3 (.int .i64) (List.set j.2.2.2.1 (Int.toNat s) U),.sl l.1 22 .val (List.set (fj l.2 0 x.2) (Int.toNat s) i),.sl i 3 (.int .i64) (O++[M]),.obj e 66 (.agg (.pair (Ri c.2.1) (.pair (I c.2.2.1) (.eq (.int .u64 c.2.2.2))))),.obj b1 27 (.rep aw a1)]) (fun S w=>?_) (fun D=>?_)
       ·refine gQ ?_;refine aF rfl rfl rfl (aO rfl) ⟨rfl,trivial⟩ ?_;refine aF rfl rfl rfl (aO rfl) ⟨rfl,trivial⟩ ?_;refine aF rfl rfl rfl (aO rfl) ⟨rfl,trivial⟩ ?_;refine aF rfl rfl rfl (aO rfl) ⟨rfl,trivial⟩ ?_;refine aF rfl rfl rfl (aO rfl) ⟨rfl,trivial⟩ ?_;refine aF rfl rfl rfl (aO rfl) ⟨rfl,trivial⟩ ?_;refine cp 1 rfl rfl rfl rfl (bb (t:=.val) rfl nX cg (pi J)) ⟨rfl,rfl,trivial⟩ ?_;refine cp 1 rfl rfl rfl rfl (fZ (i:=Int.toNat s) (off:=0) rfl cg (fun _=>rfl) rfl (bS (pi J)).2.2 rfl) ⟨rfl,trivial⟩ ?_;refine aF rfl rfl rfl (aO rfl) ⟨rfl,trivial⟩ ?_;refine aF rfl rfl rfl (aO rfl) ⟨rfl,trivial⟩ ?_;refine aF rfl rfl rfl (aM (t:=(.int .i64)) rfl eS co TA) ⟨rfl,rfl,trivial⟩ ?_;refine aF rfl rfl rfl (ap (t:=(.int .i64)) rfl co rfl) ⟨rfl,trivial⟩ ?_;refine aF rfl rfl rfl (bC (t:=(.int .i64)) [(.tmp 80,_)] [M] rfl rfl eu (.cons rfl .int .nil) rfl rfl) ⟨rfl,trivial⟩ ?_;refine o4 0 rfl (fun v=>[.sl v 3 (.int .i64) (O++[M])]) (fun _=>rfl) rfl rfl rfl (bZ rfl rfl eu (aH TJ)) ⟨rfl,rfl,trivial⟩ ?_;refine aF rfl rfl rfl (aO rfl) ⟨rfl,trivial⟩ ?_;refine aF rfl rfl rfl (aO rfl) ⟨rfl,trivial⟩ ?_;refine cp 4 rfl rfl rfl rfl (bb (t:=(.int .i64)) rfl eS co ac) ⟨rfl,rfl,trivial⟩ ?_;refine cp 4 rfl rfl rfl rfl (fZ (i:=Int.toNat s) (off:=0) rfl co (fun _=>rfl) rfl (bS ac).2.2 rfl) ⟨rfl,trivial⟩ ?_;refine aF rfl rfl rfl (ax rfl cC) ⟨rfl,trivial⟩ ?_;refine cp 3 rfl rfl rfl rfl (ak rfl ic kU rfl) ⟨rfl,trivial⟩ ?_;refine aF rfl rfl rfl (aO rfl) ⟨rfl,trivial⟩ ?_;refine aF rfl rfl rfl (aO rfl) ⟨rfl,trivial⟩ ?_;refine aF rfl rfl rfl (aM (t:=(.int .i64)) rfl eS co Tz) ⟨rfl,rfl,trivial⟩ ?_;refine aF rfl rfl rfl (ap (t:=(.int .i64)) rfl co rfl) ⟨rfl,trivial⟩ ?_;refine aF rfl rfl rfl (aM (t:=aG) rfl nY jH Tv) ⟨rfl,rfl,trivial⟩ ?_;refine aF rfl rfl rfl (aI 1 false rfl ny rfl) ⟨rfl,trivial⟩ ?_;refine aF rfl rfl rfl (ap (t:=(.int .i64)) rfl co rfl) ⟨rfl,trivial⟩ ?_;refine aF rfl rfl rfl (d5 rfl Tt) ⟨rfl,rfl,trivial⟩ ?_;refine cp 1 rfl rfl rfl rfl (bb (t:=.val) rfl nX cg (pi J)) ⟨rfl,rfl,trivial⟩ ?_;refine kK 29 [true,true,false,false,true,true,true,true,true,true,true,true,true,true,true,true,true,true,true,true,true,true,true,true,true,true,true,false,true] [98] [] [] rfl (by kernel_rfl) (by kernel_rfl) (by kernel_rfl) dI (fun vs hv hB=>?_);obtain⟨w0,Vd,rfl,Uc⟩:=aj hv;obtain⟨w1,Vb,rfl,Ub⟩:=aj Uc;obtain⟨w2,Va,rfl,Ua⟩:=aj Ub;obtain⟨w3,U8,rfl,T9⟩:=aj Ua;obtain⟨w4,U7,rfl,T8⟩:=aj T9;obtain⟨w5,U6,rfl,TZ⟩:=aj T8;obtain⟨w6,U4,rfl,TY⟩:=aj TZ;obtain⟨w7,U2,rfl,TX⟩:=aj TY;obtain⟨w8,U1,rfl,TU⟩:=aj TX;obtain⟨w9,UB,rfl,Tm⟩:=aj TU;obtain⟨U0,UA,rfl,Tj⟩:=aj Tm;obtain⟨UZ,Uz,rfl,Ti⟩:=aj Tj;obtain⟨UY,Uy,rfl,Tf⟩:=aj Ti;obtain⟨D,Ux,rfl,Td⟩:=aj Tf;obtain⟨UX,Uw,rfl,Ta⟩:=aj Td;obtain⟨UW,Uu,rfl,S9⟩:=aj Ta;obtain⟨UV,Ut,rfl,S8⟩:=aj S9;obtain⟨UU,Us,rfl,S7⟩:=aj S8;obtain⟨UT,Ur,rfl,S5⟩:=aj S7;obtain⟨US,Up,rfl,SZ⟩:=aj S5;obtain⟨UR,Uo,rfl,SY⟩:=aj SZ;obtain⟨UQ,Un,rfl,SX⟩:=aj SY;obtain⟨UP,Um,rfl,SV⟩:=aj SX;obtain⟨UO,Ul,rfl,SU⟩:=aj SV;obtain⟨UN,Uk,rfl,SS⟩:=aj SU;obtain⟨UM,Uj,rfl,SR⟩:=aj SS;obtain⟨UL,Ui,rfl,se⟩:=aj SR
        obtain⟨UK,Uh,rfl,qt⟩:=aj se;obtain⟨UJ,Ug,rfl,pp⟩:=aj qt;obtain rfl:=i7 pp;refine⟨[0,1,2,3,4],[.sl l.1 22 .val (fj l.2 0 x.2),.obj e 66 (.agg (.pair (Ri c.2.1) (.pair (I c.2.2.1) (.eq (.int .u64 c.2.2.2))))),.obj b1 27 (.rep aw a1),.sl v6 3 (.int .i64) j.2.2.2.1,.sl D 3 (.int .i64) (O++[M])],by kernel_rfl,by decide,?_⟩;refine dp 4 rfl ?_;refine oZ fun o34=>?_;refine dp 1 rfl ?_;refine kJ rfl rfl (dU (i:=Int.toNat s) rfl cg rfl (jE (pi J)) rfl (.val o34) o34) ⟨rfl,rfl,trivial⟩ (by kernel_rfl) ?_;refine dp 4 rfl ?_;refine ta rfl rfl rfl rfl (bb (t:=(.int .i64)) rfl eS co Y) ⟨rfl,rfl,trivial⟩ (by kernel_rfl) ?_;refine kJ rfl rfl (dU (i:=Int.toNat s) rfl co rfl (jE Y) rfl .int rfl) ⟨rfl,rfl,trivial⟩ (by kernel_rfl) ?_;refine nD ?_;refine bF (SE.fin (Γ':=[(0,Pt e),(3,Pt b1),(5,.eq l.1),(6,.eq v6),(7,Ri r7.1),(8,I j.2.2.2.2.1)]) (Δ':=[.sl v6 3 (.int .i64) (List.set j.2.2.2.1 (Int.toNat s) U),.sl l.1 22 .val (List.set (fj l.2 0 x.2) (Int.toNat s) D),.sl D 3 (.int .i64) (O++[M]),.obj e 66 (.agg (.pair (Ri c.2.1) (.pair (I c.2.2.1) (.eq (.int .u64 c.2.2.2))))),.obj b1 27 (.rep aw a1)]) [0,1,2,3,4] ⟨rfl,rfl,rfl,rfl,rfl,rfl,trivial⟩ rfl) ?_;exact fun a w st=>⟨rfl,(D),(SE.fin (Γ':=[(0,Pt e),(3,Pt b1),(5,.eq l.1),(6,.eq v6),(7,Ri r7.1),(8,I j.2.2.2.2.1)]) (Δ':=[.sl v6 3 (.int .i64) (List.set j.2.2.2.1 (Int.toNat s) U),.sl l.1 22 .val (List.set (fj l.2 0 x.2) (Int.toNat s) D),.sl D 3 (.int .i64) (O++[M]),.obj e 66 (.agg (.pair (Ri c.2.1) (.pair (I c.2.2.1) (.eq (.int .u64 c.2.2.2))))),.obj b1 27 (.rep aw a1)]) [0,1,2,3,4] ⟨rfl,rfl,rfl,rfl,rfl,rfl,trivial⟩ rfl) a w st⟩
       ·show JN _ _ [(0,Pt e),(3,Pt b1),(5,.eq l.1),(6,.eq v6),(7,Ri r7.1),(8,I j.2.2.2.2.1)] ([.sl v6 3 (.int .i64) (List.set j.2.2.2.1 (Int.toNat s) U),.sl l.1 22 .val (List.set (fj l.2 0 x.2) (Int.toNat s) D),.sl D 3 (.int .i64) (O++[M]),.obj e 66 (.agg (.pair (Ri c.2.1) (.pair (I c.2.2.1) (.eq (.int .u64 c.2.2.2))))),.obj b1 27 (.rep aw a1)]++(k9 l.2 0 x.2).eraseIdx (Int.toNat s));refine c9 1 rfl ?_;refine c9 2 rfl ?_;refine bF (BQ (pre:=[.sl v6 3 (.int .i64) (List.set j.2.2.2.1 (Int.toNat s) U),.obj e 66 (.agg (.pair (Ri c.2.1) (.pair (I c.2.2.1) (.eq (.int .u64 c.2.2.2))))),.obj b1 27 (.rep aw a1)]) (z:=l) (i:=Int.toNat s) (tU J).2) ?_;refine tn (dD (Aq (eq_false (by decide)) ?_));refine aQ (aQ (bR (bn ?_)));exact iR ((l.1,nV l.2 (Int.toNat s) D),(c.2.1,c.2.2.1,c.2.2.2,List.set j.2.2.2.1 (Int.toNat s) U,List.set x.2 (Int.toNat s) (O++[M]))) h (bh [.sl v6 3 (.int .i64) (List.set j.2.2.2.1 (Int.toNat s) U),.obj e 66 (.agg (.pair (Ri c.2.1) (.pair (I c.2.2.1) (.eq (.int .u64 c.2.2.2))))),.obj b1 27 (.rep aw a1)] (ge 22 (l.1,nV l.2 (Int.toNat s) D) (List.set x.2 (Int.toNat s) (O++[M]))) [1,2,0] ⟨rfl,rfl,rfl,rfl,rfl,rfl,trivial⟩ rfl)
      ·refine ba (aP (tn (ab (mq ?_))));obtain⟨TO,To,h⟩:=aa h;refine jb (bm rfl To) ?_;refine aq (nl ?_);exact iR (l,(TO,x.2)) h (bh [.obj e 66 (.agg (.pair (Ri c.2.1) (.pair (I c.2.2.1) (.eq (.int .u64 c.2.2.2))))),.obj b1 27 (.rep aw a1),.sl v6 3 (.int .i64) j.2.2.2.1] (ge 22 l x.2) [0,1,2] ⟨rfl,rfl,rfl,rfl,rfl,rfl,rfl,rfl,trivial⟩ rfl)
    ·refine dD (aQ (aQ (bR (bn ?_))));exact iR (E,(c.2.1,c.2.2.1,c.2.2.2,j.2.2.2.1,y.2)) h (bh [.sl v6 3 (.int .i64) j.2.2.2.1,.obj e 66 (.agg (.pair (Ri c.2.1) (.pair (I c.2.2.1) (.eq (.int .u64 c.2.2.2))))),.obj b1 27 (.rep aw a1)] (ge 22 E y.2) [1,2,0] ⟨rfl,rfl,rfl,rfl,rfl,rfl,trivial⟩ rfl)
   ·refine ab (mq ?_);obtain⟨TN,Tn,h⟩:=aa h;refine jb (bm rfl Tn) ?_;refine aq (nl ?_);exact iR (X,(u.1,u.2.1,u.2.2.1,u.2.2.2.1,TN,u.2.2.2.2)) h (bh [.obj e 66 (.agg (.pair (Ri u.1) (.pair (I u.2.1) (.eq (.int .u64 u.2.2.1))))),.obj b1 27 (.rep aw a1),.sl v6 3 (.int .i64) u.2.2.2.1] (ge 22 X u.2.2.2.2) [0,1,2] ⟨rfl,rfl,rfl,rfl,rfl,rfl,trivial⟩ rfl)
  ·refine xa ?_;exact iR (Q,(j.1,j.2.1,j.2.2.1,j.2.2.2.2.2)) h (bh [.obj e 66 (.agg (.pair (Ri j.1) (.pair (I j.2.1) (.eq (.int .u64 j.2.2.1))))),.obj b1 27 (.rep aw a1),.sl v6 3 (.int .i64) j.2.2.2.1] (ge 22 Q j.2.2.2.2.2) [0] ⟨rfl,trivial⟩ rfl)
 ·
  refine sr (mq ?_);refine aq (nt (aC ?_));refine bF (If (pre:=[.obj e 66 (.agg (.pair (Ri x8.1) (.pair (I x8.2.1) (.eq (.int .u64 x8.2.2.1)))))])) ?_;refine bF (gZ [4,5,99] ⟨rfl,rfl,rfl,trivial⟩) ?_;cases h;exact aL () [_] 1 ⟨rfl,trivial⟩ rfl
def gx(k:Nat)(a0:Int)(a1:Int)(a2:Int):Option Bool:=
 ((if a1≤a0 then(some (decide (a0≤a2))) else(some false)):Option (Bool)).bind fun x1=>
 some x1
theorem iO(k:Nat)(a0:Int)(a1:Int)(a2:Int)(r:Bool)(h:gx k a0 a1 a2=some r):
 cd Tryz.prog 87 [I a0,I a1,I a2] [] (fun _:Unit=>(bv [.eq (.bool r)],[])):=by
 unfold gx at h
 replace h:=bg h
 refine cd.of 15 Tryz.func87 rfl Tryz.ntmps87 rfl fun S w0=>?_
 refine sr ?_
 refine cq ?_
 refine nt ?_
 refine aX (Z:=Unit) (α:=Bool) (fun z2 x1=>[(6,.eq (.bool x1))]) (fun z2 x1=>[]) h (fun K h=>?_) (fun z2 x1 h=>?_)
 ·
  refine ab ?_;iterate 2 refine mq ?_
  refine jb (pW rfl) ?_;refine mq ?_;refine cm (s:=10) rfl (fun hb=>?_) (fun hb=>?_)
  ·replace h:=cU (nz hb) h;refine gm ?_;refine gm ?_;refine gb (uH rfl) ?_;refine pt ?_;refine aq (nl ?_);exact jz ((),decide (a0≤a2)) h []
  ·replace h:=bT (m4 hb) h;iterate 3 refine gn ?_
   refine pf ?_;refine aq (nl ?_);exact jz ((),false) h []
 ·
  refine aC ?_;cases h;exact ra
def fB(k:Nat)(a0:be)(e:cR):Nat→Int→Option (Except Int Unit)
 |0,_=>none
 |n+1,c=>
  if c < (e.2.length:Int) then((a8 e.2 c).bind fun x=>
  (ck (a0.1 - 1)).bind fun u=>
  (gx k x 0 u).bind fun y=>
  if¬(y=true) then(some (.error 1)) else(((if 0 < c then((a8 e.2 c).bind fun r=>
  (ck (c - 1)).bind fun l=>
  (a8 e.2 l).bind fun j=>
  some (decide (r≤j))) else(some false)):Option (Bool)).bind fun s=>
  if s=true then(some (.error 5)) else((ck (c+1)).bind fun h=>
  fB k a0 e n h))) else(some (.ok ()))
def fC(k:Nat)(a0:be):Nat→Int→Option (Except Int Unit)
 |0,_=>none
 |n+1,y5=>
  if y5 < (a0.2.1.length:Int) then(bE (α:=Unit) ((a8 a0.2.1 y5).bind fun x9=>
  (gx k x9.1 1 3).bind fun j=>
  if¬(j=true) then(some (.error 1)) else((a8 a0.2.1 y5).bind fun h=>
  fB k a0 h k 0)) (fun e=>some (.error e)) fun _=>
  (ck (y5+1)).bind fun c=>
  fC k a0 n c) else(some (.ok ()))
def fA(k:Nat)(a0:be):Nat→Int→Option (Except Int Unit)
 |0,_=>none
 |n+1,c=>
  if c < (a0.2.2.length:Int) then((a8 a0.2.2 c).bind fun h=>
  (gx k h 0 9).bind fun j=>
  if¬(j=true) then(some (.error 1)) else((ck (c+1)).bind fun e=>
  fA k a0 n e)) else(some (.ok ()))
def mN(k:Nat)(a0:be):Option Int:=
 (gx k a0.1 1 6).bind fun r2=>
 if¬(r2=true) then(some 1) else(if 5 < (a0.2.1.length:Int) then(some 6) else(bE (α:=Unit) (fC k a0 k 0) (some) fun _=>
 if(a0.2.2.length:Int)=0 then(some 7) else(if 3 < (a0.2.2.length:Int) then(some 6) else(bE (α:=Unit) (fA k a0 k 0) (some) fun _=>
 some 0))))
theorem xw(k:Nat)(a0:be)(r:Int)(h:mN k a0=some r):
 cd Tryz.prog 54 [.rep aw a0] [] (fun _:Unit=>(bv [I r],[])):=by
 unfold mN at h
 replace h:=bg h
 refine cd.of 87 Tryz.func54 rfl Tryz.ntmps54 rfl fun S w0=>?_
 refine sr ?_
 refine bx fun b1=>?_
 refine cq ?_
 refine nt ?_
 refine ah ?_
 refine sr ?_
 refine fl cD ?_
 refine lo co ?_
 obtain⟨r2,Td,h⟩:=aa h
 have Tf:=iO k a0.1 1 6 r2 Td
 refine jc (ao [.tmp 8,.const (.int .i64 (1)),.const (.int .i64 (6))] rfl rfl HJ rfl Tf) ?_
 refine ja (eY rfl) ?_
 refine nt ?_
 refine cw h (fun h=>?_) (fun h=>?_)
 ·
  refine sr (cq (nt (rx ?_)));cases h;exact ra
 ·
  refine sk (ah (sr (fl cC ?_)));refine lo ic ?_;refine ol nY ?_;refine jb (kh rfl) ?_;refine nt (ci h (fun h=>?_) (fun h=>?_))
  ·refine sr (cq (nt (rx ?_)));cases h;exact ra
  ·refine sk (fh (Z:=Unit) (α:=Unit) (fun z4 x3=>[(1,Pt b1)]) (fun z4 x3=>[.obj b1 27 (.rep aw a0)]) (fun e=>e=r) h (fun e h=>Option.some.inj h) (fun K hR h=>?_) (fun z4 x3 h=>?_))
   ·refine sr (cq (nt (an ?_)));refine aN (fun z6 y5=>[(1,Pt b1),(3,I y5)]) (fun z6 y5=>[.obj b1 27 (.rep aw a0)]) (fC k a0) k () 0 (fun _=>rfl) h (SE.fin [0] ⟨rfl,rfl,trivial⟩ rfl) (fun n z6 y5 h=>?_);unfold fC at h;refine ah (sr (mq ?_));refine fl cC ?_;refine lo ic ?_;refine ol nY ?_;refine jb (bG rfl) ?_;refine nt (ci h (fun h=>?_) (fun h=>?_))
    ·refine sk (fh (Z:=Unit) (α:=Unit) (fun z8 x7=>[(1,Pt b1),(3,I y5)]) (fun z8 x7=>[.obj b1 27 (.rep aw a0)]) (fun e=>e=r) h (fun e h=>hR e h) (fun K hR h=>?_) (fun z8 x7 h=>?_))
     ·refine an (ah (sr (fl cC ?_)));refine lo ic ?_;refine mq ?_;obtain⟨x9,Ta,h⟩:=aa h;refine jb (aM (t:=aG) rfl nY jH Ta) ?_;refine ja (aI 1 false rfl ny rfl) ?_;refine ja (ap (t:=(.int .i64)) rfl co rfl) ?_;obtain⟨S9,se,h⟩:=aa h;refine jc (ao [.tmp 27,.const (.int .i64 (1)),.const (.int .i64 (3))] rfl rfl HJ rfl (iO k x9.1 1 3 S9 se)) ?_;refine ja (eY rfl) ?_;refine nt (cw h (fun h=>?_) (fun h=>?_))
      ·refine sr (cq (nt (rx (br (bp (aV ?_))))));obtain rfl:=hR _ h;exact ra
      ·refine sk (sr (fl cC ?_));refine lo ic ?_;refine mq ?_;obtain⟨s,mc,h⟩:=aa h;refine jb (aM (t:=aG) rfl nY jH mc) ?_;refine ja (aI 1 false rfl jh rfl) ?_;refine ja (ap (t:=(.slice (.int .i64))) rfl cg rfl) ?_;refine aq (nt (sr ?_));refine cq (nt (an ?_));refine aN (fun D c=>[(1,Pt b1),(3,I y5),(4,Ri s.2),(5,I c)]) (fun D c=>[.obj b1 27 (.rep aw a0)]) (fB k a0 s) k () 0 (fun _=>rfl) h (SE.fin [0] ⟨rfl,rfl,rfl,rfl,trivial⟩ rfl) (fun n D c h=>?_);unfold fB at h;refine ah (sr ?_);iterate 2 refine mq ?_
       refine ol eS ?_;refine jb (bG rfl) ?_;refine nt (ci h (fun h=>?_) (fun h=>?_))
       ·refine sk (ah (an (ah (ah (cz ?_)))));refine dm ?_;refine dm ?_;obtain⟨S5,ac,h⟩:=aa h;refine db (aM (t:=(.int .i64)) rfl eS co ac) ?_;refine da (ap (t:=(.int .i64)) rfl co rfl) ?_;refine da (ax rfl cD) ?_;refine ea 0 (ak rfl co kU rfl) ?_;obtain⟨SZ,Y,h⟩:=aa h;refine db (d5 rfl Y) ?_;refine df dI ?_;obtain⟨S8,qt,h⟩:=aa h;refine jc (ao [.tmp 45,.const (.int .i64 (0)),.tmp 48] rfl rfl HJ rfl (iO k S5 0 SZ S8 qt)) ?_;refine ja (eY rfl) ?_;refine nt (cw h (fun h=>?_) (fun h=>?_))
        ·refine sr (cq (nt (rx (br (bp (br (bp (aV ?_))))))));obtain rfl:=hR _ h;exact ra
        ·refine sk (aX (Z:=Unit) (α:=Bool) (fun y l=>[(1,Pt b1),(3,I y5),(4,Ri s.2),(5,I c),(64,.eq (.bool l))]) (fun y l=>[.obj b1 27 (.rep aw a0)]) h (fun K h=>?_) (fun y l h=>?_))
         ·refine cz ?_;refine dm ?_;refine db (kh rfl) ?_;refine tZ rfl rfl rfl (aO rfl) ⟨rfl,trivial⟩ (fun hb=>?_) (fun hb=>?_)
          ·replace h:=cU (nz hb) h;refine cr rfl rfl rfl rfl rfl (aO rfl) ⟨rfl,rfl,trivial⟩ ?_;refine cr rfl rfl rfl rfl rfl (aO rfl) ⟨rfl,rfl,trivial⟩ ?_;obtain⟨SY,X,h⟩:=aa h;refine cr rfl rfl rfl rfl rfl (aM (t:=(.int .i64)) rfl eS co X) ⟨rfl,rfl,rfl,trivial⟩ ?_;refine cr rfl rfl rfl rfl rfl (ap (t:=(.int .i64)) rfl co rfl) ⟨rfl,rfl,trivial⟩ ?_;refine cr rfl rfl rfl rfl rfl (aO rfl) ⟨rfl,rfl,trivial⟩ ?_;refine cr rfl rfl rfl rfl rfl (aO rfl) ⟨rfl,rfl,trivial⟩ ?_;obtain⟨Ti,U,h⟩:=aa h;refine cr rfl rfl rfl rfl rfl (d5 rfl U) ⟨rfl,rfl,rfl,trivial⟩ ?_;obtain⟨SX,Q,h⟩:=aa h;refine cr rfl rfl rfl rfl rfl (aM (t:=(.int .i64)) rfl eS co Q) ⟨rfl,rfl,rfl,trivial⟩ ?_;refine cr rfl rfl rfl rfl rfl (ap (t:=(.int .i64)) rfl co rfl) ⟨rfl,rfl,trivial⟩ ?_;refine df dI ?_;refine gb (uH rfl) ?_;refine pt (nl ?_);exact jz ((),decide (SY≤SX)) h [0]
          ·replace h:=bT (m4 hb) h;iterate 9 refine dg ?_
           refine df dI ?_;refine gn ?_;refine pf (nl ?_);exact jz ((),false) h [0]
         ·refine cv h (fun h=>?_) (fun h=>?_)
          ·refine sr (cq (nt (aC (br (bp (br (bp (aV ?_))))))));obtain rfl:=hR _ h;exact ra
          ·refine ba (aP (tn (ab (mq ?_))));obtain⟨SV,O,h⟩:=aa h;refine jb (bm rfl O) ?_;refine aq (nl ?_);exact jz ((),SV) h [0]
       ·refine dD (aQ (aQ (bR (bn ?_))));exact jz ((),()) h [0]
     ·refine ab (mq ?_);obtain⟨SU,M,h⟩:=aa h;refine jb (bm rfl M) ?_;refine aq (nl ?_);exact jz ((),SU) h [0]
    ·refine xa ?_;exact jz ((),()) h [0]
   ·refine ah (sr (fl dH ?_));refine lo cg ?_;refine ol eS ?_;refine jb (eE rfl) ?_;refine nt (ci h (fun h=>?_) (fun h=>?_))
    ·refine sr (cq (nt (rx ?_)));cases h;exact ra
    ·refine sk (ah (sr (fl dH ?_)));refine lo cg ?_;refine ol eS ?_;refine jb (kh rfl) ?_;refine nt (ci h (fun h=>?_) (fun h=>?_))
     ·refine sr (cq (nt (rx ?_)));cases h;exact ra
     ·refine sk (fh (Z:=Unit) (α:=Unit) (fun x E=>[]) (fun x E=>[]) (fun e=>e=r) h (fun e h=>Option.some.inj h) (fun K hR h=>?_) (fun x E h=>?_))
      ·refine sr (cq (nt (an ?_)));refine aN (fun u j=>[(1,Pt b1),(6,I j)]) (fun u j=>[.obj b1 27 (.rep aw a0)]) (fA k a0) k () 0 (fun _=>rfl) h (SE.fin [0] ⟨rfl,rfl,trivial⟩ rfl) (fun n u j h=>?_);unfold fA at h;refine ah (sr (mq ?_));refine fl dH ?_;refine lo cg ?_;refine ol eS ?_;refine jb (bG rfl) ?_;refine nt (ci h (fun h=>?_) (fun h=>?_))
       ·refine sk (ah (an (sr (fl dH ?_))));refine lo cg ?_;refine mq ?_;obtain⟨SS,J,h⟩:=aa h;refine jb (aM (t:=(.int .i64)) rfl eS co J) ?_;refine ja (ap (t:=(.int .i64)) rfl co rfl) ?_;obtain⟨S7,pp,h⟩:=aa h;refine jc (ao [.tmp 84,.const (.int .i64 (0)),.const (.int .i64 (9))] rfl rfl HJ rfl (iO k SS 0 9 S7 pp)) ?_;refine ja (eY rfl) ?_;refine nt (cw h (fun h=>?_) (fun h=>?_))
        ·refine sr (cq (nt (aC (br (bp (aV ?_))))));obtain rfl:=hR _ h;exact ra
        ·refine ba (aP (tn (ab (mq ?_))));obtain⟨SR,F,h⟩:=aa h;refine jb (bm rfl F) ?_;refine aq (nl ?_);exact jz ((),SR) h [0]
       ·refine xa ?_;exact jz ((),()) h []
      ·refine sr (cq (nt (aC ?_)));cases h;exact ra
def kg(k:Nat)(a0:be)(a1:Int):Option Bool:=
 (ck ((a0.2.1.length:Int) - 1)).bind fun x2=>
 (gx k a1 0 x2).bind fun r3=>
 some r3
theorem uq(k:Nat)(a0:be)(a1:Int)(r:Bool)(h:kg k a0 a1=some r):
 cd Tryz.prog 68 [.rep aw a0,I a1] [] (fun _:Unit=>(bv [.eq (.bool r)],[])):=by
 unfold kg at h
 replace h:=bg h
 refine cd.of 11 Tryz.func68 rfl Tryz.ntmps68 rfl fun S w0=>?_
 refine sr ?_
 refine bx fun b1=>?_
 refine cq ?_
 refine nt ?_
 refine sr ?_
 refine mq ?_
 refine fl cC ?_
 refine lo ic ?_
 refine ol nY ?_
 obtain⟨x2,c,h⟩:=aa h
 refine jb (d5 rfl c) ?_
 obtain⟨r3,e,h⟩:=aa h
 have j:=iO k a1 0 x2 r3 e
 refine jc (ao [.tmp 5,.const (.int .i64 (0)),.tmp 9] rfl rfl HJ rfl j) ?_
 refine aq ?_
 refine nt ?_
 refine aC ?_
 cases h
 exact ra
def im(k:Nat)(a0:(List Int))(a1:Int):Nat→Int→Option (Except Bool Unit)
 |0,_=>none
 |n+1,y3=>
  if y3 < (a0.length:Int) then((a8 a0 y3).bind fun x5=>
  if x5=a1 then(some (.error true)) else((ck (y3+1)).bind fun x6=>
  im k a0 a1 n x6)) else(some (.ok ()))
def q7(k:Nat)(a0:(List Int))(a1:Int):Option Bool:=
 bE (α:=Unit) (im k a0 a1 k 0) (some) fun _=>
 some false
theorem AW(k:Nat)(a0:(List Int))(a1:Int)(r:Bool)(h:q7 k a0 a1=some r):
 cd Tryz.prog 69 [Ri a0,I a1] [] (fun _:Unit=>(bv [.eq (.bool r)],[])):=by
 unfold q7 at h
 replace h:=bg h
 refine cd.of 18 Tryz.func69 rfl Tryz.ntmps69 rfl fun S w0=>?_
 refine sr ?_
 refine cq ?_
 refine nt ?_
 refine fh (Z:=Unit) (α:=Unit) (fun z2 x1=>[]) (fun z2 x1=>[]) (fun e=>e=r) h (fun e h=>Option.some.inj h) (fun K hR h=>?_) (fun z2 x1 h=>?_)
 ·
  refine sr (cq (nt (an ?_)));refine aN (fun z4 y3=>[(0,Ri a0),(1,I a1),(5,I y3)]) (fun z4 y3=>[]) (im k a0 a1) k () 0 (fun _=>rfl) h (SE.fin [] ⟨rfl,rfl,rfl,trivial⟩ rfl) (fun n z4 y3 h=>?_);unfold im at h;refine ah (sr ?_);iterate 2 refine mq ?_
  refine ol eS ?_;refine jb (bG rfl) ?_;refine nt (ci h (fun h=>?_) (fun h=>?_))
  ·refine sk (ah (an (sr ?_)));iterate 2 refine mq ?_
   obtain⟨x5,j,h⟩:=aa h;refine jb (aM (t:=(.int .i64)) rfl eS co j) ?_;refine ja (ap (t:=(.int .i64)) rfl co rfl) ?_;refine mq ?_;refine jb (eE rfl) ?_;refine nt (ci h (fun h=>?_) (fun h=>?_))
   ·refine sr (cq (nt (aC (br (bp (aV ?_))))));obtain rfl:=hR _ h;exact ra
   ·refine ba (aP (tn (ab (mq ?_))));obtain⟨x6,c,h⟩:=aa h;refine jb (bm rfl c) ?_;refine aq (nl ?_);exact jz ((),x6) h []
  ·refine xa ?_;exact jz ((),()) h []
 ·
  refine sr (cq (nt (aC ?_)));cases h;exact ra
def bX(k:Nat)(a0:be)(a1:(List (List Int)))(y5:(List Int)×Int):Nat→((List Int)×Int×Int)→Option (Except Int ((List Int)×Int))
 |0,_=>none
 |n+1,c=>
  (a8 a1 y5.2).bind fun F=>
  if c.2.2 < (F.length:Int) then((a8 a1 y5.2).bind fun E=>
  (a8 E c.2.2).bind fun D=>
  (kg k a0 D).bind fun J=>
  if¬(J=true) then(some (.error 3)) else((a8 a1 y5.2).bind fun y=>
  (a8 y c.2.2).bind fun x=>
  (q7 k c.1 x).bind fun I=>
  if I=true then(some (.error 4)) else((a8 a1 y5.2).bind fun u=>
  (a8 u c.2.2).bind fun e=>
  (dY (bU (List.length c.1+List.length [e]))).bind fun _=>
  (a8 a1 y5.2).bind fun s=>
  (a8 s c.2.2).bind fun r=>
  (a8 a0.2.1 r).bind fun l=>
  (ck (c.2.1+l.1)).bind fun j=>
  (ck (c.2.2+1)).bind fun h=>
  bX k a0 a1 y5 n (c.1++[e],j,h)))) else(some (.ok (c.1,c.2.1)))
def cu(k:Nat)(a0:be)(a1:(List (List Int))):Nat→((List Int)×Int)→Option (Except Int (List Int))
 |0,_=>none
 |n+1,y5=>
  if y5.2 < (a1.length:Int) then(bE (α:=(List Int)) (bE (α:=(List Int)×Int) (bX k a0 a1 y5 k (y5.1,0,0)) (fun e=>some (.error e)) fun x9=>
  (a8 a0.2.2 y5.2).bind fun h=>
  if h < x9.2 then(some (.error 12)) else(some (.ok x9.1))) (fun e=>some (.error e)) fun x7=>
  (ck (y5.2+1)).bind fun c=>
  cu k a0 a1 n (x7,c)) else(some (.ok y5.1))
def fY(k:Nat)(a0:be)(a1:(List (List Int))):Option Int:=
 (mN k a0).bind fun r2=>
 if¬(r2=0) then(some r2) else(if(a1.length:Int) < (a0.2.2.length:Int) then(some 7) else(if(a0.2.2.length:Int) < (a1.length:Int) then(some 6) else(bE (α:=(List Int)) (cu k a0 a1 k (([]:(List Int)),0)) (some) fun x3=>
 if(x3.length:Int) < (a0.2.1.length:Int) then(some 7) else(some 0))))
theorem pP(k:Nat)(a0:be)(a1:(List (List Int)))(r:Int)(h:fY k a0 a1=some r):
 cd Tryz.prog 33 [.rep aw a0,.rep (.slice (.slice (.int .i64))) a1] [] (fun _:Unit=>(bv [I r],[])):=by
 unfold fY at h
 replace h:=bg h
 refine cd.of 98 Tryz.func33 rfl Tryz.ntmps33 rfl fun S w0=>?_
 refine sr ?_
 refine bx fun b1=>?_
 refine cq ?_
 refine nt ?_
 refine ah ?_
 refine sr ?_
 refine lo fJ ?_
 obtain⟨r2,TM,h⟩:=aa h
 have TN:=xw k a0 r2 TM
 refine ja (ao [.tmp 10] rfl rfl Rz rfl TN) ?_
 refine aq ?_
 refine nt ?_
 refine sr ?_
 refine mq ?_
 refine jb (jJ rfl) ?_
 refine nt ?_
 refine cn h (fun h=>?_) (fun h=>?_)
 ·
  refine sr (mq ?_);refine aq (nt (rx ?_));cases h;exact ra
 ·
  refine sk (ah (sr (mq ?_)));refine ol nX ?_;refine fl dH ?_;refine lo cg ?_;refine ol eS ?_;refine jb (bG rfl) ?_;refine nt (ci h (fun h=>?_) (fun h=>?_))
  ·refine sr (cq (nt (rx ?_)));cases h;exact ra
  ·refine sk (ah (sr (mq ?_)));refine ol nX ?_;refine fl dH ?_;refine lo cg ?_;refine ol eS ?_;refine jb (kh rfl) ?_;refine nt (ci h (fun h=>?_) (fun h=>?_))
   ·refine sr (cq (nt (rx ?_)));cases h;exact ra
   ·refine sk (sr (cq (nt ?_)));refine fh (Z:=Value) (α:=(List Int)) (fun z4 x3=>[(2,Pt b1),(6,.eq z4)]) (fun z4 x3=>[.obj b1 27 (.rep aw a0),.sl z4 3 (.int .i64) x3]) (fun e=>e=r) h (fun e h=>Option.some.inj h) (fun K hR h=>?_) (fun z4 x3 h=>?_)
    ·refine sr (cq (nt (an ?_)));refine eG (SE.nil 3 (.int .i64)) ?_;refine aN (fun z6 y5=>[(1,.rep (.slice (.slice (.int .i64))) a1),(2,Pt b1),(6,.eq z6),(7,I y5.2)]) (fun z6 y5=>[.obj b1 27 (.rep aw a0),.sl z6 3 (.int .i64) y5.1]) (cu k a0 a1) k (.slice none 0 0) (([]:(List Int)),0) (fun _=>rfl) h (SE.fin [1,0] ⟨rfl,rfl,rfl,rfl,trivial⟩ rfl) (fun n z6 y5 h=>?_);unfold cu at h;refine ah (sr ?_);iterate 2 refine mq ?_
     refine ol nX ?_;refine jb (bG rfl) ?_;refine nt (ci h (fun h=>?_) (fun h=>?_))
     ·refine sk (fh (Z:=Value) (α:=(List Int)) (fun z8 x7=>[(1,.rep (.slice (.slice (.int .i64))) a1),(2,Pt b1),(6,.eq z8),(7,I y5.2)]) (fun z8 x7=>[.obj b1 27 (.rep aw a0),.sl z8 3 (.int .i64) x7]) (fun e=>e=r) h (fun e h=>hR e h) (fun K hR h=>?_) (fun z8 x7 h=>?_))
      ·refine an (sr (cq (nt ?_)));refine fh (Z:=Value) (α:=(List Int)×Int) (fun l x9=>[(1,.rep (.slice (.slice (.int .i64))) a1),(2,Pt b1),(6,.eq l),(7,I y5.2),(8,I x9.2)]) (fun l x9=>[.obj b1 27 (.rep aw a0),.sl l 3 (.int .i64) x9.1]) (fun e=>e=r) h (fun e h=>hR e h) (fun K hR h=>?_) (fun l x9 h=>?_)
       ·refine sr (cq (nt (an ?_)));refine aN (fun j c=>[(1,.rep (.slice (.slice (.int .i64))) a1),(2,Pt b1),(6,.eq j),(7,I y5.2),(8,I c.2.1),(9,I c.2.2)]) (fun j c=>[.obj b1 27 (.rep aw a0),.sl j 3 (.int .i64) c.1]) (bX k a0 a1 y5) k z6 (y5.1,0,0) (fun _=>rfl) h (SE.fin [0,1] ⟨rfl,rfl,rfl,rfl,rfl,rfl,trivial⟩ rfl) (fun n j c h=>?_);unfold bX at h;refine ah (sr ?_);iterate 3 refine mq ?_
        obtain⟨Um,Td,h⟩:=aa h;refine jb (aM (t:=(.slice (.int .i64))) rfl nX cg Td) ?_;refine ja (ap (t:=(.slice (.int .i64))) rfl cg rfl) ?_;refine ol eS ?_;refine jb (bG rfl) ?_;refine nt (ci h (fun h=>?_) (fun h=>?_))
        ·refine sk (ah (an (ah (ah (cz ?_)))));refine ea 0 (ak rfl fJ (vL) rfl) ?_;refine dm ?_;refine dm ?_;obtain⟨Ul,Ta,h⟩:=aa h;refine db (aM (t:=(.slice (.int .i64))) rfl nX cg Ta) ?_;refine da (ap (t:=(.slice (.int .i64))) rfl cg rfl) ?_;refine dm ?_;obtain⟨Tt,S9,h⟩:=aa h;refine db (aM (t:=(.int .i64)) rfl eS co S9) ?_;refine da (ap (t:=(.int .i64)) rfl co rfl) ?_;refine df dI ?_;obtain⟨Tz,Tj,h⟩:=aa h;refine jb (ao [.tmp 42,.tmp 49] rfl rfl Rr rfl (uq k a0 Tt Tz Tj)) ?_;refine ja (eY rfl) ?_;refine nt (cw h (fun h=>?_) (fun h=>?_))
         ·refine sr (cq (nt (rx (br (bp (aV (br (bp (aV ?_)))))))));obtain rfl:=hR _ h;exact ra
         ·refine sk (ah (sr ?_));iterate 3 refine mq ?_
          obtain⟨Uk,S8,h⟩:=aa h;refine jb (aM (t:=(.slice (.int .i64))) rfl nX cg S8) ?_;refine ja (ap (t:=(.slice (.int .i64))) rfl cg rfl) ?_;refine mq ?_;obtain⟨u,S7,h⟩:=aa h;refine jb (aM (t:=(.int .i64)) rfl eS co S7) ?_;refine ja (ap (t:=(.int .i64)) rfl co rfl) ?_;obtain⟨Tv,Ti,h⟩:=aa h;refine fr 1 ?_;refine kb (vo (N:=[(.tmp 52,.eq j),(.tmp 59,I u)]) (ao [.tmp 52,.tmp 59] rfl rfl Rq rfl (AW k c.1 u Tv Ti)) (fun _ _ _ hv hn=>⟨(lend hn.1 hv),hn.2.1,trivial⟩) (fun _=>⟨rfl,zV⟩)) ?_;refine nt (cv h (fun h=>?_) (fun h=>?_))
          ·refine sr (cq (nt (rx (br (bp (aV (br (bp (aV ?_)))))))));obtain rfl:=hR _ h;exact ra
          ·refine sk (gQ ?_);refine aF rfl rfl rfl (aO rfl) ⟨rfl,trivial⟩ ?_;refine aF rfl rfl rfl (aO rfl) ⟨rfl,trivial⟩ ?_;refine aF rfl rfl rfl (aO rfl) ⟨rfl,trivial⟩ ?_;obtain⟨Uj,S5,h⟩:=aa h;refine aF rfl rfl rfl (aM (t:=(.slice (.int .i64))) rfl nX cg S5) ⟨rfl,rfl,trivial⟩ ?_;refine aF rfl rfl rfl (ap (t:=(.slice (.int .i64))) rfl cg rfl) ⟨rfl,trivial⟩ ?_;refine aF rfl rfl rfl (aO rfl) ⟨rfl,trivial⟩ ?_;obtain⟨s,SZ,h⟩:=aa h;refine aF rfl rfl rfl (aM (t:=(.int .i64)) rfl eS co SZ) ⟨rfl,rfl,trivial⟩ ?_;refine aF rfl rfl rfl (ap (t:=(.int .i64)) rfl co rfl) ⟨rfl,trivial⟩ ?_;refine aF rfl rfl rfl (bC (t:=(.int .i64)) [(.tmp 68,_)] [s] rfl rfl eu (.cons rfl .int .nil) rfl rfl) ⟨rfl,trivial⟩ ?_;obtain⟨UM,Tf,h⟩:=aa h;refine o4 0 rfl (fun v=>[.sl v 3 (.int .i64) (c.1++[s])]) (fun _=>rfl) rfl rfl rfl (bZ rfl rfl eu (aH Tf)) ⟨rfl,rfl,trivial⟩ ?_;refine aF rfl rfl rfl (aO rfl) ⟨rfl,trivial⟩ ?_;refine aF rfl rfl rfl (ax rfl cC) ⟨rfl,trivial⟩ ?_;refine cp 1 rfl rfl rfl rfl (ak rfl ic kU rfl) ⟨rfl,trivial⟩ ?_;refine aF rfl rfl rfl (aO rfl) ⟨rfl,trivial⟩ ?_;refine aF rfl rfl rfl (aO rfl) ⟨rfl,trivial⟩ ?_;obtain⟨Ui,SY,h⟩:=aa h;refine aF rfl rfl rfl (aM (t:=(.slice (.int .i64))) rfl nX cg SY) ⟨rfl,rfl,trivial⟩ ?_;refine aF rfl rfl rfl (ap (t:=(.slice (.int .i64))) rfl cg rfl) ⟨rfl,trivial⟩ ?_;refine aF rfl rfl rfl (aO rfl) ⟨rfl,trivial⟩ ?_;obtain⟨Uh,SX,h⟩:=aa h;refine aF rfl rfl rfl (aM (t:=(.int .i64)) rfl eS co SX) ⟨rfl,rfl,trivial⟩ ?_;refine aF rfl rfl rfl (ap (t:=(.int .i64)) rfl co rfl) ⟨rfl,trivial⟩ ?_;obtain⟨Ug,SV,h⟩:=aa h;refine aF rfl rfl rfl (aM (t:=aG) rfl nY jH SV) ⟨rfl,rfl,trivial⟩ ?_;refine aF rfl rfl rfl (aI 1 false rfl ny rfl) ⟨rfl,trivial⟩ ?_;refine aF rfl rfl rfl (ap (t:=(.int .i64)) rfl co rfl) ⟨rfl,trivial⟩ ?_;obtain⟨To,SU,h⟩:=aa h;refine aF rfl rfl rfl (bm rfl SU) ⟨rfl,rfl,trivial⟩ ?_;refine kK 24 [true,true,true,true,true,true,true,true,true,true,false,false,false,false,false,false,false,false,false,false,false,false,false,false] [6] [1] [.obj b1 27 (.rep aw a0)] rfl (by kernel_rfl) (by kernel_rfl) (by kernel_rfl) dI (fun vs hv hB=>?_);obtain⟨w0,UL,rfl,TL⟩:=aj hv;obtain⟨w1,UK,rfl,TK⟩:=aj TL;obtain⟨w2,UJ,rfl,TJ⟩:=aj TK;obtain⟨w3,UI,rfl,TG⟩:=aj TJ;obtain⟨w4,UH,rfl,TF⟩:=aj TG;obtain⟨w5,UG,rfl,TD⟩:=aj TF;obtain⟨w6,UF,rfl,TC⟩:=aj TD;obtain⟨w7,UE,rfl,TB⟩:=aj TC;obtain⟨w8,UD,rfl,TA⟩:=aj TB;obtain⟨x,Ue,rfl,qt⟩:=aj TA;obtain⟨UC,Ud,rfl,pp⟩:=aj qt;obtain⟨UB,Uc,rfl,mc⟩:=aj pp;obtain⟨UA,Ub,rfl,ac⟩:=aj mc;obtain⟨Uz,Ua,rfl,Y⟩:=aj ac;obtain⟨Uy,T9,rfl,X⟩:=aj Y;obtain⟨Ux,T8,rfl,U⟩:=aj X;obtain⟨Uw,TZ,rfl,Q⟩:=aj U;obtain⟨Uu,TY,rfl,O⟩:=aj Q;obtain⟨Ut,TX,rfl,M⟩:=aj O;obtain⟨Us,TU,rfl,J⟩:=aj M;obtain⟨Ur,TS,rfl,F⟩:=aj J;obtain⟨Up,TR,rfl,E⟩:=aj F;obtain⟨Uo,TP,rfl,D⟩:=aj E;obtain⟨Un,TO,rfl,y⟩:=aj D;obtain rfl:=i7 y;refine⟨[0,1],[.sl x 3 (.int .i64) (c.1++[s])],by kernel_rfl,by decide,?_⟩;refine nC rfl rfl rfl rfl (ir rfl) ⟨rfl,trivial⟩ (by kernel_rfl) ?_;refine BS (by kernel_rfl) ?_;refine aq (ar (aP (tn (ab ?_))));refine mq ?_;obtain⟨Tn,SS,h⟩:=aa h
           refine jb (bm rfl SS) ?_;refine aq (nl ?_);exact jz (x,(c.1++[s],To,Tn)) h [0,1]
        ·refine xa ?_;exact jz (j,(c.1,c.2.1)) h [0,1]
       ·refine sr (mq ?_);refine fl dH ?_;refine lo cg ?_;refine mq ?_;obtain⟨Uf,SR,h⟩:=aa h;refine jb (aM (t:=(.int .i64)) rfl eS co SR) ?_;refine ja (ap (t:=(.int .i64)) rfl co rfl) ?_;refine jb (kh rfl) ?_;refine nt (ci h (fun h=>?_) (fun h=>?_))
        ·refine sr (cq (nt (aC (br (bp (aV ?_))))));obtain rfl:=hR _ h;exact ra
        ·refine ba (bn ?_);exact jz (l,x9.1) h [0,1]
      ·refine ab (mq ?_);obtain⟨Tm,se,h⟩:=aa h;refine jb (bm rfl se) ?_;refine aq (nl ?_);exact jz (z8,(x7,Tm)) h [0,1]
     ·refine xa ?_;exact jz (z6,y5.1) h [0,1]
    ·refine ah (sr (mq ?_));refine fr 1 ?_;refine ka (dx rfl rfl eS) ?_;refine fl cC ?_;refine fr 1 ?_;refine lo ic ?_;refine ol nY ?_;refine jb (bG rfl) ?_;refine nt (ci h (fun h=>?_) (fun h=>?_))
     ·refine sr (cq (nt (rx ?_)));cases h;exact ra
     ·refine sk (sr (cq (nt (aC ?_))));cases h;exact ra
def mT(k:Nat)(a0:bI)(a1:Int):Option (be×(List (List Int))×Bool×bI):=
 (jS k (a0.1,a0.2.1,a0.2.2) a1 3).bind fun r2=>
 (gX k (r2.2.1,r2.2.2.1,r2.2.2.2) r2.1).bind fun r4=>
 (fY k r2.1 r4.1).bind fun r5=>
 some (r2.1,r4.1,decide (r5=0),(r4.2.1,r4.2.2.1,r4.2.2.2))
theorem zI(k:Nat)(a0:bI)(c:Nat)(a1:Int)(r:be×(List (List Int))×Bool×bI)(h:mT k a0 a1=some r):
 cd Tryz.prog 8 [Pt c,I a1] [.obj c 66 (.agg (.pair (Ri a0.1) (.pair (I a0.2.1) (.eq (.int .u64 a0.2.2)))))] (fun _:Unit=>(bv [.rep aw r.1,.rep (.slice (.slice (.int .i64))) r.2.1,.eq (.bool r.2.2.1)],[.obj c 66 (.agg (.pair (Ri r.2.2.2.1) (.pair (I r.2.2.2.2.1) (.eq (.int .u64 r.2.2.2.2.2)))))])):=by
 unfold mT at h
 replace h:=bg h
 refine cd.of 21 Tryz.func8 rfl Tryz.ntmps8 rfl fun S w0=>?_
 refine sr ?_
 refine aE rfl rfl rfl (aZ rfl j9 lQ) trivial fun b1=>?_
 refine cq ?_
 refine cq ?_
 refine nt ?_
 refine sr ?_
 iterate 2 refine mq ?_
 obtain⟨r2,D,h⟩:=aa h
 have J:=vO k (a0.1,a0.2.1,a0.2.2) c a1 3 r2 D
 refine fr 1 ?_
 refine kc (ao [.tmp 9,.tmp 10,.const (.int .i64 (3))] rfl rfl RH rfl J) ?_
 refine aE rfl rfl rfl (aZ rfl j9 lQ) trivial fun b3=>?_
 refine aY rfl rfl (aR rfl fJ rfl rfl rfl) ⟨rfl,rfl,trivial⟩ ?_
 refine nt ?_
 refine sr ?_
 refine mq ?_
 refine lo fJ ?_
 obtain⟨r4,y,h⟩:=aa h
 have F:=sO k (r2.2.1,r2.2.2.1,r2.2.2.2) c r2.1 r4 y
 refine fr 1 ?_
 refine kb (ao [.tmp 12,.tmp 13] rfl rfl RG rfl F) ?_
 refine aq ?_
 refine nt ?_
 refine ah ?_
 refine gQ ?_
 refine cp 1 rfl rfl rfl rfl (ak rfl fJ (vL) rfl) ⟨rfl,trivial⟩ ?_
 refine aF rfl rfl rfl (aO rfl) ⟨rfl,trivial⟩ ?_
 refine cp 1 rfl rfl rfl rfl (ak rfl fJ (vL) rfl) ⟨rfl,trivial⟩ ?_
 refine aF rfl rfl rfl (aO rfl) ⟨rfl,trivial⟩ ?_
 obtain⟨r5,x,h⟩:=aa h
 have E:=pP k r2.1 r4.1 r5 x
 refine aF rfl rfl rfl (ao [.tmp 17,.tmp 18] rfl rfl RF rfl E) ⟨rfl,rfl,trivial⟩ ?_
 refine aF rfl rfl rfl (eE rfl) ⟨rfl,rfl,trivial⟩ ?_
 refine kK 6 [true,false,true,true,true,false] [5,6] [] [] rfl (by kernel_rfl) (by kernel_rfl) (by kernel_rfl) dI (fun vs hv hB=>?_)
 obtain⟨w0,Y,rfl,u⟩:=aj hv
 obtain⟨w1,X,rfl,s⟩:=aj u
 obtain⟨w2,U,rfl,n⟩:=aj s
 obtain⟨w3,Q,rfl,l⟩:=aj n
 obtain⟨w4,O,rfl,j⟩:=aj l
 obtain⟨w5,M,rfl,e⟩:=aj j
 obtain rfl:=i7 e
 refine⟨[0,1,2],[.obj c 66 (.agg (.pair (Ri r4.2.1) (.pair (I r4.2.2.1) (.eq (.int .u64 r4.2.2.2))))),.obj b3 27 (.rep aw r2.1),.obj b1 27 (.agg (.pair (I 0) (.pair (.eq (.slice none 0 0)) (.eq (.slice none 0 0)))))],by kernel_rfl,by decide,?_⟩
 refine dp 2 rfl ?_
 refine kJ rfl rfl (aR rfl fJ rfl rfl rfl) ⟨rfl,rfl,trivial⟩ (by kernel_rfl) ?_
 refine nC rfl rfl rfl rfl (ir rfl) ⟨rfl,trivial⟩ (by kernel_rfl) ?_
 refine nC rfl rfl rfl rfl (ir rfl) ⟨rfl,trivial⟩ (by kernel_rfl) ?_
 refine nD ?_
 refine bF (SE.fin (Γ':=[(4,Pt b1),(5,.rep (.slice (.slice (.int .i64))) r4.1),(6,.eq (.bool (decide (r5=0))))]) (Δ':=[.obj b1 27 (.rep aw r2.1),.obj c 66 (.agg (.pair (Ri r4.2.1) (.pair (I r4.2.2.1) (.eq (.int .u64 r4.2.2.2))))),.obj b3 27 (.rep aw r2.1)]) [0,1,2] ⟨rfl,rfl,rfl,trivial⟩ rfl) ?_
 refine tn ?_
 refine aC ?_
 refine bF (SE.fin (Γ':=[(4,_),(5,_),(6,_)]) [1,0,2] ⟨rfl,rfl,rfl,trivial⟩ rfl) ?_
 cases h
 exact aL () [.rep aw r2.1,_,_] 1 ⟨⟨_,_,_,_,_,rfl,(.tail _ (.head _)),fJ,(vL),rfl⟩,rfl,rfl,trivial⟩ rfl
def dG(k:Nat)(a0:Int)(a1:Int)(a2:Int):Option Bool:=
 ((if a1≤a0 then(some (decide (a0≤a2))) else(some false)):Option (Bool)).bind fun x1=>
 some x1
theorem dL(k:Nat)(a0:Int)(a1:Int)(a2:Int)(r:Bool)(h:dG k a0 a1 a2=some r):
 cd Tryz.prog 43 [I a0,I a1,I a2] [] (fun _:Unit=>(bv [.eq (.bool r)],[])):=by
 unfold dG at h
 replace h:=bg h
 refine cd.of 15 Tryz.func43 rfl Tryz.ntmps43 rfl fun S w0=>?_
 refine sr ?_
 refine cq ?_
 refine nt ?_
 refine aX (Z:=Unit) (α:=Bool) (fun z2 x1=>[(6,.eq (.bool x1))]) (fun z2 x1=>[]) h (fun K h=>?_) (fun z2 x1 h=>?_)
 ·
  refine ab ?_;iterate 2 refine mq ?_
  refine jb (uH rfl) ?_;refine mq ?_;refine cm (s:=10) rfl (fun hb=>?_) (fun hb=>?_)
  ·replace h:=cU (nz hb) h;refine gm ?_;refine gm ?_;refine gb (uH rfl) ?_;refine pt ?_;refine aq (nl ?_);exact jz ((),decide (a0≤a2)) h []
  ·replace h:=bT (m4 hb) h;iterate 3 refine gn ?_
   refine pf ?_;refine aq (nl ?_);exact jz ((),false) h []
 ·
  refine aC ?_;cases h;exact ra
def cV(k:Nat)(a0:be)(a1:cR):Nat→Int→Option (Except Int Unit)
 |0,_=>none
 |n+1,y6=>
  if y6 < (a1.2.length:Int) then((a8 a1.2 y6).bind fun x8=>
  (ck (a0.1 - 1)).bind fun x9=>
  (dG k x8 0 x9).bind fun l=>
  if¬(l=true) then(some (.error 1)) else(((if 0 < y6 then((ck (y6 - 1)).bind fun h=>
  (a8 a1.2 h).bind fun e=>
  some (decide (x8≤e))) else(some false)):Option (Bool)).bind fun j=>
  if j=true then(some (.error 5)) else((ck (y6+1)).bind fun c=>
  cV k a0 a1 n c))) else(some (.ok ()))
def ij(k:Nat)(a0:be)(a1:cR):Option Int:=
 (dG k a1.1 1 3).bind fun r3=>
 if¬(r3=true) then(some 1) else(bE (α:=Unit) (cV k a0 a1 k 0) (some) fun _=>
 some 0)
theorem qT(k:Nat)(a0:be)(a1:cR)(r:Int)(h:ij k a0 a1=some r):
 cd Tryz.prog 86 [.rep aw a0,.rep aG a1] [] (fun _:Unit=>(bv [I r],[])):=by
 unfold ij at h
 replace h:=bg h
 refine cd.of 38 Tryz.func86 rfl Tryz.ntmps86 rfl fun S w0=>?_
 refine sr ?_
 refine bx fun b1=>?_
 refine bx fun b2=>?_
 refine cq ?_
 refine nt ?_
 refine ah ?_
 refine sr ?_
 refine fl ny ?_
 refine lo co ?_
 obtain⟨r3,O,h⟩:=aa h
 have Q:=dL k a1.1 1 3 r3 O
 refine jc (ao [.tmp 8,.const (.int .i64 (1)),.const (.int .i64 (3))] rfl rfl yc rfl Q) ?_
 refine ja (eY rfl) ?_
 refine nt ?_
 refine cw h (fun h=>?_) (fun h=>?_)
 ·
  refine sr (cq (nt (rx ?_)));cases h;exact ra
 ·
  refine sk (fh (Z:=Unit) (α:=Unit) (fun z5 x4=>[]) (fun z5 x4=>[]) (fun e=>e=r) h (fun e h=>Option.some.inj h) (fun K hR h=>?_) (fun z5 x4 h=>?_))
  ·refine sr (fl jh ?_);refine lo cg ?_;refine ol eS ?_;refine eT rfl ?_;refine nt (an (aN (fun z7 y6=>[(2,Pt b1),(3,Pt b2),(12,Ri a1.2),(13,I (a1.2.length:Int)),(14,I y6)]) (fun z7 y6=>[.obj b1 27 (.rep aw a0),.obj b2 35 (.rep aG a1)]) (cV k a0 a1) k () 0 (fun _=>rfl) h (SE.fin [1,0] ⟨rfl,rfl,rfl,rfl,rfl,trivial⟩ rfl) (fun n z7 y6 h=>?_)));unfold cV at h;refine sr (jb (bG rfl) ?_);refine nt (ah (ci h (fun h=>?_) (fun h=>?_)))
   ·refine sk (ah (an (sr (mq ?_))));obtain⟨x8,M,h⟩:=aa h;refine jb (aM (t:=(.int .i64)) rfl eS co M) ?_;refine ja (ap (t:=(.int .i64)) rfl co rfl) ?_;refine aq ?_;refine aq (nt (ah (sr ?_)));refine mq ?_;refine fl cD ?_;refine lo co ?_;obtain⟨x9,J,h⟩:=aa h;refine jb (d5 rfl J) ?_;obtain⟨F,y,h⟩:=aa h;refine jc (ao [.tmp 19,.const (.int .i64 (0)),.tmp 22] rfl rfl yc rfl (dL k x8 0 x9 F y)) ?_;refine ja (eY rfl) ?_;refine nt (cw h (fun h=>?_) (fun h=>?_))
    ·refine sr (cq (nt (rx (br (bp (aV ?_))))));obtain rfl:=hR _ h;exact ra
    ·refine sk (aX (Z:=Unit) (α:=Bool) (fun j c=>[(2,Pt b1),(3,Pt b2),(12,Ri a1.2),(13,I (a1.2.length:Int)),(14,I y6),(36,.eq (.bool c))]) (fun j c=>[.obj b1 27 (.rep aw a0),.obj b2 35 (.rep aG a1)]) h (fun K h=>?_) (fun j c h=>?_))
     ·refine ab (mq ?_);refine jb (kh rfl) ?_;refine mq ?_;refine cm (s:=27) rfl (fun hb=>?_) (fun hb=>?_)
      ·replace h:=cU (nz hb) h;refine gm ?_;refine ga (ax rfl jh) ?_;refine fr 1 ?_;refine mz rfl rfl rfl rfl rfl rfl (ak rfl cg kU rfl) ⟨rfl,trivial⟩ ?_;refine gm ?_;obtain⟨U,x,h⟩:=aa h;refine gb (d5 rfl x) ?_;obtain⟨E,u,h⟩:=aa h;refine gb (aM (t:=(.int .i64)) rfl eS co u) ?_;refine ga (ap (t:=(.int .i64)) rfl co rfl) ?_;refine gb (uH rfl) ?_;refine pt (nl ?_);exact jz ((),decide (x8≤E)) h [1,0]
      ·replace h:=bT (m4 hb) h;iterate 8 refine gn ?_
       refine pf (nl ?_);exact jz ((),false) h [0,1]
     ·refine cv h (fun h=>?_) (fun h=>?_)
      ·refine sr (cq (nt (aC (br (bp (aV ?_))))));obtain rfl:=hR _ h;exact ra
      ·refine ba (aP (tn (ab ?_)));obtain⟨D,l,h⟩:=aa h;refine jb (bm rfl l) ?_;refine mq (nl ?_);exact jz ((),D) h [0,1]
   ·refine xa ?_;exact jz ((),()) h []
  ·refine sr (cq (nt (aC ?_)));cases h;exact ra
def fw(k:Nat)(a0:be):Nat→Int→Option (Except Int Unit)
 |0,_=>none
 |n+1,y5=>
  if y5 < (a0.2.1.length:Int) then((a8 a0.2.1 y5).bind fun x7=>
  (ij k a0 x7).bind fun r9=>
  if¬(r9=0) then(some (.error r9)) else((ck (y5+1)).bind fun c=>
  fw k a0 n c)) else(some (.ok ()))
def fu(k:Nat)(a0:be):Nat→Int→Option (Except Int Unit)
 |0,_=>none
 |n+1,c=>
  if c < (a0.2.2.length:Int) then((a8 a0.2.2 c).bind fun h=>
  (dG k h 0 9).bind fun j=>
  if¬(j=true) then(some (.error 1)) else((ck (c+1)).bind fun e=>
  fu k a0 n e)) else(some (.ok ()))
def kZ(k:Nat)(a0:be):Option Int:=
 (dG k a0.1 1 6).bind fun r2=>
 if¬(r2=true) then(some 1) else(if 5 < (a0.2.1.length:Int) then(some 6) else(bE (α:=Unit) (fw k a0 k 0) (some) fun _=>
 if(a0.2.2.length:Int) < 1 then(some 7) else(if 3 < (a0.2.2.length:Int) then(some 6) else(bE (α:=Unit) (fu k a0 k 0) (some) fun _=>
 some 0))))
theorem qU(k:Nat)(a0:be)(r:Int)(h:kZ k a0=some r):
 cd Tryz.prog 53 [.rep aw a0] [] (fun _:Unit=>(bv [I r],[])):=by
 unfold kZ at h
 replace h:=bg h
 refine cd.of 51 Tryz.func53 rfl Tryz.ntmps53 rfl fun S w0=>?_
 refine sr ?_
 refine bx fun b1=>?_
 refine cq ?_
 refine nt ?_
 refine ah ?_
 refine sr ?_
 refine fl cD ?_
 refine lo co ?_
 obtain⟨r2,U,h⟩:=aa h
 have X:=dL k a0.1 1 6 r2 U
 refine jc (ao [.tmp 10,.const (.int .i64 (1)),.const (.int .i64 (6))] rfl rfl yc rfl X) ?_
 refine ja (eY rfl) ?_
 refine nt ?_
 refine cw h (fun h=>?_) (fun h=>?_)
 ·
  refine sr (cq (nt (rx ?_)));cases h;exact ra
 ·
  refine sk (ah (sr (fl cC ?_)));refine lo ic ?_;refine ol nY ?_;refine jb (kh rfl) ?_;refine nt (ci h (fun h=>?_) (fun h=>?_))
  ·refine sr (cq (nt (rx ?_)));cases h;exact ra
  ·refine sk (fh (Z:=Unit) (α:=Unit) (fun z4 x3=>[(1,Pt b1)]) (fun z4 x3=>[.obj b1 27 (.rep aw a0)]) (fun e=>e=r) h (fun e h=>Option.some.inj h) (fun K hR h=>?_) (fun z4 x3 h=>?_))
   ·refine sr (fl cC ?_);refine lo ic ?_;refine ol nY ?_;refine eT rfl ?_;refine nt (an (aN (fun z6 y5=>[(1,Pt b1),(18,Rs aG a0.2.1),(19,I (a0.2.1.length:Int)),(20,I y5)]) (fun z6 y5=>[.obj b1 27 (.rep aw a0)]) (fw k a0) k () 0 (fun _=>rfl) h (SE.fin [0] ⟨rfl,rfl,rfl,rfl,trivial⟩ rfl) (fun n z6 y5 h=>?_)));unfold fw at h;refine sr (jb (bG rfl) ?_);refine nt (ah (ci h (fun h=>?_) (fun h=>?_)))
    ·refine sk (ah (an (sr ?_)));obtain⟨x7,O,h⟩:=aa h;refine jb (aM (t:=aG) rfl nY jH O) ?_;refine ja (ap (t:=aG) rfl jH rfl) ?_;refine aE rfl rfl rfl (aZ rfl vv Kx) trivial fun b8=>?_;refine aY rfl rfl (aR rfl jH rfl rfl rfl) ⟨rfl,rfl,trivial⟩ ?_;refine nt (sr (fr 1 ?_));refine lo fJ ?_;refine fr 1 ?_;refine lo jH ?_;obtain⟨r9,Q,h⟩:=aa h;refine jb (ao [.tmp 24,.tmp 25] rfl rfl Rh rfl (qT k a0 x7 r9 Q)) ?_;refine aq (nt (sr ?_));refine mq ?_;refine jb (jJ rfl) ?_;refine nt (cn h (fun h=>?_) (fun h=>?_))
     ·refine sr (mq ?_);refine aq (nt (aC (br (bp (aV ?_)))));obtain rfl:=hR _ h;exact ra
     ·refine ba (aP (tn (ab ?_)));obtain⟨J,y,h⟩:=aa h;refine jb (bm rfl y) ?_;refine mq (nl ?_);exact jz ((),J) h [1]
    ·refine xa ?_;exact jz ((),()) h [0]
   ·refine ah (sr (fl dH ?_));refine lo cg ?_;refine ol eS ?_;refine aq (nt (an (sr ?_)));refine mq ?_;refine jb (bG rfl) ?_;refine aq (nt ?_);refine ci h (fun h=>?_) (fun h=>?_)
    ·refine sr (cq (nt (aC (bp (aV ?_)))));cases h;exact ra
    ·refine sr (mq ?_);refine jb (kh rfl) ?_;refine aq (nt ?_);refine ci h (fun h=>?_) (fun h=>?_)
     ·refine sr (cq (nt (aC (bp (aV ?_)))));cases h;exact ra
     ·refine ba (aP (tn (fh (Z:=Unit) (α:=Unit) (fun l s=>[]) (fun l s=>[]) (fun e=>e=r) h (fun e h=>Option.some.inj h) (fun K hR h=>?_) (fun l s h=>?_))))
      ·refine sr (fl dH ?_);refine lo cg ?_;refine ol eS ?_;refine eT rfl ?_;refine nt (an (aN (fun j c=>[(41,Ri a0.2.2),(42,I (a0.2.2.length:Int)),(43,I c)]) (fun j c=>[]) (fu k a0) k () 0 (fun _=>rfl) h (SE.fin [] ⟨rfl,rfl,rfl,trivial⟩ rfl) (fun n j c h=>?_)));unfold fu at h;refine sr (jb (bG rfl) ?_);refine nt (ah (ci h (fun h=>?_) (fun h=>?_)))
       ·refine sk (ah (an (sr ?_)));obtain⟨F,x,h⟩:=aa h;refine jb (aM (t:=(.int .i64)) rfl eS co x) ?_;refine ja (ap (t:=(.int .i64)) rfl co rfl) ?_;refine aq (nt (sr ?_));refine mq ?_;obtain⟨M,D,h⟩:=aa h;refine jc (ao [.tmp 47,.const (.int .i64 (0)),.const (.int .i64 (9))] rfl rfl yc rfl (dL k F 0 9 M D)) ?_;refine ja (eY rfl) ?_;refine nt (cw h (fun h=>?_) (fun h=>?_))
        ·refine sr (cq (nt (aC (br (bp (aV ?_))))));obtain rfl:=hR _ h;exact ra
        ·refine ba (aP (tn (ab ?_)));obtain⟨E,u,h⟩:=aa h;refine jb (bm rfl u) ?_;refine mq (nl ?_);exact jz ((),E) h []
       ·refine xa ?_;exact jz ((),()) h []
      ·refine sr (cq (nt (aC ?_)));cases h;exact ra
def dS(k:Nat)(a0:Int)(a1:Int):Option Bool:=
 (dY (0≤a1)).bind fun _=>
 some (decide ((vP .u8 (ie .u8 a0 a1) 1)=1))
theorem ii(k:Nat)(a0:Int)(a1:Int)(r:Bool)(h:dS k a0 a1=some r):
 cd Tryz.prog 71 [.eq (.int .u8 a0),I a1] [] (fun _:Unit=>(bv [.eq (.bool r)],[])):=by
 unfold dS at h
 replace h:=bg h
 refine cd.of 10 Tryz.func71 rfl Tryz.ntmps71 rfl fun S w0=>?_
 refine sr ?_
 refine cq ?_
 refine nt ?_
 refine sr ?_
 iterate 2 refine mq ?_
 obtain⟨u1,c,h⟩:=aa h
 refine jb (uE rfl (aH c)) ?_
 refine jb (Oq rfl) ?_
 refine jb (eE rfl) ?_
 refine aq ?_
 refine nt ?_
 refine aC ?_
 cases h
 exact ra
def gg(k:Nat)(a0:be)(a1:(List Int)):Nat→(Int×Int)→Option Int
 |0,_=>none
 |n+1,y4=>
  if y4.2 < (a1.length:Int) then((a8 a1 y4.2).bind fun x6=>
  (a8 a0.2.1 x6).bind fun x7=>
  (ck (y4.1+x7.1)).bind fun x8=>
  (ck (y4.2+1)).bind fun x9=>
  gg k a0 a1 n (x8,x9)) else(some y4.1)
def mH(k:Nat)(a0:be)(a1:(List Int)):Option Int:=
 ((gg k a0 a1 k (0,0)):Option (Int)).bind fun x2=>
 some x2
theorem te(k:Nat)(a0:be)(a1:(List Int))(r:Int)(h:mH k a0 a1=some r):
 cd Tryz.prog 91 [.rep aw a0,Ri a1] [] (fun _:Unit=>(bv [I r],[])):=by
 unfold mH at h
 replace h:=bg h
 refine cd.of 24 Tryz.func91 rfl Tryz.ntmps91 rfl fun S w0=>?_
 refine sr ?_
 refine bx fun b1=>?_
 refine cq ?_
 refine nt ?_
 refine sr ?_
 refine cq ?_
 refine nt ?_
 refine aX (Z:=Unit) (α:=Int) (fun z3 x2=>[(5,I x2)]) (fun z3 x2=>[]) h (fun K h=>?_) (fun z3 x2 h=>?_)
 ·
  refine sr (mq ?_);refine ol eS ?_;refine eT rfl ?_;refine nt (an (aN (fun z5 y4=>[(2,Pt b1),(5,I y4.1),(8,Ri a1),(9,I (a1.length:Int)),(10,I y4.2)]) (fun z5 y4=>[.obj b1 27 (.rep aw a0)]) (gg k a0 a1) k () (0,0) (fun _=>rfl) h (SE.fin [0] ⟨rfl,rfl,rfl,rfl,rfl,trivial⟩ rfl) (fun n z5 y4 h=>?_)));unfold gg at h;refine sr (jb (bG rfl) ?_);refine nt (ah (ci h (fun h=>?_) (fun h=>?_)))
  ·refine sk (ah (an (sr ?_)));obtain⟨x6,l,h⟩:=aa h;refine jb (aM (t:=(.int .i64)) rfl eS co l) ?_;refine ja (ap (t:=(.int .i64)) rfl co rfl) ?_;refine aq (nt (ab ?_));refine mq ?_;refine fl cC ?_;refine lo ic ?_;refine mq ?_;obtain⟨x7,j,h⟩:=aa h;refine jb (aM (t:=aG) rfl nY jH j) ?_;refine ja (aI 1 false rfl ny rfl) ?_;refine ja (ap (t:=(.int .i64)) rfl co rfl) ?_;obtain⟨x8,e,h⟩:=aa h;refine jb (bm rfl e) ?_;refine aq (ar (aP (tn (ab ?_))));obtain⟨x9,c,h⟩:=aa h;refine jb (bm rfl c) ?_;refine mq (nl ?_);exact jz ((),(x8,x9)) h [0]
  ·refine xa ?_;exact jz ((),y4.1) h []
 ·
  refine sr (mq ?_);refine aq (nt (aC ?_));cases h;exact ra
def eJ(k:Nat)(a0:Int)(a1:Int):Option Int:=
 (dY (0≤a1)).bind fun _=>
 some (CP .u8 a0 (mW .u8 1 a1))
theorem iV(k:Nat)(a0:Int)(a1:Int)(r:Int)(h:eJ k a0 a1=some r):
 cd Tryz.prog 92 [.eq (.int .u8 a0),I a1] [] (fun _:Unit=>(bv [.eq (.int .u8 r)],[])):=by
 unfold eJ at h
 replace h:=bg h
 refine cd.of 9 Tryz.func92 rfl Tryz.ntmps92 rfl fun S w0=>?_
 refine sr ?_
 refine cq ?_
 refine nt ?_
 refine sr ?_
 iterate 2 refine mq ?_
 obtain⟨u1,c,h⟩:=aa h
 refine jb (Gf rfl (aH c)) ?_
 refine jb (On rfl) ?_
 refine aq ?_
 refine nt ?_
 refine aC ?_
 cases h
 exact ra
def eI(k:Nat)(a0:be)(x8:(List Int)):Nat→(Int×Int)→Option (Except Value Int)
 |0,_=>none
 |n+1,c=>
  if c.2 < (x8.length:Int) then((a8 x8 c.2).bind fun e=>
  (ck ((a0.2.1.length:Int) - 1)).bind fun j=>
  (dG k e 0 j).bind fun s=>
  if¬(s=true) then(some (.error (.iface 140 (.agg #[.int .i64 3])))) else((dS k c.1 e).bind fun r=>
  if r=true then(some (.error (.iface 140 (.agg #[.int .i64 4])))) else((eJ k c.1 e).bind fun l=>
  (ck (c.2+1)).bind fun h=>
  eI k a0 x8 n (l,h)))) else(some (.ok c.1))
def ft(k:Nat)(a0:be)(a1:(List (List Int))):Nat→(Int×Int)→Option (Except Value Int)
 |0,_=>none
 |n+1,y4=>
  if y4.2 < (a1.length:Int) then(bE (α:=Int) ((a8 a1 y4.2).bind fun x8=>
  bE (α:=Int) (eI k a0 x8 k (y4.1,0)) (fun e=>some (.error e)) fun x9=>
  (mH k a0 x8).bind fun j=>
  (a8 a0.2.2 y4.2).bind fun h=>
  if h < j then(some (.error (.iface 140 (.agg #[.int .i64 12])))) else(some (.ok x9))) (fun e=>some (.error e)) fun x6=>
  (ck (y4.2+1)).bind fun c=>
  ft k a0 a1 n (x6,c)) else(some (.ok y4.1))
def kY(k:Nat)(a0:be)(a1:(List (List Int))):Option Value:=
 if(a1.length:Int) < (a0.2.2.length:Int) then(some (.iface 140 (.agg #[.int .i64 7]))) else(if(a0.2.2.length:Int) < (a1.length:Int) then(some (.iface 140 (.agg #[.int .i64 6]))) else(bE (α:=Int) (ft k a0 a1 k (0,0)) (some) fun x2=>
 (dY (0≤(a0.2.1.length:Int))).bind fun _=>
 if¬(x2=(IntKind.u8.wrap ((mW .u8 1 (a0.2.1.length:Int)) - 1))) then(some (.iface 140 (.agg #[.int .i64 7]))) else(some (.nilIface))))
theorem qQ(k:Nat)(a0:be)(a1:(List (List Int)))(r:Value)(h:kY k a0 a1=some r):
 cd Tryz.prog 81 [.rep aw a0,.rep (.slice (.slice (.int .i64))) a1] [] (fun _:Unit=>(bv [.eq r],[])):=by
 unfold kY at h
 replace h:=bg h
 refine cd.of 80 Tryz.func81 rfl Tryz.ntmps81 rfl fun S w0=>?_
 refine sr ?_
 refine bx fun b1=>?_
 refine cq ?_
 refine nt ?_
 refine ah ?_
 refine sr ?_
 refine fl dH ?_
 refine lo cg ?_
 refine ol eS ?_
 refine aq ?_
 refine nt ?_
 refine an ?_
 refine sr ?_
 refine mq ?_
 refine ol nX ?_
 refine mq ?_
 refine jb (bG rfl) ?_
 refine aq ?_
 refine nt ?_
 refine ci h (fun h=>?_) (fun h=>?_)
 ·
  refine sr (ja (c6 [(0,.const (.int .i64 (7)),_)] rfl wi t3 sY (iH ⟨rfl,trivial⟩) rfl) ?_);refine ja (mQ rfl EM) ?_;refine aq (nt (aC (bp (aV ?_))));cases h;exact ra
 ·
  refine sr (mq ?_);refine ol nX ?_;refine mq ?_;refine jb (kh rfl) ?_;refine aq (nt ?_);refine ci h (fun h=>?_) (fun h=>?_)
  ·refine sr (ja (c6 [(0,.const (.int .i64 (6)),_)] rfl wi t3 sY (iH ⟨rfl,trivial⟩) rfl) ?_);refine ja (mQ rfl EM) ?_;refine aq (nt (aC (bp (aV ?_))));cases h;exact ra
  ·refine ba (aP (tn (sr (cq (nt ?_)))));refine fh (Z:=Unit) (α:=Int) (fun z3 x2=>[(2,Pt b1),(6,.eq (.int .u8 x2))]) (fun z3 x2=>[.obj b1 27 (.rep aw a0)]) (fun e=>e=r) h (fun e h=>Option.some.inj h) (fun K hR h=>?_) (fun z3 x2 h=>?_)
   ·refine sr (mq ?_);refine ol nX ?_;refine eT rfl ?_;refine nt (an (aN (fun z5 y4=>[(2,Pt b1),(6,.eq (.int .u8 y4.1)),(28,.rep (.slice (.slice (.int .i64))) a1),(29,I (a1.length:Int)),(30,I y4.2)]) (fun z5 y4=>[.obj b1 27 (.rep aw a0)]) (ft k a0 a1) k () (0,0) (fun _=>rfl) h (SE.fin [0] ⟨rfl,rfl,rfl,rfl,rfl,trivial⟩ rfl) (fun n z5 y4 h=>?_)));unfold ft at h;refine sr (jb (bG rfl) ?_);refine nt (ah (ci h (fun h=>?_) (fun h=>?_)))
    ·refine sk (fh (Z:=Unit) (α:=Int) (fun z7 x6=>[(2,Pt b1),(6,.eq (.int .u8 x6)),(28,.rep (.slice (.slice (.int .i64))) a1),(29,I (a1.length:Int)),(30,I y4.2)]) (fun z7 x6=>[.obj b1 27 (.rep aw a0)]) (fun e=>e=r) h (fun e h=>hR e h) (fun K hR h=>?_) (fun z7 x6 h=>?_))
     ·refine an (sr (mq ?_));obtain⟨x8,se,h⟩:=aa h;refine jb (aM (t:=(.slice (.int .i64))) rfl nX cg se) ?_;refine ja (ap (t:=(.slice (.int .i64))) rfl cg rfl) ?_;refine aq ?_;refine aq (nt ?_);refine fh (Z:=Unit) (α:=Int) (fun s x9=>[(2,Pt b1),(6,.eq (.int .u8 x9)),(7,I y4.2),(8,Ri x8),(28,.rep (.slice (.slice (.int .i64))) a1),(29,I (a1.length:Int)),(30,I y4.2)]) (fun s x9=>[.obj b1 27 (.rep aw a0)]) (fun e=>e=r) h (fun e h=>hR e h) (fun K hR h=>?_) (fun s x9 h=>?_)
      ·refine sr (mq ?_);refine ol eS ?_;refine eT rfl ?_;refine nt (an (aN (fun l c=>[(2,Pt b1),(6,.eq (.int .u8 c.1)),(7,I y4.2),(8,Ri x8),(28,.rep (.slice (.slice (.int .i64))) a1),(29,I (a1.length:Int)),(30,I y4.2),(35,Ri x8),(36,I (x8.length:Int)),(37,I c.2)]) (fun l c=>[.obj b1 27 (.rep aw a0)]) (eI k a0 x8) k () (y4.1,0) (fun _=>rfl) h (SE.fin [0] ⟨rfl,rfl,rfl,rfl,rfl,rfl,rfl,rfl,rfl,rfl,trivial⟩ rfl) (fun n l c h=>?_)));unfold eI at h;refine sr (jb (bG rfl) ?_);refine nt (ah (ci h (fun h=>?_) (fun h=>?_)))
       ·refine sk (ah (an (sr ?_)));obtain⟨j,F,h⟩:=aa h;refine jb (aM (t:=(.int .i64)) rfl eS co F) ?_;refine ja (ap (t:=(.int .i64)) rfl co rfl) ?_;refine aq (nt (ah (sr ?_)));refine mq ?_;refine fl cC ?_;refine lo ic ?_;refine ol nY ?_;obtain⟨ac,E,h⟩:=aa h;refine jb (d5 rfl E) ?_;obtain⟨qt,U,h⟩:=aa h;refine jc (ao [.tmp 41,.const (.int .i64 (0)),.tmp 45] rfl rfl yc rfl (dL k j 0 ac qt U)) ?_;refine ja (eY rfl) ?_;refine nt (cw h (fun h=>?_) (fun h=>?_))
        ·refine sr (ja (c6 [(0,.const (.int .i64 (3)),_)] rfl wi t3 sY (iH ⟨rfl,trivial⟩) rfl) ?_);refine ja (mQ rfl EM) ?_;refine aq (nt (rx (br (bp (aV (br (bp (aV ?_))))))));obtain rfl:=hR _ h;exact ra
        ·refine sk (ah (sr ?_));iterate 2 refine mq ?_
         obtain⟨pp,Q,h⟩:=aa h;refine jb (ao [.tmp 50,.tmp 51] rfl rfl JY rfl (ii k c.1 j pp Q)) ?_;refine nt (cv h (fun h=>?_) (fun h=>?_))
         ·refine sr (ja (c6 [(0,.const (.int .i64 (4)),_)] rfl wi t3 sY (iH ⟨rfl,trivial⟩) rfl) ?_);refine ja (mQ rfl EM) ?_;refine aq (nt (rx (br (bp (aV (br (bp (aV ?_))))))));obtain rfl:=hR _ h;exact ra
         ·refine sk (ab ?_);iterate 2 refine mq ?_
          obtain⟨u,O,h⟩:=aa h;refine jb (ao [.tmp 55,.tmp 56] rfl rfl JW rfl (iV k c.1 j u O)) ?_;refine aq (ar (aP (tn (ab ?_))));obtain⟨Y,D,h⟩:=aa h;refine jb (bm rfl D) ?_;refine mq (nl ?_);exact jz ((),(u,Y)) h [0]
       ·refine xa ?_;exact jz ((),c.1) h [0]
      ·refine ah (cz ?_);refine ea 0 (ak rfl fJ (vL) rfl) ?_;refine dm ?_;obtain⟨mc,M,h⟩:=aa h;refine db (ao [.tmp 59,.tmp 60] rfl rfl Pl rfl (te k a0 x8 mc M)) ?_;refine da (ax rfl dH) ?_;refine ea 0 (ak rfl cg kU rfl) ?_;refine dm ?_;obtain⟨SR,y,h⟩:=aa h;refine db (aM (t:=(.int .i64)) rfl eS co y) ?_;refine da (ap (t:=(.int .i64)) rfl co rfl) ?_;refine df dI ?_;refine jb (kh rfl) ?_;refine nt (ci h (fun h=>?_) (fun h=>?_))
       ·refine sr (ja (c6 [(0,.const (.int .i64 (12)),_)] rfl wi t3 sY (iH ⟨rfl,trivial⟩) rfl) ?_);refine ja (mQ rfl EM) ?_;refine aq (nt (aC (br (bp (aV ?_)))));obtain rfl:=hR _ h;exact ra
       ·refine ba (bn ?_);exact jz ((),x9) h [0]
     ·refine ab ?_;obtain⟨X,x,h⟩:=aa h;refine jb (bm rfl x) ?_;refine mq (nl ?_);exact jz ((),(x6,X)) h [0]
    ·refine xa ?_;exact jz ((),y4.1) h [0]
   ·refine ah (sr (mq ?_));refine fl cC ?_;refine lo ic ?_;refine ol nY ?_;obtain⟨SS,J,h⟩:=aa h;refine jb (Gf rfl (aH J)) ?_;refine jb (F9 rfl) ?_;refine jb (jJ rfl) ?_;refine nt (cn h (fun h=>?_) (fun h=>?_))
    ·refine sr (ja (c6 [(0,.const (.int .i64 (7)),_)] rfl wi t3 sY (iH ⟨rfl,trivial⟩) rfl) ?_);refine ja (mQ rfl EM) ?_;refine aq (nt (rx ?_));cases h;exact ra
    ·refine sk (sr (cq (nt (aC ?_))));cases h;exact ra
def cI(k:Nat)(a0:(List (List Int)))(y5:(List (List Int))×Int):Nat→((List (List Int))×Int)→Option (List (List Int))
 |0,_=>none
 |n+1,y9=>
  if y9.2 < 5 then((((dY (0≤y5.2∧y5.2 < 3)).bind fun _=>
  (a8 y9.1 y5.2).bind fun c=>
  (dY (0≤y9.2∧y9.2 < 5)).bind fun _=>
  ((if y5.2 < (a0.length:Int) then((a8 a0 y5.2).bind fun r=>
  some (decide (y9.2 < (r.length:Int)))) else(some false)):Option (Bool)).bind fun s=>
  if s=true then((a8 a0 y5.2).bind fun l=>
  (a8 l y9.2).bind fun j=>
  (dY (0≤y5.2∧y5.2 < 3)).bind fun _=>
  (a8 (List.set y9.1 (Int.toNat y5.2) (List.set c (Int.toNat y9.2) (-1:Int))) y5.2).bind fun h=>
  (dY (0≤y9.2∧y9.2 < 5)).bind fun _=>
  some (List.set (List.set y9.1 (Int.toNat y5.2) (List.set c (Int.toNat y9.2) (-1:Int))) (Int.toNat y5.2) (List.set h (Int.toNat y9.2) j))) else(some (List.set y9.1 (Int.toNat y5.2) (List.set c (Int.toNat y9.2) (-1:Int))))):Option ((List (List Int)))).bind fun u=>
  (ck (y9.2+1)).bind fun e=>
  cI k a0 y5 n (u,e)) else(some y9.1)
def cZ(k:Nat)(a0:(List (List Int))):Nat→((List (List Int))×Int)→Option (List (List Int))
 |0,_=>none
 |n+1,y5=>
  if y5.2 < 3 then(((cI k a0 y5 k (y5.1,0)):Option ((List (List Int)))).bind fun x7=>
  (ck (y5.2+1)).bind fun c=>
  cZ k a0 n (x7,c)) else(some y5.1)
def dz(k:Nat)(a0:(List (List Int))):Option (List (List Int)):=
 ((cZ k a0 k ([[0,0,0,0,0],[0,0,0,0,0],[0,0,0,0,0]],0)):Option ((List (List Int)))).bind fun x3=>
 some x3
theorem dT(k:Nat)(a0:(List (List Int)))(r:(List (List Int)))(h:dz k a0=some r):
 cd Tryz.prog 47 [.rep (.slice (.slice (.int .i64))) a0] [] (fun _:Unit=>(bv [.rep (.arr 3 (.arr 5 (.int .i64))) r],[])):=by
 unfold dz at h
 replace h:=bg h
 refine cd.of 43 Tryz.func47 rfl Tryz.ntmps47 rfl fun S w0=>?_
 refine sr ?_
 refine aE rfl rfl rfl (aZ rfl rY sZ) trivial fun b1=>?_
 refine nt ?_
 refine sr ?_
 refine aE rfl rfl rfl (aZ rfl rY sZ) trivial fun b2=>?_
 refine nt ?_
 refine aX (Z:=Unit) (α:=(List (List Int))) (fun z4 x3=>[(2,Pt b1),(3,Pt b2)]) (fun z4 x3=>[.obj b1 85 (.rep (.arr 3 (.arr 5 (.int .i64))) [[0,0,0,0,0],[0,0,0,0,0],[0,0,0,0,0]]),.obj b2 85 (.rep (.arr 3 (.arr 5 (.int .i64))) x3)]) h (fun K h=>?_) (fun z4 x3 h=>?_)
 ·
  refine sr (eT rfl ?_);refine nt (an (aN (fun z6 y5=>[(0,.rep (.slice (.slice (.int .i64))) a0),(2,Pt b1),(3,Pt b2),(6,I y5.2)]) (fun z6 y5=>[.obj b1 85 (.rep (.arr 3 (.arr 5 (.int .i64))) [[0,0,0,0,0],[0,0,0,0,0],[0,0,0,0,0]]),.obj b2 85 (.rep (.arr 3 (.arr 5 (.int .i64))) y5.1)]) (cZ k a0) k () ([[0,0,0,0,0],[0,0,0,0,0],[0,0,0,0,0]],0) (fun _=>rfl) h (SE.fin [1,0] ⟨rfl,rfl,rfl,rfl,trivial⟩ rfl) (fun n z6 y5 h=>?_)));unfold cZ at h;refine sr (jb (bG rfl) ?_);refine nt (ah (ci h (fun h=>?_) (fun h=>?_)))
  ·refine sk (aX (Z:=Unit) (α:=(List (List Int))) (fun z8 x7=>[(0,.rep (.slice (.slice (.int .i64))) a0),(2,Pt b1),(3,Pt b2),(6,I y5.2)]) (fun z8 x7=>[.obj b1 85 (.rep (.arr 3 (.arr 5 (.int .i64))) [[0,0,0,0,0],[0,0,0,0,0],[0,0,0,0,0]]),.obj b2 85 (.rep (.arr 3 (.arr 5 (.int .i64))) x7)]) h (fun K h=>?_) (fun z8 x7 h=>?_))
   ·refine an (sr (mq ?_));refine aq (nt (sr ?_));refine eT rfl ?_;refine nt (an (aN (fun J y9=>[(0,.rep (.slice (.slice (.int .i64))) a0),(2,Pt b1),(3,Pt b2),(4,I y5.2),(6,I y5.2),(9,I y9.2)]) (fun J y9=>[.obj b1 85 (.rep (.arr 3 (.arr 5 (.int .i64))) [[0,0,0,0,0],[0,0,0,0,0],[0,0,0,0,0]]),.obj b2 85 (.rep (.arr 3 (.arr 5 (.int .i64))) y9.1)]) (cI k a0 y5) k () (y5.1,0) (fun _=>rfl) h (SE.fin [0,1] ⟨rfl,rfl,rfl,rfl,rfl,rfl,trivial⟩ rfl) (fun n J y9 h=>?_)));unfold cI at h;refine sr (jb (bG rfl) ?_);refine nt (ah (ci h (fun h=>?_) (fun h=>?_)))
    ·refine sk (aX (Z:=Unit) (α:=(List (List Int))) (fun F l=>[(0,.rep (.slice (.slice (.int .i64))) a0),(2,Pt b1),(3,Pt b2),(4,I y5.2),(6,I y5.2),(9,I y9.2)]) (fun F l=>[.obj b1 85 (.rep (.arr 3 (.arr 5 (.int .i64))) [[0,0,0,0,0],[0,0,0,0,0],[0,0,0,0,0]]),.obj b2 85 (.rep (.arr 3 (.arr 5 (.int .i64))) l)]) h (fun K h=>?_) (fun F l h=>?_))
     ·refine an (sr (mq ?_));refine aq (nt (sr ?_));iterate 2 refine mq ?_
      obtain⟨SY,x,h⟩:=aa h;refine jb (ip rfl Qw FD (aH x).1 (aH x).2) ?_;obtain⟨D,ac,h⟩:=aa h;obtain⟨SX,e,h⟩:=aa h;refine jb (ip rfl Qx co (aH e).1 (aH e).2) ?_;refine fr 1 ?_;refine aY rfl rfl (nk (t:=(.int .i64)) (off:=0) (i:=y5.2) (j:=y9.2) (N:=3) (L:=5) rfl co .int rfl rfl rfl rfl ac (aH e).1 (aH e).2 rfl) ⟨rfl,rfl,trivial⟩ ?_;refine nt (aX (Z:=Unit) (α:=Bool) (fun E y=>[(0,.rep (.slice (.slice (.int .i64))) a0),(2,Pt b1),(3,Pt b2),(4,I y5.2),(5,I y9.2),(6,I y5.2),(9,I y9.2),(28,.eq (.bool y))]) (fun E y=>[.obj b1 85 (.rep (.arr 3 (.arr 5 (.int .i64))) [[0,0,0,0,0],[0,0,0,0,0],[0,0,0,0,0]]),.obj b2 85 (.rep (.arr 3 (.arr 5 (.int .i64))) (List.set y9.1 (Int.toNat y5.2) (List.set D (Int.toNat y9.2) (-1:Int))))]) h (fun K h=>?_) (fun E y h=>?_))
      ·refine ab ?_;iterate 2 refine mq ?_
       refine ol nX ?_;refine jb (bG rfl) ?_;refine mq ?_;refine cm (s:=20) rfl (fun hb=>?_) (fun hb=>?_)
       ·replace h:=cU (nz hb) h;refine gm ?_;refine gm ?_;refine gm ?_;obtain⟨SR,Y,h⟩:=aa h;refine gb (aM (t:=(.slice (.int .i64))) rfl nX cg Y) ?_;refine ga (ap (t:=(.slice (.int .i64))) rfl cg rfl) ?_;refine ga (mP rfl rfl eS) ?_;refine gb (bG rfl) ?_;refine pt (nl ?_);exact jz ((),decide (y9.2 < (SR.length:Int))) h [1,0]
       ·replace h:=bT (m4 hb) h;iterate 7 refine gn ?_
        refine pf (nl ?_);exact jz ((),false) h [1,0]
      ·refine cv h (fun h=>?_) (fun h=>?_)
       ·refine cz ?_;refine dm ?_;refine dm ?_;refine dm ?_;refine dm ?_;obtain⟨SS,X,h⟩:=aa h;refine db (aM (t:=(.slice (.int .i64))) rfl nX cg X) ?_;refine da (ap (t:=(.slice (.int .i64))) rfl cg rfl) ?_;refine dm ?_;obtain⟨se,U,h⟩:=aa h;refine db (aM (t:=(.int .i64)) rfl eS co U) ?_;refine da (ap (t:=(.int .i64)) rfl co rfl) ?_;obtain⟨SV,u,h⟩:=aa h;refine db (ip rfl Qw FD (aH u).1 (aH u).2) ?_;refine df dI ?_;obtain⟨qt,Q,h⟩:=aa h;obtain⟨SU,c,h⟩:=aa h;refine jb (ip rfl Qx co (aH c).1 (aH c).2) ?_;refine fr 1 ?_;refine aY rfl rfl (nk (t:=(.int .i64)) (off:=0) (i:=y5.2) (j:=y9.2) (N:=3) (L:=5) rfl co .int rfl rfl rfl rfl Q (aH c).1 (aH c).2 rfl) ⟨rfl,rfl,trivial⟩ ?_;refine ar (bn ?_);exact jz ((),List.set (List.set y9.1 (Int.toNat y5.2) (List.set D (Int.toNat y9.2) (-1:Int))) (Int.toNat y5.2) (List.set qt (Int.toNat y9.2) se)) h [1,0]
       ·refine ba (bn ?_);exact jz ((),List.set y9.1 (Int.toNat y5.2) (List.set D (Int.toNat y9.2) (-1:Int))) h [0,1]
     ·refine ab ?_;obtain⟨pp,O,h⟩:=aa h;refine jb (bm rfl O) ?_;refine mq (nl ?_);exact jz ((),(l,pp)) h [0,1]
    ·refine dD (aQ (aQ (bR (bn ?_))));exact jz ((),y9.1) h [0,1]
   ·refine ab ?_;obtain⟨mc,M,h⟩:=aa h;refine jb (bm rfl M) ?_;refine mq (nl ?_);exact jz ((),(x7,mc)) h [0,1]
  ·refine xa ?_;exact jz ((),y5.1) h [0,1]
 ·
  refine sr (fr 1 ?_);refine lo fO ?_;refine fr 1 ?_;refine aY rfl rfl (aR rfl fO rfl rfl rfl) ⟨rfl,rfl,trivial⟩ ?_;refine nt (aC ?_);obtain rfl:=Option.some.inj h;exact aL () [.rep (.arr 3 (.arr 5 (.int .i64))) x3] 0 ⟨⟨_,_,_,_,_,rfl,(.head _),fO,(vL),rfl⟩,trivial⟩ rfl
def cS(k:Nat)(x5:(List Int)):Nat→((List Int)×Int)→Option (List Int)
 |0,_=>none
 |n+1,y6=>
  if y6.2 < 5 then((((a8 x5 y6.2).bind fun c=>
  if 0≤c then((dY (bU (List.length y6.1+List.length [c]))).bind fun _=>
  some (y6.1++[c])) else(some y6.1)):Option ((List Int))).bind fun x8=>
  (ck (y6.2+1)).bind fun e=>
  cS k x5 n (x8,e)) else(some y6.1)
def dN(k:Nat)(a0:(List (List Int)))(a1:Int):Option (List Int):=
 (((dY (0≤a1∧a1 < 3)).bind fun _=>
 (a8 a0 a1).bind fun x5=>
 cS k x5 k (([]:(List Int)),0)):Option ((List Int))).bind fun x2=>
 some x2
theorem fV(k:Nat)(a0:(List (List Int)))(a1:Int)(r:(List Int))(h:dN k a0 a1=some r):
 cd Tryz.prog 78 [.rep (.arr 3 (.arr 5 (.int .i64))) a0,I a1] [] (fun _:Unit=>(bv [Ri r],[])):=by
 unfold dN at h
 replace h:=bg h
 refine cd.of 22 Tryz.func78 rfl Tryz.ntmps78 rfl fun S w0=>?_
 refine sr ?_
 refine bx fun b1=>?_
 refine cq ?_
 refine nt ?_
 refine sr ?_
 refine cq ?_
 refine nt ?_
 refine aX (Z:=Value) (α:=(List Int)) (fun z3 x2=>[(5,.eq z3)]) (fun z3 x2=>[.sl z3 3 (.int .i64) x2]) h (fun K h=>?_) (fun z3 x2 h=>?_)
 ·
  refine sr (mq ?_);obtain⟨u4,l,h⟩:=aa h;refine jb (ip rfl Qw FD (aH l).1 (aH l).2) ?_;obtain⟨x5,y,h⟩:=aa h;refine ka (A8 (t:=(.arr 5 (.int .i64))) (off:=0) (i:=a1) (N:=3) rfl FD (vL) rfl rfl rfl rfl y) ?_;refine eT rfl ?_;refine nt (an (eG (SE.nil 3 (.int .i64)) ?_));refine aN (fun z7 y6=>[(5,.eq z7),(10,.rep (.arr 5 (.int .i64)) x5),(11,I y6.2)]) (fun z7 y6=>[.sl z7 3 (.int .i64) y6.1]) (cS k x5) k (.slice none 0 0) (([]:(List Int)),0) (fun _=>rfl) h (SE.fin [0] ⟨rfl,rfl,rfl,trivial⟩ rfl) (fun n z7 y6 h=>?_);unfold cS at h;refine sr (jb (bG rfl) ?_);refine nt (ah (ci h (fun h=>?_) (fun h=>?_)))
  ·refine sk (aX (Z:=Value) (α:=(List Int)) (fun z9 x8=>[(5,.eq z9),(10,.rep (.arr 5 (.int .i64)) x5),(11,I y6.2)]) (fun z9 x8=>[.sl z9 3 (.int .i64) x8]) h (fun K h=>?_) (fun z9 x8 h=>?_))
   ·refine an (sr ?_);obtain⟨c,j,h⟩:=aa h;refine jb (zk (t:=(.int .i64)) rfl Qx co rfl rfl (fun _=>rfl) j) ?_;refine aq (nt (sr ?_));refine mq ?_;refine jb (pW rfl) ?_;refine nt (ci h (fun h=>?_) (fun h=>?_))
    ·refine ab ?_;iterate 2 refine mq ?_
     refine ja (bC (t:=(.int .i64)) [(.tmp 17,_)] [c] rfl rfl eu (.cons rfl .int .nil) rfl rfl) ?_;obtain⟨D,s,h⟩:=aa h;refine eC rfl rfl rfl (bZ rfl rfl eu (aH s)) ⟨rfl,rfl,trivial⟩ fun x=>?_;refine aq (ar (bn ?_));exact jz (x,y6.1++[c]) h [0]
    ·refine ba (bn ?_);exact jz (z7,y6.1) h [0]
   ·refine ab ?_;obtain⟨u,e,h⟩:=aa h;refine jb (bm rfl e) ?_;refine mq (nl ?_);exact jz (z9,(x8,u)) h [0]
  ·refine xa ?_;exact jz (z7,y6.1) h [0]
 ·
  refine sr (mq ?_);refine aq (nt (aC ?_));refine bF (gZ [4,5,21] ⟨rfl,rfl,rfl,trivial⟩) ?_;cases h;exact ra
def cy{σ:Type}(k:Nat)(a1:(List Int))(Y:σ→(Int×Int)→Option (σ×Bool)):Nat→(Int×σ)→Option (σ)
 |0,_=>none
 |n+1,y2=>
  if 0≤y2.1 then((a8 a1 y2.1).bind fun x4=>
  (Y y2.2 (y2.1,x4)).bind fun r5=>
  if¬(r5.2=true) then(some r5.1) else((ck (y2.1 - 1)).bind fun x7=>
  cy k a1 Y n (x7,r5.1))) else(some y2.2)
def gw{σ:Type}(k:Nat)(Y:σ→(Int×Int)→Option (σ×Bool))(a1:(List Int))(s0:σ):Option (σ):=
 (ck ((a1.length:Int) - 1)).bind fun x1=>
 cy k a1 Y k (x1,s0)
theorem nS{M:Md Tryz.prog}{σ Z:Type}(E:Z→σ→List D)(l:Nat)(Y:σ→(Int×Int)→Option (σ×Bool))(k:Nat)(a1:(List Int))(c:Nat)(hY:∀z s p r,Y s p=some r→YT M l [I p.1,I p.2] (E z s) (fun z':Z=>(.eq (.bool r.2),E z' r.1))):
 ∀(z0:Z) (s0:σ) (r:σ),gw k Y a1 s0=some r→dy M 166 [.eq (.func (.yield l) #[] #[]),Pt c] ([.obj c 22 (Ri a1)]++E z0 s0) (fun z:Z=>(bv [],[.obj c 22 (Ri a1)]++E z r)):=by
 intro z0 s0 r h
 unfold gw at h
 replace h:=bg h
 refine dy.of 19 Tryz.func166 rfl Tryz.ntmps166 rfl fun S w0=>?_
 refine sr ?_
 refine lo cg ?_
 refine ol eS ?_
 obtain⟨x1,u,h⟩:=aa h
 refine jb (d5 rfl u) ?_
 refine aq ?_
 refine nt ?_
 refine an ?_
 refine aN (Z:=Z) (α:=Int×σ) (fun z3 y2=>[(0,.eq (.func (.yield l) #[] #[])),(1,Pt c),(3,I y2.1)]) (fun z3 y2=>[.obj c 22 (Ri a1)]++E z3 y2.2) (cy k a1 Y) k z0 (x1,s0) (fun _=>rfl) h (bh [.obj c 22 (Ri a1)] (E z0 s0) [0] ⟨rfl,rfl,rfl,trivial⟩ rfl) (fun n z3 y2 h=>?_)
 unfold cy at h
 refine ah ?_
 refine sr ?_
 refine mq ?_
 refine jb (pW rfl) ?_
 refine nt ?_
 refine ci h (fun h=>?_) (fun h=>?_)
 ·
  refine sk (ah (an (sr ?_)));iterate 2 refine mq ?_
  refine lo cg ?_;refine mq ?_;obtain⟨x4,j,h⟩:=aa h;refine jb (aM (t:=(.int .i64)) rfl eS co j) ?_;refine ja (ap (t:=(.int .i64)) rfl co rfl) ?_;obtain⟨r5,x,h⟩:=aa h;refine o0 [.obj c 22 (Ri a1)] rfl rfl rfl (xz [.tmp 12,.tmp 16] rfl rfl rfl (hY z3 y2.2 (y2.1,x4) r5 x)) ⟨rfl,rfl,rfl,trivial⟩ fun z6=>?_;refine ja (eY rfl) ?_;refine nt (cw h (fun h=>?_) (fun h=>?_))
  ·refine aC (br (bp ?_));cases h;exact iG z6 [] trivial rfl
  ·refine ba (aP (tn (ab (mq ?_))));obtain⟨x7,e,h⟩:=aa h;refine jb (d5 rfl e) ?_;refine aq (nl ?_);exact iR (z6,(x7,r5.1)) h (bh [.obj c 22 (Ri a1)] (E z6 r5.1) [0] ⟨rfl,rfl,rfl,trivial⟩ rfl)
 ·
  refine dD (aQ (aQ (bR (iS ?_))));cases h;exact iG z3 [] trivial rfl
theorem pN(a0:(List Int)):cd Tryz.prog 148 [Ri a0] [] (fun z:Nat=>(bv [.eq (.func (.func 166) #[] #[(Pv z)])],[.obj z 22 (Ri a0)])):=by
 refine cd.of 4 Tryz.func148 rfl Tryz.ntmps148 rfl fun S w0=>?_;refine sr (bx fun z=>?_);refine cq (nt (sr ?_));refine ja (sD [] [.tmp 1] [] [(Pv z)] rfl rfl rfl) ?_;refine aq (nt (aC ?_));exact aL z [_] 1 ⟨rfl,trivial⟩ rfl
def oh(k:Nat)(a0:(List Int)):Option (List Int):=
 (gw k (pV (fun(y3:(List Int)) (p5:(Int×Int))=>
  some ((p5.2::y3),true))) a0 ([],false)).bind fun r6=>
 if r6.2=true then(none) else(some r6.1)
theorem yK(k:Nat)(a0:(List Int))(r:(List Int))(h:oh k a0=some r):
 cd Tryz.prog 118 [Ri a0] [] (fun _:Unit=>(bv [.rep (.lst (.int .i64)) r],[])):=by
 unfold oh at h
 replace h:=bg h
 refine yr 15 Tryz.func118 rfl Tryz.ntmps118 rfl fun {M} S w0=>?_
 refine sr ?_
 refine cq ?_
 refine nt ?_
 refine sr ?_
 refine aE rfl rfl rfl (aZ rfl NS P3) trivial fun b1=>?_
 refine nt ?_
 refine ah ?_
 refine sr ?_
 refine mq ?_
 refine aE rfl rfl rfl (ao [.tmp 6] rfl rfl PN rfl (pN a0)) ⟨rfl,trivial⟩ fun b2=>?_
 refine nt ?_
 refine an ?_
 refine gP 1 rfl ?_
 refine eG (pG (a:=.eq (.pointer none)) (a':=.rep (.lst (.int .i64)) []) (yu .lnil)) ?_
 refine gP 1 rfl ?_
 obtain⟨r6,c,h⟩:=aa h
 refine nE (Δ:=[.obj b2 22 (Ri a0),.obj b1 196 (.rep (.lst (.int .i64)) [])]) (F:=[]) (X:=Unit) (J:=fun _=>Js r6.2) (E:=fun z4=>[.obj b2 22 (Ri a0),.obj b1 196 (.rep (.lst (.int .i64)) r6.1)]) (r0:=fun _=>.tup .any) rfl rfl PH (fun rec hp ha hb hs hpe hN hv l=>?_) (fun dl z4=>qg (fun hj=>?_) (fun hj=>?_))
 ·
  rcases rec with⟨st0,pe0,fn0,tm0,ps0,as0,bd0,df0⟩;dsimp only at hp ha hb hs hpe hN hv;subst hp hs hpe;have vN:vj tm0 [(3,Pt b1)]:=⟨congrArg A.eq (hv 3 _ rfl).symm,trivial⟩;refine dy.pick (M:=M) [1,0,2] [1,0,2] (nS (fun(z4:Unit) (q:(List Int)×Bool)=>[.raw l (.loop (jw ⟨.ready,none,fn0,tm0, #[8,9],as0,bd0,df0⟩ (Js q.2))),.obj b1 196 (.rep (.lst (.int .i64)) q.1)]) l (pV (fun(y3:(List Int)) (p5:(Int×Int))=>
  some ((p5.2::y3),true))) k a0 b2 (fun z4 q p r' h=>?_) () ([],false) r6 c) rfl (fun _=>rfl) (fun _=>rfl)
  obtain⟨rq,hq,h2,rfl⟩:=qh h;obtain⟨y3,b5⟩:=q;obtain rfl:b5=false:=hq;replace h:=bg h2;obtain⟨p5,hpv⟩:∃x,x=p:=⟨_,rfl⟩;subst hpv;refine YT.pick (R':=(fun z4:Unit=>(.eq (.bool rq.2),[.raw l (.loop (jw ⟨.ready,none,fn0,tm0, #[8,9],as0,bd0,df0⟩ (Js (!rq.2)))),.obj b1 196 (.rep (.lst (.int .i64)) rq.1)]))) [0,1] [0,1] (KD ha hb (N:=15) (Γ:=[(3,Pt b1)]) rfl hN (by decide) vN (fun S w=>?_)) rfl (fun _=>rfl) (fun _=>rfl);refine ab (aq (nl ?_));refine vq rfl rfl ?_;refine an (ab (mq ?_));refine fr 1 ?_;refine lo yP ?_;refine jb (c6 [(0,.tmp 10,_),(1,.tmp 11,_)] rfl Oi NR Nn (iH ⟨rfl,rfl,trivial⟩) rfl) ?_;refine aE rfl rfl rfl (nM rfl trivial) ⟨rfl,trivial⟩ fun b7=>?_;refine cO (lj (t:=Fz) (x:=(p5.2,y3)) [13] (.agg (.pair .int .rep)) ⟨rfl,trivial⟩) ?_;refine aY rfl rfl (aR rfl yP trivial rfl rfl) ⟨rfl,rfl,trivial⟩ ?_;refine ar (aP (bF (pG (a:=.at Fz (p5.2,y3)) (a':=.rep (.lst (.int .i64)) (p5.2::y3)) (yu .lcons)) ?_));refine c9 1 rfl ?_;cases h;exact tc () 1 rfl
 ·
  replace h:=bT (Fo hj) h;refine aP (tn (sr (fr 2 ?_)));refine lo yP ?_;refine aq (nt (aC ?_));refine c9 1 rfl ?_;refine yp ?_;cases h;exact ra
 ·
  replace h:=cU (Ff hj) h;cases h
def gh(k:Nat)(a1:Int):Nat→(Int×(List Int)×(List Int)×(List Int))→Option (Int×(List Int))
 |0,_=>none
 |n+1,y2=>
  if List.isEmpty y2.2.2.2=true then((dY (bU (List.length y2.2.2.1+List.length y2.2.1))).bind fun _=>
  some (y2.1,y2.2.2.1++y2.2.1)) else((od y2.2.2.2).bind fun x6=>
  (dS k a1 x6.1).bind fun r7=>
  if r7=true then((od y2.2.2.2).bind fun x8=>
  (dY (bU (List.length y2.2.1+List.length [x8.1]))).bind fun _=>
  (od y2.2.2.2).bind fun l=>
  gh k a1 n (y2.1,y2.2.1++[x8.1],y2.2.2.1,l.2)) else(((if 0 < (y2.2.1.length:Int) then((od y2.2.2.2).bind fun h=>
  (eJ k y2.1 h.1).bind fun r=>
  some r) else(some y2.1)):Option (Int)).bind fun j=>
  (od y2.2.2.2).bind fun c=>
  (dY (bU (List.length y2.2.2.1+List.length [c.1]))).bind fun _=>
  (od y2.2.2.2).bind fun e=>
  gh k a1 n (j,y2.2.1,y2.2.2.1++[c.1],e.2)))
def mI(k:Nat)(a0:(List Int))(a1:Int):Option (Int×(List Int)):=
 (oh k a0).bind fun r1=>
 gh k a1 k (0,([]:(List Int)),([]:(List Int)),r1)
theorem tf(k:Nat)(a0:(List Int))(a1:Int)(r:Int×(List Int))(h:mI k a0 a1=some r):
 cd Tryz.prog 97 [Ri a0,.eq (.int .u8 a1)] [] (fun _:Unit=>(bv [.eq (.int .u8 r.1),Ri r.2],[])):=by
 unfold mI at h
 replace h:=bg h
 refine cd.of 54 Tryz.func97 rfl Tryz.ntmps97 rfl fun S w0=>?_
 refine sr ?_
 refine cq ?_
 refine cq ?_
 refine nt ?_
 refine EV rfl (C0 (by kernel_rfl) (C0 (by kernel_rfl) (MM ML))) ?_
 refine sr ?_
 refine cq ?_
 refine cq ?_
 refine nt ?_
 refine sr ?_
 refine mq ?_
 obtain⟨r1,mc,h⟩:=aa h
 have pp:=yK k a0 r1 mc
 refine ja (ao [.tmp 9] rfl rfl PS rfl pp) ?_
 refine aq ?_
 refine nt ?_
 refine ah ?_
 refine Il ?_
 refine tn ?_
 refine eG (SE.nil 3 (.int .i64)) ?_
 refine eG (SE.nil 3 (.int .i64)) ?_
 refine BV (Z:=Value×Value) (α:=Int×(List Int)×(List Int)×(List Int)) rfl (fun z3 y2=>[(1,.eq (.int .u8 a1)),(4,.eq (.int .u8 y2.1)),(6,.eq z3.1),(7,.eq z3.2),(8,.rep (.lst (.int .i64)) y2.2.2.2)]) (fun z3 y2=>[.sl z3.1 3 (.int .i64) y2.2.1,.sl z3.2 3 (.int .i64) y2.2.2.1]) (gh k a1) k ((.slice none 0 0),(.slice none 0 0)) (0,([]:(List Int)),([]:(List Int)),r1) (fun _=>rfl) h (SE.fin [1,0] ⟨rfl,rfl,rfl,rfl,rfl,trivial⟩ rfl) (fun n z3 y2 h=>?_)
 unfold gh at h
 refine ah ?_
 refine sr ?_
 refine mq ?_
 refine jb (Gn rfl RR) ?_
 refine nt ?_
 refine cv h (fun h=>?_) (fun h=>?_)
 ·
  refine sr ?_;iterate 3 refine mq ?_
  refine cO (gZ [6,15] ⟨rfl,rfl,trivial⟩) ?_;obtain⟨u4,Y,h⟩:=aa h;refine eC rfl rfl rfl (bZ rfl rfl eu (aH Y)) ⟨rfl,rfl,trivial⟩ fun v5=>?_;refine aq ?_;refine aq (nt (rx ?_));refine Ik ?_;refine bF (gZ [5,16] ⟨rfl,rfl,trivial⟩) ?_;cases h;exact rb
 ·
  refine sk (ah (sr ?_));iterate 2 refine mq ?_
  obtain⟨x6,U,h⟩:=aa h;refine ja (lg rfl U) ?_;refine ja (aI 1 false rfl tV rfl) ?_;refine ja (ap (t:=(.int .i64)) rfl co rfl) ?_;obtain⟨r7,ac,h⟩:=aa h;refine jb (ao [.tmp 17,.tmp 21] rfl rfl JY rfl (ii k a1 x6.1 r7 ac)) ?_;refine nt (cv h (fun h=>?_) (fun h=>?_))
  ·refine sr ?_;iterate 2 refine mq ?_
   obtain⟨x8,Q,h⟩:=aa h;refine ja (lg rfl Q) ?_;refine ja (aI 1 false rfl tV rfl) ?_;refine ja (ap (t:=(.int .i64)) rfl co rfl) ?_;refine ja (bC (t:=(.int .i64)) [(.tmp 27,_)] [x8.1] rfl rfl eu (.cons rfl .int .nil) rfl rfl) ?_;obtain⟨u9,X,h⟩:=aa h;refine eC rfl rfl rfl (bZ rfl rfl eu (aH X)) ⟨rfl,rfl,trivial⟩ fun O=>?_;refine aq (nt (sr ?_));refine mq ?_;obtain⟨J,y,h⟩:=aa h;refine ja (lg rfl y) ?_;refine ja (aI 1 false rfl CY rfl) ?_;refine ja (ap (t:=(.lst (.int .i64))) rfl yP rfl) ?_;refine aq (nt ?_);refine Dm ?_;refine EU ?_;exact Dk ((O,z3.2),(y2.1,y2.2.1++[x8.1],y2.2.2.1,J.2)) h (SE.fin [0,1] ⟨rfl,rfl,rfl,rfl,rfl,trivial⟩ rfl)
  ·refine sk (aX (Z:=Unit) (α:=Int) (fun e c=>[(1,.eq (.int .u8 a1)),(4,.eq (.int .u8 c)),(6,.eq z3.1),(7,.eq z3.2),(8,.rep (.lst (.int .i64)) y2.2.2.2)]) (fun e c=>[.sl z3.1 3 (.int .i64) y2.2.1,.sl z3.2 3 (.int .i64) y2.2.2.1]) h (fun K h=>?_) (fun e c h=>?_))
   ·refine sr (mq ?_);refine ka (dx rfl rfl eS) ?_;refine jb (kh rfl) ?_;refine nt (ci h (fun h=>?_) (fun h=>?_))
    ·refine ab ?_;iterate 2 refine mq ?_
     obtain⟨I,x,h⟩:=aa h;refine ja (lg rfl x) ?_;refine ja (aI 1 false rfl tV rfl) ?_;refine ja (ap (t:=(.int .i64)) rfl co rfl) ?_;obtain⟨l,E,h⟩:=aa h;refine jb (ao [.tmp 37,.tmp 41] rfl rfl JW rfl (iV k y2.1 I.1 l E)) ?_;refine aq (nl ?_);exact jz ((),l) h [0,1]
    ·refine ba (ae ?_);exact jz ((),y2.1) h [0,1]
   ·refine sr ?_;iterate 2 refine mq ?_
    obtain⟨j,u,h⟩:=aa h;refine ja (lg rfl u) ?_;refine ja (aI 1 false rfl tV rfl) ?_;refine ja (ap (t:=(.int .i64)) rfl co rfl) ?_;refine ja (bC (t:=(.int .i64)) [(.tmp 47,_)] [j.1] rfl rfl eu (.cons rfl .int .nil) rfl rfl) ?_;obtain⟨qt,D,h⟩:=aa h;refine fr 1 ?_;refine eC rfl rfl rfl (bZ rfl rfl eu (aH D)) ⟨rfl,rfl,trivial⟩ fun M=>?_;refine aq (nt (sr ?_));refine mq ?_;obtain⟨F,s,h⟩:=aa h;refine ja (lg rfl s) ?_;refine ja (aI 1 false rfl CY rfl) ?_;refine ja (ap (t:=(.lst (.int .i64))) rfl yP rfl) ?_;refine aq (nt ?_);refine Dm ?_;exact Dk ((z3.1,M),(c,y2.2.1,y2.2.2.1++[j.1],F.2)) h (SE.fin [1,0] ⟨rfl,rfl,rfl,rfl,rfl,trivial⟩ rfl)
def di(k:Nat)(a0:(List Int))(a1:Int):Nat→Int→Option (Except Int Unit)
 |0,_=>none
 |n+1,y3=>
  if y3 < (a0.length:Int) then((a8 a0 y3).bind fun x5=>
  if a1=x5 then(some (.error y3)) else((ck (y3+1)).bind fun x6=>
  di k a0 a1 n x6)) else(some (.ok ()))
def iN(k:Nat)(a0:(List Int))(a1:Int):Option Int:=
 bE (α:=Unit) (di k a0 a1 k 0) (some) fun _=>
 some (-1:Int)
theorem so(k:Nat)(a0:(List Int))(a1:Int)(r:Int)(h:iN k a0 a1=some r):
 cd Tryz.prog 149 [Ri a0,I a1] [] (fun _:Unit=>(bv [I r],[])):=by
 unfold iN at h
 replace h:=bg h
 refine cd.of 19 Tryz.func149 rfl Tryz.ntmps149 rfl fun S w0=>?_
 refine sr ?_
 refine cq ?_
 refine nt ?_
 refine fh (Z:=Unit) (α:=Unit) (fun z2 x1=>[]) (fun z2 x1=>[]) (fun e=>e=r) h (fun e h=>Option.some.inj h) (fun K hR h=>?_) (fun z2 x1 h=>?_)
 ·
  refine sr (mq ?_);refine ol eS ?_;refine eT rfl ?_;refine nt (an (aN (fun z4 y3=>[(0,Ri a0),(1,I a1),(7,I (a0.length:Int)),(8,I y3)]) (fun z4 y3=>[]) (di k a0 a1) k () 0 (fun _=>rfl) h (SE.fin [] ⟨rfl,rfl,rfl,rfl,trivial⟩ rfl) (fun n z4 y3 h=>?_)));unfold di at h;refine sr (jb (bG rfl) ?_);refine nt (ah (ci h (fun h=>?_) (fun h=>?_)))
  ·refine sk (ah (an (sr (mq ?_))));refine aq (nt (sr ?_));iterate 3 refine mq ?_
   obtain⟨x5,j,h⟩:=aa h;refine jb (aM (t:=(.int .i64)) rfl eS co j) ?_;refine ja (ap (t:=(.int .i64)) rfl co rfl) ?_;refine jb (eE rfl) ?_;refine nt (ci h (fun h=>?_) (fun h=>?_))
   ·refine sr (mq ?_);refine aq (nt (aC (br (bp (aV ?_)))));obtain rfl:=hR _ h;exact ra
   ·refine ba (aP (tn (ab ?_)));obtain⟨x6,c,h⟩:=aa h;refine jb (bm rfl c) ?_;refine mq (nl ?_);exact jz ((),x6) h []
  ·refine xa ?_;exact jz ((),()) h []
 ·
  refine sr (cq (nt (aC ?_)));cases h;exact ra
def fX(k:Nat)(a0:(List Int))(a1:Int):Option Bool:=
 (iN k a0 a1).bind fun r1=>
 some (decide (0≤r1))
theorem pL(k:Nat)(a0:(List Int))(a1:Int)(r:Bool)(h:fX k a0 a1=some r):
 cd Tryz.prog 119 [Ri a0,I a1] [] (fun _:Unit=>(bv [.eq (.bool r)],[])):=by
 unfold fX at h
 replace h:=bg h
 refine cd.of 9 Tryz.func119 rfl Tryz.ntmps119 rfl fun S w0=>?_
 refine sr ?_
 refine cq ?_
 refine nt ?_
 refine sr ?_
 iterate 2 refine mq ?_
 obtain⟨r1,c,h⟩:=aa h
 have e:=so k a0 a1 r1 c
 refine jb (ao [.tmp 5,.tmp 6] rfl rfl PM rfl e) ?_
 refine jb (pW rfl) ?_
 refine aq ?_
 refine nt ?_
 refine aC ?_
 cases h
 exact ra
def eU(k:Nat)(a0:dc)(a1:Int):Nat→(Int×Int)→Option Int
 |0,_=>none
 |n+1,y3=>
  if y3.2 < (a0.1.2.1.length:Int) then((((a8 a0.1.2.1 y3.2).bind fun x7=>
  (fX k x7.2 a1).bind fun r9=>
  if r9=true then((eJ k y3.1 y3.2).bind fun e=>
  some e) else(some y3.1)):Option (Int)).bind fun x5=>
  (ck (y3.2+1)).bind fun c=>
  eU k a0 a1 n (x5,c)) else(some y3.1)
def gR(k:Nat)(a0:dc)(a1:Int):Option Int:=
 ((eU k a0 a1 k (0,0)):Option (Int)).bind fun x1=>
 some x1
theorem mG(k:Nat)(a0:dc)(a1:Int)(r:Int)(h:gR k a0 a1=some r):
 cd Tryz.prog 98 [.at bH a0,I a1] [] (fun _:Unit=>(bv [.eq (.int .u8 r)],[])):=by
 unfold gR at h
 replace h:=bg h
 refine cd.of 28 Tryz.func98 rfl Tryz.ntmps98 rfl fun S w0=>?_
 refine sr ?_
 refine cq ?_
 refine nt ?_
 refine sr ?_
 refine cq ?_
 refine nt ?_
 refine aX (Z:=Unit) (α:=Int) (fun z2 x1=>[(5,.eq (.int .u8 x1))]) (fun z2 x1=>[]) h (fun K h=>?_) (fun z2 x1 h=>?_)
 ·
  refine sr (mq ?_);refine ja (dE rfl) ?_;refine ja (aI 3 true rfl jF rfl) ?_;refine ja (aI 1 false rfl cC rfl) ?_;refine ja (ap (t:=(.slice aG)) rfl ic rfl) ?_;refine ol nY ?_;refine eT rfl ?_;refine nt (an (aN (fun z4 y3=>[(1,I a1),(5,.eq (.int .u8 y3.1)),(12,Rs aG a0.1.2.1),(13,I (a0.1.2.1.length:Int)),(14,I y3.2)]) (fun z4 y3=>[]) (eU k a0 a1) k () (0,0) (fun _=>rfl) h (SE.fin [] ⟨rfl,rfl,rfl,rfl,rfl,trivial⟩ rfl) (fun n z4 y3 h=>?_)));unfold eU at h;refine sr (jb (bG rfl) ?_);refine nt (ah (ci h (fun h=>?_) (fun h=>?_)))
  ·refine sk (aX (Z:=Unit) (α:=Int) (fun z6 x5=>[(1,I a1),(5,.eq (.int .u8 x5)),(12,Rs aG a0.1.2.1),(13,I (a0.1.2.1.length:Int)),(14,I y3.2)]) (fun z6 x5=>[]) h (fun K h=>?_) (fun z6 x5 h=>?_))
   ·refine an (sr (mq ?_));obtain⟨x7,s,h⟩:=aa h;refine jb (aM (t:=aG) rfl nY jH s) ?_;refine ja (ap (t:=aG) rfl jH rfl) ?_;refine aE rfl rfl rfl (aZ rfl vv Kx) trivial fun b8=>?_;refine aq ?_;refine aY rfl rfl (aR rfl jH rfl rfl rfl) ⟨rfl,rfl,trivial⟩ ?_;refine nt (sr (fl jh ?_));refine lo cg ?_;refine mq ?_;obtain⟨r9,u,h⟩:=aa h;refine jb (ao [.tmp 20,.tmp 21] rfl rfl PR rfl (pL k x7.2 a1 r9 u)) ?_;refine nt (cv h (fun h=>?_) (fun h=>?_))
    ·refine ab ?_;iterate 2 refine mq ?_
     obtain⟨c,j,h⟩:=aa h;refine jb (ao [.tmp 23,.tmp 24] rfl rfl JW rfl (iV k y3.1 y3.2 c j)) ?_;refine aq (ar (bn ?_));exact jz ((),c) h []
    ·refine ba (bn ?_);exact jz ((),y3.1) h []
   ·refine ab ?_;obtain⟨l,e,h⟩:=aa h;refine jb (bm rfl e) ?_;refine mq (nl ?_);exact jz ((),(x5,l)) h []
  ·refine xa ?_;exact jz ((),y3.1) h []
 ·
  refine sr (mq ?_);refine aq (nt (aC ?_));cases h;exact ra
def i9(k:Nat)(a0:(List Int))(a1:(List Int)):Nat→Int→Option (Except Bool Unit)
 |0,_=>none
 |n+1,y3=>
  if y3 < (a0.length:Int) then((a8 a0 y3).bind fun x5=>
  (a8 a1 y3).bind fun x6=>
  if¬(x5=x6) then(some (.error false)) else((ck (y3+1)).bind fun x7=>
  i9 k a0 a1 n x7)) else(some (.ok ()))
def jB(k:Nat)(a0:(List Int))(a1:(List Int)):Option Bool:=
 if¬((a0.length:Int)=(a1.length:Int)) then(some false) else(bE (α:=Unit) (i9 k a0 a1 k 0) (some) fun _=>
 some true)
theorem kF(k:Nat)(a0:(List Int))(a1:(List Int))(r:Bool)(h:jB k a0 a1=some r):
 cd Tryz.prog 39 [Ri a0,Ri a1] [] (fun _:Unit=>(bv [.eq (.bool r)],[])):=by
 unfold jB at h
 replace h:=bg h
 refine cd.of 26 Tryz.func39 rfl Tryz.ntmps39 rfl fun S w0=>?_
 refine sr ?_
 refine cq ?_
 refine nt ?_
 refine ah ?_
 refine sr ?_
 refine mq ?_
 refine ol eS ?_
 refine mq ?_
 refine ol eS ?_
 refine jb (jJ rfl) ?_
 refine nt ?_
 refine cn h (fun h=>?_) (fun h=>?_)
 ·
  refine sr (cq (nt (rx ?_)));cases h;exact ra
 ·
  refine sk (fh (Z:=Unit) (α:=Unit) (fun z2 x1=>[]) (fun z2 x1=>[]) (fun e=>e=r) h (fun e h=>Option.some.inj h) (fun K hR h=>?_) (fun z2 x1 h=>?_))
  ·refine sr (cq (nt (an ?_)));refine aN (fun z4 y3=>[(0,Ri a0),(1,Ri a1),(5,I y3)]) (fun z4 y3=>[]) (i9 k a0 a1) k () 0 (fun _=>rfl) h (SE.fin [] ⟨rfl,rfl,rfl,trivial⟩ rfl) (fun n z4 y3 h=>?_);unfold i9 at h;refine ah (sr ?_);iterate 2 refine mq ?_
   refine ol eS ?_;refine jb (bG rfl) ?_;refine nt (ci h (fun h=>?_) (fun h=>?_))
   ·refine sk (ah (an (ah (cz ?_))));refine dm ?_;refine dm ?_;obtain⟨x5,l,h⟩:=aa h;refine db (aM (t:=(.int .i64)) rfl eS co l) ?_;refine da (ap (t:=(.int .i64)) rfl co rfl) ?_;refine dm ?_;refine dm ?_;obtain⟨x6,j,h⟩:=aa h;refine db (aM (t:=(.int .i64)) rfl eS co j) ?_;refine da (ap (t:=(.int .i64)) rfl co rfl) ?_;refine df dI ?_;refine jb (jJ rfl) ?_;refine nt (cn h (fun h=>?_) (fun h=>?_))
    ·refine sr (cq (nt (aC (br (bp (aV ?_))))));obtain rfl:=hR _ h;exact ra
    ·refine ba (aP (tn (ab (mq ?_))));obtain⟨x7,c,h⟩:=aa h;refine jb (bm rfl c) ?_;refine aq (nl ?_);exact jz ((),x7) h []
   ·refine xa ?_;exact jz ((),()) h []
  ·refine sr (cq (nt (aC ?_)));cases h;exact ra
def iz(k:Nat)(a0:(List (List Int)))(a1:(List (List Int))):Nat→Int→Option (Except Bool Unit)
 |0,_=>none
 |n+1,y3=>
  if y3 < (a0.length:Int) then((a8 a0 y3).bind fun x5=>
  (a8 a1 y3).bind fun x6=>
  (jB k x5 x6).bind fun r7=>
  if¬(r7=true) then(some (.error false)) else((ck (y3+1)).bind fun x8=>
  iz k a0 a1 n x8)) else(some (.ok ()))
def j8(k:Nat)(a0:(List (List Int)))(a1:(List (List Int))):Option Bool:=
 if¬((a0.length:Int)=(a1.length:Int)) then(some false) else(bE (α:=Unit) (iz k a0 a1 k 0) (some) fun _=>
 some true)
theorem mU(k:Nat)(a0:(List (List Int)))(a1:(List (List Int)))(r:Bool)(h:j8 k a0 a1=some r):
 cd Tryz.prog 22 [.rep (.slice (.slice (.int .i64))) a0,.rep (.slice (.slice (.int .i64))) a1] [] (fun _:Unit=>(bv [.eq (.bool r)],[])):=by
 unfold j8 at h
 replace h:=bg h
 refine cd.of 27 Tryz.func22 rfl Tryz.ntmps22 rfl fun S w0=>?_
 refine sr ?_
 refine cq ?_
 refine nt ?_
 refine ah ?_
 refine sr ?_
 refine mq ?_
 refine ol nX ?_
 refine mq ?_
 refine ol nX ?_
 refine jb (jJ rfl) ?_
 refine nt ?_
 refine cn h (fun h=>?_) (fun h=>?_)
 ·
  refine sr (cq (nt (rx ?_)));cases h;exact ra
 ·
  refine sk (fh (Z:=Unit) (α:=Unit) (fun z2 x1=>[]) (fun z2 x1=>[]) (fun e=>e=r) h (fun e h=>Option.some.inj h) (fun K hR h=>?_) (fun z2 x1 h=>?_))
  ·refine sr (cq (nt (an ?_)));refine aN (fun z4 y3=>[(0,.rep (.slice (.slice (.int .i64))) a0),(1,.rep (.slice (.slice (.int .i64))) a1),(5,I y3)]) (fun z4 y3=>[]) (iz k a0 a1) k () 0 (fun _=>rfl) h (SE.fin [] ⟨rfl,rfl,rfl,trivial⟩ rfl) (fun n z4 y3 h=>?_);unfold iz at h;refine ah (sr ?_);iterate 2 refine mq ?_
   refine ol nX ?_;refine jb (bG rfl) ?_;refine nt (ci h (fun h=>?_) (fun h=>?_))
   ·refine sk (ah (an (ah (cz ?_))));refine dm ?_;refine dm ?_;obtain⟨x5,l,h⟩:=aa h;refine db (aM (t:=(.slice (.int .i64))) rfl nX cg l) ?_;refine da (ap (t:=(.slice (.int .i64))) rfl cg rfl) ?_;refine dm ?_;refine dm ?_;obtain⟨x6,j,h⟩:=aa h;refine db (aM (t:=(.slice (.int .i64))) rfl nX cg j) ?_;refine da (ap (t:=(.slice (.int .i64))) rfl cg rfl) ?_;refine df dI ?_;obtain⟨r7,s,h⟩:=aa h;refine jb (ao [.tmp 20,.tmp 24] rfl rfl M4 rfl (kF k x5 x6 r7 s)) ?_;refine ja (eY rfl) ?_;refine nt (cw h (fun h=>?_) (fun h=>?_))
    ·refine sr (cq (nt (aC (br (bp (aV ?_))))));obtain rfl:=hR _ h;exact ra
    ·refine ba (aP (tn (ab (mq ?_))));obtain⟨x8,c,h⟩:=aa h;refine jb (bm rfl c) ?_;refine aq (nl ?_);exact jz ((),x8) h []
   ·refine xa ?_;exact jz ((),()) h []
  ·refine sr (cq (nt (aC ?_)));cases h;exact ra
def d3(k:Nat)(a0:dc)(a1:(List (List Int))):Nat→((List (List Int))×Int)→Option (List (List Int))
 |0,_=>none
 |n+1,y6=>
  if y6.2 < ((List.replicate (Int.toNat (a0.1.2.2.length:Int)) ([]:(List Int))).length:Int) then((dN k a1 y6.2).bind fun r8=>
  (a8 y6.1 y6.2).bind fun x9=>
  (ck (y6.2+1)).bind fun c=>
  d3 k a0 a1 n (List.set y6.1 (Int.toNat y6.2) r8,c)) else(some y6.1)
def dR(k:Nat)(a0:dc)(a1:(List (List Int))):Option (List (List Int)):=
 (dY (0≤(a0.1.2.2.length:Int)∧bU (Int.toNat (a0.1.2.2.length:Int)))).bind fun _=>
 ((d3 k a0 a1 k (List.replicate (Int.toNat (a0.1.2.2.length:Int)) ([]:(List Int)),0)):Option ((List (List Int)))).bind fun x4=>
 some x4
theorem hC(k:Nat)(a0:dc)(a1:(List (List Int)))(r:(List (List Int)))(h:dR k a0 a1=some r):
 cd Tryz.prog 45 [.at bH a0,.rep (.arr 3 (.arr 5 (.int .i64))) a1] [] (fun z:Value=>(bv [.eq z],[.sl z 22 (.slice (.int .i64)) r])):=by
 unfold dR at h
 replace h:=bg h
 refine cd.of 27 Tryz.func45 rfl Tryz.ntmps45 rfl fun S w0=>?_
 refine sr ?_
 refine bx fun b1=>?_
 refine cq ?_
 refine nt ?_
 refine sr ?_
 refine mq ?_
 refine ja (dE rfl) ?_
 refine ja (aI 3 true rfl jF rfl) ?_
 refine ja (aI 1 false rfl dH rfl) ?_
 refine ja (ap (t:=(.slice (.int .i64))) rfl cg rfl) ?_
 refine ol eS ?_
 obtain⟨u2,j,h⟩:=aa h
 refine aE rfl rfl rfl (Gm (t:=(.slice (.int .i64))) (d:=([]:(List Int))) rfl uh QE (aH j).1 (aH j).2) ⟨rfl,rfl,trivial⟩ fun v3=>?_
 refine aq ?_
 refine nt ?_
 refine aX (Z:=Unit) (α:=(List (List Int))) (fun z5 x4=>[(5,.eq v3)]) (fun z5 x4=>[.sl v3 22 (.slice (.int .i64)) x4]) h (fun K h=>?_) (fun z5 x4 h=>?_)
 ·
  refine sr (mq ?_);refine ka (dx rfl rfl nX) ?_;refine eT rfl ?_;refine nt (an (aN (fun z7 y6=>[(3,Pt b1),(5,.eq v3),(15,I ((List.replicate (Int.toNat (a0.1.2.2.length:Int)) ([]:(List Int))).length:Int)),(16,I y6.2)]) (fun z7 y6=>[.obj b1 85 (.rep (.arr 3 (.arr 5 (.int .i64))) a1),.sl v3 22 (.slice (.int .i64)) y6.1]) (d3 k a0 a1) k () (List.replicate (Int.toNat (a0.1.2.2.length:Int)) ([]:(List Int)),0) (fun _=>rfl) h (SE.fin [1,0] ⟨rfl,rfl,rfl,rfl,trivial⟩ rfl) (fun n z7 y6 h=>?_)));unfold d3 at h;refine sr (jb (bG rfl) ?_);refine nt (ah (ci h (fun h=>?_) (fun h=>?_)))
  ·refine sk (ah (an (sr (mq ?_))));refine aq (nt (ab ?_));iterate 2 refine mq ?_
   refine lo fO ?_;refine mq ?_;obtain⟨r8,s,h⟩:=aa h;refine jb (ao [.tmp 21,.tmp 22] rfl rfl JX rfl (fV k a1 y6.2 r8 s)) ?_;obtain⟨x9,c,h⟩:=aa h;refine fr 1 ?_;refine kb (bb (t:=(.slice (.int .i64))) rfl nX cg c) ?_;refine aY rfl rfl (dU (i:=Int.toNat y6.2) rfl cg rfl (jE c) rfl .rep rfl) ⟨rfl,rfl,trivial⟩ ?_;refine ar (aP (tn (ab ?_)));obtain⟨l,e,h⟩:=aa h;refine jb (bm rfl e) ?_;refine mq (nl ?_);exact jz ((),(List.set y6.1 (Int.toNat y6.2) r8,l)) h [1,0]
  ·refine xa ?_;exact jz ((),y6.1) h [1]
 ·
  refine sr (mq ?_);refine aq (nt (aC ?_));cases h;exact aL v3 [.eq v3] 1 ⟨rfl,trivial⟩ rfl
def dM{σ:Type}(k:Nat)(a0:(List (List Int)))(a1:Int)(a2:Int)(a3:dc)(self:(List (List Int))→Int→Int→σ→Option (Bool×σ))(h:(List Int)):Nat→(Int×σ)→Option (Except (Bool×σ) (σ))
 |0,_=>none
 |n+1,c=>
  if c.1 < (a3.1.2.1.length:Int) then(bE (α:=σ) ((a8 a3.1.2.1 c.1).bind fun y=>
  (((dS k a2 c.1).bind fun I=>
  if I=true then(some (true,c.2)) else((mH k a3.1 h).bind fun F=>
  (ck (F+y.1)).bind fun x=>
  (a8 a3.1.2.2 a1).bind fun u=>
  some (decide (u < x),c.2))):Option (Bool×σ)).bind fun j=>
  if j.1=true then(some (.ok j.2)) else((dY (0≤a1∧a1 < 3)).bind fun _=>
  (a8 a0 a1).bind fun s=>
  (dY (0≤(h.length:Int)∧(h.length:Int) < 5)).bind fun _=>
  (eJ k a2 c.1).bind fun E=>
  (self (List.set a0 (Int.toNat a1) (List.set s (Int.toNat (h.length:Int)) c.1)) a1 E j.2).bind fun l=>
  if¬(l.1=true) then(some (.error (false,l.2))) else(some (.ok l.2)))) (fun e=>some (.error e)) fun D=>
  (ck (c.1+1)).bind fun r=>
  dM k a0 a1 a2 a3 self h n (r,D)) else(some (.ok c.2))
def cX{σ:Type}(k:Nat)(Y:σ→(List (List Int))→Option (σ×Bool))(a3:dc):Nat→(List (List Int))→Int→Int→σ→Option (Bool×σ)
 |0,_,_,_,_=>none
 |m0+1,a0,a1,a2,s0=>
  if a1=(a3.1.2.2.length:Int) then((((dY (0≤(a3.1.2.1.length:Int))).bind fun _=>
  if¬(a2=(IntKind.u8.wrap ((mW .u8 1 (a3.1.2.1.length:Int)) - 1))) then(some (true,s0)) else((Y s0 a0).bind fun r5=>
  some (r5.2,r5.1))):Option (Bool×σ)).bind fun x2=>
  some (x2.1,x2.2)) else((ck (a1+1)).bind fun x7=>
  ((cX k Y a3 m0) a0 x7 a2 s0).bind fun r8=>
  if¬(r8.1=true) then(some (false,r8.2)) else((dN k a0 a1).bind fun e=>
  bE (α:=σ) (dM k a0 a1 a2 a3 (cX k Y a3 m0) e k (0,r8.2)) (some) fun c=>
  some (true,c)))
theorem mr{M:Md Tryz.prog}{σ Z:Type}(E:Z→σ→List D)(l:Nat)(Y:σ→(List (List Int))→Option (σ×Bool))(k:Nat)(a3:dc)(u:Nat)(x:Nat)(c:Nat)(hY:∀z s p r,Y s p=some r→YT M l [.rep (.arr 3 (.arr 5 (.int .i64))) p] (E z s) (fun z':Z=>(.eq (.bool r.2),E z' r.1))):
 ∀(n:Nat) (a0:(List (List Int))) (a1:Int) (a2:Int) (z0:Z) (s0:σ) (r:Bool×σ),cX k Y a3 n a0 a1 a2 s0=some r→dy M 90 [.rep (.arr 3 (.arr 5 (.int .i64))) a0,I a1,.eq (.int .u8 a2),Pt u,Pt x,Pt c] ([.obj u 80 (.at bH a3),.obj x 154 (.eq (.func (.yield l) #[] #[])),.obj c 155 (.eq (.func (.func 90) #[] #[(Pv u),(Pv x),(Pv c)]))]++E z0 s0) (fun z:Z=>(bv [.eq (.bool r.1)],[.obj u 80 (.at bH a3),.obj x 154 (.eq (.func (.yield l) #[] #[])),.obj c 155 (.eq (.func (.func 90) #[] #[(Pv u),(Pv x),(Pv c)]))]++E z r.2)):=by
 intro n
 induction n with
 |zero=>intro a0 a1 a2 z0 s0 r h;cases h
 |succ m0 ih=>
  intro a0 a1 a2 z0 s0 r h;rw [cX] at h;replace h:=bg h;refine dy.of 97 Tryz.func90 rfl Tryz.ntmps90 rfl fun S w0=>?_;refine sr (bx fun b1=>?_);refine cq (nt (ah (sr ?_)));refine mq ?_;refine fr 1 ?_;refine lo xo ?_;refine ja (dE rfl) ?_;refine ja (aI 3 true rfl jF rfl) ?_;refine ja (aI 1 false rfl dH rfl) ?_;refine ja (ap (t:=(.slice (.int .i64))) rfl cg rfl) ?_;refine ol eS ?_;refine jb (eE rfl) ?_;refine nt (ci h (fun h=>?_) (fun h=>?_))
  ·refine aX (Z:=Z) (α:=Bool×σ) (fun z3 x2=>[(9,.eq (.bool x2.1))]) (fun z3 x2=>[.obj u 80 (.at bH a3),.obj x 154 (.eq (.func (.yield l) #[] #[])),.obj c 155 (.eq (.func (.func 90) #[] #[(Pv u),(Pv x),(Pv c)]))]++E z3 x2.2) h (fun K h=>?_) (fun z3 x2 h=>?_)
   ·refine ab (mq ?_);refine lo xo ?_;refine ja (dE rfl) ?_;refine ja (aI 3 true rfl jF rfl) ?_;refine ja (aI 1 false rfl cC rfl) ?_;refine ja (ap (t:=(.slice aG)) rfl ic rfl) ?_;refine ol nY ?_;obtain⟨u4,TA,h⟩:=aa h;refine jb (Gf rfl (aH TA)) ?_;refine jb (F9 rfl) ?_;refine jb (jJ rfl) ?_;refine mq ?_;refine cm (s:=32) rfl (fun hb=>?_) (fun hb=>?_)
    ·replace h:=cU (Qo hb) h;iterate 3 refine gn ?_
     refine pt ?_;refine aq (nl ?_);exact iR (z0,(true,s0)) h (bh [.obj u 80 (.at bH a3),.obj b1 85 (.rep (.arr 3 (.arr 5 (.int .i64))) a0),.obj x 154 (.eq (.func (.yield l) #[] #[])),.obj c 155 (.eq (.func (.func 90) #[] #[(Pv u),(Pv x),(Pv c)]))] (E z0 s0) [0,2,3] ⟨rfl,trivial⟩ rfl)
    ·replace h:=bT (Jl hb) h;refine fr 2 ?_;refine mz rfl rfl rfl rfl rfl rfl (ak rfl Og kU rfl) ⟨rfl,trivial⟩ ?_;refine fr 2 ?_;refine mz rfl rfl rfl rfl rfl rfl (ak rfl fO (vL) rfl) ⟨rfl,trivial⟩ ?_;obtain⟨r5,TC,h⟩:=aa h;refine fr 3 ?_;refine fr 3 ?_;refine fr 3 ?_;refine fr 3 ?_;refine ES [.obj b1 85 (.rep (.arr 3 (.arr 5 (.int .i64))) a0),.obj x 154 (.eq (.func (.yield l) #[] #[])),.obj u 80 (.at bH a3),.obj c 155 (.eq (.func (.func 90) #[] #[(Pv u),(Pv x),(Pv c)]))] rfl rfl rfl rfl rfl rfl (xz [.tmp 34] rfl rfl rfl (hY z0 s0 a0 r5 TC)) ⟨rfl,rfl,trivial⟩ fun z6=>?_;refine pf ?_;refine aq (nl ?_);exact iR (z6,(r5.2,r5.1)) h (bh [.obj b1 85 (.rep (.arr 3 (.arr 5 (.int .i64))) a0),.obj x 154 (.eq (.func (.yield l) #[] #[])),.obj u 80 (.at bH a3),.obj c 155 (.eq (.func (.func 90) #[] #[(Pv u),(Pv x),(Pv c)]))] (E z6 r5.1) [2,1,3] ⟨rfl,trivial⟩ rfl)
   ·refine rx ?_;cases h;exact iG z3 [_] ⟨rfl,trivial⟩ rfl
  ·refine sk (ah (sr (fr 3 ?_)));refine lo Cd ?_;refine fr 2 ?_;refine lo fO ?_;refine mq ?_;obtain⟨x7,Tz,h⟩:=aa h;refine jb (bm rfl Tz) ?_;refine mq ?_;obtain⟨r8,TB,h⟩:=aa h;refine fr 1 ?_;refine fr 3 ?_;refine fr 3 ?_;refine fr 3 ?_;refine o0 [.obj b1 85 (.rep (.arr 3 (.arr 5 (.int .i64))) a0)] rfl rfl rfl (ow (fs:=[]) (cs:=[(Pv u),(Pv x),(Pv c)]) (ags:=[.rep (.arr 3 (.arr 5 (.int .i64))) a0,I x7,.eq (.int .u8 a2)]) [.tmp 38,.tmp 40,.tmp 41] rfl rfl MZ rfl (ih a0 x7 a2 z0 s0 r8 TB)) ⟨rfl,rfl,rfl,rfl,trivial⟩ fun z9=>?_;refine ja (eY rfl) ?_;refine nt (cw h (fun h=>?_) (fun h=>?_))
   ·refine sr (cq (nt (rx ?_)));refine bF (bh (Γ':=[(9,_)]) [.obj b1 85 (.rep (.arr 3 (.arr 5 (.int .i64))) a0),.obj u 80 (.at bH a3),.obj x 154 (.eq (.func (.yield l) #[] #[])),.obj c 155 (.eq (.func (.func 90) #[] #[(Pv u),(Pv x),(Pv c)]))] (E z9 r8.2) [1,2,3] ⟨rfl,trivial⟩ rfl) ?_;cases h;exact iG z9 [_] ⟨rfl,trivial⟩ rfl
   ·refine sk (sr (lo fO ?_));refine mq ?_;obtain⟨F,Ti,h⟩:=aa h;refine jb (ao [.tmp 44,.tmp 45] rfl rfl JX rfl (fV k a0 a1 F Ti)) ?_;refine aq (nt ?_);refine fh (Z:=Z) (α:=σ) (fun qt SS=>[]) (fun qt SS=>[.obj u 80 (.at bH a3),.obj x 154 (.eq (.func (.yield l) #[] #[])),.obj c 155 (.eq (.func (.func 90) #[] #[(Pv u),(Pv x),(Pv c)]))]++E qt SS) (fun e=>e=r) h (fun e h=>Option.some.inj h) (fun K hR h=>?_) (fun qt SS h=>?_)
    ·refine sr (fr 1 ?_);refine lo xo ?_;refine ja (dE rfl) ?_;refine ja (aI 3 true rfl jF rfl) ?_;refine ja (aI 1 false rfl cC rfl) ?_;refine ja (ap (t:=(.slice aG)) rfl ic rfl) ?_;refine ol nY ?_;refine eT rfl ?_;refine nt (an (aN (Z:=Z) (α:=Int×σ) (fun J y=>[(1,I a1),(2,.eq (.int .u8 a2)),(3,Pt u),(5,Pt c),(6,Pt b1),(10,Ri F),(51,Rs aG a3.1.2.1),(52,I (a3.1.2.1.length:Int)),(53,I y.1)]) (fun J y=>[.obj u 80 (.at bH a3),.obj c 155 (.eq (.func (.func 90) #[] #[(Pv u),(Pv x),(Pv c)])),.obj x 154 (.eq (.func (.yield l) #[] #[])),.obj b1 85 (.rep (.arr 3 (.arr 5 (.int .i64))) a0)]++E J y.2) (dM k a0 a1 a2 a3 (cX k Y a3 m0) F) k z9 (0,r8.2) (fun _=>rfl) h (bh [.obj u 80 (.at bH a3),.obj b1 85 (.rep (.arr 3 (.arr 5 (.int .i64))) a0),.obj x 154 (.eq (.func (.yield l) #[] #[])),.obj c 155 (.eq (.func (.func 90) #[] #[(Pv u),(Pv x),(Pv c)]))] (E z9 r8.2) [0,3,2,1] ⟨rfl,rfl,rfl,rfl,rfl,rfl,rfl,rfl,rfl,trivial⟩ rfl) (fun n J y h=>?_)));unfold dM at h;refine sr (jb (bG rfl) ?_);refine nt (ah (ci h (fun h=>?_) (fun h=>?_)))
     ·refine sk (fh (Z:=Z) (α:=σ) (fun X mc=>[(1,I a1),(2,.eq (.int .u8 a2)),(3,Pt u),(5,Pt c),(6,Pt b1),(10,Ri F),(51,Rs aG a3.1.2.1),(52,I (a3.1.2.1.length:Int)),(53,I y.1)]) (fun X mc=>[.obj u 80 (.at bH a3),.obj c 155 (.eq (.func (.func 90) #[] #[(Pv u),(Pv x),(Pv c)])),.obj x 154 (.eq (.func (.yield l) #[] #[])),.obj b1 85 (.rep (.arr 3 (.arr 5 (.int .i64))) a0)]++E X mc) (fun e=>e=r) h (fun e h=>hR e h) (fun K hR h=>?_) (fun X mc h=>?_))
      ·refine an (sr (mq ?_));obtain⟨SX,S8,h⟩:=aa h;refine jb (aM (t:=aG) rfl nY jH S8) ?_;refine ja (ap (t:=aG) rfl jH rfl) ?_;refine aE rfl rfl rfl (aZ rfl vv Kx) trivial fun Tj=>?_;refine aq ?_;refine aY rfl rfl (aR rfl jH rfl rfl rfl) ⟨rfl,rfl,trivial⟩ ?_;refine nt (ah (aX (Z:=Z) (α:=Bool×σ) (fun U O=>[(1,I a1),(2,.eq (.int .u8 a2)),(3,Pt u),(5,Pt c),(6,Pt b1),(10,Ri F),(11,I y.1),(51,Rs aG a3.1.2.1),(52,I (a3.1.2.1.length:Int)),(53,I y.1),(80,.eq (.bool O.1))]) (fun U O=>[.obj u 80 (.at bH a3),.obj c 155 (.eq (.func (.func 90) #[] #[(Pv u),(Pv x),(Pv c)])),.obj x 154 (.eq (.func (.yield l) #[] #[])),.obj b1 85 (.rep (.arr 3 (.arr 5 (.int .i64))) a0)]++E U O.2) h (fun K h=>?_) (fun U O h=>?_)))
       ·refine cz ?_;refine dm ?_;refine dm ?_;obtain⟨Tv,Tf,h⟩:=aa h;refine db (ao [.tmp 58,.tmp 59] rfl rfl JY rfl (ii k a2 y.1 Tv Tf)) ?_;refine tZ rfl rfl rfl (aO rfl) ⟨rfl,trivial⟩ (fun hb=>?_) (fun hb=>?_)
        ·replace h:=cU (Ff hb) h;iterate 17 refine dg ?_
         refine df dI ?_;refine gn ?_;refine pt (nl ?_);exact iR (J,(true,y.2)) h (bh [.obj Tj 35 (.rep aG SX),.obj u 80 (.at bH a3),.obj c 155 (.eq (.func (.func 90) #[] #[(Pv u),(Pv x),(Pv c)])),.obj x 154 (.eq (.func (.yield l) #[] #[])),.obj b1 85 (.rep (.arr 3 (.arr 5 (.int .i64))) a0)] (E J y.2) [1,2,3,4] ⟨rfl,rfl,rfl,rfl,rfl,rfl,rfl,rfl,rfl,rfl,rfl,trivial⟩ rfl)
        ·replace h:=bT (Fo hb) h;refine mi 1 rfl rfl rfl rfl rfl rfl (ak rfl xo kU rfl) ⟨rfl,rfl,trivial⟩ ?_;refine cr rfl rfl rfl rfl rfl (dE rfl) ⟨rfl,rfl,trivial⟩ ?_;refine cr rfl rfl rfl rfl rfl (aI 3 true rfl jF rfl) ⟨rfl,rfl,trivial⟩ ?_;refine cr rfl rfl rfl rfl rfl (ap (t:=aw) rfl fJ rfl) ⟨rfl,rfl,trivial⟩ ?_;refine cr rfl rfl rfl rfl rfl (aO rfl) ⟨rfl,rfl,trivial⟩ ?_;obtain⟨Tt,Td,h⟩:=aa h;refine cr rfl rfl rfl rfl rfl (ao [.tmp 65,.tmp 66] rfl rfl Pl rfl (te k a3.1 F Tt Td)) ⟨rfl,rfl,rfl,trivial⟩ ?_;refine cr rfl rfl rfl rfl rfl (ax rfl ny) ⟨rfl,rfl,trivial⟩ ?_;refine mi 0 rfl rfl rfl rfl rfl rfl (ak rfl co kU rfl) ⟨rfl,rfl,trivial⟩ ?_;obtain⟨To,S7,h⟩:=aa h;refine cr rfl rfl rfl rfl rfl (bm rfl S7) ⟨rfl,rfl,rfl,trivial⟩ ?_;refine mi 1 rfl rfl rfl rfl rfl rfl (ak rfl xo kU rfl) ⟨rfl,rfl,trivial⟩ ?_;refine cr rfl rfl rfl rfl rfl (dE rfl) ⟨rfl,rfl,trivial⟩ ?_;refine cr rfl rfl rfl rfl rfl (aI 3 true rfl jF rfl) ⟨rfl,rfl,trivial⟩ ?_;refine cr rfl rfl rfl rfl rfl (aI 1 false rfl dH rfl) ⟨rfl,rfl,trivial⟩ ?_;refine cr rfl rfl rfl rfl rfl (ap (t:=(.slice (.int .i64))) rfl cg rfl) ⟨rfl,rfl,trivial⟩ ?_;refine cr rfl rfl rfl rfl rfl (aO rfl) ⟨rfl,rfl,trivial⟩ ?_;obtain⟨Tn,S5,h⟩:=aa h;refine cr rfl rfl rfl rfl rfl (aM (t:=(.int .i64)) rfl eS co S5) ⟨rfl,rfl,rfl,trivial⟩ ?_;refine cr rfl rfl rfl rfl rfl (ap (t:=(.int .i64)) rfl co rfl) ⟨rfl,rfl,trivial⟩ ?_;refine df dI ?_;refine gb (kh rfl) ?_;refine pf (nl ?_);exact iR (J,(decide (Tn < To),y.2)) h (bh [.obj Tj 35 (.rep aG SX),.obj u 80 (.at bH a3),.obj c 155 (.eq (.func (.func 90) #[] #[(Pv u),(Pv x),(Pv c)])),.obj x 154 (.eq (.func (.yield l) #[] #[])),.obj b1 85 (.rep (.arr 3 (.arr 5 (.int .i64))) a0)] (E J y.2) [1,2,3,4] ⟨rfl,rfl,rfl,rfl,rfl,rfl,rfl,rfl,rfl,rfl,rfl,trivial⟩ rfl)
       ·refine cv h (fun h=>?_) (fun h=>?_)
        ·refine dD (aQ (bR (ae ?_)));exact iR (U,O.2) h (bh [.obj u 80 (.at bH a3),.obj c 155 (.eq (.func (.func 90) #[] #[(Pv u),(Pv x),(Pv c)])),.obj x 154 (.eq (.func (.yield l) #[] #[])),.obj b1 85 (.rep (.arr 3 (.arr 5 (.int .i64))) a0)] (E U O.2) [0,1,2,3] ⟨rfl,rfl,rfl,rfl,rfl,rfl,rfl,rfl,rfl,trivial⟩ rfl)
        ·refine sk (sr (fr 3 ?_));refine lo fO ?_;refine aE rfl rfl rfl (aZ rfl rY sZ) trivial fun SV=>?_;refine aY rfl rfl (aR rfl fO rfl rfl rfl) ⟨rfl,rfl,trivial⟩ ?_;refine nt (sr ?_);iterate 2 refine mq ?_
         refine ol eS ?_;refine mq ?_;obtain⟨TF,SR,h⟩:=aa h;refine jb (ip rfl Qw FD (aH SR).1 (aH SR).2) ?_;obtain⟨ac,SZ,h⟩:=aa h;obtain⟨TD,Q,h⟩:=aa h;refine jb (ip rfl Qx co (aH Q).1 (aH Q).2) ?_;refine aY rfl rfl (nk (t:=(.int .i64)) (off:=0) (i:=a1) (j:=(F.length:Int)) (N:=3) (L:=5) rfl co .int rfl rfl rfl rfl SZ (aH Q).1 (aH Q).2 rfl) ⟨rfl,rfl,trivial⟩ ?_;refine nt (ah (cz ?_));refine ea 3 (ak rfl Cd kU rfl) ?_;refine ea 0 (ak rfl fO (vL) rfl) ?_;refine dm ?_;refine dm ?_;refine dm ?_;obtain⟨SU,Ta,h⟩:=aa h;refine db (ao [.tmp 91,.tmp 92] rfl rfl JW rfl (iV k a2 y.1 SU Ta)) ?_;refine df dI ?_;obtain⟨se,S9,h⟩:=aa h;refine fr 3 ?_;refine fr 4 ?_;refine fr 4 ?_;refine fr 4 ?_;refine fr 4 ?_;refine o0 [.obj SV 85 (.rep (.arr 3 (.arr 5 (.int .i64))) (List.set a0 (Int.toNat a1) (List.set ac (Int.toNat (F.length:Int)) y.1))),.obj b1 85 (.rep (.arr 3 (.arr 5 (.int .i64))) a0)] rfl rfl rfl (ow (fs:=[]) (cs:=[(Pv u),(Pv x),(Pv c)]) (ags:=[.rep (.arr 3 (.arr 5 (.int .i64))) (List.set a0 (Int.toNat a1) (List.set ac (Int.toNat (F.length:Int)) y.1)),I a1,.eq (.int .u8 SU)]) [.tmp 89,.tmp 90,.tmp 93] rfl rfl MZ rfl (ih (List.set a0 (Int.toNat a1) (List.set ac (Int.toNat (F.length:Int)) y.1)) a1 SU U O.2 se S9)) ⟨rfl,rfl,rfl,rfl,trivial⟩ fun pp=>?_;refine ja (eY rfl) ?_;refine nt (cw h (fun h=>?_) (fun h=>?_))
         ·refine sr (cq (nt (aC (br (bp (aV ?_))))));refine bF (bh (Γ':=[(9,_)]) [.obj SV 85 (.rep (.arr 3 (.arr 5 (.int .i64))) (List.set a0 (Int.toNat a1) (List.set ac (Int.toNat (F.length:Int)) y.1))),.obj b1 85 (.rep (.arr 3 (.arr 5 (.int .i64))) a0),.obj u 80 (.at bH a3),.obj x 154 (.eq (.func (.yield l) #[] #[])),.obj c 155 (.eq (.func (.func 90) #[] #[(Pv u),(Pv x),(Pv c)]))] (E pp se.2) [2,3,4] ⟨rfl,trivial⟩ rfl) ?_;obtain rfl:=hR _ h;exact iG pp [_] ⟨rfl,trivial⟩ rfl
         ·refine ba (bn ?_);exact iR (pp,se.2) h (bh [.obj SV 85 (.rep (.arr 3 (.arr 5 (.int .i64))) (List.set a0 (Int.toNat a1) (List.set ac (Int.toNat (F.length:Int)) y.1))),.obj b1 85 (.rep (.arr 3 (.arr 5 (.int .i64))) a0),.obj u 80 (.at bH a3),.obj x 154 (.eq (.func (.yield l) #[] #[])),.obj c 155 (.eq (.func (.func 90) #[] #[(Pv u),(Pv x),(Pv c)]))] (E pp se.2) [2,4,3,1] ⟨rfl,rfl,rfl,rfl,rfl,rfl,rfl,rfl,rfl,trivial⟩ rfl)
      ·refine ab ?_;obtain⟨Tm,SY,h⟩:=aa h;refine jb (bm rfl SY) ?_;refine mq (nl ?_);exact iR (X,(Tm,mc)) h (bh [.obj u 80 (.at bH a3),.obj c 155 (.eq (.func (.func 90) #[] #[(Pv u),(Pv x),(Pv c)])),.obj x 154 (.eq (.func (.yield l) #[] #[])),.obj b1 85 (.rep (.arr 3 (.arr 5 (.int .i64))) a0)] (E X mc) [0,1,2,3] ⟨rfl,rfl,rfl,rfl,rfl,rfl,rfl,rfl,rfl,trivial⟩ rfl)
     ·refine xa ?_;exact iR (J,y.2) h (bh [.obj u 80 (.at bH a3),.obj c 155 (.eq (.func (.func 90) #[] #[(Pv u),(Pv x),(Pv c)])),.obj x 154 (.eq (.func (.yield l) #[] #[])),.obj b1 85 (.rep (.arr 3 (.arr 5 (.int .i64))) a0)] (E J y.2) [0,2,1] trivial rfl)
    ·refine sr (cq (nt (aC ?_)));cases h;exact iG qt [_] ⟨rfl,trivial⟩ rfl
def iK{σ:Type}(k:Nat)(Y:σ→(List (List Int))→Option (σ×Bool))(a1:dc)(s0:σ):Option (σ):=
 (dz k ([]:(List (List Int)))).bind fun r2=>
 (cX k Y a1 k r2 0 0 s0).bind fun r5=>
 some r5.2
theorem m8{M:Md Tryz.prog}{σ Z:Type}(E:Z→σ→List D)(l:Nat)(Y:σ→(List (List Int))→Option (σ×Bool))(k:Nat)(a1:dc)(c:Nat)(hY:∀z s p r,Y s p=some r→YT M l [.rep (.arr 3 (.arr 5 (.int .i64))) p] (E z s) (fun z':Z=>(.eq (.bool r.2),E z' r.1))):
 ∀(z0:Z) (s0:σ) (r:σ),iK k Y a1 s0=some r→dy M 89 [.eq (.func (.yield l) #[] #[]),Pt c] ([.obj c 80 (.at bH a1)]++E z0 s0) (fun z:Z=>(bv [],[.obj c 80 (.at bH a1)]++E z r)):=by
 intro z0 s0 r h
 unfold iK at h
 replace h:=bg h
 refine dy.of 10 Tryz.func89 rfl Tryz.ntmps89 rfl fun S w0=>?_
 refine sr ?_
 refine bx fun b1=>?_
 refine nt ?_
 refine sr ?_
 obtain⟨r2,j,h⟩:=aa h
 have u:=dT k ([]:(List (List Int))) r2 j
 refine ja (cN (N:=[(.const (.slice none 0 0),.eq (.slice none 0 0))]) (ao [.const (.slice none 0 0)] rfl rfl BG rfl u) fun _ _ _ hn=>⟨(iD (t:=(.slice (.slice (.int .i64)))) (x:=([]:(List (List Int)))) .nil rfl rfl hn.1),trivial⟩) ?_
 refine aE rfl rfl rfl (aZ rfl rY sZ) trivial fun b3=>?_
 refine aY rfl rfl (aR rfl fO rfl rfl rfl) ⟨rfl,rfl,trivial⟩ ?_
 refine nt ?_
 refine sr ?_
 refine aE rfl rfl rfl (aZ rfl NW P7) trivial fun b4=>?_
 refine nt ?_
 refine sr ?_
 refine jc (sD [] [.tmp 1,.tmp 2,.tmp 4] [] [(Pv c),(Pv b1),(Pv b4)] rfl rfl rfl) ?_
 refine aY rfl rfl (aR rfl Cd rfl rfl rfl) ⟨rfl,rfl,trivial⟩ ?_
 refine nt ?_
 refine ab ?_
 refine lo Cd ?_
 refine fr 1 ?_
 refine lo fO ?_
 obtain⟨r5,e,h⟩:=aa h
 have n:=mr E l Y k a1 c b1 b4 hY k r2 0 0 z0 s0 r5 e
 refine fr 1 ?_
 refine fr 2 ?_
 refine fr 3 ?_
 refine fr 3 ?_
 refine o0 [.obj b3 85 (.rep (.arr 3 (.arr 5 (.int .i64))) r2)] rfl rfl rfl (ow (fs:=[]) (cs:=[(Pv c),(Pv b1),(Pv b4)]) (ags:=[.rep (.arr 3 (.arr 5 (.int .i64))) r2,I 0,.eq (.int .u8 0)]) [.tmp 8,.const (.int .i64 (0)),.const (.int .u8 (0))] rfl rfl MZ rfl n) ⟨rfl,rfl,rfl,rfl,trivial⟩ fun z6=>?_
 refine ar ?_
 refine iS ?_
 refine bF (bh (Γ':=[]) [.obj b3 85 (.rep (.arr 3 (.arr 5 (.int .i64))) r2),.obj c 80 (.at bH a1),.obj b1 154 (.eq (.func (.yield l) #[] #[])),.obj b4 155 (.eq (.func (.func 90) #[] #[(Pv c),(Pv b1),(Pv b4)]))] (E z6 r5.2) [1] trivial rfl) ?_
 cases h
 exact iG z6 [] trivial rfl
def je(k:Nat)(a1:dc):Option (List (List (List Int))):=
 (iK k (pV (fun(y2:(List (List (List Int)))) (p4:(List (List Int)))=>
  (dY (bU (List.length y2+List.length [p4]))).bind fun _=>
  some (y2++[p4],true))) a1 (([]:(List (List (List Int)))),false)).bind fun r5=>
 if r5.2=true then(none) else(some r5.1)
theorem nU(k:Nat)(a1:dc)(c:Nat)(r:(List (List (List Int))))(h:je k a1=some r):
 cd Tryz.prog 88 [.eq (.slice none 0 0),.eq (.func (.func 89) #[] #[(Pv c)])] [.obj c 80 (.at bH a1)] (fun z:Value=>(bv [.eq z],[.sl z 85 (.arr 3 (.arr 5 (.int .i64))) r,.obj c 80 (.at bH a1)])):=by
 unfold je at h
 replace h:=bg h
 refine yr 13 Tryz.func88 rfl Tryz.ntmps88 rfl fun {M} S w0=>?_
 refine sr ?_
 refine bx fun b1=>?_
 refine cq ?_
 refine nt ?_
 refine ah ?_
 refine sr ?_
 refine mq ?_
 refine nt ?_
 refine an ?_
 refine eG (SE.nil 85 (.arr 3 (.arr 5 (.int .i64)))) ?_
 refine gP 1 rfl ?_
 refine gP 2 rfl ?_
 obtain⟨r5,j,h⟩:=aa h
 refine nE (Δ:=[.obj c 80 (.at bH a1),.obj b1 102 (.eq (.slice none 0 0)),.sl (.slice none 0 0) 85 (.arr 3 (.arr 5 (.int .i64))) ([]:(List (List (List Int))))]) (F:=[]) (X:=Value) (J:=fun _=>Js r5.2) (E:=fun z3=>[.obj c 80 (.at bH a1),.obj b1 102 (.eq z3),.sl z3 85 (.arr 3 (.arr 5 (.int .i64))) r5.1]) (r0:=fun _=>.tup .any) rfl rfl Re (fun rec hp ha hb hs hpe hN hv l=>?_) (fun dl z3=>qg (fun hj=>?_) (fun hj=>?_))
 ·
  rcases rec with⟨st0,pe0,fn0,tm0,ps0,as0,bd0,df0⟩;dsimp only at hp ha hb hs hpe hN hv;subst hp hs hpe;have vN:vj tm0 [(2,Pt b1)]:=⟨congrArg A.eq (hv 2 _ rfl).symm,trivial⟩;refine dy.pick (M:=M) [1,0,2,3] [1,0,2,3] (m8 (fun(z3:Value) (q:(List (List (List Int)))×Bool)=>[.raw l (.loop (jw ⟨.ready,none,fn0,tm0, #[7],as0,bd0,df0⟩ (Js q.2))),.obj b1 102 (.eq z3),.sl z3 85 (.arr 3 (.arr 5 (.int .i64))) q.1]) l (pV (fun(y2:(List (List (List Int)))) (p4:(List (List Int)))=>
  (dY (bU (List.length y2+List.length [p4]))).bind fun _=>
  some (y2++[p4],true))) k a1 c (fun z3 q p r' h=>?_) (.slice none 0 0) (([]:(List (List (List Int)))),false) r5 j) rfl (fun _=>rfl) (fun _=>rfl)
  obtain⟨rq,hq,h2,rfl⟩:=qh h;obtain⟨y2,b5⟩:=q;obtain rfl:b5=false:=hq;replace h:=bg h2;obtain⟨p4,hpv⟩:∃x,x=p:=⟨_,rfl⟩;subst hpv;refine YT.pick (R':=(fun z3:Value=>(.eq (.bool rq.2),[.raw l (.loop (jw ⟨.ready,none,fn0,tm0, #[7],as0,bd0,df0⟩ (Js (!rq.2)))),.obj b1 102 (.eq z3),.sl z3 85 (.arr 3 (.arr 5 (.int .i64))) rq.1]))) [0,1,2] [0,1,2] (H7 ha hb (N:=13) (Γ:=[(2,Pt b1)]) rfl hN (by decide) vN (fun S w=>?_)) rfl (fun _=>rfl) (fun _=>rfl);refine ab (aE rfl rfl rfl (aZ rfl rY sZ) trivial fun b6=>?_);refine aY rfl rfl (aR rfl fO rfl rfl rfl) ⟨rfl,rfl,trivial⟩ ?_;refine nl (c9 1 rfl ?_);refine vq rfl rfl ?_;refine an (ab (fr 2 ?_));refine lo FH ?_;refine fr 2 ?_;refine lo fO ?_;refine ja (bC (t:=(.arr 3 (.arr 5 (.int .i64)))) [(.tmp 9,_)] [p4] rfl rfl K3 (.cons rfl .rep .nil) rfl rfl) ?_;obtain⟨u7,e,h⟩:=aa h;refine fr 3 ?_;refine eC rfl rfl rfl (bZ rfl rfl K3 (aH e)) ⟨rfl,rfl,trivial⟩ fun v8=>?_;refine qK fun o9=>?_;refine fr 2 ?_;refine aY rfl rfl (aR rfl FH o9 rfl rfl) ⟨rfl,rfl,trivial⟩ ?_;refine ar (aP (c9 1 rfl ?_));refine c9 1 rfl ?_;refine c9 3 rfl ?_;cases h;exact tc v8 2 rfl
 ·
  replace h:=bT (Fo hj) h;refine aP (tn (sr (fr 2 ?_)));refine lo FH ?_;refine aq (nt (aC ?_));refine c9 1 rfl ?_;refine yp ?_;refine bF (SE.fin (Γ':=[(4,_)]) [2,1,0] ⟨rfl,trivial⟩ rfl) ?_;cases h;exact aL z3 [.eq z3] 2 ⟨rfl,trivial⟩ rfl
 ·
  replace h:=cU (Ff hj) h;cases h
def jN(k:Nat)(a0:dc):Option (List (List (List Int))):=
 (je k a0).bind fun r1=>
 some r1
theorem pM(k:Nat)(a0:dc)(c:Nat)(r:(List (List (List Int))))(h:jN k a0=some r):
 cd Tryz.prog 56 [.eq (.func (.func 89) #[] #[(Pv c)])] [.obj c 80 (.at bH a0)] (fun _:Unit=>(bv [.rep (.slice (.arr 3 (.arr 5 (.int .i64)))) r],[.obj c 80 (.at bH a0)])):=by
 unfold jN at h
 replace h:=bg h
 refine cd.of 5 Tryz.func56 rfl Tryz.ntmps56 rfl fun S w0=>?_
 refine sr ?_
 refine cq ?_
 refine nt ?_
 refine sr ?_
 refine mq ?_
 obtain⟨r1,e,h⟩:=aa h
 have j:=nU k a0 c r1 e
 refine bN (Δ:=[_]) (F:=_) (fun _ _ _=>ay rfl _) rfl rfl (ao [.const (.slice none 0 0),.tmp 3] rfl rfl Rf rfl j) ⟨rfl,rfl,trivial⟩ fun z2=>?_
 refine aq ?_
 refine nt ?_
 refine aC ?_
 refine bF (gZ [2,4] ⟨rfl,rfl,trivial⟩) ?_
 cases h
 exact aL () [_] 1 ⟨rfl,trivial⟩ rfl
theorem og(a0:dc):cd Tryz.prog 57 [.at bH a0] [] (fun z:Nat=>(bv [.eq (.func (.func 89) #[] #[(Pv z)])],[.obj z 80 (.at bH a0)])):=by
 refine cd.of 4 Tryz.func57 rfl Tryz.ntmps57 rfl fun S w0=>?_;refine sr (aE rfl rfl rfl (nM rfl trivial) ⟨rfl,trivial⟩ fun z=>?_);refine cq (nt (sr ?_));refine ja (sD [] [.tmp 1] [] [(Pv z)] rfl rfl rfl) ?_;refine aq (nt (aC ?_));exact aL z [_] 1 ⟨rfl,trivial⟩ rfl
def j7(k:Nat)(a0:List Int):Option (List Int):=
 (dY (bU (List.length a0))).bind fun _=>some a0
theorem mM(k:Nat)(a0:List Int)(r:List Int)(h:j7 k a0=some r):
 cd Tryz.prog 59 [Ri a0] [] (fun z:Value=>(bv [.eq z],[.sl z 3 (.int .i64) r])):=by
 unfold j7 at h
 replace h:=bg h
 refine cd.of 8 Tryz.func59 rfl Tryz.ntmps59 rfl fun S w0=>?_
 obtain⟨u1,c,h⟩:=aa h
 cases h
 refine sr ?_
 refine cq ?_
 refine nt ?_
 refine ah ?_
 refine sr ?_
 refine mq ?_
 refine bN (Δ:=[]) (F:=_) (fun _ _ _=>ay rfl _) rfl rfl (I6 rfl eS) ⟨rfl,rfl,trivial⟩ fun b=>?_
 refine nt ?_
 refine bK rfl (fun hb=>?_) (fun hb=>?_)
 ·
  refine sr (cq (nt (rx ?_)));obtain rfl:=b.2 hb;refine bF (SE.nil 3 (.int .i64)) ?_;exact aL (.slice none 0 0) [.eq (.slice none 0 0)] 1 ⟨rfl,trivial⟩ rfl
 ·
  refine sk (sr (aE rfl rfl rfl (nn (t:=(.int .i64)) [] [] rfl rfl eu .nil rfl rfl) trivial fun v1=>?_));refine mq ?_;refine eC rfl rfl rfl (bZ rfl rfl eu (by simpa using aH c)) ⟨rfl,rfl,trivial⟩ fun v2=>?_;refine aq (nt (aC ?_));exact aL v2 [.eq v2] 1 ⟨rfl,trivial⟩ rfl
def cP(k:Nat)(a0:dc)(a1:(List (List Int)))(a2:Int):Nat→(Int×(List (List Int))×Int)→Option (Int×(List (List Int)))
 |0,_=>none
 |n+1,y5=>
  if y5.2.2 < 3 then((dN k a1 y5.2.2).bind fun r7=>
  (gR k a0 a2).bind fun r8=>
  (mI k r7 r8).bind fun r9=>
  (dY (bU (List.length y5.2.1+List.length [r9.2]))).bind fun _=>
  (ck (y5.2.2+1)).bind fun c=>
  cP k a0 a1 a2 n (CP .u8 y5.1 r9.1,y5.2.1++[r9.2],c)) else(some (y5.1,y5.2.1))
def ix(k:Nat)(a0:dc)(a1:(List (List Int)))(a2:Int):Option (Int×(List (List Int))):=
 ((cP k a0 a1 a2 k (0,([]:(List (List Int))),0)):Option (Int×(List (List Int)))).bind fun x3=>
 (dz k x3.2).bind fun c=>
 some (x3.1,c)
theorem nJ(k:Nat)(a0:dc)(a1:(List (List Int)))(a2:Int)(r:Int×(List (List Int)))(h:ix k a0 a1 a2=some r):
 cd Tryz.prog 70 [.at bH a0,.rep (.arr 3 (.arr 5 (.int .i64))) a1,I a2] [] (fun _:Unit=>(bv [.eq (.int .u8 r.1),.rep (.arr 3 (.arr 5 (.int .i64))) r.2],[])):=by
 unfold ix at h
 replace h:=bg h
 refine cd.of 37 Tryz.func70 rfl Tryz.ntmps70 rfl fun S w0=>?_
 refine sr ?_
 refine bx fun b1=>?_
 refine cq ?_
 refine aE rfl rfl rfl (aZ rfl rY sZ) trivial fun b2=>?_
 refine nt ?_
 refine sr ?_
 refine cq ?_
 refine nt ?_
 refine sr ?_
 refine cq ?_
 refine nt ?_
 refine aX (Z:=Value) (α:=Int×(List (List Int))) (fun z4 x3=>[(7,Pt b2),(8,.eq (.int .u8 x3.1)),(9,.eq z4)]) (fun z4 x3=>[.obj b2 85 (.rep (.arr 3 (.arr 5 (.int .i64))) [[0,0,0,0,0],[0,0,0,0,0],[0,0,0,0,0]]),.sl z4 22 (.slice (.int .i64)) x3.2]) h (fun K h=>?_) (fun z4 x3 h=>?_)
 ·
  refine sr (eT rfl ?_);refine nt (an (eG (SE.nil 22 (.slice (.int .i64))) ?_));refine aN (fun z6 y5=>[(0,.at bH a0),(2,I a2),(4,Pt b1),(7,Pt b2),(8,.eq (.int .u8 y5.1)),(9,.eq z6),(13,I y5.2.2)]) (fun z6 y5=>[.obj b1 85 (.rep (.arr 3 (.arr 5 (.int .i64))) a1),.obj b2 85 (.rep (.arr 3 (.arr 5 (.int .i64))) [[0,0,0,0,0],[0,0,0,0,0],[0,0,0,0,0]]),.sl z6 22 (.slice (.int .i64)) y5.2.1]) (cP k a0 a1 a2) k (.slice none 0 0) (0,([]:(List (List Int))),0) (fun _=>rfl) h (SE.fin [2,1,0] ⟨rfl,rfl,rfl,rfl,rfl,rfl,rfl,trivial⟩ rfl) (fun n z6 y5 h=>?_);unfold cP at h;refine sr (jb (bG rfl) ?_);refine nt (ah (ci h (fun h=>?_) (fun h=>?_)))
  ·refine sk (ah (an (sr (mq ?_))));refine aq (nt (sr ?_));refine lo fO ?_;refine mq ?_;obtain⟨r7,D,h⟩:=aa h;refine jb (ao [.tmp 17,.tmp 18] rfl rfl JX rfl (fV k a1 y5.2.2 r7 D)) ?_;iterate 2 refine mq ?_
   obtain⟨r8,y,h⟩:=aa h;refine jb (ao [.tmp 20,.tmp 21] rfl rfl Q9 rfl (mG k a0 a2 r8 y)) ?_;obtain⟨r9,x,h⟩:=aa h;refine jb (ao [.tmp 19,.tmp 22] rfl rfl Rb rfl (tf k r7 r8 r9 x)) ?_;refine mq ?_;refine xr ?_;refine xr ?_;refine aq ?_;refine aq (nt (sr ?_));iterate 2 refine mq ?_
   refine jb (On rfl) ?_;refine aq (nt (ab ?_));iterate 2 refine mq ?_
   refine ja (bC (t:=(.slice (.int .i64))) [(.tmp 30,_)] [r9.2] rfl rfl uh (.cons rfl .rep .nil) rfl rfl) ?_;obtain⟨E,j,h⟩:=aa h;refine fr 2 ?_;refine eC rfl rfl rfl (bZ rfl rfl uh (aH j)) ⟨rfl,rfl,trivial⟩ fun u=>?_;refine aq (ar (aP (tn (ab ?_))));obtain⟨s,e,h⟩:=aa h;refine jb (bm rfl e) ?_;refine mq (nl ?_);exact jz (u,(CP .u8 y5.1 r9.1,y5.2.1++[r9.2],s)) h [1,2,0]
  ·refine xa ?_;exact jz (z6,(y5.1,y5.2.1)) h [1,2]
 ·
  refine sr ?_;iterate 2 refine mq ?_
  obtain⟨c,l,h⟩:=aa h;refine fr 1 ?_;refine ka (vo (N:=[(.tmp 35,.eq z4)]) (ao [.tmp 35] rfl rfl BG rfl (dT k x3.2 c l)) (fun _ _ _ hv hn=>⟨(lend hn.1 hv),trivial⟩) (fun _=>⟨rfl,zV⟩)) ?_;refine aq ?_;refine fr 1 ?_;refine aY rfl rfl (aR rfl fO rfl rfl rfl) ⟨rfl,rfl,trivial⟩ ?_;refine nt (aC ?_);cases h;exact aL () [_,.rep (.arr 3 (.arr 5 (.int .i64))) c] 0 ⟨rfl,⟨_,_,_,_,_,rfl,(.head _),fO,(vL),rfl⟩,trivial⟩ rfl
def ko(k:Nat)(a0:(List Int)):Option be:=
 ((if(a0.length:Int)=0 then(some [3,2]) else(some a0)):Option ((List Int))).bind fun x2=>
 some (3,[(1,[0,2]),(1,[1]),(2,[2]),(1,[0,1])],x2)
theorem jl(k:Nat)(a0:(List Int))(r:be)(h:ko k a0=some r):
 cd Tryz.prog 35 [Ri a0] [] (fun _:Unit=>(bv [.rep aw r],[])):=by
 unfold ko at h
 replace h:=bg h
 refine cd.of 18 Tryz.func35 rfl Tryz.ntmps35 rfl fun S w0=>?_
 refine sr ?_
 refine aE rfl rfl rfl (aZ rfl j9 lQ) trivial fun b1=>?_
 refine nt ?_
 refine aX (Z:=Unit) (α:=(List Int)) (fun z3 x2=>[(0,Ri x2),(2,Pt b1)]) (fun z3 x2=>[.obj b1 27 (.agg (.pair (I 0) (.pair (.eq (.slice none 0 0)) (.eq (.slice none 0 0)))))]) h (fun K h=>?_) (fun z3 x2 h=>?_)
 ·
  refine sr (mq ?_);refine ol eS ?_;refine jb (eE rfl) ?_;refine nt (ci h (fun h=>?_) (fun h=>?_))
  ·refine ab (jb (bC (t:=(.int .i64)) [(.const (.int .i64 (3)),_),(.const (.int .i64 (2)),_)] [3,2] rfl rfl eu (.cons rfl .int (.cons rfl .int .nil)) rfl rfl) ?_);refine aq (nl ?_);exact jz ((),[3,2]) h [0]
  ·refine ba (ae ?_);exact jz ((),a0) h [0]
 ·
  refine sr (jb (bC (t:=(.int .i64)) [(.const (.int .i64 (0)),_),(.const (.int .i64 (2)),_)] [0,2] rfl rfl eu (.cons rfl .int (.cons rfl .int .nil)) rfl rfl) ?_);refine jb (c6 [(0,.const (.int .i64 (1)),_),(1,.tmp 7,_)] rfl D3 vv wY (iH ⟨rfl,rfl,trivial⟩) rfl) ?_;refine ja (bC (t:=(.int .i64)) [(.const (.int .i64 (1)),_)] [1] rfl rfl eu (.cons rfl .int .nil) rfl rfl) ?_;refine jb (c6 [(0,.const (.int .i64 (1)),_),(1,.tmp 9,_)] rfl D3 vv wY (iH ⟨rfl,rfl,trivial⟩) rfl) ?_;refine ja (bC (t:=(.int .i64)) [(.const (.int .i64 (2)),_)] [2] rfl rfl eu (.cons rfl .int .nil) rfl rfl) ?_;refine jb (c6 [(0,.const (.int .i64 (2)),_),(1,.tmp 11,_)] rfl D3 vv wY (iH ⟨rfl,rfl,trivial⟩) rfl) ?_;refine jb (bC (t:=(.int .i64)) [(.const (.int .i64 (0)),_),(.const (.int .i64 (1)),_)] [0,1] rfl rfl eu (.cons rfl .int (.cons rfl .int .nil)) rfl rfl) ?_;refine jb (c6 [(0,.const (.int .i64 (1)),_),(1,.tmp 13,_)] rfl D3 vv wY (iH ⟨rfl,rfl,trivial⟩) rfl) ?_;refine aD rfl (bC (t:=aG) [(.tmp 8,_),(.tmp 10,_),(.tmp 12,_),(.tmp 14,_)] [(1,[0,2]),(1,[1]),(2,[2]),(1,[0,1])] rfl rfl FN (.cons trivial (.agg (.pair .int .rep)) (.cons trivial (.agg (.pair .int .rep)) (.cons trivial (.agg (.pair .int .rep)) (.cons trivial (.agg (.pair .int .rep)) .nil)))) rfl rfl) ⟨rfl,rfl,rfl,rfl,trivial⟩ ?_;refine mq ?_;refine jc (c6 [(0,.const (.int .i64 (3)),_),(1,.tmp 15,_),(2,.tmp 16,_)] rfl I3 j9 C7 (iH ⟨rfl,rfl,rfl,trivial⟩) rfl) ?_;refine aY rfl rfl (aR rfl fJ trivial rfl rfl) ⟨rfl,rfl,trivial⟩ ?_;refine nt (aC (bF (pG (a:=.agg (.pair (I 3) (.pair (Rs aG [(1,[0,2]),(1,[1]),(2,[2]),(1,[0,1])]) (Ri x2)))) (a':=.rep aw (3,[(1,[0,2]),(1,[1]),(2,[2]),(1,[0,1])],x2)) (yu (.agg (.pair .int (.pair .rep .rep))))) ?_));cases h;exact aL () [.rep aw (3,[(1,[0,2]),(1,[1]),(2,[2]),(1,[0,1])],x2)] 0 ⟨⟨_,_,_,_,_,rfl,(.head _),fJ,(vL),rfl⟩,trivial⟩ rfl
def wF(k:Nat):Option (List (List Int)):=
 some [[1,0,3],[2]]
theorem rA(k:Nat)(r:(List (List Int)))(h:wF k=some r):
 cd Tryz.prog 36 [] [] (fun _:Unit=>(bv [.rep (.slice (.slice (.int .i64))) r],[])):=by
 unfold wF at h
 replace h:=bg h
 refine cd.of 4 Tryz.func36 rfl Tryz.ntmps36 rfl fun S w0=>?_
 refine sr ?_
 refine cq ?_
 refine nt ?_
 refine sr ?_
 refine jc (bC (t:=(.int .i64)) [(.const (.int .i64 (1)),_),(.const (.int .i64 (0)),_),(.const (.int .i64 (3)),_)] [1,0,3] rfl rfl eu (.cons rfl .int (.cons rfl .int (.cons rfl .int .nil))) rfl rfl) ?_
 refine ja (bC (t:=(.int .i64)) [(.const (.int .i64 (2)),_)] [2] rfl rfl eu (.cons rfl .int .nil) rfl rfl) ?_
 refine jb (bC (t:=(.slice (.int .i64))) [(.tmp 1,_),(.tmp 2,_)] [[1,0,3],[2]] rfl rfl uh (.cons rfl .rep (.cons rfl .rep .nil)) rfl rfl) ?_
 refine aq ?_
 refine nt ?_
 refine aC ?_
 cases h
 exact ra
def G9(k:Nat):Option (List (List Int)):=
 some [[0,2],[3,1]]
theorem G8(k:Nat)(r:(List (List Int)))(h:G9 k=some r):
 cd Tryz.prog 37 [] [] (fun _:Unit=>(bv [.rep (.slice (.slice (.int .i64))) r],[])):=by
 unfold G9 at h
 replace h:=bg h
 refine cd.of 4 Tryz.func37 rfl Tryz.ntmps37 rfl fun S w0=>?_
 refine sr ?_
 refine cq ?_
 refine nt ?_
 refine sr ?_
 refine jb (bC (t:=(.int .i64)) [(.const (.int .i64 (0)),_),(.const (.int .i64 (2)),_)] [0,2] rfl rfl eu (.cons rfl .int (.cons rfl .int .nil)) rfl rfl) ?_
 refine jb (bC (t:=(.int .i64)) [(.const (.int .i64 (3)),_),(.const (.int .i64 (1)),_)] [3,1] rfl rfl eu (.cons rfl .int (.cons rfl .int .nil)) rfl rfl) ?_
 refine jb (bC (t:=(.slice (.int .i64))) [(.tmp 1,_),(.tmp 2,_)] [[0,2],[3,1]] rfl rfl uh (.cons rfl .rep (.cons rfl .rep .nil)) rfl rfl) ?_
 refine aq ?_
 refine nt ?_
 refine aC ?_
 cases h
 exact ra
def d4(k:Nat)(a0:dc)(a2:Int):Nat→((List (List Int))×Int)→Option (List (List Int))
 |0,_=>none
 |n+1,y5=>
  if y5.2 < a2 then((ix k a0 y5.1 y5.2).bind fun r7=>
  (ck (y5.2+1)).bind fun x8=>
  d4 k a0 a2 n (r7.2,x8)) else(some y5.1)
def fS(k:Nat)(a0:dc)(a1:(List (List Int)))(a2:Int):Option (List (List Int)):=
 ((d4 k a0 a2 k (a1,0)):Option ((List (List Int)))).bind fun x3=>
 some x3
theorem lX(k:Nat)(a0:dc)(a1:(List (List Int)))(a2:Int)(r:(List (List Int)))(h:fS k a0 a1 a2=some r):
 cd Tryz.prog 46 [.at bH a0,.rep (.arr 3 (.arr 5 (.int .i64))) a1,I a2] [] (fun _:Unit=>(bv [.rep (.arr 3 (.arr 5 (.int .i64))) r],[])):=by
 unfold fS at h
 replace h:=bg h
 refine cd.of 21 Tryz.func46 rfl Tryz.ntmps46 rfl fun S w0=>?_
 refine sr ?_
 refine bx fun b1=>?_
 refine aE rfl rfl rfl (aZ rfl rY sZ) trivial fun b2=>?_
 refine nt ?_
 refine aX (Z:=Unit) (α:=(List (List Int))) (fun z4 x3=>[(4,Pt b1),(6,Pt b2)]) (fun z4 x3=>[.obj b1 85 (.rep (.arr 3 (.arr 5 (.int .i64))) x3),.obj b2 85 (.rep (.arr 3 (.arr 5 (.int .i64))) [[0,0,0,0,0],[0,0,0,0,0],[0,0,0,0,0]])]) h (fun K h=>?_) (fun z4 x3 h=>?_)
 ·
  refine sr (mq ?_);refine eT rfl ?_;refine nt (an (aN (fun z6 y5=>[(0,.at bH a0),(4,Pt b1),(6,Pt b2),(8,I a2),(9,I y5.2)]) (fun z6 y5=>[.obj b1 85 (.rep (.arr 3 (.arr 5 (.int .i64))) y5.1),.obj b2 85 (.rep (.arr 3 (.arr 5 (.int .i64))) [[0,0,0,0,0],[0,0,0,0,0],[0,0,0,0,0]])]) (d4 k a0 a2) k () (a1,0) (fun _=>rfl) h (SE.fin [1,0] ⟨rfl,rfl,rfl,rfl,rfl,trivial⟩ rfl) (fun n z6 y5 h=>?_)));unfold d4 at h;refine sr (jb (bG rfl) ?_);refine nt (ah (ci h (fun h=>?_) (fun h=>?_)))
  ·refine sk (ah (an (sr (mq ?_))));refine aq (nt (ab ?_));refine mq ?_;refine lo fO ?_;refine mq ?_;obtain⟨r7,e,h⟩:=aa h;refine jc (ao [.tmp 13,.tmp 14,.tmp 15] rfl rfl Px rfl (nJ k a0 y5.1 y5.2 r7 e)) ?_;refine mq ?_;refine xr ?_;refine xr ?_;refine aY rfl rfl (aR rfl fO rfl rfl rfl) ⟨rfl,rfl,trivial⟩ ?_;refine ar (aP (tn (ab ?_)));obtain⟨x8,c,h⟩:=aa h;refine jb (bm rfl c) ?_;refine mq (nl ?_);exact jz ((),(r7.2,x8)) h [0,1]
  ·refine xa ?_;exact jz ((),y5.1) h [0,1]
 ·
  refine sr (lo fO ?_);refine fr 1 ?_;refine aY rfl rfl (aR rfl fO rfl rfl rfl) ⟨rfl,rfl,trivial⟩ ?_;refine nt (aC ?_);obtain rfl:=Option.some.inj h;exact aL () [.rep (.arr 3 (.arr 5 (.int .i64))) x3] 0 ⟨⟨_,_,_,_,_,rfl,(.head _),fO,(vL),rfl⟩,trivial⟩ rfl
def ly(k:Nat)(a0:List Int)(a1 a2:Int):Option (List Int):=
 (dY (0≤a1∧a1 < a2∧a2≤(a0.length:Int))).bind fun _=>some (a0.take a1.toNat++a0.drop a2.toNat)
theorem qZ(k:Nat)(a0:List Int)(v:Value)(a1 a2:Int)(r:List Int)(h:ly k a0 a1 a2=some r):cd Tryz.prog 105 [.eq v,.eq (.int .i64 a1),.eq (.int .i64 a2)] [.sl v 3 (.int .i64) a0] (fun z:Value=>(bv [.eq z],[.sl z 3 (.int .i64) r])):=by
 unfold ly at h
 replace h:=bg h
 obtain⟨u1,eg,h⟩:=aa h
 obtain⟨h1,h2,h3⟩:=aH eg
 obtain rfl:=Option.some.inj h
 refine cd.of 33 Tryz.func105 rfl Tryz.ntmps105 rfl fun S w0=>?_
 refine EW (fun e=>by rw [e] at h3;simp at h3;omega) fun b cap hv hcap=>?_
 subst hv
 have hl:(a0.take a1.toNat++a0.drop a2.toNat).length=a1.toNat+(a0.length - a2.toNat):=by simp;omega
 refine ah ?_
 refine ab ?_
 refine dK rfl ?_
 refine ar (ae ?_)
 show JC _ _ _ _ _
 refine ah ?_
 refine ab ?_
 refine aA rfl rfl ?_
 refine aA rfl rfl ?_
 refine aA rfl rfl ?_
 refine aA rfl rfl ?_
 refine bQ rfl rfl rfl (dx rfl rfl eS) ⟨rfl,trivial⟩ ?_
 refine aD rfl (xB rfl eS co h1 (by omega) h3 (by omega)) ⟨rfl,rfl,rfl,rfl,trivial⟩ ?_
 refine ar (ae ?_)
 show JC _ _ _ _ _
 refine ah ?_
 refine ah ?_
 refine ab ?_
 refine aA rfl rfl ?_
 refine aA rfl rfl ?_
 refine aD rfl (eE rfl) ⟨rfl,rfl,trivial⟩ ?_
 refine ar (ae ?_)
 show JC _ _ _ _ _
 refine bK rfl (fun hb=>absurd (of_decide_eq_true hb) (by omega)) (fun hb=>?_)
 refine ba (ae ?_)
 show JC _ _ _ _ _
 refine ah ?_
 refine ab ?_
 refine aA rfl rfl ?_
 refine bQ rfl rfl rfl (dx rfl rfl eS) ⟨rfl,trivial⟩ ?_
 refine dr rfl rfl ?_
 refine ar (ae ?_)
 show JC _ _ _ _ _
 refine ah ?_
 refine cz ?_
 refine dw rfl rfl rfl (aO rfl) ⟨rfl,trivial⟩ ?_
 refine dw rfl rfl rfl (aO rfl) ⟨rfl,trivial⟩ ?_
 refine dw rfl rfl rfl (uD rfl eS co h1 (by omega)) ⟨rfl,rfl,trivial⟩ ?_
 refine dw rfl rfl rfl (aO rfl) ⟨rfl,trivial⟩ ?_
 refine dw rfl rfl rfl (aO rfl) ⟨rfl,trivial⟩ ?_
 refine dw rfl rfl rfl (A6 rfl eS co (by omega) h3) ⟨rfl,rfl,trivial⟩ ?_
 refine td (by kernel_rfl) dI ?_
 refine cO (rT 22 rfl fun _ _ _ h=>(Ce▸h:(A.eq (.slice (some ⟨b,0,none⟩) a1.toNat cap)).holds _ _ _)) ?_
 refine bQ rfl rfl rfl (xE (t:=.int .i64) (b:=b) (cap:=cap) (l:=a0) (i:=a1.toNat) (j:=a2.toNat) rfl rfl eu (by omega) (by omega) hcap) ⟨rfl,rfl,trivial⟩ ?_
 refine dr rfl rfl ?_
 refine ar (ae ?_)
 show JC _ _ _ _ _
 refine ah ?_
 refine ab ?_
 refine aA rfl rfl ?_
 refine aA rfl rfl ?_
 refine bQ rfl rfl rfl (dx rfl rfl eS) ⟨rfl,trivial⟩ ?_
 refine aA rfl rfl ?_
 refine aD rfl (zg rfl eS co (by omega) (by rw [hl];omega) (by omega)) ⟨rfl,rfl,rfl,trivial⟩ ?_
 refine aY rfl rfl (zn (t:=.int .i64) (b:=b) (cap:=cap) (l:=a0.take a1.toNat++a0.drop a2.toNat) (n:=a0.length) rfl rfl eS rfl SA rfl rfl (by rw [hl];omega) hcap) ⟨rfl,trivial⟩ ?_
 refine ar (ae ?_)
 show JC _ _ _ _ _
 refine ah ?_
 refine ab ?_
 refine aA rfl rfl ?_
 refine dr rfl rfl ?_
 refine ar (ae ?_)
 show JC _ _ _ _ _
 refine aC ?_
 exact aL _ [.eq _] 1 ⟨rfl,trivial⟩ rfl
def jZ(k:Nat)(x7:Int)(h:(List (List Int))):Nat→((List (List Int))×Int)→Option (List (List Int))
 |0,_=>none
 |n+1,c=>
  if c.2 < (h.length:Int) then((a8 h c.2).bind fun e=>
  (dY (bU (List.length [x7]+List.length e))).bind fun _=>
  (dY (bU (List.length c.1+List.length [[x7]++e]))).bind fun _=>
  (ck (c.2+1)).bind fun j=>
  jZ k x7 h n (c.1++[[x7]++e],j)) else(some c.1)
def j0(k:Nat)(a0:(List Int))(self:(List Int)→Option ((List (List Int)))):Nat→((List (List Int))×Int)→Option (List (List Int))
 |0,_=>none
 |n+1,y3=>
  if y3.2 < (a0.length:Int) then((((a8 a0 y3.2).bind fun x7=>
  (j7 k a0).bind fun r8=>
  (ck (y3.2+1)).bind fun e=>
  (ly k r8 y3.2 e).bind fun j=>
  (self j).bind fun h=>
  jZ k x7 h k (y3.1,0)):Option ((List (List Int)))).bind fun x5=>
  (ck (y3.2+1)).bind fun c=>
  j0 k a0 self n (x5,c)) else(some y3.1)
def ln(k:Nat):Nat→(List Int)→Option ((List (List Int)))
 |0,_=>none
 |m0+1,a0=>
  if(a0.length:Int)=0 then(some [[]]) else(((j0 k a0 (ln k m0) k (([]:(List (List Int))),0)):Option ((List (List Int)))).bind fun x1=>
  some x1)
theorem vz(k:Nat):
 ∀(n:Nat) (a0:(List Int)) (r:(List (List Int))),ln k n a0=some r→cd Tryz.prog 75 [Ri a0] ([]) (fun _:Unit=>(bv [.rep (.slice (.slice (.int .i64))) r],[])):=by
 intro n
 induction n with
 |zero=>intro a0 r h;cases h
 |succ m0 ih=>
  intro a0 r h;rw [ln] at h;replace h:=bg h;refine cd.of 41 Tryz.func75 rfl Tryz.ntmps75 rfl fun S w0=>?_;refine sr (cq (nt (ah (sr ?_))));refine mq ?_;refine ol eS ?_;refine jb (eE rfl) ?_;refine nt (ci h (fun h=>?_) (fun h=>?_))
  ·refine sr (ja (bC (t:=(.slice (.int .i64))) [(.const (.slice none 0 0),_)] [[]] rfl rfl uh (.cons rfl .nil .nil) rfl rfl) ?_);refine aq (nt (rx ?_));cases h;exact ra
  ·refine sk (sr (cq (nt ?_)));refine aX (Z:=Value) (α:=(List (List Int))) (fun z2 x1=>[(3,.eq z2)]) (fun z2 x1=>[.sl z2 22 (.slice (.int .i64)) x1]) h (fun K h=>?_) (fun z2 x1 h=>?_)
   ·refine sr (mq ?_);refine ol eS ?_;refine eT rfl ?_;refine nt (an (eG (SE.nil 22 (.slice (.int .i64))) ?_));refine aN (fun z4 y3=>[(0,Ri a0),(3,.eq z4),(12,Ri a0),(13,I (a0.length:Int)),(14,I y3.2)]) (fun z4 y3=>[.sl z4 22 (.slice (.int .i64)) y3.1]) (j0 k a0 (ln k m0)) k (.slice none 0 0) (([]:(List (List Int))),0) (fun _=>rfl) h (SE.fin [0] ⟨rfl,rfl,rfl,rfl,rfl,trivial⟩ rfl) (fun n z4 y3 h=>?_);unfold j0 at h;refine sr (jb (bG rfl) ?_);refine nt (ah (ci h (fun h=>?_) (fun h=>?_)))
    ·refine sk (aX (Z:=Value) (α:=(List (List Int))) (fun z6 x5=>[(0,Ri a0),(3,.eq z6),(12,Ri a0),(13,I (a0.length:Int)),(14,I y3.2)]) (fun z6 x5=>[.sl z6 22 (.slice (.int .i64)) x5]) h (fun K h=>?_) (fun z6 x5 h=>?_))
     ·refine an (sr (mq ?_));obtain⟨x7,Y,h⟩:=aa h;refine jb (aM (t:=(.int .i64)) rfl eS co Y) ?_;refine ja (ap (t:=(.int .i64)) rfl co rfl) ?_;refine aq ?_;refine aq (nt (sr ?_));refine mq ?_;obtain⟨r8,ac,h⟩:=aa h;refine aE rfl rfl rfl (ao [.tmp 19] rfl rfl Ru rfl (mM k a0 r8 ac)) ⟨rfl,trivial⟩ fun v9=>?_;iterate 2 refine mq ?_
      obtain⟨U,D,h⟩:=aa h;refine jb (bm rfl D) ?_;obtain⟨s,M,h⟩:=aa h;refine eC rfl rfl rfl (ao [.tmp 20,.tmp 21,.tmp 23] rfl rfl PY rfl (qZ k r8 v9 y3.2 U s M)) ⟨rfl,rfl,rfl,trivial⟩ fun qt=>?_;refine cO (gZ [24] ⟨rfl,trivial⟩) ?_;obtain⟨j,J,h⟩:=aa h;refine ja (ao [.tmp 24] rfl rfl Pn rfl (ih s j J)) ?_;refine ol nX ?_;refine eT rfl ?_;refine nt (an (aN (fun e c=>[(0,Ri a0),(3,.eq e),(5,I x7),(12,Ri a0),(13,I (a0.length:Int)),(14,I y3.2),(25,.rep (.slice (.slice (.int .i64))) j),(26,I (j.length:Int)),(27,I c.2)]) (fun e c=>[.sl e 22 (.slice (.int .i64)) c.1]) (jZ k x7 j) k z4 (y3.1,0) (fun _=>rfl) h (SE.fin [0] ⟨rfl,rfl,rfl,rfl,rfl,rfl,rfl,rfl,rfl,trivial⟩ rfl) (fun n e c h=>?_)));unfold jZ at h;refine sr (jb (bG rfl) ?_);refine nt (ah (ci h (fun h=>?_) (fun h=>?_)))
      ·refine sk (ah (an (sr ?_)));obtain⟨l,y,h⟩:=aa h;refine jb (aM (t:=(.slice (.int .i64))) rfl nX cg y) ?_;refine ja (ap (t:=(.slice (.int .i64))) rfl cg rfl) ?_;refine aq (nt (ab ?_));iterate 2 refine mq ?_
       refine aE rfl rfl rfl (nn (t:=(.int .i64)) [(.tmp 32,_)] [x7] rfl rfl eu (.cons rfl .int .nil) rfl rfl) ⟨rfl,trivial⟩ fun pp=>?_;refine mq ?_;obtain⟨SR,F,h⟩:=aa h;refine eC rfl rfl rfl (bZ rfl rfl eu (aH F)) ⟨rfl,rfl,trivial⟩ fun mc=>?_;refine cO (gZ [35] ⟨rfl,trivial⟩) ?_;refine ja (bC (t:=(.slice (.int .i64))) [(.tmp 35,_)] [[x7]++l] rfl rfl uh (.cons rfl .rep .nil) rfl rfl) ?_;obtain⟨se,E,h⟩:=aa h;refine eC rfl rfl rfl (bZ rfl rfl uh (aH E)) ⟨rfl,rfl,trivial⟩ fun X=>?_;refine aq (ar (aP (tn (ab ?_))));obtain⟨Q,x,h⟩:=aa h;refine jb (bm rfl x) ?_;refine mq (nl ?_);exact jz (X,(c.1++[[x7]++l],Q)) h [0]
      ·refine dD (aQ (aQ (bR (bn ?_))));exact jz (e,c.1) h [0]
     ·refine ab ?_;obtain⟨O,u,h⟩:=aa h;refine jb (bm rfl u) ?_;refine mq (nl ?_);exact jz (z6,(x5,O)) h [0]
    ·refine xa ?_;exact jz (z4,y3.1) h [0]
   ·refine sr (mq ?_);refine aq (nt (aC ?_));refine bF (gZ [2,3,40] ⟨rfl,rfl,rfl,trivial⟩) ?_;cases h;exact ra
def fQ{σ:Type}(k:Nat)(a1:(List Int))(Y:σ→Int→Option (σ×Bool)):Nat→(Int×σ)→Option (σ)
 |0,_=>none
 |n+1,y1=>
  if y1.1 < (a1.length:Int) then((a8 a1 y1.1).bind fun x3=>
  (Y y1.2 x3).bind fun r4=>
  if¬(r4.2=true) then(some r4.1) else((ck (y1.1+1)).bind fun x6=>
  fQ k a1 Y n (x6,r4.1))) else(some y1.2)
def jM{σ:Type}(k:Nat)(Y:σ→Int→Option (σ×Bool))(a1:(List Int))(s0:σ):Option (σ):=
 fQ k a1 Y k (0,s0)
theorem pK{M:Md Tryz.prog}{σ Z:Type}(E:Z→σ→List D)(l:Nat)(Y:σ→Int→Option (σ×Bool))(k:Nat)(a1:(List Int))(c:Nat)(hY:∀z s p r,Y s p=some r→YT M l [I p] (E z s) (fun z':Z=>(.eq (.bool r.2),E z' r.1))):
 ∀(z0:Z) (s0:σ) (r:σ),jM k Y a1 s0=some r→dy M 108 [.eq (.func (.yield l) #[] #[]),Pt c] ([.obj c 22 (Ri a1)]++E z0 s0) (fun z:Z=>(bv [],[.obj c 22 (Ri a1)]++E z r)):=by
 intro z0 s0 r h
 unfold jM at h
 replace h:=bg h
 refine dy.of 16 Tryz.func108 rfl Tryz.ntmps108 rfl fun S w0=>?_
 refine sr ?_
 refine lo cg ?_
 refine ol eS ?_
 refine eT rfl ?_
 refine nt ?_
 refine an ?_
 refine aN (Z:=Z) (α:=Int×σ) (fun z2 y1=>[(0,.eq (.func (.yield l) #[] #[])),(5,Ri a1),(6,I (a1.length:Int)),(7,I y1.1)]) (fun z2 y1=>[.obj c 22 (Ri a1)]++E z2 y1.2) (fQ k a1 Y) k z0 (0,s0) (fun _=>rfl) h (bh [.obj c 22 (Ri a1)] (E z0 s0) [0] ⟨rfl,rfl,rfl,rfl,trivial⟩ rfl) (fun n z2 y1 h=>?_)
 unfold fQ at h
 refine sr ?_
 refine jb (bG rfl) ?_
 refine nt ?_
 refine ah ?_
 refine ci h (fun h=>?_) (fun h=>?_)
 ·
  refine sk (ah (an (sr ?_)));obtain⟨x3,j,h⟩:=aa h;refine jb (aM (t:=(.int .i64)) rfl eS co j) ?_;refine ja (ap (t:=(.int .i64)) rfl co rfl) ?_;refine aq (nt (sr ?_));iterate 2 refine mq ?_
  obtain⟨r4,u,h⟩:=aa h;refine o0 [.obj c 22 (Ri a1)] rfl rfl rfl (xz [.tmp 12] rfl rfl rfl (hY z2 y1.2 x3 r4 u)) ⟨rfl,rfl,trivial⟩ fun z5=>?_;refine ja (eY rfl) ?_;refine nt (cw h (fun h=>?_) (fun h=>?_))
  ·refine aC (br (bp ?_));cases h;exact iG z5 [] trivial rfl
  ·refine ba (aP (tn (ab ?_)));obtain⟨x6,e,h⟩:=aa h;refine jb (bm rfl e) ?_;refine mq (nl ?_);exact iR (z5,(x6,r4.1)) h (bh [.obj c 22 (Ri a1)] (E z5 r4.1) [0] ⟨rfl,rfl,rfl,rfl,trivial⟩ rfl)
 ·
  refine dD (aQ (aQ (bR (iS ?_))));cases h;exact iG z2 [] trivial rfl
def jv(k:Nat)(a1:(List Int)):Option (List Int):=
 (jM k (pV (fun(y2:(List Int)) (p4:Int)=>
  (dY (bU (List.length y2+List.length [p4]))).bind fun _=>
  some (y2++[p4],true))) a1 (([]:(List Int)),false)).bind fun r5=>
 if r5.2=true then(none) else(some r5.1)
theorem om(k:Nat)(a1:(List Int))(c:Nat)(r:(List Int))(h:jv k a1=some r):
 cd Tryz.prog 140 [.eq (.slice none 0 0),.eq (.func (.func 108) #[] #[(Pv c)])] [.obj c 22 (Ri a1)] (fun z:Value=>(bv [.eq z],[.sl z 3 (.int .i64) r,.obj c 22 (Ri a1)])):=by
 unfold jv at h
 replace h:=bg h
 refine yr 13 Tryz.func140 rfl Tryz.ntmps140 rfl fun {M} S w0=>?_
 refine sr ?_
 refine bx fun b1=>?_
 refine cq ?_
 refine nt ?_
 refine ah ?_
 refine sr ?_
 refine mq ?_
 refine nt ?_
 refine an ?_
 refine eG (SE.nil 3 (.int .i64)) ?_
 refine gP 1 rfl ?_
 refine gP 2 rfl ?_
 obtain⟨r5,j,h⟩:=aa h
 refine nE (Δ:=[.obj c 22 (Ri a1),.obj b1 22 (.eq (.slice none 0 0)),.sl (.slice none 0 0) 3 (.int .i64) ([]:(List Int))]) (F:=[]) (X:=Value) (J:=fun _=>Js r5.2) (E:=fun z3=>[.obj c 22 (Ri a1),.obj b1 22 (.eq z3),.sl z3 3 (.int .i64) r5.1]) (r0:=fun _=>.tup .any) rfl rfl PV (fun rec hp ha hb hs hpe hN hv l=>?_) (fun dl z3=>qg (fun hj=>?_) (fun hj=>?_))
 ·
  rcases rec with⟨st0,pe0,fn0,tm0,ps0,as0,bd0,df0⟩;dsimp only at hp ha hb hs hpe hN hv;subst hp hs hpe;have vN:vj tm0 [(2,Pt b1)]:=⟨congrArg A.eq (hv 2 _ rfl).symm,trivial⟩;refine dy.pick (M:=M) [1,0,2,3] [1,0,2,3] (pK (fun(z3:Value) (q:(List Int)×Bool)=>[.raw l (.loop (jw ⟨.ready,none,fn0,tm0, #[7],as0,bd0,df0⟩ (Js q.2))),.obj b1 22 (.eq z3),.sl z3 3 (.int .i64) q.1]) l (pV (fun(y2:(List Int)) (p4:Int)=>
  (dY (bU (List.length y2+List.length [p4]))).bind fun _=>
  some (y2++[p4],true))) k a1 c (fun z3 q p r' h=>?_) (.slice none 0 0) (([]:(List Int)),false) r5 j) rfl (fun _=>rfl) (fun _=>rfl)
  obtain⟨rq,hq,h2,rfl⟩:=qh h;obtain⟨y2,b5⟩:=q;obtain rfl:b5=false:=hq;replace h:=bg h2;obtain⟨p4,hpv⟩:∃x,x=p:=⟨_,rfl⟩;subst hpv;refine YT.pick (R':=(fun z3:Value=>(.eq (.bool rq.2),[.raw l (.loop (jw ⟨.ready,none,fn0,tm0, #[7],as0,bd0,df0⟩ (Js (!rq.2)))),.obj b1 22 (.eq z3),.sl z3 3 (.int .i64) rq.1]))) [0,1,2] [0,1,2] (H7 ha hb (N:=13) (Γ:=[(2,Pt b1)]) rfl hN (by decide) vN (fun S w=>?_)) rfl (fun _=>rfl) (fun _=>rfl);refine ab (aq (nl ?_));refine vq rfl rfl ?_;refine an (ab (fr 1 ?_));refine lo cg ?_;refine mq ?_;refine ja (bC (t:=(.int .i64)) [(.tmp 9,_)] [p4] rfl rfl eu (.cons rfl .int .nil) rfl rfl) ?_;obtain⟨u6,e,h⟩:=aa h;refine fr 2 ?_;refine eC rfl rfl rfl (bZ rfl rfl eu (aH e)) ⟨rfl,rfl,trivial⟩ fun v7=>?_;refine qK fun o8=>?_;refine fr 1 ?_;refine aY rfl rfl (aR rfl cg o8 rfl rfl) ⟨rfl,rfl,trivial⟩ ?_;refine ar (aP (c9 1 rfl ?_));refine c9 1 rfl ?_;refine c9 2 rfl ?_;cases h;exact tc v7 2 rfl
 ·
  replace h:=bT (Fo hj) h;refine aP (tn (sr (fr 2 ?_)));refine lo cg ?_;refine aq (nt (aC ?_));refine c9 1 rfl ?_;refine yp ?_;refine bF (SE.fin (Γ':=[(4,_)]) [2,1,0] ⟨rfl,trivial⟩ rfl) ?_;cases h;exact aL z3 [.eq z3] 2 ⟨rfl,trivial⟩ rfl
 ·
  replace h:=cU (Ff hj) h;cases h
def kD(k:Nat)(a0:(List Int)):Option (List Int):=
 (jv k a0).bind fun r1=>
 some r1
theorem qk(k:Nat)(a0:(List Int))(c:Nat)(r:(List Int))(h:kD k a0=some r):
 cd Tryz.prog 106 [.eq (.func (.func 108) #[] #[(Pv c)])] [.obj c 22 (Ri a0)] (fun z:Value=>(bv [.eq z],[.sl z 3 (.int .i64) r,.obj c 22 (Ri a0)])):=by
 unfold kD at h
 replace h:=bg h
 refine cd.of 5 Tryz.func106 rfl Tryz.ntmps106 rfl fun S w0=>?_
 refine sr ?_
 refine cq ?_
 refine nt ?_
 refine sr ?_
 refine mq ?_
 obtain⟨r1,e,h⟩:=aa h
 have j:=om k a0 c r1 e
 refine bN (Δ:=[_]) (F:=_) (fun _ _ _=>ay rfl _) rfl rfl (ao [.const (.slice none 0 0),.tmp 3] rfl rfl PQ rfl j) ⟨rfl,rfl,trivial⟩ fun z2=>?_
 refine aq ?_
 refine nt ?_
 refine aC ?_
 cases h
 exact aL z2 [.eq z2] 2 ⟨rfl,trivial⟩ rfl
def pC(k:Nat)(a0:Int):Option Bool:=
 some (!decide (a0=a0))
theorem rK(k:Nat)(a0:Int)(r:Bool)(h:pC k a0=some r):
 cd Tryz.prog 172 [I a0] [] (fun _:Unit=>(bv [.eq (.bool r)],[])):=by
 unfold pC at h
 replace h:=bg h
 refine cd.of 6 Tryz.func172 rfl Tryz.ntmps172 rfl fun S w0=>?_
 refine sr ?_
 refine cq ?_
 refine nt ?_
 refine sr ?_
 iterate 2 refine mq ?_
 refine jb (jJ rfl) ?_
 refine aq ?_
 refine nt ?_
 refine aC ?_
 cases h
 exact ra
def vf(k:Nat)(a0:Int)(a1:Int):Option Bool:=
 (((pC k a0).bind fun r3=>
 if r3=true then((pC k a1).bind fun r4=>
 if¬(r4=true) then(some true) else(some (decide (a0 < a1)))) else(some (decide (a0 < a1)))):Option (Bool)).bind fun x1=>
 some x1
theorem Ac(k:Nat)(a0:Int)(a1:Int)(r:Bool)(h:vf k a0 a1=some r):
 cd Tryz.prog 161 [I a0,I a1] [] (fun _:Unit=>(bv [.eq (.bool r)],[])):=by
 unfold vf at h
 replace h:=bg h
 refine cd.of 17 Tryz.func161 rfl Tryz.ntmps161 rfl fun S w0=>?_
 refine sr ?_
 refine cq ?_
 refine nt ?_
 refine aX (Z:=Unit) (α:=Bool) (fun z2 x1=>[(4,.eq (.bool x1))]) (fun z2 x1=>[]) h (fun K h=>?_) (fun z2 x1 h=>?_)
 ·
  refine ab (mq ?_);obtain⟨r3,e,h⟩:=aa h;refine ja (ao [.tmp 5] rfl rfl Lm rfl (rK k a0 r3 e)) ?_;refine mq ?_;refine cm (s:=7) rfl (fun hb=>?_) (fun hb=>?_)
  ·replace h:=cU (Ff hb) h;refine gm ?_;obtain⟨r4,c,h⟩:=aa h;refine ga (ao [.tmp 8] rfl rfl Lm rfl (rK k a1 r4 c)) ?_;refine ga (eY rfl) ?_;refine pt ?_;refine mq ?_;refine cm (s:=12) rfl (fun hb=>?_) (fun hb=>?_)
   ·replace h:=cU (Ec hb) h;iterate 3 refine gn ?_
    refine pt ?_;refine aq (nl ?_);exact jz ((),true) h []
   ·replace h:=bT (wn hb) h;refine gm ?_;refine gm ?_;refine gb (bG rfl) ?_;refine pf ?_;refine aq (nl ?_);exact jz ((),decide (a0 < a1)) h []
  ·replace h:=bT (Fo hb) h;iterate 3 refine gn ?_
   refine pf ?_;refine mq ?_;refine gm ?_;refine gm ?_;refine gb (bG rfl) ?_;refine pf ?_;refine aq (nl ?_);exact jz ((),decide (a0 < a1)) h []
 ·
  refine aC ?_;cases h;exact ra
def cF(k:Nat)(a1:Int):Nat→((List Int)×Int)→Option (List Int)
 |0,_=>none
 |n+1,y6=>
  ((if a1 < y6.2 then((a8 y6.1 y6.2).bind fun u=>
  (ck (y6.2 - 1)).bind fun s=>
  (a8 y6.1 s).bind fun r=>
  (vf k u r).bind fun x=>
  some x) else(some false)):Option (Bool)).bind fun x8=>
  if x8=true then((ck (y6.2 - 1)).bind fun e=>
  (ck (y6.2 - 1)).bind fun l=>
  (a8 y6.1 l).bind fun c=>
  (a8 y6.1 y6.2).bind fun j=>
  (a8 y6.1 y6.2).bind fun D=>
  (a8 (List.set y6.1 (Int.toNat y6.2) c) e).bind fun y=>
  (ck (y6.2 - 1)).bind fun h=>
  cF k a1 n (List.set (List.set y6.1 (Int.toNat y6.2) c) (Int.toNat e) j,h)) else(some y6.1)
def cG(k:Nat)(a1:Int)(a2:Int):Nat→((List Int)×Int)→Option (List Int)
 |0,_=>none
 |n+1,y2=>
  if y2.2 < a2 then(((cF k a1 k (y2.1,y2.2)):Option ((List Int))).bind fun x4=>
  (ck (y2.2+1)).bind fun c=>
  cG k a1 a2 n (x4,c)) else(some y2.1)
def ek(k:Nat)(a0:(List Int))(a1:Int)(a2:Int):Option (List Int):=
 (ck (a1+1)).bind fun x1=>
 cG k a1 a2 k (a0,x1)
theorem jI(k:Nat)(a0:(List Int))(c:Value)(a1:Int)(a2:Int)(r:(List Int))(h:ek k a0 a1 a2=some r):
 cd Tryz.prog 155 [.eq c,I a1,I a2] [.sl c 3 (.int .i64) a0] (fun _:Unit=>(bv [],[.sl c 3 (.int .i64) r])):=by
 unfold ek at h
 replace h:=bg h
 refine cd.of 49 Tryz.func155 rfl Tryz.ntmps155 rfl fun S w0=>?_
 refine sr ?_
 refine mq ?_
 obtain⟨x1,Tj,h⟩:=aa h
 refine jb (bm rfl Tj) ?_
 refine aq ?_
 refine nt ?_
 refine an ?_
 refine aN (fun z3 y2=>[(0,.eq c),(1,I a1),(2,I a2),(6,I y2.2)]) (fun z3 y2=>[.sl c 3 (.int .i64) y2.1]) (cG k a1 a2) k () (a0,x1) (fun _=>rfl) h (SE.fin [0] ⟨rfl,rfl,rfl,rfl,trivial⟩ rfl) (fun n z3 y2 h=>?_)
 unfold cG at h
 refine ah ?_
 refine sr ?_
 iterate 2 refine mq ?_
 refine jb (bG rfl) ?_
 refine nt ?_
 refine ci h (fun h=>?_) (fun h=>?_)
 ·
  refine sk (aX (Z:=Unit) (α:=(List Int)) (fun z5 x4=>[(0,.eq c),(1,I a1),(2,I a2),(6,I y2.2)]) (fun z5 x4=>[.sl c 3 (.int .i64) x4]) h (fun K h=>?_) (fun z5 x4 h=>?_))
  ·refine an (sr (mq ?_));refine aq (nt (an ?_));refine aN (fun z7 y6=>[(0,.eq c),(1,I a1),(2,I a2),(6,I y2.2),(7,I y6.2)]) (fun z7 y6=>[.sl c 3 (.int .i64) y6.1]) (cF k a1) k () (y2.1,y2.2) (fun _=>rfl) h (SE.fin [0] ⟨rfl,rfl,rfl,rfl,rfl,trivial⟩ rfl) (fun n z7 y6 h=>?_);unfold cF at h;refine ah (aX (Z:=Unit) (α:=Bool) (fun z9 x8=>[(0,.eq c),(1,I a1),(2,I a2),(6,I y2.2),(7,I y6.2),(30,.eq (.bool x8))]) (fun z9 x8=>[.sl c 3 (.int .i64) y6.1]) h (fun K h=>?_) (fun z9 x8 h=>?_))
   ·refine cz ?_;refine dm ?_;refine dm ?_;refine db (kh rfl) ?_;refine tZ rfl rfl rfl (aO rfl) ⟨rfl,trivial⟩ (fun hb=>?_) (fun hb=>?_)
    ·replace h:=cU (nz hb) h;refine cr rfl rfl rfl rfl rfl (aO rfl) ⟨rfl,rfl,trivial⟩ ?_;refine cr rfl rfl rfl rfl rfl (aO rfl) ⟨rfl,rfl,trivial⟩ ?_;obtain⟨SY,x,h⟩:=aa h;refine mi 0 rfl rfl rfl rfl rfl rfl (bb (t:=(.int .i64)) rfl eS co x) ⟨rfl,rfl,rfl,trivial⟩ ?_;refine mi 0 rfl rfl rfl rfl rfl rfl (fZ (i:=Int.toNat y6.2) (off:=0) rfl co (fun _=>rfl) rfl (bS x).2.2 rfl) ⟨rfl,rfl,trivial⟩ ?_;refine cr rfl rfl rfl rfl rfl (aO rfl) ⟨rfl,rfl,trivial⟩ ?_;refine cr rfl rfl rfl rfl rfl (aO rfl) ⟨rfl,rfl,trivial⟩ ?_;obtain⟨SX,qt,h⟩:=aa h;refine cr rfl rfl rfl rfl rfl (d5 rfl qt) ⟨rfl,rfl,rfl,trivial⟩ ?_;obtain⟨SV,u,h⟩:=aa h;refine mi 0 rfl rfl rfl rfl rfl rfl (bb (t:=(.int .i64)) rfl eS co u) ⟨rfl,rfl,rfl,trivial⟩ ?_;refine mi 0 rfl rfl rfl rfl rfl rfl (fZ (i:=Int.toNat SX) (off:=0) rfl co (fun _=>rfl) rfl (bS u).2.2 rfl) ⟨rfl,rfl,trivial⟩ ?_;refine df dI ?_;obtain⟨F,se,h⟩:=aa h;refine gb (ao [.tmp 23,.tmp 28] rfl rfl PK rfl (Ac k SY SV F se)) ?_;refine pt (nl ?_);exact jz ((),F) h [0]
    ·replace h:=bT (m4 hb) h;iterate 9 refine dg ?_
     refine df dI ?_;refine gn ?_;refine pf (nl ?_);exact jz ((),false) h [0]
   ·refine cv h (fun h=>?_) (fun h=>?_)
    ·refine sk (ah (an (gQ ?_)));refine aF rfl rfl rfl (aO rfl) ⟨rfl,trivial⟩ ?_;refine aF rfl rfl rfl (aO rfl) ⟨rfl,trivial⟩ ?_;refine aF rfl rfl rfl (aO rfl) ⟨rfl,trivial⟩ ?_;refine aF rfl rfl rfl (aO rfl) ⟨rfl,trivial⟩ ?_;obtain⟨y,pp,h⟩:=aa h;refine aF rfl rfl rfl (d5 rfl pp) ⟨rfl,rfl,trivial⟩ ?_;refine aF rfl rfl rfl (aO rfl) ⟨rfl,trivial⟩ ?_;refine aF rfl rfl rfl (aO rfl) ⟨rfl,trivial⟩ ?_;obtain⟨SU,mc,h⟩:=aa h;refine aF rfl rfl rfl (d5 rfl mc) ⟨rfl,rfl,trivial⟩ ?_;obtain⟨E,s,h⟩:=aa h;refine cp 0 rfl rfl rfl rfl (bb (t:=(.int .i64)) rfl eS co s) ⟨rfl,rfl,trivial⟩ ?_;refine cp 0 rfl rfl rfl rfl (fZ (i:=Int.toNat SU) (off:=0) rfl co (fun _=>rfl) rfl (bS s).2.2 rfl) ⟨rfl,trivial⟩ ?_;refine aF rfl rfl rfl (aO rfl) ⟨rfl,trivial⟩ ?_;refine aF rfl rfl rfl (aO rfl) ⟨rfl,trivial⟩ ?_;obtain⟨D,l,h⟩:=aa h;refine cp 0 rfl rfl rfl rfl (bb (t:=(.int .i64)) rfl eS co l) ⟨rfl,rfl,trivial⟩ ?_;refine cp 0 rfl rfl rfl rfl (fZ (i:=Int.toNat y6.2) (off:=0) rfl co (fun _=>rfl) rfl (bS l).2.2 rfl) ⟨rfl,trivial⟩ ?_;obtain⟨TB,j,h⟩:=aa h;refine cp 0 rfl rfl rfl rfl (bb (t:=(.int .i64)) rfl eS co j) ⟨rfl,rfl,trivial⟩ ?_;refine kK 15 [true,true,false,false,false,true,true,true,true,true,true,true,true,true,true] [48] [] [] rfl (by kernel_rfl) (by kernel_rfl) (by kernel_rfl) dI (fun vs hv hB=>?_);obtain⟨w0,TU,rfl,Ti⟩:=aj hv;obtain⟨w1,TS,rfl,Tf⟩:=aj Ti;obtain⟨w2,TR,rfl,Td⟩:=aj Tf;obtain⟨w3,TP,rfl,Ta⟩:=aj Td;obtain⟨w4,TO,rfl,S9⟩:=aj Ta;obtain⟨w5,TN,rfl,S8⟩:=aj S9;obtain⟨w6,TM,rfl,S7⟩:=aj S8;obtain⟨w7,TL,rfl,S5⟩:=aj S7;obtain⟨w8,TK,rfl,SZ⟩:=aj S5;obtain⟨w9,Tz,rfl,X⟩:=aj SZ;obtain⟨TJ,Tv,rfl,U⟩:=aj X;obtain⟨TG,Tt,rfl,Q⟩:=aj U;obtain⟨TF,To,rfl,O⟩:=aj Q;obtain⟨TD,Tn,rfl,M⟩:=aj O;obtain⟨TC,Tm,rfl,J⟩:=aj M;obtain rfl:=i7 J;refine⟨[0],[.sl c 3 (.int .i64) y6.1],by kernel_rfl,by decide,?_⟩;refine kJ rfl rfl (dU (i:=Int.toNat y6.2) rfl co rfl (jE j) rfl .int rfl) ⟨rfl,rfl,trivial⟩ (by kernel_rfl) ?_;obtain⟨TA,e,h⟩:=aa h;refine ta rfl rfl rfl rfl (bb (t:=(.int .i64)) rfl eS co e) ⟨rfl,rfl,trivial⟩ (by kernel_rfl) ?_;refine kJ rfl rfl (dU (i:=Int.toNat y) rfl co rfl (jE e) rfl .int rfl) ⟨rfl,rfl,trivial⟩ (by kernel_rfl) ?_;refine nD ?_;refine bF (SE.fin (Γ':=[(0,.eq c),(1,I a1),(2,I a2),(6,I y2.2),(7,I y6.2)]) (Δ':=[.sl c 3 (.int .i64) (List.set (List.set y6.1 (Int.toNat y6.2) E) (Int.toNat y) D)]) [0] ⟨rfl,rfl,rfl,rfl,rfl,trivial⟩ rfl) ?_;refine aP (tn (ab (mq ?_)));obtain⟨SS,ac,h⟩:=aa h;refine jb (d5 rfl ac) ?_;refine aq (nl ?_);exact jz ((),(List.set (List.set y6.1 (Int.toNat y6.2) E) (Int.toNat y) D,SS)) h [0]
    ·refine dD (aQ (aQ (bR (bn ?_))));exact jz ((),y6.1) h [0]
  ·refine ab (mq ?_);obtain⟨SR,Y,h⟩:=aa h;refine jb (bm rfl Y) ?_;refine aq (nl ?_);exact jz ((),(x4,SR)) h [0]
 ·
  refine dD (aQ (aQ (bR (iS ?_))));cases h;exact aL () [] 1 trivial rfl
def kE(k:Nat)(a0:Int):Option Int:=
 ((if 4294967296≤a0 then(some (ie .u64 a0 32,32)) else(some (a0,0))):Option (Int×Int)).bind fun x1=>
 ((if 65536≤x1.1 then((ck (x1.2+16)).bind fun x5=>
 some (ie .u64 x1.1 16,x5)) else(some (x1.1,x1.2))):Option (Int×Int)).bind fun x3=>
 ((if 256≤x3.1 then((ck (x3.2+8)).bind fun x8=>
 some (ie .u64 x3.1 8,x8)) else(some (x3.1,x3.2))):Option (Int×Int)).bind fun x6=>
 (Bq Jo (IntKind.u8.wrap x6.1)).bind fun x9=>
 (ck (x9.toNat:Int)).bind fun e=>
 (ck (x6.2+e)).bind fun c=>
 some c
theorem qB(k:Nat)(a0:Int)(r:Int)(h:kE k a0=some r):
 cd Tryz.prog 165 [.eq (.int .u64 a0)] [] (fun _:Unit=>(bv [I r],[])):=by
 unfold kE at h
 replace h:=bg h
 refine cd.of 25 Tryz.func165 rfl Tryz.ntmps165 rfl fun S w0=>?_
 refine sr ?_
 refine cq ?_
 refine nt ?_
 refine aX (Z:=Unit) (α:=Int×Int) (fun z2 x1=>[(0,.eq (.int .u64 x1.1)),(2,I x1.2)]) (fun z2 x1=>[]) h (fun K h=>?_) (fun z2 x1 h=>?_)
 ·
  refine sr (mq ?_);refine jb (pW rfl) ?_;refine nt (ci h (fun h=>?_) (fun h=>?_))
  ·refine sr (mq ?_);refine aD rfl (uE rfl (by decide)) ⟨rfl,rfl,trivial⟩ ?_;refine aq (nt (ab ?_));refine cq (nl ?_);exact jz ((),(ie .u64 a0 32,32)) h []
  ·refine ba (ae ?_);exact jz ((),(a0,0)) h []
 ·
  refine aX (Z:=Unit) (α:=Int×Int) (fun z4 x3=>[(0,.eq (.int .u64 x3.1)),(2,I x3.2)]) (fun z4 x3=>[]) h (fun K h=>?_) (fun z4 x3 h=>?_)
  ·refine sr (mq ?_);refine jb (pW rfl) ?_;refine nt (ci h (fun h=>?_) (fun h=>?_))
   ·refine sr (mq ?_);refine aD rfl (uE rfl (by decide)) ⟨rfl,rfl,trivial⟩ ?_;refine aq (nt (ab ?_));refine mq ?_;obtain⟨x5,n,h⟩:=aa h;refine jb (bm rfl n) ?_;refine aq (nl ?_);exact jz ((),(ie .u64 x1.1 16,x5)) h []
   ·refine ba (ae ?_);exact jz ((),(x1.1,x1.2)) h []
  ·refine aX (Z:=Unit) (α:=Int×Int) (fun z7 x6=>[(0,.eq (.int .u64 x6.1)),(2,I x6.2)]) (fun z7 x6=>[]) h (fun K h=>?_) (fun z7 x6 h=>?_)
   ·refine sr (mq ?_);refine jb (pW rfl) ?_;refine nt (ci h (fun h=>?_) (fun h=>?_))
    ·refine sr (mq ?_);refine aD rfl (uE rfl (by decide)) ⟨rfl,rfl,trivial⟩ ?_;refine aq (nt (ab ?_));refine mq ?_;obtain⟨x8,l,h⟩:=aa h;refine jb (bm rfl l) ?_;refine aq (nl ?_);exact jz ((),(ie .u64 x3.1 8,x8)) h []
    ·refine ba (ae ?_);exact jz ((),(x3.1,x3.2)) h []
   ·refine sr ?_;iterate 2 refine mq ?_
    refine ja (ov rfl Qy U5) ?_;obtain⟨x9,j,h⟩:=aa h;refine ja (zl rfl U9 j) ?_;obtain⟨u,e,h⟩:=aa h;refine ja (zm rfl U5 U3 e) ?_;obtain⟨s,c,h⟩:=aa h;refine jb (bm rfl c) ?_;refine aq (nt (aC ?_));cases h;exact ra
def yh(k:Nat)(a0:Int):Option Int:=
 (kE k a0).bind fun r1=>
 some r1
theorem BN(k:Nat)(a0:Int)(r:Int)(h:yh k a0=some r):
 cd Tryz.prog 142 [.eq (.int .u64 a0)] [] (fun _:Unit=>(bv [I r],[])):=by
 unfold yh at h
 replace h:=bg h
 refine cd.of 8 Tryz.func142 rfl Tryz.ntmps142 rfl fun S w0=>?_
 refine sr ?_
 refine cq ?_
 refine nt ?_
 refine ah ?_
 refine Ip (fun hb=>(by cases hb)) (fun hb=>?_)
 refine sk ?_
 refine sr ?_
 refine mq ?_
 obtain⟨r1,c,h⟩:=aa h
 have e:=qB k a0 r1 c
 refine ja (ao [.tmp 6] rfl rfl PI rfl e) ?_
 refine aq ?_
 refine nt ?_
 refine aC ?_
 cases h
 exact ra
def fm(k:Nat)(a0:(List Int))(a1:Int)(a2:Int)(a3:Int):Nat→Unit→Option (List Int)
 |0,_=>none
 |n+1,y1=>
  (ck (a2 - a1)).bind fun x3=>
  if x3≤12 then((ek k a0 a1 a2).bind fun r4=>
  some r4) else(if a3=0 then(none) else(none))
def gu(k:Nat)(a0:(List Int))(a1:Int)(a2:Int)(a3:Int):Option (List Int):=
 fm k a0 a1 a2 a3 k ()
theorem lP(k:Nat)(a0:(List Int))(c:Value)(a1:Int)(a2:Int)(a3:Int)(r:(List Int))(h:gu k a0 a1 a2 a3=some r):
 cd Tryz.prog 141 [.eq c,I a1,I a2,I a3] [.sl c 3 (.int .i64) a0] (fun _:Unit=>(bv [],[.sl c 3 (.int .i64) r])):=by
 unfold gu at h
 replace h:=bg h
 refine cd.of 134 Tryz.func141 rfl Tryz.ntmps141 rfl fun S w0=>?_
 refine sr ?_
 refine cq ?_
 refine nt ?_
 refine sr ?_
 refine cq ?_
 refine nt ?_
 refine an ?_
 refine aN (fun z2 y1=>[(0,.eq c),(1,I a1),(2,I a2),(3,I a3),(8,.eq (.bool true)),(9,.eq (.bool true))]) (fun z2 y1=>[.sl c 3 (.int .i64) a0]) (fm k a0 a1 a2 a3) k () () (fun _=>rfl) h (SE.fin [0] ⟨rfl,rfl,rfl,rfl,rfl,rfl,trivial⟩ rfl) (fun n z2 y1 h=>?_)
 unfold fm at h
 refine an ?_
 refine sr ?_
 iterate 2 refine mq ?_
 obtain⟨x3,e,h⟩:=aa h
 refine jb (d5 rfl e) ?_
 refine aq ?_
 refine nt ?_
 refine ah ?_
 refine sr ?_
 refine mq ?_
 refine jb (uH rfl) ?_
 refine nt ?_
 refine ci h (fun h=>?_) (fun h=>?_)
 ·
  refine sr ?_;iterate 3 refine mq ?_
  obtain⟨r4,j,h⟩:=aa h;refine kc (ao [.tmp 24,.tmp 25,.tmp 26] rfl rfl PL rfl (jI k a0 c a1 a2 r4 j)) ?_;refine nt (rx (bp (aV (bp ?_))));cases h;exact aL () [] 1 trivial rfl
 ·
  refine sk (ah (sr (mq ?_)));refine jb (eE rfl) ?_;refine nt (ci h (fun h=>?_) (fun h=>?_))
  ·refine sr ?_;iterate 3 refine mq ?_
   cases h
  ·refine sk (ah (sr (mq ?_)));refine ja (eY rfl) ?_;refine nt (bK rfl (fun hb=>(by cases hb)) (fun hb=>?_));refine sk (sr ?_);iterate 3 refine mq ?_
   cases h
def nc(k:Nat)(a0:(List Int)):Option (List Int):=
 (yh k (IntKind.u64.wrap (a0.length:Int))).bind fun r1=>
 (gu k a0 0 (a0.length:Int) r1).bind fun r2=>
 some r2
theorem tD(k:Nat)(a0:(List Int))(c:Value)(r:(List Int))(h:nc k a0=some r):
 cd Tryz.prog 107 [.eq c] [.sl c 3 (.int .i64) a0] (fun _:Unit=>(bv [],[.sl c 3 (.int .i64) r])):=by
 unfold nc at h
 replace h:=bg h
 refine cd.of 11 Tryz.func107 rfl Tryz.ntmps107 rfl fun S w0=>?_
 refine sr ?_
 refine mq ?_
 refine ka (dx rfl rfl eS) ?_
 refine aq ?_
 refine nt ?_
 refine ab ?_
 iterate 3 refine mq ?_
 refine ja (ov rfl U3 RS) ?_
 obtain⟨r1,j,h⟩:=aa h
 have n:=BN k (IntKind.u64.wrap (a0.length:Int)) r1 j
 refine ja (ao [.tmp 8] rfl rfl PO rfl n) ?_
 obtain⟨r2,e,h⟩:=aa h
 have l:=lP k a0 c 0 (a0.length:Int) r1 r2 e
 refine bQ rfl rfl rfl (ao [.tmp 5,.const (.int .i64 (0)),.tmp 6,.tmp 9] rfl rfl PP rfl l) ⟨rfl,rfl,rfl,rfl,trivial⟩ ?_
 refine ar ?_
 refine iS ?_
 cases h
 exact aL () [] 1 trivial rfl
def lx(k:Nat)(a0:(List Int)):Option (List Int):=
 (kD k a0).bind fun r1=>
 (nc k r1).bind fun r3=>
 some r3
theorem qY(k:Nat)(a0:(List Int))(c:Nat)(r:(List Int))(h:lx k a0=some r):
 cd Tryz.prog 76 [.eq (.func (.func 108) #[] #[(Pv c)])] [.obj c 22 (Ri a0)] (fun _:Unit=>(bv [Ri r],[.obj c 22 (Ri a0)])):=by
 unfold lx at h
 replace h:=bg h
 refine cd.of 9 Tryz.func76 rfl Tryz.ntmps76 rfl fun S w0=>?_
 refine sr ?_
 refine cq ?_
 refine nt ?_
 refine sr ?_
 refine mq ?_
 obtain⟨r1,j,h⟩:=aa h
 have n:=qk k a0 c r1 j
 refine bN (Δ:=[_]) (F:=_) (fun _ _ _=>ay rfl _) rfl rfl (ao [.tmp 4] rfl rfl PX rfl n) ⟨rfl,trivial⟩ fun z2=>?_
 refine aq ?_
 refine nt ?_
 refine sr ?_
 refine mq ?_
 obtain⟨r3,e,h⟩:=aa h
 have l:=tD k r1 z2 r3 e
 refine ka (ao [.tmp 6] rfl rfl PW rfl l) ?_
 refine nt ?_
 refine sr ?_
 refine mq ?_
 refine aq ?_
 refine nt ?_
 refine aC ?_
 refine bF (gZ [2,3,5,6,8] ⟨rfl,rfl,rfl,rfl,rfl,trivial⟩) ?_
 cases h
 exact aL () [_] 1 ⟨rfl,trivial⟩ rfl
theorem qX(a0:(List Int)):cd Tryz.prog 77 [Ri a0] [] (fun z:Nat=>(bv [.eq (.func (.func 108) #[] #[(Pv z)])],[.obj z 22 (Ri a0)])):=by
 refine cd.of 4 Tryz.func77 rfl Tryz.ntmps77 rfl fun S w0=>?_;refine sr (bx fun z=>?_);refine cq (nt (sr ?_));refine ja (sD [] [.tmp 1] [] [(Pv z)] rfl rfl rfl) ?_;refine aq (nt (aC ?_));exact aL z [_] 1 ⟨rfl,trivial⟩ rfl
def iC(k:Nat)(a0:(List Int)):Option (List Int):=
 (dY (bU (List.length ([]:(List Int))+List.length a0))).bind fun _=>
 some (([]:(List Int))++a0)
theorem eB(k:Nat)(a0:(List Int))(r:(List Int))(h:iC k a0=some r):
 cd Tryz.prog 41 [Ri a0] [] (fun z:Value=>(bv [.eq z],[.sl z 3 (.int .i64) r])):=by
 unfold iC at h
 replace h:=bg h
 refine cd.of 6 Tryz.func41 rfl Tryz.ntmps41 rfl fun S w0=>?_
 refine sr ?_
 refine cq ?_
 refine nt ?_
 refine sr ?_
 refine aE rfl rfl rfl (nn (t:=(.int .i64)) [] ([]:(List Int)) rfl rfl eu .nil rfl rfl) trivial fun v1=>?_
 refine mq ?_
 obtain⟨u2,c,h⟩:=aa h
 refine eC rfl rfl rfl (bZ rfl rfl eu (aH c)) ⟨rfl,rfl,trivial⟩ fun v3=>?_
 refine aq ?_
 refine nt ?_
 refine aC ?_
 cases h
 exact aL v3 [.eq v3] 1 ⟨rfl,trivial⟩ rfl
def fq(k:Nat)(a0:be):Nat→((List cR)×Int)→Option (List cR)
 |0,_=>none
 |n+1,y9=>
  if y9.2 < (a0.2.1.length:Int) then((a8 a0.2.1 y9.2).bind fun c=>
  (a8 a0.2.1 y9.2).bind fun j=>
  (iC k j.2).bind fun e=>
  (dY (bU (List.length y9.1+List.length [(c.1,e)]))).bind fun _=>
  (ck (y9.2+1)).bind fun h=>
  fq k a0 n (y9.1++[(c.1,e)],h)) else(some y9.1)
def gz(k:Nat)(a0:be):Option be:=
 (iC k a0.2.2).bind fun r3=>
 ((fq k a0 k (([]:(List cR)),0)):Option ((List cR))).bind fun x7=>
 some (a0.1,x7,r3)
theorem nO(k:Nat)(a0:be)(r:be)(h:gz k a0=some r):
 cd Tryz.prog 11 [.rep aw a0] [] (fun z:Value×Value=>(bv [.agg (.pair (I r.1) (.pair (.eq z.1) (.eq z.2)))],[.sl z.1 35 aG r.2.1,.sl z.2 3 (.int .i64) r.2.2])):=by
 unfold gz at h
 replace h:=bg h
 refine cd.of 38 Tryz.func11 rfl Tryz.ntmps11 rfl fun S w0=>?_
 refine sr ?_
 refine bx fun b1=>?_
 refine aE rfl rfl rfl (aZ rfl j9 lQ) trivial fun b2=>?_
 refine nt ?_
 refine ah ?_
 obtain⟨r3,c,h⟩:=aa h
 refine eG (SE.fin (Γ':=[(1,Pt b1),(2,Pt b2)]) (Δ':=[.obj b2 27 (.agg (.pair (I 0) (.pair (.eq (.slice none 0 0)) (.eq (.slice none 0 0))))),.obj b1 27 (.rep aw a0)]) [0,1] ⟨rfl,rfl,trivial⟩ rfl) ?_
 refine vu (I:=Value×Nat) (Ge:=fun i=>[(1,Pt b1),(2,Pt b2),(3,.eq (.pointer (some ⟨i.2,0,none⟩)))]) (De:=fun i=>[.obj b1 27 (.rep aw a0),.obj b2 27 (.agg (.pair (I 0) (.pair (.eq (.slice none 0 0)) (.eq (.slice none 0 0))))),.sl i.1 3 (.int .i64) r3,.obj i.2 27 (.agg (.pair (I a0.1) (.pair (.eq (.slice none 0 0)) (.eq i.1))))]) (L:=[true,true,true,true,true,true,true,true]) dI rfl (fun J hJ hE=>?_) (by kernel_rfl) ?_
 ·
  have s127:∀(v4:Value) (b6:Nat),J 1 [true,true,true,true,true,true,true,false] [(1,Pt b1),(2,Pt b2),(3,Pt b6),(10,.agg (.pair (I a0.1) (.pair (.eq (.slice none 0 0)) (.eq v4))))] [.obj b1 27 (.rep aw a0),.obj b2 27 (.agg (.pair (I 0) (.pair (.eq (.slice none 0 0)) (.eq (.slice none 0 0))))),.sl v4 3 (.int .i64) r3,.obj b6 27 (.agg (.pair (I 0) (.pair (.eq (.slice none 0 0)) (.eq (.slice none 0 0)))))]:=fun v4 b6=>by
   subst hJ;refine JD.step [7] (by kernel_rfl) rfl ?_;refine bL.cons rfl ?_ ?_
   ·refine fr 3 ?_;refine aY rfl rfl (aR rfl fJ trivial rfl rfl) ⟨rfl,rfl,trivial⟩ ?_;exact av (hE ⟨v4,b6⟩) [1,2,3,0] ⟨rfl,rfl,rfl,trivial⟩
   exact trivial
  have s63:∀(v4:Value),J 2 [true,true,true,true,true,true,false,false] [(1,Pt b1),(2,Pt b2),(10,.agg (.pair (I a0.1) (.pair (.eq (.slice none 0 0)) (.eq v4))))] [.obj b1 27 (.rep aw a0),.obj b2 27 (.agg (.pair (I 0) (.pair (.eq (.slice none 0 0)) (.eq (.slice none 0 0))))),.sl v4 3 (.int .i64) r3]:=fun v4=>by
   subst hJ;refine JD.step [6] (by kernel_rfl) rfl ?_;refine bL.cons rfl ?_ ?_
   ·refine aE rfl rfl rfl (aZ rfl j9 lQ) trivial fun b6=>?_;exact av (s127 v4 b6) [1,2,3,0] ⟨rfl,rfl,rfl,rfl,trivial⟩
   exact trivial
  have s95:∀(v4:Value) (b6:Nat),J 2 [true,true,true,true,true,false,true,false] [(1,Pt b1),(2,Pt b2),(3,Pt b6),(6,I a0.1),(9,.eq v4)] [.obj b1 27 (.rep aw a0),.obj b2 27 (.agg (.pair (I 0) (.pair (.eq (.slice none 0 0)) (.eq (.slice none 0 0))))),.sl v4 3 (.int .i64) r3,.obj b6 27 (.agg (.pair (I 0) (.pair (.eq (.slice none 0 0)) (.eq (.slice none 0 0)))))]:=fun v4 b6=>by
   subst hJ;refine JD.step [5] (by kernel_rfl) rfl ?_;refine bL.cons rfl ?_ ?_
   ·refine fr 2 ?_;refine qK fun o5=>?_;refine jb (c6 [(0,.tmp 6,_),(2,.tmp 9,_)] rfl I3 j9 C7 (iH ⟨rfl,o5,trivial⟩) rfl) ?_;exact av (s127 v4 b6) [1,2,0,3] ⟨rfl,rfl,rfl,rfl,trivial⟩
   exact trivial
  have s31:∀(v4:Value),J 3 [true,true,true,true,true,false,false,false] [(1,Pt b1),(2,Pt b2),(6,I a0.1),(9,.eq v4)] [.obj b1 27 (.rep aw a0),.obj b2 27 (.agg (.pair (I 0) (.pair (.eq (.slice none 0 0)) (.eq (.slice none 0 0))))),.sl v4 3 (.int .i64) r3]:=fun v4=>by
   subst hJ;refine JD.step [5,6] (by kernel_rfl) rfl ?_;refine bL.cons rfl ?_ ?_
   ·refine fr 2 ?_;refine qK fun o5=>?_;refine jb (c6 [(0,.tmp 6,_),(2,.tmp 9,_)] rfl I3 j9 C7 (iH ⟨rfl,o5,trivial⟩) rfl) ?_;exact av (s63 v4) [1,2,0] ⟨rfl,rfl,rfl,trivial⟩
   refine bL.cons rfl ?_ ?_
   ·refine aE rfl rfl rfl (aZ rfl j9 lQ) trivial fun b6=>?_;exact av (s95 v4 b6) [1,2,3,0] ⟨rfl,rfl,rfl,rfl,rfl,trivial⟩
   exact trivial
  have s79:∀(b6:Nat),J 3 [true,true,true,true,false,false,true,false] [(1,Pt b1),(2,Pt b2),(3,Pt b6),(6,I a0.1),(8,Ri a0.2.2)] [.obj b1 27 (.rep aw a0),.obj b2 27 (.agg (.pair (I 0) (.pair (.eq (.slice none 0 0)) (.eq (.slice none 0 0))))),.obj b6 27 (.agg (.pair (I 0) (.pair (.eq (.slice none 0 0)) (.eq (.slice none 0 0)))))]:=fun b6=>by
   subst hJ;refine JD.step [4] (by kernel_rfl) rfl ?_;refine bL.cons rfl ?_ ?_
   ·refine aE rfl rfl rfl (ao [.tmp 8] rfl rfl BI rfl (eB k a0.2.2 r3 c)) ⟨rfl,trivial⟩ fun v4=>?_;exact av (s95 v4 b6) [1,2,0,3] ⟨rfl,rfl,rfl,rfl,rfl,trivial⟩
   exact trivial
  have s93:∀(v4:Value) (b6:Nat),J 3 [true,false,true,true,true,false,true,false] [(1,Pt b1),(2,Pt b2),(3,Pt b6),(5,Pt b1),(9,.eq v4)] [.obj b1 27 (.rep aw a0),.obj b2 27 (.agg (.pair (I 0) (.pair (.eq (.slice none 0 0)) (.eq (.slice none 0 0))))),.sl v4 3 (.int .i64) r3,.obj b6 27 (.agg (.pair (I 0) (.pair (.eq (.slice none 0 0)) (.eq (.slice none 0 0)))))]:=fun v4 b6=>by
   subst hJ;refine JD.step [1] (by kernel_rfl) rfl ?_;refine bL.cons rfl ?_ ?_
   ·refine lo co ?_;exact av (s95 v4 b6) [0,1,2,3] ⟨rfl,rfl,rfl,rfl,rfl,trivial⟩
   exact trivial
  have s15:J 4 [true,true,true,true,false,false,false,false] [(1,Pt b1),(2,Pt b2),(6,I a0.1),(8,Ri a0.2.2)] [.obj b1 27 (.rep aw a0),.obj b2 27 (.agg (.pair (I 0) (.pair (.eq (.slice none 0 0)) (.eq (.slice none 0 0)))))]:=by
   subst hJ;refine JD.step [4,6] (by kernel_rfl) rfl ?_;refine bL.cons rfl ?_ ?_
   ·refine aE rfl rfl rfl (ao [.tmp 8] rfl rfl BI rfl (eB k a0.2.2 r3 c)) ⟨rfl,trivial⟩ fun v4=>?_;exact av (s31 v4) [1,2,0] ⟨rfl,rfl,rfl,rfl,trivial⟩
   refine bL.cons rfl ?_ ?_
   ·refine aE rfl rfl rfl (aZ rfl j9 lQ) trivial fun b6=>?_;exact av (s79 b6) [1,2,0] ⟨rfl,rfl,rfl,rfl,rfl,trivial⟩
   exact trivial
  have s71:∀(b6:Nat),J 4 [true,true,true,false,false,false,true,false] [(1,Pt b1),(2,Pt b2),(3,Pt b6),(6,I a0.1),(7,.eq (.pointer (some ⟨b1,2,none⟩)))] [.obj b1 27 (.rep aw a0),.obj b2 27 (.agg (.pair (I 0) (.pair (.eq (.slice none 0 0)) (.eq (.slice none 0 0))))),.obj b6 27 (.agg (.pair (I 0) (.pair (.eq (.slice none 0 0)) (.eq (.slice none 0 0)))))]:=fun b6=>by
   subst hJ;refine JD.step [3] (by kernel_rfl) rfl ?_;refine bL.cons rfl ?_ ?_
   ·refine lo cg ?_;exact av (s79 b6) [0,1,2] ⟨rfl,rfl,rfl,rfl,rfl,trivial⟩
   exact trivial
  have s29:∀(v4:Value),J 4 [true,false,true,true,true,false,false,false] [(1,Pt b1),(2,Pt b2),(5,Pt b1),(9,.eq v4)] [.obj b1 27 (.rep aw a0),.obj b2 27 (.agg (.pair (I 0) (.pair (.eq (.slice none 0 0)) (.eq (.slice none 0 0))))),.sl v4 3 (.int .i64) r3]:=fun v4=>by
   subst hJ;refine JD.step [1,6] (by kernel_rfl) rfl ?_;refine bL.cons rfl ?_ ?_
   ·refine lo co ?_;exact av (s31 v4) [0,1,2] ⟨rfl,rfl,rfl,rfl,trivial⟩
   refine bL.cons rfl ?_ ?_
   ·refine aE rfl rfl rfl (aZ rfl j9 lQ) trivial fun b6=>?_;exact av (s93 v4 b6) [1,2,3,0] ⟨rfl,rfl,rfl,rfl,rfl,trivial⟩
   exact trivial
  have s77:∀(b6:Nat),J 4 [true,false,true,true,false,false,true,false] [(1,Pt b1),(2,Pt b2),(3,Pt b6),(5,Pt b1),(8,Ri a0.2.2)] [.obj b1 27 (.rep aw a0),.obj b2 27 (.agg (.pair (I 0) (.pair (.eq (.slice none 0 0)) (.eq (.slice none 0 0))))),.obj b6 27 (.agg (.pair (I 0) (.pair (.eq (.slice none 0 0)) (.eq (.slice none 0 0)))))]:=fun b6=>by
   subst hJ;refine JD.step [1,4] (by kernel_rfl) rfl ?_;refine bL.cons rfl ?_ ?_
   ·refine lo co ?_;exact av (s79 b6) [0,1,2] ⟨rfl,rfl,rfl,rfl,rfl,trivial⟩
   refine bL.cons rfl ?_ ?_
   ·refine aE rfl rfl rfl (ao [.tmp 8] rfl rfl BI rfl (eB k a0.2.2 r3 c)) ⟨rfl,trivial⟩ fun v4=>?_;exact av (s93 v4 b6) [1,2,0,3] ⟨rfl,rfl,rfl,rfl,rfl,trivial⟩
   exact trivial
  have s92:∀(v4:Value) (b6:Nat),J 4 [false,false,true,true,true,false,true,false] [(1,Pt b1),(2,Pt b2),(3,Pt b6),(9,.eq v4)] [.obj b1 27 (.rep aw a0),.obj b2 27 (.agg (.pair (I 0) (.pair (.eq (.slice none 0 0)) (.eq (.slice none 0 0))))),.sl v4 3 (.int .i64) r3,.obj b6 27 (.agg (.pair (I 0) (.pair (.eq (.slice none 0 0)) (.eq (.slice none 0 0)))))]:=fun v4 b6=>by
   subst hJ;refine JD.step [0] (by kernel_rfl) rfl ?_;refine bL.cons rfl ?_ ?_
   ·refine fl cD ?_;exact av (s93 v4 b6) [0,1,2,3] ⟨rfl,rfl,rfl,rfl,rfl,trivial⟩
   exact trivial
  have s7:J 5 [true,true,true,false,false,false,false,false] [(1,Pt b1),(2,Pt b2),(6,I a0.1),(7,.eq (.pointer (some ⟨b1,2,none⟩)))] [.obj b1 27 (.rep aw a0),.obj b2 27 (.agg (.pair (I 0) (.pair (.eq (.slice none 0 0)) (.eq (.slice none 0 0)))))]:=by
   subst hJ;refine JD.step [3,6] (by kernel_rfl) rfl ?_;refine bL.cons rfl ?_ ?_
   ·refine lo cg ?_;exact av s15 [0,1] ⟨rfl,rfl,rfl,rfl,trivial⟩
   refine bL.cons rfl ?_ ?_
   ·refine aE rfl rfl rfl (aZ rfl j9 lQ) trivial fun b6=>?_;exact av (s71 b6) [1,2,0] ⟨rfl,rfl,rfl,rfl,rfl,trivial⟩
   exact trivial
  have s67:∀(b6:Nat),J 5 [true,true,false,false,false,false,true,false] [(1,Pt b1),(2,Pt b2),(3,Pt b6),(6,I a0.1)] [.obj b1 27 (.rep aw a0),.obj b2 27 (.agg (.pair (I 0) (.pair (.eq (.slice none 0 0)) (.eq (.slice none 0 0))))),.obj b6 27 (.agg (.pair (I 0) (.pair (.eq (.slice none 0 0)) (.eq (.slice none 0 0)))))]:=fun b6=>by
   subst hJ;refine JD.step [2] (by kernel_rfl) rfl ?_;refine bL.cons rfl ?_ ?_
   ·refine fl dH ?_;exact av (s71 b6) [0,1,2] ⟨rfl,rfl,rfl,rfl,rfl,trivial⟩
   exact trivial
  have s13:J 5 [true,false,true,true,false,false,false,false] [(1,Pt b1),(2,Pt b2),(5,Pt b1),(8,Ri a0.2.2)] [.obj b1 27 (.rep aw a0),.obj b2 27 (.agg (.pair (I 0) (.pair (.eq (.slice none 0 0)) (.eq (.slice none 0 0)))))]:=by
   subst hJ;refine JD.step [1,4,6] (by kernel_rfl) rfl ?_;refine bL.cons rfl ?_ ?_
   ·refine lo co ?_;exact av s15 [0,1] ⟨rfl,rfl,rfl,rfl,trivial⟩
   refine bL.cons rfl ?_ ?_
   ·refine aE rfl rfl rfl (ao [.tmp 8] rfl rfl BI rfl (eB k a0.2.2 r3 c)) ⟨rfl,trivial⟩ fun v4=>?_;exact av (s29 v4) [1,2,0] ⟨rfl,rfl,rfl,rfl,trivial⟩
   refine bL.cons rfl ?_ ?_
   ·refine aE rfl rfl rfl (aZ rfl j9 lQ) trivial fun b6=>?_;exact av (s77 b6) [1,2,0] ⟨rfl,rfl,rfl,rfl,rfl,trivial⟩
   exact trivial
  have s69:∀(b6:Nat),J 5 [true,false,true,false,false,false,true,false] [(1,Pt b1),(2,Pt b2),(3,Pt b6),(5,Pt b1),(7,.eq (.pointer (some ⟨b1,2,none⟩)))] [.obj b1 27 (.rep aw a0),.obj b2 27 (.agg (.pair (I 0) (.pair (.eq (.slice none 0 0)) (.eq (.slice none 0 0))))),.obj b6 27 (.agg (.pair (I 0) (.pair (.eq (.slice none 0 0)) (.eq (.slice none 0 0)))))]:=fun b6=>by
   subst hJ;refine JD.step [1,3] (by kernel_rfl) rfl ?_;refine bL.cons rfl ?_ ?_
   ·refine lo co ?_;exact av (s71 b6) [0,1,2] ⟨rfl,rfl,rfl,rfl,rfl,trivial⟩
   refine bL.cons rfl ?_ ?_
   ·refine lo cg ?_;exact av (s77 b6) [0,1,2] ⟨rfl,rfl,rfl,rfl,rfl,trivial⟩
   exact trivial
  have s28:∀(v4:Value),J 5 [false,false,true,true,true,false,false,false] [(1,Pt b1),(2,Pt b2),(9,.eq v4)] [.obj b1 27 (.rep aw a0),.obj b2 27 (.agg (.pair (I 0) (.pair (.eq (.slice none 0 0)) (.eq (.slice none 0 0))))),.sl v4 3 (.int .i64) r3]:=fun v4=>by
   subst hJ;refine JD.step [0,6] (by kernel_rfl) rfl ?_;refine bL.cons rfl ?_ ?_
   ·refine fl cD ?_;exact av (s29 v4) [0,1,2] ⟨rfl,rfl,rfl,rfl,trivial⟩
   refine bL.cons rfl ?_ ?_
   ·refine aE rfl rfl rfl (aZ rfl j9 lQ) trivial fun b6=>?_;exact av (s92 v4 b6) [1,2,3,0] ⟨rfl,rfl,rfl,rfl,trivial⟩
   exact trivial
  have s76:∀(b6:Nat),J 5 [false,false,true,true,false,false,true,false] [(1,Pt b1),(2,Pt b2),(3,Pt b6),(8,Ri a0.2.2)] [.obj b1 27 (.rep aw a0),.obj b2 27 (.agg (.pair (I 0) (.pair (.eq (.slice none 0 0)) (.eq (.slice none 0 0))))),.obj b6 27 (.agg (.pair (I 0) (.pair (.eq (.slice none 0 0)) (.eq (.slice none 0 0)))))]:=fun b6=>by
   subst hJ;refine JD.step [0,4] (by kernel_rfl) rfl ?_;refine bL.cons rfl ?_ ?_
   ·refine fl cD ?_;exact av (s77 b6) [0,1,2] ⟨rfl,rfl,rfl,rfl,rfl,trivial⟩
   refine bL.cons rfl ?_ ?_
   ·refine aE rfl rfl rfl (ao [.tmp 8] rfl rfl BI rfl (eB k a0.2.2 r3 c)) ⟨rfl,trivial⟩ fun v4=>?_;exact av (s92 v4 b6) [1,2,0,3] ⟨rfl,rfl,rfl,rfl,trivial⟩
   exact trivial
  have s3:J 6 [true,true,false,false,false,false,false,false] [(1,Pt b1),(2,Pt b2),(6,I a0.1)] [.obj b1 27 (.rep aw a0),.obj b2 27 (.agg (.pair (I 0) (.pair (.eq (.slice none 0 0)) (.eq (.slice none 0 0)))))]:=by
   subst hJ;refine JD.step [2,6] (by kernel_rfl) rfl ?_;refine bL.cons rfl ?_ ?_
   ·refine fl dH ?_;exact av s7 [0,1] ⟨rfl,rfl,rfl,rfl,trivial⟩
   refine bL.cons rfl ?_ ?_
   ·refine aE rfl rfl rfl (aZ rfl j9 lQ) trivial fun b6=>?_;exact av (s67 b6) [1,2,0] ⟨rfl,rfl,rfl,rfl,trivial⟩
   exact trivial
  have s5:J 6 [true,false,true,false,false,false,false,false] [(1,Pt b1),(2,Pt b2),(5,Pt b1),(7,.eq (.pointer (some ⟨b1,2,none⟩)))] [.obj b1 27 (.rep aw a0),.obj b2 27 (.agg (.pair (I 0) (.pair (.eq (.slice none 0 0)) (.eq (.slice none 0 0)))))]:=by
   subst hJ;refine JD.step [1,3,6] (by kernel_rfl) rfl ?_;refine bL.cons rfl ?_ ?_
   ·refine lo co ?_;exact av s7 [0,1] ⟨rfl,rfl,rfl,rfl,trivial⟩
   refine bL.cons rfl ?_ ?_
   ·refine lo cg ?_;exact av s13 [0,1] ⟨rfl,rfl,rfl,rfl,trivial⟩
   refine bL.cons rfl ?_ ?_
   ·refine aE rfl rfl rfl (aZ rfl j9 lQ) trivial fun b6=>?_;exact av (s69 b6) [1,2,0] ⟨rfl,rfl,rfl,rfl,rfl,trivial⟩
   exact trivial
  have s65:∀(b6:Nat),J 6 [true,false,false,false,false,false,true,false] [(1,Pt b1),(2,Pt b2),(3,Pt b6),(5,Pt b1)] [.obj b1 27 (.rep aw a0),.obj b2 27 (.agg (.pair (I 0) (.pair (.eq (.slice none 0 0)) (.eq (.slice none 0 0))))),.obj b6 27 (.agg (.pair (I 0) (.pair (.eq (.slice none 0 0)) (.eq (.slice none 0 0)))))]:=fun b6=>by
   subst hJ;refine JD.step [1,2] (by kernel_rfl) rfl ?_;refine bL.cons rfl ?_ ?_
   ·refine lo co ?_;exact av (s67 b6) [0,1,2] ⟨rfl,rfl,rfl,rfl,trivial⟩
   refine bL.cons rfl ?_ ?_
   ·refine fl dH ?_;exact av (s69 b6) [0,1,2] ⟨rfl,rfl,rfl,rfl,rfl,trivial⟩
   exact trivial
  have s12:J 6 [false,false,true,true,false,false,false,false] [(1,Pt b1),(2,Pt b2),(8,Ri a0.2.2)] [.obj b1 27 (.rep aw a0),.obj b2 27 (.agg (.pair (I 0) (.pair (.eq (.slice none 0 0)) (.eq (.slice none 0 0)))))]:=by
   subst hJ;refine JD.step [0,4,6] (by kernel_rfl) rfl ?_;refine bL.cons rfl ?_ ?_
   ·refine fl cD ?_;exact av s13 [0,1] ⟨rfl,rfl,rfl,rfl,trivial⟩
   refine bL.cons rfl ?_ ?_
   ·refine aE rfl rfl rfl (ao [.tmp 8] rfl rfl BI rfl (eB k a0.2.2 r3 c)) ⟨rfl,trivial⟩ fun v4=>?_;exact av (s28 v4) [1,2,0] ⟨rfl,rfl,rfl,trivial⟩
   refine bL.cons rfl ?_ ?_
   ·refine aE rfl rfl rfl (aZ rfl j9 lQ) trivial fun b6=>?_;exact av (s76 b6) [1,2,0] ⟨rfl,rfl,rfl,rfl,trivial⟩
   exact trivial
  have s68:∀(b6:Nat),J 6 [false,false,true,false,false,false,true,false] [(1,Pt b1),(2,Pt b2),(3,Pt b6),(7,.eq (.pointer (some ⟨b1,2,none⟩)))] [.obj b1 27 (.rep aw a0),.obj b2 27 (.agg (.pair (I 0) (.pair (.eq (.slice none 0 0)) (.eq (.slice none 0 0))))),.obj b6 27 (.agg (.pair (I 0) (.pair (.eq (.slice none 0 0)) (.eq (.slice none 0 0)))))]:=fun b6=>by
   subst hJ;refine JD.step [0,3] (by kernel_rfl) rfl ?_;refine bL.cons rfl ?_ ?_
   ·refine fl cD ?_;exact av (s69 b6) [0,1,2] ⟨rfl,rfl,rfl,rfl,rfl,trivial⟩
   refine bL.cons rfl ?_ ?_
   ·refine lo cg ?_;exact av (s76 b6) [0,1,2] ⟨rfl,rfl,rfl,rfl,trivial⟩
   exact trivial
  have s1:J 7 [true,false,false,false,false,false,false,false] [(1,Pt b1),(2,Pt b2),(5,Pt b1)] [.obj b1 27 (.rep aw a0),.obj b2 27 (.agg (.pair (I 0) (.pair (.eq (.slice none 0 0)) (.eq (.slice none 0 0)))))]:=by
   subst hJ;refine JD.step [1,2,6] (by kernel_rfl) rfl ?_;refine bL.cons rfl ?_ ?_
   ·refine lo co ?_;exact av s3 [0,1] ⟨rfl,rfl,rfl,trivial⟩
   refine bL.cons rfl ?_ ?_
   ·refine fl dH ?_;exact av s5 [0,1] ⟨rfl,rfl,rfl,rfl,trivial⟩
   refine bL.cons rfl ?_ ?_
   ·refine aE rfl rfl rfl (aZ rfl j9 lQ) trivial fun b6=>?_;exact av (s65 b6) [1,2,0] ⟨rfl,rfl,rfl,rfl,trivial⟩
   exact trivial
  have s4:J 7 [false,false,true,false,false,false,false,false] [(1,Pt b1),(2,Pt b2),(7,.eq (.pointer (some ⟨b1,2,none⟩)))] [.obj b1 27 (.rep aw a0),.obj b2 27 (.agg (.pair (I 0) (.pair (.eq (.slice none 0 0)) (.eq (.slice none 0 0)))))]:=by
   subst hJ;refine JD.step [0,3,6] (by kernel_rfl) rfl ?_;refine bL.cons rfl ?_ ?_
   ·refine fl cD ?_;exact av s5 [0,1] ⟨rfl,rfl,rfl,rfl,trivial⟩
   refine bL.cons rfl ?_ ?_
   ·refine lo cg ?_;exact av s12 [0,1] ⟨rfl,rfl,rfl,trivial⟩
   refine bL.cons rfl ?_ ?_
   ·refine aE rfl rfl rfl (aZ rfl j9 lQ) trivial fun b6=>?_;exact av (s68 b6) [1,2,0] ⟨rfl,rfl,rfl,rfl,trivial⟩
   exact trivial
  have s64:∀(b6:Nat),J 7 [false,false,false,false,false,false,true,false] [(1,Pt b1),(2,Pt b2),(3,Pt b6)] [.obj b1 27 (.rep aw a0),.obj b2 27 (.agg (.pair (I 0) (.pair (.eq (.slice none 0 0)) (.eq (.slice none 0 0))))),.obj b6 27 (.agg (.pair (I 0) (.pair (.eq (.slice none 0 0)) (.eq (.slice none 0 0)))))]:=fun b6=>by
   subst hJ;refine JD.step [0,2] (by kernel_rfl) rfl ?_;refine bL.cons rfl ?_ ?_
   ·refine fl cD ?_;exact av (s65 b6) [0,1,2] ⟨rfl,rfl,rfl,rfl,trivial⟩
   refine bL.cons rfl ?_ ?_
   ·refine fl dH ?_;exact av (s68 b6) [0,1,2] ⟨rfl,rfl,rfl,rfl,trivial⟩
   exact trivial
  have s0:J 8 [false,false,false,false,false,false,false,false] [(1,Pt b1),(2,Pt b2)] [.obj b2 27 (.agg (.pair (I 0) (.pair (.eq (.slice none 0 0)) (.eq (.slice none 0 0))))),.obj b1 27 (.rep aw a0)]:=by
   subst hJ;refine JD.step [0,2,6] (by kernel_rfl) rfl ?_;refine bL.cons rfl ?_ ?_
   ·refine fl cD ?_;exact av s1 [1,0] ⟨rfl,rfl,rfl,trivial⟩
   refine bL.cons rfl ?_ ?_
   ·refine fl dH ?_;exact av s4 [1,0] ⟨rfl,rfl,rfl,trivial⟩
   refine bL.cons rfl ?_ ?_
   ·refine aE rfl rfl rfl (aZ rfl j9 lQ) trivial fun b6=>?_;exact av (s64 b6) [2,1,0] ⟨rfl,rfl,rfl,trivial⟩
   exact trivial
  exact s0
 rintro⟨v4,b6⟩
 show JN _ _ [(1,Pt b1),(2,Pt b2),(3,Pt b6)] [.obj b1 27 (.rep aw a0),.obj b2 27 (.agg (.pair (I 0) (.pair (.eq (.slice none 0 0)) (.eq (.slice none 0 0))))),.sl v4 3 (.int .i64) r3,.obj b6 27 (.agg (.pair (I a0.1) (.pair (.eq (.slice none 0 0)) (.eq v4))))]
 refine tn ?_
 refine aX (Z:=Value) (α:=(List cR)) (fun z8 x7=>[(2,Pt b2),(3,Pt b6)]) (fun z8 x7=>[.obj b2 27 (.agg (.pair (I 0) (.pair (.eq (.slice none 0 0)) (.eq (.slice none 0 0))))),.obj b6 27 (.agg (.pair (I a0.1) (.pair (.eq z8) (.eq v4)))),.sl z8 35 aG x7,.sl v4 3 (.int .i64) r3]) h (fun K h=>?_) (fun z8 x7 h=>?_)
 ·
  refine sr (cq (nt (an ?_)));refine eG (SE.nil 35 aG) ?_;refine aN (fun e y9=>[(1,Pt b1),(2,Pt b2),(3,Pt b6),(4,I y9.2)]) (fun e y9=>[.obj b1 27 (.rep aw a0),.obj b2 27 (.agg (.pair (I 0) (.pair (.eq (.slice none 0 0)) (.eq (.slice none 0 0))))),.obj b6 27 (.agg (.pair (I a0.1) (.pair (.eq e) (.eq v4)))),.sl e 35 aG y9.1,.sl v4 3 (.int .i64) r3]) (fq k a0) k (.slice none 0 0) (([]:(List cR)),0) (fun _=>rfl) h (SE.fin [1,2,4,0,3] ⟨rfl,rfl,rfl,rfl,trivial⟩ rfl) (fun n e y9 h=>?_);unfold fq at h;refine ah (sr (mq ?_));refine fl cC ?_;refine lo ic ?_;refine ol nY ?_;refine jb (bG rfl) ?_;refine nt (ci h (fun h=>?_) (fun h=>?_))
  ·refine sk (ah (an (cz ?_)));refine da (ax rfl cC) ?_;refine ea 2 (ak rfl ic kU rfl) ?_;refine da (ax rfl cC) ?_;refine ea 0 (ak rfl ic kU rfl) ?_;refine dm ?_;obtain⟨l,x,h⟩:=aa h;refine db (aM (t:=aG) rfl nY jH x) ?_;refine da (aI 1 false rfl ny rfl) ?_;refine da (ap (t:=(.int .i64)) rfl co rfl) ?_;refine da (ax rfl cC) ?_;refine ea 0 (ak rfl ic kU rfl) ?_;refine dm ?_;obtain⟨F,u,h⟩:=aa h;refine db (aM (t:=aG) rfl nY jH u) ?_;refine da (aI 1 false rfl jh rfl) ?_;refine da (ap (t:=(.slice (.int .i64))) rfl cg rfl) ?_;obtain⟨j,D,h⟩:=aa h;refine da (KL (ao [.tmp 31] rfl rfl BI rfl (eB k F.2 j D))) ?_;refine db (c6 [(0,.tmp 25,_),(1,.tmp 32,_)] rfl D3 vv wY (iH ⟨rfl,rfl,trivial⟩) rfl) ?_;refine da (bC (t:=aG) [(.tmp 33,_)] [(l.1,j)] rfl rfl FN (.cons trivial (.agg (.pair .int .rep)) .nil) rfl rfl) ?_;refine df dI ?_;obtain⟨O,y,h⟩:=aa h;refine fr 3 ?_;refine eC rfl rfl rfl (bZ rfl rfl FN (aH y)) ⟨rfl,rfl,trivial⟩ fun M=>?_;refine fl cC ?_;refine qK fun o16=>?_;refine fr 3 ?_;refine aY rfl rfl (aR rfl ic o16 rfl rfl) ⟨rfl,rfl,trivial⟩ ?_;refine ar (aP (tn (ab (mq ?_))));obtain⟨E,s,h⟩:=aa h;refine jb (bm rfl s) ?_;refine aq (nl ?_);exact jz (M,(y9.1++[(l.1,j)],E)) h [2,3,0,1,4]
  ·refine xa ?_;exact jz (e,y9.1) h [1,2,3,4]
 ·
  refine sr (fr 1 ?_);refine lo fJ ?_;refine fr 1 ?_;refine aY rfl rfl (aR rfl fJ trivial rfl rfl) ⟨rfl,rfl,trivial⟩ ?_;refine nt (aC (bF (SE.fin (Γ':=[(2,_)]) [2,3,0,1] ⟨rfl,trivial⟩ rfl) ?_));cases h;exact aL (z8,v4) [.agg (.pair (I a0.1) (.pair (.eq z8) (.eq v4)))] 2 ⟨⟨_,_,_,_,_,rfl,(.tail _ (.tail _ (.head _))),fJ,(vL),rfl⟩,trivial⟩ rfl
end Go.Proofs.YtmeojbemjkmebaaGreatDoor
