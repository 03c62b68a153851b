import Derived.Test.YtmeojbemjkmebaaGreatDoorRFFacts
import Derived.Test.YtmeojbemjkmebaaGreatDoorRFB6
set_option linter.unusedSimpArgs false
set_option linter.unusedVariables false
set_option maxRecDepth 4000
set_option maxHeartbeats 1000000
namespace Go.Proofs.YtmeojbemjkmebaaGreatDoor
open K Go Go.Proofs
def mH(k:Nat)(a0:(List Int)):Option bR:=
 some (a0,0,1)
theorem dV(k:Nat)(a0:(List Int))(r:bR)(h:mH k a0=some r):
 cm Tryz.prog 7 [Ri a0] [] (fun z:Nat=>(bz [Pt z],[.obj z 66 (.agg (.pair (Ri r.1) (.pair (I r.2.1) (.eq (.int .u64 r.2.2)))))])):=by
 unfold mH at h
 replace h:=be h
 refine cm.of 6 Tryz.func7 rfl Tryz.ntmps7 rfl fun S w0=>?_
 refine sr ?_
 refine cq ?_
 refine nt ?_
 refine sr ?_
 refine mq ?_
 refine jb (cR [(0,.tmp 3,_),(2,.const (.int .u64 (1)),_)] rfl Rm Q4 Qp (iw ⟨rfl,rfl,trivial⟩) rfl) ?_
 refine aD rfl rfl rfl (oC rfl trivial) ⟨rfl,trivial⟩ fun b1=>?_
 refine aq ?_
 refine nt ?_
 refine aB ?_
 cases h
 exact aN b1 [Pt b1] 1 ⟨rfl,trivial⟩ rfl
def jd(k:Nat)(a0:bR):Option (Int×bR):=
 ((if a0.2.1 < (a0.1.length:Int) then((aX a0.1 a0.2.1).bind fun x3=>
 some (IntKind.u64.wrap ((IntKind.u64.wrap ((IntKind.u64.wrap (a0.2.2 * 6364136223846793005))+1442695040888963407))+(IntKind.u64.wrap ((IntKind.u64.wrap x3) * 2862933555777941757))))) else(some (IntKind.u64.wrap ((IntKind.u64.wrap (a0.2.2 * 6364136223846793005))+1442695040888963407)))):Option (Int)).bind fun x1=>
 (ck (a0.2.1+1)).bind fun x4=>
 some (ik .u64 (qZ .u64 (IntKind.u64.wrap ((qZ .u64 x1 (ik .u64 x1 29)) * 2685821657736338717)) (ik .u64 (IntKind.u64.wrap ((qZ .u64 x1 (ik .u64 x1 29)) * 2685821657736338717)) 32)) 8,(a0.1,x4,x1))
theorem tA(k:Nat)(a0:bR)(c:Nat)(r:Int×bR)(h:jd k a0=some r):
 cm Tryz.prog 79 [Pt c] [.obj c 66 (.agg (.pair (Ri a0.1) (.pair (I a0.2.1) (.eq (.int .u64 a0.2.2)))))] (fun _:Unit=>(bz [.eq (.int .u64 r.1)],[.obj c 66 (.agg (.pair (Ri r.2.1) (.pair (I r.2.2.1) (.eq (.int .u64 r.2.2.2)))))])):=by
 unfold jd at h
 replace h:=be h
 refine cm.of 67 Tryz.func79 rfl Tryz.ntmps79 rfl fun S w0=>?_
 refine sr ?_
 refine cq ?_
 refine nt ?_
 refine sr ?_
 iterate 2 refine mq ?_
 refine ja (ba rfl) ?_
 refine fl tC ?_
 refine lo Ed ?_
 refine jb (BD rfl) ?_
 refine jb (BF rfl) ?_
 refine ja (ba rfl) ?_
 refine fl tC ?_
 refine bj rfl rfl (bm rfl Ed rfl rfl rfl) ⟨rfl,rfl,trivial⟩ ?_
 refine nt ?_
 refine aS (Z:=Unit) (α:=Int) (fun z2 x1=>[(0,Pt c)]) (fun z2 x1=>[.obj c 66 (.agg (.pair (Ri a0.1) (.pair (I a0.2.1) (.eq (.int .u64 x1)))))]) h (fun K h=>?_) (fun z2 x1 h=>?_)
 ·
  refine ae (bK ?_);refine dm ?_;refine da (ba rfl) ?_;refine da (aA rfl yn) ?_;refine ea 0 (ap rfl cH lg rfl) ?_;refine dm ?_;refine da (ba rfl) ?_;refine da (aA rfl HU) ?_;refine ea 0 (ap rfl bI lg rfl) ?_;refine da (kd rfl rfl dQ) ?_;refine df cY ?_;refine jb (bv rfl) ?_;refine nt (ci h (fun h=>?_) (fun h=>?_))
  ·refine bK ?_;refine dm ?_;refine dm ?_;refine da (ba rfl) ?_;refine da (aA rfl tC) ?_;refine ea 0 (ap rfl Ed lg rfl) ?_;refine dm ?_;refine da (ba rfl) ?_;refine da (aA rfl HU) ?_;refine ea 0 (ap rfl bI lg rfl) ?_;refine dm ?_;refine da (ba rfl) ?_;refine da (aA rfl yn) ?_;refine ea 0 (ap rfl cH lg rfl) ?_;obtain⟨x3,j,h⟩:=aa h;refine db (aI (t:=(.int .i64)) rfl dQ cH j) ?_;refine da (ao (t:=(.int .i64)) rfl cH rfl) ?_;refine da (oW rfl U3 QW) ?_;refine db (BD rfl) ?_;refine db (BF rfl) ?_;refine df cY ?_;refine ja (ba rfl) ?_;refine fl tC ?_;refine bj rfl rfl (bm rfl Ed rfl rfl rfl) ⟨rfl,rfl,trivial⟩ ?_;refine nl ?_;exact jz ((),IntKind.u64.wrap ((IntKind.u64.wrap ((IntKind.u64.wrap (a0.2.2 * 6364136223846793005))+1442695040888963407))+(IntKind.u64.wrap ((IntKind.u64.wrap x3) * 2862933555777941757)))) h [0]
  ·refine aY (ag ?_);exact jz ((),IntKind.u64.wrap ((IntKind.u64.wrap (a0.2.2 * 6364136223846793005))+1442695040888963407)) h [0]
 ·
  refine sr (mq ?_);refine ja (ba rfl) ?_;refine fl yn ?_;refine lo cH ?_;obtain⟨x4,e,h⟩:=aa h;refine jb (bf rfl e) ?_;refine ja (ba rfl) ?_;refine fl yn ?_;refine bj rfl rfl (bm rfl cH rfl rfl rfl) ⟨rfl,rfl,trivial⟩ ?_;refine nt (ae (bK ?_));refine dm ?_;refine da (ba rfl) ?_;refine da (aA rfl tC) ?_;refine ea 0 (ap rfl Ed lg rfl) ?_;refine dm ?_;refine da (ba rfl) ?_;refine da (aA rfl tC) ?_;refine ea 0 (ap rfl Ed lg rfl) ?_;refine dA rfl rfl rfl (vo rfl (by decide)) ⟨rfl,rfl,trivial⟩ ?_;refine df cY ?_;refine jb (Ln rfl) ?_;refine aq (nt (sr ?_));refine mq ?_;refine jb (BD rfl) ?_;refine aq (nt (sr ?_));iterate 2 refine mq ?_
  refine aF rfl (vo rfl (by decide)) ⟨rfl,rfl,trivial⟩ ?_;refine jb (Ln rfl) ?_;refine aF rfl (vo rfl (by decide)) ⟨rfl,rfl,trivial⟩ ?_;refine aq (nt (aB ?_));cases h;exact aN () [_] 1 ⟨rfl,trivial⟩ rfl
def dP(k:Nat)(a0:bR)(a1:Int):Option (Int×bR):=
 if a1 < 1 then(some (0,(a0.1,a0.2.1,a0.2.2))) else((jd k (a0.1,a0.2.1,a0.2.2)).bind fun r1=>
 (ck (a1+1)).bind fun x2=>
 (cp ((IntKind.u64.wrap x2)≠0)).bind fun _=>
 (ck (Int.tmod r1.1 (IntKind.u64.wrap x2))).bind fun x4=>
 some (x4,(r1.2.1,r1.2.2.1,r1.2.2.2)))
theorem gl(k:Nat)(a0:bR)(c:Nat)(a1:Int)(r:Int×bR)(h:dP k a0 a1=some r):
 cm Tryz.prog 40 [Pt c,I a1] [.obj c 66 (.agg (.pair (Ri a0.1) (.pair (I a0.2.1) (.eq (.int .u64 a0.2.2)))))] (fun _:Unit=>(bz [I r.1],[.obj c 66 (.agg (.pair (Ri r.2.1) (.pair (I r.2.2.1) (.eq (.int .u64 r.2.2.2)))))])):=by
 unfold dP at h
 replace h:=be h
 refine cm.of 14 Tryz.func40 rfl Tryz.ntmps40 rfl fun S w0=>?_
 refine sr ?_
 refine cq ?_
 refine nt ?_
 refine ae ?_
 refine sr ?_
 refine mq ?_
 refine jb (bv rfl) ?_
 refine nt ?_
 refine ci h (fun h=>?_) (fun h=>?_)
 ·
  refine sr (cq (nt (rx ?_)));cases h;exact aN () [_] 1 ⟨rfl,trivial⟩ rfl
 ·
  refine sk (sr (mq ?_));obtain⟨r1,n,h⟩:=aa h;refine ka (ar [.tmp 7] rfl rfl RY rfl (tA k (a0.1,a0.2.1,a0.2.2) c r1 n)) ?_;refine mq ?_;obtain⟨x2,j,h⟩:=aa h;refine jb (bf rfl j) ?_;refine ja (oW rfl U3 QW) ?_;obtain⟨u3,l,h⟩:=aa h;refine jb (GK rfl (av l)) ?_;obtain⟨x4,e,h⟩:=aa h;refine ja (rX rfl QW U3 e) ?_;refine aq (nt (aB ?_));cases h;exact aN () [_] 1 ⟨rfl,trivial⟩ rfl
def eT(k:Nat)(a0:bR)(a1:Int)(a2:Int):Option (Int×bR):=
 (ck (a2 - a1)).bind fun x1=>
 (dP k (a0.1,a0.2.1,a0.2.2) x1).bind fun r2=>
 (ck (a1+r2.1)).bind fun x3=>
 some (x3,(r2.2.1,r2.2.2.1,r2.2.2.2))
theorem ma(k:Nat)(a0:bR)(c:Nat)(a1:Int)(a2:Int)(r:Int×bR)(h:eT k a0 a1 a2=some r):
 cm Tryz.prog 10 [Pt c,I a1,I a2] [.obj c 66 (.agg (.pair (Ri a0.1) (.pair (I a0.2.1) (.eq (.int .u64 a0.2.2)))))] (fun _:Unit=>(bz [I r.1],[.obj c 66 (.agg (.pair (Ri r.2.1) (.pair (I r.2.2.1) (.eq (.int .u64 r.2.2.2)))))])):=by
 unfold eT at h
 replace h:=be h
 refine cm.of 14 Tryz.func10 rfl Tryz.ntmps10 rfl fun S w0=>?_
 refine sr ?_
 refine cq ?_
 refine nt ?_
 refine sr ?_
 iterate 4 refine mq ?_
 obtain⟨x1,j,h⟩:=aa h
 refine jb (eO rfl j) ?_
 obtain⟨r2,l,h⟩:=aa h
 have n:=gl k (a0.1,a0.2.1,a0.2.2) c x1 r2 l
 refine kb (ar [.tmp 8,.tmp 11] rfl rfl H5 rfl n) ?_
 obtain⟨x3,e,h⟩:=aa h
 refine jb (bf rfl e) ?_
 refine aq ?_
 refine nt ?_
 refine aB ?_
 cases h
 exact aN () [_] 1 ⟨rfl,trivial⟩ rfl
def jD(k:Nat)(a0:bR)(a1:(List Int)):Option (Int×bR):=
 (ck ((a1.length:Int) - 1)).bind fun x1=>
 (dP k (a0.1,a0.2.1,a0.2.2) x1).bind fun r2=>
 (aX a1 r2.1).bind fun x3=>
 some (x3,(r2.2.1,r2.2.2.1,r2.2.2.2))
theorem pi(k:Nat)(a0:bR)(c:Nat)(a1:(List Int))(r:Int×bR)(h:jD k a0 a1=some r):
 cm Tryz.prog 65 [Pt c,Ri a1] [.obj c 66 (.agg (.pair (Ri a0.1) (.pair (I a0.2.1) (.eq (.int .u64 a0.2.2)))))] (fun _:Unit=>(bz [I r.1],[.obj c 66 (.agg (.pair (Ri r.2.1) (.pair (I r.2.2.1) (.eq (.int .u64 r.2.2.2)))))])):=by
 unfold jD at h
 replace h:=be h
 refine cm.of 13 Tryz.func65 rfl Tryz.ntmps65 rfl fun S w0=>?_
 refine sr ?_
 refine cq ?_
 refine nt ?_
 refine sr ?_
 iterate 3 refine mq ?_
 refine ol dQ ?_
 obtain⟨x1,j,h⟩:=aa h
 refine jb (eO rfl j) ?_
 obtain⟨r2,l,h⟩:=aa h
 have n:=gl k (a0.1,a0.2.1,a0.2.2) c x1 r2 l
 refine kb (ar [.tmp 6,.tmp 9] rfl rfl H5 rfl n) ?_
 obtain⟨x3,e,h⟩:=aa h
 refine jb (aI (t:=(.int .i64)) rfl dQ cH e) ?_
 refine ja (ao (t:=(.int .i64)) rfl cH rfl) ?_
 refine aq ?_
 refine nt ?_
 refine aB ?_
 cases h
 exact aN () [_] 1 ⟨rfl,trivial⟩ rfl
def fY(k:Nat)(a0:bR)(a1:Int):Option (Bool×bR):=
 (ck (a1 - 1)).bind fun x1=>
 (dP k (a0.1,a0.2.1,a0.2.2) x1).bind fun r2=>
 some (decide (r2.1=0),(r2.2.1,r2.2.2.1,r2.2.2.2))
theorem nw(k:Nat)(a0:bR)(c:Nat)(a1:Int)(r:Bool×bR)(h:fY k a0 a1=some r):
 cm Tryz.prog 66 [Pt c,I a1] [.obj c 66 (.agg (.pair (Ri a0.1) (.pair (I a0.2.1) (.eq (.int .u64 a0.2.2)))))] (fun _:Unit=>(bz [.eq (.bool r.1)],[.obj c 66 (.agg (.pair (Ri r.2.1) (.pair (I r.2.2.1) (.eq (.int .u64 r.2.2.2)))))])):=by
 unfold fY at h
 replace h:=be h
 refine cm.of 10 Tryz.func66 rfl Tryz.ntmps66 rfl fun S w0=>?_
 refine sr ?_
 refine cq ?_
 refine nt ?_
 refine sr ?_
 iterate 2 refine mq ?_
 obtain⟨x1,e,h⟩:=aa h
 refine jb (eO rfl e) ?_
 obtain⟨r2,j,h⟩:=aa h
 have l:=gl k (a0.1,a0.2.1,a0.2.2) c x1 r2 j
 refine kb (ar [.tmp 5,.tmp 7] rfl rfl H5 rfl l) ?_
 refine jb (eh rfl) ?_
 refine aq ?_
 refine nt ?_
 refine aB ?_
 cases h
 exact aN () [_] 1 ⟨rfl,trivial⟩ rfl
def eQ(k:Nat)(r2:Int×bR):Nat→((List Int)×Int×Int×(List Int)×Int)→Option ((List Int)×Int×Int×(List Int))
 |0,_=>none
 |n+1,c=>
  if c.2.2.2.2 < r2.1 then((((fY k (c.1,c.2.1,c.2.2.1) 2).bind fun e=>
  if e.1=true then((cp (bO (List.length c.2.2.2.1+List.length [c.2.2.2.2]))).bind fun _=>
  some (e.2.1,e.2.2.1,e.2.2.2,c.2.2.2.1++[c.2.2.2.2])) else(some (e.2.1,e.2.2.1,e.2.2.2,c.2.2.2.1))):Option ((List Int)×Int×Int×(List Int))).bind fun h=>
  (ck (c.2.2.2.2+1)).bind fun j=>
  eQ k r2 n (h.1,h.2.1,h.2.2.1,h.2.2.2,j)) else(some (c.1,c.2.1,c.2.2.1,c.2.2.2.1))
def eR(k:Nat)(r2:Int×bR):Nat→((List Int)×Int×Int×(List gu)×Int×Int)→Option ((List Int)×Int×Int×(List gu)×Int)
 |0,_=>none
 |n+1,y7=>
  if 0 < y7.2.2.2.2.2 then((((jD k (y7.1,y7.2.1,y7.2.2.1) [1,1,1,2,3]).bind fun c=>
  ((eQ k r2 k (c.2.1,c.2.2.1,c.2.2.2,([]:(List Int)),0)):Option ((List Int)×Int×Int×(List Int))).bind fun e=>
  (cp (bO (List.length y7.2.2.2.1+List.length [(c.1,e.2.2.2)]))).bind fun _=>
  (ck (y7.2.2.2.2.1+c.1)).bind fun j=>
  some (e.1,e.2.1,e.2.2.1,y7.2.2.2.1++[(c.1,e.2.2.2)],j)):Option ((List Int)×Int×Int×(List gu)×Int)).bind fun x9=>
  (ck (y7.2.2.2.2.2 - 1)).bind fun h=>
  eR k r2 n (x9.1,x9.2.1,x9.2.2.1,x9.2.2.2.1,x9.2.2.2.2,h)) else(some (y7.1,y7.2.1,y7.2.2.1,y7.2.2.2.1,y7.2.2.2.2.1))
def eP(k:Nat)(x4:(List Int)×Int×Int×(List gu)×Int):Nat→((List Int)×Int×Int×(List Int)×Int)→Option ((List Int)×Int×Int×(List Int))
 |0,_=>none
 |n+1,c=>
  if 0 < c.2.2.2.2 then((ck (x4.2.2.2.2+1)).bind fun j=>
  (jD k (c.1,c.2.1,c.2.2.1) [1,2,3,jX 9 x4.2.2.2.2,jX 9 j]).bind fun e=>
  (cp (bO (List.length c.2.2.2.1+List.length [e.1]))).bind fun _=>
  (ck (c.2.2.2.2 - 1)).bind fun h=>
  eP k x4 n (e.2.1,e.2.2.1,e.2.2.2,c.2.2.2.1++[e.1],h)) else(some (c.1,c.2.1,c.2.2.1,c.2.2.2.1))
def kw(k:Nat)(a0:bR)(a1:Int)(a2:Int):Option (a8×bR):=
 (eT k (a0.1,a0.2.1,a0.2.2) 1 4).bind fun r2=>
 (((eT k (r2.2.1,r2.2.2.1,r2.2.2.2) 0 a1).bind fun r6=>
 eR k r2 k (r6.2.1,r6.2.2.1,r6.2.2.2,([]:(List gu)),0,r6.1)):Option ((List Int)×Int×Int×(List gu)×Int)).bind fun x4=>
 (((eT k (x4.1,x4.2.1,x4.2.2.1) 1 a2).bind fun j=>
 eP k x4 k (j.2.1,j.2.2.1,j.2.2.2,([]:(List Int)),j.1)):Option ((List Int)×Int×Int×(List Int))).bind fun e=>
 (((fY k (e.1,e.2.1,e.2.2.1) 2).bind fun c=>
 if c.1=true then((aX e.2.2.2 0).bind fun l=>
 some (List.set e.2.2.2 (Int.toNat 0) (jX 9 x4.2.2.2.2),c.2.1,c.2.2.1,c.2.2.2)) else(some (e.2.2.2,c.2.1,c.2.2.1,c.2.2.2))):Option ((List Int)×(List Int)×Int×Int)).bind fun h=>
 some ((r2.1,x4.2.2.2.1,h.1),(h.2.1,h.2.2.1,h.2.2.2))
theorem wx(k:Nat)(a0:bR)(c:Nat)(a1:Int)(a2:Int)(r:a8×bR)(h:kw k a0 a1 a2=some r):
 cm Tryz.prog 31 [Pt c,I a1,I a2] [.obj c 66 (.agg (.pair (Ri a0.1) (.pair (I a0.2.1) (.eq (.int .u64 a0.2.2)))))] (fun _:Unit=>(bz [.rep aj r.1],[.obj c 66 (.agg (.pair (Ri r.2.1) (.pair (I r.2.2.1) (.eq (.int .u64 r.2.2.2)))))])):=by
 unfold kw at h
 replace h:=be h
 refine cm.of 79 Tryz.func31 rfl Tryz.ntmps31 rfl fun S w0=>?_
 refine sr ?_
 refine aD rfl rfl rfl (bg rfl lJ oh) trivial fun b1=>?_
 refine nt ?_
 refine sr ?_
 refine mq ?_
 obtain⟨r2,UB,h⟩:=aa h
 have UC:=ma k (a0.1,a0.2.1,a0.2.2) c 1 4 r2 UB
 refine fr 1 ?_
 refine kc (ar [.tmp 13,.const (.int .i64 (1)),.const (.int .i64 (4))] rfl rfl Nu rfl UC) ?_
 refine ja (cR [(0,.tmp 14,_)] rfl Ji lJ Dx (iw ⟨rfl,trivial⟩) rfl) ?_
 refine aD rfl rfl rfl (bg rfl lJ oh) trivial fun b3=>?_
 refine bj rfl rfl (bm rfl dy trivial rfl rfl) ⟨rfl,rfl,trivial⟩ ?_
 refine nt ?_
 refine sr ?_
 refine cq ?_
 refine nt ?_
 refine aS (Z:=Value) (α:=(List Int)×Int×Int×(List gu)×Int) (fun z5 x4=>[(0,Pt c),(2,I a2),(6,Pt b1),(7,Pt b3),(8,I x4.2.2.2.2)]) (fun z5 x4=>[.obj c 66 (.agg (.pair (Ri x4.1) (.pair (I x4.2.1) (.eq (.int .u64 x4.2.2.1))))),.obj b1 27 (.agg (.pair (I 0) (.pair (.eq (.slice none 0 0)) (.eq (.slice none 0 0))))),.obj b3 27 (.agg (.pair (I r2.1) (.pair (.eq z5) (.eq (.slice none 0 0))))),.sl z5 35 aG x4.2.2.2.1]) h (fun K h=>?_) (fun z5 x4 h=>?_)
 ·
  refine sr ?_;iterate 2 refine mq ?_
  obtain⟨r6,UA,h⟩:=aa h;refine fr 1 ?_;refine kc (ar [.tmp 16,.const (.int .i64 (0)),.tmp 17] rfl rfl Nu rfl (ma k (r2.2.1,r2.2.2.1,r2.2.2.2) c 0 a1 r6 UA)) ?_;refine aq (nt (an ?_));refine eA (SE.nil 35 aG) ?_;refine aJ (fun z8 y7=>[(0,Pt c),(2,I a2),(6,Pt b1),(7,Pt b3),(8,I y7.2.2.2.2.1),(9,I y7.2.2.2.2.2)]) (fun z8 y7=>[.obj c 66 (.agg (.pair (Ri y7.1) (.pair (I y7.2.1) (.eq (.int .u64 y7.2.2.1))))),.obj b1 27 (.agg (.pair (I 0) (.pair (.eq (.slice none 0 0)) (.eq (.slice none 0 0))))),.obj b3 27 (.agg (.pair (I r2.1) (.pair (.eq z8) (.eq (.slice none 0 0))))),.sl z8 35 aG y7.2.2.2.1]) (eR k r2) k (.slice none 0 0) (r6.2.1,r6.2.2.1,r6.2.2.2,([]:(List gu)),0,r6.1) (fun _=>rfl) h (SE.fin [1,3,2,0] ⟨rfl,rfl,rfl,rfl,rfl,rfl,trivial⟩ rfl) (fun n z8 y7 h=>?_);unfold eR at h;refine ae (sr (mq ?_));refine jb (f5 rfl) ?_;refine nt (ci h (fun h=>?_) (fun h=>?_))
  ·refine sk (aS (Z:=Value) (α:=(List Int)×Int×Int×(List gu)×Int) (fun X x9=>[(0,Pt c),(2,I a2),(6,Pt b1),(7,Pt b3),(8,I x9.2.2.2.2),(9,I y7.2.2.2.2.2)]) (fun X x9=>[.obj c 66 (.agg (.pair (Ri x9.1) (.pair (I x9.2.1) (.eq (.int .u64 x9.2.2.1))))),.obj b1 27 (.agg (.pair (I 0) (.pair (.eq (.slice none 0 0)) (.eq (.slice none 0 0))))),.obj b3 27 (.agg (.pair (I r2.1) (.pair (.eq X) (.eq (.slice none 0 0))))),.sl X 35 aG x9.2.2.2.1]) h (fun K h=>?_) (fun X x9 h=>?_))
   ·refine an (sr (mq ?_));refine aF rfl (bi (t:=(.int .i64)) [(.const (.int .i64 (1)),_),(.const (.int .i64 (1)),_),(.const (.int .i64 (1)),_),(.const (.int .i64 (2)),_),(.const (.int .i64 (3)),_)] [1,1,1,2,3] rfl rfl dS (.cons rfl .int (.cons rfl .int (.cons rfl .int (.cons rfl .int (.cons rfl .int .nil))))) rfl rfl) ⟨rfl,rfl,rfl,rfl,rfl,trivial⟩ ?_;obtain⟨s,Ui,h⟩:=aa h;refine kb (ar [.tmp 23,.tmp 24] rfl rfl P0 rfl (pi k (y7.1,y7.2.1,y7.2.2.1) c [1,1,1,2,3] s Ui)) ?_;refine ja (cR [(0,.tmp 25,_)] rfl Bw uE vO (iw ⟨rfl,trivial⟩) rfl) ?_;refine aD rfl rfl rfl (bg rfl uE KN) trivial fun M=>?_;refine bj rfl rfl (bm rfl iY trivial rfl rfl) ⟨rfl,rfl,trivial⟩ ?_;refine nt (aS (Z:=Value) (α:=(List Int)×Int×Int×(List Int)) (fun ac j=>[(0,Pt c),(2,I a2),(6,Pt b1),(7,Pt b3),(8,I y7.2.2.2.2.1),(9,I y7.2.2.2.2.2),(10,Pt M)]) (fun ac j=>[.obj c 66 (.agg (.pair (Ri j.1) (.pair (I j.2.1) (.eq (.int .u64 j.2.2.1))))),.obj b1 27 (.agg (.pair (I 0) (.pair (.eq (.slice none 0 0)) (.eq (.slice none 0 0))))),.obj b3 27 (.agg (.pair (I r2.1) (.pair (.eq z8) (.eq (.slice none 0 0))))),.sl z8 35 aG y7.2.2.2.1,.obj M 35 (.agg (.pair (I s.1) (.eq ac))),.sl ac 3 (.int .i64) j.2.2.2]) h (fun K h=>?_) (fun ac j h=>?_))
    ·refine sr (cq (nt (an ?_)));refine eA (SE.nil 3 (.int .i64)) ?_;refine aJ (fun Q e=>[(0,Pt c),(2,I a2),(6,Pt b1),(7,Pt b3),(8,I y7.2.2.2.2.1),(9,I y7.2.2.2.2.2),(10,Pt M),(11,I e.2.2.2.2)]) (fun Q e=>[.obj c 66 (.agg (.pair (Ri e.1) (.pair (I e.2.1) (.eq (.int .u64 e.2.2.1))))),.obj b1 27 (.agg (.pair (I 0) (.pair (.eq (.slice none 0 0)) (.eq (.slice none 0 0))))),.obj b3 27 (.agg (.pair (I r2.1) (.pair (.eq z8) (.eq (.slice none 0 0))))),.sl z8 35 aG y7.2.2.2.1,.obj M 35 (.agg (.pair (I s.1) (.eq Q))),.sl Q 3 (.int .i64) e.2.2.2.1]) (eQ k r2) k (.slice none 0 0) (s.2.1,s.2.2.1,s.2.2.2,([]:(List Int)),0) (fun _=>rfl) h (SE.fin [2,3,4,5,1,0] ⟨rfl,rfl,rfl,rfl,rfl,rfl,rfl,rfl,trivial⟩ rfl) (fun n Q e h=>?_);unfold eQ at h;refine ae (sr (mq ?_));refine fl iH ?_;refine fr 2 ?_;refine lo cH ?_;refine jb (bv rfl) ?_;refine nt (ci h (fun h=>?_) (fun h=>?_))
     ·refine sk (aS (Z:=Value) (α:=(List Int)×Int×Int×(List Int)) (fun U x=>[(0,Pt c),(2,I a2),(6,Pt b1),(7,Pt b3),(8,I y7.2.2.2.2.1),(9,I y7.2.2.2.2.2),(10,Pt M),(11,I e.2.2.2.2)]) (fun U x=>[.obj c 66 (.agg (.pair (Ri x.1) (.pair (I x.2.1) (.eq (.int .u64 x.2.2.1))))),.obj b1 27 (.agg (.pair (I 0) (.pair (.eq (.slice none 0 0)) (.eq (.slice none 0 0))))),.obj b3 27 (.agg (.pair (I r2.1) (.pair (.eq z8) (.eq (.slice none 0 0))))),.sl z8 35 aG y7.2.2.2.1,.obj M 35 (.agg (.pair (I s.1) (.eq U))),.sl U 3 (.int .i64) x.2.2.2]) h (fun K h=>?_) (fun U x h=>?_))
      ·refine an (sr (mq ?_));obtain⟨J,Uh,h⟩:=aa h;refine fr 1 ?_;refine kb (ar [.tmp 33,.const (.int .i64 (2))] rfl rfl PZ rfl (nw k (e.1,e.2.1,e.2.2.1) c 2 J Uh)) ?_;refine nt (cv h (fun h=>?_) (fun h=>?_))
       ·refine ab (fl mU ?_);refine fr 4 ?_;refine lo bI ?_;refine mq ?_;refine ja (bi (t:=(.int .i64)) [(.tmp 37,_)] [e.2.2.2.2] rfl rfl dS (.cons rfl .int .nil) rfl rfl) ?_;obtain⟨UQ,Ud,h⟩:=aa h;refine fr 5 ?_;refine dz rfl rfl rfl (bQ rfl rfl dS (av Ud)) ⟨rfl,rfl,trivial⟩ fun Uo=>?_;refine fl mU ?_;refine oq fun o22=>?_;refine fr 1 ?_;refine bj rfl rfl (bm rfl bI o22 rfl rfl) ⟨rfl,rfl,trivial⟩ ?_;refine au (bn ?_);exact jz (Uo,(J.2.1,J.2.2.1,J.2.2.2,e.2.2.2.1++[e.2.2.2.2])) h [2,4,3,5,0,1]
       ·refine aY (bn ?_);exact jz (Q,(J.2.1,J.2.2.1,J.2.2.2,e.2.2.2.1)) h [0,2,1,3,4,5]
      ·refine ab (mq ?_);obtain⟨Um,Ua,h⟩:=aa h;refine jb (bf rfl Ua) ?_;refine aq (nl ?_);exact jz (U,(x.1,x.2.1,x.2.2.1,x.2.2.2,Um)) h [0,1,2,3,4,5]
     ·refine xa ?_;exact jz (Q,(e.1,e.2.1,e.2.2.1,e.2.2.2.1)) h [1,2,0,3,4,5]
    ·refine jh 4 rfl ?_;refine jh 5 rfl ?_;refine eA (mg (off:=1) [] trivial rfl rfl) ?_;refine j0 ?_;refine aH rfl rfl rfl (aA rfl cQ) ⟨rfl,trivial⟩ ?_;refine dh 3 rfl rfl rfl rfl (ap rfl iN lg rfl) ⟨rfl,trivial⟩ ?_;refine dh 0 rfl rfl rfl rfl (ap rfl iY (yM) rfl) ⟨rfl,trivial⟩ ?_;refine aH rfl rfl rfl (bi (t:=aG) [(.tmp 43,_)] [(s.1,j.2.2.2)] rfl rfl Bg (.cons trivial (.agg (.pair .int .rep)) .nil) rfl rfl) ⟨rfl,trivial⟩ ?_;obtain⟨UP,Uc,h⟩:=aa h;refine pG 4 rfl (fun v=>[.sl v 35 aG (y7.2.2.2.1++[(s.1,j.2.2.2)])]) (fun _=>rfl) rfl rfl rfl (bQ rfl rfl Bg (av Uc)) ⟨rfl,rfl,trivial⟩ ?_;refine aH rfl rfl rfl (aR rfl) ⟨rfl,trivial⟩ ?_;refine aH rfl rfl rfl (aA rfl mV) ⟨rfl,trivial⟩ ?_;refine dh 0 rfl rfl rfl rfl (ap rfl cH lg rfl) ⟨rfl,trivial⟩ ?_;obtain⟨Ul,T9,h⟩:=aa h;refine aH rfl rfl rfl (bf rfl T9) ⟨rfl,rfl,trivial⟩ ?_;refine aH rfl rfl rfl (aA rfl cQ) ⟨rfl,trivial⟩ ?_;refine m5 10 [true,true,true,true,true,false,false,false,false,true] [] [0] [.obj M 35 (.agg (.pair (I s.1) (Ri j.2.2.2)))] rfl (by kernel_rfl) (by kernel_rfl) (by kernel_rfl) cY (fun vs hv hB=>?_);obtain⟨w0,UN,rfl,Uz⟩:=ak hv;obtain⟨w1,UM,rfl,Uy⟩:=ak Uz;obtain⟨w2,UL,rfl,Ux⟩:=ak Uy;obtain⟨w3,UK,rfl,Uw⟩:=ak Ux;obtain⟨se,UJ,rfl,Uu⟩:=ak Uw;obtain⟨w5,UI,rfl,Ut⟩:=ak Uu;obtain⟨w6,UH,rfl,Us⟩:=ak Ut;obtain⟨w7,UG,rfl,Ur⟩:=ak Us;obtain⟨w8,UF,rfl,Up⟩:=ak Ur;obtain⟨w9,UD,rfl,TX⟩:=ak Up;obtain rfl:=kH TX;refine⟨[0,1,2,3,4],[.obj c 66 (.agg (.pair (Ri j.1) (.pair (I j.2.1) (.eq (.int .u64 j.2.2.1))))),.obj b1 27 (.agg (.pair (I 0) (.pair (.eq (.slice none 0 0)) (.eq (.slice none 0 0))))),.obj b3 27 (.agg (.pair (I r2.1) (.pair (.eq z8) (.eq (.slice none 0 0))))),.sl se 35 aG (y7.2.2.2.1++[(s.1,j.2.2.2)])],by kernel_rfl,by decide,?_⟩;refine iK 3 rfl ?_;refine yF fun o27=>?_;refine iK 3 rfl ?_;refine pC rfl rfl (bm rfl iN o27 rfl rfl) ⟨rfl,rfl,trivial⟩ (by kernel_rfl) ?_;refine CG (by kernel_rfl) ?_;refine aq (au (bn ?_));exact jz (se,(j.1,j.2.1,j.2.2.1,y7.2.2.2.1++[(s.1,j.2.2.2)],Ul)) h [3,4,1,2]
   ·refine ab (mq ?_);obtain⟨Uk,T8,h⟩:=aa h;refine jb (eO rfl T8) ?_;refine aq (nl ?_);exact jz (X,(x9.1,x9.2.1,x9.2.2.1,x9.2.2.2.1,x9.2.2.2.2,Uk)) h [0,1,2,3]
  ·refine xa ?_;exact jz (z8,(y7.1,y7.2.1,y7.2.2.1,y7.2.2.2.1,y7.2.2.2.2.1)) h [0,1,2,3]
 ·
  refine aS (Z:=Value) (α:=(List Int)×Int×Int×(List Int)) (fun O u=>[(0,Pt c),(6,Pt b1),(7,Pt b3),(8,I x4.2.2.2.2)]) (fun O u=>[.obj c 66 (.agg (.pair (Ri u.1) (.pair (I u.2.1) (.eq (.int .u64 u.2.2.1))))),.obj b1 27 (.agg (.pair (I 0) (.pair (.eq (.slice none 0 0)) (.eq (.slice none 0 0))))),.obj b3 27 (.agg (.pair (I r2.1) (.pair (.eq z5) (.eq O)))),.sl z5 35 aG x4.2.2.2.1,.sl O 3 (.int .i64) u.2.2.2]) h (fun K h=>?_) (fun O u h=>?_)
  ·refine sr ?_;iterate 2 refine mq ?_
   obtain⟨Y,Ug,h⟩:=aa h;refine kc (ar [.tmp 51,.const (.int .i64 (1)),.tmp 52] rfl rfl Nu rfl (ma k (x4.1,x4.2.1,x4.2.2.1) c 1 a2 Y Ug)) ?_;refine aq (nt (an ?_));refine eA (SE.nil 3 (.int .i64)) ?_;refine aJ (fun E l=>[(0,Pt c),(6,Pt b1),(7,Pt b3),(8,I x4.2.2.2.2),(12,I l.2.2.2.2)]) (fun E l=>[.obj c 66 (.agg (.pair (Ri l.1) (.pair (I l.2.1) (.eq (.int .u64 l.2.2.1))))),.obj b1 27 (.agg (.pair (I 0) (.pair (.eq (.slice none 0 0)) (.eq (.slice none 0 0))))),.obj b3 27 (.agg (.pair (I r2.1) (.pair (.eq z5) (.eq E)))),.sl z5 35 aG x4.2.2.2.1,.sl E 3 (.int .i64) l.2.2.2.1]) (eP k x4) k (.slice none 0 0) (Y.2.1,Y.2.2.1,Y.2.2.2,([]:(List Int)),Y.1) (fun _=>rfl) h (SE.fin [1,2,3,4,0] ⟨rfl,rfl,rfl,rfl,rfl,trivial⟩ rfl) (fun n E l h=>?_);unfold eP at h;refine ae (sr (mq ?_));refine jb (f5 rfl) ?_;refine nt (ci h (fun h=>?_) (fun h=>?_))
   ·refine sk (ae (an (bK ?_)));refine da (aA rfl cV) ?_;refine ea 2 (ap rfl bI lg rfl) ?_;refine dm ?_;refine dm ?_;refine db (C6 rfl rfl) ?_;refine dm ?_;obtain⟨qt,TZ,h⟩:=aa h;refine db (bf rfl TZ) ?_;refine db (C6 rfl rfl) ?_;refine dA rfl rfl rfl (bi (t:=(.int .i64)) [(.const (.int .i64 (1)),_),(.const (.int .i64 (2)),_),(.const (.int .i64 (3)),_),(.tmp 62,_),(.tmp 65,_)] [1,2,3,jX 9 x4.2.2.2.2,jX 9 qt] rfl rfl dS (.cons rfl .int (.cons rfl .int (.cons rfl .int (.cons rfl .int (.cons rfl .int .nil))))) rfl rfl) ⟨rfl,rfl,rfl,rfl,rfl,trivial⟩ ?_;obtain⟨D,Uf,h⟩:=aa h;refine K3 0 rfl rfl rfl rfl (ar [.tmp 60,.tmp 66] rfl rfl P0 rfl (pi k (l.1,l.2.1,l.2.2.1) c [1,2,3,jX 9 x4.2.2.2.2,jX 9 qt] D Uf)) ⟨rfl,rfl,trivial⟩ ?_;refine da (bi (t:=(.int .i64)) [(.tmp 67,_)] [D.1] rfl rfl dS (.cons rfl .int .nil) rfl rfl) ?_;refine K5 (Δ':=[.obj b1 27 (.agg (.pair (I 0) (.pair (.eq (.slice none 0 0)) (.eq (.slice none 0 0))))),.obj b3 27 (.agg (.pair (I r2.1) (.pair (.eq z5) (.eq E)))),.sl z5 35 aG x4.2.2.2.1,.sl E 3 (.int .i64) l.2.2.2.1,.obj c 66 (.agg (.pair (Ri D.2.1) (.pair (I D.2.2.1) (.eq (.int .u64 D.2.2.2)))))]) (by kernel_rfl) cY (by kernel_rfl) ?_;obtain⟨UO,Ub,h⟩:=aa h;refine fr 3 ?_;refine dz rfl rfl rfl (bQ rfl rfl dS (av Ub)) ⟨rfl,rfl,trivial⟩ fun Un=>?_;refine fl cV ?_;refine oq fun o38=>?_;refine fr 2 ?_;refine bj rfl rfl (bm rfl bI o38 rfl rfl) ⟨rfl,rfl,trivial⟩ ?_;refine au (aK (tn (ab (mq ?_))));obtain⟨Uj,TY,h⟩:=aa h;refine jb (eO rfl TY) ?_;refine aq (nl ?_);exact jz (Un,(D.2.1,D.2.2.1,D.2.2.2,l.2.2.2.1++[D.1],Uj)) h [4,2,0,3,1]
   ·refine xa ?_;exact jz (E,(l.1,l.2.1,l.2.2.1,l.2.2.2.1)) h [0,1,2,3,4]
  ·refine aS (Z:=Unit) (α:=(List Int)×(List Int)×Int×Int) (fun pp y=>[(6,Pt b1),(7,Pt b3)]) (fun pp y=>[.obj b1 27 (.agg (.pair (I 0) (.pair (.eq (.slice none 0 0)) (.eq (.slice none 0 0))))),.obj b3 27 (.agg (.pair (I r2.1) (.pair (.eq z5) (.eq O)))),.sl z5 35 aG x4.2.2.2.1,.sl O 3 (.int .i64) y.1,.obj c 66 (.agg (.pair (Ri y.2.1) (.pair (I y.2.2.1) (.eq (.int .u64 y.2.2.2)))))]) h (fun K h=>?_) (fun pp y h=>?_)
   ·refine sr (mq ?_);obtain⟨F,Ue,h⟩:=aa h;refine kb (ar [.tmp 71,.const (.int .i64 (2))] rfl rfl PZ rfl (nw k (u.1,u.2.1,u.2.2.1) c 2 F Ue)) ?_;refine nt (cv h (fun h=>?_) (fun h=>?_))
    ·refine ab (fl cV ?_);refine fr 2 ?_;refine lo bI ?_;refine mq ?_;refine jb (C6 rfl rfl) ?_;obtain⟨UE,mc,h⟩:=aa h;refine fr 4 ?_;refine kb (aW (t:=(.int .i64)) rfl dQ cH mc) ?_;refine bj rfl rfl (cE (i:=Int.toNat 0) rfl cH rfl (gd mc) rfl .int rfl) ⟨rfl,rfl,trivial⟩ ?_;refine nl ?_;exact jz ((),(List.set u.2.2.2 (Int.toNat 0) (jX 9 x4.2.2.2.2),F.2.1,F.2.2.1,F.2.2.2)) h [3,1,4,0,2]
    ·refine aY (ag ?_);exact jz ((),(u.2.2.2,F.2.1,F.2.2.1,F.2.2.2)) h [1,2,3,4,0]
   ·refine sr (fr 1 ?_);refine fr 2 ?_;refine bZ (mg (off:=1) [] trivial rfl rfl) ?_;refine fr 2 ?_;refine bZ (mg (off:=2) [] trivial rfl rfl) ?_;refine lo dy ?_;refine fr 1 ?_;refine bj rfl rfl (bm rfl dy trivial rfl rfl) ⟨rfl,rfl,trivial⟩ ?_;refine nt (aB (bh (qf (a:=.agg (.pair (I r2.1) (.pair (Rs aG x4.2.2.2.1) (Ri y.1)))) (a':=.rep aj (r2.1,x4.2.2.2.1,y.1)) (yL (.agg (.pair .int (.pair .rep .rep))))) ?_));refine bh (SE.fin (Γ':=[(6,_)]) [2,0,1] ⟨rfl,trivial⟩ rfl) ?_;cases h;exact aN () [.rep aj (r2.1,x4.2.2.2.1,y.1)] 1 ⟨⟨_,_,_,_,_,rfl,(.tail _ (.head _)),dy,(yM),rfl⟩,trivial⟩ rfl
def jU(k:Nat)(a0:Int)(a1:Int):Option Int:=
 (cp (a1≠0)).bind fun _=>
 (ck ((Int.tmod a0 a1)+a1)).bind fun x2=>
 (cp (a1≠0)).bind fun _=>
 some (Int.tmod x2 a1)
theorem pg(k:Nat)(a0:Int)(a1:Int)(r:Int)(h:jU k a0 a1=some r):
 cm Tryz.prog 52 [I a0,I a1] [] (fun _:Unit=>(bz [I r],[])):=by
 unfold jU at h
 replace h:=be h
 refine cm.of 12 Tryz.func52 rfl Tryz.ntmps52 rfl fun S w0=>?_
 refine sr ?_
 refine cq ?_
 refine nt ?_
 refine sr ?_
 iterate 2 refine mq ?_
 obtain⟨u1,j,h⟩:=aa h
 refine jb (GK rfl (av j)) ?_
 refine mq ?_
 obtain⟨x2,c,h⟩:=aa h
 refine jb (bf rfl c) ?_
 refine mq ?_
 obtain⟨u3,e,h⟩:=aa h
 refine jb (GK rfl (av e)) ?_
 refine aq ?_
 refine nt ?_
 refine aB ?_
 cases h
 exact ra
def ek(k:Nat)(a1:Int):Nat→((List Int)×Int×Int×(List Int)×Int)→Option ((List Int)×(List Int)×Int×Int)
 |0,_=>none
 |n+1,y3=>
  if y3.2.2.2.2 < a1 then((dP k (y3.1,y3.2.1,y3.2.2.1) y3.2.2.2.2).bind fun r5=>
  (cp (bO (List.length y3.2.2.2.1+List.length [y3.2.2.2.2]))).bind fun _=>
  (aX (y3.2.2.2.1++[y3.2.2.2.2]) r5.1).bind fun x8=>
  (aX (y3.2.2.2.1++[y3.2.2.2.2]) y3.2.2.2.2).bind fun x9=>
  (aX (List.set (y3.2.2.2.1++[y3.2.2.2.2]) (Int.toNat y3.2.2.2.2) x8) r5.1).bind fun e=>
  (ck (y3.2.2.2.2+1)).bind fun c=>
  ek k a1 n (r5.2.1,r5.2.2.1,r5.2.2.2,List.set (List.set (y3.2.2.2.1++[y3.2.2.2.2]) (Int.toNat y3.2.2.2.2) x8) (Int.toNat r5.1) y3.2.2.2.2,c)) else(some (y3.2.2.2.1,y3.1,y3.2.1,y3.2.2.1))
def gq(k:Nat)(a0:bR)(a1:Int):Option ((List Int)×bR):=
 ((ek k a1 k (a0.1,a0.2.1,a0.2.2,([]:(List Int)),0)):Option ((List Int)×(List Int)×Int×Int)).bind fun x1=>
 some (x1.1,(x1.2.1,x1.2.2.1,x1.2.2.2))
theorem sf(k:Nat)(a0:bR)(c:Nat)(a1:Int)(r:(List Int)×bR)(h:gq k a0 a1=some r):
 cm Tryz.prog 67 [Pt c,I a1] [.obj c 66 (.agg (.pair (Ri a0.1) (.pair (I a0.2.1) (.eq (.int .u64 a0.2.2)))))] (fun _:Unit=>(bz [Ri r.1],[.obj c 66 (.agg (.pair (Ri r.2.1) (.pair (I r.2.2.1) (.eq (.int .u64 r.2.2.2)))))])):=by
 unfold gq at h
 replace h:=be h
 refine cm.of 32 Tryz.func67 rfl Tryz.ntmps67 rfl fun S w0=>?_
 refine sr ?_
 refine cq ?_
 refine nt ?_
 refine sr ?_
 refine cq ?_
 refine nt ?_
 refine aS (Z:=Value) (α:=(List Int)×(List Int)×Int×Int) (fun z2 x1=>[(5,.eq z2)]) (fun z2 x1=>[.sl z2 3 (.int .i64) x1.1,.obj c 66 (.agg (.pair (Ri x1.2.1) (.pair (I x1.2.2.1) (.eq (.int .u64 x1.2.2.2)))))]) h (fun K h=>?_) (fun z2 x1 h=>?_)
 ·
  refine sr (cq (nt (an ?_)));refine eA (SE.nil 3 (.int .i64)) ?_;refine aJ (fun z4 y3=>[(0,Pt c),(1,I a1),(5,.eq z4),(6,I y3.2.2.2.2)]) (fun z4 y3=>[.obj c 66 (.agg (.pair (Ri y3.1) (.pair (I y3.2.1) (.eq (.int .u64 y3.2.2.1))))),.sl z4 3 (.int .i64) y3.2.2.2.1]) (ek k a1) k (.slice none 0 0) (a0.1,a0.2.1,a0.2.2,([]:(List Int)),0) (fun _=>rfl) h (SE.fin [1,0] ⟨rfl,rfl,rfl,rfl,trivial⟩ rfl) (fun n z4 y3 h=>?_);unfold ek at h;refine ae (sr ?_);iterate 2 refine mq ?_
  refine jb (bv rfl) ?_;refine nt (ci h (fun h=>?_) (fun h=>?_))
  ·refine sk (ae (an (sr ?_)));iterate 2 refine mq ?_
   obtain⟨r5,y,h⟩:=aa h;refine kb (ar [.tmp 13,.tmp 14] rfl rfl H5 rfl (gl k (y3.1,y3.2.1,y3.2.2.1) c y3.2.2.2.2 r5 y)) ?_;refine aq (nt (sr ?_));iterate 2 refine mq ?_
   refine ja (bi (t:=(.int .i64)) [(.tmp 17,_)] [y3.2.2.2.2] rfl rfl dS (.cons rfl .int .nil) rfl rfl) ?_;obtain⟨u6,x,h⟩:=aa h;refine fr 1 ?_;refine dz rfl rfl rfl (bQ rfl rfl dS (av x)) ⟨rfl,rfl,trivial⟩ fun v7=>?_;refine aq (nt (ab ?_));iterate 6 refine mq ?_
   obtain⟨x8,l,h⟩:=aa h;refine kb (aW (t:=(.int .i64)) rfl dQ cH l) ?_;refine ka (dE (i:=Int.toNat r5.1) (off:=0) rfl cH (fun _=>rfl) rfl (co l).2.2 rfl) ?_;refine mq ?_;obtain⟨x9,j,h⟩:=aa h;refine kb (aW (t:=(.int .i64)) rfl dQ cH j) ?_;refine bj rfl rfl (cE (i:=Int.toNat y3.2.2.2.2) rfl cH rfl (gd j) rfl .int rfl) ⟨rfl,rfl,trivial⟩ ?_;obtain⟨D,e,h⟩:=aa h;refine kb (aW (t:=(.int .i64)) rfl dQ cH e) ?_;refine bj rfl rfl (cE (i:=Int.toNat r5.1) rfl cH rfl (gd e) rfl .int rfl) ⟨rfl,rfl,trivial⟩ ?_;refine au (aK (tn (ab (mq ?_))));obtain⟨u,s,h⟩:=aa h;refine jb (bf rfl s) ?_;refine aq (nl ?_);exact jz (v7,(r5.2.1,r5.2.2.1,r5.2.2.2,List.set (List.set (y3.2.2.2.1++[y3.2.2.2.2]) (Int.toNat y3.2.2.2.2) x8) (Int.toNat r5.1) y3.2.2.2.2,u)) h [1,0]
  ·refine xa ?_;exact jz (z4,(y3.2.2.2.1,y3.1,y3.2.1,y3.2.2.1)) h [1,0]
 ·
  refine sr (mq ?_);refine aq (nt (aB ?_));refine bh (gx [4,5,31] ⟨rfl,rfl,rfl,trivial⟩) ?_;cases h;exact aN () [_] 1 ⟨rfl,trivial⟩ rfl
def dt(k:Nat)(a1:a8)(r7:(List Int)×bR)(c:(List Int)×Int×Int×(List Int)×Int×(List (List Int)))(e:Int×bR):Nat→(Int×(List (List Int)))→Option ((List Int)×Int×Int×(List Int)×(List (List Int)))
 |0,_=>none
 |n+1,h=>
  if h.1 < (c.2.2.2.1.length:Int) then((ck (e.1+h.1)).bind fun O=>
  (jU k O (c.2.2.2.1.length:Int)).bind fun j=>
  (((aX c.2.2.2.1 j).bind fun M=>
  (aX r7.1 c.2.2.2.2.1).bind fun J=>
  (aX a1.2.1 J).bind fun I=>
  if I.1≤M then(some (true,h.2)) else((ck ((c.2.2.2.1.length:Int) - 1)).bind fun F=>
  some (decide (h.1=F),h.2))):Option (Bool×(List (List Int)))).bind fun l=>
  if l.1=true then((aX l.2 j).bind fun s=>
  (aX r7.1 c.2.2.2.2.1).bind fun r=>
  (cp (bO (List.length s+List.length [r]))).bind fun _=>
  (aX c.2.2.2.1 j).bind fun E=>
  (aX r7.1 c.2.2.2.2.1).bind fun D=>
  (aX a1.2.1 D).bind fun y=>
  (ck (E - y.1)).bind fun x=>
  (aX c.2.2.2.1 j).bind fun Q=>
  some (e.2.1,e.2.2.1,e.2.2.2,List.set c.2.2.2.1 (Int.toNat j) x,List.set l.2 (Int.toNat j) (s++[r]))) else((ck (h.1+1)).bind fun u=>
  dt k a1 r7 c e n (u,l.2))) else(some (e.2.1,e.2.2.1,e.2.2.2,c.2.2.2.1,h.2))
def eW(k:Nat)(a1:a8)(r7:(List Int)×bR):Nat→((List Int)×Int×Int×(List Int)×Int×(List (List Int)))→Option ((List Int)×Int×Int×(List (List Int)))
 |0,_=>none
 |n+1,c=>
  if c.2.2.2.2.1 < (r7.1.length:Int) then((((ck ((c.2.2.2.1.length:Int) - 1)).bind fun j=>
  (dP k (c.1,c.2.1,c.2.2.1) j).bind fun l=>
  dt k a1 r7 c l k (0,c.2.2.2.2.2)):Option ((List Int)×Int×Int×(List Int)×(List (List Int)))).bind fun e=>
  (ck (c.2.2.2.2.1+1)).bind fun h=>
  eW k a1 r7 n (e.1,e.2.1,e.2.2.1,e.2.2.2.1,h,e.2.2.2.2)) else(some (c.1,c.2.1,c.2.2.1,c.2.2.2.2.2))
def eS(k:Nat)(a0:bR)(a1:a8):Option ((List (List Int))×bR):=
 (cp (0≤(a1.2.2.length:Int)∧bO (Int.toNat (a1.2.2.length:Int)))).bind fun _=>
 (cp (bO (List.length ([]:(List Int))+List.length a1.2.2))).bind fun _=>
 (gq k (a0.1,a0.2.1,a0.2.2) (a1.2.1.length:Int)).bind fun r7=>
 ((eW k a1 r7 k (r7.2.1,r7.2.2.1,r7.2.2.2,([]:(List Int))++a1.2.2,0,List.replicate (Int.toNat (a1.2.2.length:Int)) ([]:(List Int)))):Option ((List Int)×Int×Int×(List (List Int)))).bind fun x8=>
 some (x8.2.2.2,(x8.1,x8.2.1,x8.2.2.1))
theorem nv(k:Nat)(a0:bR)(e:Nat)(a1:a8)(r:(List (List Int))×bR)(h:eS k a0 a1=some r):
 cm Tryz.prog 32 [Pt e,.rep aj a1] [.obj e 66 (.agg (.pair (Ri a0.1) (.pair (I a0.2.1) (.eq (.int .u64 a0.2.2)))))] (fun _:Unit=>(bz [.rep (.slice (.slice (.int .i64))) r.1],[.obj e 66 (.agg (.pair (Ri r.2.1) (.pair (I r.2.2.1) (.eq (.int .u64 r.2.2.2)))))])):=by
 unfold eS at h
 replace h:=be h
 refine cm.of 100 Tryz.func32 rfl Tryz.ntmps32 rfl fun S w0=>?_
 refine sr ?_
 refine bx fun b1=>?_
 refine cq ?_
 refine nt ?_
 refine sr ?_
 refine fl cV ?_
 refine lo bI ?_
 refine ol dQ ?_
 obtain⟨u2,UA,h⟩:=aa h
 refine aD rfl rfl rfl (GN (t:=.val) (d:=.slice none 0 0) rfl nR Of (av UA).1 (av UA).2) ⟨rfl,rfl,trivial⟩ fun v3=>?_
 refine bZ (sJ (F:=[.obj b1 27 (.rep aj a1),.obj e 66 (.agg (.pair (Ri a0.1) (.pair (I a0.2.1) (.eq (.int .u64 a0.2.2)))))])) ?_
 refine aq ?_
 refine nt ?_
 refine sr ?_
 refine aD rfl rfl rfl (jt (t:=(.int .i64)) [] ([]:(List Int)) rfl rfl dS .nil rfl rfl) trivial fun v4=>?_
 refine fl cV ?_
 refine fr 1 ?_
 refine lo bI ?_
 obtain⟨u5,UR,h⟩:=aa h
 refine fr 1 ?_
 refine dz rfl rfl rfl (bQ rfl rfl dS (av UR)) ⟨rfl,rfl,trivial⟩ fun v6=>?_
 refine aq ?_
 refine nt ?_
 refine sr ?_
 refine mq ?_
 refine fl cQ ?_
 refine fr 1 ?_
 refine lo iN ?_
 refine ol qD ?_
 obtain⟨r7,US,h⟩:=aa h
 have UT:=sf k (a0.1,a0.2.1,a0.2.2) e (a1.2.1.length:Int) r7 US
 refine fr 2 ?_
 refine kb (ar [.tmp 20,.tmp 23] rfl rfl Sl rfl UT) ?_
 refine aq ?_
 refine nt ?_
 refine aS (Z:=(Value×(Nat→Value))) (α:=(List Int)×Int×Int×(List (List Int))) (fun z9 x8=>[(5,.eq z9.1)]) (fun z9 x8=>[.obj e 66 (.agg (.pair (Ri x8.1) (.pair (I x8.2.1) (.eq (.int .u64 x8.2.2.1)))))]++dB 22 z9 x8.2.2.2) h (fun K h=>?_) (fun z9 x8 h=>?_)
 ·
  refine sr (cq (nt (an ?_)));refine aJ (Z:=(Value×(Nat→Value))) (α:=(List Int)×Int×Int×(List Int)×Int×(List (List Int))) (fun Q j=>[(0,Pt e),(3,Pt b1),(5,.eq Q.1),(6,.eq v6),(7,Ri r7.1),(8,I j.2.2.2.2.1)]) (fun Q j=>[.obj e 66 (.agg (.pair (Ri j.1) (.pair (I j.2.1) (.eq (.int .u64 j.2.2.1))))),.obj b1 27 (.rep aj a1),.sl v6 3 (.int .i64) j.2.2.2.1]++dB 22 Q j.2.2.2.2.2) (eW k a1 r7) k (v3,fun _=>.slice none 0 0) (r7.2.1,r7.2.2.1,r7.2.2.2,([]:(List Int))++a1.2.2,0,List.replicate (Int.toNat (a1.2.2.length:Int)) ([]:(List Int))) (fun _=>rfl) h (aV [.obj e 66 (.agg (.pair (Ri r7.2.1) (.pair (I r7.2.2.1) (.eq (.int .u64 r7.2.2.2))))),.obj b1 27 (.rep aj a1),.sl v6 3 (.int .i64) (([]:(List Int))++a1.2.2)] (dB 22 (v3,fun _=>.slice none 0 0) (List.replicate (Int.toNat (a1.2.2.length:Int)) ([]:(List Int)))) [0,1,2] ⟨rfl,rfl,rfl,rfl,rfl,rfl,trivial⟩ rfl) (fun n Q j h=>?_);unfold eW at h;refine ae (sr ?_);iterate 2 refine mq ?_
  refine ol dQ ?_;refine jb (bv rfl) ?_;refine nt (ci h (fun h=>?_) (fun h=>?_))
  ·refine sk (aS (Z:=(Value×(Nat→Value))) (α:=(List Int)×Int×Int×(List Int)×(List (List Int))) (fun X u=>[(0,Pt e),(3,Pt b1),(5,.eq X.1),(6,.eq v6),(7,Ri r7.1),(8,I j.2.2.2.2.1)]) (fun X u=>[.obj e 66 (.agg (.pair (Ri u.1) (.pair (I u.2.1) (.eq (.int .u64 u.2.2.1))))),.obj b1 27 (.rep aj a1),.sl v6 3 (.int .i64) u.2.2.2.1]++dB 22 X u.2.2.2.2) h (fun K h=>?_) (fun X u h=>?_))
   ·refine an (sr ?_);iterate 2 refine mq ?_
    refine fr 2 ?_;refine ka (cO rfl rfl dQ) ?_;obtain⟨UH,Uy,h⟩:=aa h;refine jb (eO rfl Uy) ?_;obtain⟨c,UC,h⟩:=aa h;refine fr 1 ?_;refine kb (ar [.tmp 31,.tmp 34] rfl rfl H5 rfl (gl k (j.1,j.2.1,j.2.2.1) e UH c UC)) ?_;refine aq (nt (sr ?_));refine cq (nt (an ?_));refine aJ (Z:=(Value×(Nat→Value))) (α:=Int×(List (List Int))) (fun E y=>[(0,Pt e),(3,Pt b1),(5,.eq E.1),(6,.eq v6),(7,Ri r7.1),(8,I j.2.2.2.2.1),(9,I c.1),(10,I y.1)]) (fun E y=>[.obj e 66 (.agg (.pair (Ri c.2.1) (.pair (I c.2.2.1) (.eq (.int .u64 c.2.2.2))))),.obj b1 27 (.rep aj a1),.sl v6 3 (.int .i64) j.2.2.2.1]++dB 22 E y.2) (dt k a1 r7 j c) k Q (0,j.2.2.2.2.2) (fun _=>rfl) h (aV [.obj e 66 (.agg (.pair (Ri c.2.1) (.pair (I c.2.2.1) (.eq (.int .u64 c.2.2.2))))),.sl v6 3 (.int .i64) j.2.2.2.1,.obj b1 27 (.rep aj a1)] (dB 22 Q j.2.2.2.2.2) [0,2,1] ⟨rfl,rfl,rfl,rfl,rfl,rfl,rfl,rfl,trivial⟩ rfl) (fun n E y h=>?_);unfold dt at h;refine ae (sr ?_);iterate 2 refine mq ?_
    refine fr 2 ?_;refine ka (cO rfl rfl dQ) ?_;refine jb (bv rfl) ?_;refine nt (ci h (fun h=>?_) (fun h=>?_))
    ·refine sk (ae (an (sr ?_)));iterate 2 refine mq ?_
     obtain⟨UG,Ux,h⟩:=aa h;refine jb (bf rfl Ux) ?_;refine mq ?_;refine ka (cO rfl rfl dQ) ?_;obtain⟨s,UB,h⟩:=aa h;refine jb (ar [.tmp 44,.tmp 46] rfl rfl Nn rfl (pg k UG (j.2.2.2.1.length:Int) s UB)) ?_;refine aq (nt ?_);refine aS (Z:=(Value×(Nat→Value))) (α:=Bool×(List (List Int))) (fun l x=>[(0,Pt e),(3,Pt b1),(5,.eq l.1),(6,.eq v6),(7,Ri r7.1),(8,I j.2.2.2.2.1),(9,I c.1),(10,I y.1),(11,I s),(68,.eq (.bool x.1))]) (fun l x=>[.obj e 66 (.agg (.pair (Ri c.2.1) (.pair (I c.2.2.1) (.eq (.int .u64 c.2.2.2))))),.obj b1 27 (.rep aj a1),.sl v6 3 (.int .i64) j.2.2.2.1]++dB 22 l x.2) h (fun K h=>?_) (fun l x h=>?_)
     ·refine bK ?_;refine dm ?_;refine dm ?_;obtain⟨Vo,mc,h⟩:=aa h;refine eb 0 (aW (t:=(.int .i64)) rfl dQ cH mc) ?_;refine ea 0 (dE (i:=Int.toNat s) (off:=0) rfl cH (fun _=>rfl) rfl (co mc).2.2 rfl) ?_;refine da (aA rfl cQ) ?_;refine ea 2 (ap rfl iN lg rfl) ?_;refine dm ?_;refine dm ?_;obtain⟨Vn,Uw,h⟩:=aa h;refine db (aI (t:=(.int .i64)) rfl dQ cH Uw) ?_;refine da (ao (t:=(.int .i64)) rfl cH rfl) ?_;obtain⟨Vm,Uu,h⟩:=aa h;refine db (aI (t:=aG) rfl qD iY Uu) ?_;refine da (aM 1 false rfl mV rfl) ?_;refine da (ao (t:=(.int .i64)) rfl cH rfl) ?_;refine db (oV rfl) ?_;refine uD rfl rfl rfl (aR rfl) ⟨rfl,trivial⟩ (fun hb=>?_) (fun hb=>?_)
      ·replace h:=cI (nG hb) h;iterate 4 refine dg ?_
       refine df cY ?_;refine gn ?_;refine pt (nl ?_);exact fq (E,(true,y.2)) h (aV [.sl v6 3 (.int .i64) j.2.2.2.1,.obj e 66 (.agg (.pair (Ri c.2.1) (.pair (I c.2.2.1) (.eq (.int .u64 c.2.2.2))))),.obj b1 27 (.rep aj a1)] (dB 22 E y.2) [1,2,0] ⟨rfl,rfl,rfl,rfl,rfl,rfl,rfl,rfl,rfl,rfl,trivial⟩ rfl)
      ·replace h:=bS (mW hb) h;refine cy rfl rfl rfl rfl rfl (aR rfl) ⟨rfl,rfl,trivial⟩ ?_;refine cy rfl rfl rfl rfl rfl (aR rfl) ⟨rfl,rfl,trivial⟩ ?_;refine mM 0 rfl rfl rfl rfl rfl rfl (cO rfl rfl dQ) ⟨rfl,rfl,trivial⟩ ?_;obtain⟨UF,Ut,h⟩:=aa h;refine cy rfl rfl rfl rfl rfl (eO rfl Ut) ⟨rfl,rfl,rfl,trivial⟩ ?_;refine df cY ?_;refine gb (eh rfl) ?_;refine pf (nl ?_);exact fq (E,(decide (y.1=UF),y.2)) h (aV [.sl v6 3 (.int .i64) j.2.2.2.1,.obj e 66 (.agg (.pair (Ri c.2.1) (.pair (I c.2.2.1) (.eq (.int .u64 c.2.2.2))))),.obj b1 27 (.rep aj a1)] (dB 22 E y.2) [1,2,0] ⟨rfl,rfl,rfl,rfl,rfl,rfl,rfl,rfl,rfl,rfl,trivial⟩ rfl)
     ·refine cv h (fun h=>?_) (fun h=>?_)
      ·refine ae ?_;obtain⟨O,J,h⟩:=aa h;refine eA (nH (pre:=[.obj e 66 (.agg (.pair (Ri c.2.1) (.pair (I c.2.2.1) (.eq (.int .u64 c.2.2.2))))),.obj b1 27 (.rep aj a1),.sl v6 3 (.int .i64) j.2.2.2.1]) (kJ J).2) ?_;obtain⟨M,Us,h⟩:=aa h;obtain⟨VQ,Uz,h⟩:=aa h;obtain⟨Vl,ac,h⟩:=aa h;obtain⟨Vk,Ur,h⟩:=aa h;obtain⟨Vj,Up,h⟩:=aa h;obtain⟨U,Uo,h⟩:=aa h;obtain⟨Vi,Y,h⟩:=aa h;refine pE (Δ:=[.sl (l.2 (Int.toNat s)) 3 (.int .i64) O,.sl l.1 22 .val (dH l.2 0 x.2),.obj e 66 (.agg (.pair (Ri c.2.1) (.pair (I c.2.2.1) (.eq (.int .u64 c.2.2.2))))),.obj b1 27 (.rep aj a1),.sl v6 3 (.int .i64) j.2.2.2.1]) (F:=(jS l.2 0 x.2).eraseIdx (Int.toNat s)) (Z:=Value) (fun i=>[(0,Pt e),(3,Pt b1),(5,.eq l.1),(6,.eq v6),(7,Ri r7.1),(8,I j.2.2.2.2.1)]) (fun i=>[.sl v6 3 (.int .i64) (List.set j.2.2.2.1 (Int.toNat s) U),.sl l.1 22 .val (List.set (dH l.2 0 x.2) (Int.toNat s) i),.sl i 3 (.int .i64) (O++[M]),.obj e 66 (.agg (.pair (Ri c.2.1) (.pair (I c.2.2.1) (.eq (.int .u64 c.2.2.2))))),.obj b1 27 (.rep aj a1)]) (fun S w=>?_) (fun D=>?_)
       ·refine j0 ?_;refine aH rfl rfl rfl (aR rfl) ⟨rfl,trivial⟩ ?_;refine aH rfl rfl rfl (aR rfl) ⟨rfl,trivial⟩ ?_;refine aH rfl rfl rfl (aR rfl) ⟨rfl,trivial⟩ ?_;refine aH rfl rfl rfl (aR rfl) ⟨rfl,trivial⟩ ?_;refine aH rfl rfl rfl (aR rfl) ⟨rfl,trivial⟩ ?_;refine aH rfl rfl rfl (aR rfl) ⟨rfl,trivial⟩ ?_;refine dh 1 rfl rfl rfl rfl (aW (t:=.val) rfl k9 bI (fh J)) ⟨rfl,rfl,trivial⟩ ?_;refine dh 1 rfl rfl rfl rfl (dE (i:=Int.toNat s) (off:=0) rfl bI (fun _=>rfl) rfl (co (fh J)).2.2 rfl) ⟨rfl,trivial⟩ ?_;refine aH rfl rfl rfl (aR rfl) ⟨rfl,trivial⟩ ?_;refine aH rfl rfl rfl (aR rfl) ⟨rfl,trivial⟩ ?_;refine aH rfl rfl rfl (aI (t:=(.int .i64)) rfl dQ cH Us) ⟨rfl,rfl,trivial⟩ ?_;refine aH rfl rfl rfl (ao (t:=(.int .i64)) rfl cH rfl) ⟨rfl,trivial⟩ ?_;refine aH rfl rfl rfl (bi (t:=(.int .i64)) [(.tmp 80,_)] [M] rfl rfl dS (.cons rfl .int .nil) rfl rfl) ⟨rfl,trivial⟩ ?_;refine pG 0 rfl (fun v=>[.sl v 3 (.int .i64) (O++[M])]) (fun _=>rfl) rfl rfl rfl (bQ rfl rfl dS (av Uz)) ⟨rfl,rfl,trivial⟩ ?_;refine aH rfl rfl rfl (aR rfl) ⟨rfl,trivial⟩ ?_;refine aH rfl rfl rfl (aR rfl) ⟨rfl,trivial⟩ ?_;refine dh 4 rfl rfl rfl rfl (aW (t:=(.int .i64)) rfl dQ cH ac) ⟨rfl,rfl,trivial⟩ ?_;refine dh 4 rfl rfl rfl rfl (dE (i:=Int.toNat s) (off:=0) rfl cH (fun _=>rfl) rfl (co ac).2.2 rfl) ⟨rfl,trivial⟩ ?_;refine aH rfl rfl rfl (aA rfl cQ) ⟨rfl,trivial⟩ ?_;refine dh 3 rfl rfl rfl rfl (ap rfl iN lg rfl) ⟨rfl,trivial⟩ ?_;refine aH rfl rfl rfl (aR rfl) ⟨rfl,trivial⟩ ?_;refine aH rfl rfl rfl (aR rfl) ⟨rfl,trivial⟩ ?_;refine aH rfl rfl rfl (aI (t:=(.int .i64)) rfl dQ cH Ur) ⟨rfl,rfl,trivial⟩ ?_;refine aH rfl rfl rfl (ao (t:=(.int .i64)) rfl cH rfl) ⟨rfl,trivial⟩ ?_;refine aH rfl rfl rfl (aI (t:=aG) rfl qD iY Up) ⟨rfl,rfl,trivial⟩ ?_;refine aH rfl rfl rfl (aM 1 false rfl mV rfl) ⟨rfl,trivial⟩ ?_;refine aH rfl rfl rfl (ao (t:=(.int .i64)) rfl cH rfl) ⟨rfl,trivial⟩ ?_;refine aH rfl rfl rfl (eO rfl Uo) ⟨rfl,rfl,trivial⟩ ?_;refine dh 1 rfl rfl rfl rfl (aW (t:=.val) rfl k9 bI (fh J)) ⟨rfl,rfl,trivial⟩ ?_;refine m5 29 [true,true,false,false,true,true,true,true,true,true,true,true,true,true,true,true,true,true,true,true,true,true,true,true,true,true,true,false,true] [98] [] [] rfl (by kernel_rfl) (by kernel_rfl) (by kernel_rfl) cY (fun vs hv hB=>?_);obtain⟨w0,VP,rfl,UQ⟩:=ak hv;obtain⟨w1,VO,rfl,UP⟩:=ak UQ;obtain⟨w2,VN,rfl,UO⟩:=ak UP;obtain⟨w3,VM,rfl,UN⟩:=ak UO;obtain⟨w4,VL,rfl,UM⟩:=ak UN;obtain⟨w5,VK,rfl,UL⟩:=ak UM;obtain⟨w6,VJ,rfl,UK⟩:=ak UL;obtain⟨w7,VI,rfl,UJ⟩:=ak UK;obtain⟨w8,VH,rfl,UI⟩:=ak UJ;obtain⟨w9,Vh,rfl,Ul⟩:=ak UI;obtain⟨VG,Vg,rfl,Uk⟩:=ak Ul;obtain⟨VF,Vf,rfl,Uj⟩:=ak Uk;obtain⟨VE,Ve,rfl,Ui⟩:=ak Uj;obtain⟨D,Vd,rfl,Uh⟩:=ak Ui;obtain⟨VD,Vb,rfl,Ug⟩:=ak Uh;obtain⟨VC,Va,rfl,Uf⟩:=ak Ug;obtain⟨VB,U8,rfl,Ue⟩:=ak Uf;obtain⟨VA,U7,rfl,Ud⟩:=ak Ue;obtain⟨Vz,U6,rfl,Uc⟩:=ak Ud;obtain⟨Vy,U4,rfl,Ub⟩:=ak Uc;obtain⟨Vx,U2,rfl,Ua⟩:=ak Ub;obtain⟨Vw,U1,rfl,T9⟩:=ak Ua;obtain⟨Vv,U0,rfl,T8⟩:=ak T9;obtain⟨Vu,UZ,rfl,TZ⟩:=ak T8;obtain⟨Vt,UY,rfl,TY⟩:=ak TZ;obtain⟨Vs,UX,rfl,TX⟩:=ak TY;obtain⟨Vr,UW,rfl,se⟩:=ak TX
        obtain⟨Vq,UV,rfl,qt⟩:=ak se;obtain⟨Vp,UU,rfl,pp⟩:=ak qt;obtain rfl:=kH pp;refine⟨[0,1,2,3,4],[.sl l.1 22 .val (dH l.2 0 x.2),.obj e 66 (.agg (.pair (Ri c.2.1) (.pair (I c.2.2.1) (.eq (.int .u64 c.2.2.2))))),.obj b1 27 (.rep aj a1),.sl v6 3 (.int .i64) j.2.2.2.1,.sl D 3 (.int .i64) (O++[M])],by kernel_rfl,by decide,?_⟩;refine iK 4 rfl ?_;refine yF fun o34=>?_;refine iK 1 rfl ?_;refine pC rfl rfl (cE (i:=Int.toNat s) rfl bI rfl (gd (fh J)) rfl (.val o34) o34) ⟨rfl,rfl,trivial⟩ (by kernel_rfl) ?_;refine iK 4 rfl ?_;refine tQ rfl rfl rfl rfl (aW (t:=(.int .i64)) rfl dQ cH Y) ⟨rfl,rfl,trivial⟩ (by kernel_rfl) ?_;refine pC rfl rfl (cE (i:=Int.toNat s) rfl cH rfl (gd Y) rfl .int rfl) ⟨rfl,rfl,trivial⟩ (by kernel_rfl) ?_;refine rm ?_;refine bh (SE.fin (Γ':=[(0,Pt e),(3,Pt b1),(5,.eq l.1),(6,.eq v6),(7,Ri r7.1),(8,I j.2.2.2.2.1)]) (Δ':=[.sl v6 3 (.int .i64) (List.set j.2.2.2.1 (Int.toNat s) U),.sl l.1 22 .val (List.set (dH l.2 0 x.2) (Int.toNat s) D),.sl D 3 (.int .i64) (O++[M]),.obj e 66 (.agg (.pair (Ri c.2.1) (.pair (I c.2.2.1) (.eq (.int .u64 c.2.2.2))))),.obj b1 27 (.rep aj a1)]) [0,1,2,3,4] ⟨rfl,rfl,rfl,rfl,rfl,rfl,trivial⟩ rfl) ?_;exact fun a w st=>⟨rfl,(D),(SE.fin (Γ':=[(0,Pt e),(3,Pt b1),(5,.eq l.1),(6,.eq v6),(7,Ri r7.1),(8,I j.2.2.2.2.1)]) (Δ':=[.sl v6 3 (.int .i64) (List.set j.2.2.2.1 (Int.toNat s) U),.sl l.1 22 .val (List.set (dH l.2 0 x.2) (Int.toNat s) D),.sl D 3 (.int .i64) (O++[M]),.obj e 66 (.agg (.pair (Ri c.2.1) (.pair (I c.2.2.1) (.eq (.int .u64 c.2.2.2))))),.obj b1 27 (.rep aj a1)]) [0,1,2,3,4] ⟨rfl,rfl,rfl,rfl,rfl,rfl,trivial⟩ rfl) a w st⟩
       ·show JN _ _ [(0,Pt e),(3,Pt b1),(5,.eq l.1),(6,.eq v6),(7,Ri r7.1),(8,I j.2.2.2.2.1)] ([.sl v6 3 (.int .i64) (List.set j.2.2.2.1 (Int.toNat s) U),.sl l.1 22 .val (List.set (dH l.2 0 x.2) (Int.toNat s) D),.sl D 3 (.int .i64) (O++[M]),.obj e 66 (.agg (.pair (Ri c.2.1) (.pair (I c.2.2.1) (.eq (.int .u64 c.2.2.2))))),.obj b1 27 (.rep aj a1)]++(jS l.2 0 x.2).eraseIdx (Int.toNat s));refine de 1 rfl ?_;refine de 2 rfl ?_;refine bh (om (pre:=[.sl v6 3 (.int .i64) (List.set j.2.2.2.1 (Int.toNat s) U),.obj e 66 (.agg (.pair (Ri c.2.1) (.pair (I c.2.2.1) (.eq (.int .u64 c.2.2.2))))),.obj b1 27 (.rep aj a1)]) (z:=l) (i:=Int.toNat s) (kJ J).2) ?_;refine tn (dk (AS (eq_false (by decide)) ?_));refine aP (aP (bL (bn ?_)));exact fq ((l.1,j8 l.2 (Int.toNat s) D),(c.2.1,c.2.2.1,c.2.2.2,List.set j.2.2.2.1 (Int.toNat s) U,List.set x.2 (Int.toNat s) (O++[M]))) h (aV [.sl v6 3 (.int .i64) (List.set j.2.2.2.1 (Int.toNat s) U),.obj e 66 (.agg (.pair (Ri c.2.1) (.pair (I c.2.2.1) (.eq (.int .u64 c.2.2.2))))),.obj b1 27 (.rep aj a1)] (dB 22 (l.1,j8 l.2 (Int.toNat s) D) (List.set x.2 (Int.toNat s) (O++[M]))) [1,2,0] ⟨rfl,rfl,rfl,rfl,rfl,rfl,trivial⟩ rfl)
      ·refine aY (aK (tn (ab (mq ?_))));obtain⟨UE,Un,h⟩:=aa h;refine jb (bf rfl Un) ?_;refine aq (nl ?_);exact fq (l,(UE,x.2)) h (aV [.obj e 66 (.agg (.pair (Ri c.2.1) (.pair (I c.2.2.1) (.eq (.int .u64 c.2.2.2))))),.obj b1 27 (.rep aj a1),.sl v6 3 (.int .i64) j.2.2.2.1] (dB 22 l x.2) [0,1,2] ⟨rfl,rfl,rfl,rfl,rfl,rfl,rfl,rfl,trivial⟩ rfl)
    ·refine dk (aP (aP (bL (bn ?_))));exact fq (E,(c.2.1,c.2.2.1,c.2.2.2,j.2.2.2.1,y.2)) h (aV [.sl v6 3 (.int .i64) j.2.2.2.1,.obj e 66 (.agg (.pair (Ri c.2.1) (.pair (I c.2.2.1) (.eq (.int .u64 c.2.2.2))))),.obj b1 27 (.rep aj a1)] (dB 22 E y.2) [1,2,0] ⟨rfl,rfl,rfl,rfl,rfl,rfl,trivial⟩ rfl)
   ·refine ab (mq ?_);obtain⟨UD,Um,h⟩:=aa h;refine jb (bf rfl Um) ?_;refine aq (nl ?_);exact fq (X,(u.1,u.2.1,u.2.2.1,u.2.2.2.1,UD,u.2.2.2.2)) h (aV [.obj e 66 (.agg (.pair (Ri u.1) (.pair (I u.2.1) (.eq (.int .u64 u.2.2.1))))),.obj b1 27 (.rep aj a1),.sl v6 3 (.int .i64) u.2.2.2.1] (dB 22 X u.2.2.2.2) [0,1,2] ⟨rfl,rfl,rfl,rfl,rfl,rfl,trivial⟩ rfl)
  ·refine xa ?_;exact fq (Q,(j.1,j.2.1,j.2.2.1,j.2.2.2.2.2)) h (aV [.obj e 66 (.agg (.pair (Ri j.1) (.pair (I j.2.1) (.eq (.int .u64 j.2.2.1))))),.obj b1 27 (.rep aj a1),.sl v6 3 (.int .i64) j.2.2.2.1] (dB 22 Q j.2.2.2.2.2) [0] ⟨rfl,trivial⟩ rfl)
 ·
  refine sr (mq ?_);refine aq (nt (aB ?_));refine bh (sK (pre:=[.obj e 66 (.agg (.pair (Ri x8.1) (.pair (I x8.2.1) (.eq (.int .u64 x8.2.2.1)))))])) ?_;refine bh (gx [4,5,99] ⟨rfl,rfl,rfl,trivial⟩) ?_;cases h;exact aN () [_] 1 ⟨rfl,trivial⟩ rfl
def gR(k:Nat)(a0:Int)(a1:Int)(a2:Int):Option Bool:=
 ((if a1≤a0 then(some (decide (a0≤a2))) else(some false)):Option (Bool)).bind fun x1=>
 some x1
theorem i8(k:Nat)(a0:Int)(a1:Int)(a2:Int)(r:Bool)(h:gR k a0 a1 a2=some r):
 cm Tryz.prog 87 [I a0,I a1,I a2] [] (fun _:Unit=>(bz [.eq (.bool r)],[])):=by
 unfold gR at h
 replace h:=be h
 refine cm.of 15 Tryz.func87 rfl Tryz.ntmps87 rfl fun S w0=>?_
 refine sr ?_
 refine cq ?_
 refine nt ?_
 refine aS (Z:=Unit) (α:=Bool) (fun z2 x1=>[(6,.eq (.bool x1))]) (fun z2 x1=>[]) h (fun K h=>?_) (fun z2 x1 h=>?_)
 ·
  refine ab ?_;iterate 2 refine mq ?_
  refine jb (oV rfl) ?_;refine mq ?_;refine cd (s:=10) rfl (fun hb=>?_) (fun hb=>?_)
  ·replace h:=cI (nG hb) h;refine gm ?_;refine gm ?_;refine gb (t4 rfl) ?_;refine pt ?_;refine aq (nl ?_);exact jz ((),decide (a0≤a2)) h []
  ·replace h:=bS (mW hb) h;iterate 3 refine gn ?_
   refine pf ?_;refine aq (nl ?_);exact jz ((),false) h []
 ·
  refine aB ?_;cases h;exact ra
def fL(k:Nat)(a0:a8)(e:gu):Nat→Int→Option (Except Int Unit)
 |0,_=>none
 |n+1,c=>
  if c < (e.2.length:Int) then((aX e.2 c).bind fun x=>
  (ck (a0.1 - 1)).bind fun u=>
  (gR k x 0 u).bind fun y=>
  if¬(y=true) then(some (.error 1)) else(((if 0 < c then((aX e.2 c).bind fun r=>
  (ck (c - 1)).bind fun l=>
  (aX e.2 l).bind fun j=>
  some (decide (r≤j))) else(some false)):Option (Bool)).bind fun s=>
  if s=true then(some (.error 5)) else((ck (c+1)).bind fun h=>
  fL k a0 e n h))) else(some (.ok ()))
def fM(k:Nat)(a0:a8):Nat→Int→Option (Except Int Unit)
 |0,_=>none
 |n+1,y5=>
  if y5 < (a0.2.1.length:Int) then(bE (α:=Unit) ((aX a0.2.1 y5).bind fun x9=>
  (gR k x9.1 1 3).bind fun j=>
  if¬(j=true) then(some (.error 1)) else((aX a0.2.1 y5).bind fun h=>
  fL k a0 h k 0)) (fun e=>some (.error e)) fun _=>
  (ck (y5+1)).bind fun c=>
  fM k a0 n c) else(some (.ok ()))
def fK(k:Nat)(a0:a8):Nat→Int→Option (Except Int Unit)
 |0,_=>none
 |n+1,c=>
  if c < (a0.2.2.length:Int) then((aX a0.2.2 c).bind fun h=>
  (gR k h 0 9).bind fun j=>
  if¬(j=true) then(some (.error 1)) else((ck (c+1)).bind fun e=>
  fK k a0 n e)) else(some (.ok ()))
def lD(k:Nat)(a0:a8):Option Int:=
 (gR k a0.1 1 6).bind fun r2=>
 if¬(r2=true) then(some 1) else(if 5 < (a0.2.1.length:Int) then(some 6) else(bE (α:=Unit) (fM k a0 k 0) (some) fun _=>
 if(a0.2.2.length:Int)=0 then(some 7) else(if 3 < (a0.2.2.length:Int) then(some 6) else(bE (α:=Unit) (fK k a0 k 0) (some) fun _=>
 some 0))))
theorem rQ(k:Nat)(a0:a8)(r:Int)(h:lD k a0=some r):
 cm Tryz.prog 54 [.rep aj a0] [] (fun _:Unit=>(bz [I r],[])):=by
 unfold lD at h
 replace h:=be h
 refine cm.of 87 Tryz.func54 rfl Tryz.ntmps54 rfl fun S w0=>?_
 refine sr ?_
 refine bx fun b1=>?_
 refine cq ?_
 refine nt ?_
 refine ae ?_
 refine sr ?_
 refine fl iH ?_
 refine lo cH ?_
 obtain⟨r2,Uh,h⟩:=aa h
 have Ui:=i8 k a0.1 1 6 r2 Uh
 refine jc (ar [.tmp 8,.const (.int .i64 (1)),.const (.int .i64 (6))] rfl rfl H4 rfl Ui) ?_
 refine ja (fm rfl) ?_
 refine nt ?_
 refine cw h (fun h=>?_) (fun h=>?_)
 ·
  refine sr (cq (nt (rx ?_)));cases h;exact ra
 ·
  refine sk (ae (sr (fl cQ ?_)));refine lo iN ?_;refine ol qD ?_;refine jb (f5 rfl) ?_;refine nt (ci h (fun h=>?_) (fun h=>?_))
  ·refine sr (cq (nt (rx ?_)));cases h;exact ra
  ·refine sk (dn (Z:=Unit) (α:=Unit) (fun z4 x3=>[(1,Pt b1)]) (fun z4 x3=>[.obj b1 27 (.rep aj a0)]) (fun e=>e=r) h (fun e h=>Option.some.inj h) (fun K hR h=>?_) (fun z4 x3 h=>?_))
   ·refine sr (cq (nt (an ?_)));refine aJ (fun z6 y5=>[(1,Pt b1),(3,I y5)]) (fun z6 y5=>[.obj b1 27 (.rep aj a0)]) (fM k a0) k () 0 (fun _=>rfl) h (SE.fin [0] ⟨rfl,rfl,trivial⟩ rfl) (fun n z6 y5 h=>?_);unfold fM at h;refine ae (sr (mq ?_));refine fl cQ ?_;refine lo iN ?_;refine ol qD ?_;refine jb (bv rfl) ?_;refine nt (ci h (fun h=>?_) (fun h=>?_))
    ·refine sk (dn (Z:=Unit) (α:=Unit) (fun z8 x7=>[(1,Pt b1),(3,I y5)]) (fun z8 x7=>[.obj b1 27 (.rep aj a0)]) (fun e=>e=r) h (fun e h=>hR e h) (fun K hR h=>?_) (fun z8 x7 h=>?_))
     ·refine an (ae (sr (fl cQ ?_)));refine lo iN ?_;refine mq ?_;obtain⟨x9,Ug,h⟩:=aa h;refine jb (aI (t:=aG) rfl qD iY Ug) ?_;refine ja (aM 1 false rfl mV rfl) ?_;refine ja (ao (t:=(.int .i64)) rfl cH rfl) ?_;obtain⟨Uf,se,h⟩:=aa h;refine jc (ar [.tmp 27,.const (.int .i64 (1)),.const (.int .i64 (3))] rfl rfl H4 rfl (i8 k x9.1 1 3 Uf se)) ?_;refine ja (fm rfl) ?_;refine nt (cw h (fun h=>?_) (fun h=>?_))
      ·refine sr (cq (nt (rx (br (aZ (aO ?_))))));obtain rfl:=hR _ h;exact ra
      ·refine sk (sr (fl cQ ?_));refine lo iN ?_;refine mq ?_;obtain⟨s,mc,h⟩:=aa h;refine jb (aI (t:=aG) rfl qD iY mc) ?_;refine ja (aM 1 false rfl mU rfl) ?_;refine ja (ao (t:=(.slice (.int .i64))) rfl bI rfl) ?_;refine aq (nt (sr ?_));refine cq (nt (an ?_));refine aJ (fun D c=>[(1,Pt b1),(3,I y5),(4,Ri s.2),(5,I c)]) (fun D c=>[.obj b1 27 (.rep aj a0)]) (fL k a0 s) k () 0 (fun _=>rfl) h (SE.fin [0] ⟨rfl,rfl,rfl,rfl,trivial⟩ rfl) (fun n D c h=>?_);unfold fL at h;refine ae (sr ?_);iterate 2 refine mq ?_
       refine ol dQ ?_;refine jb (bv rfl) ?_;refine nt (ci h (fun h=>?_) (fun h=>?_))
       ·refine sk (ae (an (ae (ae (bK ?_)))));refine dm ?_;refine dm ?_;obtain⟨Uc,ac,h⟩:=aa h;refine db (aI (t:=(.int .i64)) rfl dQ cH ac) ?_;refine da (ao (t:=(.int .i64)) rfl cH rfl) ?_;refine da (aA rfl iH) ?_;refine ea 0 (ap rfl cH lg rfl) ?_;obtain⟨Ub,Y,h⟩:=aa h;refine db (eO rfl Y) ?_;refine df cY ?_;obtain⟨Ue,qt,h⟩:=aa h;refine jc (ar [.tmp 45,.const (.int .i64 (0)),.tmp 48] rfl rfl H4 rfl (i8 k Uc 0 Ub Ue qt)) ?_;refine ja (fm rfl) ?_;refine nt (cw h (fun h=>?_) (fun h=>?_))
        ·refine sr (cq (nt (rx (br (aZ (br (aZ (aO ?_))))))));obtain rfl:=hR _ h;exact ra
        ·refine sk (aS (Z:=Unit) (α:=Bool) (fun y l=>[(1,Pt b1),(3,I y5),(4,Ri s.2),(5,I c),(64,.eq (.bool l))]) (fun y l=>[.obj b1 27 (.rep aj a0)]) h (fun K h=>?_) (fun y l h=>?_))
         ·refine bK ?_;refine dm ?_;refine db (f5 rfl) ?_;refine uD rfl rfl rfl (aR rfl) ⟨rfl,trivial⟩ (fun hb=>?_) (fun hb=>?_)
          ·replace h:=cI (nG hb) h;refine cy rfl rfl rfl rfl rfl (aR rfl) ⟨rfl,rfl,trivial⟩ ?_;refine cy rfl rfl rfl rfl rfl (aR rfl) ⟨rfl,rfl,trivial⟩ ?_;obtain⟨Ua,X,h⟩:=aa h;refine cy rfl rfl rfl rfl rfl (aI (t:=(.int .i64)) rfl dQ cH X) ⟨rfl,rfl,rfl,trivial⟩ ?_;refine cy rfl rfl rfl rfl rfl (ao (t:=(.int .i64)) rfl cH rfl) ⟨rfl,rfl,trivial⟩ ?_;refine cy rfl rfl rfl rfl rfl (aR rfl) ⟨rfl,rfl,trivial⟩ ?_;refine cy rfl rfl rfl rfl rfl (aR rfl) ⟨rfl,rfl,trivial⟩ ?_;obtain⟨Uj,U,h⟩:=aa h;refine cy rfl rfl rfl rfl rfl (eO rfl U) ⟨rfl,rfl,rfl,trivial⟩ ?_;obtain⟨T9,Q,h⟩:=aa h;refine cy rfl rfl rfl rfl rfl (aI (t:=(.int .i64)) rfl dQ cH Q) ⟨rfl,rfl,rfl,trivial⟩ ?_;refine cy rfl rfl rfl rfl rfl (ao (t:=(.int .i64)) rfl cH rfl) ⟨rfl,rfl,trivial⟩ ?_;refine df cY ?_;refine gb (t4 rfl) ?_;refine pt (nl ?_);exact jz ((),decide (Ua≤T9)) h [0]
          ·replace h:=bS (mW hb) h;iterate 9 refine dg ?_
           refine df cY ?_;refine gn ?_;refine pf (nl ?_);exact jz ((),false) h [0]
         ·refine cv h (fun h=>?_) (fun h=>?_)
          ·refine sr (cq (nt (aB (br (aZ (br (aZ (aO ?_))))))));obtain rfl:=hR _ h;exact ra
          ·refine aY (aK (tn (ab (mq ?_))));obtain⟨T8,O,h⟩:=aa h;refine jb (bf rfl O) ?_;refine aq (nl ?_);exact jz ((),T8) h [0]
       ·refine dk (aP (aP (bL (bn ?_))));exact jz ((),()) h [0]
     ·refine ab (mq ?_);obtain⟨TZ,M,h⟩:=aa h;refine jb (bf rfl M) ?_;refine aq (nl ?_);exact jz ((),TZ) h [0]
    ·refine xa ?_;exact jz ((),()) h [0]
   ·refine ae (sr (fl cV ?_));refine lo bI ?_;refine ol dQ ?_;refine jb (eh rfl) ?_;refine nt (ci h (fun h=>?_) (fun h=>?_))
    ·refine sr (cq (nt (rx ?_)));cases h;exact ra
    ·refine sk (ae (sr (fl cV ?_)));refine lo bI ?_;refine ol dQ ?_;refine jb (f5 rfl) ?_;refine nt (ci h (fun h=>?_) (fun h=>?_))
     ·refine sr (cq (nt (rx ?_)));cases h;exact ra
     ·refine sk (dn (Z:=Unit) (α:=Unit) (fun x E=>[]) (fun x E=>[]) (fun e=>e=r) h (fun e h=>Option.some.inj h) (fun K hR h=>?_) (fun x E h=>?_))
      ·refine sr (cq (nt (an ?_)));refine aJ (fun u j=>[(1,Pt b1),(6,I j)]) (fun u j=>[.obj b1 27 (.rep aj a0)]) (fK k a0) k () 0 (fun _=>rfl) h (SE.fin [0] ⟨rfl,rfl,trivial⟩ rfl) (fun n u j h=>?_);unfold fK at h;refine ae (sr (mq ?_));refine fl cV ?_;refine lo bI ?_;refine ol dQ ?_;refine jb (bv rfl) ?_;refine nt (ci h (fun h=>?_) (fun h=>?_))
       ·refine sk (ae (an (sr (fl cV ?_))));refine lo bI ?_;refine mq ?_;obtain⟨TY,J,h⟩:=aa h;refine jb (aI (t:=(.int .i64)) rfl dQ cH J) ?_;refine ja (ao (t:=(.int .i64)) rfl cH rfl) ?_;obtain⟨Ud,pp,h⟩:=aa h;refine jc (ar [.tmp 84,.const (.int .i64 (0)),.const (.int .i64 (9))] rfl rfl H4 rfl (i8 k TY 0 9 Ud pp)) ?_;refine ja (fm rfl) ?_;refine nt (cw h (fun h=>?_) (fun h=>?_))
        ·refine sr (cq (nt (aB (br (aZ (aO ?_))))));obtain rfl:=hR _ h;exact ra
        ·refine aY (aK (tn (ab (mq ?_))));obtain⟨TX,F,h⟩:=aa h;refine jb (bf rfl F) ?_;refine aq (nl ?_);exact jz ((),TX) h [0]
       ·refine xa ?_;exact jz ((),()) h []
      ·refine sr (cq (nt (aB ?_)));cases h;exact ra
def kN(k:Nat)(a0:a8)(a1:Int):Option Bool:=
 (ck ((a0.2.1.length:Int) - 1)).bind fun x2=>
 (gR k a1 0 x2).bind fun r3=>
 some r3
theorem uY(k:Nat)(a0:a8)(a1:Int)(r:Bool)(h:kN k a0 a1=some r):
 cm Tryz.prog 68 [.rep aj a0,I a1] [] (fun _:Unit=>(bz [.eq (.bool r)],[])):=by
 unfold kN at h
 replace h:=be h
 refine cm.of 11 Tryz.func68 rfl Tryz.ntmps68 rfl fun S w0=>?_
 refine sr ?_
 refine bx fun b1=>?_
 refine cq ?_
 refine nt ?_
 refine sr ?_
 refine mq ?_
 refine fl cQ ?_
 refine lo iN ?_
 refine ol qD ?_
 obtain⟨x2,c,h⟩:=aa h
 refine jb (eO rfl c) ?_
 obtain⟨r3,e,h⟩:=aa h
 have j:=i8 k a1 0 x2 r3 e
 refine jc (ar [.tmp 5,.const (.int .i64 (0)),.tmp 9] rfl rfl H4 rfl j) ?_
 refine aq ?_
 refine nt ?_
 refine aB ?_
 cases h
 exact ra
def iC(k:Nat)(a0:(List Int))(a1:Int):Nat→Int→Option (Except Bool Unit)
 |0,_=>none
 |n+1,y3=>
  if y3 < (a0.length:Int) then((aX a0 y3).bind fun x5=>
  if x5=a1 then(some (.error true)) else((ck (y3+1)).bind fun x6=>
  iC k a0 a1 n x6)) else(some (.ok ()))
def rP(k:Nat)(a0:(List Int))(a1:Int):Option Bool:=
 bE (α:=Unit) (iC k a0 a1 k 0) (some) fun _=>
 some false
theorem Bo(k:Nat)(a0:(List Int))(a1:Int)(r:Bool)(h:rP k a0 a1=some r):
 cm Tryz.prog 69 [Ri a0,I a1] [] (fun _:Unit=>(bz [.eq (.bool r)],[])):=by
 unfold rP at h
 replace h:=be h
 refine cm.of 18 Tryz.func69 rfl Tryz.ntmps69 rfl fun S w0=>?_
 refine sr ?_
 refine cq ?_
 refine nt ?_
 refine dn (Z:=Unit) (α:=Unit) (fun z2 x1=>[]) (fun z2 x1=>[]) (fun e=>e=r) h (fun e h=>Option.some.inj h) (fun K hR h=>?_) (fun z2 x1 h=>?_)
 ·
  refine sr (cq (nt (an ?_)));refine aJ (fun z4 y3=>[(0,Ri a0),(1,I a1),(5,I y3)]) (fun z4 y3=>[]) (iC k a0 a1) k () 0 (fun _=>rfl) h (SE.fin [] ⟨rfl,rfl,rfl,trivial⟩ rfl) (fun n z4 y3 h=>?_);unfold iC at h;refine ae (sr ?_);iterate 2 refine mq ?_
  refine ol dQ ?_;refine jb (bv rfl) ?_;refine nt (ci h (fun h=>?_) (fun h=>?_))
  ·refine sk (ae (an (sr ?_)));iterate 2 refine mq ?_
   obtain⟨x5,j,h⟩:=aa h;refine jb (aI (t:=(.int .i64)) rfl dQ cH j) ?_;refine ja (ao (t:=(.int .i64)) rfl cH rfl) ?_;refine mq ?_;refine jb (eh rfl) ?_;refine nt (ci h (fun h=>?_) (fun h=>?_))
   ·refine sr (cq (nt (aB (br (aZ (aO ?_))))));obtain rfl:=hR _ h;exact ra
   ·refine aY (aK (tn (ab (mq ?_))));obtain⟨x6,c,h⟩:=aa h;refine jb (bf rfl c) ?_;refine aq (nl ?_);exact jz ((),x6) h []
  ·refine xa ?_;exact jz ((),()) h []
 ·
  refine sr (cq (nt (aB ?_)));cases h;exact ra
def ct(k:Nat)(a0:a8)(a1:(List (List Int)))(y5:(List Int)×Int):Nat→((List Int)×Int×Int)→Option (Except Int ((List Int)×Int))
 |0,_=>none
 |n+1,c=>
  (aX a1 y5.2).bind fun F=>
  if c.2.2 < (F.length:Int) then((aX a1 y5.2).bind fun E=>
  (aX E c.2.2).bind fun D=>
  (kN k a0 D).bind fun J=>
  if¬(J=true) then(some (.error 3)) else((aX a1 y5.2).bind fun y=>
  (aX y c.2.2).bind fun x=>
  (rP k c.1 x).bind fun I=>
  if I=true then(some (.error 4)) else((aX a1 y5.2).bind fun u=>
  (aX u c.2.2).bind fun e=>
  (cp (bO (List.length c.1+List.length [e]))).bind fun _=>
  (aX a1 y5.2).bind fun s=>
  (aX s c.2.2).bind fun r=>
  (aX a0.2.1 r).bind fun l=>
  (ck (c.2.1+l.1)).bind fun j=>
  (ck (c.2.2+1)).bind fun h=>
  ct k a0 a1 y5 n (c.1++[e],j,h)))) else(some (.ok (c.1,c.2.1)))
def cD(k:Nat)(a0:a8)(a1:(List (List Int))):Nat→((List Int)×Int)→Option (Except Int (List Int))
 |0,_=>none
 |n+1,y5=>
  if y5.2 < (a1.length:Int) then(bE (α:=(List Int)) (bE (α:=(List Int)×Int) (ct k a0 a1 y5 k (y5.1,0,0)) (fun e=>some (.error e)) fun x9=>
  (aX a0.2.2 y5.2).bind fun h=>
  if h < x9.2 then(some (.error 12)) else(some (.ok x9.1))) (fun e=>some (.error e)) fun x7=>
  (ck (y5.2+1)).bind fun c=>
  cD k a0 a1 n (x7,c)) else(some (.ok y5.1))
def dM(k:Nat)(a0:a8)(a1:(List (List Int))):Option Int:=
 (lD k a0).bind fun r2=>
 if¬(r2=0) then(some r2) else(if(a1.length:Int) < (a0.2.2.length:Int) then(some 7) else(if(a0.2.2.length:Int) < (a1.length:Int) then(some 6) else(bE (α:=(List Int)) (cD k a0 a1 k (([]:(List Int)),0)) (some) fun x3=>
 if(x3.length:Int) < (a0.2.1.length:Int) then(some 7) else(some 0))))
theorem ln(k:Nat)(a0:a8)(a1:(List (List Int)))(r:Int)(h:dM k a0 a1=some r):
 cm Tryz.prog 33 [.rep aj a0,.rep (.slice (.slice (.int .i64))) a1] [] (fun _:Unit=>(bz [I r],[])):=by
 unfold dM at h
 replace h:=be h
 refine cm.of 98 Tryz.func33 rfl Tryz.ntmps33 rfl fun S w0=>?_
 refine sr ?_
 refine bx fun b1=>?_
 refine cq ?_
 refine nt ?_
 refine ae ?_
 refine sr ?_
 refine lo dy ?_
 obtain⟨r2,UC,h⟩:=aa h
 have UD:=rQ k a0 r2 UC
 refine ja (ar [.tmp 10] rfl rfl P1 rfl UD) ?_
 refine aq ?_
 refine nt ?_
 refine sr ?_
 refine mq ?_
 refine jb (ig rfl) ?_
 refine nt ?_
 refine cn h (fun h=>?_) (fun h=>?_)
 ·
  refine sr (mq ?_);refine aq (nt (rx ?_));cases h;exact ra
 ·
  refine sk (ae (sr (mq ?_)));refine ol k9 ?_;refine fl cV ?_;refine lo bI ?_;refine ol dQ ?_;refine jb (bv rfl) ?_;refine nt (ci h (fun h=>?_) (fun h=>?_))
  ·refine sr (cq (nt (rx ?_)));cases h;exact ra
  ·refine sk (ae (sr (mq ?_)));refine ol k9 ?_;refine fl cV ?_;refine lo bI ?_;refine ol dQ ?_;refine jb (f5 rfl) ?_;refine nt (ci h (fun h=>?_) (fun h=>?_))
   ·refine sr (cq (nt (rx ?_)));cases h;exact ra
   ·refine sk (sr (cq (nt ?_)));refine dn (Z:=Value) (α:=(List Int)) (fun z4 x3=>[(2,Pt b1),(6,.eq z4)]) (fun z4 x3=>[.obj b1 27 (.rep aj a0),.sl z4 3 (.int .i64) x3]) (fun e=>e=r) h (fun e h=>Option.some.inj h) (fun K hR h=>?_) (fun z4 x3 h=>?_)
    ·refine sr (cq (nt (an ?_)));refine eA (SE.nil 3 (.int .i64)) ?_;refine aJ (fun z6 y5=>[(1,.rep (.slice (.slice (.int .i64))) a1),(2,Pt b1),(6,.eq z6),(7,I y5.2)]) (fun z6 y5=>[.obj b1 27 (.rep aj a0),.sl z6 3 (.int .i64) y5.1]) (cD k a0 a1) k (.slice none 0 0) (([]:(List Int)),0) (fun _=>rfl) h (SE.fin [1,0] ⟨rfl,rfl,rfl,rfl,trivial⟩ rfl) (fun n z6 y5 h=>?_);unfold cD at h;refine ae (sr ?_);iterate 2 refine mq ?_
     refine ol k9 ?_;refine jb (bv rfl) ?_;refine nt (ci h (fun h=>?_) (fun h=>?_))
     ·refine sk (dn (Z:=Value) (α:=(List Int)) (fun z8 x7=>[(1,.rep (.slice (.slice (.int .i64))) a1),(2,Pt b1),(6,.eq z8),(7,I y5.2)]) (fun z8 x7=>[.obj b1 27 (.rep aj a0),.sl z8 3 (.int .i64) x7]) (fun e=>e=r) h (fun e h=>hR e h) (fun K hR h=>?_) (fun z8 x7 h=>?_))
      ·refine an (sr (cq (nt ?_)));refine dn (Z:=Value) (α:=(List Int)×Int) (fun l x9=>[(1,.rep (.slice (.slice (.int .i64))) a1),(2,Pt b1),(6,.eq l),(7,I y5.2),(8,I x9.2)]) (fun l x9=>[.obj b1 27 (.rep aj a0),.sl l 3 (.int .i64) x9.1]) (fun e=>e=r) h (fun e h=>hR e h) (fun K hR h=>?_) (fun l x9 h=>?_)
       ·refine sr (cq (nt (an ?_)));refine aJ (fun j c=>[(1,.rep (.slice (.slice (.int .i64))) a1),(2,Pt b1),(6,.eq j),(7,I y5.2),(8,I c.2.1),(9,I c.2.2)]) (fun j c=>[.obj b1 27 (.rep aj a0),.sl j 3 (.int .i64) c.1]) (ct k a0 a1 y5) k z6 (y5.1,0,0) (fun _=>rfl) h (SE.fin [0,1] ⟨rfl,rfl,rfl,rfl,rfl,rfl,trivial⟩ rfl) (fun n j c h=>?_);unfold ct at h;refine ae (sr ?_);iterate 3 refine mq ?_
        obtain⟨U0,Uh,h⟩:=aa h;refine jb (aI (t:=(.slice (.int .i64))) rfl k9 bI Uh) ?_;refine ja (ao (t:=(.slice (.int .i64))) rfl bI rfl) ?_;refine ol dQ ?_;refine jb (bv rfl) ?_;refine nt (ci h (fun h=>?_) (fun h=>?_))
        ·refine sk (ae (an (ae (ae (bK ?_)))));refine ea 0 (ap rfl dy (yM) rfl) ?_;refine dm ?_;refine dm ?_;obtain⟨UZ,Ug,h⟩:=aa h;refine db (aI (t:=(.slice (.int .i64))) rfl k9 bI Ug) ?_;refine da (ao (t:=(.slice (.int .i64))) rfl bI rfl) ?_;refine dm ?_;obtain⟨Uo,Uf,h⟩:=aa h;refine db (aI (t:=(.int .i64)) rfl dQ cH Uf) ?_;refine da (ao (t:=(.int .i64)) rfl cH rfl) ?_;refine df cY ?_;obtain⟨Ur,Uk,h⟩:=aa h;refine jb (ar [.tmp 42,.tmp 49] rfl rfl Sj rfl (uY k a0 Uo Ur Uk)) ?_;refine ja (fm rfl) ?_;refine nt (cw h (fun h=>?_) (fun h=>?_))
         ·refine sr (cq (nt (rx (br (aZ (aO (br (aZ (aO ?_)))))))));obtain rfl:=hR _ h;exact ra
         ·refine sk (ae (sr ?_));iterate 3 refine mq ?_
          obtain⟨UY,Ue,h⟩:=aa h;refine jb (aI (t:=(.slice (.int .i64))) rfl k9 bI Ue) ?_;refine ja (ao (t:=(.slice (.int .i64))) rfl bI rfl) ?_;refine mq ?_;obtain⟨u,Ud,h⟩:=aa h;refine jb (aI (t:=(.int .i64)) rfl dQ cH Ud) ?_;refine ja (ao (t:=(.int .i64)) rfl cH rfl) ?_;obtain⟨Up,Uj,h⟩:=aa h;refine fr 1 ?_;refine kb (vS (N:=[(.tmp 52,.eq j),(.tmp 59,I u)]) (ar [.tmp 52,.tmp 59] rfl rfl Si rfl (Bo k c.1 u Up Uj)) (fun _ _ _ hv hn=>⟨(lend hn.1 hv),hn.2.1,trivial⟩) (fun _=>⟨rfl,Ar⟩)) ?_;refine nt (cv h (fun h=>?_) (fun h=>?_))
          ·refine sr (cq (nt (rx (br (aZ (aO (br (aZ (aO ?_)))))))));obtain rfl:=hR _ h;exact ra
          ·refine sk (j0 ?_);refine aH rfl rfl rfl (aR rfl) ⟨rfl,trivial⟩ ?_;refine aH rfl rfl rfl (aR rfl) ⟨rfl,trivial⟩ ?_;refine aH rfl rfl rfl (aR rfl) ⟨rfl,trivial⟩ ?_;obtain⟨UX,Uc,h⟩:=aa h;refine aH rfl rfl rfl (aI (t:=(.slice (.int .i64))) rfl k9 bI Uc) ⟨rfl,rfl,trivial⟩ ?_;refine aH rfl rfl rfl (ao (t:=(.slice (.int .i64))) rfl bI rfl) ⟨rfl,trivial⟩ ?_;refine aH rfl rfl rfl (aR rfl) ⟨rfl,trivial⟩ ?_;obtain⟨s,Ub,h⟩:=aa h;refine aH rfl rfl rfl (aI (t:=(.int .i64)) rfl dQ cH Ub) ⟨rfl,rfl,trivial⟩ ?_;refine aH rfl rfl rfl (ao (t:=(.int .i64)) rfl cH rfl) ⟨rfl,trivial⟩ ?_;refine aH rfl rfl rfl (bi (t:=(.int .i64)) [(.tmp 68,_)] [s] rfl rfl dS (.cons rfl .int .nil) rfl rfl) ⟨rfl,trivial⟩ ?_;obtain⟨Vs,Ui,h⟩:=aa h;refine pG 0 rfl (fun v=>[.sl v 3 (.int .i64) (c.1++[s])]) (fun _=>rfl) rfl rfl rfl (bQ rfl rfl dS (av Ui)) ⟨rfl,rfl,trivial⟩ ?_;refine aH rfl rfl rfl (aR rfl) ⟨rfl,trivial⟩ ?_;refine aH rfl rfl rfl (aA rfl cQ) ⟨rfl,trivial⟩ ?_;refine dh 1 rfl rfl rfl rfl (ap rfl iN lg rfl) ⟨rfl,trivial⟩ ?_;refine aH rfl rfl rfl (aR rfl) ⟨rfl,trivial⟩ ?_;refine aH rfl rfl rfl (aR rfl) ⟨rfl,trivial⟩ ?_;obtain⟨UW,Ua,h⟩:=aa h;refine aH rfl rfl rfl (aI (t:=(.slice (.int .i64))) rfl k9 bI Ua) ⟨rfl,rfl,trivial⟩ ?_;refine aH rfl rfl rfl (ao (t:=(.slice (.int .i64))) rfl bI rfl) ⟨rfl,trivial⟩ ?_;refine aH rfl rfl rfl (aR rfl) ⟨rfl,trivial⟩ ?_;obtain⟨UV,T9,h⟩:=aa h;refine aH rfl rfl rfl (aI (t:=(.int .i64)) rfl dQ cH T9) ⟨rfl,rfl,trivial⟩ ?_;refine aH rfl rfl rfl (ao (t:=(.int .i64)) rfl cH rfl) ⟨rfl,trivial⟩ ?_;obtain⟨UU,T8,h⟩:=aa h;refine aH rfl rfl rfl (aI (t:=aG) rfl qD iY T8) ⟨rfl,rfl,trivial⟩ ?_;refine aH rfl rfl rfl (aM 1 false rfl mV rfl) ⟨rfl,trivial⟩ ?_;refine aH rfl rfl rfl (ao (t:=(.int .i64)) rfl cH rfl) ⟨rfl,trivial⟩ ?_;obtain⟨Un,TZ,h⟩:=aa h;refine aH rfl rfl rfl (bf rfl TZ) ⟨rfl,rfl,trivial⟩ ?_;refine m5 24 [true,true,true,true,true,true,true,true,true,true,false,false,false,false,false,false,false,false,false,false,false,false,false,false] [6] [1] [.obj b1 27 (.rep aj a0)] rfl (by kernel_rfl) (by kernel_rfl) (by kernel_rfl) cY (fun vs hv hB=>?_);obtain⟨w0,Vr,rfl,UB⟩:=ak hv;obtain⟨w1,Vq,rfl,UA⟩:=ak UB;obtain⟨w2,Vp,rfl,Uz⟩:=ak UA;obtain⟨w3,Vo,rfl,Uy⟩:=ak Uz;obtain⟨w4,Vn,rfl,Ux⟩:=ak Uy;obtain⟨w5,Vm,rfl,Uw⟩:=ak Ux;obtain⟨w6,Vl,rfl,Uu⟩:=ak Uw;obtain⟨w7,Vk,rfl,Ut⟩:=ak Uu;obtain⟨w8,Vj,rfl,Us⟩:=ak Ut;obtain⟨x,US,rfl,qt⟩:=ak Us;obtain⟨Vi,UR,rfl,pp⟩:=ak qt;obtain⟨Vh,UQ,rfl,mc⟩:=ak pp;obtain⟨Vg,UP,rfl,ac⟩:=ak mc;obtain⟨Vf,UO,rfl,Y⟩:=ak ac;obtain⟨Ve,UN,rfl,X⟩:=ak Y;obtain⟨Vd,UM,rfl,U⟩:=ak X;obtain⟨Vb,UL,rfl,Q⟩:=ak U;obtain⟨Va,UK,rfl,O⟩:=ak Q;obtain⟨U8,UJ,rfl,M⟩:=ak O;obtain⟨U7,UI,rfl,J⟩:=ak M;obtain⟨U6,UH,rfl,F⟩:=ak J;obtain⟨U4,UG,rfl,E⟩:=ak F;obtain⟨U2,UF,rfl,D⟩:=ak E;obtain⟨U1,UE,rfl,y⟩:=ak D;obtain rfl:=kH y;refine⟨[0,1],[.sl x 3 (.int .i64) (c.1++[s])],by kernel_rfl,by decide,?_⟩;refine rj rfl rfl rfl rfl (gh rfl) ⟨rfl,trivial⟩ (by kernel_rfl) ?_;refine CG (by kernel_rfl) ?_;refine aq (au (aK (tn (ab ?_))));refine mq ?_;obtain⟨Um,TY,h⟩:=aa h
           refine jb (bf rfl TY) ?_;refine aq (nl ?_);exact jz (x,(c.1++[s],Un,Um)) h [0,1]
        ·refine xa ?_;exact jz (j,(c.1,c.2.1)) h [0,1]
       ·refine sr (mq ?_);refine fl cV ?_;refine lo bI ?_;refine mq ?_;obtain⟨UT,TX,h⟩:=aa h;refine jb (aI (t:=(.int .i64)) rfl dQ cH TX) ?_;refine ja (ao (t:=(.int .i64)) rfl cH rfl) ?_;refine jb (f5 rfl) ?_;refine nt (ci h (fun h=>?_) (fun h=>?_))
        ·refine sr (cq (nt (aB (br (aZ (aO ?_))))));obtain rfl:=hR _ h;exact ra
        ·refine aY (bn ?_);exact jz (l,x9.1) h [0,1]
      ·refine ab (mq ?_);obtain⟨Ul,se,h⟩:=aa h;refine jb (bf rfl se) ?_;refine aq (nl ?_);exact jz (z8,(x7,Ul)) h [0,1]
     ·refine xa ?_;exact jz (z6,y5.1) h [0,1]
    ·refine ae (sr (mq ?_));refine fr 1 ?_;refine ka (cO rfl rfl dQ) ?_;refine fl cQ ?_;refine fr 1 ?_;refine lo iN ?_;refine ol qD ?_;refine jb (bv rfl) ?_;refine nt (ci h (fun h=>?_) (fun h=>?_))
     ·refine sr (cq (nt (rx ?_)));cases h;exact ra
     ·refine sk (sr (cq (nt (aB ?_))));cases h;exact ra
def eB(k:Nat)(a0:Int)(a1:Int)(a2:Int):Option Bool:=
 ((if a1≤a0 then(some (decide (a0≤a2))) else(some false)):Option (Bool)).bind fun x1=>
 some x1
theorem eK(k:Nat)(a0:Int)(a1:Int)(a2:Int)(r:Bool)(h:eB k a0 a1 a2=some r):
 cm Tryz.prog 43 [I a0,I a1,I a2] [] (fun _:Unit=>(bz [.eq (.bool r)],[])):=by
 unfold eB at h
 replace h:=be h
 refine cm.of 15 Tryz.func43 rfl Tryz.ntmps43 rfl fun S w0=>?_
 refine sr ?_
 refine cq ?_
 refine nt ?_
 refine aS (Z:=Unit) (α:=Bool) (fun z2 x1=>[(6,.eq (.bool x1))]) (fun z2 x1=>[]) h (fun K h=>?_) (fun z2 x1 h=>?_)
 ·
  refine ab ?_;iterate 2 refine mq ?_
  refine jb (t4 rfl) ?_;refine mq ?_;refine cd (s:=10) rfl (fun hb=>?_) (fun hb=>?_)
  ·replace h:=cI (nG hb) h;refine gm ?_;refine gm ?_;refine gb (t4 rfl) ?_;refine pt ?_;refine aq (nl ?_);exact jz ((),decide (a0≤a2)) h []
  ·replace h:=bS (mW hb) h;iterate 3 refine gn ?_
   refine pf ?_;refine aq (nl ?_);exact jz ((),false) h []
 ·
  refine aB ?_;cases h;exact ra
def cX(k:Nat)(a0:a8)(a1:gu):Nat→Int→Option (Except Int Unit)
 |0,_=>none
 |n+1,y6=>
  if y6 < (a1.2.length:Int) then((aX a1.2 y6).bind fun x8=>
  (ck (a0.1 - 1)).bind fun x9=>
  (eB k x8 0 x9).bind fun l=>
  if¬(l=true) then(some (.error 1)) else(((if 0 < y6 then((ck (y6 - 1)).bind fun h=>
  (aX a1.2 h).bind fun e=>
  some (decide (x8≤e))) else(some false)):Option (Bool)).bind fun j=>
  if j=true then(some (.error 5)) else((ck (y6+1)).bind fun c=>
  cX k a0 a1 n c))) else(some (.ok ()))
def iq(k:Nat)(a0:a8)(a1:gu):Option Int:=
 (eB k a1.1 1 3).bind fun r3=>
 if¬(r3=true) then(some 1) else(bE (α:=Unit) (cX k a0 a1 k 0) (some) fun _=>
 some 0)
theorem rH(k:Nat)(a0:a8)(a1:gu)(r:Int)(h:iq k a0 a1=some r):
 cm Tryz.prog 86 [.rep aj a0,.rep aG a1] [] (fun _:Unit=>(bz [I r],[])):=by
 unfold iq at h
 replace h:=be h
 refine cm.of 38 Tryz.func86 rfl Tryz.ntmps86 rfl fun S w0=>?_
 refine sr ?_
 refine bx fun b1=>?_
 refine bx fun b2=>?_
 refine cq ?_
 refine nt ?_
 refine ae ?_
 refine sr ?_
 refine fl mV ?_
 refine lo cH ?_
 obtain⟨r3,O,h⟩:=aa h
 have Q:=eK k a1.1 1 3 r3 O
 refine jc (ar [.tmp 8,.const (.int .i64 (1)),.const (.int .i64 (3))] rfl rfl As rfl Q) ?_
 refine ja (fm rfl) ?_
 refine nt ?_
 refine cw h (fun h=>?_) (fun h=>?_)
 ·
  refine sr (cq (nt (rx ?_)));cases h;exact ra
 ·
  refine sk (dn (Z:=Unit) (α:=Unit) (fun z5 x4=>[]) (fun z5 x4=>[]) (fun e=>e=r) h (fun e h=>Option.some.inj h) (fun K hR h=>?_) (fun z5 x4 h=>?_))
  ·refine sr (fl mU ?_);refine lo bI ?_;refine ol dQ ?_;refine eU rfl ?_;refine nt (an (aJ (fun z7 y6=>[(2,Pt b1),(3,Pt b2),(12,Ri a1.2),(13,I (a1.2.length:Int)),(14,I y6)]) (fun z7 y6=>[.obj b1 27 (.rep aj a0),.obj b2 35 (.rep aG a1)]) (cX k a0 a1) k () 0 (fun _=>rfl) h (SE.fin [1,0] ⟨rfl,rfl,rfl,rfl,rfl,trivial⟩ rfl) (fun n z7 y6 h=>?_)));unfold cX at h;refine sr (jb (bv rfl) ?_);refine nt (ae (ci h (fun h=>?_) (fun h=>?_)))
   ·refine sk (ae (an (sr (mq ?_))));obtain⟨x8,M,h⟩:=aa h;refine jb (aI (t:=(.int .i64)) rfl dQ cH M) ?_;refine ja (ao (t:=(.int .i64)) rfl cH rfl) ?_;refine aq ?_;refine aq (nt (ae (sr ?_)));refine mq ?_;refine fl iH ?_;refine lo cH ?_;obtain⟨x9,J,h⟩:=aa h;refine jb (eO rfl J) ?_;obtain⟨F,y,h⟩:=aa h;refine jc (ar [.tmp 19,.const (.int .i64 (0)),.tmp 22] rfl rfl As rfl (eK k x8 0 x9 F y)) ?_;refine ja (fm rfl) ?_;refine nt (cw h (fun h=>?_) (fun h=>?_))
    ·refine sr (cq (nt (rx (br (aZ (aO ?_))))));obtain rfl:=hR _ h;exact ra
    ·refine sk (aS (Z:=Unit) (α:=Bool) (fun j c=>[(2,Pt b1),(3,Pt b2),(12,Ri a1.2),(13,I (a1.2.length:Int)),(14,I y6),(36,.eq (.bool c))]) (fun j c=>[.obj b1 27 (.rep aj a0),.obj b2 35 (.rep aG a1)]) h (fun K h=>?_) (fun j c h=>?_))
     ·refine ab (mq ?_);refine jb (f5 rfl) ?_;refine mq ?_;refine cd (s:=27) rfl (fun hb=>?_) (fun hb=>?_)
      ·replace h:=cI (nG hb) h;refine gm ?_;refine ga (aA rfl mU) ?_;refine fr 1 ?_;refine mi rfl rfl rfl rfl rfl rfl (ap rfl bI lg rfl) ⟨rfl,trivial⟩ ?_;refine gm ?_;obtain⟨U,x,h⟩:=aa h;refine gb (eO rfl x) ?_;obtain⟨E,u,h⟩:=aa h;refine gb (aI (t:=(.int .i64)) rfl dQ cH u) ?_;refine ga (ao (t:=(.int .i64)) rfl cH rfl) ?_;refine gb (t4 rfl) ?_;refine pt (nl ?_);exact jz ((),decide (x8≤E)) h [1,0]
      ·replace h:=bS (mW hb) h;iterate 8 refine gn ?_
       refine pf (nl ?_);exact jz ((),false) h [0,1]
     ·refine cv h (fun h=>?_) (fun h=>?_)
      ·refine sr (cq (nt (aB (br (aZ (aO ?_))))));obtain rfl:=hR _ h;exact ra
      ·refine aY (aK (tn (ab ?_)));obtain⟨D,l,h⟩:=aa h;refine jb (bf rfl l) ?_;refine mq (nl ?_);exact jz ((),D) h [0,1]
   ·refine xa ?_;exact jz ((),()) h []
  ·refine sr (cq (nt (aB ?_)));cases h;exact ra
def fD(k:Nat)(a0:a8):Nat→Int→Option (Except Int Unit)
 |0,_=>none
 |n+1,y5=>
  if y5 < (a0.2.1.length:Int) then((aX a0.2.1 y5).bind fun x7=>
  (iq k a0 x7).bind fun r9=>
  if¬(r9=0) then(some (.error r9)) else((ck (y5+1)).bind fun c=>
  fD k a0 n c)) else(some (.ok ()))
def fC(k:Nat)(a0:a8):Nat→Int→Option (Except Int Unit)
 |0,_=>none
 |n+1,c=>
  if c < (a0.2.2.length:Int) then((aX a0.2.2 c).bind fun h=>
  (eB k h 0 9).bind fun j=>
  if¬(j=true) then(some (.error 1)) else((ck (c+1)).bind fun e=>
  fC k a0 n e)) else(some (.ok ()))
def kg(k:Nat)(a0:a8):Option Int:=
 (eB k a0.1 1 6).bind fun r2=>
 if¬(r2=true) then(some 1) else(if 5 < (a0.2.1.length:Int) then(some 6) else(bE (α:=Unit) (fD k a0 k 0) (some) fun _=>
 if(a0.2.2.length:Int) < 1 then(some 7) else(if 3 < (a0.2.2.length:Int) then(some 6) else(bE (α:=Unit) (fC k a0 k 0) (some) fun _=>
 some 0))))
theorem nO(k:Nat)(a0:a8)(r:Int)(h:kg k a0=some r):
 cm Tryz.prog 53 [.rep aj a0] [] (fun _:Unit=>(bz [I r],[])):=by
 unfold kg at h
 replace h:=be h
 refine cm.of 51 Tryz.func53 rfl Tryz.ntmps53 rfl fun S w0=>?_
 refine sr ?_
 refine bx fun b1=>?_
 refine cq ?_
 refine nt ?_
 refine ae ?_
 refine sr ?_
 refine fl iH ?_
 refine lo cH ?_
 obtain⟨r2,U,h⟩:=aa h
 have X:=eK k a0.1 1 6 r2 U
 refine jc (ar [.tmp 10,.const (.int .i64 (1)),.const (.int .i64 (6))] rfl rfl As rfl X) ?_
 refine ja (fm rfl) ?_
 refine nt ?_
 refine cw h (fun h=>?_) (fun h=>?_)
 ·
  refine sr (cq (nt (rx ?_)));cases h;exact ra
 ·
  refine sk (ae (sr (fl cQ ?_)));refine lo iN ?_;refine ol qD ?_;refine jb (f5 rfl) ?_;refine nt (ci h (fun h=>?_) (fun h=>?_))
  ·refine sr (cq (nt (rx ?_)));cases h;exact ra
  ·refine sk (dn (Z:=Unit) (α:=Unit) (fun z4 x3=>[(1,Pt b1)]) (fun z4 x3=>[.obj b1 27 (.rep aj a0)]) (fun e=>e=r) h (fun e h=>Option.some.inj h) (fun K hR h=>?_) (fun z4 x3 h=>?_))
   ·refine sr (fl cQ ?_);refine lo iN ?_;refine ol qD ?_;refine eU rfl ?_;refine nt (an (aJ (fun z6 y5=>[(1,Pt b1),(18,Rs aG a0.2.1),(19,I (a0.2.1.length:Int)),(20,I y5)]) (fun z6 y5=>[.obj b1 27 (.rep aj a0)]) (fD k a0) k () 0 (fun _=>rfl) h (SE.fin [0] ⟨rfl,rfl,rfl,rfl,trivial⟩ rfl) (fun n z6 y5 h=>?_)));unfold fD at h;refine sr (jb (bv rfl) ?_);refine nt (ae (ci h (fun h=>?_) (fun h=>?_)))
    ·refine sk (ae (an (sr ?_)));obtain⟨x7,O,h⟩:=aa h;refine jb (aI (t:=aG) rfl qD iY O) ?_;refine ja (ao (t:=aG) rfl iY rfl) ?_;refine aD rfl rfl rfl (bg rfl uE KN) trivial fun b8=>?_;refine bj rfl rfl (bm rfl iY rfl rfl rfl) ⟨rfl,rfl,trivial⟩ ?_;refine nt (sr (fr 1 ?_));refine lo dy ?_;refine fr 1 ?_;refine lo iY ?_;obtain⟨r9,Q,h⟩:=aa h;refine jb (ar [.tmp 24,.tmp 25] rfl rfl RV rfl (rH k a0 x7 r9 Q)) ?_;refine aq (nt (sr ?_));refine mq ?_;refine jb (ig rfl) ?_;refine nt (cn h (fun h=>?_) (fun h=>?_))
     ·refine sr (mq ?_);refine aq (nt (aB (br (aZ (aO ?_)))));obtain rfl:=hR _ h;exact ra
     ·refine aY (aK (tn (ab ?_)));obtain⟨J,y,h⟩:=aa h;refine jb (bf rfl y) ?_;refine mq (nl ?_);exact jz ((),J) h [1]
    ·refine xa ?_;exact jz ((),()) h [0]
   ·refine ae (sr (fl cV ?_));refine lo bI ?_;refine ol dQ ?_;refine aq (nt (an (sr ?_)));refine mq ?_;refine jb (bv rfl) ?_;refine aq (nt ?_);refine ci h (fun h=>?_) (fun h=>?_)
    ·refine sr (cq (nt (aB (aZ (aO ?_)))));cases h;exact ra
    ·refine sr (mq ?_);refine jb (f5 rfl) ?_;refine aq (nt ?_);refine ci h (fun h=>?_) (fun h=>?_)
     ·refine sr (cq (nt (aB (aZ (aO ?_)))));cases h;exact ra
     ·refine aY (aK (tn (dn (Z:=Unit) (α:=Unit) (fun l s=>[]) (fun l s=>[]) (fun e=>e=r) h (fun e h=>Option.some.inj h) (fun K hR h=>?_) (fun l s h=>?_))))
      ·refine sr (fl cV ?_);refine lo bI ?_;refine ol dQ ?_;refine eU rfl ?_;refine nt (an (aJ (fun j c=>[(41,Ri a0.2.2),(42,I (a0.2.2.length:Int)),(43,I c)]) (fun j c=>[]) (fC k a0) k () 0 (fun _=>rfl) h (SE.fin [] ⟨rfl,rfl,rfl,trivial⟩ rfl) (fun n j c h=>?_)));unfold fC at h;refine sr (jb (bv rfl) ?_);refine nt (ae (ci h (fun h=>?_) (fun h=>?_)))
       ·refine sk (ae (an (sr ?_)));obtain⟨F,x,h⟩:=aa h;refine jb (aI (t:=(.int .i64)) rfl dQ cH x) ?_;refine ja (ao (t:=(.int .i64)) rfl cH rfl) ?_;refine aq (nt (sr ?_));refine mq ?_;obtain⟨M,D,h⟩:=aa h;refine jc (ar [.tmp 47,.const (.int .i64 (0)),.const (.int .i64 (9))] rfl rfl As rfl (eK k F 0 9 M D)) ?_;refine ja (fm rfl) ?_;refine nt (cw h (fun h=>?_) (fun h=>?_))
        ·refine sr (cq (nt (aB (br (aZ (aO ?_))))));obtain rfl:=hR _ h;exact ra
        ·refine aY (aK (tn (ab ?_)));obtain⟨E,u,h⟩:=aa h;refine jb (bf rfl u) ?_;refine mq (nl ?_);exact jz ((),E) h []
       ·refine xa ?_;exact jz ((),()) h []
      ·refine sr (cq (nt (aB ?_)));cases h;exact ra
def eM(k:Nat)(a0:Int)(a1:Int):Option Bool:=
 (cp (0≤a1)).bind fun _=>
 some (decide ((wy .u8 (ik .u8 a0 a1) 1)=1))
theorem io(k:Nat)(a0:Int)(a1:Int)(r:Bool)(h:eM k a0 a1=some r):
 cm Tryz.prog 71 [.eq (.int .u8 a0),I a1] [] (fun _:Unit=>(bz [.eq (.bool r)],[])):=by
 unfold eM at h
 replace h:=be h
 refine cm.of 10 Tryz.func71 rfl Tryz.ntmps71 rfl fun S w0=>?_
 refine sr ?_
 refine cq ?_
 refine nt ?_
 refine sr ?_
 iterate 2 refine mq ?_
 obtain⟨u1,c,h⟩:=aa h
 refine jb (vo rfl (av c)) ?_
 refine jb (OP rfl) ?_
 refine jb (eh rfl) ?_
 refine aq ?_
 refine nt ?_
 refine aB ?_
 cases h
 exact ra
def gB(k:Nat)(a0:a8)(a1:(List Int)):Nat→(Int×Int)→Option Int
 |0,_=>none
 |n+1,y4=>
  if y4.2 < (a1.length:Int) then((aX a1 y4.2).bind fun x6=>
  (aX a0.2.1 x6).bind fun x7=>
  (ck (y4.1+x7.1)).bind fun x8=>
  (ck (y4.2+1)).bind fun x9=>
  gB k a0 a1 n (x8,x9)) else(some y4.1)
def nc(k:Nat)(a0:a8)(a1:(List Int)):Option Int:=
 ((gB k a0 a1 k (0,0)):Option (Int)).bind fun x2=>
 some x2
theorem tX(k:Nat)(a0:a8)(a1:(List Int))(r:Int)(h:nc k a0 a1=some r):
 cm Tryz.prog 91 [.rep aj a0,Ri a1] [] (fun _:Unit=>(bz [I r],[])):=by
 unfold nc at h
 replace h:=be h
 refine cm.of 24 Tryz.func91 rfl Tryz.ntmps91 rfl fun S w0=>?_
 refine sr ?_
 refine bx fun b1=>?_
 refine cq ?_
 refine nt ?_
 refine sr ?_
 refine cq ?_
 refine nt ?_
 refine aS (Z:=Unit) (α:=Int) (fun z3 x2=>[(5,I x2)]) (fun z3 x2=>[]) h (fun K h=>?_) (fun z3 x2 h=>?_)
 ·
  refine sr (mq ?_);refine ol dQ ?_;refine eU rfl ?_;refine nt (an (aJ (fun z5 y4=>[(2,Pt b1),(5,I y4.1),(8,Ri a1),(9,I (a1.length:Int)),(10,I y4.2)]) (fun z5 y4=>[.obj b1 27 (.rep aj a0)]) (gB k a0 a1) k () (0,0) (fun _=>rfl) h (SE.fin [0] ⟨rfl,rfl,rfl,rfl,rfl,trivial⟩ rfl) (fun n z5 y4 h=>?_)));unfold gB at h;refine sr (jb (bv rfl) ?_);refine nt (ae (ci h (fun h=>?_) (fun h=>?_)))
  ·refine sk (ae (an (sr ?_)));obtain⟨x6,l,h⟩:=aa h;refine jb (aI (t:=(.int .i64)) rfl dQ cH l) ?_;refine ja (ao (t:=(.int .i64)) rfl cH rfl) ?_;refine aq (nt (ab ?_));refine mq ?_;refine fl cQ ?_;refine lo iN ?_;refine mq ?_;obtain⟨x7,j,h⟩:=aa h;refine jb (aI (t:=aG) rfl qD iY j) ?_;refine ja (aM 1 false rfl mV rfl) ?_;refine ja (ao (t:=(.int .i64)) rfl cH rfl) ?_;obtain⟨x8,e,h⟩:=aa h;refine jb (bf rfl e) ?_;refine aq (au (aK (tn (ab ?_))));obtain⟨x9,c,h⟩:=aa h;refine jb (bf rfl c) ?_;refine mq (nl ?_);exact jz ((),(x8,x9)) h [0]
  ·refine xa ?_;exact jz ((),y4.1) h []
 ·
  refine sr (mq ?_);refine aq (nt (aB ?_));cases h;exact ra
def gI(k:Nat)(a0:Int)(a1:Int):Option Int:=
 (cp (0≤a1)).bind fun _=>
 some (EQ .u8 a0 (ny .u8 1 a1))
theorem jj(k:Nat)(a0:Int)(a1:Int)(r:Int)(h:gI k a0 a1=some r):
 cm Tryz.prog 92 [.eq (.int .u8 a0),I a1] [] (fun _:Unit=>(bz [.eq (.int .u8 r)],[])):=by
 unfold gI at h
 replace h:=be h
 refine cm.of 9 Tryz.func92 rfl Tryz.ntmps92 rfl fun S w0=>?_
 refine sr ?_
 refine cq ?_
 refine nt ?_
 refine sr ?_
 iterate 2 refine mq ?_
 obtain⟨u1,c,h⟩:=aa h
 refine jb (GH rfl (av c)) ?_
 refine jb (ON rfl) ?_
 refine aq ?_
 refine nt ?_
 refine aB ?_
 cases h
 exact ra
def eG(k:Nat)(a0:a8)(x8:(List Int)):Nat→(Int×Int)→Option (Except Value Int)
 |0,_=>none
 |n+1,c=>
  if c.2 < (x8.length:Int) then((aX x8 c.2).bind fun e=>
  (ck ((a0.2.1.length:Int) - 1)).bind fun j=>
  (eB k e 0 j).bind fun s=>
  if¬(s=true) then(some (.error (.iface 140 (.agg #[.int .i64 3])))) else((eM k c.1 e).bind fun r=>
  if r=true then(some (.error (.iface 140 (.agg #[.int .i64 4])))) else((gI k c.1 e).bind fun l=>
  (ck (c.2+1)).bind fun h=>
  eG k a0 x8 n (l,h)))) else(some (.ok c.1))
def fy(k:Nat)(a0:a8)(a1:(List (List Int))):Nat→(Int×Int)→Option (Except Value Int)
 |0,_=>none
 |n+1,y4=>
  if y4.2 < (a1.length:Int) then(bE (α:=Int) ((aX a1 y4.2).bind fun x8=>
  bE (α:=Int) (eG k a0 x8 k (y4.1,0)) (fun e=>some (.error e)) fun x9=>
  (nc k a0 x8).bind fun j=>
  (aX a0.2.2 y4.2).bind fun h=>
  if h < j then(some (.error (.iface 140 (.agg #[.int .i64 12])))) else(some (.ok x9))) (fun e=>some (.error e)) fun x6=>
  (ck (y4.2+1)).bind fun c=>
  fy k a0 a1 n (x6,c)) else(some (.ok y4.1))
def lA(k:Nat)(a0:a8)(a1:(List (List Int))):Option Value:=
 if(a1.length:Int) < (a0.2.2.length:Int) then(some (.iface 140 (.agg #[.int .i64 7]))) else(if(a0.2.2.length:Int) < (a1.length:Int) then(some (.iface 140 (.agg #[.int .i64 6]))) else(bE (α:=Int) (fy k a0 a1 k (0,0)) (some) fun x2=>
 (cp (0≤(a0.2.1.length:Int))).bind fun _=>
 if¬(x2=(IntKind.u8.wrap ((ny .u8 1 (a0.2.1.length:Int)) - 1))) then(some (.iface 140 (.agg #[.int .i64 7]))) else(some (.nilIface))))
theorem rC(k:Nat)(a0:a8)(a1:(List (List Int)))(r:Value)(h:lA k a0 a1=some r):
 cm Tryz.prog 81 [.rep aj a0,.rep (.slice (.slice (.int .i64))) a1] [] (fun _:Unit=>(bz [.eq r],[])):=by
 unfold lA at h
 replace h:=be h
 refine cm.of 80 Tryz.func81 rfl Tryz.ntmps81 rfl fun S w0=>?_
 refine sr ?_
 refine bx fun b1=>?_
 refine cq ?_
 refine nt ?_
 refine ae ?_
 refine sr ?_
 refine fl cV ?_
 refine lo bI ?_
 refine ol dQ ?_
 refine aq ?_
 refine nt ?_
 refine an ?_
 refine sr ?_
 refine mq ?_
 refine ol k9 ?_
 refine mq ?_
 refine jb (bv rfl) ?_
 refine aq ?_
 refine nt ?_
 refine ci h (fun h=>?_) (fun h=>?_)
 ·
  refine sr (ja (cR [(0,.const (.int .i64 (7)),_)] rfl wM uF tO (iw ⟨rfl,trivial⟩) rfl) ?_);refine ja (np rfl E7) ?_;refine aq (nt (aB (aZ (aO ?_))));cases h;exact ra
 ·
  refine sr (mq ?_);refine ol k9 ?_;refine mq ?_;refine jb (f5 rfl) ?_;refine aq (nt ?_);refine ci h (fun h=>?_) (fun h=>?_)
  ·refine sr (ja (cR [(0,.const (.int .i64 (6)),_)] rfl wM uF tO (iw ⟨rfl,trivial⟩) rfl) ?_);refine ja (np rfl E7) ?_;refine aq (nt (aB (aZ (aO ?_))));cases h;exact ra
  ·refine aY (aK (tn (sr (cq (nt ?_)))));refine dn (Z:=Unit) (α:=Int) (fun z3 x2=>[(2,Pt b1),(6,.eq (.int .u8 x2))]) (fun z3 x2=>[.obj b1 27 (.rep aj a0)]) (fun e=>e=r) h (fun e h=>Option.some.inj h) (fun K hR h=>?_) (fun z3 x2 h=>?_)
   ·refine sr (mq ?_);refine ol k9 ?_;refine eU rfl ?_;refine nt (an (aJ (fun z5 y4=>[(2,Pt b1),(6,.eq (.int .u8 y4.1)),(28,.rep (.slice (.slice (.int .i64))) a1),(29,I (a1.length:Int)),(30,I y4.2)]) (fun z5 y4=>[.obj b1 27 (.rep aj a0)]) (fy k a0 a1) k () (0,0) (fun _=>rfl) h (SE.fin [0] ⟨rfl,rfl,rfl,rfl,rfl,trivial⟩ rfl) (fun n z5 y4 h=>?_)));unfold fy at h;refine sr (jb (bv rfl) ?_);refine nt (ae (ci h (fun h=>?_) (fun h=>?_)))
    ·refine sk (dn (Z:=Unit) (α:=Int) (fun z7 x6=>[(2,Pt b1),(6,.eq (.int .u8 x6)),(28,.rep (.slice (.slice (.int .i64))) a1),(29,I (a1.length:Int)),(30,I y4.2)]) (fun z7 x6=>[.obj b1 27 (.rep aj a0)]) (fun e=>e=r) h (fun e h=>hR e h) (fun K hR h=>?_) (fun z7 x6 h=>?_))
     ·refine an (sr (mq ?_));obtain⟨x8,se,h⟩:=aa h;refine jb (aI (t:=(.slice (.int .i64))) rfl k9 bI se) ?_;refine ja (ao (t:=(.slice (.int .i64))) rfl bI rfl) ?_;refine aq ?_;refine aq (nt ?_);refine dn (Z:=Unit) (α:=Int) (fun s x9=>[(2,Pt b1),(6,.eq (.int .u8 x9)),(7,I y4.2),(8,Ri x8),(28,.rep (.slice (.slice (.int .i64))) a1),(29,I (a1.length:Int)),(30,I y4.2)]) (fun s x9=>[.obj b1 27 (.rep aj a0)]) (fun e=>e=r) h (fun e h=>hR e h) (fun K hR h=>?_) (fun s x9 h=>?_)
      ·refine sr (mq ?_);refine ol dQ ?_;refine eU rfl ?_;refine nt (an (aJ (fun l c=>[(2,Pt b1),(6,.eq (.int .u8 c.1)),(7,I y4.2),(8,Ri x8),(28,.rep (.slice (.slice (.int .i64))) a1),(29,I (a1.length:Int)),(30,I y4.2),(35,Ri x8),(36,I (x8.length:Int)),(37,I c.2)]) (fun l c=>[.obj b1 27 (.rep aj a0)]) (eG k a0 x8) k () (y4.1,0) (fun _=>rfl) h (SE.fin [0] ⟨rfl,rfl,rfl,rfl,rfl,rfl,rfl,rfl,rfl,rfl,trivial⟩ rfl) (fun n l c h=>?_)));unfold eG at h;refine sr (jb (bv rfl) ?_);refine nt (ae (ci h (fun h=>?_) (fun h=>?_)))
       ·refine sk (ae (an (sr ?_)));obtain⟨j,F,h⟩:=aa h;refine jb (aI (t:=(.int .i64)) rfl dQ cH F) ?_;refine ja (ao (t:=(.int .i64)) rfl cH rfl) ?_;refine aq (nt (ae (sr ?_)));refine mq ?_;refine fl cQ ?_;refine lo iN ?_;refine ol qD ?_;obtain⟨ac,E,h⟩:=aa h;refine jb (eO rfl E) ?_;obtain⟨qt,U,h⟩:=aa h;refine jc (ar [.tmp 41,.const (.int .i64 (0)),.tmp 45] rfl rfl As rfl (eK k j 0 ac qt U)) ?_;refine ja (fm rfl) ?_;refine nt (cw h (fun h=>?_) (fun h=>?_))
        ·refine sr (ja (cR [(0,.const (.int .i64 (3)),_)] rfl wM uF tO (iw ⟨rfl,trivial⟩) rfl) ?_);refine ja (np rfl E7) ?_;refine aq (nt (rx (br (aZ (aO (br (aZ (aO ?_))))))));obtain rfl:=hR _ h;exact ra
        ·refine sk (ae (sr ?_));iterate 2 refine mq ?_
         obtain⟨pp,Q,h⟩:=aa h;refine jb (ar [.tmp 50,.tmp 51] rfl rfl Ko rfl (io k c.1 j pp Q)) ?_;refine nt (cv h (fun h=>?_) (fun h=>?_))
         ·refine sr (ja (cR [(0,.const (.int .i64 (4)),_)] rfl wM uF tO (iw ⟨rfl,trivial⟩) rfl) ?_);refine ja (np rfl E7) ?_;refine aq (nt (rx (br (aZ (aO (br (aZ (aO ?_))))))));obtain rfl:=hR _ h;exact ra
         ·refine sk (ab ?_);iterate 2 refine mq ?_
          obtain⟨u,O,h⟩:=aa h;refine jb (ar [.tmp 55,.tmp 56] rfl rfl J8 rfl (jj k c.1 j u O)) ?_;refine aq (au (aK (tn (ab ?_))));obtain⟨Y,D,h⟩:=aa h;refine jb (bf rfl D) ?_;refine mq (nl ?_);exact jz ((),(u,Y)) h [0]
       ·refine xa ?_;exact jz ((),c.1) h [0]
      ·refine ae (bK ?_);refine ea 0 (ap rfl dy (yM) rfl) ?_;refine dm ?_;obtain⟨mc,M,h⟩:=aa h;refine db (ar [.tmp 59,.tmp 60] rfl rfl PU rfl (tX k a0 x8 mc M)) ?_;refine da (aA rfl cV) ?_;refine ea 0 (ap rfl bI lg rfl) ?_;refine dm ?_;obtain⟨TX,y,h⟩:=aa h;refine db (aI (t:=(.int .i64)) rfl dQ cH y) ?_;refine da (ao (t:=(.int .i64)) rfl cH rfl) ?_;refine df cY ?_;refine jb (f5 rfl) ?_;refine nt (ci h (fun h=>?_) (fun h=>?_))
       ·refine sr (ja (cR [(0,.const (.int .i64 (12)),_)] rfl wM uF tO (iw ⟨rfl,trivial⟩) rfl) ?_);refine ja (np rfl E7) ?_;refine aq (nt (aB (br (aZ (aO ?_)))));obtain rfl:=hR _ h;exact ra
       ·refine aY (bn ?_);exact jz ((),x9) h [0]
     ·refine ab ?_;obtain⟨X,x,h⟩:=aa h;refine jb (bf rfl x) ?_;refine mq (nl ?_);exact jz ((),(x6,X)) h [0]
    ·refine xa ?_;exact jz ((),y4.1) h [0]
   ·refine ae (sr (mq ?_));refine fl cQ ?_;refine lo iN ?_;refine ol qD ?_;obtain⟨TY,J,h⟩:=aa h;refine jb (GH rfl (av J)) ?_;refine jb (xT rfl) ?_;refine jb (ig rfl) ?_;refine nt (cn h (fun h=>?_) (fun h=>?_))
    ·refine sr (ja (cR [(0,.const (.int .i64 (7)),_)] rfl wM uF tO (iw ⟨rfl,trivial⟩) rfl) ?_);refine ja (np rfl E7) ?_;refine aq (nt (rx ?_));cases h;exact ra
    ·refine sk (sr (cq (nt (aB ?_))));cases h;exact ra
def jK(k:Nat)(a0:(List (List Int)))(y5:(List (List Int))×Int):Nat→((List (List Int))×Int)→Option (List (List Int))
 |0,_=>none
 |n+1,y9=>
  if y9.2 < 5 then((((cp (0≤y5.2∧y5.2 < 3)).bind fun _=>
  (aX y9.1 y5.2).bind fun c=>
  (cp (0≤y9.2∧y9.2 < 5)).bind fun _=>
  ((if y5.2 < (a0.length:Int) then((aX a0 y5.2).bind fun r=>
  some (decide (y9.2 < (r.length:Int)))) else(some false)):Option (Bool)).bind fun s=>
  if s=true then((aX a0 y5.2).bind fun l=>
  (aX l y9.2).bind fun j=>
  (cp (0≤y5.2∧y5.2 < 3)).bind fun _=>
  (aX (List.set y9.1 (Int.toNat y5.2) (List.set c (Int.toNat y9.2) (-1:Int))) y5.2).bind fun h=>
  (cp (0≤y9.2∧y9.2 < 5)).bind fun _=>
  some (List.set (List.set y9.1 (Int.toNat y5.2) (List.set c (Int.toNat y9.2) (-1:Int))) (Int.toNat y5.2) (List.set h (Int.toNat y9.2) j))) else(some (List.set y9.1 (Int.toNat y5.2) (List.set c (Int.toNat y9.2) (-1:Int))))):Option ((List (List Int)))).bind fun u=>
  (ck (y9.2+1)).bind fun e=>
  jK k a0 y5 n (u,e)) else(some y9.1)
def jL(k:Nat)(a0:(List (List Int))):Nat→((List (List Int))×Int)→Option (List (List Int))
 |0,_=>none
 |n+1,y5=>
  if y5.2 < 3 then(((jK k a0 y5 k (y5.1,0)):Option ((List (List Int)))).bind fun x7=>
  (ck (y5.2+1)).bind fun c=>
  jL k a0 n (x7,c)) else(some y5.1)
def fA(k:Nat)(a0:(List (List Int))):Option (List (List Int)):=
 ((jL k a0 k ([[0,0,0,0,0],[0,0,0,0,0],[0,0,0,0,0]],0)):Option ((List (List Int)))).bind fun x3=>
 some x3
theorem eZ(k:Nat)(a0:(List (List Int)))(r:(List (List Int)))(h:fA k a0=some r):
 cm Tryz.prog 47 [.rep (.slice (.slice (.int .i64))) a0] [] (fun _:Unit=>(bz [.rep (.arr 3 (.arr 5 (.int .i64))) r],[])):=by
 unfold fA at h
 replace h:=be h
 refine cm.of 43 Tryz.func47 rfl Tryz.ntmps47 rfl fun S w0=>?_
 refine sr ?_
 refine aD rfl rfl rfl (bg rfl sQ tP) trivial fun b1=>?_
 refine nt ?_
 refine sr ?_
 refine aD rfl rfl rfl (bg rfl sQ tP) trivial fun b2=>?_
 refine nt ?_
 refine aS (Z:=Unit) (α:=(List (List Int))) (fun z4 x3=>[(2,Pt b1),(3,Pt b2)]) (fun z4 x3=>[.obj b1 85 (.rep (.arr 3 (.arr 5 (.int .i64))) [[0,0,0,0,0],[0,0,0,0,0],[0,0,0,0,0]]),.obj b2 85 (.rep (.arr 3 (.arr 5 (.int .i64))) x3)]) h (fun K h=>?_) (fun z4 x3 h=>?_)
 ·
  refine sr (eU rfl ?_);refine nt (an (aJ (fun z6 y5=>[(0,.rep (.slice (.slice (.int .i64))) a0),(2,Pt b1),(3,Pt b2),(6,I y5.2)]) (fun z6 y5=>[.obj b1 85 (.rep (.arr 3 (.arr 5 (.int .i64))) [[0,0,0,0,0],[0,0,0,0,0],[0,0,0,0,0]]),.obj b2 85 (.rep (.arr 3 (.arr 5 (.int .i64))) y5.1)]) (jL k a0) k () ([[0,0,0,0,0],[0,0,0,0,0],[0,0,0,0,0]],0) (fun _=>rfl) h (SE.fin [1,0] ⟨rfl,rfl,rfl,rfl,trivial⟩ rfl) (fun n z6 y5 h=>?_)));unfold jL at h;refine sr (jb (bv rfl) ?_);refine nt (ae (ci h (fun h=>?_) (fun h=>?_)))
  ·refine sk (aS (Z:=Unit) (α:=(List (List Int))) (fun z8 x7=>[(0,.rep (.slice (.slice (.int .i64))) a0),(2,Pt b1),(3,Pt b2),(6,I y5.2)]) (fun z8 x7=>[.obj b1 85 (.rep (.arr 3 (.arr 5 (.int .i64))) [[0,0,0,0,0],[0,0,0,0,0],[0,0,0,0,0]]),.obj b2 85 (.rep (.arr 3 (.arr 5 (.int .i64))) x7)]) h (fun K h=>?_) (fun z8 x7 h=>?_))
   ·refine an (sr (mq ?_));refine aq (nt (sr ?_));refine eU rfl ?_;refine nt (an (aJ (fun J y9=>[(0,.rep (.slice (.slice (.int .i64))) a0),(2,Pt b1),(3,Pt b2),(4,I y5.2),(6,I y5.2),(9,I y9.2)]) (fun J y9=>[.obj b1 85 (.rep (.arr 3 (.arr 5 (.int .i64))) [[0,0,0,0,0],[0,0,0,0,0],[0,0,0,0,0]]),.obj b2 85 (.rep (.arr 3 (.arr 5 (.int .i64))) y9.1)]) (jK k a0 y5) k () (y5.1,0) (fun _=>rfl) h (SE.fin [0,1] ⟨rfl,rfl,rfl,rfl,rfl,rfl,trivial⟩ rfl) (fun n J y9 h=>?_)));unfold jK at h;refine sr (jb (bv rfl) ?_);refine nt (ae (ci h (fun h=>?_) (fun h=>?_)))
    ·refine sk (aS (Z:=Unit) (α:=(List (List Int))) (fun F l=>[(0,.rep (.slice (.slice (.int .i64))) a0),(2,Pt b1),(3,Pt b2),(4,I y5.2),(6,I y5.2),(9,I y9.2)]) (fun F l=>[.obj b1 85 (.rep (.arr 3 (.arr 5 (.int .i64))) [[0,0,0,0,0],[0,0,0,0,0],[0,0,0,0,0]]),.obj b2 85 (.rep (.arr 3 (.arr 5 (.int .i64))) l)]) h (fun K h=>?_) (fun F l h=>?_))
     ·refine an (sr (mq ?_));refine aq (nt (sr ?_));iterate 2 refine mq ?_
      obtain⟨Ua,x,h⟩:=aa h;refine jb (iE rfl QU F5 (av x).1 (av x).2) ?_;obtain⟨D,ac,h⟩:=aa h;obtain⟨T9,e,h⟩:=aa h;refine jb (iE rfl QV cH (av e).1 (av e).2) ?_;refine fr 1 ?_;refine bj rfl rfl (nW (t:=(.int .i64)) (off:=0) (i:=y5.2) (j:=y9.2) (N:=3) (L:=5) rfl cH .int rfl rfl rfl rfl ac (av e).1 (av e).2 rfl) ⟨rfl,rfl,trivial⟩ ?_;refine nt (aS (Z:=Unit) (α:=Bool) (fun E y=>[(0,.rep (.slice (.slice (.int .i64))) a0),(2,Pt b1),(3,Pt b2),(4,I y5.2),(5,I y9.2),(6,I y5.2),(9,I y9.2),(28,.eq (.bool y))]) (fun E y=>[.obj b1 85 (.rep (.arr 3 (.arr 5 (.int .i64))) [[0,0,0,0,0],[0,0,0,0,0],[0,0,0,0,0]]),.obj b2 85 (.rep (.arr 3 (.arr 5 (.int .i64))) (List.set y9.1 (Int.toNat y5.2) (List.set D (Int.toNat y9.2) (-1:Int))))]) h (fun K h=>?_) (fun E y h=>?_))
      ·refine ab ?_;iterate 2 refine mq ?_
       refine ol k9 ?_;refine jb (bv rfl) ?_;refine mq ?_;refine cd (s:=20) rfl (fun hb=>?_) (fun hb=>?_)
       ·replace h:=cI (nG hb) h;refine gm ?_;refine gm ?_;refine gm ?_;obtain⟨TX,Y,h⟩:=aa h;refine gb (aI (t:=(.slice (.int .i64))) rfl k9 bI Y) ?_;refine ga (ao (t:=(.slice (.int .i64))) rfl bI rfl) ?_;refine ga (kd rfl rfl dQ) ?_;refine gb (bv rfl) ?_;refine pt (nl ?_);exact jz ((),decide (y9.2 < (TX.length:Int))) h [1,0]
       ·replace h:=bS (mW hb) h;iterate 7 refine gn ?_
        refine pf (nl ?_);exact jz ((),false) h [1,0]
      ·refine cv h (fun h=>?_) (fun h=>?_)
       ·refine bK ?_;refine dm ?_;refine dm ?_;refine dm ?_;refine dm ?_;obtain⟨TY,X,h⟩:=aa h;refine db (aI (t:=(.slice (.int .i64))) rfl k9 bI X) ?_;refine da (ao (t:=(.slice (.int .i64))) rfl bI rfl) ?_;refine dm ?_;obtain⟨se,U,h⟩:=aa h;refine db (aI (t:=(.int .i64)) rfl dQ cH U) ?_;refine da (ao (t:=(.int .i64)) rfl cH rfl) ?_;obtain⟨T8,u,h⟩:=aa h;refine db (iE rfl QU F5 (av u).1 (av u).2) ?_;refine df cY ?_;obtain⟨qt,Q,h⟩:=aa h;obtain⟨TZ,c,h⟩:=aa h;refine jb (iE rfl QV cH (av c).1 (av c).2) ?_;refine fr 1 ?_;refine bj rfl rfl (nW (t:=(.int .i64)) (off:=0) (i:=y5.2) (j:=y9.2) (N:=3) (L:=5) rfl cH .int rfl rfl rfl rfl Q (av c).1 (av c).2 rfl) ⟨rfl,rfl,trivial⟩ ?_;refine au (bn ?_);exact jz ((),List.set (List.set y9.1 (Int.toNat y5.2) (List.set D (Int.toNat y9.2) (-1:Int))) (Int.toNat y5.2) (List.set qt (Int.toNat y9.2) se)) h [1,0]
       ·refine aY (bn ?_);exact jz ((),List.set y9.1 (Int.toNat y5.2) (List.set D (Int.toNat y9.2) (-1:Int))) h [0,1]
     ·refine ab ?_;obtain⟨pp,O,h⟩:=aa h;refine jb (bf rfl O) ?_;refine mq (nl ?_);exact jz ((),(l,pp)) h [0,1]
    ·refine dk (aP (aP (bL (bn ?_))));exact jz ((),y9.1) h [0,1]
   ·refine ab ?_;obtain⟨mc,M,h⟩:=aa h;refine jb (bf rfl M) ?_;refine mq (nl ?_);exact jz ((),(x7,mc)) h [0,1]
  ·refine xa ?_;exact jz ((),y5.1) h [0,1]
 ·
  refine sr (fr 1 ?_);refine lo f6 ?_;refine fr 1 ?_;refine bj rfl rfl (bm rfl f6 rfl rfl rfl) ⟨rfl,rfl,trivial⟩ ?_;refine nt (aB ?_);obtain rfl:=Option.some.inj h;exact aN () [.rep (.arr 3 (.arr 5 (.int .i64))) x3] 0 ⟨⟨_,_,_,_,_,rfl,(.head _),f6,(yM),rfl⟩,trivial⟩ rfl
def iM(k:Nat)(x5:(List Int)):Nat→((List Int)×Int)→Option (List Int)
 |0,_=>none
 |n+1,y6=>
  if y6.2 < 5 then((((aX x5 y6.2).bind fun c=>
  if 0≤c then((cp (bO (List.length y6.1+List.length [c]))).bind fun _=>
  some (y6.1++[c])) else(some y6.1)):Option ((List Int))).bind fun x8=>
  (ck (y6.2+1)).bind fun e=>
  iM k x5 n (x8,e)) else(some y6.1)
def fV(k:Nat)(a0:(List (List Int)))(a1:Int):Option (List Int):=
 (((cp (0≤a1∧a1 < 3)).bind fun _=>
 (aX a0 a1).bind fun x5=>
 iM k x5 k (([]:(List Int)),0)):Option ((List Int))).bind fun x2=>
 some x2
theorem gf(k:Nat)(a0:(List (List Int)))(a1:Int)(r:(List Int))(h:fV k a0 a1=some r):
 cm Tryz.prog 78 [.rep (.arr 3 (.arr 5 (.int .i64))) a0,I a1] [] (fun _:Unit=>(bz [Ri r],[])):=by
 unfold fV at h
 replace h:=be h
 refine cm.of 22 Tryz.func78 rfl Tryz.ntmps78 rfl fun S w0=>?_
 refine sr ?_
 refine bx fun b1=>?_
 refine cq ?_
 refine nt ?_
 refine sr ?_
 refine cq ?_
 refine nt ?_
 refine aS (Z:=Value) (α:=(List Int)) (fun z3 x2=>[(5,.eq z3)]) (fun z3 x2=>[.sl z3 3 (.int .i64) x2]) h (fun K h=>?_) (fun z3 x2 h=>?_)
 ·
  refine sr (mq ?_);obtain⟨u4,l,h⟩:=aa h;refine jb (iE rfl QU F5 (av l).1 (av l).2) ?_;obtain⟨x5,y,h⟩:=aa h;refine ka (BE (t:=(.arr 5 (.int .i64))) (off:=0) (i:=a1) (N:=3) rfl F5 (yM) rfl rfl rfl rfl y) ?_;refine eU rfl ?_;refine nt (an (eA (SE.nil 3 (.int .i64)) ?_));refine aJ (fun z7 y6=>[(5,.eq z7),(10,.rep (.arr 5 (.int .i64)) x5),(11,I y6.2)]) (fun z7 y6=>[.sl z7 3 (.int .i64) y6.1]) (iM k x5) k (.slice none 0 0) (([]:(List Int)),0) (fun _=>rfl) h (SE.fin [0] ⟨rfl,rfl,rfl,trivial⟩ rfl) (fun n z7 y6 h=>?_);unfold iM at h;refine sr (jb (bv rfl) ?_);refine nt (ae (ci h (fun h=>?_) (fun h=>?_)))
  ·refine sk (aS (Z:=Value) (α:=(List Int)) (fun z9 x8=>[(5,.eq z9),(10,.rep (.arr 5 (.int .i64)) x5),(11,I y6.2)]) (fun z9 x8=>[.sl z9 3 (.int .i64) x8]) h (fun K h=>?_) (fun z9 x8 h=>?_))
   ·refine an (sr ?_);obtain⟨c,j,h⟩:=aa h;refine jb (zE (t:=(.int .i64)) rfl QV cH rfl rfl (fun _=>rfl) j) ?_;refine aq (nt (sr ?_));refine mq ?_;refine jb (oV rfl) ?_;refine nt (ci h (fun h=>?_) (fun h=>?_))
    ·refine ab ?_;iterate 2 refine mq ?_
     refine ja (bi (t:=(.int .i64)) [(.tmp 17,_)] [c] rfl rfl dS (.cons rfl .int .nil) rfl rfl) ?_;obtain⟨D,s,h⟩:=aa h;refine dz rfl rfl rfl (bQ rfl rfl dS (av s)) ⟨rfl,rfl,trivial⟩ fun x=>?_;refine aq (au (bn ?_));exact jz (x,y6.1++[c]) h [0]
    ·refine aY (bn ?_);exact jz (z7,y6.1) h [0]
   ·refine ab ?_;obtain⟨u,e,h⟩:=aa h;refine jb (bf rfl e) ?_;refine mq (nl ?_);exact jz (z9,(x8,u)) h [0]
  ·refine xa ?_;exact jz (z7,y6.1) h [0]
 ·
  refine sr (mq ?_);refine aq (nt (aB ?_));refine bh (gx [4,5,21] ⟨rfl,rfl,rfl,trivial⟩) ?_;cases h;exact ra
def fi{σ:Type}(k:Nat)(a1:(List Int))(Y:σ→(Int×Int)→Option (σ×Bool)):Nat→(Int×σ)→Option (σ)
 |0,_=>none
 |n+1,y2=>
  if 0≤y2.1 then((aX a1 y2.1).bind fun x4=>
  (Y y2.2 (y2.1,x4)).bind fun r5=>
  if¬(r5.2=true) then(some r5.1) else((ck (y2.1 - 1)).bind fun x7=>
  fi k a1 Y n (x7,r5.1))) else(some y2.2)
def jo{σ:Type}(k:Nat)(Y:σ→(Int×Int)→Option (σ×Bool))(a1:(List Int))(s0:σ):Option (σ):=
 (ck ((a1.length:Int) - 1)).bind fun x1=>
 fi k a1 Y k (x1,s0)
theorem oH{M:Md Tryz.prog}{σ Z:Type}(E:Z→σ→List D)(l:Nat)(Y:σ→(Int×Int)→Option (σ×Bool))(k:Nat)(a1:(List Int))(c:Nat)(hY:∀z s p r,Y s p=some r→YT M l [I p.1,I p.2] (E z s) (fun z':Z=>(.eq (.bool r.2),E z' r.1))):
 ∀(z0:Z) (s0:σ) (r:σ),jo k Y a1 s0=some r→cS M 166 [.eq (.func (.yield l) #[] #[]),Pt c] ([.obj c 22 (Ri a1)]++E z0 s0) (fun z:Z=>(bz [],[.obj c 22 (Ri a1)]++E z r)):=by
 intro z0 s0 r h
 unfold jo at h
 replace h:=be h
 refine cS.of 19 Tryz.func166 rfl Tryz.ntmps166 rfl fun S w0=>?_
 refine sr ?_
 refine lo bI ?_
 refine ol dQ ?_
 obtain⟨x1,u,h⟩:=aa h
 refine jb (eO rfl u) ?_
 refine aq ?_
 refine nt ?_
 refine an ?_
 refine aJ (Z:=Z) (α:=Int×σ) (fun z3 y2=>[(0,.eq (.func (.yield l) #[] #[])),(1,Pt c),(3,I y2.1)]) (fun z3 y2=>[.obj c 22 (Ri a1)]++E z3 y2.2) (fi k a1 Y) k z0 (x1,s0) (fun _=>rfl) h (aV [.obj c 22 (Ri a1)] (E z0 s0) [0] ⟨rfl,rfl,rfl,trivial⟩ rfl) (fun n z3 y2 h=>?_)
 unfold fi at h
 refine ae ?_
 refine sr ?_
 refine mq ?_
 refine jb (oV rfl) ?_
 refine nt ?_
 refine ci h (fun h=>?_) (fun h=>?_)
 ·
  refine sk (ae (an (sr ?_)));iterate 2 refine mq ?_
  refine lo bI ?_;refine mq ?_;obtain⟨x4,j,h⟩:=aa h;refine jb (aI (t:=(.int .i64)) rfl dQ cH j) ?_;refine ja (ao (t:=(.int .i64)) rfl cH rfl) ?_;obtain⟨r5,x,h⟩:=aa h;refine pD [.obj c 22 (Ri a1)] rfl rfl rfl (xR [.tmp 12,.tmp 16] rfl rfl rfl (hY z3 y2.2 (y2.1,x4) r5 x)) ⟨rfl,rfl,rfl,trivial⟩ fun z6=>?_;refine ja (fm rfl) ?_;refine nt (cw h (fun h=>?_) (fun h=>?_))
  ·refine aB (br (aZ ?_));cases h;exact iU z6 [] trivial rfl
  ·refine aY (aK (tn (ab (mq ?_))));obtain⟨x7,e,h⟩:=aa h;refine jb (eO rfl e) ?_;refine aq (nl ?_);exact fq (z6,(x7,r5.1)) h (aV [.obj c 22 (Ri a1)] (E z6 r5.1) [0] ⟨rfl,rfl,rfl,trivial⟩ rfl)
 ·
  refine dk (aP (aP (bL (jg ?_))));cases h;exact iU z3 [] trivial rfl
theorem qn(a0:(List Int)):cm Tryz.prog 148 [Ri a0] [] (fun z:Nat=>(bz [.eq (.func (.func 166) #[] #[(Pv z)])],[.obj z 22 (Ri a0)])):=by
 refine cm.of 4 Tryz.func148 rfl Tryz.ntmps148 rfl fun S w0=>?_;refine sr (bx fun z=>?_);refine cq (nt (sr ?_));refine ja (tg [] [.tmp 1] [] [(Pv z)] rfl rfl rfl) ?_;refine aq (nt (aB ?_));exact aN z [_] 1 ⟨rfl,trivial⟩ rfl
def uK(k:Nat)(a0:(List Int)):Option (List Int):=
 (jo k (tZ (fun(y3:(List Int)) (p5:(Int×Int))=>
  some ((p5.2::y3),true))) a0 ([],false)).bind fun r6=>
 if r6.2=true then(none) else(some r6.1)
theorem zb(k:Nat)(a0:(List Int))(r:(List Int))(h:uK k a0=some r):
 cm Tryz.prog 118 [Ri a0] [] (fun _:Unit=>(bz [.rep (.lst (.int .i64)) r],[])):=by
 unfold uK at h
 replace h:=be h
 refine yJ 15 Tryz.func118 rfl Tryz.ntmps118 rfl fun {M} S w0=>?_
 refine sr ?_
 refine cq ?_
 refine nt ?_
 refine sr ?_
 refine aD rfl rfl rfl (bg rfl Oh Qq) trivial fun b1=>?_
 refine nt ?_
 refine ae ?_
 refine sr ?_
 refine mq ?_
 refine aD rfl rfl rfl (ar [.tmp 6] rfl rfl Qb rfl (qn a0)) ⟨rfl,trivial⟩ fun b2=>?_
 refine nt ?_
 refine an ?_
 refine jh 1 rfl ?_
 refine eA (qf (a:=.eq (.pointer none)) (a':=.rep (.lst (.int .i64)) []) (yL .lnil)) ?_
 refine jh 1 rfl ?_
 obtain⟨r6,c,h⟩:=aa h
 refine ot (Δ:=[.obj b2 22 (Ri a0),.obj b1 196 (.rep (.lst (.int .i64)) [])]) (F:=[]) (X:=Unit) (J:=fun _=>JI r6.2) (E:=fun z4=>[.obj b2 22 (Ri a0),.obj b1 196 (.rep (.lst (.int .i64)) r6.1)]) (r0:=fun _=>.tup .any) rfl rfl P6 (fun rec hp ha hb hs hpe hN hv l=>?_) (fun dl z4=>qJ (fun hj=>?_) (fun hj=>?_))
 ·
  rcases rec with⟨st0,pe0,fn0,tm0,ps0,as0,bd0,df0⟩;dsimp only at hp ha hb hs hpe hN hv;subst hp hs hpe;have vN:vP tm0 [(3,Pt b1)]:=⟨congrArg A.eq (hv 3 _ rfl).symm,trivial⟩;refine cS.pick (M:=M) [1,0,2] [1,0,2] (oH (fun(z4:Unit) (q:(List Int)×Bool)=>[.raw l (.loop (jP ⟨.ready,none,fn0,tm0, #[8,9],as0,bd0,df0⟩ (JI q.2))),.obj b1 196 (.rep (.lst (.int .i64)) q.1)]) l (tZ (fun(y3:(List Int)) (p5:(Int×Int))=>
  some ((p5.2::y3),true))) k a0 b2 (fun z4 q p r' h=>?_) () ([],false) r6 c) rfl (fun _=>rfl) (fun _=>rfl)
  obtain⟨rq,hq,h2,rfl⟩:=qK h;obtain⟨y3,b5⟩:=q;obtain rfl:b5=false:=hq;replace h:=be h2;obtain⟨p5,hpv⟩:∃x,x=p:=⟨_,rfl⟩;subst hpv;refine YT.pick (R':=(fun z4:Unit=>(.eq (.bool rq.2),[.raw l (.loop (jP ⟨.ready,none,fn0,tm0, #[8,9],as0,bd0,df0⟩ (JI (!rq.2)))),.obj b1 196 (.rep (.lst (.int .i64)) rq.1)]))) [0,1] [0,1] (KT ha hb (N:=15) (Γ:=[(3,Pt b1)]) rfl hN (by decide) vN (fun S w=>?_)) rfl (fun _=>rfl) (fun _=>rfl);refine ab (aq (nl ?_));refine vU rfl rfl ?_;refine an (ab (mq ?_));refine fr 1 ?_;refine lo zh ?_;refine jb (cR [(0,.tmp 10,_),(1,.tmp 11,_)] rfl OJ Og NJ (iw ⟨rfl,rfl,trivial⟩) rfl) ?_;refine aD rfl rfl rfl (oC rfl trivial) ⟨rfl,trivial⟩ fun b7=>?_;refine bZ (lH (t:=FY) (x:=(p5.2,y3)) [13] (.agg (.pair .int .rep)) ⟨rfl,trivial⟩) ?_;refine bj rfl rfl (bm rfl zh trivial rfl rfl) ⟨rfl,rfl,trivial⟩ ?_;refine au (aK (bh (qf (a:=.at FY (p5.2,y3)) (a':=.rep (.lst (.int .i64)) (p5.2::y3)) (yL .lcons)) ?_));refine de 1 rfl ?_;cases h;exact tR () 1 rfl
 ·
  replace h:=bS (D8 hj) h;refine aK (tn (sr (fr 2 ?_)));refine lo zh ?_;refine aq (nt (aB ?_));refine de 1 rfl ?_;refine yH ?_;cases h;exact ra
 ·
  replace h:=cI (D7 hj) h;cases h
def kL(k:Nat)(a1:Int):Nat→(Int×(List Int)×(List Int)×(List Int))→Option (Int×(List Int))
 |0,_=>none
 |n+1,y2=>
  if List.isEmpty y2.2.2.2=true then((cp (bO (List.length y2.2.2.1+List.length y2.2.1))).bind fun _=>
  some (y2.1,y2.2.2.1++y2.2.1)) else((qG y2.2.2.2).bind fun x6=>
  (eM k a1 x6.1).bind fun r7=>
  if r7=true then((qG y2.2.2.2).bind fun x8=>
  (cp (bO (List.length y2.2.1+List.length [x8.1]))).bind fun _=>
  (qG y2.2.2.2).bind fun l=>
  kL k a1 n (y2.1,y2.2.1++[x8.1],y2.2.2.1,l.2)) else(((if 0 < (y2.2.1.length:Int) then((qG y2.2.2.2).bind fun h=>
  (gI k y2.1 h.1).bind fun r=>
  some r) else(some y2.1)):Option (Int)).bind fun j=>
  (qG y2.2.2.2).bind fun c=>
  (cp (bO (List.length y2.2.2.1+List.length [c.1]))).bind fun _=>
  (qG y2.2.2.2).bind fun e=>
  kL k a1 n (j,y2.2.1,y2.2.2.1++[c.1],e.2)))
def rE(k:Nat)(a0:(List Int))(a1:Int):Option (Int×(List Int)):=
 (uK k a0).bind fun r1=>
 kL k a1 k (0,([]:(List Int)),([]:(List Int)),r1)
theorem tY(k:Nat)(a0:(List Int))(a1:Int)(r:Int×(List Int))(h:rE k a0 a1=some r):
 cm Tryz.prog 97 [Ri a0,.eq (.int .u8 a1)] [] (fun _:Unit=>(bz [.eq (.int .u8 r.1),Ri r.2],[])):=by
 unfold rE at h
 replace h:=be h
 refine cm.of 54 Tryz.func97 rfl Tryz.ntmps97 rfl fun S w0=>?_
 refine sr ?_
 refine cq ?_
 refine cq ?_
 refine nt ?_
 refine Fo rfl (Dq (by kernel_rfl) (Dq (by kernel_rfl) (M4 MZ))) ?_
 refine sr ?_
 refine cq ?_
 refine cq ?_
 refine nt ?_
 refine sr ?_
 refine mq ?_
 obtain⟨r1,mc,h⟩:=aa h
 have pp:=zb k a0 r1 mc
 refine ja (ar [.tmp 9] rfl rfl Qg rfl pp) ?_
 refine aq ?_
 refine nt ?_
 refine ae ?_
 refine IG ?_
 refine tn ?_
 refine eA (SE.nil 3 (.int .i64)) ?_
 refine eA (SE.nil 3 (.int .i64)) ?_
 refine CJ (Z:=Value×Value) (α:=Int×(List Int)×(List Int)×(List Int)) rfl (fun z3 y2=>[(1,.eq (.int .u8 a1)),(4,.eq (.int .u8 y2.1)),(6,.eq z3.1),(7,.eq z3.2),(8,.rep (.lst (.int .i64)) y2.2.2.2)]) (fun z3 y2=>[.sl z3.1 3 (.int .i64) y2.2.1,.sl z3.2 3 (.int .i64) y2.2.2.1]) (kL k a1) k ((.slice none 0 0),(.slice none 0 0)) (0,([]:(List Int)),([]:(List Int)),r1) (fun _=>rfl) h (SE.fin [1,0] ⟨rfl,rfl,rfl,rfl,rfl,trivial⟩ rfl) (fun n z3 y2 h=>?_)
 unfold kL at h
 refine ae ?_
 refine sr ?_
 refine mq ?_
 refine jb (GO rfl SZ) ?_
 refine nt ?_
 refine cv h (fun h=>?_) (fun h=>?_)
 ·
  refine sr ?_;iterate 3 refine mq ?_
  refine bZ (gx [6,15] ⟨rfl,rfl,trivial⟩) ?_;obtain⟨u4,Y,h⟩:=aa h;refine dz rfl rfl rfl (bQ rfl rfl dS (av Y)) ⟨rfl,rfl,trivial⟩ fun v5=>?_;refine aq ?_;refine aq (nt (rx ?_));refine IF ?_;refine bh (gx [5,16] ⟨rfl,rfl,trivial⟩) ?_;cases h;exact rb
 ·
  refine sk (ae (sr ?_));iterate 2 refine mq ?_
  obtain⟨x6,U,h⟩:=aa h;refine ja (lE rfl U) ?_;refine ja (aM 1 false rfl uy rfl) ?_;refine ja (ao (t:=(.int .i64)) rfl cH rfl) ?_;obtain⟨r7,ac,h⟩:=aa h;refine jb (ar [.tmp 17,.tmp 21] rfl rfl Ko rfl (io k a1 x6.1 r7 ac)) ?_;refine nt (cv h (fun h=>?_) (fun h=>?_))
  ·refine sr ?_;iterate 2 refine mq ?_
   obtain⟨x8,Q,h⟩:=aa h;refine ja (lE rfl Q) ?_;refine ja (aM 1 false rfl uy rfl) ?_;refine ja (ao (t:=(.int .i64)) rfl cH rfl) ?_;refine ja (bi (t:=(.int .i64)) [(.tmp 27,_)] [x8.1] rfl rfl dS (.cons rfl .int .nil) rfl rfl) ?_;obtain⟨u9,X,h⟩:=aa h;refine dz rfl rfl rfl (bQ rfl rfl dS (av X)) ⟨rfl,rfl,trivial⟩ fun O=>?_;refine aq (nt (sr ?_));refine mq ?_;obtain⟨J,y,h⟩:=aa h;refine ja (lE rfl y) ?_;refine ja (aM 1 false rfl Do rfl) ?_;refine ja (ao (t:=(.lst (.int .i64))) rfl zh rfl) ?_;refine aq (nt ?_);refine DO ?_;refine Fj ?_;exact DK ((O,z3.2),(y2.1,y2.2.1++[x8.1],y2.2.2.1,J.2)) h (SE.fin [0,1] ⟨rfl,rfl,rfl,rfl,rfl,trivial⟩ rfl)
  ·refine sk (aS (Z:=Unit) (α:=Int) (fun e c=>[(1,.eq (.int .u8 a1)),(4,.eq (.int .u8 c)),(6,.eq z3.1),(7,.eq z3.2),(8,.rep (.lst (.int .i64)) y2.2.2.2)]) (fun e c=>[.sl z3.1 3 (.int .i64) y2.2.1,.sl z3.2 3 (.int .i64) y2.2.2.1]) h (fun K h=>?_) (fun e c h=>?_))
   ·refine sr (mq ?_);refine ka (cO rfl rfl dQ) ?_;refine jb (f5 rfl) ?_;refine nt (ci h (fun h=>?_) (fun h=>?_))
    ·refine ab ?_;iterate 2 refine mq ?_
     obtain⟨I,x,h⟩:=aa h;refine ja (lE rfl x) ?_;refine ja (aM 1 false rfl uy rfl) ?_;refine ja (ao (t:=(.int .i64)) rfl cH rfl) ?_;obtain⟨l,E,h⟩:=aa h;refine jb (ar [.tmp 37,.tmp 41] rfl rfl J8 rfl (jj k y2.1 I.1 l E)) ?_;refine aq (nl ?_);exact jz ((),l) h [0,1]
    ·refine aY (ag ?_);exact jz ((),y2.1) h [0,1]
   ·refine sr ?_;iterate 2 refine mq ?_
    obtain⟨j,u,h⟩:=aa h;refine ja (lE rfl u) ?_;refine ja (aM 1 false rfl uy rfl) ?_;refine ja (ao (t:=(.int .i64)) rfl cH rfl) ?_;refine ja (bi (t:=(.int .i64)) [(.tmp 47,_)] [j.1] rfl rfl dS (.cons rfl .int .nil) rfl rfl) ?_;obtain⟨qt,D,h⟩:=aa h;refine fr 1 ?_;refine dz rfl rfl rfl (bQ rfl rfl dS (av D)) ⟨rfl,rfl,trivial⟩ fun M=>?_;refine aq (nt (sr ?_));refine mq ?_;obtain⟨F,s,h⟩:=aa h;refine ja (lE rfl s) ?_;refine ja (aM 1 false rfl Do rfl) ?_;refine ja (ao (t:=(.lst (.int .i64))) rfl zh rfl) ?_;refine aq (nt ?_);refine DO ?_;exact DK ((z3.1,M),(c,y2.2.1,y2.2.2.1++[j.1],F.2)) h (SE.fin [1,0] ⟨rfl,rfl,rfl,rfl,rfl,trivial⟩ rfl)
def iP(k:Nat)(a0:(List Int))(a1:Int):Nat→Int→Option (Except Int Unit)
 |0,_=>none
 |n+1,y3=>
  if y3 < (a0.length:Int) then((aX a0 y3).bind fun x5=>
  if a1=x5 then(some (.error y3)) else((ck (y3+1)).bind fun x6=>
  iP k a0 a1 n x6)) else(some (.ok ()))
def mT(k:Nat)(a0:(List Int))(a1:Int):Option Int:=
 bE (α:=Unit) (iP k a0 a1 k 0) (some) fun _=>
 some (-1:Int)
theorem sY(k:Nat)(a0:(List Int))(a1:Int)(r:Int)(h:mT k a0 a1=some r):
 cm Tryz.prog 149 [Ri a0,I a1] [] (fun _:Unit=>(bz [I r],[])):=by
 unfold mT at h
 replace h:=be h
 refine cm.of 19 Tryz.func149 rfl Tryz.ntmps149 rfl fun S w0=>?_
 refine sr ?_
 refine cq ?_
 refine nt ?_
 refine dn (Z:=Unit) (α:=Unit) (fun z2 x1=>[]) (fun z2 x1=>[]) (fun e=>e=r) h (fun e h=>Option.some.inj h) (fun K hR h=>?_) (fun z2 x1 h=>?_)
 ·
  refine sr (mq ?_);refine ol dQ ?_;refine eU rfl ?_;refine nt (an (aJ (fun z4 y3=>[(0,Ri a0),(1,I a1),(7,I (a0.length:Int)),(8,I y3)]) (fun z4 y3=>[]) (iP k a0 a1) k () 0 (fun _=>rfl) h (SE.fin [] ⟨rfl,rfl,rfl,rfl,trivial⟩ rfl) (fun n z4 y3 h=>?_)));unfold iP at h;refine sr (jb (bv rfl) ?_);refine nt (ae (ci h (fun h=>?_) (fun h=>?_)))
  ·refine sk (ae (an (sr (mq ?_))));refine aq (nt (sr ?_));iterate 3 refine mq ?_
   obtain⟨x5,j,h⟩:=aa h;refine jb (aI (t:=(.int .i64)) rfl dQ cH j) ?_;refine ja (ao (t:=(.int .i64)) rfl cH rfl) ?_;refine jb (eh rfl) ?_;refine nt (ci h (fun h=>?_) (fun h=>?_))
   ·refine sr (mq ?_);refine aq (nt (aB (br (aZ (aO ?_)))));obtain rfl:=hR _ h;exact ra
   ·refine aY (aK (tn (ab ?_)));obtain⟨x6,c,h⟩:=aa h;refine jb (bf rfl c) ?_;refine mq (nl ?_);exact jz ((),x6) h []
  ·refine xa ?_;exact jz ((),()) h []
 ·
  refine sr (cq (nt (aB ?_)));cases h;exact ra
def kj(k:Nat)(a0:(List Int))(a1:Int):Option Bool:=
 (mT k a0 a1).bind fun r1=>
 some (decide (0≤r1))
theorem qk(k:Nat)(a0:(List Int))(a1:Int)(r:Bool)(h:kj k a0 a1=some r):
 cm Tryz.prog 119 [Ri a0,I a1] [] (fun _:Unit=>(bz [.eq (.bool r)],[])):=by
 unfold kj at h
 replace h:=be h
 refine cm.of 9 Tryz.func119 rfl Tryz.ntmps119 rfl fun S w0=>?_
 refine sr ?_
 refine cq ?_
 refine nt ?_
 refine sr ?_
 iterate 2 refine mq ?_
 obtain⟨r1,c,h⟩:=aa h
 have e:=sY k a0 a1 r1 c
 refine jb (ar [.tmp 5,.tmp 6] rfl rfl Qa rfl e) ?_
 refine jb (oV rfl) ?_
 refine aq ?_
 refine nt ?_
 refine aB ?_
 cases h
 exact ra
def iL(k:Nat)(a0:dp)(a1:Int):Nat→(Int×Int)→Option Int
 |0,_=>none
 |n+1,y3=>
  if y3.2 < (a0.1.2.1.length:Int) then((((aX a0.1.2.1 y3.2).bind fun x7=>
  (kj k x7.2 a1).bind fun r9=>
  if r9=true then((gI k y3.1 y3.2).bind fun e=>
  some e) else(some y3.1)):Option (Int)).bind fun x5=>
  (ck (y3.2+1)).bind fun c=>
  iL k a0 a1 n (x5,c)) else(some y3.1)
def kD(k:Nat)(a0:dp)(a1:Int):Option Int:=
 ((iL k a0 a1 k (0,0)):Option (Int)).bind fun x1=>
 some x1
theorem nb(k:Nat)(a0:dp)(a1:Int)(r:Int)(h:kD k a0 a1=some r):
 cm Tryz.prog 98 [.at bJ a0,I a1] [] (fun _:Unit=>(bz [.eq (.int .u8 r)],[])):=by
 unfold kD at h
 replace h:=be h
 refine cm.of 28 Tryz.func98 rfl Tryz.ntmps98 rfl fun S w0=>?_
 refine sr ?_
 refine cq ?_
 refine nt ?_
 refine sr ?_
 refine cq ?_
 refine nt ?_
 refine aS (Z:=Unit) (α:=Int) (fun z2 x1=>[(5,.eq (.int .u8 x1))]) (fun z2 x1=>[]) h (fun K h=>?_) (fun z2 x1 h=>?_)
 ·
  refine sr (mq ?_);refine ja (dK rfl) ?_;refine ja (aM 3 true rfl jY rfl) ?_;refine ja (aM 1 false rfl cQ rfl) ?_;refine ja (ao (t:=(.slice aG)) rfl iN rfl) ?_;refine ol qD ?_;refine eU rfl ?_;refine nt (an (aJ (fun z4 y3=>[(1,I a1),(5,.eq (.int .u8 y3.1)),(12,Rs aG a0.1.2.1),(13,I (a0.1.2.1.length:Int)),(14,I y3.2)]) (fun z4 y3=>[]) (iL k a0 a1) k () (0,0) (fun _=>rfl) h (SE.fin [] ⟨rfl,rfl,rfl,rfl,rfl,trivial⟩ rfl) (fun n z4 y3 h=>?_)));unfold iL at h;refine sr (jb (bv rfl) ?_);refine nt (ae (ci h (fun h=>?_) (fun h=>?_)))
  ·refine sk (aS (Z:=Unit) (α:=Int) (fun z6 x5=>[(1,I a1),(5,.eq (.int .u8 x5)),(12,Rs aG a0.1.2.1),(13,I (a0.1.2.1.length:Int)),(14,I y3.2)]) (fun z6 x5=>[]) h (fun K h=>?_) (fun z6 x5 h=>?_))
   ·refine an (sr (mq ?_));obtain⟨x7,s,h⟩:=aa h;refine jb (aI (t:=aG) rfl qD iY s) ?_;refine ja (ao (t:=aG) rfl iY rfl) ?_;refine aD rfl rfl rfl (bg rfl uE KN) trivial fun b8=>?_;refine aq ?_;refine bj rfl rfl (bm rfl iY rfl rfl rfl) ⟨rfl,rfl,trivial⟩ ?_;refine nt (sr (fl mU ?_));refine lo bI ?_;refine mq ?_;obtain⟨r9,u,h⟩:=aa h;refine jb (ar [.tmp 20,.tmp 21] rfl rfl Qf rfl (qk k x7.2 a1 r9 u)) ?_;refine nt (cv h (fun h=>?_) (fun h=>?_))
    ·refine ab ?_;iterate 2 refine mq ?_
     obtain⟨c,j,h⟩:=aa h;refine jb (ar [.tmp 23,.tmp 24] rfl rfl J8 rfl (jj k y3.1 y3.2 c j)) ?_;refine aq (au (bn ?_));exact jz ((),c) h []
    ·refine aY (bn ?_);exact jz ((),y3.1) h []
   ·refine ab ?_;obtain⟨l,e,h⟩:=aa h;refine jb (bf rfl e) ?_;refine mq (nl ?_);exact jz ((),(x5,l)) h []
  ·refine xa ?_;exact jz ((),y3.1) h []
 ·
  refine sr (mq ?_);refine aq (nt (aB ?_));cases h;exact ra
def dI(k:Nat)(a0:(List Int))(a1:(List Int)):Nat→Int→Option (Except Bool Unit)
 |0,_=>none
 |n+1,y3=>
  if y3 < (a0.length:Int) then((aX a0 y3).bind fun x5=>
  (aX a1 y3).bind fun x6=>
  if¬(x5=x6) then(some (.error false)) else((ck (y3+1)).bind fun x7=>
  dI k a0 a1 n x7)) else(some (.ok ()))
def fO(k:Nat)(a0:(List Int))(a1:(List Int)):Option Bool:=
 if¬((a0.length:Int)=(a1.length:Int)) then(some false) else(bE (α:=Unit) (dI k a0 a1 k 0) (some) fun _=>
 some true)
theorem li(k:Nat)(a0:(List Int))(a1:(List Int))(r:Bool)(h:fO k a0 a1=some r):
 cm Tryz.prog 39 [Ri a0,Ri a1] [] (fun _:Unit=>(bz [.eq (.bool r)],[])):=by
 unfold fO at h
 replace h:=be h
 refine cm.of 26 Tryz.func39 rfl Tryz.ntmps39 rfl fun S w0=>?_
 refine sr ?_
 refine cq ?_
 refine nt ?_
 refine ae ?_
 refine sr ?_
 refine mq ?_
 refine ol dQ ?_
 refine mq ?_
 refine ol dQ ?_
 refine jb (ig rfl) ?_
 refine nt ?_
 refine cn h (fun h=>?_) (fun h=>?_)
 ·
  refine sr (cq (nt (rx ?_)));cases h;exact ra
 ·
  refine sk (dn (Z:=Unit) (α:=Unit) (fun z2 x1=>[]) (fun z2 x1=>[]) (fun e=>e=r) h (fun e h=>Option.some.inj h) (fun K hR h=>?_) (fun z2 x1 h=>?_))
  ·refine sr (cq (nt (an ?_)));refine aJ (fun z4 y3=>[(0,Ri a0),(1,Ri a1),(5,I y3)]) (fun z4 y3=>[]) (dI k a0 a1) k () 0 (fun _=>rfl) h (SE.fin [] ⟨rfl,rfl,rfl,trivial⟩ rfl) (fun n z4 y3 h=>?_);unfold dI at h;refine ae (sr ?_);iterate 2 refine mq ?_
   refine ol dQ ?_;refine jb (bv rfl) ?_;refine nt (ci h (fun h=>?_) (fun h=>?_))
   ·refine sk (ae (an (ae (bK ?_))));refine dm ?_;refine dm ?_;obtain⟨x5,l,h⟩:=aa h;refine db (aI (t:=(.int .i64)) rfl dQ cH l) ?_;refine da (ao (t:=(.int .i64)) rfl cH rfl) ?_;refine dm ?_;refine dm ?_;obtain⟨x6,j,h⟩:=aa h;refine db (aI (t:=(.int .i64)) rfl dQ cH j) ?_;refine da (ao (t:=(.int .i64)) rfl cH rfl) ?_;refine df cY ?_;refine jb (ig rfl) ?_;refine nt (cn h (fun h=>?_) (fun h=>?_))
    ·refine sr (cq (nt (aB (br (aZ (aO ?_))))));obtain rfl:=hR _ h;exact ra
    ·refine aY (aK (tn (ab (mq ?_))));obtain⟨x7,c,h⟩:=aa h;refine jb (bf rfl c) ?_;refine aq (nl ?_);exact jz ((),x7) h []
   ·refine xa ?_;exact jz ((),()) h []
  ·refine sr (cq (nt (aB ?_)));cases h;exact ra
def eV(k:Nat)(a0:(List (List Int)))(a1:(List (List Int))):Nat→Int→Option (Except Bool Unit)
 |0,_=>none
 |n+1,y3=>
  if y3 < (a0.length:Int) then((aX a0 y3).bind fun x5=>
  (aX a1 y3).bind fun x6=>
  (fO k x5 x6).bind fun r7=>
  if¬(r7=true) then(some (.error false)) else((ck (y3+1)).bind fun x8=>
  eV k a0 a1 n x8)) else(some (.ok ()))
def fX(k:Nat)(a0:(List (List Int)))(a1:(List (List Int))):Option Bool:=
 if¬((a0.length:Int)=(a1.length:Int)) then(some false) else(bE (α:=Unit) (eV k a0 a1 k 0) (some) fun _=>
 some true)
theorem kx(k:Nat)(a0:(List (List Int)))(a1:(List (List Int)))(r:Bool)(h:fX k a0 a1=some r):
 cm Tryz.prog 22 [.rep (.slice (.slice (.int .i64))) a0,.rep (.slice (.slice (.int .i64))) a1] [] (fun _:Unit=>(bz [.eq (.bool r)],[])):=by
 unfold fX at h
 replace h:=be h
 refine cm.of 27 Tryz.func22 rfl Tryz.ntmps22 rfl fun S w0=>?_
 refine sr ?_
 refine cq ?_
 refine nt ?_
 refine ae ?_
 refine sr ?_
 refine mq ?_
 refine ol k9 ?_
 refine mq ?_
 refine ol k9 ?_
 refine jb (ig rfl) ?_
 refine nt ?_
 refine cn h (fun h=>?_) (fun h=>?_)
 ·
  refine sr (cq (nt (rx ?_)));cases h;exact ra
 ·
  refine sk (dn (Z:=Unit) (α:=Unit) (fun z2 x1=>[]) (fun z2 x1=>[]) (fun e=>e=r) h (fun e h=>Option.some.inj h) (fun K hR h=>?_) (fun z2 x1 h=>?_))
  ·refine sr (cq (nt (an ?_)));refine aJ (fun z4 y3=>[(0,.rep (.slice (.slice (.int .i64))) a0),(1,.rep (.slice (.slice (.int .i64))) a1),(5,I y3)]) (fun z4 y3=>[]) (eV k a0 a1) k () 0 (fun _=>rfl) h (SE.fin [] ⟨rfl,rfl,rfl,trivial⟩ rfl) (fun n z4 y3 h=>?_);unfold eV at h;refine ae (sr ?_);iterate 2 refine mq ?_
   refine ol k9 ?_;refine jb (bv rfl) ?_;refine nt (ci h (fun h=>?_) (fun h=>?_))
   ·refine sk (ae (an (ae (bK ?_))));refine dm ?_;refine dm ?_;obtain⟨x5,l,h⟩:=aa h;refine db (aI (t:=(.slice (.int .i64))) rfl k9 bI l) ?_;refine da (ao (t:=(.slice (.int .i64))) rfl bI rfl) ?_;refine dm ?_;refine dm ?_;obtain⟨x6,j,h⟩:=aa h;refine db (aI (t:=(.slice (.int .i64))) rfl k9 bI j) ?_;refine da (ao (t:=(.slice (.int .i64))) rfl bI rfl) ?_;refine df cY ?_;obtain⟨r7,s,h⟩:=aa h;refine jb (ar [.tmp 20,.tmp 24] rfl rfl Nq rfl (li k x5 x6 r7 s)) ?_;refine ja (fm rfl) ?_;refine nt (cw h (fun h=>?_) (fun h=>?_))
    ·refine sr (cq (nt (aB (br (aZ (aO ?_))))));obtain rfl:=hR _ h;exact ra
    ·refine aY (aK (tn (ab (mq ?_))));obtain⟨x8,c,h⟩:=aa h;refine jb (bf rfl c) ?_;refine aq (nl ?_);exact jz ((),x8) h []
   ·refine xa ?_;exact jz ((),()) h []
  ·refine sr (cq (nt (aB ?_)));cases h;exact ra
def ia(k:Nat)(a0:dp)(a1:(List (List Int))):Nat→((List (List Int))×Int)→Option (List (List Int))
 |0,_=>none
 |n+1,y6=>
  if y6.2 < ((List.replicate (Int.toNat (a0.1.2.2.length:Int)) ([]:(List Int))).length:Int) then((fV k a1 y6.2).bind fun r8=>
  (aX y6.1 y6.2).bind fun x9=>
  (ck (y6.2+1)).bind fun c=>
  ia k a0 a1 n (List.set y6.1 (Int.toNat y6.2) r8,c)) else(some y6.1)
def im(k:Nat)(a0:dp)(a1:(List (List Int))):Option (List (List Int)):=
 (cp (0≤(a0.1.2.2.length:Int)∧bO (Int.toNat (a0.1.2.2.length:Int)))).bind fun _=>
 ((ia k a0 a1 k (List.replicate (Int.toNat (a0.1.2.2.length:Int)) ([]:(List Int)),0)):Option ((List (List Int)))).bind fun x4=>
 some x4
theorem jH(k:Nat)(a0:dp)(a1:(List (List Int)))(r:(List (List Int)))(h:im k a0 a1=some r):
 cm Tryz.prog 45 [.at bJ a0,.rep (.arr 3 (.arr 5 (.int .i64))) a1] [] (fun z:Value=>(bz [.eq z],[.sl z 22 (.slice (.int .i64)) r])):=by
 unfold im at h
 replace h:=be h
 refine cm.of 27 Tryz.func45 rfl Tryz.ntmps45 rfl fun S w0=>?_
 refine sr ?_
 refine bx fun b1=>?_
 refine cq ?_
 refine nt ?_
 refine sr ?_
 refine mq ?_
 refine ja (dK rfl) ?_
 refine ja (aM 3 true rfl jY rfl) ?_
 refine ja (aM 1 false rfl cV rfl) ?_
 refine ja (ao (t:=(.slice (.int .i64))) rfl bI rfl) ?_
 refine ol dQ ?_
 obtain⟨u2,j,h⟩:=aa h
 refine aD rfl rfl rfl (GN (t:=(.slice (.int .i64))) (d:=([]:(List Int))) rfl nR Q2 (av j).1 (av j).2) ⟨rfl,rfl,trivial⟩ fun v3=>?_
 refine aq ?_
 refine nt ?_
 refine aS (Z:=Unit) (α:=(List (List Int))) (fun z5 x4=>[(5,.eq v3)]) (fun z5 x4=>[.sl v3 22 (.slice (.int .i64)) x4]) h (fun K h=>?_) (fun z5 x4 h=>?_)
 ·
  refine sr (mq ?_);refine ka (cO rfl rfl k9) ?_;refine eU rfl ?_;refine nt (an (aJ (fun z7 y6=>[(3,Pt b1),(5,.eq v3),(15,I ((List.replicate (Int.toNat (a0.1.2.2.length:Int)) ([]:(List Int))).length:Int)),(16,I y6.2)]) (fun z7 y6=>[.obj b1 85 (.rep (.arr 3 (.arr 5 (.int .i64))) a1),.sl v3 22 (.slice (.int .i64)) y6.1]) (ia k a0 a1) k () (List.replicate (Int.toNat (a0.1.2.2.length:Int)) ([]:(List Int)),0) (fun _=>rfl) h (SE.fin [1,0] ⟨rfl,rfl,rfl,rfl,trivial⟩ rfl) (fun n z7 y6 h=>?_)));unfold ia at h;refine sr (jb (bv rfl) ?_);refine nt (ae (ci h (fun h=>?_) (fun h=>?_)))
  ·refine sk (ae (an (sr (mq ?_))));refine aq (nt (ab ?_));iterate 2 refine mq ?_
   refine lo f6 ?_;refine mq ?_;obtain⟨r8,s,h⟩:=aa h;refine jb (ar [.tmp 21,.tmp 22] rfl rfl J9 rfl (gf k a1 y6.2 r8 s)) ?_;obtain⟨x9,c,h⟩:=aa h;refine fr 1 ?_;refine kb (aW (t:=(.slice (.int .i64))) rfl k9 bI c) ?_;refine bj rfl rfl (cE (i:=Int.toNat y6.2) rfl bI rfl (gd c) rfl .rep rfl) ⟨rfl,rfl,trivial⟩ ?_;refine au (aK (tn (ab ?_)));obtain⟨l,e,h⟩:=aa h;refine jb (bf rfl e) ?_;refine mq (nl ?_);exact jz ((),(List.set y6.1 (Int.toNat y6.2) r8,l)) h [1,0]
  ·refine xa ?_;exact jz ((),y6.1) h [1]
 ·
  refine sr (mq ?_);refine aq (nt (aB ?_));cases h;exact aN v3 [.eq v3] 1 ⟨rfl,trivial⟩ rfl
def dO{σ:Type}(k:Nat)(a0:(List (List Int)))(a1:Int)(a2:Int)(a3:dp)(self:(List (List Int))→Int→Int→σ→Option (Bool×σ))(h:(List Int)):Nat→(Int×σ)→Option (Except (Bool×σ) (σ))
 |0,_=>none
 |n+1,c=>
  if c.1 < (a3.1.2.1.length:Int) then(bE (α:=σ) ((aX a3.1.2.1 c.1).bind fun y=>
  (((eM k a2 c.1).bind fun I=>
  if I=true then(some (true,c.2)) else((nc k a3.1 h).bind fun F=>
  (ck (F+y.1)).bind fun x=>
  (aX a3.1.2.2 a1).bind fun u=>
  some (decide (u < x),c.2))):Option (Bool×σ)).bind fun j=>
  if j.1=true then(some (.ok j.2)) else((cp (0≤a1∧a1 < 3)).bind fun _=>
  (aX a0 a1).bind fun s=>
  (cp (0≤(h.length:Int)∧(h.length:Int) < 5)).bind fun _=>
  (gI k a2 c.1).bind fun E=>
  (self (List.set a0 (Int.toNat a1) (List.set s (Int.toNat (h.length:Int)) c.1)) a1 E j.2).bind fun l=>
  if¬(l.1=true) then(some (.error (false,l.2))) else(some (.ok l.2)))) (fun e=>some (.error e)) fun D=>
  (ck (c.1+1)).bind fun r=>
  dO k a0 a1 a2 a3 self h n (r,D)) else(some (.ok c.2))
def cZ{σ:Type}(k:Nat)(Y:σ→(List (List Int))→Option (σ×Bool))(a3:dp):Nat→(List (List Int))→Int→Int→σ→Option (Bool×σ)
 |0,_,_,_,_=>none
 |m0+1,a0,a1,a2,s0=>
  if a1=(a3.1.2.2.length:Int) then((((cp (0≤(a3.1.2.1.length:Int))).bind fun _=>
  if¬(a2=(IntKind.u8.wrap ((ny .u8 1 (a3.1.2.1.length:Int)) - 1))) then(some (true,s0)) else((Y s0 a0).bind fun r5=>
  some (r5.2,r5.1))):Option (Bool×σ)).bind fun x2=>
  some (x2.1,x2.2)) else((ck (a1+1)).bind fun x7=>
  ((cZ k Y a3 m0) a0 x7 a2 s0).bind fun r8=>
  if¬(r8.1=true) then(some (false,r8.2)) else((fV k a0 a1).bind fun e=>
  bE (α:=σ) (dO k a0 a1 a2 a3 (cZ k Y a3 m0) e k (0,r8.2)) (some) fun c=>
  some (true,c)))
theorem mS{M:Md Tryz.prog}{σ Z:Type}(E:Z→σ→List D)(l:Nat)(Y:σ→(List (List Int))→Option (σ×Bool))(k:Nat)(a3:dp)(u:Nat)(x:Nat)(c:Nat)(hY:∀z s p r,Y s p=some r→YT M l [.rep (.arr 3 (.arr 5 (.int .i64))) p] (E z s) (fun z':Z=>(.eq (.bool r.2),E z' r.1))):
 ∀(n:Nat) (a0:(List (List Int))) (a1:Int) (a2:Int) (z0:Z) (s0:σ) (r:Bool×σ),cZ k Y a3 n a0 a1 a2 s0=some r→cS M 90 [.rep (.arr 3 (.arr 5 (.int .i64))) a0,I a1,.eq (.int .u8 a2),Pt u,Pt x,Pt c] ([.obj u 80 (.at bJ a3),.obj x 154 (.eq (.func (.yield l) #[] #[])),.obj c 155 (.eq (.func (.func 90) #[] #[(Pv u),(Pv x),(Pv c)]))]++E z0 s0) (fun z:Z=>(bz [.eq (.bool r.1)],[.obj u 80 (.at bJ a3),.obj x 154 (.eq (.func (.yield l) #[] #[])),.obj c 155 (.eq (.func (.func 90) #[] #[(Pv u),(Pv x),(Pv c)]))]++E z r.2)):=by
 intro n
 induction n with
 |zero=>intro a0 a1 a2 z0 s0 r h;cases h
 |succ m0 ih=>
  intro a0 a1 a2 z0 s0 r h;rw [cZ] at h;replace h:=be h;refine cS.of 97 Tryz.func90 rfl Tryz.ntmps90 rfl fun S w0=>?_;refine sr (bx fun b1=>?_);refine cq (nt (ae (sr ?_)));refine mq ?_;refine fr 1 ?_;refine lo xF ?_;refine ja (dK rfl) ?_;refine ja (aM 3 true rfl jY rfl) ?_;refine ja (aM 1 false rfl cV rfl) ?_;refine ja (ao (t:=(.slice (.int .i64))) rfl bI rfl) ?_;refine ol dQ ?_;refine jb (eh rfl) ?_;refine nt (ci h (fun h=>?_) (fun h=>?_))
  ·refine aS (Z:=Z) (α:=Bool×σ) (fun z3 x2=>[(9,.eq (.bool x2.1))]) (fun z3 x2=>[.obj u 80 (.at bJ a3),.obj x 154 (.eq (.func (.yield l) #[] #[])),.obj c 155 (.eq (.func (.func 90) #[] #[(Pv u),(Pv x),(Pv c)]))]++E z3 x2.2) h (fun K h=>?_) (fun z3 x2 h=>?_)
   ·refine ab (mq ?_);refine lo xF ?_;refine ja (dK rfl) ?_;refine ja (aM 3 true rfl jY rfl) ?_;refine ja (aM 1 false rfl cQ rfl) ?_;refine ja (ao (t:=(.slice aG)) rfl iN rfl) ?_;refine ol qD ?_;obtain⟨u4,Us,h⟩:=aa h;refine jb (GH rfl (av Us)) ?_;refine jb (xT rfl) ?_;refine jb (ig rfl) ?_;refine mq ?_;refine cd (s:=32) rfl (fun hb=>?_) (fun hb=>?_)
    ·replace h:=cI (OR hb) h;iterate 3 refine gn ?_
     refine pt ?_;refine aq (nl ?_);exact fq (z0,(true,s0)) h (aV [.obj u 80 (.at bJ a3),.obj b1 85 (.rep (.arr 3 (.arr 5 (.int .i64))) a0),.obj x 154 (.eq (.func (.yield l) #[] #[])),.obj c 155 (.eq (.func (.func 90) #[] #[(Pv u),(Pv x),(Pv c)]))] (E z0 s0) [0,2,3] ⟨rfl,trivial⟩ rfl)
    ·replace h:=bS (Hj hb) h;refine fr 2 ?_;refine mi rfl rfl rfl rfl rfl rfl (ap rfl OG lg rfl) ⟨rfl,trivial⟩ ?_;refine fr 2 ?_;refine mi rfl rfl rfl rfl rfl rfl (ap rfl f6 (yM) rfl) ⟨rfl,trivial⟩ ?_;obtain⟨r5,Uu,h⟩:=aa h;refine fr 3 ?_;refine fr 3 ?_;refine fr 3 ?_;refine fr 3 ?_;refine Fg [.obj b1 85 (.rep (.arr 3 (.arr 5 (.int .i64))) a0),.obj x 154 (.eq (.func (.yield l) #[] #[])),.obj u 80 (.at bJ a3),.obj c 155 (.eq (.func (.func 90) #[] #[(Pv u),(Pv x),(Pv c)]))] rfl rfl rfl rfl rfl rfl (xR [.tmp 34] rfl rfl rfl (hY z0 s0 a0 r5 Uu)) ⟨rfl,rfl,trivial⟩ fun z6=>?_;refine pf ?_;refine aq (nl ?_);exact fq (z6,(r5.2,r5.1)) h (aV [.obj b1 85 (.rep (.arr 3 (.arr 5 (.int .i64))) a0),.obj x 154 (.eq (.func (.yield l) #[] #[])),.obj u 80 (.at bJ a3),.obj c 155 (.eq (.func (.func 90) #[] #[(Pv u),(Pv x),(Pv c)]))] (E z6 r5.1) [2,1,3] ⟨rfl,trivial⟩ rfl)
   ·refine rx ?_;cases h;exact iU z3 [_] ⟨rfl,trivial⟩ rfl
  ·refine sk (ae (sr (fr 3 ?_)));refine lo CQ ?_;refine fr 2 ?_;refine lo f6 ?_;refine mq ?_;obtain⟨x7,Ur,h⟩:=aa h;refine jb (bf rfl Ur) ?_;refine mq ?_;obtain⟨r8,Ut,h⟩:=aa h;refine fr 1 ?_;refine fr 3 ?_;refine fr 3 ?_;refine fr 3 ?_;refine pD [.obj b1 85 (.rep (.arr 3 (.arr 5 (.int .i64))) a0)] rfl rfl rfl (oY (fs:=[]) (cs:=[(Pv u),(Pv x),(Pv c)]) (ags:=[.rep (.arr 3 (.arr 5 (.int .i64))) a0,I x7,.eq (.int .u8 a2)]) [.tmp 38,.tmp 40,.tmp 41] rfl rfl Nk rfl (ih a0 x7 a2 z0 s0 r8 Ut)) ⟨rfl,rfl,rfl,rfl,trivial⟩ fun z9=>?_;refine ja (fm rfl) ?_;refine nt (cw h (fun h=>?_) (fun h=>?_))
   ·refine sr (cq (nt (rx ?_)));refine bh (aV (Γ':=[(9,_)]) [.obj b1 85 (.rep (.arr 3 (.arr 5 (.int .i64))) a0),.obj u 80 (.at bJ a3),.obj x 154 (.eq (.func (.yield l) #[] #[])),.obj c 155 (.eq (.func (.func 90) #[] #[(Pv u),(Pv x),(Pv c)]))] (E z9 r8.2) [1,2,3] ⟨rfl,trivial⟩ rfl) ?_;cases h;exact iU z9 [_] ⟨rfl,trivial⟩ rfl
   ·refine sk (sr (lo f6 ?_));refine mq ?_;obtain⟨F,Uj,h⟩:=aa h;refine jb (ar [.tmp 44,.tmp 45] rfl rfl J9 rfl (gf k a0 a1 F Uj)) ?_;refine aq (nt ?_);refine dn (Z:=Z) (α:=σ) (fun qt TY=>[]) (fun qt TY=>[.obj u 80 (.at bJ a3),.obj x 154 (.eq (.func (.yield l) #[] #[])),.obj c 155 (.eq (.func (.func 90) #[] #[(Pv u),(Pv x),(Pv c)]))]++E qt TY) (fun e=>e=r) h (fun e h=>Option.some.inj h) (fun K hR h=>?_) (fun qt TY h=>?_)
    ·refine sr (fr 1 ?_);refine lo xF ?_;refine ja (dK rfl) ?_;refine ja (aM 3 true rfl jY rfl) ?_;refine ja (aM 1 false rfl cQ rfl) ?_;refine ja (ao (t:=(.slice aG)) rfl iN rfl) ?_;refine ol qD ?_;refine eU rfl ?_;refine nt (an (aJ (Z:=Z) (α:=Int×σ) (fun J y=>[(1,I a1),(2,.eq (.int .u8 a2)),(3,Pt u),(5,Pt c),(6,Pt b1),(10,Ri F),(51,Rs aG a3.1.2.1),(52,I (a3.1.2.1.length:Int)),(53,I y.1)]) (fun J y=>[.obj u 80 (.at bJ a3),.obj c 155 (.eq (.func (.func 90) #[] #[(Pv u),(Pv x),(Pv c)])),.obj x 154 (.eq (.func (.yield l) #[] #[])),.obj b1 85 (.rep (.arr 3 (.arr 5 (.int .i64))) a0)]++E J y.2) (dO k a0 a1 a2 a3 (cZ k Y a3 m0) F) k z9 (0,r8.2) (fun _=>rfl) h (aV [.obj u 80 (.at bJ a3),.obj b1 85 (.rep (.arr 3 (.arr 5 (.int .i64))) a0),.obj x 154 (.eq (.func (.yield l) #[] #[])),.obj c 155 (.eq (.func (.func 90) #[] #[(Pv u),(Pv x),(Pv c)]))] (E z9 r8.2) [0,3,2,1] ⟨rfl,rfl,rfl,rfl,rfl,rfl,rfl,rfl,rfl,trivial⟩ rfl) (fun n J y h=>?_)));unfold dO at h;refine sr (jb (bv rfl) ?_);refine nt (ae (ci h (fun h=>?_) (fun h=>?_)))
     ·refine sk (dn (Z:=Z) (α:=σ) (fun X mc=>[(1,I a1),(2,.eq (.int .u8 a2)),(3,Pt u),(5,Pt c),(6,Pt b1),(10,Ri F),(51,Rs aG a3.1.2.1),(52,I (a3.1.2.1.length:Int)),(53,I y.1)]) (fun X mc=>[.obj u 80 (.at bJ a3),.obj c 155 (.eq (.func (.func 90) #[] #[(Pv u),(Pv x),(Pv c)])),.obj x 154 (.eq (.func (.yield l) #[] #[])),.obj b1 85 (.rep (.arr 3 (.arr 5 (.int .i64))) a0)]++E X mc) (fun e=>e=r) h (fun e h=>hR e h) (fun K hR h=>?_) (fun X mc h=>?_))
      ·refine an (sr (mq ?_));obtain⟨T9,Ue,h⟩:=aa h;refine jb (aI (t:=aG) rfl qD iY Ue) ?_;refine ja (ao (t:=aG) rfl iY rfl) ?_;refine aD rfl rfl rfl (bg rfl uE KN) trivial fun Uk=>?_;refine aq ?_;refine bj rfl rfl (bm rfl iY rfl rfl rfl) ⟨rfl,rfl,trivial⟩ ?_;refine nt (ae (aS (Z:=Z) (α:=Bool×σ) (fun U O=>[(1,I a1),(2,.eq (.int .u8 a2)),(3,Pt u),(5,Pt c),(6,Pt b1),(10,Ri F),(11,I y.1),(51,Rs aG a3.1.2.1),(52,I (a3.1.2.1.length:Int)),(53,I y.1),(80,.eq (.bool O.1))]) (fun U O=>[.obj u 80 (.at bJ a3),.obj c 155 (.eq (.func (.func 90) #[] #[(Pv u),(Pv x),(Pv c)])),.obj x 154 (.eq (.func (.yield l) #[] #[])),.obj b1 85 (.rep (.arr 3 (.arr 5 (.int .i64))) a0)]++E U O.2) h (fun K h=>?_) (fun U O h=>?_)))
       ·refine bK ?_;refine dm ?_;refine dm ?_;obtain⟨Up,Ui,h⟩:=aa h;refine db (ar [.tmp 58,.tmp 59] rfl rfl Ko rfl (io k a2 y.1 Up Ui)) ?_;refine uD rfl rfl rfl (aR rfl) ⟨rfl,trivial⟩ (fun hb=>?_) (fun hb=>?_)
        ·replace h:=cI (D7 hb) h;iterate 17 refine dg ?_
         refine df cY ?_;refine gn ?_;refine pt (nl ?_);exact fq (J,(true,y.2)) h (aV [.obj Uk 35 (.rep aG T9),.obj u 80 (.at bJ a3),.obj c 155 (.eq (.func (.func 90) #[] #[(Pv u),(Pv x),(Pv c)])),.obj x 154 (.eq (.func (.yield l) #[] #[])),.obj b1 85 (.rep (.arr 3 (.arr 5 (.int .i64))) a0)] (E J y.2) [1,2,3,4] ⟨rfl,rfl,rfl,rfl,rfl,rfl,rfl,rfl,rfl,rfl,rfl,trivial⟩ rfl)
        ·replace h:=bS (D8 hb) h;refine mM 1 rfl rfl rfl rfl rfl rfl (ap rfl xF lg rfl) ⟨rfl,rfl,trivial⟩ ?_;refine cy rfl rfl rfl rfl rfl (dK rfl) ⟨rfl,rfl,trivial⟩ ?_;refine cy rfl rfl rfl rfl rfl (aM 3 true rfl jY rfl) ⟨rfl,rfl,trivial⟩ ?_;refine cy rfl rfl rfl rfl rfl (ao (t:=aj) rfl dy rfl) ⟨rfl,rfl,trivial⟩ ?_;refine cy rfl rfl rfl rfl rfl (aR rfl) ⟨rfl,rfl,trivial⟩ ?_;obtain⟨Uo,Uh,h⟩:=aa h;refine cy rfl rfl rfl rfl rfl (ar [.tmp 65,.tmp 66] rfl rfl PU rfl (tX k a3.1 F Uo Uh)) ⟨rfl,rfl,rfl,trivial⟩ ?_;refine cy rfl rfl rfl rfl rfl (aA rfl mV) ⟨rfl,rfl,trivial⟩ ?_;refine mM 0 rfl rfl rfl rfl rfl rfl (ap rfl cH lg rfl) ⟨rfl,rfl,trivial⟩ ?_;obtain⟨Un,Ud,h⟩:=aa h;refine cy rfl rfl rfl rfl rfl (bf rfl Ud) ⟨rfl,rfl,rfl,trivial⟩ ?_;refine mM 1 rfl rfl rfl rfl rfl rfl (ap rfl xF lg rfl) ⟨rfl,rfl,trivial⟩ ?_;refine cy rfl rfl rfl rfl rfl (dK rfl) ⟨rfl,rfl,trivial⟩ ?_;refine cy rfl rfl rfl rfl rfl (aM 3 true rfl jY rfl) ⟨rfl,rfl,trivial⟩ ?_;refine cy rfl rfl rfl rfl rfl (aM 1 false rfl cV rfl) ⟨rfl,rfl,trivial⟩ ?_;refine cy rfl rfl rfl rfl rfl (ao (t:=(.slice (.int .i64))) rfl bI rfl) ⟨rfl,rfl,trivial⟩ ?_;refine cy rfl rfl rfl rfl rfl (aR rfl) ⟨rfl,rfl,trivial⟩ ?_;obtain⟨Um,Uc,h⟩:=aa h;refine cy rfl rfl rfl rfl rfl (aI (t:=(.int .i64)) rfl dQ cH Uc) ⟨rfl,rfl,rfl,trivial⟩ ?_;refine cy rfl rfl rfl rfl rfl (ao (t:=(.int .i64)) rfl cH rfl) ⟨rfl,rfl,trivial⟩ ?_;refine df cY ?_;refine gb (f5 rfl) ?_;refine pf (nl ?_);exact fq (J,(decide (Um < Un),y.2)) h (aV [.obj Uk 35 (.rep aG T9),.obj u 80 (.at bJ a3),.obj c 155 (.eq (.func (.func 90) #[] #[(Pv u),(Pv x),(Pv c)])),.obj x 154 (.eq (.func (.yield l) #[] #[])),.obj b1 85 (.rep (.arr 3 (.arr 5 (.int .i64))) a0)] (E J y.2) [1,2,3,4] ⟨rfl,rfl,rfl,rfl,rfl,rfl,rfl,rfl,rfl,rfl,rfl,trivial⟩ rfl)
       ·refine cv h (fun h=>?_) (fun h=>?_)
        ·refine dk (aP (bL (ag ?_)));exact fq (U,O.2) h (aV [.obj u 80 (.at bJ a3),.obj c 155 (.eq (.func (.func 90) #[] #[(Pv u),(Pv x),(Pv c)])),.obj x 154 (.eq (.func (.yield l) #[] #[])),.obj b1 85 (.rep (.arr 3 (.arr 5 (.int .i64))) a0)] (E U O.2) [0,1,2,3] ⟨rfl,rfl,rfl,rfl,rfl,rfl,rfl,rfl,rfl,trivial⟩ rfl)
        ·refine sk (sr (fr 3 ?_));refine lo f6 ?_;refine aD rfl rfl rfl (bg rfl sQ tP) trivial fun T8=>?_;refine bj rfl rfl (bm rfl f6 rfl rfl rfl) ⟨rfl,rfl,trivial⟩ ?_;refine nt (sr ?_);iterate 2 refine mq ?_
         refine ol dQ ?_;refine mq ?_;obtain⟨Ux,TX,h⟩:=aa h;refine jb (iE rfl QU F5 (av TX).1 (av TX).2) ?_;obtain⟨ac,Ub,h⟩:=aa h;obtain⟨Uw,Q,h⟩:=aa h;refine jb (iE rfl QV cH (av Q).1 (av Q).2) ?_;refine bj rfl rfl (nW (t:=(.int .i64)) (off:=0) (i:=a1) (j:=(F.length:Int)) (N:=3) (L:=5) rfl cH .int rfl rfl rfl rfl Ub (av Q).1 (av Q).2 rfl) ⟨rfl,rfl,trivial⟩ ?_;refine nt (ae (bK ?_));refine ea 3 (ap rfl CQ lg rfl) ?_;refine ea 0 (ap rfl f6 (yM) rfl) ?_;refine dm ?_;refine dm ?_;refine dm ?_;obtain⟨TZ,Ug,h⟩:=aa h;refine db (ar [.tmp 91,.tmp 92] rfl rfl J8 rfl (jj k a2 y.1 TZ Ug)) ?_;refine df cY ?_;obtain⟨se,Uf,h⟩:=aa h;refine fr 3 ?_;refine fr 4 ?_;refine fr 4 ?_;refine fr 4 ?_;refine fr 4 ?_;refine pD [.obj T8 85 (.rep (.arr 3 (.arr 5 (.int .i64))) (List.set a0 (Int.toNat a1) (List.set ac (Int.toNat (F.length:Int)) y.1))),.obj b1 85 (.rep (.arr 3 (.arr 5 (.int .i64))) a0)] rfl rfl rfl (oY (fs:=[]) (cs:=[(Pv u),(Pv x),(Pv c)]) (ags:=[.rep (.arr 3 (.arr 5 (.int .i64))) (List.set a0 (Int.toNat a1) (List.set ac (Int.toNat (F.length:Int)) y.1)),I a1,.eq (.int .u8 TZ)]) [.tmp 89,.tmp 90,.tmp 93] rfl rfl Nk rfl (ih (List.set a0 (Int.toNat a1) (List.set ac (Int.toNat (F.length:Int)) y.1)) a1 TZ U O.2 se Uf)) ⟨rfl,rfl,rfl,rfl,trivial⟩ fun pp=>?_;refine ja (fm rfl) ?_;refine nt (cw h (fun h=>?_) (fun h=>?_))
         ·refine sr (cq (nt (aB (br (aZ (aO ?_))))));refine bh (aV (Γ':=[(9,_)]) [.obj T8 85 (.rep (.arr 3 (.arr 5 (.int .i64))) (List.set a0 (Int.toNat a1) (List.set ac (Int.toNat (F.length:Int)) y.1))),.obj b1 85 (.rep (.arr 3 (.arr 5 (.int .i64))) a0),.obj u 80 (.at bJ a3),.obj x 154 (.eq (.func (.yield l) #[] #[])),.obj c 155 (.eq (.func (.func 90) #[] #[(Pv u),(Pv x),(Pv c)]))] (E pp se.2) [2,3,4] ⟨rfl,trivial⟩ rfl) ?_;obtain rfl:=hR _ h;exact iU pp [_] ⟨rfl,trivial⟩ rfl
         ·refine aY (bn ?_);exact fq (pp,se.2) h (aV [.obj T8 85 (.rep (.arr 3 (.arr 5 (.int .i64))) (List.set a0 (Int.toNat a1) (List.set ac (Int.toNat (F.length:Int)) y.1))),.obj b1 85 (.rep (.arr 3 (.arr 5 (.int .i64))) a0),.obj u 80 (.at bJ a3),.obj x 154 (.eq (.func (.yield l) #[] #[])),.obj c 155 (.eq (.func (.func 90) #[] #[(Pv u),(Pv x),(Pv c)]))] (E pp se.2) [2,4,3,1] ⟨rfl,rfl,rfl,rfl,rfl,rfl,rfl,rfl,rfl,trivial⟩ rfl)
      ·refine ab ?_;obtain⟨Ul,Ua,h⟩:=aa h;refine jb (bf rfl Ua) ?_;refine mq (nl ?_);exact fq (X,(Ul,mc)) h (aV [.obj u 80 (.at bJ a3),.obj c 155 (.eq (.func (.func 90) #[] #[(Pv u),(Pv x),(Pv c)])),.obj x 154 (.eq (.func (.yield l) #[] #[])),.obj b1 85 (.rep (.arr 3 (.arr 5 (.int .i64))) a0)] (E X mc) [0,1,2,3] ⟨rfl,rfl,rfl,rfl,rfl,rfl,rfl,rfl,rfl,trivial⟩ rfl)
     ·refine xa ?_;exact fq (J,y.2) h (aV [.obj u 80 (.at bJ a3),.obj c 155 (.eq (.func (.func 90) #[] #[(Pv u),(Pv x),(Pv c)])),.obj x 154 (.eq (.func (.yield l) #[] #[])),.obj b1 85 (.rep (.arr 3 (.arr 5 (.int .i64))) a0)] (E J y.2) [0,2,1] trivial rfl)
    ·refine sr (cq (nt (aB ?_)));cases h;exact iU qt [_] ⟨rfl,trivial⟩ rfl
def iW{σ:Type}(k:Nat)(Y:σ→(List (List Int))→Option (σ×Bool))(a1:dp)(s0:σ):Option (σ):=
 (fA k ([]:(List (List Int)))).bind fun r2=>
 (cZ k Y a1 k r2 0 0 s0).bind fun r5=>
 some r5.2
theorem nL{M:Md Tryz.prog}{σ Z:Type}(E:Z→σ→List D)(l:Nat)(Y:σ→(List (List Int))→Option (σ×Bool))(k:Nat)(a1:dp)(c:Nat)(hY:∀z s p r,Y s p=some r→YT M l [.rep (.arr 3 (.arr 5 (.int .i64))) p] (E z s) (fun z':Z=>(.eq (.bool r.2),E z' r.1))):
 ∀(z0:Z) (s0:σ) (r:σ),iW k Y a1 s0=some r→cS M 89 [.eq (.func (.yield l) #[] #[]),Pt c] ([.obj c 80 (.at bJ a1)]++E z0 s0) (fun z:Z=>(bz [],[.obj c 80 (.at bJ a1)]++E z r)):=by
 intro z0 s0 r h
 unfold iW at h
 replace h:=be h
 refine cS.of 10 Tryz.func89 rfl Tryz.ntmps89 rfl fun S w0=>?_
 refine sr ?_
 refine bx fun b1=>?_
 refine nt ?_
 refine sr ?_
 obtain⟨r2,j,h⟩:=aa h
 have u:=eZ k ([]:(List (List Int))) r2 j
 refine ja (dX (N:=[(.const (.slice none 0 0),.eq (.slice none 0 0))]) (ar [.const (.slice none 0 0)] rfl rfl E0 rfl u) fun _ _ _ hn=>⟨(kB (t:=(.slice (.slice (.int .i64)))) (x:=([]:(List (List Int)))) .nil rfl rfl hn.1),trivial⟩) ?_
 refine aD rfl rfl rfl (bg rfl sQ tP) trivial fun b3=>?_
 refine bj rfl rfl (bm rfl f6 rfl rfl rfl) ⟨rfl,rfl,trivial⟩ ?_
 refine nt ?_
 refine sr ?_
 refine aD rfl rfl rfl (bg rfl Om Qw) trivial fun b4=>?_
 refine nt ?_
 refine sr ?_
 refine jc (tg [] [.tmp 1,.tmp 2,.tmp 4] [] [(Pv c),(Pv b1),(Pv b4)] rfl rfl rfl) ?_
 refine bj rfl rfl (bm rfl CQ rfl rfl rfl) ⟨rfl,rfl,trivial⟩ ?_
 refine nt ?_
 refine ab ?_
 refine lo CQ ?_
 refine fr 1 ?_
 refine lo f6 ?_
 obtain⟨r5,e,h⟩:=aa h
 have n:=mS E l Y k a1 c b1 b4 hY k r2 0 0 z0 s0 r5 e
 refine fr 1 ?_
 refine fr 2 ?_
 refine fr 3 ?_
 refine fr 3 ?_
 refine pD [.obj b3 85 (.rep (.arr 3 (.arr 5 (.int .i64))) r2)] rfl rfl rfl (oY (fs:=[]) (cs:=[(Pv c),(Pv b1),(Pv b4)]) (ags:=[.rep (.arr 3 (.arr 5 (.int .i64))) r2,I 0,.eq (.int .u8 0)]) [.tmp 8,.const (.int .i64 (0)),.const (.int .u8 (0))] rfl rfl Nk rfl n) ⟨rfl,rfl,rfl,rfl,trivial⟩ fun z6=>?_
 refine au ?_
 refine jg ?_
 refine bh (aV (Γ':=[]) [.obj b3 85 (.rep (.arr 3 (.arr 5 (.int .i64))) r2),.obj c 80 (.at bJ a1),.obj b1 154 (.eq (.func (.yield l) #[] #[])),.obj b4 155 (.eq (.func (.func 90) #[] #[(Pv c),(Pv b1),(Pv b4)]))] (E z6 r5.2) [1] trivial rfl) ?_
 cases h
 exact iU z6 [] trivial rfl
def jp(k:Nat)(a1:dp):Option (List (List (List Int))):=
 (iW k (tZ (fun(y2:(List (List (List Int)))) (p4:(List (List Int)))=>
  (cp (bO (List.length y2+List.length [p4]))).bind fun _=>
  some (y2++[p4],true))) a1 (([]:(List (List (List Int)))),false)).bind fun r5=>
 if r5.2=true then(none) else(some r5.1)
theorem oI(k:Nat)(a1:dp)(c:Nat)(r:(List (List (List Int))))(h:jp k a1=some r):
 cm Tryz.prog 88 [.eq (.slice none 0 0),.eq (.func (.func 89) #[] #[(Pv c)])] [.obj c 80 (.at bJ a1)] (fun z:Value=>(bz [.eq z],[.sl z 85 (.arr 3 (.arr 5 (.int .i64))) r,.obj c 80 (.at bJ a1)])):=by
 unfold jp at h
 replace h:=be h
 refine yJ 13 Tryz.func88 rfl Tryz.ntmps88 rfl fun {M} S w0=>?_
 refine sr ?_
 refine bx fun b1=>?_
 refine cq ?_
 refine nt ?_
 refine ae ?_
 refine sr ?_
 refine mq ?_
 refine nt ?_
 refine an ?_
 refine eA (SE.nil 85 (.arr 3 (.arr 5 (.int .i64)))) ?_
 refine jh 1 rfl ?_
 refine jh 2 rfl ?_
 obtain⟨r5,j,h⟩:=aa h
 refine ot (Δ:=[.obj c 80 (.at bJ a1),.obj b1 102 (.eq (.slice none 0 0)),.sl (.slice none 0 0) 85 (.arr 3 (.arr 5 (.int .i64))) ([]:(List (List (List Int))))]) (F:=[]) (X:=Value) (J:=fun _=>JI r5.2) (E:=fun z3=>[.obj c 80 (.at bJ a1),.obj b1 102 (.eq z3),.sl z3 85 (.arr 3 (.arr 5 (.int .i64))) r5.1]) (r0:=fun _=>.tup .any) rfl rfl RS (fun rec hp ha hb hs hpe hN hv l=>?_) (fun dl z3=>qJ (fun hj=>?_) (fun hj=>?_))
 ·
  rcases rec with⟨st0,pe0,fn0,tm0,ps0,as0,bd0,df0⟩;dsimp only at hp ha hb hs hpe hN hv;subst hp hs hpe;have vN:vP tm0 [(2,Pt b1)]:=⟨congrArg A.eq (hv 2 _ rfl).symm,trivial⟩;refine cS.pick (M:=M) [1,0,2,3] [1,0,2,3] (nL (fun(z3:Value) (q:(List (List (List Int)))×Bool)=>[.raw l (.loop (jP ⟨.ready,none,fn0,tm0, #[7],as0,bd0,df0⟩ (JI q.2))),.obj b1 102 (.eq z3),.sl z3 85 (.arr 3 (.arr 5 (.int .i64))) q.1]) l (tZ (fun(y2:(List (List (List Int)))) (p4:(List (List Int)))=>
  (cp (bO (List.length y2+List.length [p4]))).bind fun _=>
  some (y2++[p4],true))) k a1 c (fun z3 q p r' h=>?_) (.slice none 0 0) (([]:(List (List (List Int)))),false) r5 j) rfl (fun _=>rfl) (fun _=>rfl)
  obtain⟨rq,hq,h2,rfl⟩:=qK h;obtain⟨y2,b5⟩:=q;obtain rfl:b5=false:=hq;replace h:=be h2;obtain⟨p4,hpv⟩:∃x,x=p:=⟨_,rfl⟩;subst hpv;refine YT.pick (R':=(fun z3:Value=>(.eq (.bool rq.2),[.raw l (.loop (jP ⟨.ready,none,fn0,tm0, #[7],as0,bd0,df0⟩ (JI (!rq.2)))),.obj b1 102 (.eq z3),.sl z3 85 (.arr 3 (.arr 5 (.int .i64))) rq.1]))) [0,1,2] [0,1,2] (Ip ha hb (N:=13) (Γ:=[(2,Pt b1)]) rfl hN (by decide) vN (fun S w=>?_)) rfl (fun _=>rfl) (fun _=>rfl);refine ab (aD rfl rfl rfl (bg rfl sQ tP) trivial fun b6=>?_);refine bj rfl rfl (bm rfl f6 rfl rfl rfl) ⟨rfl,rfl,trivial⟩ ?_;refine nl (de 1 rfl ?_);refine vU rfl rfl ?_;refine an (ab (fr 2 ?_));refine lo F7 ?_;refine fr 2 ?_;refine lo f6 ?_;refine ja (bi (t:=(.arr 3 (.arr 5 (.int .i64)))) [(.tmp 9,_)] [p4] rfl rfl Lj (.cons rfl .rep .nil) rfl rfl) ?_;obtain⟨u7,e,h⟩:=aa h;refine fr 3 ?_;refine dz rfl rfl rfl (bQ rfl rfl Lj (av e)) ⟨rfl,rfl,trivial⟩ fun v8=>?_;refine oq fun o9=>?_;refine fr 2 ?_;refine bj rfl rfl (bm rfl F7 o9 rfl rfl) ⟨rfl,rfl,trivial⟩ ?_;refine au (aK (de 1 rfl ?_));refine de 1 rfl ?_;refine de 3 rfl ?_;cases h;exact tR v8 2 rfl
 ·
  replace h:=bS (D8 hj) h;refine aK (tn (sr (fr 2 ?_)));refine lo F7 ?_;refine aq (nt (aB ?_));refine de 1 rfl ?_;refine yH ?_;refine bh (SE.fin (Γ':=[(4,_)]) [2,1,0] ⟨rfl,trivial⟩ rfl) ?_;cases h;exact aN z3 [.eq z3] 2 ⟨rfl,trivial⟩ rfl
 ·
  replace h:=cI (D7 hj) h;cases h
def kl(k:Nat)(a0:dp):Option (List (List (List Int))):=
 (jp k a0).bind fun r1=>
 some r1
theorem qm(k:Nat)(a0:dp)(c:Nat)(r:(List (List (List Int))))(h:kl k a0=some r):
 cm Tryz.prog 56 [.eq (.func (.func 89) #[] #[(Pv c)])] [.obj c 80 (.at bJ a0)] (fun _:Unit=>(bz [.rep (.slice (.arr 3 (.arr 5 (.int .i64)))) r],[.obj c 80 (.at bJ a0)])):=by
 unfold kl at h
 replace h:=be h
 refine cm.of 5 Tryz.func56 rfl Tryz.ntmps56 rfl fun S w0=>?_
 refine sr ?_
 refine cq ?_
 refine nt ?_
 refine sr ?_
 refine mq ?_
 obtain⟨r1,e,h⟩:=aa h
 have j:=oI k a0 c r1 e
 refine bG (Δ:=[_]) (F:=_) (fun _ _ _=>ay rfl _) rfl rfl (ar [.const (.slice none 0 0),.tmp 3] rfl rfl RU rfl j) ⟨rfl,rfl,trivial⟩ fun z2=>?_
 refine aq ?_
 refine nt ?_
 refine aB ?_
 refine bh (gx [2,4] ⟨rfl,rfl,trivial⟩) ?_
 cases h
 exact aN () [_] 1 ⟨rfl,trivial⟩ rfl
theorem oN(a0:dp):cm Tryz.prog 57 [.at bJ a0] [] (fun z:Nat=>(bz [.eq (.func (.func 89) #[] #[(Pv z)])],[.obj z 80 (.at bJ a0)])):=by
 refine cm.of 4 Tryz.func57 rfl Tryz.ntmps57 rfl fun S w0=>?_;refine sr (aD rfl rfl rfl (oC rfl trivial) ⟨rfl,trivial⟩ fun z=>?_);refine cq (nt (sr ?_));refine ja (tg [] [.tmp 1] [] [(Pv z)] rfl rfl rfl) ?_;refine aq (nt (aB ?_));exact aN z [_] 1 ⟨rfl,trivial⟩ rfl
def kG(k:Nat)(a0:List Int):Option (List Int):=
 (cp (bO (List.length a0))).bind fun _=>some a0
theorem ni(k:Nat)(a0:List Int)(r:List Int)(h:kG k a0=some r):
 cm Tryz.prog 59 [Ri a0] [] (fun z:Value=>(bz [.eq z],[.sl z 3 (.int .i64) r])):=by
 unfold kG at h
 replace h:=be h
 refine cm.of 8 Tryz.func59 rfl Tryz.ntmps59 rfl fun S w0=>?_
 obtain⟨u1,c,h⟩:=aa h
 cases h
 refine sr ?_
 refine cq ?_
 refine nt ?_
 refine ae ?_
 refine sr ?_
 refine mq ?_
 refine bG (Δ:=[]) (F:=_) (fun _ _ _=>ay rfl _) rfl rfl (Jl rfl dQ) ⟨rfl,rfl,trivial⟩ fun b=>?_
 refine nt ?_
 refine bC rfl (fun hb=>?_) (fun hb=>?_)
 ·
  refine sr (cq (nt (rx ?_)));obtain rfl:=b.2 hb;refine bh (SE.nil 3 (.int .i64)) ?_;exact aN (.slice none 0 0) [.eq (.slice none 0 0)] 1 ⟨rfl,trivial⟩ rfl
 ·
  refine sk (sr (aD rfl rfl rfl (jt (t:=(.int .i64)) [] [] rfl rfl dS .nil rfl rfl) trivial fun v1=>?_));refine mq ?_;refine dz rfl rfl rfl (bQ rfl rfl dS (by simpa using av c)) ⟨rfl,rfl,trivial⟩ fun v2=>?_;refine aq (nt (aB ?_));exact aN v2 [.eq v2] 1 ⟨rfl,trivial⟩ rfl
def ji(k:Nat)(a0:dp)(a1:(List (List Int)))(a2:Int):Nat→(Int×(List (List Int))×Int)→Option (Int×(List (List Int)))
 |0,_=>none
 |n+1,y5=>
  if y5.2.2 < 3 then((fV k a1 y5.2.2).bind fun r7=>
  (kD k a0 a2).bind fun r8=>
  (rE k r7 r8).bind fun r9=>
  (cp (bO (List.length y5.2.1+List.length [r9.2]))).bind fun _=>
  (ck (y5.2.2+1)).bind fun c=>
  ji k a0 a1 a2 n (EQ .u8 y5.1 r9.1,y5.2.1++[r9.2],c)) else(some (y5.1,y5.2.1))
def lu(k:Nat)(a0:dp)(a1:(List (List Int)))(a2:Int):Option (Int×(List (List Int))):=
 ((ji k a0 a1 a2 k (0,([]:(List (List Int))),0)):Option (Int×(List (List Int)))).bind fun x3=>
 (fA k x3.2).bind fun c=>
 some (x3.1,c)
theorem ox(k:Nat)(a0:dp)(a1:(List (List Int)))(a2:Int)(r:Int×(List (List Int)))(h:lu k a0 a1 a2=some r):
 cm Tryz.prog 70 [.at bJ a0,.rep (.arr 3 (.arr 5 (.int .i64))) a1,I a2] [] (fun _:Unit=>(bz [.eq (.int .u8 r.1),.rep (.arr 3 (.arr 5 (.int .i64))) r.2],[])):=by
 unfold lu at h
 replace h:=be h
 refine cm.of 37 Tryz.func70 rfl Tryz.ntmps70 rfl fun S w0=>?_
 refine sr ?_
 refine bx fun b1=>?_
 refine cq ?_
 refine aD rfl rfl rfl (bg rfl sQ tP) trivial fun b2=>?_
 refine nt ?_
 refine sr ?_
 refine cq ?_
 refine nt ?_
 refine sr ?_
 refine cq ?_
 refine nt ?_
 refine aS (Z:=Value) (α:=Int×(List (List Int))) (fun z4 x3=>[(7,Pt b2),(8,.eq (.int .u8 x3.1)),(9,.eq z4)]) (fun z4 x3=>[.obj b2 85 (.rep (.arr 3 (.arr 5 (.int .i64))) [[0,0,0,0,0],[0,0,0,0,0],[0,0,0,0,0]]),.sl z4 22 (.slice (.int .i64)) x3.2]) h (fun K h=>?_) (fun z4 x3 h=>?_)
 ·
  refine sr (eU rfl ?_);refine nt (an (eA (SE.nil 22 (.slice (.int .i64))) ?_));refine aJ (fun z6 y5=>[(0,.at bJ a0),(2,I a2),(4,Pt b1),(7,Pt b2),(8,.eq (.int .u8 y5.1)),(9,.eq z6),(13,I y5.2.2)]) (fun z6 y5=>[.obj b1 85 (.rep (.arr 3 (.arr 5 (.int .i64))) a1),.obj b2 85 (.rep (.arr 3 (.arr 5 (.int .i64))) [[0,0,0,0,0],[0,0,0,0,0],[0,0,0,0,0]]),.sl z6 22 (.slice (.int .i64)) y5.2.1]) (ji k a0 a1 a2) k (.slice none 0 0) (0,([]:(List (List Int))),0) (fun _=>rfl) h (SE.fin [2,1,0] ⟨rfl,rfl,rfl,rfl,rfl,rfl,rfl,trivial⟩ rfl) (fun n z6 y5 h=>?_);unfold ji at h;refine sr (jb (bv rfl) ?_);refine nt (ae (ci h (fun h=>?_) (fun h=>?_)))
  ·refine sk (ae (an (sr (mq ?_))));refine aq (nt (sr ?_));refine lo f6 ?_;refine mq ?_;obtain⟨r7,D,h⟩:=aa h;refine jb (ar [.tmp 17,.tmp 18] rfl rfl J9 rfl (gf k a1 y5.2.2 r7 D)) ?_;iterate 2 refine mq ?_
   obtain⟨r8,y,h⟩:=aa h;refine jb (ar [.tmp 20,.tmp 21] rfl rfl RQ rfl (nb k a0 a2 r8 y)) ?_;obtain⟨r9,x,h⟩:=aa h;refine jb (ar [.tmp 19,.tmp 22] rfl rfl RR rfl (tY k r7 r8 r9 x)) ?_;refine mq ?_;refine xr ?_;refine xr ?_;refine aq ?_;refine aq (nt (sr ?_));iterate 2 refine mq ?_
   refine jb (ON rfl) ?_;refine aq (nt (ab ?_));iterate 2 refine mq ?_
   refine ja (bi (t:=(.slice (.int .i64))) [(.tmp 30,_)] [r9.2] rfl rfl nR (.cons rfl .rep .nil) rfl rfl) ?_;obtain⟨E,j,h⟩:=aa h;refine fr 2 ?_;refine dz rfl rfl rfl (bQ rfl rfl nR (av j)) ⟨rfl,rfl,trivial⟩ fun u=>?_;refine aq (au (aK (tn (ab ?_))));obtain⟨s,e,h⟩:=aa h;refine jb (bf rfl e) ?_;refine mq (nl ?_);exact jz (u,(EQ .u8 y5.1 r9.1,y5.2.1++[r9.2],s)) h [1,2,0]
  ·refine xa ?_;exact jz (z6,(y5.1,y5.2.1)) h [1,2]
 ·
  refine sr ?_;iterate 2 refine mq ?_
  obtain⟨c,l,h⟩:=aa h;refine fr 1 ?_;refine ka (vS (N:=[(.tmp 35,.eq z4)]) (ar [.tmp 35] rfl rfl E0 rfl (eZ k x3.2 c l)) (fun _ _ _ hv hn=>⟨(lend hn.1 hv),trivial⟩) (fun _=>⟨rfl,Ar⟩)) ?_;refine aq ?_;refine fr 1 ?_;refine bj rfl rfl (bm rfl f6 rfl rfl rfl) ⟨rfl,rfl,trivial⟩ ?_;refine nt (aB ?_);cases h;exact aN () [_,.rep (.arr 3 (.arr 5 (.int .i64))) c] 0 ⟨rfl,⟨_,_,_,_,_,rfl,(.head _),f6,(yM),rfl⟩,trivial⟩ rfl
def kQ(k:Nat)(a0:(List Int)):Option a8:=
 ((if(a0.length:Int)=0 then(some [3,2]) else(some a0)):Option ((List Int))).bind fun x2=>
 some (3,[(1,[0,2]),(1,[1]),(2,[2]),(1,[0,1])],x2)
theorem jC(k:Nat)(a0:(List Int))(r:a8)(h:kQ k a0=some r):
 cm Tryz.prog 35 [Ri a0] [] (fun _:Unit=>(bz [.rep aj r],[])):=by
 unfold kQ at h
 replace h:=be h
 refine cm.of 18 Tryz.func35 rfl Tryz.ntmps35 rfl fun S w0=>?_
 refine sr ?_
 refine aD rfl rfl rfl (bg rfl lJ oh) trivial fun b1=>?_
 refine nt ?_
 refine aS (Z:=Unit) (α:=(List Int)) (fun z3 x2=>[(0,Ri x2),(2,Pt b1)]) (fun z3 x2=>[.obj b1 27 (.agg (.pair (I 0) (.pair (.eq (.slice none 0 0)) (.eq (.slice none 0 0)))))]) h (fun K h=>?_) (fun z3 x2 h=>?_)
 ·
  refine sr (mq ?_);refine ol dQ ?_;refine jb (eh rfl) ?_;refine nt (ci h (fun h=>?_) (fun h=>?_))
  ·refine ab (jb (bi (t:=(.int .i64)) [(.const (.int .i64 (3)),_),(.const (.int .i64 (2)),_)] [3,2] rfl rfl dS (.cons rfl .int (.cons rfl .int .nil)) rfl rfl) ?_);refine aq (nl ?_);exact jz ((),[3,2]) h [0]
  ·refine aY (ag ?_);exact jz ((),a0) h [0]
 ·
  refine sr (jb (bi (t:=(.int .i64)) [(.const (.int .i64 (0)),_),(.const (.int .i64 (2)),_)] [0,2] rfl rfl dS (.cons rfl .int (.cons rfl .int .nil)) rfl rfl) ?_);refine jb (cR [(0,.const (.int .i64 (1)),_),(1,.tmp 7,_)] rfl Bw uE vO (iw ⟨rfl,rfl,trivial⟩) rfl) ?_;refine ja (bi (t:=(.int .i64)) [(.const (.int .i64 (1)),_)] [1] rfl rfl dS (.cons rfl .int .nil) rfl rfl) ?_;refine jb (cR [(0,.const (.int .i64 (1)),_),(1,.tmp 9,_)] rfl Bw uE vO (iw ⟨rfl,rfl,trivial⟩) rfl) ?_;refine ja (bi (t:=(.int .i64)) [(.const (.int .i64 (2)),_)] [2] rfl rfl dS (.cons rfl .int .nil) rfl rfl) ?_;refine jb (cR [(0,.const (.int .i64 (2)),_),(1,.tmp 11,_)] rfl Bw uE vO (iw ⟨rfl,rfl,trivial⟩) rfl) ?_;refine jb (bi (t:=(.int .i64)) [(.const (.int .i64 (0)),_),(.const (.int .i64 (1)),_)] [0,1] rfl rfl dS (.cons rfl .int (.cons rfl .int .nil)) rfl rfl) ?_;refine jb (cR [(0,.const (.int .i64 (1)),_),(1,.tmp 13,_)] rfl Bw uE vO (iw ⟨rfl,rfl,trivial⟩) rfl) ?_;refine aF rfl (bi (t:=aG) [(.tmp 8,_),(.tmp 10,_),(.tmp 12,_),(.tmp 14,_)] [(1,[0,2]),(1,[1]),(2,[2]),(1,[0,1])] rfl rfl Bg (.cons trivial (.agg (.pair .int .rep)) (.cons trivial (.agg (.pair .int .rep)) (.cons trivial (.agg (.pair .int .rep)) (.cons trivial (.agg (.pair .int .rep)) .nil)))) rfl rfl) ⟨rfl,rfl,rfl,rfl,trivial⟩ ?_;refine mq ?_;refine jc (cR [(0,.const (.int .i64 (3)),_),(1,.tmp 15,_),(2,.tmp 16,_)] rfl Ji lJ Dx (iw ⟨rfl,rfl,rfl,trivial⟩) rfl) ?_;refine bj rfl rfl (bm rfl dy trivial rfl rfl) ⟨rfl,rfl,trivial⟩ ?_;refine nt (aB (bh (qf (a:=.agg (.pair (I 3) (.pair (Rs aG [(1,[0,2]),(1,[1]),(2,[2]),(1,[0,1])]) (Ri x2)))) (a':=.rep aj (3,[(1,[0,2]),(1,[1]),(2,[2]),(1,[0,1])],x2)) (yL (.agg (.pair .int (.pair .rep .rep))))) ?_));cases h;exact aN () [.rep aj (3,[(1,[0,2]),(1,[1]),(2,[2]),(1,[0,1])],x2)] 0 ⟨⟨_,_,_,_,_,rfl,(.head _),dy,(yM),rfl⟩,trivial⟩ rfl
def wY(k:Nat):Option (List (List Int)):=
 some [[1,0,3],[2]]
theorem sd(k:Nat)(r:(List (List Int)))(h:wY k=some r):
 cm Tryz.prog 36 [] [] (fun _:Unit=>(bz [.rep (.slice (.slice (.int .i64))) r],[])):=by
 unfold wY at h
 replace h:=be h
 refine cm.of 4 Tryz.func36 rfl Tryz.ntmps36 rfl fun S w0=>?_
 refine sr ?_
 refine cq ?_
 refine nt ?_
 refine sr ?_
 refine jc (bi (t:=(.int .i64)) [(.const (.int .i64 (1)),_),(.const (.int .i64 (0)),_),(.const (.int .i64 (3)),_)] [1,0,3] rfl rfl dS (.cons rfl .int (.cons rfl .int (.cons rfl .int .nil))) rfl rfl) ?_
 refine ja (bi (t:=(.int .i64)) [(.const (.int .i64 (2)),_)] [2] rfl rfl dS (.cons rfl .int .nil) rfl rfl) ?_
 refine jb (bi (t:=(.slice (.int .i64))) [(.tmp 1,_),(.tmp 2,_)] [[1,0,3],[2]] rfl rfl nR (.cons rfl .rep (.cons rfl .rep .nil)) rfl rfl) ?_
 refine aq ?_
 refine nt ?_
 refine aB ?_
 cases h
 exact ra
def Hv(k:Nat):Option (List (List Int)):=
 some [[0,2],[3,1]]
theorem Hu(k:Nat)(r:(List (List Int)))(h:Hv k=some r):
 cm Tryz.prog 37 [] [] (fun _:Unit=>(bz [.rep (.slice (.slice (.int .i64))) r],[])):=by
 unfold Hv at h
 replace h:=be h
 refine cm.of 4 Tryz.func37 rfl Tryz.ntmps37 rfl fun S w0=>?_
 refine sr ?_
 refine cq ?_
 refine nt ?_
 refine sr ?_
 refine jb (bi (t:=(.int .i64)) [(.const (.int .i64 (0)),_),(.const (.int .i64 (2)),_)] [0,2] rfl rfl dS (.cons rfl .int (.cons rfl .int .nil)) rfl rfl) ?_
 refine jb (bi (t:=(.int .i64)) [(.const (.int .i64 (3)),_),(.const (.int .i64 (1)),_)] [3,1] rfl rfl dS (.cons rfl .int (.cons rfl .int .nil)) rfl rfl) ?_
 refine jb (bi (t:=(.slice (.int .i64))) [(.tmp 1,_),(.tmp 2,_)] [[0,2],[3,1]] rfl rfl nR (.cons rfl .rep (.cons rfl .rep .nil)) rfl rfl) ?_
 refine aq ?_
 refine nt ?_
 refine aB ?_
 cases h
 exact ra
def ib(k:Nat)(a0:dp)(a2:Int):Nat→((List (List Int))×Int)→Option (List (List Int))
 |0,_=>none
 |n+1,y5=>
  if y5.2 < a2 then((lu k a0 y5.1 y5.2).bind fun r7=>
  (ck (y5.2+1)).bind fun x8=>
  ib k a0 a2 n (r7.2,x8)) else(some y5.1)
def lK(k:Nat)(a0:dp)(a1:(List (List Int)))(a2:Int):Option (List (List Int)):=
 ((ib k a0 a2 k (a1,0)):Option ((List (List Int)))).bind fun x3=>
 some x3
theorem rD(k:Nat)(a0:dp)(a1:(List (List Int)))(a2:Int)(r:(List (List Int)))(h:lK k a0 a1 a2=some r):
 cm Tryz.prog 46 [.at bJ a0,.rep (.arr 3 (.arr 5 (.int .i64))) a1,I a2] [] (fun _:Unit=>(bz [.rep (.arr 3 (.arr 5 (.int .i64))) r],[])):=by
 unfold lK at h
 replace h:=be h
 refine cm.of 21 Tryz.func46 rfl Tryz.ntmps46 rfl fun S w0=>?_
 refine sr ?_
 refine bx fun b1=>?_
 refine aD rfl rfl rfl (bg rfl sQ tP) trivial fun b2=>?_
 refine nt ?_
 refine aS (Z:=Unit) (α:=(List (List Int))) (fun z4 x3=>[(4,Pt b1),(6,Pt b2)]) (fun z4 x3=>[.obj b1 85 (.rep (.arr 3 (.arr 5 (.int .i64))) x3),.obj b2 85 (.rep (.arr 3 (.arr 5 (.int .i64))) [[0,0,0,0,0],[0,0,0,0,0],[0,0,0,0,0]])]) h (fun K h=>?_) (fun z4 x3 h=>?_)
 ·
  refine sr (mq ?_);refine eU rfl ?_;refine nt (an (aJ (fun z6 y5=>[(0,.at bJ a0),(4,Pt b1),(6,Pt b2),(8,I a2),(9,I y5.2)]) (fun z6 y5=>[.obj b1 85 (.rep (.arr 3 (.arr 5 (.int .i64))) y5.1),.obj b2 85 (.rep (.arr 3 (.arr 5 (.int .i64))) [[0,0,0,0,0],[0,0,0,0,0],[0,0,0,0,0]])]) (ib k a0 a2) k () (a1,0) (fun _=>rfl) h (SE.fin [1,0] ⟨rfl,rfl,rfl,rfl,rfl,trivial⟩ rfl) (fun n z6 y5 h=>?_)));unfold ib at h;refine sr (jb (bv rfl) ?_);refine nt (ae (ci h (fun h=>?_) (fun h=>?_)))
  ·refine sk (ae (an (sr (mq ?_))));refine aq (nt (ab ?_));refine mq ?_;refine lo f6 ?_;refine mq ?_;obtain⟨r7,e,h⟩:=aa h;refine jc (ar [.tmp 13,.tmp 14,.tmp 15] rfl rfl PY rfl (ox k a0 y5.1 y5.2 r7 e)) ?_;refine mq ?_;refine xr ?_;refine xr ?_;refine bj rfl rfl (bm rfl f6 rfl rfl rfl) ⟨rfl,rfl,trivial⟩ ?_;refine au (aK (tn (ab ?_)));obtain⟨x8,c,h⟩:=aa h;refine jb (bf rfl c) ?_;refine mq (nl ?_);exact jz ((),(r7.2,x8)) h [0,1]
  ·refine xa ?_;exact jz ((),y5.1) h [0,1]
 ·
  refine sr (lo f6 ?_);refine fr 1 ?_;refine bj rfl rfl (bm rfl f6 rfl rfl rfl) ⟨rfl,rfl,trivial⟩ ?_;refine nt (aB ?_);obtain rfl:=Option.some.inj h;exact aN () [.rep (.arr 3 (.arr 5 (.int .i64))) x3] 0 ⟨⟨_,_,_,_,_,rfl,(.head _),f6,(yM),rfl⟩,trivial⟩ rfl
def lT(k:Nat)(a0:List Int)(a1 a2:Int):Option (List Int):=
 (cp (0≤a1∧a1 < a2∧a2≤(a0.length:Int))).bind fun _=>some (a0.take a1.toNat++a0.drop a2.toNat)
theorem rN(k:Nat)(a0:List Int)(v:Value)(a1 a2:Int)(r:List Int)(h:lT k a0 a1 a2=some r):cm Tryz.prog 105 [.eq v,.eq (.int .i64 a1),.eq (.int .i64 a2)] [.sl v 3 (.int .i64) a0] (fun z:Value=>(bz [.eq z],[.sl z 3 (.int .i64) r])):=by
 unfold lT at h
 replace h:=be h
 obtain⟨u1,eg,h⟩:=aa h
 obtain⟨h1,h2,h3⟩:=av eg
 obtain rfl:=Option.some.inj h
 refine cm.of 33 Tryz.func105 rfl Tryz.ntmps105 rfl fun S w0=>?_
 refine Fp (fun e=>by rw [e] at h3;simp at h3;omega) fun b cap hv hcap=>?_
 subst hv
 have hl:(a0.take a1.toNat++a0.drop a2.toNat).length=a1.toNat+(a0.length - a2.toNat):=by simp;omega
 refine ae ?_
 refine ab ?_
 refine dD rfl ?_
 refine au (ag ?_)
 show JC _ _ _ _ _
 refine ae ?_
 refine ab ?_
 refine aC rfl rfl ?_
 refine aC rfl rfl ?_
 refine aC rfl rfl ?_
 refine aC rfl rfl ?_
 refine bV rfl rfl rfl (cO rfl rfl dQ) ⟨rfl,trivial⟩ ?_
 refine aF rfl (xU rfl dQ cH h1 (by omega) h3 (by omega)) ⟨rfl,rfl,rfl,rfl,trivial⟩ ?_
 refine au (ag ?_)
 show JC _ _ _ _ _
 refine ae ?_
 refine ae ?_
 refine ab ?_
 refine aC rfl rfl ?_
 refine aC rfl rfl ?_
 refine aF rfl (eh rfl) ⟨rfl,rfl,trivial⟩ ?_
 refine au (ag ?_)
 show JC _ _ _ _ _
 refine bC rfl (fun hb=>absurd (of_decide_eq_true hb) (by omega)) (fun hb=>?_)
 refine aY (ag ?_)
 show JC _ _ _ _ _
 refine ae ?_
 refine ab ?_
 refine aC rfl rfl ?_
 refine bV rfl rfl rfl (cO rfl rfl dQ) ⟨rfl,trivial⟩ ?_
 refine c9 rfl rfl ?_
 refine au (ag ?_)
 show JC _ _ _ _ _
 refine ae ?_
 refine bK ?_
 refine dA rfl rfl rfl (aR rfl) ⟨rfl,trivial⟩ ?_
 refine dA rfl rfl rfl (aR rfl) ⟨rfl,trivial⟩ ?_
 refine dA rfl rfl rfl (vn rfl dQ cH h1 (by omega)) ⟨rfl,rfl,trivial⟩ ?_
 refine dA rfl rfl rfl (aR rfl) ⟨rfl,trivial⟩ ?_
 refine dA rfl rfl rfl (aR rfl) ⟨rfl,trivial⟩ ?_
 refine dA rfl rfl rfl (BB rfl dQ cH (by omega) h3) ⟨rfl,rfl,trivial⟩ ?_
 refine tU (by kernel_rfl) cY ?_
 refine bZ (sL 22 rfl fun _ _ _ h=>(CU▸h:(A.eq (.slice (some ⟨b,0,none⟩) a1.toNat cap)).holds _ _ _)) ?_
 refine bV rfl rfl rfl (xX (t:=.int .i64) (b:=b) (cap:=cap) (l:=a0) (i:=a1.toNat) (j:=a2.toNat) rfl rfl dS (by omega) (by omega) hcap) ⟨rfl,rfl,trivial⟩ ?_
 refine c9 rfl rfl ?_
 refine au (ag ?_)
 show JC _ _ _ _ _
 refine ae ?_
 refine ab ?_
 refine aC rfl rfl ?_
 refine aC rfl rfl ?_
 refine bV rfl rfl rfl (cO rfl rfl dQ) ⟨rfl,trivial⟩ ?_
 refine aC rfl rfl ?_
 refine aF rfl (zz rfl dQ cH (by omega) (by rw [hl];omega) (by omega)) ⟨rfl,rfl,rfl,trivial⟩ ?_
 refine bj rfl rfl (zG (t:=.int .i64) (b:=b) (cap:=cap) (l:=a0.take a1.toNat++a0.drop a2.toNat) (n:=a0.length) rfl rfl dQ rfl TD rfl rfl (by rw [hl];omega) hcap) ⟨rfl,trivial⟩ ?_
 refine au (ag ?_)
 show JC _ _ _ _ _
 refine ae ?_
 refine ab ?_
 refine aC rfl rfl ?_
 refine c9 rfl rfl ?_
 refine au (ag ?_)
 show JC _ _ _ _ _
 refine aB ?_
 exact aN _ [.eq _] 1 ⟨rfl,trivial⟩ rfl
def kE(k:Nat)(x7:Int)(h:(List (List Int))):Nat→((List (List Int))×Int)→Option (List (List Int))
 |0,_=>none
 |n+1,c=>
  if c.2 < (h.length:Int) then((aX h c.2).bind fun e=>
  (cp (bO (List.length [x7]+List.length e))).bind fun _=>
  (cp (bO (List.length c.1+List.length [[x7]++e]))).bind fun _=>
  (ck (c.2+1)).bind fun j=>
  kE k x7 h n (c.1++[[x7]++e],j)) else(some c.1)
def kF(k:Nat)(a0:(List Int))(self:(List Int)→Option ((List (List Int)))):Nat→((List (List Int))×Int)→Option (List (List Int))
 |0,_=>none
 |n+1,y3=>
  if y3.2 < (a0.length:Int) then((((aX a0 y3.2).bind fun x7=>
  (kG k a0).bind fun r8=>
  (ck (y3.2+1)).bind fun e=>
  (lT k r8 y3.2 e).bind fun j=>
  (self j).bind fun h=>
  kE k x7 h k (y3.1,0)):Option ((List (List Int)))).bind fun x5=>
  (ck (y3.2+1)).bind fun c=>
  kF k a0 self n (x5,c)) else(some y3.1)
def lL(k:Nat):Nat→(List Int)→Option ((List (List Int)))
 |0,_=>none
 |m0+1,a0=>
  if(a0.length:Int)=0 then(some [[]]) else(((kF k a0 (lL k m0) k (([]:(List (List Int))),0)):Option ((List (List Int)))).bind fun x1=>
  some x1)
theorem wa(k:Nat):
 ∀(n:Nat) (a0:(List Int)) (r:(List (List Int))),lL k n a0=some r→cm Tryz.prog 75 [Ri a0] ([]) (fun _:Unit=>(bz [.rep (.slice (.slice (.int .i64))) r],[])):=by
 intro n
 induction n with
 |zero=>intro a0 r h;cases h
 |succ m0 ih=>
  intro a0 r h;rw [lL] at h;replace h:=be h;refine cm.of 41 Tryz.func75 rfl Tryz.ntmps75 rfl fun S w0=>?_;refine sr (cq (nt (ae (sr ?_))));refine mq ?_;refine ol dQ ?_;refine jb (eh rfl) ?_;refine nt (ci h (fun h=>?_) (fun h=>?_))
  ·refine sr (ja (bi (t:=(.slice (.int .i64))) [(.const (.slice none 0 0),_)] [[]] rfl rfl nR (.cons rfl .nil .nil) rfl rfl) ?_);refine aq (nt (rx ?_));cases h;exact ra
  ·refine sk (sr (cq (nt ?_)));refine aS (Z:=Value) (α:=(List (List Int))) (fun z2 x1=>[(3,.eq z2)]) (fun z2 x1=>[.sl z2 22 (.slice (.int .i64)) x1]) h (fun K h=>?_) (fun z2 x1 h=>?_)
   ·refine sr (mq ?_);refine ol dQ ?_;refine eU rfl ?_;refine nt (an (eA (SE.nil 22 (.slice (.int .i64))) ?_));refine aJ (fun z4 y3=>[(0,Ri a0),(3,.eq z4),(12,Ri a0),(13,I (a0.length:Int)),(14,I y3.2)]) (fun z4 y3=>[.sl z4 22 (.slice (.int .i64)) y3.1]) (kF k a0 (lL k m0)) k (.slice none 0 0) (([]:(List (List Int))),0) (fun _=>rfl) h (SE.fin [0] ⟨rfl,rfl,rfl,rfl,rfl,trivial⟩ rfl) (fun n z4 y3 h=>?_);unfold kF at h;refine sr (jb (bv rfl) ?_);refine nt (ae (ci h (fun h=>?_) (fun h=>?_)))
    ·refine sk (aS (Z:=Value) (α:=(List (List Int))) (fun z6 x5=>[(0,Ri a0),(3,.eq z6),(12,Ri a0),(13,I (a0.length:Int)),(14,I y3.2)]) (fun z6 x5=>[.sl z6 22 (.slice (.int .i64)) x5]) h (fun K h=>?_) (fun z6 x5 h=>?_))
     ·refine an (sr (mq ?_));obtain⟨x7,Y,h⟩:=aa h;refine jb (aI (t:=(.int .i64)) rfl dQ cH Y) ?_;refine ja (ao (t:=(.int .i64)) rfl cH rfl) ?_;refine aq ?_;refine aq (nt (sr ?_));refine mq ?_;obtain⟨r8,ac,h⟩:=aa h;refine aD rfl rfl rfl (ar [.tmp 19] rfl rfl Sm rfl (ni k a0 r8 ac)) ⟨rfl,trivial⟩ fun v9=>?_;iterate 2 refine mq ?_
      obtain⟨U,D,h⟩:=aa h;refine jb (bf rfl D) ?_;obtain⟨s,M,h⟩:=aa h;refine dz rfl rfl rfl (ar [.tmp 20,.tmp 21,.tmp 23] rfl rfl Ql rfl (rN k r8 v9 y3.2 U s M)) ⟨rfl,rfl,rfl,trivial⟩ fun qt=>?_;refine bZ (gx [24] ⟨rfl,trivial⟩) ?_;obtain⟨j,J,h⟩:=aa h;refine ja (ar [.tmp 24] rfl rfl PW rfl (ih s j J)) ?_;refine ol k9 ?_;refine eU rfl ?_;refine nt (an (aJ (fun e c=>[(0,Ri a0),(3,.eq e),(5,I x7),(12,Ri a0),(13,I (a0.length:Int)),(14,I y3.2),(25,.rep (.slice (.slice (.int .i64))) j),(26,I (j.length:Int)),(27,I c.2)]) (fun e c=>[.sl e 22 (.slice (.int .i64)) c.1]) (kE k x7 j) k z4 (y3.1,0) (fun _=>rfl) h (SE.fin [0] ⟨rfl,rfl,rfl,rfl,rfl,rfl,rfl,rfl,rfl,trivial⟩ rfl) (fun n e c h=>?_)));unfold kE at h;refine sr (jb (bv rfl) ?_);refine nt (ae (ci h (fun h=>?_) (fun h=>?_)))
      ·refine sk (ae (an (sr ?_)));obtain⟨l,y,h⟩:=aa h;refine jb (aI (t:=(.slice (.int .i64))) rfl k9 bI y) ?_;refine ja (ao (t:=(.slice (.int .i64))) rfl bI rfl) ?_;refine aq (nt (ab ?_));iterate 2 refine mq ?_
       refine aD rfl rfl rfl (jt (t:=(.int .i64)) [(.tmp 32,_)] [x7] rfl rfl dS (.cons rfl .int .nil) rfl rfl) ⟨rfl,trivial⟩ fun pp=>?_;refine mq ?_;obtain⟨TX,F,h⟩:=aa h;refine dz rfl rfl rfl (bQ rfl rfl dS (av F)) ⟨rfl,rfl,trivial⟩ fun mc=>?_;refine bZ (gx [35] ⟨rfl,trivial⟩) ?_;refine ja (bi (t:=(.slice (.int .i64))) [(.tmp 35,_)] [[x7]++l] rfl rfl nR (.cons rfl .rep .nil) rfl rfl) ?_;obtain⟨se,E,h⟩:=aa h;refine dz rfl rfl rfl (bQ rfl rfl nR (av E)) ⟨rfl,rfl,trivial⟩ fun X=>?_;refine aq (au (aK (tn (ab ?_))));obtain⟨Q,x,h⟩:=aa h;refine jb (bf rfl x) ?_;refine mq (nl ?_);exact jz (X,(c.1++[[x7]++l],Q)) h [0]
      ·refine dk (aP (aP (bL (bn ?_))));exact jz (e,c.1) h [0]
     ·refine ab ?_;obtain⟨O,u,h⟩:=aa h;refine jb (bf rfl u) ?_;refine mq (nl ?_);exact jz (z6,(x5,O)) h [0]
    ·refine xa ?_;exact jz (z4,y3.1) h [0]
   ·refine sr (mq ?_);refine aq (nt (aB ?_));refine bh (gx [2,3,40] ⟨rfl,rfl,rfl,trivial⟩) ?_;cases h;exact ra
def f9{σ:Type}(k:Nat)(a1:(List Int))(Y:σ→Int→Option (σ×Bool)):Nat→(Int×σ)→Option (σ)
 |0,_=>none
 |n+1,y1=>
  if y1.1 < (a1.length:Int) then((aX a1 y1.1).bind fun x3=>
  (Y y1.2 x3).bind fun r4=>
  if¬(r4.2=true) then(some r4.1) else((ck (y1.1+1)).bind fun x6=>
  f9 k a1 Y n (x6,r4.1))) else(some y1.2)
def kh{σ:Type}(k:Nat)(Y:σ→Int→Option (σ×Bool))(a1:(List Int))(s0:σ):Option (σ):=
 f9 k a1 Y k (0,s0)
theorem qj{M:Md Tryz.prog}{σ Z:Type}(E:Z→σ→List D)(l:Nat)(Y:σ→Int→Option (σ×Bool))(k:Nat)(a1:(List Int))(c:Nat)(hY:∀z s p r,Y s p=some r→YT M l [I p] (E z s) (fun z':Z=>(.eq (.bool r.2),E z' r.1))):
 ∀(z0:Z) (s0:σ) (r:σ),kh k Y a1 s0=some r→cS M 108 [.eq (.func (.yield l) #[] #[]),Pt c] ([.obj c 22 (Ri a1)]++E z0 s0) (fun z:Z=>(bz [],[.obj c 22 (Ri a1)]++E z r)):=by
 intro z0 s0 r h
 unfold kh at h
 replace h:=be h
 refine cS.of 16 Tryz.func108 rfl Tryz.ntmps108 rfl fun S w0=>?_
 refine sr ?_
 refine lo bI ?_
 refine ol dQ ?_
 refine eU rfl ?_
 refine nt ?_
 refine an ?_
 refine aJ (Z:=Z) (α:=Int×σ) (fun z2 y1=>[(0,.eq (.func (.yield l) #[] #[])),(5,Ri a1),(6,I (a1.length:Int)),(7,I y1.1)]) (fun z2 y1=>[.obj c 22 (Ri a1)]++E z2 y1.2) (f9 k a1 Y) k z0 (0,s0) (fun _=>rfl) h (aV [.obj c 22 (Ri a1)] (E z0 s0) [0] ⟨rfl,rfl,rfl,rfl,trivial⟩ rfl) (fun n z2 y1 h=>?_)
 unfold f9 at h
 refine sr ?_
 refine jb (bv rfl) ?_
 refine nt ?_
 refine ae ?_
 refine ci h (fun h=>?_) (fun h=>?_)
 ·
  refine sk (ae (an (sr ?_)));obtain⟨x3,j,h⟩:=aa h;refine jb (aI (t:=(.int .i64)) rfl dQ cH j) ?_;refine ja (ao (t:=(.int .i64)) rfl cH rfl) ?_;refine aq (nt (sr ?_));iterate 2 refine mq ?_
  obtain⟨r4,u,h⟩:=aa h;refine pD [.obj c 22 (Ri a1)] rfl rfl rfl (xR [.tmp 12] rfl rfl rfl (hY z2 y1.2 x3 r4 u)) ⟨rfl,rfl,trivial⟩ fun z5=>?_;refine ja (fm rfl) ?_;refine nt (cw h (fun h=>?_) (fun h=>?_))
  ·refine aB (br (aZ ?_));cases h;exact iU z5 [] trivial rfl
  ·refine aY (aK (tn (ab ?_)));obtain⟨x6,e,h⟩:=aa h;refine jb (bf rfl e) ?_;refine mq (nl ?_);exact fq (z5,(x6,r4.1)) h (aV [.obj c 22 (Ri a1)] (E z5 r4.1) [0] ⟨rfl,rfl,rfl,rfl,trivial⟩ rfl)
 ·
  refine dk (aP (aP (bL (jg ?_))));cases h;exact iU z2 [] trivial rfl
def jO(k:Nat)(a1:(List Int)):Option (List Int):=
 (kh k (tZ (fun(y2:(List Int)) (p4:Int)=>
  (cp (bO (List.length y2+List.length [p4]))).bind fun _=>
  some (y2++[p4],true))) a1 (([]:(List Int)),false)).bind fun r5=>
 if r5.2=true then(none) else(some r5.1)
theorem oO(k:Nat)(a1:(List Int))(c:Nat)(r:(List Int))(h:jO k a1=some r):
 cm Tryz.prog 140 [.eq (.slice none 0 0),.eq (.func (.func 108) #[] #[(Pv c)])] [.obj c 22 (Ri a1)] (fun z:Value=>(bz [.eq z],[.sl z 3 (.int .i64) r,.obj c 22 (Ri a1)])):=by
 unfold jO at h
 replace h:=be h
 refine yJ 13 Tryz.func140 rfl Tryz.ntmps140 rfl fun {M} S w0=>?_
 refine sr ?_
 refine bx fun b1=>?_
 refine cq ?_
 refine nt ?_
 refine ae ?_
 refine sr ?_
 refine mq ?_
 refine nt ?_
 refine an ?_
 refine eA (SE.nil 3 (.int .i64)) ?_
 refine jh 1 rfl ?_
 refine jh 2 rfl ?_
 obtain⟨r5,j,h⟩:=aa h
 refine ot (Δ:=[.obj c 22 (Ri a1),.obj b1 22 (.eq (.slice none 0 0)),.sl (.slice none 0 0) 3 (.int .i64) ([]:(List Int))]) (F:=[]) (X:=Value) (J:=fun _=>JI r5.2) (E:=fun z3=>[.obj c 22 (Ri a1),.obj b1 22 (.eq z3),.sl z3 3 (.int .i64) r5.1]) (r0:=fun _=>.tup .any) rfl rfl Qi (fun rec hp ha hb hs hpe hN hv l=>?_) (fun dl z3=>qJ (fun hj=>?_) (fun hj=>?_))
 ·
  rcases rec with⟨st0,pe0,fn0,tm0,ps0,as0,bd0,df0⟩;dsimp only at hp ha hb hs hpe hN hv;subst hp hs hpe;have vN:vP tm0 [(2,Pt b1)]:=⟨congrArg A.eq (hv 2 _ rfl).symm,trivial⟩;refine cS.pick (M:=M) [1,0,2,3] [1,0,2,3] (qj (fun(z3:Value) (q:(List Int)×Bool)=>[.raw l (.loop (jP ⟨.ready,none,fn0,tm0, #[7],as0,bd0,df0⟩ (JI q.2))),.obj b1 22 (.eq z3),.sl z3 3 (.int .i64) q.1]) l (tZ (fun(y2:(List Int)) (p4:Int)=>
  (cp (bO (List.length y2+List.length [p4]))).bind fun _=>
  some (y2++[p4],true))) k a1 c (fun z3 q p r' h=>?_) (.slice none 0 0) (([]:(List Int)),false) r5 j) rfl (fun _=>rfl) (fun _=>rfl)
  obtain⟨rq,hq,h2,rfl⟩:=qK h;obtain⟨y2,b5⟩:=q;obtain rfl:b5=false:=hq;replace h:=be h2;obtain⟨p4,hpv⟩:∃x,x=p:=⟨_,rfl⟩;subst hpv;refine YT.pick (R':=(fun z3:Value=>(.eq (.bool rq.2),[.raw l (.loop (jP ⟨.ready,none,fn0,tm0, #[7],as0,bd0,df0⟩ (JI (!rq.2)))),.obj b1 22 (.eq z3),.sl z3 3 (.int .i64) rq.1]))) [0,1,2] [0,1,2] (Ip ha hb (N:=13) (Γ:=[(2,Pt b1)]) rfl hN (by decide) vN (fun S w=>?_)) rfl (fun _=>rfl) (fun _=>rfl);refine ab (aq (nl ?_));refine vU rfl rfl ?_;refine an (ab (fr 1 ?_));refine lo bI ?_;refine mq ?_;refine ja (bi (t:=(.int .i64)) [(.tmp 9,_)] [p4] rfl rfl dS (.cons rfl .int .nil) rfl rfl) ?_;obtain⟨u6,e,h⟩:=aa h;refine fr 2 ?_;refine dz rfl rfl rfl (bQ rfl rfl dS (av e)) ⟨rfl,rfl,trivial⟩ fun v7=>?_;refine oq fun o8=>?_;refine fr 1 ?_;refine bj rfl rfl (bm rfl bI o8 rfl rfl) ⟨rfl,rfl,trivial⟩ ?_;refine au (aK (de 1 rfl ?_));refine de 1 rfl ?_;refine de 2 rfl ?_;cases h;exact tR v7 2 rfl
 ·
  replace h:=bS (D8 hj) h;refine aK (tn (sr (fr 2 ?_)));refine lo bI ?_;refine aq (nt (aB ?_));refine de 1 rfl ?_;refine yH ?_;refine bh (SE.fin (Γ':=[(4,_)]) [2,1,0] ⟨rfl,trivial⟩ rfl) ?_;cases h;exact aN z3 [.eq z3] 2 ⟨rfl,trivial⟩ rfl
 ·
  replace h:=cI (D7 hj) h;cases h
def lb(k:Nat)(a0:(List Int)):Option (List Int):=
 (jO k a0).bind fun r1=>
 some r1
theorem qN(k:Nat)(a0:(List Int))(c:Nat)(r:(List Int))(h:lb k a0=some r):
 cm Tryz.prog 106 [.eq (.func (.func 108) #[] #[(Pv c)])] [.obj c 22 (Ri a0)] (fun z:Value=>(bz [.eq z],[.sl z 3 (.int .i64) r,.obj c 22 (Ri a0)])):=by
 unfold lb at h
 replace h:=be h
 refine cm.of 5 Tryz.func106 rfl Tryz.ntmps106 rfl fun S w0=>?_
 refine sr ?_
 refine cq ?_
 refine nt ?_
 refine sr ?_
 refine mq ?_
 obtain⟨r1,e,h⟩:=aa h
 have j:=oO k a0 c r1 e
 refine bG (Δ:=[_]) (F:=_) (fun _ _ _=>ay rfl _) rfl rfl (ar [.const (.slice none 0 0),.tmp 3] rfl rfl Qe rfl j) ⟨rfl,rfl,trivial⟩ fun z2=>?_
 refine aq ?_
 refine nt ?_
 refine aB ?_
 cases h
 exact aN z2 [.eq z2] 2 ⟨rfl,trivial⟩ rfl
def qd(k:Nat)(a0:Int):Option Bool:=
 some (!decide (a0=a0))
theorem sA(k:Nat)(a0:Int)(r:Bool)(h:qd k a0=some r):
 cm Tryz.prog 172 [I a0] [] (fun _:Unit=>(bz [.eq (.bool r)],[])):=by
 unfold qd at h
 replace h:=be h
 refine cm.of 6 Tryz.func172 rfl Tryz.ntmps172 rfl fun S w0=>?_
 refine sr ?_
 refine cq ?_
 refine nt ?_
 refine sr ?_
 iterate 2 refine mq ?_
 refine jb (ig rfl) ?_
 refine aq ?_
 refine nt ?_
 refine aB ?_
 cases h
 exact ra
def vJ(k:Nat)(a0:Int)(a1:Int):Option Bool:=
 (((qd k a0).bind fun r3=>
 if r3=true then((qd k a1).bind fun r4=>
 if¬(r4=true) then(some true) else(some (decide (a0 < a1)))) else(some (decide (a0 < a1)))):Option (Bool)).bind fun x1=>
 some x1
theorem AB(k:Nat)(a0:Int)(a1:Int)(r:Bool)(h:vJ k a0 a1=some r):
 cm Tryz.prog 161 [I a0,I a1] [] (fun _:Unit=>(bz [.eq (.bool r)],[])):=by
 unfold vJ at h
 replace h:=be h
 refine cm.of 17 Tryz.func161 rfl Tryz.ntmps161 rfl fun S w0=>?_
 refine sr ?_
 refine cq ?_
 refine nt ?_
 refine aS (Z:=Unit) (α:=Bool) (fun z2 x1=>[(4,.eq (.bool x1))]) (fun z2 x1=>[]) h (fun K h=>?_) (fun z2 x1 h=>?_)
 ·
  refine ab (mq ?_);obtain⟨r3,e,h⟩:=aa h;refine ja (ar [.tmp 5] rfl rfl LC rfl (sA k a0 r3 e)) ?_;refine mq ?_;refine cd (s:=7) rfl (fun hb=>?_) (fun hb=>?_)
  ·replace h:=cI (D7 hb) h;refine gm ?_;obtain⟨r4,c,h⟩:=aa h;refine ga (ar [.tmp 8] rfl rfl LC rfl (sA k a1 r4 c)) ?_;refine ga (fm rfl) ?_;refine pt ?_;refine mq ?_;refine cd (s:=12) rfl (fun hb=>?_) (fun hb=>?_)
   ·replace h:=cI (EF hb) h;iterate 3 refine gn ?_
    refine pt ?_;refine aq (nl ?_);exact jz ((),true) h []
   ·replace h:=bS (wO hb) h;refine gm ?_;refine gm ?_;refine gb (bv rfl) ?_;refine pf ?_;refine aq (nl ?_);exact jz ((),decide (a0 < a1)) h []
  ·replace h:=bS (D8 hb) h;iterate 3 refine gn ?_
   refine pf ?_;refine mq ?_;refine gm ?_;refine gm ?_;refine gb (bv rfl) ?_;refine pf ?_;refine aq (nl ?_);exact jz ((),decide (a0 < a1)) h []
 ·
  refine aB ?_;cases h;exact ra
def cJ(k:Nat)(a1:Int):Nat→((List Int)×Int)→Option (List Int)
 |0,_=>none
 |n+1,y6=>
  ((if a1 < y6.2 then((aX y6.1 y6.2).bind fun u=>
  (ck (y6.2 - 1)).bind fun s=>
  (aX y6.1 s).bind fun r=>
  (vJ k u r).bind fun x=>
  some x) else(some false)):Option (Bool)).bind fun x8=>
  if x8=true then((ck (y6.2 - 1)).bind fun e=>
  (ck (y6.2 - 1)).bind fun l=>
  (aX y6.1 l).bind fun c=>
  (aX y6.1 y6.2).bind fun j=>
  (aX y6.1 y6.2).bind fun D=>
  (aX (List.set y6.1 (Int.toNat y6.2) c) e).bind fun y=>
  (ck (y6.2 - 1)).bind fun h=>
  cJ k a1 n (List.set (List.set y6.1 (Int.toNat y6.2) c) (Int.toNat e) j,h)) else(some y6.1)
def cK(k:Nat)(a1:Int)(a2:Int):Nat→((List Int)×Int)→Option (List Int)
 |0,_=>none
 |n+1,y2=>
  if y2.2 < a2 then(((cJ k a1 k (y2.1,y2.2)):Option ((List Int))).bind fun x4=>
  (ck (y2.2+1)).bind fun c=>
  cK k a1 a2 n (x4,c)) else(some y2.1)
def eC(k:Nat)(a0:(List Int))(a1:Int)(a2:Int):Option (List Int):=
 (ck (a1+1)).bind fun x1=>
 cK k a1 a2 k (a0,x1)
theorem j7(k:Nat)(a0:(List Int))(c:Value)(a1:Int)(a2:Int)(r:(List Int))(h:eC k a0 a1 a2=some r):
 cm Tryz.prog 155 [.eq c,I a1,I a2] [.sl c 3 (.int .i64) a0] (fun _:Unit=>(bz [],[.sl c 3 (.int .i64) r])):=by
 unfold eC at h
 replace h:=be h
 refine cm.of 49 Tryz.func155 rfl Tryz.ntmps155 rfl fun S w0=>?_
 refine sr ?_
 refine mq ?_
 obtain⟨x1,Uk,h⟩:=aa h
 refine jb (bf rfl Uk) ?_
 refine aq ?_
 refine nt ?_
 refine an ?_
 refine aJ (fun z3 y2=>[(0,.eq c),(1,I a1),(2,I a2),(6,I y2.2)]) (fun z3 y2=>[.sl c 3 (.int .i64) y2.1]) (cK k a1 a2) k () (a0,x1) (fun _=>rfl) h (SE.fin [0] ⟨rfl,rfl,rfl,rfl,trivial⟩ rfl) (fun n z3 y2 h=>?_)
 unfold cK at h
 refine ae ?_
 refine sr ?_
 iterate 2 refine mq ?_
 refine jb (bv rfl) ?_
 refine nt ?_
 refine ci h (fun h=>?_) (fun h=>?_)
 ·
  refine sk (aS (Z:=Unit) (α:=(List Int)) (fun z5 x4=>[(0,.eq c),(1,I a1),(2,I a2),(6,I y2.2)]) (fun z5 x4=>[.sl c 3 (.int .i64) x4]) h (fun K h=>?_) (fun z5 x4 h=>?_))
  ·refine an (sr (mq ?_));refine aq (nt (an ?_));refine aJ (fun z7 y6=>[(0,.eq c),(1,I a1),(2,I a2),(6,I y2.2),(7,I y6.2)]) (fun z7 y6=>[.sl c 3 (.int .i64) y6.1]) (cJ k a1) k () (y2.1,y2.2) (fun _=>rfl) h (SE.fin [0] ⟨rfl,rfl,rfl,rfl,rfl,trivial⟩ rfl) (fun n z7 y6 h=>?_);unfold cJ at h;refine ae (aS (Z:=Unit) (α:=Bool) (fun z9 x8=>[(0,.eq c),(1,I a1),(2,I a2),(6,I y2.2),(7,I y6.2),(30,.eq (.bool x8))]) (fun z9 x8=>[.sl c 3 (.int .i64) y6.1]) h (fun K h=>?_) (fun z9 x8 h=>?_))
   ·refine bK ?_;refine dm ?_;refine dm ?_;refine db (f5 rfl) ?_;refine uD rfl rfl rfl (aR rfl) ⟨rfl,trivial⟩ (fun hb=>?_) (fun hb=>?_)
    ·replace h:=cI (nG hb) h;refine cy rfl rfl rfl rfl rfl (aR rfl) ⟨rfl,rfl,trivial⟩ ?_;refine cy rfl rfl rfl rfl rfl (aR rfl) ⟨rfl,rfl,trivial⟩ ?_;obtain⟨Ua,x,h⟩:=aa h;refine mM 0 rfl rfl rfl rfl rfl rfl (aW (t:=(.int .i64)) rfl dQ cH x) ⟨rfl,rfl,rfl,trivial⟩ ?_;refine mM 0 rfl rfl rfl rfl rfl rfl (dE (i:=Int.toNat y6.2) (off:=0) rfl cH (fun _=>rfl) rfl (co x).2.2 rfl) ⟨rfl,rfl,trivial⟩ ?_;refine cy rfl rfl rfl rfl rfl (aR rfl) ⟨rfl,rfl,trivial⟩ ?_;refine cy rfl rfl rfl rfl rfl (aR rfl) ⟨rfl,rfl,trivial⟩ ?_;obtain⟨T9,qt,h⟩:=aa h;refine cy rfl rfl rfl rfl rfl (eO rfl qt) ⟨rfl,rfl,rfl,trivial⟩ ?_;obtain⟨T8,u,h⟩:=aa h;refine mM 0 rfl rfl rfl rfl rfl rfl (aW (t:=(.int .i64)) rfl dQ cH u) ⟨rfl,rfl,rfl,trivial⟩ ?_;refine mM 0 rfl rfl rfl rfl rfl rfl (dE (i:=Int.toNat T9) (off:=0) rfl cH (fun _=>rfl) rfl (co u).2.2 rfl) ⟨rfl,rfl,trivial⟩ ?_;refine df cY ?_;obtain⟨F,se,h⟩:=aa h;refine gb (ar [.tmp 23,.tmp 28] rfl rfl P8 rfl (AB k Ua T8 F se)) ?_;refine pt (nl ?_);exact jz ((),F) h [0]
    ·replace h:=bS (mW hb) h;iterate 9 refine dg ?_
     refine df cY ?_;refine gn ?_;refine pf (nl ?_);exact jz ((),false) h [0]
   ·refine cv h (fun h=>?_) (fun h=>?_)
    ·refine sk (ae (an (j0 ?_)));refine aH rfl rfl rfl (aR rfl) ⟨rfl,trivial⟩ ?_;refine aH rfl rfl rfl (aR rfl) ⟨rfl,trivial⟩ ?_;refine aH rfl rfl rfl (aR rfl) ⟨rfl,trivial⟩ ?_;refine aH rfl rfl rfl (aR rfl) ⟨rfl,trivial⟩ ?_;obtain⟨y,pp,h⟩:=aa h;refine aH rfl rfl rfl (eO rfl pp) ⟨rfl,rfl,trivial⟩ ?_;refine aH rfl rfl rfl (aR rfl) ⟨rfl,trivial⟩ ?_;refine aH rfl rfl rfl (aR rfl) ⟨rfl,trivial⟩ ?_;obtain⟨TZ,mc,h⟩:=aa h;refine aH rfl rfl rfl (eO rfl mc) ⟨rfl,rfl,trivial⟩ ?_;obtain⟨E,s,h⟩:=aa h;refine dh 0 rfl rfl rfl rfl (aW (t:=(.int .i64)) rfl dQ cH s) ⟨rfl,rfl,trivial⟩ ?_;refine dh 0 rfl rfl rfl rfl (dE (i:=Int.toNat TZ) (off:=0) rfl cH (fun _=>rfl) rfl (co s).2.2 rfl) ⟨rfl,trivial⟩ ?_;refine aH rfl rfl rfl (aR rfl) ⟨rfl,trivial⟩ ?_;refine aH rfl rfl rfl (aR rfl) ⟨rfl,trivial⟩ ?_;obtain⟨D,l,h⟩:=aa h;refine dh 0 rfl rfl rfl rfl (aW (t:=(.int .i64)) rfl dQ cH l) ⟨rfl,rfl,trivial⟩ ?_;refine dh 0 rfl rfl rfl rfl (dE (i:=Int.toNat y6.2) (off:=0) rfl cH (fun _=>rfl) rfl (co l).2.2 rfl) ⟨rfl,trivial⟩ ?_;obtain⟨Ut,j,h⟩:=aa h;refine dh 0 rfl rfl rfl rfl (aW (t:=(.int .i64)) rfl dQ cH j) ⟨rfl,rfl,trivial⟩ ?_;refine m5 15 [true,true,false,false,false,true,true,true,true,true,true,true,true,true,true] [48] [] [] rfl (by kernel_rfl) (by kernel_rfl) (by kernel_rfl) cY (fun vs hv hB=>?_);obtain⟨w0,UI,rfl,Uj⟩:=ak hv;obtain⟨w1,UH,rfl,Ui⟩:=ak Uj;obtain⟨w2,UG,rfl,Uh⟩:=ak Ui;obtain⟨w3,UF,rfl,Ug⟩:=ak Uh;obtain⟨w4,UE,rfl,Uf⟩:=ak Ug;obtain⟨w5,UD,rfl,Ue⟩:=ak Uf;obtain⟨w6,UC,rfl,Ud⟩:=ak Ue;obtain⟨w7,UB,rfl,Uc⟩:=ak Ud;obtain⟨w8,UA,rfl,Ub⟩:=ak Uc;obtain⟨w9,Ur,rfl,X⟩:=ak Ub;obtain⟨Uz,Up,rfl,U⟩:=ak X;obtain⟨Uy,Uo,rfl,Q⟩:=ak U;obtain⟨Ux,Un,rfl,O⟩:=ak Q;obtain⟨Uw,Um,rfl,M⟩:=ak O;obtain⟨Uu,Ul,rfl,J⟩:=ak M;obtain rfl:=kH J;refine⟨[0],[.sl c 3 (.int .i64) y6.1],by kernel_rfl,by decide,?_⟩;refine pC rfl rfl (cE (i:=Int.toNat y6.2) rfl cH rfl (gd j) rfl .int rfl) ⟨rfl,rfl,trivial⟩ (by kernel_rfl) ?_;obtain⟨Us,e,h⟩:=aa h;refine tQ rfl rfl rfl rfl (aW (t:=(.int .i64)) rfl dQ cH e) ⟨rfl,rfl,trivial⟩ (by kernel_rfl) ?_;refine pC rfl rfl (cE (i:=Int.toNat y) rfl cH rfl (gd e) rfl .int rfl) ⟨rfl,rfl,trivial⟩ (by kernel_rfl) ?_;refine rm ?_;refine bh (SE.fin (Γ':=[(0,.eq c),(1,I a1),(2,I a2),(6,I y2.2),(7,I y6.2)]) (Δ':=[.sl c 3 (.int .i64) (List.set (List.set y6.1 (Int.toNat y6.2) E) (Int.toNat y) D)]) [0] ⟨rfl,rfl,rfl,rfl,rfl,trivial⟩ rfl) ?_;refine aK (tn (ab (mq ?_)));obtain⟨TY,ac,h⟩:=aa h;refine jb (eO rfl ac) ?_;refine aq (nl ?_);exact jz ((),(List.set (List.set y6.1 (Int.toNat y6.2) E) (Int.toNat y) D,TY)) h [0]
    ·refine dk (aP (aP (bL (bn ?_))));exact jz ((),y6.1) h [0]
  ·refine ab (mq ?_);obtain⟨TX,Y,h⟩:=aa h;refine jb (bf rfl Y) ?_;refine aq (nl ?_);exact jz ((),(x4,TX)) h [0]
 ·
  refine dk (aP (aP (bL (jg ?_))));cases h;exact aN () [] 1 trivial rfl
def lh(k:Nat)(a0:Int):Option Int:=
 ((if 4294967296≤a0 then(some (ik .u64 a0 32,32)) else(some (a0,0))):Option (Int×Int)).bind fun x1=>
 ((if 65536≤x1.1 then((ck (x1.2+16)).bind fun x5=>
 some (ik .u64 x1.1 16,x5)) else(some (x1.1,x1.2))):Option (Int×Int)).bind fun x3=>
 ((if 256≤x3.1 then((ck (x3.2+8)).bind fun x8=>
 some (ik .u64 x3.1 8,x8)) else(some (x3.1,x3.2))):Option (Int×Int)).bind fun x6=>
 (BW JE (IntKind.u8.wrap x6.1)).bind fun x9=>
 (ck (x9.toNat:Int)).bind fun e=>
 (ck (x6.2+e)).bind fun c=>
 some c
theorem qY(k:Nat)(a0:Int)(r:Int)(h:lh k a0=some r):
 cm Tryz.prog 165 [.eq (.int .u64 a0)] [] (fun _:Unit=>(bz [I r],[])):=by
 unfold lh at h
 replace h:=be h
 refine cm.of 25 Tryz.func165 rfl Tryz.ntmps165 rfl fun S w0=>?_
 refine sr ?_
 refine cq ?_
 refine nt ?_
 refine aS (Z:=Unit) (α:=Int×Int) (fun z2 x1=>[(0,.eq (.int .u64 x1.1)),(2,I x1.2)]) (fun z2 x1=>[]) h (fun K h=>?_) (fun z2 x1 h=>?_)
 ·
  refine sr (mq ?_);refine jb (oV rfl) ?_;refine nt (ci h (fun h=>?_) (fun h=>?_))
  ·refine sr (mq ?_);refine aF rfl (vo rfl (by decide)) ⟨rfl,rfl,trivial⟩ ?_;refine aq (nt (ab ?_));refine cq (nl ?_);exact jz ((),(ik .u64 a0 32,32)) h []
  ·refine aY (ag ?_);exact jz ((),(a0,0)) h []
 ·
  refine aS (Z:=Unit) (α:=Int×Int) (fun z4 x3=>[(0,.eq (.int .u64 x3.1)),(2,I x3.2)]) (fun z4 x3=>[]) h (fun K h=>?_) (fun z4 x3 h=>?_)
  ·refine sr (mq ?_);refine jb (oV rfl) ?_;refine nt (ci h (fun h=>?_) (fun h=>?_))
   ·refine sr (mq ?_);refine aF rfl (vo rfl (by decide)) ⟨rfl,rfl,trivial⟩ ?_;refine aq (nt (ab ?_));refine mq ?_;obtain⟨x5,n,h⟩:=aa h;refine jb (bf rfl n) ?_;refine aq (nl ?_);exact jz ((),(ik .u64 x1.1 16,x5)) h []
   ·refine aY (ag ?_);exact jz ((),(x1.1,x1.2)) h []
  ·refine aS (Z:=Unit) (α:=Int×Int) (fun z7 x6=>[(0,.eq (.int .u64 x6.1)),(2,I x6.2)]) (fun z7 x6=>[]) h (fun K h=>?_) (fun z7 x6 h=>?_)
   ·refine sr (mq ?_);refine jb (oV rfl) ?_;refine nt (ci h (fun h=>?_) (fun h=>?_))
    ·refine sr (mq ?_);refine aF rfl (vo rfl (by decide)) ⟨rfl,rfl,trivial⟩ ?_;refine aq (nt (ab ?_));refine mq ?_;obtain⟨x8,l,h⟩:=aa h;refine jb (bf rfl l) ?_;refine aq (nl ?_);exact jz ((),(ik .u64 x3.1 8,x8)) h []
    ·refine aY (ag ?_);exact jz ((),(x3.1,x3.2)) h []
   ·refine sr ?_;iterate 2 refine mq ?_
    refine ja (oW rfl QW U5) ?_;obtain⟨x9,j,h⟩:=aa h;refine ja (zF rfl U9 j) ?_;obtain⟨u,e,h⟩:=aa h;refine ja (rX rfl U5 U3 e) ?_;obtain⟨s,c,h⟩:=aa h;refine jb (bf rfl c) ?_;refine aq (nt (aB ?_));cases h;exact ra
def yz(k:Nat)(a0:Int):Option Int:=
 (lh k a0).bind fun r1=>
 some r1
theorem CB(k:Nat)(a0:Int)(r:Int)(h:yz k a0=some r):
 cm Tryz.prog 142 [.eq (.int .u64 a0)] [] (fun _:Unit=>(bz [I r],[])):=by
 unfold yz at h
 replace h:=be h
 refine cm.of 8 Tryz.func142 rfl Tryz.ntmps142 rfl fun S w0=>?_
 refine sr ?_
 refine cq ?_
 refine nt ?_
 refine ae ?_
 refine IK (fun hb=>(by cases hb)) (fun hb=>?_)
 refine sk ?_
 refine sr ?_
 refine mq ?_
 obtain⟨r1,c,h⟩:=aa h
 have e:=qY k a0 r1 c
 refine ja (ar [.tmp 6] rfl rfl P7 rfl e) ?_
 refine aq ?_
 refine nt ?_
 refine aB ?_
 cases h
 exact ra
def fp(k:Nat)(a0:(List Int))(a1:Int)(a2:Int)(a3:Int):Nat→Unit→Option (List Int)
 |0,_=>none
 |n+1,y1=>
  (ck (a2 - a1)).bind fun x3=>
  if x3≤12 then((eC k a0 a1 a2).bind fun r4=>
  some r4) else(if a3=0 then(none) else(none))
def gQ(k:Nat)(a0:(List Int))(a1:Int)(a2:Int)(a3:Int):Option (List Int):=
 fp k a0 a1 a2 a3 k ()
theorem mn(k:Nat)(a0:(List Int))(c:Value)(a1:Int)(a2:Int)(a3:Int)(r:(List Int))(h:gQ k a0 a1 a2 a3=some r):
 cm Tryz.prog 141 [.eq c,I a1,I a2,I a3] [.sl c 3 (.int .i64) a0] (fun _:Unit=>(bz [],[.sl c 3 (.int .i64) r])):=by
 unfold gQ at h
 replace h:=be h
 refine cm.of 134 Tryz.func141 rfl Tryz.ntmps141 rfl fun S w0=>?_
 refine sr ?_
 refine cq ?_
 refine nt ?_
 refine sr ?_
 refine cq ?_
 refine nt ?_
 refine an ?_
 refine aJ (fun z2 y1=>[(0,.eq c),(1,I a1),(2,I a2),(3,I a3),(8,.eq (.bool true)),(9,.eq (.bool true))]) (fun z2 y1=>[.sl c 3 (.int .i64) a0]) (fp k a0 a1 a2 a3) k () () (fun _=>rfl) h (SE.fin [0] ⟨rfl,rfl,rfl,rfl,rfl,rfl,trivial⟩ rfl) (fun n z2 y1 h=>?_)
 unfold fp at h
 refine an ?_
 refine sr ?_
 iterate 2 refine mq ?_
 obtain⟨x3,e,h⟩:=aa h
 refine jb (eO rfl e) ?_
 refine aq ?_
 refine nt ?_
 refine ae ?_
 refine sr ?_
 refine mq ?_
 refine jb (t4 rfl) ?_
 refine nt ?_
 refine ci h (fun h=>?_) (fun h=>?_)
 ·
  refine sr ?_;iterate 3 refine mq ?_
  obtain⟨r4,j,h⟩:=aa h;refine kc (ar [.tmp 24,.tmp 25,.tmp 26] rfl rfl P9 rfl (j7 k a0 c a1 a2 r4 j)) ?_;refine nt (rx (aZ (aO (aZ ?_))));cases h;exact aN () [] 1 trivial rfl
 ·
  refine sk (ae (sr (mq ?_)));refine jb (eh rfl) ?_;refine nt (ci h (fun h=>?_) (fun h=>?_))
  ·refine sr ?_;iterate 3 refine mq ?_
   cases h
  ·refine sk (ae (sr (mq ?_)));refine ja (fm rfl) ?_;refine nt (bC rfl (fun hb=>(by cases hb)) (fun hb=>?_));refine sk (sr ?_);iterate 3 refine mq ?_
   cases h
def nQ(k:Nat)(a0:(List Int)):Option (List Int):=
 (yz k (IntKind.u64.wrap (a0.length:Int))).bind fun r1=>
 (gQ k a0 0 (a0.length:Int) r1).bind fun r2=>
 some r2
theorem ug(k:Nat)(a0:(List Int))(c:Value)(r:(List Int))(h:nQ k a0=some r):
 cm Tryz.prog 107 [.eq c] [.sl c 3 (.int .i64) a0] (fun _:Unit=>(bz [],[.sl c 3 (.int .i64) r])):=by
 unfold nQ at h
 replace h:=be h
 refine cm.of 11 Tryz.func107 rfl Tryz.ntmps107 rfl fun S w0=>?_
 refine sr ?_
 refine mq ?_
 refine ka (cO rfl rfl dQ) ?_
 refine aq ?_
 refine nt ?_
 refine ab ?_
 iterate 3 refine mq ?_
 refine ja (oW rfl U3 S5) ?_
 obtain⟨r1,j,h⟩:=aa h
 have n:=CB k (IntKind.u64.wrap (a0.length:Int)) r1 j
 refine ja (ar [.tmp 8] rfl rfl Qc rfl n) ?_
 obtain⟨r2,e,h⟩:=aa h
 have l:=mn k a0 c 0 (a0.length:Int) r1 r2 e
 refine bV rfl rfl rfl (ar [.tmp 5,.const (.int .i64 (0)),.tmp 6,.tmp 9] rfl rfl Qd rfl l) ⟨rfl,rfl,rfl,rfl,trivial⟩ ?_
 refine au ?_
 refine jg ?_
 cases h
 exact aN () [] 1 trivial rfl
def lS(k:Nat)(a0:(List Int)):Option (List Int):=
 (lb k a0).bind fun r1=>
 (nQ k r1).bind fun r3=>
 some r3
theorem rM(k:Nat)(a0:(List Int))(c:Nat)(r:(List Int))(h:lS k a0=some r):
 cm Tryz.prog 76 [.eq (.func (.func 108) #[] #[(Pv c)])] [.obj c 22 (Ri a0)] (fun _:Unit=>(bz [Ri r],[.obj c 22 (Ri a0)])):=by
 unfold lS at h
 replace h:=be h
 refine cm.of 9 Tryz.func76 rfl Tryz.ntmps76 rfl fun S w0=>?_
 refine sr ?_
 refine cq ?_
 refine nt ?_
 refine sr ?_
 refine mq ?_
 obtain⟨r1,j,h⟩:=aa h
 have n:=qN k a0 c r1 j
 refine bG (Δ:=[_]) (F:=_) (fun _ _ _=>ay rfl _) rfl rfl (ar [.tmp 4] rfl rfl Qk rfl n) ⟨rfl,trivial⟩ fun z2=>?_
 refine aq ?_
 refine nt ?_
 refine sr ?_
 refine mq ?_
 obtain⟨r3,e,h⟩:=aa h
 have l:=ug k r1 z2 r3 e
 refine ka (ar [.tmp 6] rfl rfl Qj rfl l) ?_
 refine nt ?_
 refine sr ?_
 refine mq ?_
 refine aq ?_
 refine nt ?_
 refine aB ?_
 refine bh (gx [2,3,5,6,8] ⟨rfl,rfl,rfl,rfl,rfl,trivial⟩) ?_
 cases h
 exact aN () [_] 1 ⟨rfl,trivial⟩ rfl
theorem rL(a0:(List Int)):cm Tryz.prog 77 [Ri a0] [] (fun z:Nat=>(bz [.eq (.func (.func 108) #[] #[(Pv z)])],[.obj z 22 (Ri a0)])):=by
 refine cm.of 4 Tryz.func77 rfl Tryz.ntmps77 rfl fun S w0=>?_;refine sr (bx fun z=>?_);refine cq (nt (sr ?_));refine ja (tg [] [.tmp 1] [] [(Pv z)] rfl rfl rfl) ?_;refine aq (nt (aB ?_));exact aN z [_] 1 ⟨rfl,trivial⟩ rfl
def fP(k:Nat)(a0:(List Int)):Option (List Int):=
 (cp (bO (List.length ([]:(List Int))+List.length a0))).bind fun _=>
 some (([]:(List Int))++a0)
theorem dj(k:Nat)(a0:(List Int))(r:(List Int))(h:fP k a0=some r):
 cm Tryz.prog 41 [Ri a0] [] (fun z:Value=>(bz [.eq z],[.sl z 3 (.int .i64) r])):=by
 unfold fP at h
 replace h:=be h
 refine cm.of 6 Tryz.func41 rfl Tryz.ntmps41 rfl fun S w0=>?_
 refine sr ?_
 refine cq ?_
 refine nt ?_
 refine sr ?_
 refine aD rfl rfl rfl (jt (t:=(.int .i64)) [] ([]:(List Int)) rfl rfl dS .nil rfl rfl) trivial fun v1=>?_
 refine mq ?_
 obtain⟨u2,c,h⟩:=aa h
 refine dz rfl rfl rfl (bQ rfl rfl dS (av c)) ⟨rfl,rfl,trivial⟩ fun v3=>?_
 refine aq ?_
 refine nt ?_
 refine aB ?_
 cases h
 exact aN v3 [.eq v3] 1 ⟨rfl,trivial⟩ rfl
def fw(k:Nat)(a0:a8):Nat→((List gu)×Int)→Option (List gu)
 |0,_=>none
 |n+1,y9=>
  if y9.2 < (a0.2.1.length:Int) then((aX a0.2.1 y9.2).bind fun c=>
  (aX a0.2.1 y9.2).bind fun j=>
  (fP k j.2).bind fun e=>
  (cp (bO (List.length y9.1+List.length [(c.1,e)]))).bind fun _=>
  (ck (y9.2+1)).bind fun h=>
  fw k a0 n (y9.1++[(c.1,e)],h)) else(some y9.1)
def jV(k:Nat)(a0:a8):Option a8:=
 (fP k a0.2.2).bind fun r3=>
 ((fw k a0 k (([]:(List gu)),0)):Option ((List gu))).bind fun x7=>
 some (a0.1,x7,r3)
theorem ui(k:Nat)(a0:a8)(r:a8)(h:jV k a0=some r):
 cm Tryz.prog 11 [.rep aj a0] [] (fun z:Value×Value=>(bz [.agg (.pair (I r.1) (.pair (.eq z.1) (.eq z.2)))],[.sl z.1 35 aG r.2.1,.sl z.2 3 (.int .i64) r.2.2])):=by
 unfold jV at h
 replace h:=be h
 refine cm.of 38 Tryz.func11 rfl Tryz.ntmps11 rfl fun S w0=>?_
 refine sr ?_
 refine bx fun b1=>?_
 refine aD rfl rfl rfl (bg rfl lJ oh) trivial fun b2=>?_
 refine nt ?_
 refine ae ?_
 obtain⟨r3,c,h⟩:=aa h
 refine eA (SE.fin (Γ':=[(1,Pt b1),(2,Pt b2)]) (Δ':=[.obj b2 27 (.agg (.pair (I 0) (.pair (.eq (.slice none 0 0)) (.eq (.slice none 0 0))))),.obj b1 27 (.rep aj a0)]) [0,1] ⟨rfl,rfl,trivial⟩ rfl) ?_
 refine vW (I:=Value×Nat) (Ge:=fun i=>[(1,Pt b1),(2,Pt b2),(3,.eq (.pointer (some ⟨i.2,0,none⟩)))]) (De:=fun i=>[.obj b1 27 (.rep aj a0),.obj b2 27 (.agg (.pair (I 0) (.pair (.eq (.slice none 0 0)) (.eq (.slice none 0 0))))),.sl i.1 3 (.int .i64) r3,.obj i.2 27 (.agg (.pair (I a0.1) (.pair (.eq (.slice none 0 0)) (.eq i.1))))]) (L:=[true,true,true,true,true,true,true,true]) cY rfl (fun J hJ hE=>?_) (by kernel_rfl) ?_
 ·
  have s127:∀(v4:Value) (b6:Nat),J 1 [true,true,true,true,true,true,true,false] [(1,Pt b1),(2,Pt b2),(3,Pt b6),(10,.agg (.pair (I a0.1) (.pair (.eq (.slice none 0 0)) (.eq v4))))] [.obj b1 27 (.rep aj a0),.obj b2 27 (.agg (.pair (I 0) (.pair (.eq (.slice none 0 0)) (.eq (.slice none 0 0))))),.sl v4 3 (.int .i64) r3,.obj b6 27 (.agg (.pair (I 0) (.pair (.eq (.slice none 0 0)) (.eq (.slice none 0 0)))))]:=fun v4 b6=>by
   subst hJ;refine JD.step [7] (by kernel_rfl) rfl ?_;refine bM.cons rfl ?_ ?_
   ·refine fr 3 ?_;refine bj rfl rfl (bm rfl dy trivial rfl rfl) ⟨rfl,rfl,trivial⟩ ?_;exact aw (hE ⟨v4,b6⟩) [1,2,3,0] ⟨rfl,rfl,rfl,trivial⟩
   exact trivial
  have s63:∀(v4:Value),J 2 [true,true,true,true,true,true,false,false] [(1,Pt b1),(2,Pt b2),(10,.agg (.pair (I a0.1) (.pair (.eq (.slice none 0 0)) (.eq v4))))] [.obj b1 27 (.rep aj a0),.obj b2 27 (.agg (.pair (I 0) (.pair (.eq (.slice none 0 0)) (.eq (.slice none 0 0))))),.sl v4 3 (.int .i64) r3]:=fun v4=>by
   subst hJ;refine JD.step [6] (by kernel_rfl) rfl ?_;refine bM.cons rfl ?_ ?_
   ·refine aD rfl rfl rfl (bg rfl lJ oh) trivial fun b6=>?_;exact aw (s127 v4 b6) [1,2,3,0] ⟨rfl,rfl,rfl,rfl,trivial⟩
   exact trivial
  have s95:∀(v4:Value) (b6:Nat),J 2 [true,true,true,true,true,false,true,false] [(1,Pt b1),(2,Pt b2),(3,Pt b6),(6,I a0.1),(9,.eq v4)] [.obj b1 27 (.rep aj a0),.obj b2 27 (.agg (.pair (I 0) (.pair (.eq (.slice none 0 0)) (.eq (.slice none 0 0))))),.sl v4 3 (.int .i64) r3,.obj b6 27 (.agg (.pair (I 0) (.pair (.eq (.slice none 0 0)) (.eq (.slice none 0 0)))))]:=fun v4 b6=>by
   subst hJ;refine JD.step [5] (by kernel_rfl) rfl ?_;refine bM.cons rfl ?_ ?_
   ·refine fr 2 ?_;refine oq fun o5=>?_;refine jb (cR [(0,.tmp 6,_),(2,.tmp 9,_)] rfl Ji lJ Dx (iw ⟨rfl,o5,trivial⟩) rfl) ?_;exact aw (s127 v4 b6) [1,2,0,3] ⟨rfl,rfl,rfl,rfl,trivial⟩
   exact trivial
  have s31:∀(v4:Value),J 3 [true,true,true,true,true,false,false,false] [(1,Pt b1),(2,Pt b2),(6,I a0.1),(9,.eq v4)] [.obj b1 27 (.rep aj a0),.obj b2 27 (.agg (.pair (I 0) (.pair (.eq (.slice none 0 0)) (.eq (.slice none 0 0))))),.sl v4 3 (.int .i64) r3]:=fun v4=>by
   subst hJ;refine JD.step [5,6] (by kernel_rfl) rfl ?_;refine bM.cons rfl ?_ ?_
   ·refine fr 2 ?_;refine oq fun o5=>?_;refine jb (cR [(0,.tmp 6,_),(2,.tmp 9,_)] rfl Ji lJ Dx (iw ⟨rfl,o5,trivial⟩) rfl) ?_;exact aw (s63 v4) [1,2,0] ⟨rfl,rfl,rfl,trivial⟩
   refine bM.cons rfl ?_ ?_
   ·refine aD rfl rfl rfl (bg rfl lJ oh) trivial fun b6=>?_;exact aw (s95 v4 b6) [1,2,3,0] ⟨rfl,rfl,rfl,rfl,rfl,trivial⟩
   exact trivial
  have s79:∀(b6:Nat),J 3 [true,true,true,true,false,false,true,false] [(1,Pt b1),(2,Pt b2),(3,Pt b6),(6,I a0.1),(8,Ri a0.2.2)] [.obj b1 27 (.rep aj a0),.obj b2 27 (.agg (.pair (I 0) (.pair (.eq (.slice none 0 0)) (.eq (.slice none 0 0))))),.obj b6 27 (.agg (.pair (I 0) (.pair (.eq (.slice none 0 0)) (.eq (.slice none 0 0)))))]:=fun b6=>by
   subst hJ;refine JD.step [4] (by kernel_rfl) rfl ?_;refine bM.cons rfl ?_ ?_
   ·refine aD rfl rfl rfl (ar [.tmp 8] rfl rfl yq rfl (dj k a0.2.2 r3 c)) ⟨rfl,trivial⟩ fun v4=>?_;exact aw (s95 v4 b6) [1,2,0,3] ⟨rfl,rfl,rfl,rfl,rfl,trivial⟩
   exact trivial
  have s93:∀(v4:Value) (b6:Nat),J 3 [true,false,true,true,true,false,true,false] [(1,Pt b1),(2,Pt b2),(3,Pt b6),(5,Pt b1),(9,.eq v4)] [.obj b1 27 (.rep aj a0),.obj b2 27 (.agg (.pair (I 0) (.pair (.eq (.slice none 0 0)) (.eq (.slice none 0 0))))),.sl v4 3 (.int .i64) r3,.obj b6 27 (.agg (.pair (I 0) (.pair (.eq (.slice none 0 0)) (.eq (.slice none 0 0)))))]:=fun v4 b6=>by
   subst hJ;refine JD.step [1] (by kernel_rfl) rfl ?_;refine bM.cons rfl ?_ ?_
   ·refine lo cH ?_;exact aw (s95 v4 b6) [0,1,2,3] ⟨rfl,rfl,rfl,rfl,rfl,trivial⟩
   exact trivial
  have s15:J 4 [true,true,true,true,false,false,false,false] [(1,Pt b1),(2,Pt b2),(6,I a0.1),(8,Ri a0.2.2)] [.obj b1 27 (.rep aj a0),.obj b2 27 (.agg (.pair (I 0) (.pair (.eq (.slice none 0 0)) (.eq (.slice none 0 0)))))]:=by
   subst hJ;refine JD.step [4,6] (by kernel_rfl) rfl ?_;refine bM.cons rfl ?_ ?_
   ·refine aD rfl rfl rfl (ar [.tmp 8] rfl rfl yq rfl (dj k a0.2.2 r3 c)) ⟨rfl,trivial⟩ fun v4=>?_;exact aw (s31 v4) [1,2,0] ⟨rfl,rfl,rfl,rfl,trivial⟩
   refine bM.cons rfl ?_ ?_
   ·refine aD rfl rfl rfl (bg rfl lJ oh) trivial fun b6=>?_;exact aw (s79 b6) [1,2,0] ⟨rfl,rfl,rfl,rfl,rfl,trivial⟩
   exact trivial
  have s71:∀(b6:Nat),J 4 [true,true,true,false,false,false,true,false] [(1,Pt b1),(2,Pt b2),(3,Pt b6),(6,I a0.1),(7,.eq (.pointer (some ⟨b1,2,none⟩)))] [.obj b1 27 (.rep aj a0),.obj b2 27 (.agg (.pair (I 0) (.pair (.eq (.slice none 0 0)) (.eq (.slice none 0 0))))),.obj b6 27 (.agg (.pair (I 0) (.pair (.eq (.slice none 0 0)) (.eq (.slice none 0 0)))))]:=fun b6=>by
   subst hJ;refine JD.step [3] (by kernel_rfl) rfl ?_;refine bM.cons rfl ?_ ?_
   ·refine lo bI ?_;exact aw (s79 b6) [0,1,2] ⟨rfl,rfl,rfl,rfl,rfl,trivial⟩
   exact trivial
  have s29:∀(v4:Value),J 4 [true,false,true,true,true,false,false,false] [(1,Pt b1),(2,Pt b2),(5,Pt b1),(9,.eq v4)] [.obj b1 27 (.rep aj a0),.obj b2 27 (.agg (.pair (I 0) (.pair (.eq (.slice none 0 0)) (.eq (.slice none 0 0))))),.sl v4 3 (.int .i64) r3]:=fun v4=>by
   subst hJ;refine JD.step [1,6] (by kernel_rfl) rfl ?_;refine bM.cons rfl ?_ ?_
   ·refine lo cH ?_;exact aw (s31 v4) [0,1,2] ⟨rfl,rfl,rfl,rfl,trivial⟩
   refine bM.cons rfl ?_ ?_
   ·refine aD rfl rfl rfl (bg rfl lJ oh) trivial fun b6=>?_;exact aw (s93 v4 b6) [1,2,3,0] ⟨rfl,rfl,rfl,rfl,rfl,trivial⟩
   exact trivial
  have s77:∀(b6:Nat),J 4 [true,false,true,true,false,false,true,false] [(1,Pt b1),(2,Pt b2),(3,Pt b6),(5,Pt b1),(8,Ri a0.2.2)] [.obj b1 27 (.rep aj a0),.obj b2 27 (.agg (.pair (I 0) (.pair (.eq (.slice none 0 0)) (.eq (.slice none 0 0))))),.obj b6 27 (.agg (.pair (I 0) (.pair (.eq (.slice none 0 0)) (.eq (.slice none 0 0)))))]:=fun b6=>by
   subst hJ;refine JD.step [1,4] (by kernel_rfl) rfl ?_;refine bM.cons rfl ?_ ?_
   ·refine lo cH ?_;exact aw (s79 b6) [0,1,2] ⟨rfl,rfl,rfl,rfl,rfl,trivial⟩
   refine bM.cons rfl ?_ ?_
   ·refine aD rfl rfl rfl (ar [.tmp 8] rfl rfl yq rfl (dj k a0.2.2 r3 c)) ⟨rfl,trivial⟩ fun v4=>?_;exact aw (s93 v4 b6) [1,2,0,3] ⟨rfl,rfl,rfl,rfl,rfl,trivial⟩
   exact trivial
  have s92:∀(v4:Value) (b6:Nat),J 4 [false,false,true,true,true,false,true,false] [(1,Pt b1),(2,Pt b2),(3,Pt b6),(9,.eq v4)] [.obj b1 27 (.rep aj a0),.obj b2 27 (.agg (.pair (I 0) (.pair (.eq (.slice none 0 0)) (.eq (.slice none 0 0))))),.sl v4 3 (.int .i64) r3,.obj b6 27 (.agg (.pair (I 0) (.pair (.eq (.slice none 0 0)) (.eq (.slice none 0 0)))))]:=fun v4 b6=>by
   subst hJ;refine JD.step [0] (by kernel_rfl) rfl ?_;refine bM.cons rfl ?_ ?_
   ·refine fl iH ?_;exact aw (s93 v4 b6) [0,1,2,3] ⟨rfl,rfl,rfl,rfl,rfl,trivial⟩
   exact trivial
  have s7:J 5 [true,true,true,false,false,false,false,false] [(1,Pt b1),(2,Pt b2),(6,I a0.1),(7,.eq (.pointer (some ⟨b1,2,none⟩)))] [.obj b1 27 (.rep aj a0),.obj b2 27 (.agg (.pair (I 0) (.pair (.eq (.slice none 0 0)) (.eq (.slice none 0 0)))))]:=by
   subst hJ;refine JD.step [3,6] (by kernel_rfl) rfl ?_;refine bM.cons rfl ?_ ?_
   ·refine lo bI ?_;exact aw s15 [0,1] ⟨rfl,rfl,rfl,rfl,trivial⟩
   refine bM.cons rfl ?_ ?_
   ·refine aD rfl rfl rfl (bg rfl lJ oh) trivial fun b6=>?_;exact aw (s71 b6) [1,2,0] ⟨rfl,rfl,rfl,rfl,rfl,trivial⟩
   exact trivial
  have s67:∀(b6:Nat),J 5 [true,true,false,false,false,false,true,false] [(1,Pt b1),(2,Pt b2),(3,Pt b6),(6,I a0.1)] [.obj b1 27 (.rep aj a0),.obj b2 27 (.agg (.pair (I 0) (.pair (.eq (.slice none 0 0)) (.eq (.slice none 0 0))))),.obj b6 27 (.agg (.pair (I 0) (.pair (.eq (.slice none 0 0)) (.eq (.slice none 0 0)))))]:=fun b6=>by
   subst hJ;refine JD.step [2] (by kernel_rfl) rfl ?_;refine bM.cons rfl ?_ ?_
   ·refine fl cV ?_;exact aw (s71 b6) [0,1,2] ⟨rfl,rfl,rfl,rfl,rfl,trivial⟩
   exact trivial
  have s13:J 5 [true,false,true,true,false,false,false,false] [(1,Pt b1),(2,Pt b2),(5,Pt b1),(8,Ri a0.2.2)] [.obj b1 27 (.rep aj a0),.obj b2 27 (.agg (.pair (I 0) (.pair (.eq (.slice none 0 0)) (.eq (.slice none 0 0)))))]:=by
   subst hJ;refine JD.step [1,4,6] (by kernel_rfl) rfl ?_;refine bM.cons rfl ?_ ?_
   ·refine lo cH ?_;exact aw s15 [0,1] ⟨rfl,rfl,rfl,rfl,trivial⟩
   refine bM.cons rfl ?_ ?_
   ·refine aD rfl rfl rfl (ar [.tmp 8] rfl rfl yq rfl (dj k a0.2.2 r3 c)) ⟨rfl,trivial⟩ fun v4=>?_;exact aw (s29 v4) [1,2,0] ⟨rfl,rfl,rfl,rfl,trivial⟩
   refine bM.cons rfl ?_ ?_
   ·refine aD rfl rfl rfl (bg rfl lJ oh) trivial fun b6=>?_;exact aw (s77 b6) [1,2,0] ⟨rfl,rfl,rfl,rfl,rfl,trivial⟩
   exact trivial
  have s69:∀(b6:Nat),J 5 [true,false,true,false,false,false,true,false] [(1,Pt b1),(2,Pt b2),(3,Pt b6),(5,Pt b1),(7,.eq (.pointer (some ⟨b1,2,none⟩)))] [.obj b1 27 (.rep aj a0),.obj b2 27 (.agg (.pair (I 0) (.pair (.eq (.slice none 0 0)) (.eq (.slice none 0 0))))),.obj b6 27 (.agg (.pair (I 0) (.pair (.eq (.slice none 0 0)) (.eq (.slice none 0 0)))))]:=fun b6=>by
   subst hJ;refine JD.step [1,3] (by kernel_rfl) rfl ?_;refine bM.cons rfl ?_ ?_
   ·refine lo cH ?_;exact aw (s71 b6) [0,1,2] ⟨rfl,rfl,rfl,rfl,rfl,trivial⟩
   refine bM.cons rfl ?_ ?_
   ·refine lo bI ?_;exact aw (s77 b6) [0,1,2] ⟨rfl,rfl,rfl,rfl,rfl,trivial⟩
   exact trivial
  have s28:∀(v4:Value),J 5 [false,false,true,true,true,false,false,false] [(1,Pt b1),(2,Pt b2),(9,.eq v4)] [.obj b1 27 (.rep aj a0),.obj b2 27 (.agg (.pair (I 0) (.pair (.eq (.slice none 0 0)) (.eq (.slice none 0 0))))),.sl v4 3 (.int .i64) r3]:=fun v4=>by
   subst hJ;refine JD.step [0,6] (by kernel_rfl) rfl ?_;refine bM.cons rfl ?_ ?_
   ·refine fl iH ?_;exact aw (s29 v4) [0,1,2] ⟨rfl,rfl,rfl,rfl,trivial⟩
   refine bM.cons rfl ?_ ?_
   ·refine aD rfl rfl rfl (bg rfl lJ oh) trivial fun b6=>?_;exact aw (s92 v4 b6) [1,2,3,0] ⟨rfl,rfl,rfl,rfl,trivial⟩
   exact trivial
  have s76:∀(b6:Nat),J 5 [false,false,true,true,false,false,true,false] [(1,Pt b1),(2,Pt b2),(3,Pt b6),(8,Ri a0.2.2)] [.obj b1 27 (.rep aj a0),.obj b2 27 (.agg (.pair (I 0) (.pair (.eq (.slice none 0 0)) (.eq (.slice none 0 0))))),.obj b6 27 (.agg (.pair (I 0) (.pair (.eq (.slice none 0 0)) (.eq (.slice none 0 0)))))]:=fun b6=>by
   subst hJ;refine JD.step [0,4] (by kernel_rfl) rfl ?_;refine bM.cons rfl ?_ ?_
   ·refine fl iH ?_;exact aw (s77 b6) [0,1,2] ⟨rfl,rfl,rfl,rfl,rfl,trivial⟩
   refine bM.cons rfl ?_ ?_
   ·refine aD rfl rfl rfl (ar [.tmp 8] rfl rfl yq rfl (dj k a0.2.2 r3 c)) ⟨rfl,trivial⟩ fun v4=>?_;exact aw (s92 v4 b6) [1,2,0,3] ⟨rfl,rfl,rfl,rfl,trivial⟩
   exact trivial
  have s3:J 6 [true,true,false,false,false,false,false,false] [(1,Pt b1),(2,Pt b2),(6,I a0.1)] [.obj b1 27 (.rep aj a0),.obj b2 27 (.agg (.pair (I 0) (.pair (.eq (.slice none 0 0)) (.eq (.slice none 0 0)))))]:=by
   subst hJ;refine JD.step [2,6] (by kernel_rfl) rfl ?_;refine bM.cons rfl ?_ ?_
   ·refine fl cV ?_;exact aw s7 [0,1] ⟨rfl,rfl,rfl,rfl,trivial⟩
   refine bM.cons rfl ?_ ?_
   ·refine aD rfl rfl rfl (bg rfl lJ oh) trivial fun b6=>?_;exact aw (s67 b6) [1,2,0] ⟨rfl,rfl,rfl,rfl,trivial⟩
   exact trivial
  have s5:J 6 [true,false,true,false,false,false,false,false] [(1,Pt b1),(2,Pt b2),(5,Pt b1),(7,.eq (.pointer (some ⟨b1,2,none⟩)))] [.obj b1 27 (.rep aj a0),.obj b2 27 (.agg (.pair (I 0) (.pair (.eq (.slice none 0 0)) (.eq (.slice none 0 0)))))]:=by
   subst hJ;refine JD.step [1,3,6] (by kernel_rfl) rfl ?_;refine bM.cons rfl ?_ ?_
   ·refine lo cH ?_;exact aw s7 [0,1] ⟨rfl,rfl,rfl,rfl,trivial⟩
   refine bM.cons rfl ?_ ?_
   ·refine lo bI ?_;exact aw s13 [0,1] ⟨rfl,rfl,rfl,rfl,trivial⟩
   refine bM.cons rfl ?_ ?_
   ·refine aD rfl rfl rfl (bg rfl lJ oh) trivial fun b6=>?_;exact aw (s69 b6) [1,2,0] ⟨rfl,rfl,rfl,rfl,rfl,trivial⟩
   exact trivial
  have s65:∀(b6:Nat),J 6 [true,false,false,false,false,false,true,false] [(1,Pt b1),(2,Pt b2),(3,Pt b6),(5,Pt b1)] [.obj b1 27 (.rep aj a0),.obj b2 27 (.agg (.pair (I 0) (.pair (.eq (.slice none 0 0)) (.eq (.slice none 0 0))))),.obj b6 27 (.agg (.pair (I 0) (.pair (.eq (.slice none 0 0)) (.eq (.slice none 0 0)))))]:=fun b6=>by
   subst hJ;refine JD.step [1,2] (by kernel_rfl) rfl ?_;refine bM.cons rfl ?_ ?_
   ·refine lo cH ?_;exact aw (s67 b6) [0,1,2] ⟨rfl,rfl,rfl,rfl,trivial⟩
   refine bM.cons rfl ?_ ?_
   ·refine fl cV ?_;exact aw (s69 b6) [0,1,2] ⟨rfl,rfl,rfl,rfl,rfl,trivial⟩
   exact trivial
  have s12:J 6 [false,false,true,true,false,false,false,false] [(1,Pt b1),(2,Pt b2),(8,Ri a0.2.2)] [.obj b1 27 (.rep aj a0),.obj b2 27 (.agg (.pair (I 0) (.pair (.eq (.slice none 0 0)) (.eq (.slice none 0 0)))))]:=by
   subst hJ;refine JD.step [0,4,6] (by kernel_rfl) rfl ?_;refine bM.cons rfl ?_ ?_
   ·refine fl iH ?_;exact aw s13 [0,1] ⟨rfl,rfl,rfl,rfl,trivial⟩
   refine bM.cons rfl ?_ ?_
   ·refine aD rfl rfl rfl (ar [.tmp 8] rfl rfl yq rfl (dj k a0.2.2 r3 c)) ⟨rfl,trivial⟩ fun v4=>?_;exact aw (s28 v4) [1,2,0] ⟨rfl,rfl,rfl,trivial⟩
   refine bM.cons rfl ?_ ?_
   ·refine aD rfl rfl rfl (bg rfl lJ oh) trivial fun b6=>?_;exact aw (s76 b6) [1,2,0] ⟨rfl,rfl,rfl,rfl,trivial⟩
   exact trivial
  have s68:∀(b6:Nat),J 6 [false,false,true,false,false,false,true,false] [(1,Pt b1),(2,Pt b2),(3,Pt b6),(7,.eq (.pointer (some ⟨b1,2,none⟩)))] [.obj b1 27 (.rep aj a0),.obj b2 27 (.agg (.pair (I 0) (.pair (.eq (.slice none 0 0)) (.eq (.slice none 0 0))))),.obj b6 27 (.agg (.pair (I 0) (.pair (.eq (.slice none 0 0)) (.eq (.slice none 0 0)))))]:=fun b6=>by
   subst hJ;refine JD.step [0,3] (by kernel_rfl) rfl ?_;refine bM.cons rfl ?_ ?_
   ·refine fl iH ?_;exact aw (s69 b6) [0,1,2] ⟨rfl,rfl,rfl,rfl,rfl,trivial⟩
   refine bM.cons rfl ?_ ?_
   ·refine lo bI ?_;exact aw (s76 b6) [0,1,2] ⟨rfl,rfl,rfl,rfl,trivial⟩
   exact trivial
  have s1:J 7 [true,false,false,false,false,false,false,false] [(1,Pt b1),(2,Pt b2),(5,Pt b1)] [.obj b1 27 (.rep aj a0),.obj b2 27 (.agg (.pair (I 0) (.pair (.eq (.slice none 0 0)) (.eq (.slice none 0 0)))))]:=by
   subst hJ;refine JD.step [1,2,6] (by kernel_rfl) rfl ?_;refine bM.cons rfl ?_ ?_
   ·refine lo cH ?_;exact aw s3 [0,1] ⟨rfl,rfl,rfl,trivial⟩
   refine bM.cons rfl ?_ ?_
   ·refine fl cV ?_;exact aw s5 [0,1] ⟨rfl,rfl,rfl,rfl,trivial⟩
   refine bM.cons rfl ?_ ?_
   ·refine aD rfl rfl rfl (bg rfl lJ oh) trivial fun b6=>?_;exact aw (s65 b6) [1,2,0] ⟨rfl,rfl,rfl,rfl,trivial⟩
   exact trivial
  have s4:J 7 [false,false,true,false,false,false,false,false] [(1,Pt b1),(2,Pt b2),(7,.eq (.pointer (some ⟨b1,2,none⟩)))] [.obj b1 27 (.rep aj a0),.obj b2 27 (.agg (.pair (I 0) (.pair (.eq (.slice none 0 0)) (.eq (.slice none 0 0)))))]:=by
   subst hJ;refine JD.step [0,3,6] (by kernel_rfl) rfl ?_;refine bM.cons rfl ?_ ?_
   ·refine fl iH ?_;exact aw s5 [0,1] ⟨rfl,rfl,rfl,rfl,trivial⟩
   refine bM.cons rfl ?_ ?_
   ·refine lo bI ?_;exact aw s12 [0,1] ⟨rfl,rfl,rfl,trivial⟩
   refine bM.cons rfl ?_ ?_
   ·refine aD rfl rfl rfl (bg rfl lJ oh) trivial fun b6=>?_;exact aw (s68 b6) [1,2,0] ⟨rfl,rfl,rfl,rfl,trivial⟩
   exact trivial
  have s64:∀(b6:Nat),J 7 [false,false,false,false,false,false,true,false] [(1,Pt b1),(2,Pt b2),(3,Pt b6)] [.obj b1 27 (.rep aj a0),.obj b2 27 (.agg (.pair (I 0) (.pair (.eq (.slice none 0 0)) (.eq (.slice none 0 0))))),.obj b6 27 (.agg (.pair (I 0) (.pair (.eq (.slice none 0 0)) (.eq (.slice none 0 0)))))]:=fun b6=>by
   subst hJ;refine JD.step [0,2] (by kernel_rfl) rfl ?_;refine bM.cons rfl ?_ ?_
   ·refine fl iH ?_;exact aw (s65 b6) [0,1,2] ⟨rfl,rfl,rfl,rfl,trivial⟩
   refine bM.cons rfl ?_ ?_
   ·refine fl cV ?_;exact aw (s68 b6) [0,1,2] ⟨rfl,rfl,rfl,rfl,trivial⟩
   exact trivial
  have s0:J 8 [false,false,false,false,false,false,false,false] [(1,Pt b1),(2,Pt b2)] [.obj b2 27 (.agg (.pair (I 0) (.pair (.eq (.slice none 0 0)) (.eq (.slice none 0 0))))),.obj b1 27 (.rep aj a0)]:=by
   subst hJ;refine JD.step [0,2,6] (by kernel_rfl) rfl ?_;refine bM.cons rfl ?_ ?_
   ·refine fl iH ?_;exact aw s1 [1,0] ⟨rfl,rfl,rfl,trivial⟩
   refine bM.cons rfl ?_ ?_
   ·refine fl cV ?_;exact aw s4 [1,0] ⟨rfl,rfl,rfl,trivial⟩
   refine bM.cons rfl ?_ ?_
   ·refine aD rfl rfl rfl (bg rfl lJ oh) trivial fun b6=>?_;exact aw (s64 b6) [2,1,0] ⟨rfl,rfl,rfl,trivial⟩
   exact trivial
  exact s0
 rintro⟨v4,b6⟩
 show JN _ _ [(1,Pt b1),(2,Pt b2),(3,Pt b6)] [.obj b1 27 (.rep aj a0),.obj b2 27 (.agg (.pair (I 0) (.pair (.eq (.slice none 0 0)) (.eq (.slice none 0 0))))),.sl v4 3 (.int .i64) r3,.obj b6 27 (.agg (.pair (I a0.1) (.pair (.eq (.slice none 0 0)) (.eq v4))))]
 refine tn ?_
 refine aS (Z:=Value) (α:=(List gu)) (fun z8 x7=>[(2,Pt b2),(3,Pt b6)]) (fun z8 x7=>[.obj b2 27 (.agg (.pair (I 0) (.pair (.eq (.slice none 0 0)) (.eq (.slice none 0 0))))),.obj b6 27 (.agg (.pair (I a0.1) (.pair (.eq z8) (.eq v4)))),.sl z8 35 aG x7,.sl v4 3 (.int .i64) r3]) h (fun K h=>?_) (fun z8 x7 h=>?_)
 ·
  refine sr (cq (nt (an ?_)));refine eA (SE.nil 35 aG) ?_;refine aJ (fun e y9=>[(1,Pt b1),(2,Pt b2),(3,Pt b6),(4,I y9.2)]) (fun e y9=>[.obj b1 27 (.rep aj a0),.obj b2 27 (.agg (.pair (I 0) (.pair (.eq (.slice none 0 0)) (.eq (.slice none 0 0))))),.obj b6 27 (.agg (.pair (I a0.1) (.pair (.eq e) (.eq v4)))),.sl e 35 aG y9.1,.sl v4 3 (.int .i64) r3]) (fw k a0) k (.slice none 0 0) (([]:(List gu)),0) (fun _=>rfl) h (SE.fin [1,2,4,0,3] ⟨rfl,rfl,rfl,rfl,trivial⟩ rfl) (fun n e y9 h=>?_);unfold fw at h;refine ae (sr (mq ?_));refine fl cQ ?_;refine lo iN ?_;refine ol qD ?_;refine jb (bv rfl) ?_;refine nt (ci h (fun h=>?_) (fun h=>?_))
  ·refine sk (ae (an (bK ?_)));refine da (aA rfl cQ) ?_;refine ea 2 (ap rfl iN lg rfl) ?_;refine da (aA rfl cQ) ?_;refine ea 0 (ap rfl iN lg rfl) ?_;refine dm ?_;obtain⟨l,x,h⟩:=aa h;refine db (aI (t:=aG) rfl qD iY x) ?_;refine da (aM 1 false rfl mV rfl) ?_;refine da (ao (t:=(.int .i64)) rfl cH rfl) ?_;refine da (aA rfl cQ) ?_;refine ea 0 (ap rfl iN lg rfl) ?_;refine dm ?_;obtain⟨F,u,h⟩:=aa h;refine db (aI (t:=aG) rfl qD iY u) ?_;refine da (aM 1 false rfl mU rfl) ?_;refine da (ao (t:=(.slice (.int .i64))) rfl bI rfl) ?_;obtain⟨j,D,h⟩:=aa h;refine da (DD (ar [.tmp 31] rfl rfl yq rfl (dj k F.2 j D))) ?_;refine db (cR [(0,.tmp 25,_),(1,.tmp 32,_)] rfl Bw uE vO (iw ⟨rfl,rfl,trivial⟩) rfl) ?_;refine da (bi (t:=aG) [(.tmp 33,_)] [(l.1,j)] rfl rfl Bg (.cons trivial (.agg (.pair .int .rep)) .nil) rfl rfl) ?_;refine df cY ?_;obtain⟨O,y,h⟩:=aa h;refine fr 3 ?_;refine dz rfl rfl rfl (bQ rfl rfl Bg (av y)) ⟨rfl,rfl,trivial⟩ fun M=>?_;refine fl cQ ?_;refine oq fun o16=>?_;refine fr 3 ?_;refine bj rfl rfl (bm rfl iN o16 rfl rfl) ⟨rfl,rfl,trivial⟩ ?_;refine au (aK (tn (ab (mq ?_))));obtain⟨E,s,h⟩:=aa h;refine jb (bf rfl s) ?_;refine aq (nl ?_);exact jz (M,(y9.1++[(l.1,j)],E)) h [2,3,0,1,4]
  ·refine xa ?_;exact jz (e,y9.1) h [1,2,3,4]
 ·
  refine sr (fr 1 ?_);refine lo dy ?_;refine fr 1 ?_;refine bj rfl rfl (bm rfl dy trivial rfl rfl) ⟨rfl,rfl,trivial⟩ ?_;refine nt (aB (bh (SE.fin (Γ':=[(2,_)]) [2,3,0,1] ⟨rfl,trivial⟩ rfl) ?_));cases h;exact aN (z8,v4) [.agg (.pair (I a0.1) (.pair (.eq z8) (.eq v4)))] 2 ⟨⟨_,_,_,_,_,rfl,(.tail _ (.tail _ (.head _))),dy,(yM),rfl⟩,trivial⟩ rfl
def jB(k:Nat)(a0:a8):Nat→Int→Option (Except Bool Unit)
 |0,_=>none
 |n+1,y6=>
  if y6 < (a0.2.1.length:Int) then((aX a0.2.1 y6).bind fun x8=>
  if 20 < (x8.2.length:Int) then(some (.error true)) else((ck (y6+1)).bind fun x9=>
  jB k a0 n x9)) else(some (.ok ()))
def pe(k:Nat)(a0:a8):Option Bool:=
 ((if 20 < (a0.2.1.length:Int) then(some true) else(some (decide (20 < (a0.2.2.length:Int))))):Option (Bool)).bind fun x2=>
 if x2=true then(some true) else(bE (α:=Unit) (jB k a0 k 0) (some) fun _=>
 ((if(a0.2.1.length:Int)=5 then(some (decide ((a0.2.2.length:Int)=3))) else(some false)):Option (Bool)).bind fun c=>
 some c)
theorem Ae(k:Nat)(a0:a8)(r:Bool)(h:pe k a0=some r):
 cm Tryz.prog 14 [.rep aj a0] [] (fun _:Unit=>(bz [.eq (.bool r)],[])):=by
 unfold pe at h
 replace h:=be h
 refine cm.of 39 Tryz.func14 rfl Tryz.ntmps14 rfl fun S w0=>?_
 refine sr ?_
 refine bx fun b1=>?_
 refine cq ?_
 refine nt ?_
 refine ae ?_
 refine aS (Z:=Unit) (α:=Bool) (fun z3 x2=>[(1,Pt b1),(13,.eq (.bool x2))]) (fun z3 x2=>[.obj b1 27 (.rep aj a0)]) h (fun K h=>?_) (fun z3 x2 h=>?_)
 ·
  refine ab (fl cQ ?_);refine lo iN ?_;refine ol qD ?_;refine jb (f5 rfl) ?_;refine mq ?_;refine cd (s:=8) rfl (fun hb=>?_) (fun hb=>?_)
  ·replace h:=cI (nG hb) h;iterate 4 refine gn ?_
   refine pt (nl ?_);exact jz ((),true) h [0]
  ·replace h:=bS (mW hb) h;refine ga (aA rfl cV) ?_;refine mi rfl rfl rfl rfl rfl rfl (ap rfl bI lg rfl) ⟨rfl,trivial⟩ ?_;refine ga (kd rfl rfl dQ) ?_;refine gb (f5 rfl) ?_;refine pf (nl ?_);exact jz ((),decide (20 < (a0.2.2.length:Int))) h [0]
 ·
  refine cv h (fun h=>?_) (fun h=>?_)
  ·refine sr (cq (nt (rx ?_)));cases h;exact ra
  ·refine sk (dn (Z:=Unit) (α:=Unit) (fun z5 x4=>[(1,Pt b1)]) (fun z5 x4=>[.obj b1 27 (.rep aj a0)]) (fun e=>e=r) h (fun e h=>Option.some.inj h) (fun K hR h=>?_) (fun z5 x4 h=>?_))
   ·refine sr (cq (nt (an ?_)));refine aJ (fun z7 y6=>[(1,Pt b1),(3,I y6)]) (fun z7 y6=>[.obj b1 27 (.rep aj a0)]) (jB k a0) k () 0 (fun _=>rfl) h (SE.fin [0] ⟨rfl,rfl,trivial⟩ rfl) (fun n z7 y6 h=>?_);unfold jB at h;refine ae (sr (mq ?_));refine fl cQ ?_;refine lo iN ?_;refine ol qD ?_;refine jb (bv rfl) ?_;refine nt (ci h (fun h=>?_) (fun h=>?_))
    ·refine sk (ae (an (sr (fl cQ ?_))));refine lo iN ?_;refine mq ?_;obtain⟨x8,u,h⟩:=aa h;refine jb (aI (t:=aG) rfl qD iY u) ?_;refine ja (aM 1 false rfl mU rfl) ?_;refine ja (ao (t:=(.slice (.int .i64))) rfl bI rfl) ?_;refine ol dQ ?_;refine jb (f5 rfl) ?_;refine nt (ci h (fun h=>?_) (fun h=>?_))
     ·refine sr (cq (nt (aB (br (aZ (aO ?_))))));obtain rfl:=hR _ h;exact ra
     ·refine aY (aK (tn (ab (mq ?_))));obtain⟨x9,l,h⟩:=aa h;refine jb (bf rfl l) ?_;refine aq (nl ?_);exact jz ((),x9) h [0]
    ·refine xa ?_;exact jz ((),()) h [0]
   ·refine aS (Z:=Unit) (α:=Bool) (fun j c=>[(2,.eq (.bool c))]) (fun j c=>[]) h (fun K h=>?_) (fun j c h=>?_)
    ·refine ab (fl cQ ?_);refine lo iN ?_;refine ol qD ?_;refine jb (eh rfl) ?_;refine mq ?_;refine cd (s:=33) rfl (fun hb=>?_) (fun hb=>?_)
     ·replace h:=cI (nG hb) h;refine ga (aA rfl cV) ?_;refine mi rfl rfl rfl rfl rfl rfl (ap rfl bI lg rfl) ⟨rfl,trivial⟩ ?_;refine ga (kd rfl rfl dQ) ?_;refine gb (eh rfl) ?_;refine pt ?_;refine aq (nl ?_);exact jz ((),decide ((a0.2.2.length:Int)=3)) h []
     ·replace h:=bS (mW hb) h;iterate 4 refine gn ?_
      refine pf ?_;refine aq (nl ?_);exact jz ((),false) h []
    ·refine aB ?_;cases h;exact ra
def jA(k:Nat)(a0:(List (List Int))):Nat→Int→Option (Except Bool Unit)
 |0,_=>none
 |n+1,y3=>
  ((if y3 < (a0.length:Int) then(some (decide (y3 < 20))) else(some false)):Option (Bool)).bind fun x5=>
  if x5=true then((aX a0 y3).bind fun x7=>
  if 20 < (x7.length:Int) then(some (.error true)) else((ck (y3+1)).bind fun x8=>
  jA k a0 n x8)) else(some (.ok ()))
def o7(k:Nat)(a0:(List (List Int))):Option Bool:=
 bE (α:=Unit) (jA k a0 k 0) (some) fun _=>
 some (decide (20 < (a0.length:Int)))
theorem Ad(k:Nat)(a0:(List (List Int)))(r:Bool)(h:o7 k a0=some r):
 cm Tryz.prog 15 [.rep (.slice (.slice (.int .i64))) a0] [] (fun _:Unit=>(bz [.eq (.bool r)],[])):=by
 unfold o7 at h
 replace h:=be h
 refine cm.of 23 Tryz.func15 rfl Tryz.ntmps15 rfl fun S w0=>?_
 refine sr ?_
 refine cq ?_
 refine nt ?_
 refine dn (Z:=Unit) (α:=Unit) (fun z2 x1=>[(0,.rep (.slice (.slice (.int .i64))) a0)]) (fun z2 x1=>[]) (fun e=>e=r) h (fun e h=>Option.some.inj h) (fun K hR h=>?_) (fun z2 x1 h=>?_)
 ·
  refine sr (cq (nt (an ?_)));refine aJ (fun z4 y3=>[(0,.rep (.slice (.slice (.int .i64))) a0),(3,I y3)]) (fun z4 y3=>[]) (jA k a0) k () 0 (fun _=>rfl) h (SE.fin [] ⟨rfl,rfl,trivial⟩ rfl) (fun n z4 y3 h=>?_);unfold jA at h;refine ae (aS (Z:=Unit) (α:=Bool) (fun z6 x5=>[(0,.rep (.slice (.slice (.int .i64))) a0),(3,I y3),(11,.eq (.bool x5))]) (fun z6 x5=>[]) h (fun K h=>?_) (fun z6 x5 h=>?_))
  ·refine ab ?_;iterate 2 refine mq ?_
   refine ol k9 ?_;refine jb (bv rfl) ?_;refine mq ?_;refine cd (s:=8) rfl (fun hb=>?_) (fun hb=>?_)
   ·replace h:=cI (nG hb) h;refine gm ?_;refine gb (bv rfl) ?_;refine pt (nl ?_);exact jz ((),decide (y3 < 20)) h []
   ·replace h:=bS (mW hb) h;iterate 2 refine gn ?_
    refine pf (nl ?_);exact jz ((),false) h []
  ·refine cv h (fun h=>?_) (fun h=>?_)
   ·refine sk (ae (an (sr ?_)));iterate 2 refine mq ?_
    obtain⟨x7,j,h⟩:=aa h;refine jb (aI (t:=(.slice (.int .i64))) rfl k9 bI j) ?_;refine ja (ao (t:=(.slice (.int .i64))) rfl bI rfl) ?_;refine ol dQ ?_;refine jb (f5 rfl) ?_;refine nt (ci h (fun h=>?_) (fun h=>?_))
    ·refine sr (cq (nt (aB (br (aZ (aO ?_))))));obtain rfl:=hR _ h;exact ra
    ·refine aY (aK (tn (ab (mq ?_))));obtain⟨x8,c,h⟩:=aa h;refine jb (bf rfl c) ?_;refine aq (nl ?_);exact jz ((),x8) h []
   ·refine xa ?_;exact jz ((),()) h []
 ·
  refine sr (mq ?_);refine ol k9 ?_;refine jb (f5 rfl) ?_;refine aq (nt (aB ?_));cases h;exact ra
def eX(k:Nat)(a0:(List (List Int))):Nat→((List (List Int))×Int)→Option (List (List Int))
 |0,_=>none
 |n+1,y3=>
  if y3.2 < (a0.length:Int) then((aX a0 y3.2).bind fun x5=>
  (fP k x5).bind fun r6=>
  (cp (bO (List.length y3.1+List.length [r6]))).bind fun _=>
  (ck (y3.2+1)).bind fun c=>
  eX k a0 n (y3.1++[r6],c)) else(some y3.1)
def je(k:Nat)(a0:(List (List Int))):Option (List (List Int)):=
 ((eX k a0 k (([]:(List (List Int))),0)):Option ((List (List Int)))).bind fun x1=>
 some x1
def fH(k:Nat)(a1:(List (List Int)))(y5:Value×Int):Nat→(Value×Int)→Option Value
 |0,_=>none
 |n+1,c=>
  (aX a1 y5.2).bind fun u=>
  if c.2 < (u.length:Int) then((aX a1 y5.2).bind fun s=>
  (aX s c.2).bind fun h=>
  (aX a1 y5.2).bind fun r=>
  (aX r c.2).bind fun l=>
  (ck (l+1)).bind fun e=>
  (cp (bW (.string ⟨#[97,98,99,100,101,102,103,104,105,106,107,108,109,110,111,112,113,114,115,116,117,118,119,120,121,122]⟩)=true∧0≤h∧h≤e∧e≤((dq (.string ⟨#[97,98,99,100,101,102,103,104,105,106,107,108,109,110,111,112,113,114,115,116,117,118,119,120,121,122]⟩)).size:Int))).bind fun _=>
  (cp (bW c.1=true∧bW (iO (.string ⟨#[97,98,99,100,101,102,103,104,105,106,107,108,109,110,111,112,113,114,115,116,117,118,119,120,121,122]⟩) h e)=true∧((dq c.1).size+(dq (iO (.string ⟨#[97,98,99,100,101,102,103,104,105,106,107,108,109,110,111,112,113,114,115,116,117,118,119,120,121,122]⟩) h e)).size:Int)≤9223372036854775807)).bind fun _=>
  (ck (c.2+1)).bind fun j=>
  fH k a1 y5 n (gg c.1 (iO (.string ⟨#[97,98,99,100,101,102,103,104,105,106,107,108,109,110,111,112,113,114,115,116,117,118,119,120,121,122]⟩) h e),j)) else(some c.1)
def fJ(k:Nat)(a1:(List (List Int))):Nat→(Value×Int)→Option Value
 |0,_=>none
 |n+1,y5=>
  if y5.2 < (a1.length:Int) then(((((if 0 < y5.2 then((cp (bW y5.1=true∧bW (.string ⟨#[47]⟩)=true∧((dq y5.1).size+(dq (.string ⟨#[47]⟩)).size:Int)≤9223372036854775807)).bind fun _=>
  some (gg y5.1 (.string ⟨#[47]⟩))) else(some y5.1)):Option (Value)).bind fun x9=>
  fH k a1 y5 k (x9,0)):Option (Value)).bind fun x7=>
  (ck (y5.2+1)).bind fun c=>
  fJ k a1 n (x7,c)) else(some y5.1)
def lC(k:Nat)(a0:a8)(a1:(List (List Int))):Option (Value×Int):=
 (dM k a0 a1).bind fun r2=>
 if¬(r2=0) then(some ((.string ⟨#[]⟩),r2)) else(((fJ k a1 k ((.string ⟨#[]⟩),0)):Option (Value)).bind fun x3=>
 some (x3,0))
theorem xM(k:Nat)(a0:a8)(a1:(List (List Int)))(r:Value×Int)(h:lC k a0 a1=some r):
 cm Tryz.prog 18 [.rep aj a0,.rep (.slice (.slice (.int .i64))) a1] [] (fun _:Unit=>(bz [.eq r.1,I r.2],[])):=by
 unfold lC at h
 replace h:=be h
 refine cm.of 54 Tryz.func18 rfl Tryz.ntmps18 rfl fun S w0=>?_
 refine sr ?_
 refine bx fun b1=>?_
 refine cq ?_
 refine cq ?_
 refine nt ?_
 refine ae ?_
 refine sr ?_
 refine lo dy ?_
 refine mq ?_
 obtain⟨r2,ac,h⟩:=aa h
 have mc:=ln k a0 a1 r2 ac
 refine jb (ar [.tmp 10,.tmp 11] rfl rfl P3 rfl mc) ?_
 refine aq ?_
 refine nt ?_
 refine sr ?_
 refine mq ?_
 refine jb (ig rfl) ?_
 refine nt ?_
 refine cn h (fun h=>?_) (fun h=>?_)
 ·
  refine sr (mq ?_);refine cq ?_;refine aq (nt (rx ?_));cases h;exact rb
 ·
  refine sk (sr (cq (nt ?_)));refine aS (Z:=Unit) (α:=Value) (fun z4 x3=>[(7,.eq x3)]) (fun z4 x3=>[]) h (fun K h=>?_) (fun z4 x3 h=>?_)
  ·refine sr (cq (nt (an ?_)));refine aJ (fun z6 y5=>[(1,.rep (.slice (.slice (.int .i64))) a1),(7,.eq y5.1),(8,I y5.2)]) (fun z6 y5=>[]) (fJ k a1) k () ((.string ⟨#[]⟩),0) (fun _=>rfl) h (SE.fin [] ⟨rfl,rfl,rfl,trivial⟩ rfl) (fun n z6 y5 h=>?_);unfold fJ at h;refine ae (sr ?_);iterate 2 refine mq ?_
   refine ol k9 ?_;refine jb (bv rfl) ?_;refine nt (ci h (fun h=>?_) (fun h=>?_))
   ·refine sk (aS (Z:=Unit) (α:=Value) (fun z8 x7=>[(1,.rep (.slice (.slice (.int .i64))) a1),(7,.eq x7),(8,I y5.2)]) (fun z8 x7=>[]) h (fun K h=>?_) (fun z8 x7 h=>?_))
    ·refine an (aS (Z:=Unit) (α:=Value) (fun j x9=>[(1,.rep (.slice (.slice (.int .i64))) a1),(7,.eq x9),(8,I y5.2)]) (fun j x9=>[]) h (fun K h=>?_) (fun j x9 h=>?_))
     ·refine sr (mq ?_);refine jb (f5 rfl) ?_;refine nt (ci h (fun h=>?_) (fun h=>?_))
      ·refine ab (mq ?_);obtain⟨T8,O,h⟩:=aa h;refine jb (mE rfl (av O)) ?_;refine aq (nl ?_);exact jz ((),gg y5.1 (.string ⟨#[47]⟩)) h []
      ·refine aY (ag ?_);exact jz ((),y5.1) h []
     ·refine sr (cq (nt (an ?_)));refine aJ (fun e c=>[(1,.rep (.slice (.slice (.int .i64))) a1),(7,.eq c.1),(8,I y5.2),(9,I c.2)]) (fun e c=>[]) (fH k a1 y5) k () (x9,0) (fun _=>rfl) h (SE.fin [] ⟨rfl,rfl,rfl,rfl,trivial⟩ rfl) (fun n e c h=>?_);unfold fH at h;refine ae (sr ?_);iterate 3 refine mq ?_
      obtain⟨TX,F,h⟩:=aa h;refine jb (aI (t:=(.slice (.int .i64))) rfl k9 bI F) ?_;refine ja (ao (t:=(.slice (.int .i64))) rfl bI rfl) ?_;refine ol dQ ?_;refine jb (bv rfl) ?_;refine nt (ci h (fun h=>?_) (fun h=>?_))
      ·refine sk (ae (an (bK ?_)));refine dm ?_;refine dm ?_;refine dm ?_;obtain⟨se,E,h⟩:=aa h;refine db (aI (t:=(.slice (.int .i64))) rfl k9 bI E) ?_;refine da (ao (t:=(.slice (.int .i64))) rfl bI rfl) ?_;refine dm ?_;obtain⟨Y,D,h⟩:=aa h;refine db (aI (t:=(.int .i64)) rfl dQ cH D) ?_;refine da (ao (t:=(.int .i64)) rfl cH rfl) ?_;refine dm ?_;refine dm ?_;obtain⟨qt,y,h⟩:=aa h;refine db (aI (t:=(.slice (.int .i64))) rfl k9 bI y) ?_;refine da (ao (t:=(.slice (.int .i64))) rfl bI rfl) ?_;refine dm ?_;obtain⟨pp,x,h⟩:=aa h;refine db (aI (t:=(.int .i64)) rfl dQ cH x) ?_;refine da (ao (t:=(.int .i64)) rfl cH rfl) ?_;obtain⟨X,u,h⟩:=aa h;refine db (bf rfl u) ?_;obtain⟨TZ,M,h⟩:=aa h;refine dc (Ew rfl U9 (av M)) ?_;refine df cY ?_;obtain⟨TY,J,h⟩:=aa h;refine jb (mE rfl (av J)) ?_;refine aq (au (aK (tn (ab ?_))));refine mq ?_;obtain⟨U,s,h⟩:=aa h;refine jb (bf rfl s) ?_;refine aq (nl ?_);exact jz ((),(gg c.1 (iO (.string ⟨#[97,98,99,100,101,102,103,104,105,106,107,108,109,110,111,112,113,114,115,116,117,118,119,120,121,122]⟩) Y X),U)) h []
      ·refine dk (aP (aP (bL (bn ?_))));exact jz ((),c.1) h []
    ·refine ab (mq ?_);obtain⟨Q,l,h⟩:=aa h;refine jb (bf rfl l) ?_;refine aq (nl ?_);exact jz ((),(x7,Q)) h []
   ·refine xa ?_;exact jz ((),y5.1) h []
  ·refine sr (mq ?_);refine aq ?_;refine cq (nt (aB ?_));cases h;exact rb
def kS(k:Nat)(a0:Value)(a1:Int)(a2:Int)(a3:Int):Option Value:=
 (cp (bW a0=true)).bind fun _=>
 if((dq a0).size:Int)=0 then(some (fE [a3])) else((cp (bW a0=true)).bind fun _=>
 (jU k a1 ((dq a0).size:Int)).bind fun r3=>
 (jU k a2 3).bind fun r4=>
 if r4=0 then((cp (bW a0=true∧0≤r3∧r3≤((dq a0).size:Int))).bind fun _=>
 (cp (bW (iO a0 0 r3)=true∧bW (fE [a3])=true∧((dq (iO a0 0 r3)).size+(dq (fE [a3])).size:Int)≤9223372036854775807)).bind fun _=>
 (ck (r3+1)).bind fun x7=>
 (cp (bW a0=true∧0≤x7∧x7≤((dq a0).size:Int))).bind fun _=>
 (cp (bW (gg (iO a0 0 r3) (fE [a3]))=true∧bW (iO a0 x7 ((dq a0).size:Int))=true∧((dq (gg (iO a0 0 r3) (fE [a3]))).size+(dq (iO a0 x7 ((dq a0).size:Int))).size:Int)≤9223372036854775807)).bind fun _=>
 some (gg (gg (iO a0 0 r3) (fE [a3])) (iO a0 x7 ((dq a0).size:Int)))) else(if r4=1 then((cp (bW a0=true∧0≤r3∧r3≤((dq a0).size:Int))).bind fun _=>
 (ck (r3+1)).bind fun c=>
 (cp (bW a0=true∧0≤c∧c≤((dq a0).size:Int))).bind fun _=>
 (cp (bW (iO a0 0 r3)=true∧bW (iO a0 c ((dq a0).size:Int))=true∧((dq (iO a0 0 r3)).size+(dq (iO a0 c ((dq a0).size:Int))).size:Int)≤9223372036854775807)).bind fun _=>
 some (gg (iO a0 0 r3) (iO a0 c ((dq a0).size:Int)))) else((cp (bW a0=true∧0≤r3∧r3≤((dq a0).size:Int))).bind fun _=>
 (cp (bW (iO a0 0 r3)=true∧bW (fE [a3])=true∧((dq (iO a0 0 r3)).size+(dq (fE [a3])).size:Int)≤9223372036854775807)).bind fun _=>
 (cp (bW a0=true∧0≤r3∧r3≤((dq a0).size:Int))).bind fun _=>
 (cp (bW (gg (iO a0 0 r3) (fE [a3]))=true∧bW (iO a0 r3 ((dq a0).size:Int))=true∧((dq (gg (iO a0 0 r3) (fE [a3]))).size+(dq (iO a0 r3 ((dq a0).size:Int))).size:Int)≤9223372036854775807)).bind fun _=>
 some (gg (gg (iO a0 0 r3) (fE [a3])) (iO a0 r3 ((dq a0).size:Int))))))
theorem vB(k:Nat)(a0:Value)(a1:Int)(a2:Int)(a3:Int)(r:Value)(h:kS k a0 a1 a2 a3=some r):
 cm Tryz.prog 19 [.eq a0,I a1,I a2,.eq (.int .u8 a3)] [] (fun _:Unit=>(bz [.eq r],[])):=by
 unfold kS at h
 replace h:=be h
 refine cm.of 57 Tryz.func19 rfl Tryz.ntmps19 rfl fun S w0=>?_
 refine sr ?_
 refine cq ?_
 refine nt ?_
 refine ae ?_
 refine sr ?_
 refine mq ?_
 obtain⟨u1,O,h⟩:=aa h
 refine ja (pU rfl rfl U9 (av O)) ?_
 refine jb (eh rfl) ?_
 refine nt ?_
 refine ci h (fun h=>?_) (fun h=>?_)
 ·
  refine sr (mq ?_);refine ja (bi (t:=(.int .u8)) [(.tmp 13,_)] [a3] rfl rfl LR (.cons rfl .int .nil) rfl rfl) ?_;refine ja (qR rfl SY U5 U9) ?_;refine aq (nt (rx ?_));cases h;exact ra
 ·
  refine sk (sr ?_);iterate 2 refine mq ?_
  obtain⟨u2,M,h⟩:=aa h;refine ja (pU rfl rfl U9 (av M)) ?_;obtain⟨r3,U,h⟩:=aa h;refine jb (ar [.tmp 16,.tmp 18] rfl rfl Nn rfl (pg k a1 ((dq a0).size:Int) r3 U)) ?_;refine aq (nt (ae (sr ?_)));refine mq ?_;obtain⟨r4,Q,h⟩:=aa h;refine jb (ar [.tmp 20,.const (.int .i64 (3))] rfl rfl Nn rfl (pg k a2 3 r4 Q)) ?_;refine nt (an (sr (jb (eh rfl) ?_)));refine aq (nt ?_);refine ci h (fun h=>?_) (fun h=>?_)
  ·refine ae (bK ?_);refine dm ?_;refine dm ?_;obtain⟨u5,J,h⟩:=aa h;refine db (oU rfl U9 (av J)) ?_;refine dm ?_;refine da (bi (t:=(.int .u8)) [(.tmp 27,_)] [a3] rfl rfl LR (.cons rfl .int .nil) rfl rfl) ?_;refine da (qR rfl SY U5 U9) ?_;obtain⟨u6,F,h⟩:=aa h;refine db (mE rfl (av F)) ?_;refine dm ?_;refine dm ?_;obtain⟨x7,y,h⟩:=aa h;refine db (bf rfl y) ?_;obtain⟨u8,E,h⟩:=aa h;refine db (oS rfl U9 (av E)) ?_;refine df cY ?_;obtain⟨u9,D,h⟩:=aa h;refine jb (mE rfl (av D)) ?_;refine aq (nt (aB (aZ (aO ?_))));cases h;exact ra
  ·refine sr (jb (eh rfl) ?_);refine aq (nt ?_);refine ci h (fun h=>?_) (fun h=>?_)
   ·refine ae (bK ?_);refine dm ?_;refine dm ?_;obtain⟨qt,x,h⟩:=aa h;refine db (oU rfl U9 (av x)) ?_;refine dm ?_;refine dm ?_;obtain⟨X,c,h⟩:=aa h;refine db (bf rfl c) ?_;obtain⟨pp,u,h⟩:=aa h;refine db (oS rfl U9 (av u)) ?_;refine df cY ?_;obtain⟨mc,s,h⟩:=aa h;refine jb (mE rfl (av s)) ?_;refine aq (nt (aB (aZ (aO ?_))));cases h;exact ra
   ·refine aY (aK (tn (ae (bK ?_))));refine dm ?_;refine dm ?_;obtain⟨ac,n,h⟩:=aa h;refine db (oU rfl U9 (av n)) ?_;refine dm ?_;refine da (bi (t:=(.int .u8)) [(.tmp 49,_)] [a3] rfl rfl LR (.cons rfl .int .nil) rfl rfl) ?_;refine da (qR rfl SY U5 U9) ?_;obtain⟨Z,l,h⟩:=aa h;refine db (mE rfl (av l)) ?_;refine dm ?_;refine dm ?_;obtain⟨u16,j,h⟩:=aa h;refine db (oS rfl U9 (av j)) ?_;refine df cY ?_;obtain⟨Y,e,h⟩:=aa h;refine jb (mE rfl (av e)) ?_;refine aq (nt (aB ?_));cases h;exact ra
end Go.Proofs.YtmeojbemjkmebaaGreatDoor
