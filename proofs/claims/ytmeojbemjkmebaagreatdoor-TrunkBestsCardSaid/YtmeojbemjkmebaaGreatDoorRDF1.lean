import Derived.Test.YtmeojbemjkmebaaGreatDoorRDFacts
import Derived.Test.YtmeojbemjkmebaaGreatDoorRDB6
import Derived.Test.YtmeojbemjkmebaaGreatDoorRDB5
set_option linter.unusedSimpArgs false
set_option linter.unusedVariables false
set_option maxRecDepth 4000
set_option maxHeartbeats 1000000
namespace Go.Proofs.YtmeojbemjkmebaaGreatDoor
open K Go Go.Proofs
def mW(k:Nat)(a0:(List Int)):Option bV:=
 some (a0,0,1)
theorem kg(k:Nat)(a0:(List Int))(r:bV)(h:mW k a0=some r):
 bX Tryz.prog 7 [Ri a0] [] (fun z:Nat=>(bj [Pt z],[.obj z 66 (.agg (.pair (Ri r.1) (.pair (I r.2.1) (.eq (.int .u64 r.2.2)))))])):=by
 unfold mW at h
 replace h:=a9 h
 refine bX.of 6 Tryz.func7 rfl Tryz.ntmps7 rfl fun S w0=>?_
 refine au ?_
 refine jb (c9 [(0,.tmp 3,_),(2,.const (.int .u64 (1)),_)] rfl S5 SN RL (iM ⟨rfl,rfl,trivial⟩) rfl) ?_
 refine aD rfl rfl rfl (oV rfl trivial) ⟨rfl,trivial⟩ fun b1=>?_
 refine au ?_
 cases h
 exact aN b1 [Pt b1] 1 ⟨rfl,trivial⟩ rfl
def jx(k:Nat)(a0:bV):Option (Int×bV):=
 ((if a0.2.1 < (a0.1.length:Int) then((aQ a0.1 a0.2.1).bind fun x3=>
 some (IntKind.u64.wrap ((IntKind.u64.wrap ((IntKind.u64.wrap (a0.2.2 * 6364136223846793005))+1442695040888963407))+(IntKind.u64.wrap ((IntKind.u64.wrap x3) * 2862933555777941757))))) else(some (IntKind.u64.wrap ((IntKind.u64.wrap (a0.2.2 * 6364136223846793005))+1442695040888963407)))):Option (Int)).bind fun x1=>
 (ck (a0.2.1+1)).bind fun x4=>
 some (iE .u64 (rK .u64 (IntKind.u64.wrap ((rK .u64 x1 (iE .u64 x1 29)) * 2685821657736338717)) (iE .u64 (IntKind.u64.wrap ((rK .u64 x1 (iE .u64 x1 29)) * 2685821657736338717)) 32)) 8,(a0.1,x4,x1))
theorem t7(k:Nat)(a0:bV)(c:Nat)(r:Int×bV)(h:jx k a0=some r):
 bX Tryz.prog 79 [Pt c] [.obj c 66 (.agg (.pair (Ri a0.1) (.pair (I a0.2.1) (.eq (.int .u64 a0.2.2)))))] (fun _:Unit=>(bj [.eq (.int .u64 r.1)],[.obj c 66 (.agg (.pair (Ri r.2.1) (.pair (I r.2.2.1) (.eq (.int .u64 r.2.2.2)))))])):=by
 unfold jx at h
 replace h:=a9 h
 refine bX.of 67 Tryz.func79 rfl Tryz.ntmps79 rfl fun S w0=>?_
 refine au ?_
 refine ja (ba rfl) ?_
 refine fl t9 ?_
 refine lo E7 ?_
 refine jb (CN rfl) ?_
 refine jb (CQ rfl) ?_
 refine ja (ba rfl) ?_
 refine fl t9 ?_
 refine a8 rfl rfl (aX rfl E7 rfl rfl rfl) ⟨rfl,rfl,trivial⟩ ?_
 refine nt ?_
 refine aI (Z:=Unit) (α:=Int) (fun z2 x1=>[(0,Pt c)]) (fun z2 x1=>[.obj c 66 (.agg (.pair (Ri a0.1) (.pair (I a0.2.1) (.eq (.int .u64 x1)))))]) h (fun K h=>?_) (fun z2 x1 h=>?_)
 ·
  refine ar (bJ ?_);refine dm ?_;refine da (ba rfl) ?_;refine da (av rfl yX) ?_;refine ea 0 (ai rfl ct jw rfl) ?_;refine dm ?_;refine da (ba rfl) ?_;refine da (av rfl IY) ?_;refine ea 0 (ai rfl bZ jw rfl) ?_;refine da (ju rfl rfl dP) ?_;refine df cH ?_;refine jb (bq rfl) ?_;refine nt (ci h (fun h=>?_) (fun h=>?_))
  ·refine bJ ?_;refine dm ?_;refine dm ?_;refine da (ba rfl) ?_;refine da (av rfl t9) ?_;refine ea 0 (ai rfl E7 jw rfl) ?_;refine dm ?_;refine da (ba rfl) ?_;refine da (av rfl IY) ?_;refine ea 0 (ai rfl bZ jw rfl) ?_;refine dm ?_;refine da (ba rfl) ?_;refine da (av rfl yX) ?_;refine ea 0 (ai rfl ct jw rfl) ?_;obtain⟨x3,j,h⟩:=aa h;refine db (aH (t:=(.int .i64)) rfl dP ct j) ?_;refine da (an (t:=(.int .i64)) rfl ct rfl) ?_;refine da (pB rfl U3 SH) ?_;refine db (CN rfl) ?_;refine db (CQ rfl) ?_;refine df cH ?_;refine ja (ba rfl) ?_;refine fl t9 ?_;refine a8 rfl rfl (aX rfl E7 rfl rfl rfl) ⟨rfl,rfl,trivial⟩ ?_;refine au ?_;exact jz ((),IntKind.u64.wrap ((IntKind.u64.wrap ((IntKind.u64.wrap (a0.2.2 * 6364136223846793005))+1442695040888963407))+(IntKind.u64.wrap ((IntKind.u64.wrap x3) * 2862933555777941757)))) h [0]
  ·refine au ?_;exact jz ((),IntKind.u64.wrap ((IntKind.u64.wrap (a0.2.2 * 6364136223846793005))+1442695040888963407)) h [0]
 ·
  refine au ?_;refine ja (ba rfl) ?_;refine fl yX ?_;refine lo ct ?_;obtain⟨x4,e,h⟩:=aa h;refine jb (be rfl e) ?_;refine ja (ba rfl) ?_;refine fl yX ?_;refine a8 rfl rfl (aX rfl ct rfl rfl rfl) ⟨rfl,rfl,trivial⟩ ?_;refine au ?_;refine bJ ?_;refine dm ?_;refine da (ba rfl) ?_;refine da (av rfl t9) ?_;refine ea 0 (ai rfl E7 jw rfl) ?_;refine dm ?_;refine da (ba rfl) ?_;refine da (av rfl t9) ?_;refine ea 0 (ai rfl E7 jw rfl) ?_;refine du rfl rfl rfl (vM rfl (by decide)) ⟨rfl,rfl,trivial⟩ ?_;refine df cH ?_;refine jb (M7 rfl) ?_;refine au ?_;refine jb (CN rfl) ?_;refine au ?_;refine aF rfl (vM rfl (by decide)) ⟨rfl,rfl,trivial⟩ ?_;refine jb (M7 rfl) ?_;refine aF rfl (vM rfl (by decide)) ⟨rfl,rfl,trivial⟩ ?_;refine au ?_;cases h;exact aN () [_] 1 ⟨rfl,trivial⟩ rfl
def dW(k:Nat)(a0:bV)(a1:Int):Option (Int×bV):=
 if a1 < 1 then(some (0,(a0.1,a0.2.1,a0.2.2))) else((jx k (a0.1,a0.2.1,a0.2.2)).bind fun r1=>
 (ck (a1+1)).bind fun x2=>
 (cU ((IntKind.u64.wrap x2)≠0)).bind fun _=>
 (ck (Int.tmod r1.1 (IntKind.u64.wrap x2))).bind fun x4=>
 some (x4,(r1.2.1,r1.2.2.1,r1.2.2.2)))
theorem gC(k:Nat)(a0:bV)(c:Nat)(a1:Int)(r:Int×bV)(h:dW k a0 a1=some r):
 bX Tryz.prog 40 [Pt c,I a1] [.obj c 66 (.agg (.pair (Ri a0.1) (.pair (I a0.2.1) (.eq (.int .u64 a0.2.2)))))] (fun _:Unit=>(bj [I r.1],[.obj c 66 (.agg (.pair (Ri r.2.1) (.pair (I r.2.2.1) (.eq (.int .u64 r.2.2.2)))))])):=by
 unfold dW at h
 replace h:=a9 h
 refine bX.of 14 Tryz.func40 rfl Tryz.ntmps40 rfl fun S w0=>?_
 refine au ?_
 refine jb (bq rfl) ?_
 refine nt ?_
 refine ci h (fun h=>?_) (fun h=>?_)
 ·
  refine au ?_;cases h;exact aN () [_] 1 ⟨rfl,trivial⟩ rfl
 ·
  refine au ?_;obtain⟨r1,n,h⟩:=aa h;refine ka (ao [.tmp 7] rfl rfl TU rfl (t7 k (a0.1,a0.2.1,a0.2.2) c r1 n)) ?_;refine mq ?_;obtain⟨x2,j,h⟩:=aa h;refine jb (be rfl j) ?_;refine ja (pB rfl U3 SH) ?_;obtain⟨u3,l,h⟩:=aa h;refine jb (HI rfl (aA l)) ?_;obtain⟨x4,e,h⟩:=aa h;refine ja (Aj rfl SH U3 e) ?_;refine au ?_;cases h;exact aN () [_] 1 ⟨rfl,trivial⟩ rfl
def fe(k:Nat)(a0:bV)(a1:Int)(a2:Int):Option (Int×bV):=
 (ck (a2 - a1)).bind fun x1=>
 (dW k (a0.1,a0.2.1,a0.2.2) x1).bind fun r2=>
 (ck (a1+r2.1)).bind fun x3=>
 some (x3,(r2.2.1,r2.2.2.1,r2.2.2.2))
theorem mr(k:Nat)(a0:bV)(c:Nat)(a1:Int)(a2:Int)(r:Int×bV)(h:fe k a0 a1 a2=some r):
 bX Tryz.prog 10 [Pt c,I a1,I a2] [.obj c 66 (.agg (.pair (Ri a0.1) (.pair (I a0.2.1) (.eq (.int .u64 a0.2.2)))))] (fun _:Unit=>(bj [I r.1],[.obj c 66 (.agg (.pair (Ri r.2.1) (.pair (I r.2.2.1) (.eq (.int .u64 r.2.2.2)))))])):=by
 unfold fe at h
 replace h:=a9 h
 refine bX.of 14 Tryz.func10 rfl Tryz.ntmps10 rfl fun S w0=>?_
 refine au ?_
 obtain⟨x1,j,h⟩:=aa h
 refine jb (fu rfl j) ?_
 obtain⟨r2,l,h⟩:=aa h
 have n:=gC k (a0.1,a0.2.1,a0.2.2) c x1 r2 l
 refine kb (ao [.tmp 8,.tmp 11] rfl rfl I7 rfl n) ?_
 obtain⟨x3,e,h⟩:=aa h
 refine jb (be rfl e) ?_
 refine au ?_
 cases h
 exact aN () [_] 1 ⟨rfl,trivial⟩ rfl
def jS(k:Nat)(a0:bV)(a1:(List Int)):Option (Int×bV):=
 (ck ((a1.length:Int) - 1)).bind fun x1=>
 (dW k (a0.1,a0.2.1,a0.2.2) x1).bind fun r2=>
 (aQ a1 r2.1).bind fun x3=>
 some (x3,(r2.2.1,r2.2.2.1,r2.2.2.2))
theorem pK(k:Nat)(a0:bV)(c:Nat)(a1:(List Int))(r:Int×bV)(h:jS k a0 a1=some r):
 bX Tryz.prog 65 [Pt c,Ri a1] [.obj c 66 (.agg (.pair (Ri a0.1) (.pair (I a0.2.1) (.eq (.int .u64 a0.2.2)))))] (fun _:Unit=>(bj [I r.1],[.obj c 66 (.agg (.pair (Ri r.2.1) (.pair (I r.2.2.1) (.eq (.int .u64 r.2.2.2)))))])):=by
 unfold jS at h
 replace h:=a9 h
 refine bX.of 13 Tryz.func65 rfl Tryz.ntmps65 rfl fun S w0=>?_
 refine au ?_
 refine ol dP ?_
 obtain⟨x1,j,h⟩:=aa h
 refine jb (fu rfl j) ?_
 obtain⟨r2,l,h⟩:=aa h
 have n:=gC k (a0.1,a0.2.1,a0.2.2) c x1 r2 l
 refine kb (ao [.tmp 6,.tmp 9] rfl rfl I7 rfl n) ?_
 obtain⟨x3,e,h⟩:=aa h
 refine jb (aH (t:=(.int .i64)) rfl dP ct e) ?_
 refine ja (an (t:=(.int .i64)) rfl ct rfl) ?_
 refine au ?_
 cases h
 exact aN () [_] 1 ⟨rfl,trivial⟩ rfl
def gd(k:Nat)(a0:bV)(a1:Int):Option (Bool×bV):=
 (ck (a1 - 1)).bind fun x1=>
 (dW k (a0.1,a0.2.1,a0.2.2) x1).bind fun r2=>
 some (decide (r2.1=0),(r2.2.1,r2.2.2.1,r2.2.2.2))
theorem nO(k:Nat)(a0:bV)(c:Nat)(a1:Int)(r:Bool×bV)(h:gd k a0 a1=some r):
 bX Tryz.prog 66 [Pt c,I a1] [.obj c 66 (.agg (.pair (Ri a0.1) (.pair (I a0.2.1) (.eq (.int .u64 a0.2.2)))))] (fun _:Unit=>(bj [.eq (.bool r.1)],[.obj c 66 (.agg (.pair (Ri r.2.1) (.pair (I r.2.2.1) (.eq (.int .u64 r.2.2.2)))))])):=by
 unfold gd at h
 replace h:=a9 h
 refine bX.of 10 Tryz.func66 rfl Tryz.ntmps66 rfl fun S w0=>?_
 refine au ?_
 obtain⟨x1,e,h⟩:=aa h
 refine jb (fu rfl e) ?_
 obtain⟨r2,j,h⟩:=aa h
 have l:=gC k (a0.1,a0.2.1,a0.2.2) c x1 r2 j
 refine kb (ao [.tmp 5,.tmp 7] rfl rfl I7 rfl l) ?_
 refine jb (dO rfl) ?_
 refine au ?_
 cases h
 exact aN () [_] 1 ⟨rfl,trivial⟩ rfl
def eY(k:Nat)(r2:Int×bV):Nat→((List Int)×Int×Int×(List Int)×Int)→Option ((List Int)×Int×Int×(List Int))
 |0,_=>none
 |n+1,c=>
  if c.2.2.2.2 < r2.1 then((((gd k (c.1,c.2.1,c.2.2.1) 2).bind fun e=>
  if e.1=true then((cU (bm (List.length c.2.2.2.1+List.length [c.2.2.2.2]))).bind fun _=>
  some (e.2.1,e.2.2.1,e.2.2.2,c.2.2.2.1++[c.2.2.2.2])) else(some (e.2.1,e.2.2.1,e.2.2.2,c.2.2.2.1))):Option ((List Int)×Int×Int×(List Int))).bind fun h=>
  (ck (c.2.2.2.2+1)).bind fun j=>
  eY k r2 n (h.1,h.2.1,h.2.2.1,h.2.2.2,j)) else(some (c.1,c.2.1,c.2.2.1,c.2.2.2.1))
def eZ(k:Nat)(r2:Int×bV):Nat→((List Int)×Int×Int×(List gf)×Int×Int)→Option ((List Int)×Int×Int×(List gf)×Int)
 |0,_=>none
 |n+1,y7=>
  if 0 < y7.2.2.2.2.2 then((((jS k (y7.1,y7.2.1,y7.2.2.1) [1,1,1,2,3]).bind fun c=>
  ((eY k r2 k (c.2.1,c.2.2.1,c.2.2.2,([]:(List Int)),0)):Option ((List Int)×Int×Int×(List Int))).bind fun e=>
  (cU (bm (List.length y7.2.2.2.1+List.length [(c.1,e.2.2.2)]))).bind fun _=>
  (ck (y7.2.2.2.2.1+c.1)).bind fun j=>
  some (e.1,e.2.1,e.2.2.1,y7.2.2.2.1++[(c.1,e.2.2.2)],j)):Option ((List Int)×Int×Int×(List gf)×Int)).bind fun x9=>
  (ck (y7.2.2.2.2.2 - 1)).bind fun h=>
  eZ k r2 n (x9.1,x9.2.1,x9.2.2.1,x9.2.2.2.1,x9.2.2.2.2,h)) else(some (y7.1,y7.2.1,y7.2.2.1,y7.2.2.2.1,y7.2.2.2.2.1))
def eX(k:Nat)(x4:(List Int)×Int×Int×(List gf)×Int):Nat→((List Int)×Int×Int×(List Int)×Int)→Option ((List Int)×Int×Int×(List Int))
 |0,_=>none
 |n+1,c=>
  if 0 < c.2.2.2.2 then((ck (x4.2.2.2.2+1)).bind fun j=>
  (jS k (c.1,c.2.1,c.2.2.1) [1,2,3,kj 9 x4.2.2.2.2,kj 9 j]).bind fun e=>
  (cU (bm (List.length c.2.2.2.1+List.length [e.1]))).bind fun _=>
  (ck (c.2.2.2.2 - 1)).bind fun h=>
  eX k x4 n (e.2.1,e.2.2.1,e.2.2.2,c.2.2.2.1++[e.1],h)) else(some (c.1,c.2.1,c.2.2.1,c.2.2.2.1))
def kD(k:Nat)(a0:bV)(a1:Int)(a2:Int):Option (aP×bV):=
 (fe k (a0.1,a0.2.1,a0.2.2) 1 4).bind fun r2=>
 (((fe k (r2.2.1,r2.2.2.1,r2.2.2.2) 0 a1).bind fun r6=>
 eZ k r2 k (r6.2.1,r6.2.2.1,r6.2.2.2,([]:(List gf)),0,r6.1)):Option ((List Int)×Int×Int×(List gf)×Int)).bind fun x4=>
 (((fe k (x4.1,x4.2.1,x4.2.2.1) 1 a2).bind fun j=>
 eX k x4 k (j.2.1,j.2.2.1,j.2.2.2,([]:(List Int)),j.1)):Option ((List Int)×Int×Int×(List Int))).bind fun e=>
 (((gd k (e.1,e.2.1,e.2.2.1) 2).bind fun c=>
 if c.1=true then((aQ e.2.2.2 0).bind fun l=>
 some (List.set e.2.2.2 (Int.toNat 0) (kj 9 x4.2.2.2.2),c.2.1,c.2.2.1,c.2.2.2)) else(some (e.2.2.2,c.2.1,c.2.2.1,c.2.2.2))):Option ((List Int)×(List Int)×Int×Int)).bind fun h=>
 some ((r2.1,x4.2.2.2.1,h.1),(h.2.1,h.2.2.1,h.2.2.2))
theorem wY(k:Nat)(a0:bV)(c:Nat)(a1:Int)(a2:Int)(r:aP×bV)(h:kD k a0 a1 a2=some r):
 bX Tryz.prog 31 [Pt c,I a1,I a2] [.obj c 66 (.agg (.pair (Ri a0.1) (.pair (I a0.2.1) (.eq (.int .u64 a0.2.2)))))] (fun _:Unit=>(bj [.rep ak r.1],[.obj c 66 (.agg (.pair (Ri r.2.1) (.pair (I r.2.2.1) (.eq (.int .u64 r.2.2.2)))))])):=by
 unfold kD at h
 replace h:=a9 h
 refine bX.of 79 Tryz.func31 rfl Tryz.ntmps31 rfl fun S w0=>?_
 refine sr ?_
 refine aD rfl rfl rfl (aY rfl lz nU) trivial fun b1=>?_
 refine nt ?_
 refine sr ?_
 refine mq ?_
 obtain⟨r2,VB,h⟩:=aa h
 have VC:=mr k (a0.1,a0.2.1,a0.2.2) c 1 4 r2 VB
 refine fr 1 ?_
 refine kc (ao [.tmp 13,.const (.int .i64 (1)),.const (.int .i64 (4))] rfl rfl OM rfl VC) ?_
 refine ja (c9 [(0,.tmp 14,_)] rfl KF lz EE (iM ⟨rfl,trivial⟩) rfl) ?_
 refine aD rfl rfl rfl (aY rfl lz nU) trivial fun b3=>?_
 refine a8 rfl rfl (aX rfl c6 trivial rfl rfl) ⟨rfl,rfl,trivial⟩ ?_
 refine nt ?_
 refine sr ?_
 refine cq ?_
 refine nt ?_
 refine aI (Z:=Value) (α:=(List Int)×Int×Int×(List gf)×Int) (fun z5 x4=>[(0,Pt c),(2,I a2),(6,Pt b1),(7,Pt b3),(8,I x4.2.2.2.2)]) (fun z5 x4=>[.obj c 66 (.agg (.pair (Ri x4.1) (.pair (I x4.2.1) (.eq (.int .u64 x4.2.2.1))))),.obj b1 27 (.agg (.pair (I 0) (.pair (.eq (.slice none 0 0)) (.eq (.slice none 0 0))))),.obj b3 27 (.agg (.pair (I r2.1) (.pair (.eq z5) (.eq (.slice none 0 0))))),.sl z5 35 aJ x4.2.2.2.1]) h (fun K h=>?_) (fun z5 x4 h=>?_)
 ·
  refine sr ?_;iterate 2 refine mq ?_
  obtain⟨r6,VA,h⟩:=aa h;refine fr 1 ?_;refine kc (ao [.tmp 16,.const (.int .i64 (0)),.tmp 17] rfl rfl OM rfl (mr k (r2.2.1,r2.2.2.1,r2.2.2.2) c 0 a1 r6 VA)) ?_;refine au ?_;refine aj (dG (SE.nil 35 aJ) ?_);refine aK (fun z8 y7=>[(0,Pt c),(2,I a2),(6,Pt b1),(7,Pt b3),(8,I y7.2.2.2.2.1),(9,I y7.2.2.2.2.2)]) (fun z8 y7=>[.obj c 66 (.agg (.pair (Ri y7.1) (.pair (I y7.2.1) (.eq (.int .u64 y7.2.2.1))))),.obj b1 27 (.agg (.pair (I 0) (.pair (.eq (.slice none 0 0)) (.eq (.slice none 0 0))))),.obj b3 27 (.agg (.pair (I r2.1) (.pair (.eq z8) (.eq (.slice none 0 0))))),.sl z8 35 aJ y7.2.2.2.1]) (eZ k r2) k (.slice none 0 0) (r6.2.1,r6.2.2.1,r6.2.2.2,([]:(List gf)),0,r6.1) (fun _=>rfl) h (SE.fin [1,3,2,0] ⟨rfl,rfl,rfl,rfl,rfl,rfl,trivial⟩ rfl) (fun n z8 y7 h=>?_);unfold eZ at h;refine au ?_;refine jb (jv rfl) ?_;refine nt (ci h (fun h=>?_) (fun h=>?_))
  ·refine sk (aI (Z:=Value) (α:=(List Int)×Int×Int×(List gf)×Int) (fun X x9=>[(0,Pt c),(2,I a2),(6,Pt b1),(7,Pt b3),(8,I x9.2.2.2.2),(9,I y7.2.2.2.2.2)]) (fun X x9=>[.obj c 66 (.agg (.pair (Ri x9.1) (.pair (I x9.2.1) (.eq (.int .u64 x9.2.2.1))))),.obj b1 27 (.agg (.pair (I 0) (.pair (.eq (.slice none 0 0)) (.eq (.slice none 0 0))))),.obj b3 27 (.agg (.pair (I r2.1) (.pair (.eq X) (.eq (.slice none 0 0))))),.sl X 35 aJ x9.2.2.2.1]) h (fun K h=>?_) (fun X x9 h=>?_))
   ·refine aj (au ?_);refine aF rfl (bg (t:=(.int .i64)) [(.const (.int .i64 (1)),_),(.const (.int .i64 (1)),_),(.const (.int .i64 (1)),_),(.const (.int .i64 (2)),_),(.const (.int .i64 (3)),_)] [1,1,1,2,3] rfl rfl dk (.cons rfl .int (.cons rfl .int (.cons rfl .int (.cons rfl .int (.cons rfl .int .nil))))) rfl rfl) ⟨rfl,rfl,rfl,rfl,rfl,trivial⟩ ?_;obtain⟨s,Vk,h⟩:=aa h;refine kb (ao [.tmp 23,.tmp 24] rfl rfl Q8 rfl (pK k (y7.1,y7.2.1,y7.2.2.1) c [1,1,1,2,3] s Vk)) ?_;refine ja (c9 [(0,.tmp 25,_)] rfl CC vg wu (iM ⟨rfl,trivial⟩) rfl) ?_;refine aD rfl rfl rfl (aY rfl vg L2) trivial fun M=>?_;refine a8 rfl rfl (aX rfl jl trivial rfl rfl) ⟨rfl,rfl,trivial⟩ ?_;refine nt (aI (Z:=Value) (α:=(List Int)×Int×Int×(List Int)) (fun ac j=>[(0,Pt c),(2,I a2),(6,Pt b1),(7,Pt b3),(8,I y7.2.2.2.2.1),(9,I y7.2.2.2.2.2),(10,Pt M)]) (fun ac j=>[.obj c 66 (.agg (.pair (Ri j.1) (.pair (I j.2.1) (.eq (.int .u64 j.2.2.1))))),.obj b1 27 (.agg (.pair (I 0) (.pair (.eq (.slice none 0 0)) (.eq (.slice none 0 0))))),.obj b3 27 (.agg (.pair (I r2.1) (.pair (.eq z8) (.eq (.slice none 0 0))))),.sl z8 35 aJ y7.2.2.2.1,.obj M 35 (.agg (.pair (I s.1) (.eq ac))),.sl ac 3 (.int .i64) j.2.2.2]) h (fun K h=>?_) (fun ac j h=>?_))
    ·refine au ?_;refine aj (dG (SE.nil 3 (.int .i64)) ?_);refine aK (fun Q e=>[(0,Pt c),(2,I a2),(6,Pt b1),(7,Pt b3),(8,I y7.2.2.2.2.1),(9,I y7.2.2.2.2.2),(10,Pt M),(11,I e.2.2.2.2)]) (fun Q e=>[.obj c 66 (.agg (.pair (Ri e.1) (.pair (I e.2.1) (.eq (.int .u64 e.2.2.1))))),.obj b1 27 (.agg (.pair (I 0) (.pair (.eq (.slice none 0 0)) (.eq (.slice none 0 0))))),.obj b3 27 (.agg (.pair (I r2.1) (.pair (.eq z8) (.eq (.slice none 0 0))))),.sl z8 35 aJ y7.2.2.2.1,.obj M 35 (.agg (.pair (I s.1) (.eq Q))),.sl Q 3 (.int .i64) e.2.2.2.1]) (eY k r2) k (.slice none 0 0) (s.2.1,s.2.2.1,s.2.2.2,([]:(List Int)),0) (fun _=>rfl) h (SE.fin [2,3,4,5,1,0] ⟨rfl,rfl,rfl,rfl,rfl,rfl,rfl,rfl,trivial⟩ rfl) (fun n Q e h=>?_);unfold eY at h;refine au ?_;refine fl gI ?_;refine fr 2 ?_;refine lo ct ?_;refine jb (bq rfl) ?_;refine nt (ci h (fun h=>?_) (fun h=>?_))
     ·refine sk (aI (Z:=Value) (α:=(List Int)×Int×Int×(List Int)) (fun U x=>[(0,Pt c),(2,I a2),(6,Pt b1),(7,Pt b3),(8,I y7.2.2.2.2.1),(9,I y7.2.2.2.2.2),(10,Pt M),(11,I e.2.2.2.2)]) (fun U x=>[.obj c 66 (.agg (.pair (Ri x.1) (.pair (I x.2.1) (.eq (.int .u64 x.2.2.1))))),.obj b1 27 (.agg (.pair (I 0) (.pair (.eq (.slice none 0 0)) (.eq (.slice none 0 0))))),.obj b3 27 (.agg (.pair (I r2.1) (.pair (.eq z8) (.eq (.slice none 0 0))))),.sl z8 35 aJ y7.2.2.2.1,.obj M 35 (.agg (.pair (I s.1) (.eq U))),.sl U 3 (.int .i64) x.2.2.2]) h (fun K h=>?_) (fun U x h=>?_))
      ·refine aj (sr (mq ?_));obtain⟨J,Vj,h⟩:=aa h;refine fr 1 ?_;refine kb (ao [.tmp 33,.const (.int .i64 (2))] rfl rfl Q7 rfl (nO k (e.1,e.2.1,e.2.2.1) c 2 J Vj)) ?_;refine nt (cv h (fun h=>?_) (fun h=>?_))
       ·refine ab (fl kH ?_);refine fr 4 ?_;refine lo bZ ?_;refine mq ?_;refine ja (bg (t:=(.int .i64)) [(.tmp 37,_)] [e.2.2.2.2] rfl rfl dk (.cons rfl .int .nil) rfl rfl) ?_;obtain⟨VQ,Vf,h⟩:=aa h;refine fr 5 ?_;refine cz rfl rfl rfl (bf rfl rfl dk (aA Vf)) ⟨rfl,rfl,trivial⟩ fun Vq=>?_;refine fl kH ?_;refine qf fun o22=>?_;refine fr 1 ?_;refine a8 rfl rfl (aX rfl bZ o22 rfl rfl) ⟨rfl,rfl,trivial⟩ ?_;refine au ?_;exact jz (Vq,(J.2.1,J.2.2.1,J.2.2.2,e.2.2.2.1++[e.2.2.2.2])) h [2,4,3,5,0,1]
       ·refine au ?_;exact jz (Q,(J.2.1,J.2.2.1,J.2.2.2,e.2.2.2.1)) h [0,2,1,3,4,5]
      ·refine ab (mq ?_);obtain⟨Vo,Vb,h⟩:=aa h;refine jb (be rfl Vb) ?_;refine au ?_;exact jz (U,(x.1,x.2.1,x.2.2.1,x.2.2.2,Vo)) h [0,1,2,3,4,5]
     ·refine au ?_;exact jz (Q,(e.1,e.2.1,e.2.2.1,e.2.2.2.1)) h [1,2,0,3,4,5]
    ·refine eJ 4 rfl ?_;refine eJ 5 rfl ?_;refine dG (jL (off:=1) [] trivial rfl rfl) ?_;refine mD ?_;refine aR rfl rfl rfl (av rfl cd) ⟨rfl,trivial⟩ ?_;refine dt 3 rfl rfl rfl rfl (ai rfl fQ jw rfl) ⟨rfl,trivial⟩ ?_;refine dt 0 rfl rfl rfl rfl (ai rfl jl (uA) rfl) ⟨rfl,trivial⟩ ?_;refine aR rfl rfl rfl (bg (t:=aJ) [(.tmp 43,_)] [(s.1,j.2.2.2)] rfl rfl BY (.cons trivial (.agg (.pair .int .rep)) .nil) rfl rfl) ⟨rfl,trivial⟩ ?_;obtain⟨VP,Ve,h⟩:=aa h;refine wI 4 rfl (fun v=>[.sl v 35 aJ (y7.2.2.2.1++[(s.1,j.2.2.2)])]) (fun _=>rfl) rfl rfl rfl (bf rfl rfl BY (aA Ve)) ⟨rfl,rfl,trivial⟩ ?_;refine aR rfl rfl rfl (aL rfl) ⟨rfl,trivial⟩ ?_;refine aR rfl rfl rfl (av rfl kJ) ⟨rfl,trivial⟩ ?_;refine dt 0 rfl rfl rfl rfl (ai rfl ct jw rfl) ⟨rfl,trivial⟩ ?_;obtain⟨Vn,Va,h⟩:=aa h;refine aR rfl rfl rfl (be rfl Va) ⟨rfl,rfl,trivial⟩ ?_;refine aR rfl rfl rfl (av rfl cd) ⟨rfl,trivial⟩ ?_;refine oN 10 [true,true,true,true,true,false,false,false,false,true] [] [0] [.obj M 35 (.agg (.pair (I s.1) (Ri j.2.2.2)))] rfl (by kernel_rfl) (by kernel_rfl) (by kernel_rfl) cH (fun vs hv hB=>?_);obtain⟨w0,VN,rfl,Vz⟩:=ap hv;obtain⟨w1,VM,rfl,Vy⟩:=ap Vz;obtain⟨w2,VL,rfl,Vx⟩:=ap Vy;obtain⟨w3,VK,rfl,Vw⟩:=ap Vx;obtain⟨se,VJ,rfl,Vv⟩:=ap Vw;obtain⟨w5,VI,rfl,Vu⟩:=ap Vv;obtain⟨w6,VH,rfl,Vt⟩:=ap Vu;obtain⟨w7,VG,rfl,Vs⟩:=ap Vt;obtain⟨w8,VF,rfl,Vr⟩:=ap Vs;obtain⟨w9,VD,rfl,U4⟩:=ap Vr;obtain rfl:=lE U4;refine⟨[0,1,2,3,4],[.obj c 66 (.agg (.pair (Ri j.1) (.pair (I j.2.1) (.eq (.int .u64 j.2.2.1))))),.obj b1 27 (.agg (.pair (I 0) (.pair (.eq (.slice none 0 0)) (.eq (.slice none 0 0))))),.obj b3 27 (.agg (.pair (I r2.1) (.pair (.eq z8) (.eq (.slice none 0 0))))),.sl se 35 aJ (y7.2.2.2.1++[(s.1,j.2.2.2)])],by kernel_rfl,by decide,?_⟩;refine jA 3 rfl ?_;refine Dz fun o27=>?_;refine jA 3 rfl ?_;refine rR rfl rfl (aX rfl fQ o27 rfl rfl) ⟨rfl,rfl,trivial⟩ (by kernel_rfl) ?_;refine DC (by kernel_rfl) ?_;refine au ?_;exact jz (se,(j.1,j.2.1,j.2.2.1,y7.2.2.2.1++[(s.1,j.2.2.2)],Vn)) h [3,4,1,2]
   ·refine ab (mq ?_);obtain⟨Vm,U8,h⟩:=aa h;refine jb (fu rfl U8) ?_;refine au ?_;exact jz (X,(x9.1,x9.2.1,x9.2.2.1,x9.2.2.2.1,x9.2.2.2.2,Vm)) h [0,1,2,3]
  ·refine au ?_;exact jz (z8,(y7.1,y7.2.1,y7.2.2.1,y7.2.2.2.1,y7.2.2.2.2.1)) h [0,1,2,3]
 ·
  refine aI (Z:=Value) (α:=(List Int)×Int×Int×(List Int)) (fun O u=>[(0,Pt c),(6,Pt b1),(7,Pt b3),(8,I x4.2.2.2.2)]) (fun O u=>[.obj c 66 (.agg (.pair (Ri u.1) (.pair (I u.2.1) (.eq (.int .u64 u.2.2.1))))),.obj b1 27 (.agg (.pair (I 0) (.pair (.eq (.slice none 0 0)) (.eq (.slice none 0 0))))),.obj b3 27 (.agg (.pair (I r2.1) (.pair (.eq z5) (.eq O)))),.sl z5 35 aJ x4.2.2.2.1,.sl O 3 (.int .i64) u.2.2.2]) h (fun K h=>?_) (fun O u h=>?_)
  ·refine au ?_;obtain⟨Y,Vi,h⟩:=aa h;refine kc (ao [.tmp 51,.const (.int .i64 (1)),.tmp 52] rfl rfl OM rfl (mr k (x4.1,x4.2.1,x4.2.2.1) c 1 a2 Y Vi)) ?_;refine au ?_;refine aj (dG (SE.nil 3 (.int .i64)) ?_);refine aK (fun E l=>[(0,Pt c),(6,Pt b1),(7,Pt b3),(8,I x4.2.2.2.2),(12,I l.2.2.2.2)]) (fun E l=>[.obj c 66 (.agg (.pair (Ri l.1) (.pair (I l.2.1) (.eq (.int .u64 l.2.2.1))))),.obj b1 27 (.agg (.pair (I 0) (.pair (.eq (.slice none 0 0)) (.eq (.slice none 0 0))))),.obj b3 27 (.agg (.pair (I r2.1) (.pair (.eq z5) (.eq E)))),.sl z5 35 aJ x4.2.2.2.1,.sl E 3 (.int .i64) l.2.2.2.1]) (eX k x4) k (.slice none 0 0) (Y.2.1,Y.2.2.1,Y.2.2.2,([]:(List Int)),Y.1) (fun _=>rfl) h (SE.fin [1,2,3,4,0] ⟨rfl,rfl,rfl,rfl,rfl,trivial⟩ rfl) (fun n E l h=>?_);unfold eX at h;refine au ?_;refine jb (jv rfl) ?_;refine nt (ci h (fun h=>?_) (fun h=>?_))
   ·refine au ?_;refine aj (bJ ?_);refine da (av rfl cM) ?_;refine ea 2 (ai rfl bZ jw rfl) ?_;refine dm ?_;refine dm ?_;refine db (Eb rfl rfl) ?_;refine dm ?_;obtain⟨qt,U7,h⟩:=aa h;refine db (be rfl U7) ?_;refine db (Eb rfl rfl) ?_;refine du rfl rfl rfl (bg (t:=(.int .i64)) [(.const (.int .i64 (1)),_),(.const (.int .i64 (2)),_),(.const (.int .i64 (3)),_),(.tmp 62,_),(.tmp 65,_)] [1,2,3,kj 9 x4.2.2.2.2,kj 9 qt] rfl rfl dk (.cons rfl .int (.cons rfl .int (.cons rfl .int (.cons rfl .int (.cons rfl .int .nil))))) rfl rfl) ⟨rfl,rfl,rfl,rfl,rfl,trivial⟩ ?_;obtain⟨D,Vh,h⟩:=aa h;refine MM 0 rfl rfl rfl rfl (ao [.tmp 60,.tmp 66] rfl rfl Q8 rfl (pK k (l.1,l.2.1,l.2.2.1) c [1,2,3,kj 9 x4.2.2.2.2,kj 9 qt] D Vh)) ⟨rfl,rfl,trivial⟩ ?_;refine da (bg (t:=(.int .i64)) [(.tmp 67,_)] [D.1] rfl rfl dk (.cons rfl .int .nil) rfl rfl) ?_;refine MO (Δ':=[.obj b1 27 (.agg (.pair (I 0) (.pair (.eq (.slice none 0 0)) (.eq (.slice none 0 0))))),.obj b3 27 (.agg (.pair (I r2.1) (.pair (.eq z5) (.eq E)))),.sl z5 35 aJ x4.2.2.2.1,.sl E 3 (.int .i64) l.2.2.2.1,.obj c 66 (.agg (.pair (Ri D.2.1) (.pair (I D.2.2.1) (.eq (.int .u64 D.2.2.2)))))]) (by kernel_rfl) cH (by kernel_rfl) ?_;obtain⟨VO,Vd,h⟩:=aa h;refine fr 3 ?_;refine cz rfl rfl rfl (bf rfl rfl dk (aA Vd)) ⟨rfl,rfl,trivial⟩ fun Vp=>?_;refine fl cM ?_;refine qf fun o38=>?_;refine fr 2 ?_;refine a8 rfl rfl (aX rfl bZ o38 rfl rfl) ⟨rfl,rfl,trivial⟩ ?_;refine au ?_;refine ab (mq ?_);obtain⟨Vl,U6,h⟩:=aa h;refine jb (fu rfl U6) ?_;refine au ?_;exact jz (Vp,(D.2.1,D.2.2.1,D.2.2.2,l.2.2.2.1++[D.1],Vl)) h [4,2,0,3,1]
   ·refine au ?_;exact jz (E,(l.1,l.2.1,l.2.2.1,l.2.2.2.1)) h [0,1,2,3,4]
  ·refine aI (Z:=Unit) (α:=(List Int)×(List Int)×Int×Int) (fun pp y=>[(6,Pt b1),(7,Pt b3)]) (fun pp y=>[.obj b1 27 (.agg (.pair (I 0) (.pair (.eq (.slice none 0 0)) (.eq (.slice none 0 0))))),.obj b3 27 (.agg (.pair (I r2.1) (.pair (.eq z5) (.eq O)))),.sl z5 35 aJ x4.2.2.2.1,.sl O 3 (.int .i64) y.1,.obj c 66 (.agg (.pair (Ri y.2.1) (.pair (I y.2.2.1) (.eq (.int .u64 y.2.2.2)))))]) h (fun K h=>?_) (fun pp y h=>?_)
   ·refine au ?_;obtain⟨F,Vg,h⟩:=aa h;refine kb (ao [.tmp 71,.const (.int .i64 (2))] rfl rfl Q7 rfl (nO k (u.1,u.2.1,u.2.2.1) c 2 F Vg)) ?_;refine nt (cv h (fun h=>?_) (fun h=>?_))
    ·refine ab (fl cM ?_);refine fr 2 ?_;refine lo bZ ?_;refine mq ?_;refine jb (Eb rfl rfl) ?_;obtain⟨VE,mc,h⟩:=aa h;refine fr 4 ?_;refine kb (aU (t:=(.int .i64)) rfl dP ct mc) ?_;refine a8 rfl rfl (cG (i:=Int.toNat 0) rfl ct rfl (gj mc) rfl .int rfl) ⟨rfl,rfl,trivial⟩ ?_;refine au ?_;exact jz ((),(List.set u.2.2.2 (Int.toNat 0) (kj 9 x4.2.2.2.2),F.2.1,F.2.2.1,F.2.2.2)) h [3,1,4,0,2]
    ·refine au ?_;exact jz ((),(u.2.2.2,F.2.1,F.2.2.1,F.2.2.2)) h [1,2,3,4,0]
   ·refine sr (fr 1 ?_);refine fr 2 ?_;refine cp (jL (off:=1) [] trivial rfl rfl) ?_;refine fr 2 ?_;refine cp (jL (off:=2) [] trivial rfl rfl) ?_;refine lo c6 ?_;refine fr 1 ?_;refine a8 rfl rfl (aX rfl c6 trivial rfl rfl) ⟨rfl,rfl,trivial⟩ ?_;refine nt (bI (bu (qL (a:=.agg (.pair (I r2.1) (.pair (Rs aJ x4.2.2.2.1) (Ri y.1)))) (a':=.rep ak (r2.1,x4.2.2.2.1,y.1)) (zq (.agg (.pair .int (.pair .rep .rep))))) ?_));refine bu (SE.fin (Γ':=[(6,_)]) [2,0,1] ⟨rfl,trivial⟩ rfl) ?_;cases h;exact aN () [.rep ak (r2.1,x4.2.2.2.1,y.1)] 1 ⟨⟨_,_,_,_,_,rfl,(.tail _ (.head _)),c6,(uA),rfl⟩,trivial⟩ rfl
def pJ(k:Nat)(a0:Int)(a1:Int):Option Int:=
 (cU (a1≠0)).bind fun _=>
 (ck ((Int.tmod a0 a1)+a1)).bind fun x2=>
 (cU (a1≠0)).bind fun _=>
 some (Int.tmod x2 a1)
theorem AO(k:Nat)(a0:Int)(a1:Int)(r:Int)(h:pJ k a0 a1=some r):
 bX Tryz.prog 52 [I a0,I a1] [] (fun _:Unit=>(bj [I r],[])):=by
 unfold pJ at h
 replace h:=a9 h
 refine bX.of 12 Tryz.func52 rfl Tryz.ntmps52 rfl fun S w0=>?_
 refine au ?_
 obtain⟨u1,j,h⟩:=aa h
 refine jb (HI rfl (aA j)) ?_
 refine mq ?_
 obtain⟨x2,c,h⟩:=aa h
 refine jb (be rfl c) ?_
 refine mq ?_
 obtain⟨u3,e,h⟩:=aa h
 refine jb (HI rfl (aA e)) ?_
 refine au ?_
 cases h
 exact ra
def eA(k:Nat)(a1:Int):Nat→((List Int)×Int×Int×(List Int)×Int)→Option ((List Int)×(List Int)×Int×Int)
 |0,_=>none
 |n+1,y3=>
  if y3.2.2.2.2 < a1 then((dW k (y3.1,y3.2.1,y3.2.2.1) y3.2.2.2.2).bind fun r5=>
  (cU (bm (List.length y3.2.2.2.1+List.length [y3.2.2.2.2]))).bind fun _=>
  (aQ (y3.2.2.2.1++[y3.2.2.2.2]) r5.1).bind fun x8=>
  (aQ (y3.2.2.2.1++[y3.2.2.2.2]) y3.2.2.2.2).bind fun x9=>
  (aQ (List.set (y3.2.2.2.1++[y3.2.2.2.2]) (Int.toNat y3.2.2.2.2) x8) r5.1).bind fun e=>
  (ck (y3.2.2.2.2+1)).bind fun c=>
  eA k a1 n (r5.2.1,r5.2.2.1,r5.2.2.2,List.set (List.set (y3.2.2.2.1++[y3.2.2.2.2]) (Int.toNat y3.2.2.2.2) x8) (Int.toNat r5.1) y3.2.2.2.2,c)) else(some (y3.2.2.2.1,y3.1,y3.2.1,y3.2.2.1))
def gG(k:Nat)(a0:bV)(a1:Int):Option ((List Int)×bV):=
 ((eA k a1 k (a0.1,a0.2.1,a0.2.2,([]:(List Int)),0)):Option ((List Int)×(List Int)×Int×Int)).bind fun x1=>
 some (x1.1,(x1.2.1,x1.2.2.1,x1.2.2.2))
theorem sN(k:Nat)(a0:bV)(c:Nat)(a1:Int)(r:(List Int)×bV)(h:gG k a0 a1=some r):
 bX Tryz.prog 67 [Pt c,I a1] [.obj c 66 (.agg (.pair (Ri a0.1) (.pair (I a0.2.1) (.eq (.int .u64 a0.2.2)))))] (fun _:Unit=>(bj [Ri r.1],[.obj c 66 (.agg (.pair (Ri r.2.1) (.pair (I r.2.2.1) (.eq (.int .u64 r.2.2.2)))))])):=by
 unfold gG at h
 replace h:=a9 h
 refine bX.of 32 Tryz.func67 rfl Tryz.ntmps67 rfl fun S w0=>?_
 refine sr ?_
 refine cq ?_
 refine nt ?_
 refine sr ?_
 refine cq ?_
 refine nt ?_
 refine aI (Z:=Value) (α:=(List Int)×(List Int)×Int×Int) (fun z2 x1=>[(5,.eq z2)]) (fun z2 x1=>[.sl z2 3 (.int .i64) x1.1,.obj c 66 (.agg (.pair (Ri x1.2.1) (.pair (I x1.2.2.1) (.eq (.int .u64 x1.2.2.2)))))]) h (fun K h=>?_) (fun z2 x1 h=>?_)
 ·
  refine au ?_;refine aj (dG (SE.nil 3 (.int .i64)) ?_);refine aK (fun z4 y3=>[(0,Pt c),(1,I a1),(5,.eq z4),(6,I y3.2.2.2.2)]) (fun z4 y3=>[.obj c 66 (.agg (.pair (Ri y3.1) (.pair (I y3.2.1) (.eq (.int .u64 y3.2.2.1))))),.sl z4 3 (.int .i64) y3.2.2.2.1]) (eA k a1) k (.slice none 0 0) (a0.1,a0.2.1,a0.2.2,([]:(List Int)),0) (fun _=>rfl) h (SE.fin [1,0] ⟨rfl,rfl,rfl,rfl,trivial⟩ rfl) (fun n z4 y3 h=>?_);unfold eA at h;refine au ?_;refine jb (bq rfl) ?_;refine nt (ci h (fun h=>?_) (fun h=>?_))
  ·refine au ?_;refine aj (au ?_);obtain⟨r5,y,h⟩:=aa h;refine kb (ao [.tmp 13,.tmp 14] rfl rfl I7 rfl (gC k (y3.1,y3.2.1,y3.2.2.1) c y3.2.2.2.2 r5 y)) ?_;refine au ?_;refine ja (bg (t:=(.int .i64)) [(.tmp 17,_)] [y3.2.2.2.2] rfl rfl dk (.cons rfl .int .nil) rfl rfl) ?_;obtain⟨u6,x,h⟩:=aa h;refine fr 1 ?_;refine cz rfl rfl rfl (bf rfl rfl dk (aA x)) ⟨rfl,rfl,trivial⟩ fun v7=>?_;refine au ?_;refine ab (au ?_);obtain⟨x8,l,h⟩:=aa h;refine kb (aU (t:=(.int .i64)) rfl dP ct l) ?_;refine ka (dQ (i:=Int.toNat r5.1) (off:=0) rfl ct (fun _=>rfl) rfl (cy l).2.2 rfl) ?_;refine mq ?_;obtain⟨x9,j,h⟩:=aa h;refine kb (aU (t:=(.int .i64)) rfl dP ct j) ?_;refine a8 rfl rfl (cG (i:=Int.toNat y3.2.2.2.2) rfl ct rfl (gj j) rfl .int rfl) ⟨rfl,rfl,trivial⟩ ?_;obtain⟨D,e,h⟩:=aa h;refine kb (aU (t:=(.int .i64)) rfl dP ct e) ?_;refine a8 rfl rfl (cG (i:=Int.toNat r5.1) rfl ct rfl (gj e) rfl .int rfl) ⟨rfl,rfl,trivial⟩ ?_;refine au ?_;refine ab (mq ?_);obtain⟨u,s,h⟩:=aa h;refine jb (be rfl s) ?_;refine au ?_;exact jz (v7,(r5.2.1,r5.2.2.1,r5.2.2.2,List.set (List.set (y3.2.2.2.1++[y3.2.2.2.2]) (Int.toNat y3.2.2.2.2) x8) (Int.toNat r5.1) y3.2.2.2.2,u)) h [1,0]
  ·refine au ?_;exact jz (z4,(y3.2.2.2.1,y3.1,y3.2.1,y3.2.2.1)) h [1,0]
 ·
  refine sr (mq ?_);refine aq (nt (bI ?_));refine bu (dM [4,5,31] ⟨rfl,rfl,rfl,trivial⟩) ?_;cases h;exact aN () [_] 1 ⟨rfl,trivial⟩ rfl
def dz(k:Nat)(a1:aP)(r7:(List Int)×bV)(c:(List Int)×Int×Int×(List Int)×Int×(List (List Int)))(e:Int×bV):Nat→(Int×(List (List Int)))→Option ((List Int)×Int×Int×(List Int)×(List (List Int)))
 |0,_=>none
 |n+1,h=>
  if h.1 < (c.2.2.2.1.length:Int) then((ck (e.1+h.1)).bind fun O=>
  (pJ k O (c.2.2.2.1.length:Int)).bind fun j=>
  (((aQ c.2.2.2.1 j).bind fun M=>
  (aQ r7.1 c.2.2.2.2.1).bind fun J=>
  (aQ a1.2.1 J).bind fun I=>
  if I.1≤M then(some (true,h.2)) else((ck ((c.2.2.2.1.length:Int) - 1)).bind fun F=>
  some (decide (h.1=F),h.2))):Option (Bool×(List (List Int)))).bind fun l=>
  if l.1=true then((aQ l.2 j).bind fun s=>
  (aQ r7.1 c.2.2.2.2.1).bind fun r=>
  (cU (bm (List.length s+List.length [r]))).bind fun _=>
  (aQ c.2.2.2.1 j).bind fun E=>
  (aQ r7.1 c.2.2.2.2.1).bind fun D=>
  (aQ a1.2.1 D).bind fun y=>
  (ck (E - y.1)).bind fun x=>
  (aQ c.2.2.2.1 j).bind fun Q=>
  some (e.2.1,e.2.2.1,e.2.2.2,List.set c.2.2.2.1 (Int.toNat j) x,List.set l.2 (Int.toNat j) (s++[r]))) else((ck (h.1+1)).bind fun u=>
  dz k a1 r7 c e n (u,l.2))) else(some (e.2.1,e.2.2.1,e.2.2.2,c.2.2.2.1,h.2))
def fj(k:Nat)(a1:aP)(r7:(List Int)×bV):Nat→((List Int)×Int×Int×(List Int)×Int×(List (List Int)))→Option ((List Int)×Int×Int×(List (List Int)))
 |0,_=>none
 |n+1,c=>
  if c.2.2.2.2.1 < (r7.1.length:Int) then((((ck ((c.2.2.2.1.length:Int) - 1)).bind fun j=>
  (dW k (c.1,c.2.1,c.2.2.1) j).bind fun l=>
  dz k a1 r7 c l k (0,c.2.2.2.2.2)):Option ((List Int)×Int×Int×(List Int)×(List (List Int)))).bind fun e=>
  (ck (c.2.2.2.2.1+1)).bind fun h=>
  fj k a1 r7 n (e.1,e.2.1,e.2.2.1,e.2.2.2.1,h,e.2.2.2.2)) else(some (c.1,c.2.1,c.2.2.1,c.2.2.2.2.2))
def fa(k:Nat)(a0:bV)(a1:aP):Option ((List (List Int))×bV):=
 (cU (0≤(a1.2.2.length:Int)∧bm (Int.toNat (a1.2.2.length:Int)))).bind fun _=>
 (cU (bm (List.length ([]:(List Int))+List.length a1.2.2))).bind fun _=>
 (gG k (a0.1,a0.2.1,a0.2.2) (a1.2.1.length:Int)).bind fun r7=>
 ((fj k a1 r7 k (r7.2.1,r7.2.2.1,r7.2.2.2,([]:(List Int))++a1.2.2,0,List.replicate (Int.toNat (a1.2.2.length:Int)) ([]:(List Int)))):Option ((List Int)×Int×Int×(List (List Int)))).bind fun x8=>
 some (x8.2.2.2,(x8.1,x8.2.1,x8.2.2.1))
theorem nN(k:Nat)(a0:bV)(e:Nat)(a1:aP)(r:(List (List Int))×bV)(h:fa k a0 a1=some r):
 bX Tryz.prog 32 [Pt e,.rep ak a1] [.obj e 66 (.agg (.pair (Ri a0.1) (.pair (I a0.2.1) (.eq (.int .u64 a0.2.2)))))] (fun _:Unit=>(bj [.rep (.slice (.slice (.int .i64))) r.1],[.obj e 66 (.agg (.pair (Ri r.2.1) (.pair (I r.2.2.1) (.eq (.int .u64 r.2.2.2)))))])):=by
 unfold fa at h
 replace h:=a9 h
 refine bX.of 100 Tryz.func32 rfl Tryz.ntmps32 rfl fun S w0=>?_
 refine sr ?_
 refine bx fun b1=>?_
 refine au ?_
 refine fl cM ?_
 refine lo bZ ?_
 refine ol dP ?_
 obtain⟨u2,VA,h⟩:=aa h
 refine aD rfl rfl rfl (CO (t:=.val) (d:=.slice none 0 0) rfl mI PI (aA VA).1 (aA VA).2) ⟨rfl,rfl,trivial⟩ fun v3=>?_
 refine cp (Bn (F:=[.obj b1 27 (.rep ak a1),.obj e 66 (.agg (.pair (Ri a0.1) (.pair (I a0.2.1) (.eq (.int .u64 a0.2.2)))))])) ?_
 refine au ?_
 refine aD rfl rfl rfl (ib (t:=(.int .i64)) [] ([]:(List Int)) rfl rfl dk .nil rfl rfl) trivial fun v4=>?_
 refine fl cM ?_
 refine fr 1 ?_
 refine lo bZ ?_
 obtain⟨u5,VS,h⟩:=aa h
 refine fr 1 ?_
 refine cz rfl rfl rfl (bf rfl rfl dk (aA VS)) ⟨rfl,rfl,trivial⟩ fun v6=>?_
 refine au ?_
 refine fl cd ?_
 refine fr 1 ?_
 refine lo fQ ?_
 refine ol nn ?_
 obtain⟨r7,VT,h⟩:=aa h
 have VU:=sN k (a0.1,a0.2.1,a0.2.2) e (a1.2.1.length:Int) r7 VT
 refine fr 2 ?_
 refine kb (ao [.tmp 20,.tmp 23] rfl rfl T9 rfl VU) ?_
 refine aq ?_
 refine nt ?_
 refine aI (Z:=(Value×(Nat→Value))) (α:=(List Int)×Int×Int×(List (List Int))) (fun z9 x8=>[(5,.eq z9.1)]) (fun z9 x8=>[.obj e 66 (.agg (.pair (Ri x8.1) (.pair (I x8.2.1) (.eq (.int .u64 x8.2.2.1)))))]++fD 22 z9 x8.2.2.2) h (fun K h=>?_) (fun z9 x8 h=>?_)
 ·
  refine au ?_;refine aj (aK (Z:=(Value×(Nat→Value))) (α:=(List Int)×Int×Int×(List Int)×Int×(List (List Int))) (fun Q j=>[(0,Pt e),(3,Pt b1),(5,.eq Q.1),(6,.eq v6),(7,Ri r7.1),(8,I j.2.2.2.2.1)]) (fun Q j=>[.obj e 66 (.agg (.pair (Ri j.1) (.pair (I j.2.1) (.eq (.int .u64 j.2.2.1))))),.obj b1 27 (.rep ak a1),.sl v6 3 (.int .i64) j.2.2.2.1]++fD 22 Q j.2.2.2.2.2) (fj k a1 r7) k (v3,fun _=>.slice none 0 0) (r7.2.1,r7.2.2.1,r7.2.2.2,([]:(List Int))++a1.2.2,0,List.replicate (Int.toNat (a1.2.2.length:Int)) ([]:(List Int))) (fun _=>rfl) h (bi [.obj e 66 (.agg (.pair (Ri r7.2.1) (.pair (I r7.2.2.1) (.eq (.int .u64 r7.2.2.2))))),.obj b1 27 (.rep ak a1),.sl v6 3 (.int .i64) (([]:(List Int))++a1.2.2)] (fD 22 (v3,fun _=>.slice none 0 0) (List.replicate (Int.toNat (a1.2.2.length:Int)) ([]:(List Int)))) [0,1,2] ⟨rfl,rfl,rfl,rfl,rfl,rfl,trivial⟩ rfl) (fun n Q j h=>?_));unfold fj at h;refine au ?_;refine ol dP ?_;refine jb (bq rfl) ?_;refine nt (ci h (fun h=>?_) (fun h=>?_))
  ·refine sk (aI (Z:=(Value×(Nat→Value))) (α:=(List Int)×Int×Int×(List Int)×(List (List Int))) (fun X u=>[(0,Pt e),(3,Pt b1),(5,.eq X.1),(6,.eq v6),(7,Ri r7.1),(8,I j.2.2.2.2.1)]) (fun X u=>[.obj e 66 (.agg (.pair (Ri u.1) (.pair (I u.2.1) (.eq (.int .u64 u.2.2.1))))),.obj b1 27 (.rep ak a1),.sl v6 3 (.int .i64) u.2.2.2.1]++fD 22 X u.2.2.2.2) h (fun K h=>?_) (fun X u h=>?_))
   ·refine aj (sr ?_);iterate 2 refine mq ?_
    refine fr 2 ?_;refine ka (dy rfl rfl dP) ?_;obtain⟨VH,Vy,h⟩:=aa h;refine jb (fu rfl Vy) ?_;obtain⟨c,VC,h⟩:=aa h;refine fr 1 ?_;refine kb (ao [.tmp 31,.tmp 34] rfl rfl I7 rfl (gC k (j.1,j.2.1,j.2.2.1) e VH c VC)) ?_;refine au ?_;refine aj (aK (Z:=(Value×(Nat→Value))) (α:=Int×(List (List Int))) (fun E y=>[(0,Pt e),(3,Pt b1),(5,.eq E.1),(6,.eq v6),(7,Ri r7.1),(8,I j.2.2.2.2.1),(9,I c.1),(10,I y.1)]) (fun E y=>[.obj e 66 (.agg (.pair (Ri c.2.1) (.pair (I c.2.2.1) (.eq (.int .u64 c.2.2.2))))),.obj b1 27 (.rep ak a1),.sl v6 3 (.int .i64) j.2.2.2.1]++fD 22 E y.2) (dz k a1 r7 j c) k Q (0,j.2.2.2.2.2) (fun _=>rfl) h (bi [.obj e 66 (.agg (.pair (Ri c.2.1) (.pair (I c.2.2.1) (.eq (.int .u64 c.2.2.2))))),.sl v6 3 (.int .i64) j.2.2.2.1,.obj b1 27 (.rep ak a1)] (fD 22 Q j.2.2.2.2.2) [0,2,1] ⟨rfl,rfl,rfl,rfl,rfl,rfl,rfl,rfl,trivial⟩ rfl) (fun n E y h=>?_));unfold dz at h;refine ar (sr ?_);iterate 2 refine mq ?_
    refine fr 2 ?_;refine ka (dy rfl rfl dP) ?_;refine jb (bq rfl) ?_;refine nt (ci h (fun h=>?_) (fun h=>?_))
    ·refine au ?_;refine aj (au ?_);obtain⟨VG,Vx,h⟩:=aa h;refine jb (be rfl Vx) ?_;refine mq ?_;refine ka (dy rfl rfl dP) ?_;obtain⟨s,VB,h⟩:=aa h;refine jb (ao [.tmp 44,.tmp 46] rfl rfl Ue rfl (AO k VG (j.2.2.2.1.length:Int) s VB)) ?_;refine aq (nt ?_);refine aI (Z:=(Value×(Nat→Value))) (α:=Bool×(List (List Int))) (fun l x=>[(0,Pt e),(3,Pt b1),(5,.eq l.1),(6,.eq v6),(7,Ri r7.1),(8,I j.2.2.2.2.1),(9,I c.1),(10,I y.1),(11,I s),(68,.eq (.bool x.1))]) (fun l x=>[.obj e 66 (.agg (.pair (Ri c.2.1) (.pair (I c.2.2.1) (.eq (.int .u64 c.2.2.2))))),.obj b1 27 (.rep ak a1),.sl v6 3 (.int .i64) j.2.2.2.1]++fD 22 l x.2) h (fun K h=>?_) (fun l x h=>?_)
     ·refine bJ ?_;refine dm ?_;refine dm ?_;obtain⟨Ws,mc,h⟩:=aa h;refine eb 0 (aU (t:=(.int .i64)) rfl dP ct mc) ?_;refine ea 0 (dQ (i:=Int.toNat s) (off:=0) rfl ct (fun _=>rfl) rfl (cy mc).2.2 rfl) ?_;refine da (av rfl cd) ?_;refine ea 2 (ai rfl fQ jw rfl) ?_;refine dm ?_;refine dm ?_;obtain⟨Wq,Vw,h⟩:=aa h;refine db (aH (t:=(.int .i64)) rfl dP ct Vw) ?_;refine da (an (t:=(.int .i64)) rfl ct rfl) ?_;obtain⟨Wp,Vv,h⟩:=aa h;refine db (aH (t:=aJ) rfl nn jl Vv) ?_;refine da (aG 1 false rfl kJ rfl) ?_;refine da (an (t:=(.int .i64)) rfl ct rfl) ?_;refine db (qX rfl) ?_;refine kU rfl rfl rfl (aL rfl) ⟨rfl,trivial⟩ (fun hb=>?_) (fun hb=>?_)
      ·replace h:=cF (nX hb) h;iterate 4 refine dg ?_
       refine df cH ?_;refine au ?_;exact jg (E,(true,y.2)) h (bi [.sl v6 3 (.int .i64) j.2.2.2.1,.obj e 66 (.agg (.pair (Ri c.2.1) (.pair (I c.2.2.1) (.eq (.int .u64 c.2.2.2))))),.obj b1 27 (.rep ak a1)] (fD 22 E y.2) [1,2,0] ⟨rfl,rfl,rfl,rfl,rfl,rfl,rfl,rfl,rfl,rfl,trivial⟩ rfl)
      ·replace h:=bM (nk hb) h;refine aV rfl rfl rfl rfl rfl (aL rfl) ⟨rfl,rfl,trivial⟩ ?_;refine aV rfl rfl rfl rfl rfl (aL rfl) ⟨rfl,rfl,trivial⟩ ?_;refine ko 0 rfl rfl rfl rfl rfl rfl (dy rfl rfl dP) ⟨rfl,rfl,trivial⟩ ?_;obtain⟨VF,Vu,h⟩:=aa h;refine aV rfl rfl rfl rfl rfl (fu rfl Vu) ⟨rfl,rfl,rfl,trivial⟩ ?_;refine df cH ?_;refine gb (dO rfl) ?_;refine au ?_;exact jg (E,(decide (y.1=VF),y.2)) h (bi [.sl v6 3 (.int .i64) j.2.2.2.1,.obj e 66 (.agg (.pair (Ri c.2.1) (.pair (I c.2.2.1) (.eq (.int .u64 c.2.2.2))))),.obj b1 27 (.rep ak a1)] (fD 22 E y.2) [1,2,0] ⟨rfl,rfl,rfl,rfl,rfl,rfl,rfl,rfl,rfl,rfl,trivial⟩ rfl)
     ·refine cv h (fun h=>?_) (fun h=>?_)
      ·refine ar ?_;obtain⟨O,J,h⟩:=aa h;refine dG (ui (pre:=[.obj e 66 (.agg (.pair (Ri c.2.1) (.pair (I c.2.2.1) (.eq (.int .u64 c.2.2.2))))),.obj b1 27 (.rep ak a1),.sl v6 3 (.int .i64) j.2.2.2.1]) (qC J).2) ?_;obtain⟨M,Vt,h⟩:=aa h;obtain⟨WZ,Vz,h⟩:=aa h;obtain⟨Wn,ac,h⟩:=aa h;obtain⟨Wm,Vs,h⟩:=aa h;obtain⟨Wj,Vr,h⟩:=aa h;obtain⟨U,Vq,h⟩:=aa h;obtain⟨Wi,Y,h⟩:=aa h;refine ti (Δ:=[.sl (l.2 (Int.toNat s)) 3 (.int .i64) O,.sl l.1 22 .val (d6 l.2 0 x.2),.obj e 66 (.agg (.pair (Ri c.2.1) (.pair (I c.2.2.1) (.eq (.int .u64 c.2.2.2))))),.obj b1 27 (.rep ak a1),.sl v6 3 (.int .i64) j.2.2.2.1]) (F:=(kS l.2 0 x.2).eraseIdx (Int.toNat s)) (Z:=Value) (fun i=>[(0,Pt e),(3,Pt b1),(5,.eq l.1),(6,.eq v6),(7,Ri r7.1),(8,I j.2.2.2.2.1)]) (fun i=>[.sl v6 3 (.int .i64) (List.set j.2.2.2.1 (Int.toNat s) U),.sl l.1 22 .val (List.set (d6 l.2 0 x.2) (Int.toNat s) i),.sl i 3 (.int .i64) (O++[M]),.obj e 66 (.agg (.pair (Ri c.2.1) (.pair (I c.2.2.1) (.eq (.int .u64 c.2.2.2))))),.obj b1 27 (.rep ak a1)]) (fun S w=>?_) (fun D=>?_)
       ·refine mD ?_;refine aR rfl rfl rfl (aL rfl) ⟨rfl,trivial⟩ ?_;refine aR rfl rfl rfl (aL rfl) ⟨rfl,trivial⟩ ?_;refine aR rfl rfl rfl (aL rfl) ⟨rfl,trivial⟩ ?_;refine aR rfl rfl rfl (aL rfl) ⟨rfl,trivial⟩ ?_;refine aR rfl rfl rfl (aL rfl) ⟨rfl,trivial⟩ ?_;refine aR rfl rfl rfl (aL rfl) ⟨rfl,trivial⟩ ?_;refine dt 1 rfl rfl rfl rfl (aU (t:=.val) rfl pY bZ (kN J)) ⟨rfl,rfl,trivial⟩ ?_;refine dt 1 rfl rfl rfl rfl (dQ (i:=Int.toNat s) (off:=0) rfl bZ (fun _=>rfl) rfl (cy (kN J)).2.2 rfl) ⟨rfl,trivial⟩ ?_;refine aR rfl rfl rfl (aL rfl) ⟨rfl,trivial⟩ ?_;refine aR rfl rfl rfl (aL rfl) ⟨rfl,trivial⟩ ?_;refine aR rfl rfl rfl (aH (t:=(.int .i64)) rfl dP ct Vt) ⟨rfl,rfl,trivial⟩ ?_;refine aR rfl rfl rfl (an (t:=(.int .i64)) rfl ct rfl) ⟨rfl,trivial⟩ ?_;refine aR rfl rfl rfl (bg (t:=(.int .i64)) [(.tmp 80,_)] [M] rfl rfl dk (.cons rfl .int .nil) rfl rfl) ⟨rfl,trivial⟩ ?_;refine wI 0 rfl (fun v=>[.sl v 3 (.int .i64) (O++[M])]) (fun _=>rfl) rfl rfl rfl (bf rfl rfl dk (aA Vz)) ⟨rfl,rfl,trivial⟩ ?_;refine aR rfl rfl rfl (aL rfl) ⟨rfl,trivial⟩ ?_;refine aR rfl rfl rfl (aL rfl) ⟨rfl,trivial⟩ ?_;refine dt 4 rfl rfl rfl rfl (aU (t:=(.int .i64)) rfl dP ct ac) ⟨rfl,rfl,trivial⟩ ?_;refine dt 4 rfl rfl rfl rfl (dQ (i:=Int.toNat s) (off:=0) rfl ct (fun _=>rfl) rfl (cy ac).2.2 rfl) ⟨rfl,trivial⟩ ?_;refine aR rfl rfl rfl (av rfl cd) ⟨rfl,trivial⟩ ?_;refine dt 3 rfl rfl rfl rfl (ai rfl fQ jw rfl) ⟨rfl,trivial⟩ ?_;refine aR rfl rfl rfl (aL rfl) ⟨rfl,trivial⟩ ?_;refine aR rfl rfl rfl (aL rfl) ⟨rfl,trivial⟩ ?_;refine aR rfl rfl rfl (aH (t:=(.int .i64)) rfl dP ct Vs) ⟨rfl,rfl,trivial⟩ ?_;refine aR rfl rfl rfl (an (t:=(.int .i64)) rfl ct rfl) ⟨rfl,trivial⟩ ?_;refine aR rfl rfl rfl (aH (t:=aJ) rfl nn jl Vr) ⟨rfl,rfl,trivial⟩ ?_;refine aR rfl rfl rfl (aG 1 false rfl kJ rfl) ⟨rfl,trivial⟩ ?_;refine aR rfl rfl rfl (an (t:=(.int .i64)) rfl ct rfl) ⟨rfl,trivial⟩ ?_;refine aR rfl rfl rfl (fu rfl Vq) ⟨rfl,rfl,trivial⟩ ?_;refine dt 1 rfl rfl rfl rfl (aU (t:=.val) rfl pY bZ (kN J)) ⟨rfl,rfl,trivial⟩ ?_;refine oN 29 [true,true,false,false,true,true,true,true,true,true,true,true,true,true,true,true,true,true,true,true,true,true,true,true,true,true,true,false,true] [98] [] [] rfl (by kernel_rfl) (by kernel_rfl) (by kernel_rfl) cH (fun vs hv hB=>?_);obtain⟨w0,WY,rfl,VQ⟩:=ap hv;obtain⟨w1,WX,rfl,VP⟩:=ap VQ;obtain⟨w2,WW,rfl,VO⟩:=ap VP;obtain⟨w3,WU,rfl,VN⟩:=ap VO;obtain⟨w4,WT,rfl,VM⟩:=ap VN;obtain⟨w5,WS,rfl,VL⟩:=ap VM;obtain⟨w6,WR,rfl,VK⟩:=ap VL;obtain⟨w7,WQ,rfl,VJ⟩:=ap VK;obtain⟨w8,WP,rfl,VI⟩:=ap VJ;obtain⟨w9,Wh,rfl,Vn⟩:=ap VI;obtain⟨WO,Wg,rfl,Vm⟩:=ap Vn;obtain⟨WN,We,rfl,Vl⟩:=ap Vm;obtain⟨WM,Wc,rfl,Vk⟩:=ap Vl;obtain⟨D,Wb,rfl,Vj⟩:=ap Vk;obtain⟨WL,Wa,rfl,Vi⟩:=ap Vj;obtain⟨WJ,V9,rfl,Vh⟩:=ap Vi;obtain⟨WI,V8,rfl,Vg⟩:=ap Vh;obtain⟨WH,V7,rfl,Vf⟩:=ap Vg;obtain⟨WG,V6,rfl,Ve⟩:=ap Vf;obtain⟨WE,V5,rfl,Vd⟩:=ap Ve;obtain⟨WC,V4,rfl,Vb⟩:=ap Vd;obtain⟨WB,V3,rfl,Va⟩:=ap Vb;obtain⟨WA,V2,rfl,U8⟩:=ap Va;obtain⟨Wz,V1,rfl,U7⟩:=ap U8;obtain⟨Wy,V0,rfl,U6⟩:=ap U7;obtain⟨Wx,VZ,rfl,U4⟩:=ap U6;obtain⟨Wv,VY,rfl,se⟩:=ap U4
        obtain⟨Wu,VX,rfl,qt⟩:=ap se;obtain⟨Wt,VV,rfl,pp⟩:=ap qt;obtain rfl:=lE pp;refine⟨[0,1,2,3,4],[.sl l.1 22 .val (d6 l.2 0 x.2),.obj e 66 (.agg (.pair (Ri c.2.1) (.pair (I c.2.2.1) (.eq (.int .u64 c.2.2.2))))),.obj b1 27 (.rep ak a1),.sl v6 3 (.int .i64) j.2.2.2.1,.sl D 3 (.int .i64) (O++[M])],by kernel_rfl,by decide,?_⟩;refine jA 4 rfl ?_;refine Dz fun o34=>?_;refine jA 1 rfl ?_;refine rR rfl rfl (cG (i:=Int.toNat s) rfl bZ rfl (gj (kN J)) rfl (.val o34) o34) ⟨rfl,rfl,trivial⟩ (by kernel_rfl) ?_;refine jA 4 rfl ?_;refine wE rfl rfl rfl rfl (aU (t:=(.int .i64)) rfl dP ct Y) ⟨rfl,rfl,trivial⟩ (by kernel_rfl) ?_;refine rR rfl rfl (cG (i:=Int.toNat s) rfl ct rfl (gj Y) rfl .int rfl) ⟨rfl,rfl,trivial⟩ (by kernel_rfl) ?_;refine uk ?_;refine bu (SE.fin (Γ':=[(0,Pt e),(3,Pt b1),(5,.eq l.1),(6,.eq v6),(7,Ri r7.1),(8,I j.2.2.2.2.1)]) (Δ':=[.sl v6 3 (.int .i64) (List.set j.2.2.2.1 (Int.toNat s) U),.sl l.1 22 .val (List.set (d6 l.2 0 x.2) (Int.toNat s) D),.sl D 3 (.int .i64) (O++[M]),.obj e 66 (.agg (.pair (Ri c.2.1) (.pair (I c.2.2.1) (.eq (.int .u64 c.2.2.2))))),.obj b1 27 (.rep ak a1)]) [0,1,2,3,4] ⟨rfl,rfl,rfl,rfl,rfl,rfl,trivial⟩ rfl) ?_;exact fun a w st=>⟨rfl,(D),(SE.fin (Γ':=[(0,Pt e),(3,Pt b1),(5,.eq l.1),(6,.eq v6),(7,Ri r7.1),(8,I j.2.2.2.2.1)]) (Δ':=[.sl v6 3 (.int .i64) (List.set j.2.2.2.1 (Int.toNat s) U),.sl l.1 22 .val (List.set (d6 l.2 0 x.2) (Int.toNat s) D),.sl D 3 (.int .i64) (O++[M]),.obj e 66 (.agg (.pair (Ri c.2.1) (.pair (I c.2.2.1) (.eq (.int .u64 c.2.2.2))))),.obj b1 27 (.rep ak a1)]) [0,1,2,3,4] ⟨rfl,rfl,rfl,rfl,rfl,rfl,trivial⟩ rfl) a w st⟩
       ·show JN _ _ [(0,Pt e),(3,Pt b1),(5,.eq l.1),(6,.eq v6),(7,Ri r7.1),(8,I j.2.2.2.2.1)] ([.sl v6 3 (.int .i64) (List.set j.2.2.2.1 (Int.toNat s) U),.sl l.1 22 .val (List.set (d6 l.2 0 x.2) (Int.toNat s) D),.sl D 3 (.int .i64) (O++[M]),.obj e 66 (.agg (.pair (Ri c.2.1) (.pair (I c.2.2.1) (.eq (.int .u64 c.2.2.2))))),.obj b1 27 (.rep ak a1)]++(kS l.2 0 x.2).eraseIdx (Int.toNat s));refine bH 1 rfl ?_;refine bH 2 rfl ?_;refine bu (wB (pre:=[.sl v6 3 (.int .i64) (List.set j.2.2.2.1 (Int.toNat s) U),.obj e 66 (.agg (.pair (Ri c.2.1) (.pair (I c.2.2.1) (.eq (.int .u64 c.2.2.2))))),.obj b1 27 (.rep ak a1)]) (z:=l) (i:=Int.toNat s) (qC J).2) ?_;refine au ?_;refine By (eq_false (by decide)) ?_;refine au ?_;exact jg ((l.1,nD l.2 (Int.toNat s) D),(c.2.1,c.2.2.1,c.2.2.2,List.set j.2.2.2.1 (Int.toNat s) U,List.set x.2 (Int.toNat s) (O++[M]))) h (bi [.sl v6 3 (.int .i64) (List.set j.2.2.2.1 (Int.toNat s) U),.obj e 66 (.agg (.pair (Ri c.2.1) (.pair (I c.2.2.1) (.eq (.int .u64 c.2.2.2))))),.obj b1 27 (.rep ak a1)] (fD 22 (l.1,nD l.2 (Int.toNat s) D) (List.set x.2 (Int.toNat s) (O++[M]))) [1,2,0] ⟨rfl,rfl,rfl,rfl,rfl,rfl,trivial⟩ rfl)
      ·refine au ?_;refine ab (mq ?_);obtain⟨VE,Vp,h⟩:=aa h;refine jb (be rfl Vp) ?_;refine au ?_;exact jg (l,(VE,x.2)) h (bi [.obj e 66 (.agg (.pair (Ri c.2.1) (.pair (I c.2.2.1) (.eq (.int .u64 c.2.2.2))))),.obj b1 27 (.rep ak a1),.sl v6 3 (.int .i64) j.2.2.2.1] (fD 22 l x.2) [0,1,2] ⟨rfl,rfl,rfl,rfl,rfl,rfl,rfl,rfl,trivial⟩ rfl)
    ·refine au ?_;exact jg (E,(c.2.1,c.2.2.1,c.2.2.2,j.2.2.2.1,y.2)) h (bi [.sl v6 3 (.int .i64) j.2.2.2.1,.obj e 66 (.agg (.pair (Ri c.2.1) (.pair (I c.2.2.1) (.eq (.int .u64 c.2.2.2))))),.obj b1 27 (.rep ak a1)] (fD 22 E y.2) [1,2,0] ⟨rfl,rfl,rfl,rfl,rfl,rfl,trivial⟩ rfl)
   ·refine ab (mq ?_);obtain⟨VD,Vo,h⟩:=aa h;refine jb (be rfl Vo) ?_;refine au ?_;exact jg (X,(u.1,u.2.1,u.2.2.1,u.2.2.2.1,VD,u.2.2.2.2)) h (bi [.obj e 66 (.agg (.pair (Ri u.1) (.pair (I u.2.1) (.eq (.int .u64 u.2.2.1))))),.obj b1 27 (.rep ak a1),.sl v6 3 (.int .i64) u.2.2.2.1] (fD 22 X u.2.2.2.2) [0,1,2] ⟨rfl,rfl,rfl,rfl,rfl,rfl,trivial⟩ rfl)
  ·refine au ?_;exact jg (Q,(j.1,j.2.1,j.2.2.1,j.2.2.2.2.2)) h (bi [.obj e 66 (.agg (.pair (Ri j.1) (.pair (I j.2.1) (.eq (.int .u64 j.2.2.1))))),.obj b1 27 (.rep ak a1),.sl v6 3 (.int .i64) j.2.2.2.1] (fD 22 Q j.2.2.2.2.2) [0] ⟨rfl,trivial⟩ rfl)
 ·
  refine sr (mq ?_);refine aq (nt (bI ?_));refine bu (Bo (pre:=[.obj e 66 (.agg (.pair (Ri x8.1) (.pair (I x8.2.1) (.eq (.int .u64 x8.2.2.1)))))])) ?_;refine bu (dM [4,5,99] ⟨rfl,rfl,rfl,trivial⟩) ?_;cases h;exact aN () [_] 1 ⟨rfl,trivial⟩ rfl
def iP(k:Nat)(a0:Int)(a1:Int)(a2:Int):Option Bool:=
 ((if a1≤a0 then(some (decide (a0≤a2))) else(some false)):Option (Bool)).bind fun x1=>
 some x1
theorem kR(k:Nat)(a0:Int)(a1:Int)(a2:Int)(r:Bool)(h:iP k a0 a1 a2=some r):
 bX Tryz.prog 87 [I a0,I a1,I a2] [] (fun _:Unit=>(bj [.eq (.bool r)],[])):=by
 unfold iP at h
 replace h:=a9 h
 refine bX.of 15 Tryz.func87 rfl Tryz.ntmps87 rfl fun S w0=>?_
 refine sr ?_
 refine cq ?_
 refine nt ?_
 refine aI (Z:=Unit) (α:=Bool) (fun z2 x1=>[(6,.eq (.bool x1))]) (fun z2 x1=>[]) h (fun K h=>?_) (fun z2 x1 h=>?_)
 ·
  refine ab (au ?_);refine jb (qX rfl) ?_;refine mq ?_;refine cg (s:=10) rfl (fun hb=>?_) (fun hb=>?_)
  ·replace h:=cF (nX hb) h;refine au ?_;refine gb (vP rfl) ?_;refine au ?_;exact jz ((),decide (a0≤a2)) h []
  ·replace h:=bM (nk hb) h;refine au ?_;exact jz ((),false) h []
 ·
  refine bI ?_;cases h;exact ra
def fU(k:Nat)(a0:aP)(e:gf):Nat→Int→Option (Except Int Unit)
 |0,_=>none
 |n+1,c=>
  if c < (e.2.length:Int) then((aQ e.2 c).bind fun x=>
  (ck (a0.1 - 1)).bind fun u=>
  (iP k x 0 u).bind fun y=>
  if¬(y=true) then(some (.error 1)) else(((if 0 < c then((aQ e.2 c).bind fun r=>
  (ck (c - 1)).bind fun l=>
  (aQ e.2 l).bind fun j=>
  some (decide (r≤j))) else(some false)):Option (Bool)).bind fun s=>
  if s=true then(some (.error 5)) else((ck (c+1)).bind fun h=>
  fU k a0 e n h))) else(some (.ok ()))
def fV(k:Nat)(a0:aP):Nat→Int→Option (Except Int Unit)
 |0,_=>none
 |n+1,y5=>
  if y5 < (a0.2.1.length:Int) then(bE (α:=Unit) ((aQ a0.2.1 y5).bind fun x9=>
  (iP k x9.1 1 3).bind fun j=>
  if¬(j=true) then(some (.error 1)) else((aQ a0.2.1 y5).bind fun h=>
  fU k a0 h k 0)) (fun e=>some (.error e)) fun _=>
  (ck (y5+1)).bind fun c=>
  fV k a0 n c) else(some (.ok ()))
def fS(k:Nat)(a0:aP):Nat→Int→Option (Except Int Unit)
 |0,_=>none
 |n+1,c=>
  if c < (a0.2.2.length:Int) then((aQ a0.2.2 c).bind fun h=>
  (iP k h 0 9).bind fun j=>
  if¬(j=true) then(some (.error 1)) else((ck (c+1)).bind fun e=>
  fS k a0 n e)) else(some (.ok ()))
def lO(k:Nat)(a0:aP):Option Int:=
 (iP k a0.1 1 6).bind fun r2=>
 if¬(r2=true) then(some 1) else(if 5 < (a0.2.1.length:Int) then(some 6) else(bE (α:=Unit) (fV k a0 k 0) (some) fun _=>
 if(a0.2.2.length:Int)=0 then(some 7) else(if 3 < (a0.2.2.length:Int) then(some 6) else(bE (α:=Unit) (fS k a0 k 0) (some) fun _=>
 some 0))))
theorem sw(k:Nat)(a0:aP)(r:Int)(h:lO k a0=some r):
 bX Tryz.prog 54 [.rep ak a0] [] (fun _:Unit=>(bj [I r],[])):=by
 unfold lO at h
 replace h:=a9 h
 refine bX.of 87 Tryz.func54 rfl Tryz.ntmps54 rfl fun S w0=>?_
 refine sr ?_
 refine bx fun b1=>?_
 refine au ?_
 refine fl gI ?_
 refine lo ct ?_
 obtain⟨r2,Vj,h⟩:=aa h
 have Vk:=kR k a0.1 1 6 r2 Vj
 refine jc (ao [.tmp 8,.const (.int .i64 (1)),.const (.int .i64 (6))] rfl rfl LG rfl Vk) ?_
 refine ja (eW rfl) ?_
 refine nt ?_
 refine cw h (fun h=>?_) (fun h=>?_)
 ·
  refine au ?_;cases h;exact ra
 ·
  refine au ?_;refine fl cd ?_;refine lo fQ ?_;refine ol nn ?_;refine jb (jv rfl) ?_;refine nt (ci h (fun h=>?_) (fun h=>?_))
  ·refine au ?_;cases h;exact ra
  ·refine sk (eT (Z:=Unit) (α:=Unit) (fun z4 x3=>[(1,Pt b1)]) (fun z4 x3=>[.obj b1 27 (.rep ak a0)]) (fun e=>e=r) h (fun e h=>Option.some.inj h) (fun K hR h=>?_) (fun z4 x3 h=>?_))
   ·refine au ?_;refine aj (aK (fun z6 y5=>[(1,Pt b1),(3,I y5)]) (fun z6 y5=>[.obj b1 27 (.rep ak a0)]) (fV k a0) k () 0 (fun _=>rfl) h (SE.fin [0] ⟨rfl,rfl,trivial⟩ rfl) (fun n z6 y5 h=>?_));unfold fV at h;refine au ?_;refine fl cd ?_;refine lo fQ ?_;refine ol nn ?_;refine jb (bq rfl) ?_;refine nt (ci h (fun h=>?_) (fun h=>?_))
    ·refine sk (eT (Z:=Unit) (α:=Unit) (fun z8 x7=>[(1,Pt b1),(3,I y5)]) (fun z8 x7=>[.obj b1 27 (.rep ak a0)]) (fun e=>e=r) h (fun e h=>hR e h) (fun K hR h=>?_) (fun z8 x7 h=>?_))
     ·refine aj (au ?_);refine fl cd ?_;refine lo fQ ?_;refine mq ?_;obtain⟨x9,Vi,h⟩:=aa h;refine jb (aH (t:=aJ) rfl nn jl Vi) ?_;refine ja (aG 1 false rfl kJ rfl) ?_;refine ja (an (t:=(.int .i64)) rfl ct rfl) ?_;obtain⟨Vh,se,h⟩:=aa h;refine jc (ao [.tmp 27,.const (.int .i64 (1)),.const (.int .i64 (3))] rfl rfl LG rfl (kR k x9.1 1 3 Vh se)) ?_;refine ja (eW rfl) ?_;refine nt (cw h (fun h=>?_) (fun h=>?_))
      ·refine au ?_;obtain rfl:=hR _ h;exact ra
      ·refine au ?_;refine fl cd ?_;refine lo fQ ?_;refine mq ?_;obtain⟨s,mc,h⟩:=aa h;refine jb (aH (t:=aJ) rfl nn jl mc) ?_;refine ja (aG 1 false rfl kH rfl) ?_;refine ja (an (t:=(.slice (.int .i64))) rfl bZ rfl) ?_;refine au ?_;refine aj (aK (fun D c=>[(1,Pt b1),(3,I y5),(4,Ri s.2),(5,I c)]) (fun D c=>[.obj b1 27 (.rep ak a0)]) (fU k a0 s) k () 0 (fun _=>rfl) h (SE.fin [0] ⟨rfl,rfl,rfl,rfl,trivial⟩ rfl) (fun n D c h=>?_));unfold fU at h;refine au ?_;refine ol dP ?_;refine jb (bq rfl) ?_;refine nt (ci h (fun h=>?_) (fun h=>?_))
       ·refine au ?_;refine aj (au ?_);refine bJ ?_;refine dm ?_;refine dm ?_;obtain⟨Ve,ac,h⟩:=aa h;refine db (aH (t:=(.int .i64)) rfl dP ct ac) ?_;refine da (an (t:=(.int .i64)) rfl ct rfl) ?_;refine da (av rfl gI) ?_;refine ea 0 (ai rfl ct jw rfl) ?_;obtain⟨Vd,Y,h⟩:=aa h;refine db (fu rfl Y) ?_;refine df cH ?_;obtain⟨Vg,qt,h⟩:=aa h;refine jc (ao [.tmp 45,.const (.int .i64 (0)),.tmp 48] rfl rfl LG rfl (kR k Ve 0 Vd Vg qt)) ?_;refine ja (eW rfl) ?_;refine nt (cw h (fun h=>?_) (fun h=>?_))
        ·refine au ?_;obtain rfl:=hR _ h;exact ra
        ·refine sk (aI (Z:=Unit) (α:=Bool) (fun y l=>[(1,Pt b1),(3,I y5),(4,Ri s.2),(5,I c),(64,.eq (.bool l))]) (fun y l=>[.obj b1 27 (.rep ak a0)]) h (fun K h=>?_) (fun y l h=>?_))
         ·refine bJ ?_;refine dm ?_;refine db (jv rfl) ?_;refine kU rfl rfl rfl (aL rfl) ⟨rfl,trivial⟩ (fun hb=>?_) (fun hb=>?_)
          ·replace h:=cF (nX hb) h;refine aV rfl rfl rfl rfl rfl (aL rfl) ⟨rfl,rfl,trivial⟩ ?_;refine aV rfl rfl rfl rfl rfl (aL rfl) ⟨rfl,rfl,trivial⟩ ?_;obtain⟨Vb,X,h⟩:=aa h;refine aV rfl rfl rfl rfl rfl (aH (t:=(.int .i64)) rfl dP ct X) ⟨rfl,rfl,rfl,trivial⟩ ?_;refine aV rfl rfl rfl rfl rfl (an (t:=(.int .i64)) rfl ct rfl) ⟨rfl,rfl,trivial⟩ ?_;refine aV rfl rfl rfl rfl rfl (aL rfl) ⟨rfl,rfl,trivial⟩ ?_;refine aV rfl rfl rfl rfl rfl (aL rfl) ⟨rfl,rfl,trivial⟩ ?_;obtain⟨Vl,U,h⟩:=aa h;refine aV rfl rfl rfl rfl rfl (fu rfl U) ⟨rfl,rfl,rfl,trivial⟩ ?_;obtain⟨Va,Q,h⟩:=aa h;refine aV rfl rfl rfl rfl rfl (aH (t:=(.int .i64)) rfl dP ct Q) ⟨rfl,rfl,rfl,trivial⟩ ?_;refine aV rfl rfl rfl rfl rfl (an (t:=(.int .i64)) rfl ct rfl) ⟨rfl,rfl,trivial⟩ ?_;refine df cH ?_;refine gb (vP rfl) ?_;refine au ?_;exact jz ((),decide (Vb≤Va)) h [0]
          ·replace h:=bM (nk hb) h;iterate 9 refine dg ?_
           refine df cH ?_;refine au ?_;exact jz ((),false) h [0]
         ·refine cv h (fun h=>?_) (fun h=>?_)
          ·refine au ?_;obtain rfl:=hR _ h;exact ra
          ·refine au ?_;refine ab (mq ?_);obtain⟨U8,O,h⟩:=aa h;refine jb (be rfl O) ?_;refine au ?_;exact jz ((),U8) h [0]
       ·refine au ?_;exact jz ((),()) h [0]
     ·refine ab (mq ?_);obtain⟨U7,M,h⟩:=aa h;refine jb (be rfl M) ?_;refine au ?_;exact jz ((),U7) h [0]
    ·refine au ?_;exact jz ((),()) h [0]
   ·refine au ?_;refine fl cM ?_;refine lo bZ ?_;refine ol dP ?_;refine jb (dO rfl) ?_;refine nt (ci h (fun h=>?_) (fun h=>?_))
    ·refine au ?_;cases h;exact ra
    ·refine au ?_;refine fl cM ?_;refine lo bZ ?_;refine ol dP ?_;refine jb (jv rfl) ?_;refine nt (ci h (fun h=>?_) (fun h=>?_))
     ·refine au ?_;cases h;exact ra
     ·refine sk (eT (Z:=Unit) (α:=Unit) (fun x E=>[]) (fun x E=>[]) (fun e=>e=r) h (fun e h=>Option.some.inj h) (fun K hR h=>?_) (fun x E h=>?_))
      ·refine au ?_;refine aj (aK (fun u j=>[(1,Pt b1),(6,I j)]) (fun u j=>[.obj b1 27 (.rep ak a0)]) (fS k a0) k () 0 (fun _=>rfl) h (SE.fin [0] ⟨rfl,rfl,trivial⟩ rfl) (fun n u j h=>?_));unfold fS at h;refine au ?_;refine fl cM ?_;refine lo bZ ?_;refine ol dP ?_;refine jb (bq rfl) ?_;refine nt (ci h (fun h=>?_) (fun h=>?_))
       ·refine au ?_;refine aj (sr (fl cM ?_));refine lo bZ ?_;refine mq ?_;obtain⟨U6,J,h⟩:=aa h;refine jb (aH (t:=(.int .i64)) rfl dP ct J) ?_;refine ja (an (t:=(.int .i64)) rfl ct rfl) ?_;obtain⟨Vf,pp,h⟩:=aa h;refine jc (ao [.tmp 84,.const (.int .i64 (0)),.const (.int .i64 (9))] rfl rfl LG rfl (kR k U6 0 9 Vf pp)) ?_;refine ja (eW rfl) ?_;refine nt (cw h (fun h=>?_) (fun h=>?_))
        ·refine au ?_;obtain rfl:=hR _ h;exact ra
        ·refine au ?_;refine ab (mq ?_);obtain⟨U4,F,h⟩:=aa h;refine jb (be rfl F) ?_;refine au ?_;exact jz ((),U4) h [0]
       ·refine au ?_;exact jz ((),()) h []
      ·refine au ?_;cases h;exact ra
def iQ(k:Nat)(a0:(List Int))(a1:Int):Nat→Int→Option (Except Bool Unit)
 |0,_=>none
 |n+1,y3=>
  if y3 < (a0.length:Int) then((aQ a0 y3).bind fun x5=>
  if x5=a1 then(some (.error true)) else((ck (y3+1)).bind fun x6=>
  iQ k a0 a1 n x6)) else(some (.ok ()))
def ow(k:Nat)(a0:(List Int))(a1:Int):Option Bool:=
 bE (α:=Unit) (iQ k a0 a1 k 0) (some) fun _=>
 some false
theorem rC(k:Nat)(a0:(List Int))(a1:Int)(r:Bool)(h:ow k a0 a1=some r):
 bX Tryz.prog 69 [Ri a0,I a1] [] (fun _:Unit=>(bj [.eq (.bool r)],[])):=by
 unfold ow at h
 replace h:=a9 h
 refine bX.of 18 Tryz.func69 rfl Tryz.ntmps69 rfl fun S w0=>?_
 refine sr ?_
 refine cq ?_
 refine nt ?_
 refine eT (Z:=Unit) (α:=Unit) (fun z2 x1=>[]) (fun z2 x1=>[]) (fun e=>e=r) h (fun e h=>Option.some.inj h) (fun K hR h=>?_) (fun z2 x1 h=>?_)
 ·
  refine au ?_;refine aj (aK (fun z4 y3=>[(0,Ri a0),(1,I a1),(5,I y3)]) (fun z4 y3=>[]) (iQ k a0 a1) k () 0 (fun _=>rfl) h (SE.fin [] ⟨rfl,rfl,rfl,trivial⟩ rfl) (fun n z4 y3 h=>?_));unfold iQ at h;refine au ?_;refine ol dP ?_;refine jb (bq rfl) ?_;refine nt (ci h (fun h=>?_) (fun h=>?_))
  ·refine au ?_;refine aj (au ?_);obtain⟨x5,j,h⟩:=aa h;refine jb (aH (t:=(.int .i64)) rfl dP ct j) ?_;refine ja (an (t:=(.int .i64)) rfl ct rfl) ?_;refine mq ?_;refine jb (dO rfl) ?_;refine nt (ci h (fun h=>?_) (fun h=>?_))
   ·refine au ?_;obtain rfl:=hR _ h;exact ra
   ·refine au ?_;refine ab (mq ?_);obtain⟨x6,c,h⟩:=aa h;refine jb (be rfl c) ?_;refine au ?_;exact jz ((),x6) h []
  ·refine au ?_;exact jz ((),()) h []
 ·
  refine au ?_;cases h;exact ra
def eD(k:Nat)(a0:Int)(a1:Int)(a2:Int):Option Bool:=
 ((if a1≤a0 then(some (decide (a0≤a2))) else(some false)):Option (Bool)).bind fun x1=>
 some x1
theorem eU(k:Nat)(a0:Int)(a1:Int)(a2:Int)(r:Bool)(h:eD k a0 a1 a2=some r):
 bX Tryz.prog 43 [I a0,I a1,I a2] [] (fun _:Unit=>(bj [.eq (.bool r)],[])):=by
 unfold eD at h
 replace h:=a9 h
 refine bX.of 15 Tryz.func43 rfl Tryz.ntmps43 rfl fun S w0=>?_
 refine sr ?_
 refine cq ?_
 refine nt ?_
 refine aI (Z:=Unit) (α:=Bool) (fun z2 x1=>[(6,.eq (.bool x1))]) (fun z2 x1=>[]) h (fun K h=>?_) (fun z2 x1 h=>?_)
 ·
  refine ab (au ?_);refine jb (vP rfl) ?_;refine mq ?_;refine cg (s:=10) rfl (fun hb=>?_) (fun hb=>?_)
  ·replace h:=cF (nX hb) h;refine au ?_;refine gb (vP rfl) ?_;refine au ?_;exact jz ((),decide (a0≤a2)) h []
  ·replace h:=bM (nk hb) h;refine au ?_;exact jz ((),false) h []
 ·
  refine bI ?_;cases h;exact ra
def dh(k:Nat)(a0:aP)(a1:gf):Nat→Int→Option (Except Int Unit)
 |0,_=>none
 |n+1,y6=>
  if y6 < (a1.2.length:Int) then((aQ a1.2 y6).bind fun x8=>
  (ck (a0.1 - 1)).bind fun x9=>
  (eD k x8 0 x9).bind fun l=>
  if¬(l=true) then(some (.error 1)) else(((if 0 < y6 then((ck (y6 - 1)).bind fun h=>
  (aQ a1.2 h).bind fun e=>
  some (decide (x8≤e))) else(some false)):Option (Bool)).bind fun j=>
  if j=true then(some (.error 5)) else((ck (y6+1)).bind fun c=>
  dh k a0 a1 n c))) else(some (.ok ()))
def iK(k:Nat)(a0:aP)(a1:gf):Option Int:=
 (eD k a1.1 1 3).bind fun r3=>
 if¬(r3=true) then(some 1) else(bE (α:=Unit) (dh k a0 a1 k 0) (some) fun _=>
 some 0)
theorem sd(k:Nat)(a0:aP)(a1:gf)(r:Int)(h:iK k a0 a1=some r):
 bX Tryz.prog 86 [.rep ak a0,.rep aJ a1] [] (fun _:Unit=>(bj [I r],[])):=by
 unfold iK at h
 replace h:=a9 h
 refine bX.of 38 Tryz.func86 rfl Tryz.ntmps86 rfl fun S w0=>?_
 refine sr ?_
 refine bx fun b1=>?_
 refine bx fun b2=>?_
 refine au ?_
 refine fl kJ ?_
 refine lo ct ?_
 obtain⟨r3,O,h⟩:=aa h
 have Q:=eU k a1.1 1 3 r3 O
 refine jc (ao [.tmp 8,.const (.int .i64 (1)),.const (.int .i64 (3))] rfl rfl AZ rfl Q) ?_
 refine ja (eW rfl) ?_
 refine nt ?_
 refine cw h (fun h=>?_) (fun h=>?_)
 ·
  refine au ?_;cases h;exact ra
 ·
  refine sk (eT (Z:=Unit) (α:=Unit) (fun z5 x4=>[]) (fun z5 x4=>[]) (fun e=>e=r) h (fun e h=>Option.some.inj h) (fun K hR h=>?_) (fun z5 x4 h=>?_))
  ·refine sr (fl kH ?_);refine lo bZ ?_;refine ol dP ?_;refine ff rfl ?_;refine nt (aj (aK (fun z7 y6=>[(2,Pt b1),(3,Pt b2),(12,Ri a1.2),(13,I (a1.2.length:Int)),(14,I y6)]) (fun z7 y6=>[.obj b1 27 (.rep ak a0),.obj b2 35 (.rep aJ a1)]) (dh k a0 a1) k () 0 (fun _=>rfl) h (SE.fin [1,0] ⟨rfl,rfl,rfl,rfl,rfl,trivial⟩ rfl) (fun n z7 y6 h=>?_)));unfold dh at h;refine sr (jb (bq rfl) ?_);refine au ?_;refine ci h (fun h=>?_) (fun h=>?_)
   ·refine au ?_;refine aj (au ?_);obtain⟨x8,M,h⟩:=aa h;refine jb (aH (t:=(.int .i64)) rfl dP ct M) ?_;refine ja (an (t:=(.int .i64)) rfl ct rfl) ?_;refine au ?_;refine fl gI ?_;refine lo ct ?_;obtain⟨x9,J,h⟩:=aa h;refine jb (fu rfl J) ?_;obtain⟨F,y,h⟩:=aa h;refine jc (ao [.tmp 19,.const (.int .i64 (0)),.tmp 22] rfl rfl AZ rfl (eU k x8 0 x9 F y)) ?_;refine ja (eW rfl) ?_;refine nt (cw h (fun h=>?_) (fun h=>?_))
    ·refine au ?_;obtain rfl:=hR _ h;exact ra
    ·refine sk (aI (Z:=Unit) (α:=Bool) (fun j c=>[(2,Pt b1),(3,Pt b2),(12,Ri a1.2),(13,I (a1.2.length:Int)),(14,I y6),(36,.eq (.bool c))]) (fun j c=>[.obj b1 27 (.rep ak a0),.obj b2 35 (.rep aJ a1)]) h (fun K h=>?_) (fun j c h=>?_))
     ·refine ab (mq ?_);refine jb (jv rfl) ?_;refine mq ?_;refine cg (s:=27) rfl (fun hb=>?_) (fun hb=>?_)
      ·replace h:=cF (nX hb) h;refine gm ?_;refine ga (av rfl kH) ?_;refine fr 1 ?_;refine jr rfl rfl rfl rfl rfl rfl (ai rfl bZ jw rfl) ⟨rfl,trivial⟩ ?_;refine gm ?_;obtain⟨U,x,h⟩:=aa h;refine gb (fu rfl x) ?_;obtain⟨E,u,h⟩:=aa h;refine gb (aH (t:=(.int .i64)) rfl dP ct u) ?_;refine ga (an (t:=(.int .i64)) rfl ct rfl) ?_;refine gb (vP rfl) ?_;refine au ?_;exact jz ((),decide (x8≤E)) h [1,0]
      ·replace h:=bM (nk hb) h;refine au ?_;exact jz ((),false) h [0,1]
     ·refine cv h (fun h=>?_) (fun h=>?_)
      ·refine au ?_;obtain rfl:=hR _ h;exact ra
      ·refine au ?_;refine ab ?_;obtain⟨D,l,h⟩:=aa h;refine jb (be rfl l) ?_;refine au ?_;exact jz ((),D) h [0,1]
   ·refine au ?_;exact jz ((),()) h []
  ·refine au ?_;cases h;exact ra
def fO(k:Nat)(a0:aP):Nat→Int→Option (Except Int Unit)
 |0,_=>none
 |n+1,y5=>
  if y5 < (a0.2.1.length:Int) then((aQ a0.2.1 y5).bind fun x7=>
  (iK k a0 x7).bind fun r9=>
  if¬(r9=0) then(some (.error r9)) else((ck (y5+1)).bind fun c=>
  fO k a0 n c)) else(some (.ok ()))
def fN(k:Nat)(a0:aP):Nat→Int→Option (Except Int Unit)
 |0,_=>none
 |n+1,c=>
  if c < (a0.2.2.length:Int) then((aQ a0.2.2 c).bind fun h=>
  (eD k h 0 9).bind fun j=>
  if¬(j=true) then(some (.error 1)) else((ck (c+1)).bind fun e=>
  fN k a0 n e)) else(some (.ok ()))
def lJ(k:Nat)(a0:aP):Option Int:=
 (eD k a0.1 1 6).bind fun r2=>
 if¬(r2=true) then(some 1) else(if 5 < (a0.2.1.length:Int) then(some 6) else(bE (α:=Unit) (fO k a0 k 0) (some) fun _=>
 if(a0.2.2.length:Int) < 1 then(some 7) else(if 3 < (a0.2.2.length:Int) then(some 6) else(bE (α:=Unit) (fN k a0 k 0) (some) fun _=>
 some 0))))
theorem si(k:Nat)(a0:aP)(r:Int)(h:lJ k a0=some r):
 bX Tryz.prog 53 [.rep ak a0] [] (fun _:Unit=>(bj [I r],[])):=by
 unfold lJ at h
 replace h:=a9 h
 refine bX.of 51 Tryz.func53 rfl Tryz.ntmps53 rfl fun S w0=>?_
 refine sr ?_
 refine bx fun b1=>?_
 refine au ?_
 refine fl gI ?_
 refine lo ct ?_
 obtain⟨r2,U,h⟩:=aa h
 have X:=eU k a0.1 1 6 r2 U
 refine jc (ao [.tmp 10,.const (.int .i64 (1)),.const (.int .i64 (6))] rfl rfl AZ rfl X) ?_
 refine ja (eW rfl) ?_
 refine nt ?_
 refine cw h (fun h=>?_) (fun h=>?_)
 ·
  refine au ?_;cases h;exact ra
 ·
  refine au ?_;refine fl cd ?_;refine lo fQ ?_;refine ol nn ?_;refine jb (jv rfl) ?_;refine nt (ci h (fun h=>?_) (fun h=>?_))
  ·refine au ?_;cases h;exact ra
  ·refine sk (eT (Z:=Unit) (α:=Unit) (fun z4 x3=>[(1,Pt b1)]) (fun z4 x3=>[.obj b1 27 (.rep ak a0)]) (fun e=>e=r) h (fun e h=>Option.some.inj h) (fun K hR h=>?_) (fun z4 x3 h=>?_))
   ·refine sr (fl cd ?_);refine lo fQ ?_;refine ol nn ?_;refine ff rfl ?_;refine nt (aj (aK (fun z6 y5=>[(1,Pt b1),(18,Rs aJ a0.2.1),(19,I (a0.2.1.length:Int)),(20,I y5)]) (fun z6 y5=>[.obj b1 27 (.rep ak a0)]) (fO k a0) k () 0 (fun _=>rfl) h (SE.fin [0] ⟨rfl,rfl,rfl,rfl,trivial⟩ rfl) (fun n z6 y5 h=>?_)));unfold fO at h;refine sr (jb (bq rfl) ?_);refine au ?_;refine ci h (fun h=>?_) (fun h=>?_)
    ·refine au ?_;refine aj (sr ?_);obtain⟨x7,O,h⟩:=aa h;refine jb (aH (t:=aJ) rfl nn jl O) ?_;refine ja (an (t:=aJ) rfl jl rfl) ?_;refine aD rfl rfl rfl (aY rfl vg L2) trivial fun b8=>?_;refine a8 rfl rfl (aX rfl jl rfl rfl rfl) ⟨rfl,rfl,trivial⟩ ?_;refine nt (sr (fr 1 ?_));refine lo c6 ?_;refine fr 1 ?_;refine lo jl ?_;obtain⟨r9,Q,h⟩:=aa h;refine jb (ao [.tmp 24,.tmp 25] rfl rfl TR rfl (sd k a0 x7 r9 Q)) ?_;refine au ?_;refine jb (gX rfl) ?_;refine nt (cn h (fun h=>?_) (fun h=>?_))
     ·refine au ?_;obtain rfl:=hR _ h;exact ra
     ·refine au ?_;refine ab ?_;obtain⟨J,y,h⟩:=aa h;refine jb (be rfl y) ?_;refine au ?_;exact jz ((),J) h [1]
    ·refine au ?_;exact jz ((),()) h [0]
   ·refine au ?_;refine fl cM ?_;refine lo bZ ?_;refine ol dP ?_;refine au ?_;refine aj (au ?_);refine jb (bq rfl) ?_;refine au ?_;refine ci h (fun h=>?_) (fun h=>?_)
    ·refine au ?_;cases h;exact ra
    ·refine au ?_;refine jb (jv rfl) ?_;refine au ?_;refine ci h (fun h=>?_) (fun h=>?_)
     ·refine au ?_;cases h;exact ra
     ·refine cR (bS (tn (eT (Z:=Unit) (α:=Unit) (fun l s=>[]) (fun l s=>[]) (fun e=>e=r) h (fun e h=>Option.some.inj h) (fun K hR h=>?_) (fun l s h=>?_))))
      ·refine sr (fl cM ?_);refine lo bZ ?_;refine ol dP ?_;refine ff rfl ?_;refine nt (aj (aK (fun j c=>[(41,Ri a0.2.2),(42,I (a0.2.2.length:Int)),(43,I c)]) (fun j c=>[]) (fN k a0) k () 0 (fun _=>rfl) h (SE.fin [] ⟨rfl,rfl,rfl,trivial⟩ rfl) (fun n j c h=>?_)));unfold fN at h;refine sr (jb (bq rfl) ?_);refine au ?_;refine ci h (fun h=>?_) (fun h=>?_)
       ·refine au ?_;refine aj (sr ?_);obtain⟨F,x,h⟩:=aa h;refine jb (aH (t:=(.int .i64)) rfl dP ct x) ?_;refine ja (an (t:=(.int .i64)) rfl ct rfl) ?_;refine au ?_;obtain⟨M,D,h⟩:=aa h;refine jc (ao [.tmp 47,.const (.int .i64 (0)),.const (.int .i64 (9))] rfl rfl AZ rfl (eU k F 0 9 M D)) ?_;refine ja (eW rfl) ?_;refine nt (cw h (fun h=>?_) (fun h=>?_))
        ·refine au ?_;obtain rfl:=hR _ h;exact ra
        ·refine au ?_;refine ab ?_;obtain⟨E,u,h⟩:=aa h;refine jb (be rfl u) ?_;refine au ?_;exact jz ((),E) h []
       ·refine au ?_;exact jz ((),()) h []
      ·refine au ?_;cases h;exact ra
def dY(k:Nat)(a0:Int)(a1:Int):Option Bool:=
 (cU (0≤a1)).bind fun _=>
 some (decide ((wZ .u8 (iE .u8 a0 a1) 1)=1))
theorem iI(k:Nat)(a0:Int)(a1:Int)(r:Bool)(h:dY k a0 a1=some r):
 bX Tryz.prog 71 [.eq (.int .u8 a0),I a1] [] (fun _:Unit=>(bj [.eq (.bool r)],[])):=by
 unfold dY at h
 replace h:=a9 h
 refine bX.of 10 Tryz.func71 rfl Tryz.ntmps71 rfl fun S w0=>?_
 refine au ?_
 obtain⟨u1,c,h⟩:=aa h
 refine jb (vM rfl (aA c)) ?_
 refine jb (Qe rfl) ?_
 refine jb (dO rfl) ?_
 refine au ?_
 cases h
 exact ra
def gR(k:Nat)(a0:aP)(a1:(List Int)):Nat→(Int×Int)→Option Int
 |0,_=>none
 |n+1,y4=>
  if y4.2 < (a1.length:Int) then((aQ a1 y4.2).bind fun x6=>
  (aQ a0.2.1 x6).bind fun x7=>
  (ck (y4.1+x7.1)).bind fun x8=>
  (ck (y4.2+1)).bind fun x9=>
  gR k a0 a1 n (x8,x9)) else(some y4.1)
def nw(k:Nat)(a0:aP)(a1:(List Int)):Option Int:=
 ((gR k a0 a1 k (0,0)):Option (Int)).bind fun x2=>
 some x2
theorem uo(k:Nat)(a0:aP)(a1:(List Int))(r:Int)(h:nw k a0 a1=some r):
 bX Tryz.prog 91 [.rep ak a0,Ri a1] [] (fun _:Unit=>(bj [I r],[])):=by
 unfold nw at h
 replace h:=a9 h
 refine bX.of 24 Tryz.func91 rfl Tryz.ntmps91 rfl fun S w0=>?_
 refine sr ?_
 refine bx fun b1=>?_
 refine cq ?_
 refine nt ?_
 refine sr ?_
 refine cq ?_
 refine nt ?_
 refine aI (Z:=Unit) (α:=Int) (fun z3 x2=>[(5,I x2)]) (fun z3 x2=>[]) h (fun K h=>?_) (fun z3 x2 h=>?_)
 ·
  refine au ?_;refine ol dP ?_;refine ff rfl ?_;refine nt (aj (aK (fun z5 y4=>[(2,Pt b1),(5,I y4.1),(8,Ri a1),(9,I (a1.length:Int)),(10,I y4.2)]) (fun z5 y4=>[.obj b1 27 (.rep ak a0)]) (gR k a0 a1) k () (0,0) (fun _=>rfl) h (SE.fin [0] ⟨rfl,rfl,rfl,rfl,rfl,trivial⟩ rfl) (fun n z5 y4 h=>?_)));unfold gR at h;refine sr (jb (bq rfl) ?_);refine au ?_;refine ci h (fun h=>?_) (fun h=>?_)
  ·refine au ?_;refine aj (sr ?_);obtain⟨x6,l,h⟩:=aa h;refine jb (aH (t:=(.int .i64)) rfl dP ct l) ?_;refine ja (an (t:=(.int .i64)) rfl ct rfl) ?_;refine au ?_;refine ab (mq ?_);refine fl cd ?_;refine lo fQ ?_;refine mq ?_;obtain⟨x7,j,h⟩:=aa h;refine jb (aH (t:=aJ) rfl nn jl j) ?_;refine ja (aG 1 false rfl kJ rfl) ?_;refine ja (an (t:=(.int .i64)) rfl ct rfl) ?_;obtain⟨x8,e,h⟩:=aa h;refine jb (be rfl e) ?_;refine au ?_;refine ab ?_;obtain⟨x9,c,h⟩:=aa h;refine jb (be rfl c) ?_;refine au ?_;exact jz ((),(x8,x9)) h [0]
  ·refine au ?_;exact jz ((),y4.1) h []
 ·
  refine au ?_;cases h;exact ra
def dT(k:Nat)(a0:Int)(a1:Int):Option Int:=
 (cU (0≤a1)).bind fun _=>
 some (Ei .u8 a0 (na .u8 1 a1))
theorem jD(k:Nat)(a0:Int)(a1:Int)(r:Int)(h:dT k a0 a1=some r):
 bX Tryz.prog 92 [.eq (.int .u8 a0),I a1] [] (fun _:Unit=>(bj [.eq (.int .u8 r)],[])):=by
 unfold dT at h
 replace h:=a9 h
 refine bX.of 9 Tryz.func92 rfl Tryz.ntmps92 rfl fun S w0=>?_
 refine au ?_
 obtain⟨u1,c,h⟩:=aa h
 refine jb (HG rfl (aA c)) ?_
 refine jb (Qc rfl) ?_
 refine au ?_
 cases h
 exact ra
def eM(k:Nat)(a0:aP)(x8:(List Int)):Nat→(Int×Int)→Option (Except Value Int)
 |0,_=>none
 |n+1,c=>
  if c.2 < (x8.length:Int) then((aQ x8 c.2).bind fun e=>
  (ck ((a0.2.1.length:Int) - 1)).bind fun j=>
  (eD k e 0 j).bind fun s=>
  if¬(s=true) then(some (.error (.iface 140 (.agg #[.int .i64 3])))) else((dY k c.1 e).bind fun r=>
  if r=true then(some (.error (.iface 140 (.agg #[.int .i64 4])))) else((dT k c.1 e).bind fun l=>
  (ck (c.2+1)).bind fun h=>
  eM k a0 x8 n (l,h)))) else(some (.ok c.1))
def fM(k:Nat)(a0:aP)(a1:(List (List Int))):Nat→(Int×Int)→Option (Except Value Int)
 |0,_=>none
 |n+1,y4=>
  if y4.2 < (a1.length:Int) then(bE (α:=Int) ((aQ a1 y4.2).bind fun x8=>
  bE (α:=Int) (eM k a0 x8 k (y4.1,0)) (fun e=>some (.error e)) fun x9=>
  (nw k a0 x8).bind fun j=>
  (aQ a0.2.2 y4.2).bind fun h=>
  if h < j then(some (.error (.iface 140 (.agg #[.int .i64 12])))) else(some (.ok x9))) (fun e=>some (.error e)) fun x6=>
  (ck (y4.2+1)).bind fun c=>
  fM k a0 a1 n (x6,c)) else(some (.ok y4.1))
def lI(k:Nat)(a0:aP)(a1:(List (List Int))):Option Value:=
 if(a1.length:Int) < (a0.2.2.length:Int) then(some (.iface 140 (.agg #[.int .i64 7]))) else(if(a0.2.2.length:Int) < (a1.length:Int) then(some (.iface 140 (.agg #[.int .i64 6]))) else(bE (α:=Int) (fM k a0 a1 k (0,0)) (some) fun x2=>
 (cU (0≤(a0.2.1.length:Int))).bind fun _=>
 if¬(x2=(IntKind.u8.wrap ((na .u8 1 (a0.2.1.length:Int)) - 1))) then(some (.iface 140 (.agg #[.int .i64 7]))) else(some (.nilIface))))
theorem rZ(k:Nat)(a0:aP)(a1:(List (List Int)))(r:Value)(h:lI k a0 a1=some r):
 bX Tryz.prog 81 [.rep ak a0,.rep (.slice (.slice (.int .i64))) a1] [] (fun _:Unit=>(bj [.eq r],[])):=by
 unfold lI at h
 replace h:=a9 h
 refine bX.of 80 Tryz.func81 rfl Tryz.ntmps81 rfl fun S w0=>?_
 refine sr ?_
 refine bx fun b1=>?_
 refine au ?_
 refine fl cM ?_
 refine lo bZ ?_
 refine ol dP ?_
 refine au ?_
 refine aj ?_
 refine au ?_
 refine ol pY ?_
 refine mq ?_
 refine jb (bq rfl) ?_
 refine au ?_
 refine ci h (fun h=>?_) (fun h=>?_)
 ·
  refine sr (ja (c9 [(0,.const (.int .i64 (7)),_)] rfl xn vi ug (iM ⟨rfl,trivial⟩) rfl) ?_);refine ja (nK rfl Gs) ?_;refine au ?_;cases h;exact ra
 ·
  refine au ?_;refine ol pY ?_;refine mq ?_;refine jb (jv rfl) ?_;refine au ?_;refine ci h (fun h=>?_) (fun h=>?_)
  ·refine sr (ja (c9 [(0,.const (.int .i64 (6)),_)] rfl xn vi ug (iM ⟨rfl,trivial⟩) rfl) ?_);refine ja (nK rfl Gs) ?_;refine au ?_;cases h;exact ra
  ·refine cR (bS (tn (sr (cq (nt ?_)))));refine eT (Z:=Unit) (α:=Int) (fun z3 x2=>[(2,Pt b1),(6,.eq (.int .u8 x2))]) (fun z3 x2=>[.obj b1 27 (.rep ak a0)]) (fun e=>e=r) h (fun e h=>Option.some.inj h) (fun K hR h=>?_) (fun z3 x2 h=>?_)
   ·refine au ?_;refine ol pY ?_;refine ff rfl ?_;refine nt (aj (aK (fun z5 y4=>[(2,Pt b1),(6,.eq (.int .u8 y4.1)),(28,.rep (.slice (.slice (.int .i64))) a1),(29,I (a1.length:Int)),(30,I y4.2)]) (fun z5 y4=>[.obj b1 27 (.rep ak a0)]) (fM k a0 a1) k () (0,0) (fun _=>rfl) h (SE.fin [0] ⟨rfl,rfl,rfl,rfl,rfl,trivial⟩ rfl) (fun n z5 y4 h=>?_)));unfold fM at h;refine sr (jb (bq rfl) ?_);refine au ?_;refine ci h (fun h=>?_) (fun h=>?_)
    ·refine sk (eT (Z:=Unit) (α:=Int) (fun z7 x6=>[(2,Pt b1),(6,.eq (.int .u8 x6)),(28,.rep (.slice (.slice (.int .i64))) a1),(29,I (a1.length:Int)),(30,I y4.2)]) (fun z7 x6=>[.obj b1 27 (.rep ak a0)]) (fun e=>e=r) h (fun e h=>hR e h) (fun K hR h=>?_) (fun z7 x6 h=>?_))
     ·refine aj (au ?_);obtain⟨x8,se,h⟩:=aa h;refine jb (aH (t:=(.slice (.int .i64))) rfl pY bZ se) ?_;refine ja (an (t:=(.slice (.int .i64))) rfl bZ rfl) ?_;refine aq ?_;refine aq (nt ?_);refine eT (Z:=Unit) (α:=Int) (fun s x9=>[(2,Pt b1),(6,.eq (.int .u8 x9)),(7,I y4.2),(8,Ri x8),(28,.rep (.slice (.slice (.int .i64))) a1),(29,I (a1.length:Int)),(30,I y4.2)]) (fun s x9=>[.obj b1 27 (.rep ak a0)]) (fun e=>e=r) h (fun e h=>hR e h) (fun K hR h=>?_) (fun s x9 h=>?_)
      ·refine au ?_;refine ol dP ?_;refine ff rfl ?_;refine nt (aj (aK (fun l c=>[(2,Pt b1),(6,.eq (.int .u8 c.1)),(7,I y4.2),(8,Ri x8),(28,.rep (.slice (.slice (.int .i64))) a1),(29,I (a1.length:Int)),(30,I y4.2),(35,Ri x8),(36,I (x8.length:Int)),(37,I c.2)]) (fun l c=>[.obj b1 27 (.rep ak a0)]) (eM k a0 x8) k () (y4.1,0) (fun _=>rfl) h (SE.fin [0] ⟨rfl,rfl,rfl,rfl,rfl,rfl,rfl,rfl,rfl,rfl,trivial⟩ rfl) (fun n l c h=>?_)));unfold eM at h;refine sr (jb (bq rfl) ?_);refine au ?_;refine ci h (fun h=>?_) (fun h=>?_)
       ·refine au ?_;refine aj (sr ?_);obtain⟨j,F,h⟩:=aa h;refine jb (aH (t:=(.int .i64)) rfl dP ct F) ?_;refine ja (an (t:=(.int .i64)) rfl ct rfl) ?_;refine au ?_;refine fl cd ?_;refine lo fQ ?_;refine ol nn ?_;obtain⟨ac,E,h⟩:=aa h;refine jb (fu rfl E) ?_;obtain⟨qt,U,h⟩:=aa h;refine jc (ao [.tmp 41,.const (.int .i64 (0)),.tmp 45] rfl rfl AZ rfl (eU k j 0 ac qt U)) ?_;refine ja (eW rfl) ?_;refine nt (cw h (fun h=>?_) (fun h=>?_))
        ·refine sr (ja (c9 [(0,.const (.int .i64 (3)),_)] rfl xn vi ug (iM ⟨rfl,trivial⟩) rfl) ?_);refine ja (nK rfl Gs) ?_;refine au ?_;obtain rfl:=hR _ h;exact ra
        ·refine au ?_;obtain⟨pp,Q,h⟩:=aa h;refine jb (ao [.tmp 50,.tmp 51] rfl rfl LI rfl (iI k c.1 j pp Q)) ?_;refine nt (cv h (fun h=>?_) (fun h=>?_))
         ·refine sr (ja (c9 [(0,.const (.int .i64 (4)),_)] rfl xn vi ug (iM ⟨rfl,trivial⟩) rfl) ?_);refine ja (nK rfl Gs) ?_;refine au ?_;obtain rfl:=hR _ h;exact ra
         ·refine sk (ab (au ?_));obtain⟨u,O,h⟩:=aa h;refine jb (ao [.tmp 55,.tmp 56] rfl rfl LF rfl (jD k c.1 j u O)) ?_;refine au ?_;refine ab ?_;obtain⟨Y,D,h⟩:=aa h;refine jb (be rfl D) ?_;refine au ?_;exact jz ((),(u,Y)) h [0]
       ·refine au ?_;exact jz ((),c.1) h [0]
      ·refine ar (bJ ?_);refine ea 0 (ai rfl c6 (uA) rfl) ?_;refine dm ?_;obtain⟨mc,M,h⟩:=aa h;refine db (ao [.tmp 59,.tmp 60] rfl rfl Q1 rfl (uo k a0 x8 mc M)) ?_;refine da (av rfl cM) ?_;refine ea 0 (ai rfl bZ jw rfl) ?_;refine dm ?_;obtain⟨U4,y,h⟩:=aa h;refine db (aH (t:=(.int .i64)) rfl dP ct y) ?_;refine da (an (t:=(.int .i64)) rfl ct rfl) ?_;refine df cH ?_;refine jb (jv rfl) ?_;refine nt (ci h (fun h=>?_) (fun h=>?_))
       ·refine sr (ja (c9 [(0,.const (.int .i64 (12)),_)] rfl xn vi ug (iM ⟨rfl,trivial⟩) rfl) ?_);refine ja (nK rfl Gs) ?_;refine au ?_;obtain rfl:=hR _ h;exact ra
       ·refine au ?_;exact jz ((),x9) h [0]
     ·refine ab ?_;obtain⟨X,x,h⟩:=aa h;refine jb (be rfl x) ?_;refine au ?_;exact jz ((),(x6,X)) h [0]
    ·refine au ?_;exact jz ((),y4.1) h [0]
   ·refine au ?_;refine fl cd ?_;refine lo fQ ?_;refine ol nn ?_;obtain⟨U6,J,h⟩:=aa h;refine jb (HG rfl (aA J)) ?_;refine jb (HF rfl) ?_;refine jb (gX rfl) ?_;refine nt (cn h (fun h=>?_) (fun h=>?_))
    ·refine sr (ja (c9 [(0,.const (.int .i64 (7)),_)] rfl xn vi ug (iM ⟨rfl,trivial⟩) rfl) ?_);refine ja (nK rfl Gs) ?_;refine au ?_;cases h;exact ra
    ·refine au ?_;cases h;exact ra
def cS(k:Nat)(a0:(List (List Int)))(y5:(List (List Int))×Int):Nat→((List (List Int))×Int)→Option (List (List Int))
 |0,_=>none
 |n+1,y9=>
  if y9.2 < 5 then((((cU (0≤y5.2∧y5.2 < 3)).bind fun _=>
  (aQ y9.1 y5.2).bind fun c=>
  (cU (0≤y9.2∧y9.2 < 5)).bind fun _=>
  ((if y5.2 < (a0.length:Int) then((aQ a0 y5.2).bind fun r=>
  some (decide (y9.2 < (r.length:Int)))) else(some false)):Option (Bool)).bind fun s=>
  if s=true then((aQ a0 y5.2).bind fun l=>
  (aQ l y9.2).bind fun j=>
  (cU (0≤y5.2∧y5.2 < 3)).bind fun _=>
  (aQ (List.set y9.1 (Int.toNat y5.2) (List.set c (Int.toNat y9.2) (-1:Int))) y5.2).bind fun h=>
  (cU (0≤y9.2∧y9.2 < 5)).bind fun _=>
  some (List.set (List.set y9.1 (Int.toNat y5.2) (List.set c (Int.toNat y9.2) (-1:Int))) (Int.toNat y5.2) (List.set h (Int.toNat y9.2) j))) else(some (List.set y9.1 (Int.toNat y5.2) (List.set c (Int.toNat y9.2) (-1:Int))))):Option ((List (List Int)))).bind fun u=>
  (ck (y9.2+1)).bind fun e=>
  cS k a0 y5 n (u,e)) else(some y9.1)
def dj(k:Nat)(a0:(List (List Int))):Nat→((List (List Int))×Int)→Option (List (List Int))
 |0,_=>none
 |n+1,y5=>
  if y5.2 < 3 then(((cS k a0 y5 k (y5.1,0)):Option ((List (List Int)))).bind fun x7=>
  (ck (y5.2+1)).bind fun c=>
  dj k a0 n (x7,c)) else(some y5.1)
def dZ(k:Nat)(a0:(List (List Int))):Option (List (List Int)):=
 ((dj k a0 k ([[0,0,0,0,0],[0,0,0,0,0],[0,0,0,0,0]],0)):Option ((List (List Int)))).bind fun x3=>
 some x3
theorem fq(k:Nat)(a0:(List (List Int)))(r:(List (List Int)))(h:dZ k a0=some r):
 bX Tryz.prog 47 [.rep (.slice (.slice (.int .i64))) a0] [] (fun _:Unit=>(bj [.rep (.arr 3 (.arr 5 (.int .i64))) r],[])):=by
 unfold dZ at h
 replace h:=a9 h
 refine bX.of 43 Tryz.func47 rfl Tryz.ntmps47 rfl fun S w0=>?_
 refine sr ?_
 refine aD rfl rfl rfl (aY rfl rT s8) trivial fun b1=>?_
 refine au ?_
 refine aD rfl rfl rfl (aY rfl rT s8) trivial fun b2=>?_
 refine nt ?_
 refine aI (Z:=Unit) (α:=(List (List Int))) (fun z4 x3=>[(2,Pt b1),(3,Pt b2)]) (fun z4 x3=>[.obj b1 85 (.rep (.arr 3 (.arr 5 (.int .i64))) [[0,0,0,0,0],[0,0,0,0,0],[0,0,0,0,0]]),.obj b2 85 (.rep (.arr 3 (.arr 5 (.int .i64))) x3)]) h (fun K h=>?_) (fun z4 x3 h=>?_)
 ·
  refine sr (ff rfl ?_);refine nt (aj (aK (fun z6 y5=>[(0,.rep (.slice (.slice (.int .i64))) a0),(2,Pt b1),(3,Pt b2),(6,I y5.2)]) (fun z6 y5=>[.obj b1 85 (.rep (.arr 3 (.arr 5 (.int .i64))) [[0,0,0,0,0],[0,0,0,0,0],[0,0,0,0,0]]),.obj b2 85 (.rep (.arr 3 (.arr 5 (.int .i64))) y5.1)]) (dj k a0) k () ([[0,0,0,0,0],[0,0,0,0,0],[0,0,0,0,0]],0) (fun _=>rfl) h (SE.fin [1,0] ⟨rfl,rfl,rfl,rfl,trivial⟩ rfl) (fun n z6 y5 h=>?_)));unfold dj at h;refine sr (jb (bq rfl) ?_);refine au ?_;refine ci h (fun h=>?_) (fun h=>?_)
  ·refine sk (aI (Z:=Unit) (α:=(List (List Int))) (fun z8 x7=>[(0,.rep (.slice (.slice (.int .i64))) a0),(2,Pt b1),(3,Pt b2),(6,I y5.2)]) (fun z8 x7=>[.obj b1 85 (.rep (.arr 3 (.arr 5 (.int .i64))) [[0,0,0,0,0],[0,0,0,0,0],[0,0,0,0,0]]),.obj b2 85 (.rep (.arr 3 (.arr 5 (.int .i64))) x7)]) h (fun K h=>?_) (fun z8 x7 h=>?_))
   ·refine aj (au ?_);refine ff rfl ?_;refine nt (aj (aK (fun J y9=>[(0,.rep (.slice (.slice (.int .i64))) a0),(2,Pt b1),(3,Pt b2),(4,I y5.2),(6,I y5.2),(9,I y9.2)]) (fun J y9=>[.obj b1 85 (.rep (.arr 3 (.arr 5 (.int .i64))) [[0,0,0,0,0],[0,0,0,0,0],[0,0,0,0,0]]),.obj b2 85 (.rep (.arr 3 (.arr 5 (.int .i64))) y9.1)]) (cS k a0 y5) k () (y5.1,0) (fun _=>rfl) h (SE.fin [0,1] ⟨rfl,rfl,rfl,rfl,rfl,rfl,trivial⟩ rfl) (fun n J y9 h=>?_)));unfold cS at h;refine sr (jb (bq rfl) ?_);refine au ?_;refine ci h (fun h=>?_) (fun h=>?_)
    ·refine sk (aI (Z:=Unit) (α:=(List (List Int))) (fun F l=>[(0,.rep (.slice (.slice (.int .i64))) a0),(2,Pt b1),(3,Pt b2),(4,I y5.2),(6,I y5.2),(9,I y9.2)]) (fun F l=>[.obj b1 85 (.rep (.arr 3 (.arr 5 (.int .i64))) [[0,0,0,0,0],[0,0,0,0,0],[0,0,0,0,0]]),.obj b2 85 (.rep (.arr 3 (.arr 5 (.int .i64))) l)]) h (fun K h=>?_) (fun F l h=>?_))
     ·refine aj (au ?_);obtain⟨Vb,x,h⟩:=aa h;refine jb (iV rfl SD He (aA x).1 (aA x).2) ?_;obtain⟨D,ac,h⟩:=aa h;obtain⟨Va,e,h⟩:=aa h;refine jb (iV rfl SG ct (aA e).1 (aA e).2) ?_;refine fr 1 ?_;refine a8 rfl rfl (ox (t:=(.int .i64)) (off:=0) (i:=y5.2) (j:=y9.2) (N:=3) (L:=5) rfl ct .int rfl rfl rfl rfl ac (aA e).1 (aA e).2 rfl) ⟨rfl,rfl,trivial⟩ ?_;refine nt (aI (Z:=Unit) (α:=Bool) (fun E y=>[(0,.rep (.slice (.slice (.int .i64))) a0),(2,Pt b1),(3,Pt b2),(4,I y5.2),(5,I y9.2),(6,I y5.2),(9,I y9.2),(28,.eq (.bool y))]) (fun E y=>[.obj b1 85 (.rep (.arr 3 (.arr 5 (.int .i64))) [[0,0,0,0,0],[0,0,0,0,0],[0,0,0,0,0]]),.obj b2 85 (.rep (.arr 3 (.arr 5 (.int .i64))) (List.set y9.1 (Int.toNat y5.2) (List.set D (Int.toNat y9.2) (-1:Int))))]) h (fun K h=>?_) (fun E y h=>?_))
      ·refine ab (au ?_);refine ol pY ?_;refine jb (bq rfl) ?_;refine mq ?_;refine cg (s:=20) rfl (fun hb=>?_) (fun hb=>?_)
       ·replace h:=cF (nX hb) h;refine au ?_;obtain⟨U4,Y,h⟩:=aa h;refine gb (aH (t:=(.slice (.int .i64))) rfl pY bZ Y) ?_;refine ga (an (t:=(.slice (.int .i64))) rfl bZ rfl) ?_;refine ga (ju rfl rfl dP) ?_;refine gb (bq rfl) ?_;refine au ?_;exact jz ((),decide (y9.2 < (U4.length:Int))) h [1,0]
       ·replace h:=bM (nk hb) h;refine au ?_;exact jz ((),false) h [1,0]
      ·refine cv h (fun h=>?_) (fun h=>?_)
       ·refine bJ ?_;refine dm ?_;refine dm ?_;refine dm ?_;refine dm ?_;obtain⟨U6,X,h⟩:=aa h;refine db (aH (t:=(.slice (.int .i64))) rfl pY bZ X) ?_;refine da (an (t:=(.slice (.int .i64))) rfl bZ rfl) ?_;refine dm ?_;obtain⟨se,U,h⟩:=aa h;refine db (aH (t:=(.int .i64)) rfl dP ct U) ?_;refine da (an (t:=(.int .i64)) rfl ct rfl) ?_;obtain⟨U8,u,h⟩:=aa h;refine db (iV rfl SD He (aA u).1 (aA u).2) ?_;refine df cH ?_;obtain⟨qt,Q,h⟩:=aa h;obtain⟨U7,c,h⟩:=aa h;refine jb (iV rfl SG ct (aA c).1 (aA c).2) ?_;refine fr 1 ?_;refine a8 rfl rfl (ox (t:=(.int .i64)) (off:=0) (i:=y5.2) (j:=y9.2) (N:=3) (L:=5) rfl ct .int rfl rfl rfl rfl Q (aA c).1 (aA c).2 rfl) ⟨rfl,rfl,trivial⟩ ?_;refine au ?_;exact jz ((),List.set (List.set y9.1 (Int.toNat y5.2) (List.set D (Int.toNat y9.2) (-1:Int))) (Int.toNat y5.2) (List.set qt (Int.toNat y9.2) se)) h [1,0]
       ·refine au ?_;exact jz ((),List.set y9.1 (Int.toNat y5.2) (List.set D (Int.toNat y9.2) (-1:Int))) h [0,1]
     ·refine ab ?_;obtain⟨pp,O,h⟩:=aa h;refine jb (be rfl O) ?_;refine au ?_;exact jz ((),(l,pp)) h [0,1]
    ·refine au ?_;exact jz ((),y9.1) h [0,1]
   ·refine ab ?_;obtain⟨mc,M,h⟩:=aa h;refine jb (be rfl M) ?_;refine au ?_;exact jz ((),(x7,mc)) h [0,1]
  ·refine au ?_;exact jz ((),y5.1) h [0,1]
 ·
  refine sr (fr 1 ?_);refine lo fP ?_;refine fr 1 ?_;refine a8 rfl rfl (aX rfl fP rfl rfl rfl) ⟨rfl,rfl,trivial⟩ ?_;refine au ?_;obtain rfl:=Option.some.inj h;exact aN () [.rep (.arr 3 (.arr 5 (.int .i64))) x3] 0 ⟨⟨_,_,_,_,_,rfl,(.head _),fP,(uA),rfl⟩,trivial⟩ rfl
def cX(k:Nat)(x5:(List Int)):Nat→((List Int)×Int)→Option (List Int)
 |0,_=>none
 |n+1,y6=>
  if y6.2 < 5 then((((aQ x5 y6.2).bind fun c=>
  if 0≤c then((cU (bm (List.length y6.1+List.length [c]))).bind fun _=>
  some (y6.1++[c])) else(some y6.1)):Option ((List Int))).bind fun x8=>
  (ck (y6.2+1)).bind fun e=>
  cX k x5 n (x8,e)) else(some y6.1)
def dU(k:Nat)(a0:(List (List Int)))(a1:Int):Option (List Int):=
 (((cU (0≤a1∧a1 < 3)).bind fun _=>
 (aQ a0 a1).bind fun x5=>
 cX k x5 k (([]:(List Int)),0)):Option ((List Int))).bind fun x2=>
 some x2
theorem gr(k:Nat)(a0:(List (List Int)))(a1:Int)(r:(List Int))(h:dU k a0 a1=some r):
 bX Tryz.prog 78 [.rep (.arr 3 (.arr 5 (.int .i64))) a0,I a1] [] (fun _:Unit=>(bj [Ri r],[])):=by
 unfold dU at h
 replace h:=a9 h
 refine bX.of 22 Tryz.func78 rfl Tryz.ntmps78 rfl fun S w0=>?_
 refine sr ?_
 refine bx fun b1=>?_
 refine cq ?_
 refine nt ?_
 refine sr ?_
 refine cq ?_
 refine nt ?_
 refine aI (Z:=Value) (α:=(List Int)) (fun z3 x2=>[(5,.eq z3)]) (fun z3 x2=>[.sl z3 3 (.int .i64) x2]) h (fun K h=>?_) (fun z3 x2 h=>?_)
 ·
  refine au ?_;obtain⟨u4,l,h⟩:=aa h;refine jb (iV rfl SD He (aA l).1 (aA l).2) ?_;obtain⟨x5,y,h⟩:=aa h;refine ka (CP (t:=(.arr 5 (.int .i64))) (off:=0) (i:=a1) (N:=3) rfl He (uA) rfl rfl rfl rfl y) ?_;refine ff rfl ?_;refine nt (aj (dG (SE.nil 3 (.int .i64)) ?_));refine aK (fun z7 y6=>[(5,.eq z7),(10,.rep (.arr 5 (.int .i64)) x5),(11,I y6.2)]) (fun z7 y6=>[.sl z7 3 (.int .i64) y6.1]) (cX k x5) k (.slice none 0 0) (([]:(List Int)),0) (fun _=>rfl) h (SE.fin [0] ⟨rfl,rfl,rfl,trivial⟩ rfl) (fun n z7 y6 h=>?_);unfold cX at h;refine sr (jb (bq rfl) ?_);refine au ?_;refine ci h (fun h=>?_) (fun h=>?_)
  ·refine sk (aI (Z:=Value) (α:=(List Int)) (fun z9 x8=>[(5,.eq z9),(10,.rep (.arr 5 (.int .i64)) x5),(11,I y6.2)]) (fun z9 x8=>[.sl z9 3 (.int .i64) x8]) h (fun K h=>?_) (fun z9 x8 h=>?_))
   ·refine aj (sr ?_);obtain⟨c,j,h⟩:=aa h;refine jb (Ah (t:=(.int .i64)) rfl SG ct rfl rfl (fun _=>rfl) j) ?_;refine au ?_;refine jb (qX rfl) ?_;refine nt (ci h (fun h=>?_) (fun h=>?_))
    ·refine ab (au ?_);refine ja (bg (t:=(.int .i64)) [(.tmp 17,_)] [c] rfl rfl dk (.cons rfl .int .nil) rfl rfl) ?_;obtain⟨D,s,h⟩:=aa h;refine cz rfl rfl rfl (bf rfl rfl dk (aA s)) ⟨rfl,rfl,trivial⟩ fun x=>?_;refine au ?_;exact jz (x,y6.1++[c]) h [0]
    ·refine au ?_;exact jz (z7,y6.1) h [0]
   ·refine ab ?_;obtain⟨u,e,h⟩:=aa h;refine jb (be rfl e) ?_;refine au ?_;exact jz (z9,(x8,u)) h [0]
  ·refine au ?_;exact jz (z7,y6.1) h [0]
 ·
  refine sr (mq ?_);refine aq (nt (bI ?_));refine bu (dM [4,5,21] ⟨rfl,rfl,rfl,trivial⟩) ?_;cases h;exact ra
def cI{σ:Type}(k:Nat)(a1:(List Int))(Y:σ→(Int×Int)→Option (σ×Bool)):Nat→(Int×σ)→Option (σ)
 |0,_=>none
 |n+1,y2=>
  if 0≤y2.1 then((aQ a1 y2.1).bind fun x4=>
  (Y y2.2 (y2.1,x4)).bind fun r5=>
  if¬(r5.2=true) then(some r5.1) else((ck (y2.1 - 1)).bind fun x7=>
  cI k a1 Y n (x7,r5.1))) else(some y2.2)
def hC{σ:Type}(k:Nat)(Y:σ→(Int×Int)→Option (σ×Bool))(a1:(List Int))(s0:σ):Option (σ):=
 (ck ((a1.length:Int) - 1)).bind fun x1=>
 cI k a1 Y k (x1,s0)
theorem o4{M:Md Tryz.prog}{σ Z:Type}(E:Z→σ→List D)(l:Nat)(Y:σ→(Int×Int)→Option (σ×Bool))(k:Nat)(a1:(List Int))(c:Nat)(hY:∀z s p r,Y s p=some r→YT M l [I p.1,I p.2] (E z s) (fun z':Z=>(.eq (.bool r.2),E z' r.1))):
 ∀(z0:Z) (s0:σ) (r:σ),hC k Y a1 s0=some r→dC M 166 [.eq (.func (.yield l) #[] #[]),Pt c] ([.obj c 22 (Ri a1)]++E z0 s0) (fun z:Z=>(bj [],[.obj c 22 (Ri a1)]++E z r)):=by
 intro z0 s0 r h
 unfold hC at h
 replace h:=a9 h
 refine dC.of 19 Tryz.func166 rfl Tryz.ntmps166 rfl fun S w0=>?_
 refine sr ?_
 refine lo bZ ?_
 refine ol dP ?_
 obtain⟨x1,u,h⟩:=aa h
 refine jb (fu rfl u) ?_
 refine au ?_
 refine aj ?_
 refine aK (Z:=Z) (α:=Int×σ) (fun z3 y2=>[(0,.eq (.func (.yield l) #[] #[])),(1,Pt c),(3,I y2.1)]) (fun z3 y2=>[.obj c 22 (Ri a1)]++E z3 y2.2) (cI k a1 Y) k z0 (x1,s0) (fun _=>rfl) h (bi [.obj c 22 (Ri a1)] (E z0 s0) [0] ⟨rfl,rfl,rfl,trivial⟩ rfl) (fun n z3 y2 h=>?_)
 unfold cI at h
 refine au ?_
 refine jb (qX rfl) ?_
 refine nt ?_
 refine ci h (fun h=>?_) (fun h=>?_)
 ·
  refine au ?_;refine aj (au ?_);refine lo bZ ?_;refine mq ?_;obtain⟨x4,j,h⟩:=aa h;refine jb (aH (t:=(.int .i64)) rfl dP ct j) ?_;refine ja (an (t:=(.int .i64)) rfl ct rfl) ?_;obtain⟨r5,x,h⟩:=aa h;refine qe [.obj c 22 (Ri a1)] rfl rfl rfl (yA [.tmp 12,.tmp 16] rfl rfl rfl (hY z3 y2.2 (y2.1,x4) r5 x)) ⟨rfl,rfl,rfl,trivial⟩ fun z6=>?_;refine ja (eW rfl) ?_;refine nt (cw h (fun h=>?_) (fun h=>?_))
  ·refine au ?_;cases h;exact jh z6 [] trivial rfl
  ·refine au ?_;refine ab (mq ?_);obtain⟨x7,e,h⟩:=aa h;refine jb (fu rfl e) ?_;refine au ?_;exact jg (z6,(x7,r5.1)) h (bi [.obj c 22 (Ri a1)] (E z6 r5.1) [0] ⟨rfl,rfl,rfl,trivial⟩ rfl)
 ·
  refine au ?_;refine jB ?_;cases h;exact jh z3 [] trivial rfl
theorem qR(a0:(List Int)):bX Tryz.prog 148 [Ri a0] [] (fun z:Nat=>(bj [.eq (.func (.func 166) #[] #[(Pv z)])],[.obj z 22 (Ri a0)])):=by
 refine bX.of 4 Tryz.func148 rfl Tryz.ntmps148 rfl fun S w0=>?_;refine sr (bx fun z=>?_);refine au ?_;refine ja (tQ [] [.tmp 1] [] [(Pv z)] rfl rfl rfl) ?_;refine au ?_;exact aN z [_] 1 ⟨rfl,trivial⟩ rfl
def pn(k:Nat)(a0:(List Int)):Option (List Int):=
 (hC k (l6 (fun(y3:(List Int)) (p5:(Int×Int))=>
  some ((p5.2::y3),true))) a0 ([],false)).bind fun r6=>
 if r6.2=true then(none) else(some r6.1)
theorem zK(k:Nat)(a0:(List Int))(r:(List Int))(h:pn k a0=some r):
 bX Tryz.prog 118 [Ri a0] [] (fun _:Unit=>(bj [.rep (.lst (.int .i64)) r],[])):=by
 unfold pn at h
 replace h:=a9 h
 refine zo 15 Tryz.func118 rfl Tryz.ntmps118 rfl fun {M} S w0=>?_
 refine au ?_
 refine aD rfl rfl rfl (aY rfl PM RO) trivial fun b1=>?_
 refine au ?_
 refine aD rfl rfl rfl (ao [.tmp 6] rfl rfl Ro rfl (qR a0)) ⟨rfl,trivial⟩ fun b2=>?_
 refine nt ?_
 refine aj ?_
 refine eJ 1 rfl ?_
 refine dG (qL (a:=.eq (.pointer none)) (a':=.rep (.lst (.int .i64)) []) (zq .lnil)) ?_
 refine eJ 1 rfl ?_
 obtain⟨r6,c,h⟩:=aa h
 refine lG (Δ:=[.obj b2 22 (Ri a0),.obj b1 196 (.rep (.lst (.int .i64)) [])]) (F:=[]) (X:=Unit) (J:=fun _=>GO r6.2) (E:=fun z4=>[.obj b2 22 (Ri a0),.obj b1 196 (.rep (.lst (.int .i64)) r6.1)]) (r0:=fun _=>.tup .any) rfl rfl Rj (fun rec hp ha hb hs hpe hN hv l=>?_) (fun dl z4=>og (fun hj=>?_) (fun hj=>?_))
 ·
  rcases rec with⟨st0,pe0,fn0,tm0,ps0,as0,bd0,df0⟩;dsimp only at hp ha hb hs hpe hN hv;subst hp hs hpe;have vN:uT tm0 [(3,Pt b1)]:=⟨congrArg A.eq (hv 3 _ rfl).symm,trivial⟩;refine dC.pick (M:=M) [1,0,2] [1,0,2] (o4 (fun(z4:Unit) (q:(List Int)×Bool)=>[.raw l (.loop (jm ⟨.ready,none,fn0,tm0, #[8,9],as0,bd0,df0⟩ (GO q.2))),.obj b1 196 (.rep (.lst (.int .i64)) q.1)]) l (l6 (fun(y3:(List Int)) (p5:(Int×Int))=>
  some ((p5.2::y3),true))) k a0 b2 (fun z4 q p r' h=>?_) () ([],false) r6 c) rfl (fun _=>rfl) (fun _=>rfl)
  obtain⟨rq,hq,h2,rfl⟩:=oh h;obtain⟨y3,b5⟩:=q;obtain rfl:b5=false:=hq;replace h:=a9 h2;obtain⟨p5,hpv⟩:∃x,x=p:=⟨_,rfl⟩;subst hpv;refine YT.pick (R':=(fun z4:Unit=>(.eq (.bool rq.2),[.raw l (.loop (jm ⟨.ready,none,fn0,tm0, #[8,9],as0,bd0,df0⟩ (GO (!rq.2)))),.obj b1 196 (.rep (.lst (.int .i64)) rq.1)]))) [0,1] [0,1] (Me ha hb (N:=15) (Γ:=[(3,Pt b1)]) rfl hN (by decide) vN (fun S w=>?_)) rfl (fun _=>rfl) (fun _=>rfl);refine ab (au ?_);refine tf rfl rfl ?_;refine aj (ab (mq ?_));refine fr 1 ?_;refine lo zP ?_;refine jb (c9 [(0,.tmp 10,_),(1,.tmp 11,_)] rfl P8 PL O0 (iM ⟨rfl,rfl,trivial⟩) rfl) ?_;refine aD rfl rfl rfl (oV rfl trivial) ⟨rfl,trivial⟩ fun b7=>?_;refine cp (lT (t:=G7) (x:=(p5.2,y3)) [13] (.agg (.pair .int .rep)) ⟨rfl,trivial⟩) ?_;refine a8 rfl rfl (aX rfl zP trivial rfl rfl) ⟨rfl,rfl,trivial⟩ ?_;refine ax (bS (bu (qL (a:=.at G7 (p5.2,y3)) (a':=.rep (.lst (.int .i64)) (p5.2::y3)) (zq .lcons)) ?_));refine bH 1 rfl ?_;cases h;exact nV () 1 rfl
 ·
  replace h:=bM (DT hj) h;refine bS (tn (sr (fr 2 ?_)));refine lo zP ?_;refine aq (nt (bI ?_));refine bH 1 rfl ?_;refine vd ?_;cases h;exact ra
 ·
  replace h:=cF (DO hj) h;cases h
def gU(k:Nat)(a1:Int):Nat→(Int×(List Int)×(List Int)×(List Int))→Option (Int×(List Int))
 |0,_=>none
 |n+1,y2=>
  if List.isEmpty y2.2.2.2=true then((cU (bm (List.length y2.2.2.1+List.length y2.2.1))).bind fun _=>
  some (y2.1,y2.2.2.1++y2.2.1)) else((pj y2.2.2.2).bind fun x6=>
  (dY k a1 x6.1).bind fun r7=>
  if r7=true then((pj y2.2.2.2).bind fun x8=>
  (cU (bm (List.length y2.2.1+List.length [x8.1]))).bind fun _=>
  (pj y2.2.2.2).bind fun l=>
  gU k a1 n (y2.1,y2.2.1++[x8.1],y2.2.2.1,l.2)) else(((if 0 < (y2.2.1.length:Int) then((pj y2.2.2.2).bind fun h=>
  (dT k y2.1 h.1).bind fun r=>
  some r) else(some y2.1)):Option (Int)).bind fun j=>
  (pj y2.2.2.2).bind fun c=>
  (cU (bm (List.length y2.2.2.1+List.length [c.1]))).bind fun _=>
  (pj y2.2.2.2).bind fun e=>
  gU k a1 n (j,y2.2.1,y2.2.2.1++[c.1],e.2)))
def ny(k:Nat)(a0:(List Int))(a1:Int):Option (Int×(List Int)):=
 (pn k a0).bind fun r1=>
 gU k a1 k (0,([]:(List Int)),([]:(List Int)),r1)
theorem uq(k:Nat)(a0:(List Int))(a1:Int)(r:Int×(List Int))(h:ny k a0 a1=some r):
 bX Tryz.prog 97 [Ri a0,.eq (.int .u8 a1)] [] (fun _:Unit=>(bj [.eq (.int .u8 r.1),Ri r.2],[])):=by
 unfold ny at h
 replace h:=a9 h
 refine bX.of 54 Tryz.func97 rfl Tryz.ntmps97 rfl fun S w0=>?_
 refine au ?_
 refine GF rfl (Eu (by kernel_rfl) (Eu (by kernel_rfl) (Oq Oo))) ?_
 refine au ?_
 obtain⟨r1,mc,h⟩:=aa h
 have pp:=zK k a0 r1 mc
 refine ja (ao [.tmp 9] rfl rfl Ry rfl pp) ?_
 refine au ?_
 refine JK ?_
 refine tn ?_
 refine dG (SE.nil 3 (.int .i64)) ?_
 refine dG (SE.nil 3 (.int .i64)) ?_
 refine DF (Z:=Value×Value) (α:=Int×(List Int)×(List Int)×(List Int)) rfl (fun z3 y2=>[(1,.eq (.int .u8 a1)),(4,.eq (.int .u8 y2.1)),(6,.eq z3.1),(7,.eq z3.2),(8,.rep (.lst (.int .i64)) y2.2.2.2)]) (fun z3 y2=>[.sl z3.1 3 (.int .i64) y2.2.1,.sl z3.2 3 (.int .i64) y2.2.2.1]) (gU k a1) k ((.slice none 0 0),(.slice none 0 0)) (0,([]:(List Int)),([]:(List Int)),r1) (fun _=>rfl) h (SE.fin [1,0] ⟨rfl,rfl,rfl,rfl,rfl,trivial⟩ rfl) (fun n z3 y2 h=>?_)
 unfold gU at h
 refine au ?_
 refine jb (HL rfl Ux) ?_
 refine nt ?_
 refine cv h (fun h=>?_) (fun h=>?_)
 ·
  refine sr ?_;iterate 3 refine mq ?_
  refine cp (dM [6,15] ⟨rfl,rfl,trivial⟩) ?_;obtain⟨u4,Y,h⟩:=aa h;refine cz rfl rfl rfl (bf rfl rfl dk (aA Y)) ⟨rfl,rfl,trivial⟩ fun v5=>?_;refine au ?_;refine JJ ?_;refine bu (dM [5,16] ⟨rfl,rfl,trivial⟩) ?_;cases h;exact rb
 ·
  refine au ?_;obtain⟨x6,U,h⟩:=aa h;refine ja (lP rfl U) ?_;refine ja (aG 1 false rfl vb rfl) ?_;refine ja (an (t:=(.int .i64)) rfl ct rfl) ?_;obtain⟨r7,ac,h⟩:=aa h;refine jb (ao [.tmp 17,.tmp 21] rfl rfl LI rfl (iI k a1 x6.1 r7 ac)) ?_;refine nt (cv h (fun h=>?_) (fun h=>?_))
  ·refine au ?_;obtain⟨x8,Q,h⟩:=aa h;refine ja (lP rfl Q) ?_;refine ja (aG 1 false rfl vb rfl) ?_;refine ja (an (t:=(.int .i64)) rfl ct rfl) ?_;refine ja (bg (t:=(.int .i64)) [(.tmp 27,_)] [x8.1] rfl rfl dk (.cons rfl .int .nil) rfl rfl) ?_;obtain⟨u9,X,h⟩:=aa h;refine cz rfl rfl rfl (bf rfl rfl dk (aA X)) ⟨rfl,rfl,trivial⟩ fun O=>?_;refine au ?_;obtain⟨J,y,h⟩:=aa h;refine ja (lP rfl y) ?_;refine ja (aG 1 false rfl Es rfl) ?_;refine ja (an (t:=(.lst (.int .i64))) rfl zP rfl) ?_;refine au ?_;refine ES ?_;refine GE ?_;exact EQ ((O,z3.2),(y2.1,y2.2.1++[x8.1],y2.2.2.1,J.2)) h (SE.fin [0,1] ⟨rfl,rfl,rfl,rfl,rfl,trivial⟩ rfl)
  ·refine sk (aI (Z:=Unit) (α:=Int) (fun e c=>[(1,.eq (.int .u8 a1)),(4,.eq (.int .u8 c)),(6,.eq z3.1),(7,.eq z3.2),(8,.rep (.lst (.int .i64)) y2.2.2.2)]) (fun e c=>[.sl z3.1 3 (.int .i64) y2.2.1,.sl z3.2 3 (.int .i64) y2.2.2.1]) h (fun K h=>?_) (fun e c h=>?_))
   ·refine au ?_;refine ka (dy rfl rfl dP) ?_;refine jb (jv rfl) ?_;refine nt (ci h (fun h=>?_) (fun h=>?_))
    ·refine ab (au ?_);obtain⟨I,x,h⟩:=aa h;refine ja (lP rfl x) ?_;refine ja (aG 1 false rfl vb rfl) ?_;refine ja (an (t:=(.int .i64)) rfl ct rfl) ?_;obtain⟨l,E,h⟩:=aa h;refine jb (ao [.tmp 37,.tmp 41] rfl rfl LF rfl (jD k y2.1 I.1 l E)) ?_;refine au ?_;exact jz ((),l) h [0,1]
    ·refine au ?_;exact jz ((),y2.1) h [0,1]
   ·refine au ?_;obtain⟨j,u,h⟩:=aa h;refine ja (lP rfl u) ?_;refine ja (aG 1 false rfl vb rfl) ?_;refine ja (an (t:=(.int .i64)) rfl ct rfl) ?_;refine ja (bg (t:=(.int .i64)) [(.tmp 47,_)] [j.1] rfl rfl dk (.cons rfl .int .nil) rfl rfl) ?_;obtain⟨qt,D,h⟩:=aa h;refine fr 1 ?_;refine cz rfl rfl rfl (bf rfl rfl dk (aA D)) ⟨rfl,rfl,trivial⟩ fun M=>?_;refine au ?_;obtain⟨F,s,h⟩:=aa h;refine ja (lP rfl s) ?_;refine ja (aG 1 false rfl Es rfl) ?_;refine ja (an (t:=(.lst (.int .i64))) rfl zP rfl) ?_;refine au ?_;refine ES ?_;exact EQ ((z3.1,M),(c,y2.2.1,y2.2.2.1++[j.1],F.2)) h (SE.fin [1,0] ⟨rfl,rfl,rfl,rfl,rfl,trivial⟩ rfl)
def dw(k:Nat)(a0:(List Int))(a1:Int):Nat→Int→Option (Except Int Unit)
 |0,_=>none
 |n+1,y3=>
  if y3 < (a0.length:Int) then((aQ a0 y3).bind fun x5=>
  if a1=x5 then(some (.error y3)) else((ck (y3+1)).bind fun x6=>
  dw k a0 a1 n x6)) else(some (.ok ()))
def jt(k:Nat)(a0:(List Int))(a1:Int):Option Int:=
 bE (α:=Unit) (dw k a0 a1 k 0) (some) fun _=>
 some (-1:Int)
theorem tI(k:Nat)(a0:(List Int))(a1:Int)(r:Int)(h:jt k a0 a1=some r):
 bX Tryz.prog 149 [Ri a0,I a1] [] (fun _:Unit=>(bj [I r],[])):=by
 unfold jt at h
 replace h:=a9 h
 refine bX.of 19 Tryz.func149 rfl Tryz.ntmps149 rfl fun S w0=>?_
 refine sr ?_
 refine cq ?_
 refine nt ?_
 refine eT (Z:=Unit) (α:=Unit) (fun z2 x1=>[]) (fun z2 x1=>[]) (fun e=>e=r) h (fun e h=>Option.some.inj h) (fun K hR h=>?_) (fun z2 x1 h=>?_)
 ·
  refine au ?_;refine ol dP ?_;refine ff rfl ?_;refine nt (aj (aK (fun z4 y3=>[(0,Ri a0),(1,I a1),(7,I (a0.length:Int)),(8,I y3)]) (fun z4 y3=>[]) (dw k a0 a1) k () 0 (fun _=>rfl) h (SE.fin [] ⟨rfl,rfl,rfl,rfl,trivial⟩ rfl) (fun n z4 y3 h=>?_)));unfold dw at h;refine sr (jb (bq rfl) ?_);refine au ?_;refine ci h (fun h=>?_) (fun h=>?_)
  ·refine au ?_;refine aj (au ?_);obtain⟨x5,j,h⟩:=aa h;refine jb (aH (t:=(.int .i64)) rfl dP ct j) ?_;refine ja (an (t:=(.int .i64)) rfl ct rfl) ?_;refine jb (dO rfl) ?_;refine nt (ci h (fun h=>?_) (fun h=>?_))
   ·refine au ?_;obtain rfl:=hR _ h;exact ra
   ·refine au ?_;refine ab ?_;obtain⟨x6,c,h⟩:=aa h;refine jb (be rfl c) ?_;refine au ?_;exact jz ((),x6) h []
  ·refine au ?_;exact jz ((),()) h []
 ·
  refine au ?_;cases h;exact ra
def gw(k:Nat)(a0:(List Int))(a1:Int):Option Bool:=
 (jt k a0 a1).bind fun r1=>
 some (decide (0≤r1))
theorem qP(k:Nat)(a0:(List Int))(a1:Int)(r:Bool)(h:gw k a0 a1=some r):
 bX Tryz.prog 119 [Ri a0,I a1] [] (fun _:Unit=>(bj [.eq (.bool r)],[])):=by
 unfold gw at h
 replace h:=a9 h
 refine bX.of 9 Tryz.func119 rfl Tryz.ntmps119 rfl fun S w0=>?_
 refine au ?_
 obtain⟨r1,c,h⟩:=aa h
 have e:=tI k a0 a1 r1 c
 refine jb (ao [.tmp 5,.tmp 6] rfl rfl Rn rfl e) ?_
 refine jb (qX rfl) ?_
 refine au ?_
 cases h
 exact ra
def fg(k:Nat)(a0:dr)(a1:Int):Nat→(Int×Int)→Option Int
 |0,_=>none
 |n+1,y3=>
  if y3.2 < (a0.1.2.1.length:Int) then((((aQ a0.1.2.1 y3.2).bind fun x7=>
  (gw k x7.2 a1).bind fun r9=>
  if r9=true then((dT k y3.1 y3.2).bind fun e=>
  some e) else(some y3.1)):Option (Int)).bind fun x5=>
  (ck (y3.2+1)).bind fun c=>
  fg k a0 a1 n (x5,c)) else(some y3.1)
def ip(k:Nat)(a0:dr)(a1:Int):Option Int:=
 ((fg k a0 a1 k (0,0)):Option (Int)).bind fun x1=>
 some x1
theorem nv(k:Nat)(a0:dr)(a1:Int)(r:Int)(h:ip k a0 a1=some r):
 bX Tryz.prog 98 [.at bD a0,I a1] [] (fun _:Unit=>(bj [.eq (.int .u8 r)],[])):=by
 unfold ip at h
 replace h:=a9 h
 refine bX.of 28 Tryz.func98 rfl Tryz.ntmps98 rfl fun S w0=>?_
 refine sr ?_
 refine cq ?_
 refine nt ?_
 refine sr ?_
 refine cq ?_
 refine nt ?_
 refine aI (Z:=Unit) (α:=Int) (fun z2 x1=>[(5,.eq (.int .u8 x1))]) (fun z2 x1=>[]) h (fun K h=>?_) (fun z2 x1 h=>?_)
 ·
  refine au ?_;refine ja (dN rfl) ?_;refine ja (aG 3 true rfl kl rfl) ?_;refine ja (aG 1 false rfl cd rfl) ?_;refine ja (an (t:=(.slice aJ)) rfl fQ rfl) ?_;refine ol nn ?_;refine ff rfl ?_;refine nt (aj (aK (fun z4 y3=>[(1,I a1),(5,.eq (.int .u8 y3.1)),(12,Rs aJ a0.1.2.1),(13,I (a0.1.2.1.length:Int)),(14,I y3.2)]) (fun z4 y3=>[]) (fg k a0 a1) k () (0,0) (fun _=>rfl) h (SE.fin [] ⟨rfl,rfl,rfl,rfl,rfl,trivial⟩ rfl) (fun n z4 y3 h=>?_)));unfold fg at h;refine sr (jb (bq rfl) ?_);refine au ?_;refine ci h (fun h=>?_) (fun h=>?_)
  ·refine sk (aI (Z:=Unit) (α:=Int) (fun z6 x5=>[(1,I a1),(5,.eq (.int .u8 x5)),(12,Rs aJ a0.1.2.1),(13,I (a0.1.2.1.length:Int)),(14,I y3.2)]) (fun z6 x5=>[]) h (fun K h=>?_) (fun z6 x5 h=>?_))
   ·refine aj (au ?_);obtain⟨x7,s,h⟩:=aa h;refine jb (aH (t:=aJ) rfl nn jl s) ?_;refine ja (an (t:=aJ) rfl jl rfl) ?_;refine aD rfl rfl rfl (aY rfl vg L2) trivial fun b8=>?_;refine aq ?_;refine a8 rfl rfl (aX rfl jl rfl rfl rfl) ⟨rfl,rfl,trivial⟩ ?_;refine au ?_;refine fl kH ?_;refine lo bZ ?_;refine mq ?_;obtain⟨r9,u,h⟩:=aa h;refine jb (ao [.tmp 20,.tmp 21] rfl rfl Rx rfl (qP k x7.2 a1 r9 u)) ?_;refine nt (cv h (fun h=>?_) (fun h=>?_))
    ·refine ab (au ?_);obtain⟨c,j,h⟩:=aa h;refine jb (ao [.tmp 23,.tmp 24] rfl rfl LF rfl (jD k y3.1 y3.2 c j)) ?_;refine au ?_;exact jz ((),c) h []
    ·refine au ?_;exact jz ((),y3.1) h []
   ·refine ab ?_;obtain⟨l,e,h⟩:=aa h;refine jb (be rfl e) ?_;refine au ?_;exact jz ((),(x5,l)) h []
  ·refine au ?_;exact jz ((),y3.1) h []
 ·
  refine au ?_;cases h;exact ra
def dJ(k:Nat)(a0:(List Int))(a1:(List Int)):Nat→Int→Option (Except Bool Unit)
 |0,_=>none
 |n+1,y3=>
  if y3 < (a0.length:Int) then((aQ a0 y3).bind fun x5=>
  (aQ a1 y3).bind fun x6=>
  if¬(x5=x6) then(some (.error false)) else((ck (y3+1)).bind fun x7=>
  dJ k a0 a1 n x7)) else(some (.ok ()))
def dV(k:Nat)(a0:(List Int))(a1:(List Int)):Option Bool:=
 if¬((a0.length:Int)=(a1.length:Int)) then(some false) else(bE (α:=Unit) (dJ k a0 a1 k 0) (some) fun _=>
 some true)
theorem ik(k:Nat)(a0:(List Int))(a1:(List Int))(r:Bool)(h:dV k a0 a1=some r):
 bX Tryz.prog 39 [Ri a0,Ri a1] [] (fun _:Unit=>(bj [.eq (.bool r)],[])):=by
 unfold dV at h
 replace h:=a9 h
 refine bX.of 26 Tryz.func39 rfl Tryz.ntmps39 rfl fun S w0=>?_
 refine au ?_
 refine ol dP ?_
 refine mq ?_
 refine ol dP ?_
 refine jb (gX rfl) ?_
 refine nt ?_
 refine cn h (fun h=>?_) (fun h=>?_)
 ·
  refine au ?_;cases h;exact ra
 ·
  refine sk (eT (Z:=Unit) (α:=Unit) (fun z2 x1=>[]) (fun z2 x1=>[]) (fun e=>e=r) h (fun e h=>Option.some.inj h) (fun K hR h=>?_) (fun z2 x1 h=>?_))
  ·refine au ?_;refine aj (aK (fun z4 y3=>[(0,Ri a0),(1,Ri a1),(5,I y3)]) (fun z4 y3=>[]) (dJ k a0 a1) k () 0 (fun _=>rfl) h (SE.fin [] ⟨rfl,rfl,rfl,trivial⟩ rfl) (fun n z4 y3 h=>?_));unfold dJ at h;refine au ?_;refine ol dP ?_;refine jb (bq rfl) ?_;refine nt (ci h (fun h=>?_) (fun h=>?_))
   ·refine au ?_;refine aj (ar (bJ ?_));refine dm ?_;refine dm ?_;obtain⟨x5,l,h⟩:=aa h;refine db (aH (t:=(.int .i64)) rfl dP ct l) ?_;refine da (an (t:=(.int .i64)) rfl ct rfl) ?_;refine dm ?_;refine dm ?_;obtain⟨x6,j,h⟩:=aa h;refine db (aH (t:=(.int .i64)) rfl dP ct j) ?_;refine da (an (t:=(.int .i64)) rfl ct rfl) ?_;refine df cH ?_;refine jb (gX rfl) ?_;refine nt (cn h (fun h=>?_) (fun h=>?_))
    ·refine au ?_;obtain rfl:=hR _ h;exact ra
    ·refine au ?_;refine ab (mq ?_);obtain⟨x7,c,h⟩:=aa h;refine jb (be rfl c) ?_;refine au ?_;exact jz ((),x7) h []
   ·refine au ?_;exact jz ((),()) h []
  ·refine au ?_;cases h;exact ra
def fi(k:Nat)(a0:(List (List Int)))(a1:(List (List Int))):Nat→Int→Option (Except Bool Unit)
 |0,_=>none
 |n+1,y3=>
  if y3 < (a0.length:Int) then((aQ a0 y3).bind fun x5=>
  (aQ a1 y3).bind fun x6=>
  (dV k x5 x6).bind fun r7=>
  if¬(r7=true) then(some (.error false)) else((ck (y3+1)).bind fun x8=>
  fi k a0 a1 n x8)) else(some (.ok ()))
def f9(k:Nat)(a0:(List (List Int)))(a1:(List (List Int))):Option Bool:=
 if¬((a0.length:Int)=(a1.length:Int)) then(some false) else(bE (α:=Unit) (fi k a0 a1 k 0) (some) fun _=>
 some true)
theorem kE(k:Nat)(a0:(List (List Int)))(a1:(List (List Int)))(r:Bool)(h:f9 k a0 a1=some r):
 bX Tryz.prog 22 [.rep (.slice (.slice (.int .i64))) a0,.rep (.slice (.slice (.int .i64))) a1] [] (fun _:Unit=>(bj [.eq (.bool r)],[])):=by
 unfold f9 at h
 replace h:=a9 h
 refine bX.of 27 Tryz.func22 rfl Tryz.ntmps22 rfl fun S w0=>?_
 refine au ?_
 refine ol pY ?_
 refine mq ?_
 refine ol pY ?_
 refine jb (gX rfl) ?_
 refine nt ?_
 refine cn h (fun h=>?_) (fun h=>?_)
 ·
  refine au ?_;cases h;exact ra
 ·
  refine sk (eT (Z:=Unit) (α:=Unit) (fun z2 x1=>[]) (fun z2 x1=>[]) (fun e=>e=r) h (fun e h=>Option.some.inj h) (fun K hR h=>?_) (fun z2 x1 h=>?_))
  ·refine au ?_;refine aj (aK (fun z4 y3=>[(0,.rep (.slice (.slice (.int .i64))) a0),(1,.rep (.slice (.slice (.int .i64))) a1),(5,I y3)]) (fun z4 y3=>[]) (fi k a0 a1) k () 0 (fun _=>rfl) h (SE.fin [] ⟨rfl,rfl,rfl,trivial⟩ rfl) (fun n z4 y3 h=>?_));unfold fi at h;refine au ?_;refine ol pY ?_;refine jb (bq rfl) ?_;refine nt (ci h (fun h=>?_) (fun h=>?_))
   ·refine au ?_;refine aj (ar (bJ ?_));refine dm ?_;refine dm ?_;obtain⟨x5,l,h⟩:=aa h;refine db (aH (t:=(.slice (.int .i64))) rfl pY bZ l) ?_;refine da (an (t:=(.slice (.int .i64))) rfl bZ rfl) ?_;refine dm ?_;refine dm ?_;obtain⟨x6,j,h⟩:=aa h;refine db (aH (t:=(.slice (.int .i64))) rfl pY bZ j) ?_;refine da (an (t:=(.slice (.int .i64))) rfl bZ rfl) ?_;refine df cH ?_;obtain⟨r7,s,h⟩:=aa h;refine jb (ao [.tmp 20,.tmp 24] rfl rfl I8 rfl (ik k x5 x6 r7 s)) ?_;refine ja (eW rfl) ?_;refine nt (cw h (fun h=>?_) (fun h=>?_))
    ·refine au ?_;obtain rfl:=hR _ h;exact ra
    ·refine au ?_;refine ab (mq ?_);obtain⟨x8,c,h⟩:=aa h;refine jb (be rfl c) ?_;refine au ?_;exact jz ((),x8) h []
   ·refine au ?_;exact jz ((),()) h []
  ·refine au ?_;cases h;exact ra
def ek(k:Nat)(a0:dr)(a1:(List (List Int))):Nat→((List (List Int))×Int)→Option (List (List Int))
 |0,_=>none
 |n+1,y6=>
  if y6.2 < ((List.replicate (Int.toNat (a0.1.2.2.length:Int)) ([]:(List Int))).length:Int) then((dU k a1 y6.2).bind fun r8=>
  (aQ y6.1 y6.2).bind fun x9=>
  (ck (y6.2+1)).bind fun c=>
  ek k a0 a1 n (List.set y6.1 (Int.toNat y6.2) r8,c)) else(some y6.1)
def fp(k:Nat)(a0:dr)(a1:(List (List Int))):Option (List (List Int)):=
 (cU (0≤(a0.1.2.2.length:Int)∧bm (Int.toNat (a0.1.2.2.length:Int)))).bind fun _=>
 ((ek k a0 a1 k (List.replicate (Int.toNat (a0.1.2.2.length:Int)) ([]:(List Int)),0)):Option ((List (List Int)))).bind fun x4=>
 some x4
theorem jW(k:Nat)(a0:dr)(a1:(List (List Int)))(r:(List (List Int)))(h:fp k a0 a1=some r):
 bX Tryz.prog 45 [.at bD a0,.rep (.arr 3 (.arr 5 (.int .i64))) a1] [] (fun z:Value=>(bj [.eq z],[.sl z 22 (.slice (.int .i64)) r])):=by
 unfold fp at h
 replace h:=a9 h
 refine bX.of 27 Tryz.func45 rfl Tryz.ntmps45 rfl fun S w0=>?_
 refine sr ?_
 refine bx fun b1=>?_
 refine au ?_
 refine ja (dN rfl) ?_
 refine ja (aG 3 true rfl kl rfl) ?_
 refine ja (aG 1 false rfl cM rfl) ?_
 refine ja (an (t:=(.slice (.int .i64))) rfl bZ rfl) ?_
 refine ol dP ?_
 obtain⟨u2,j,h⟩:=aa h
 refine aD rfl rfl rfl (CO (t:=(.slice (.int .i64))) (d:=([]:(List Int))) rfl mI SL (aA j).1 (aA j).2) ⟨rfl,rfl,trivial⟩ fun v3=>?_
 refine aq ?_
 refine nt ?_
 refine aI (Z:=Unit) (α:=(List (List Int))) (fun z5 x4=>[(5,.eq v3)]) (fun z5 x4=>[.sl v3 22 (.slice (.int .i64)) x4]) h (fun K h=>?_) (fun z5 x4 h=>?_)
 ·
  refine au ?_;refine ka (dy rfl rfl pY) ?_;refine ff rfl ?_;refine nt (aj (aK (fun z7 y6=>[(3,Pt b1),(5,.eq v3),(15,I ((List.replicate (Int.toNat (a0.1.2.2.length:Int)) ([]:(List Int))).length:Int)),(16,I y6.2)]) (fun z7 y6=>[.obj b1 85 (.rep (.arr 3 (.arr 5 (.int .i64))) a1),.sl v3 22 (.slice (.int .i64)) y6.1]) (ek k a0 a1) k () (List.replicate (Int.toNat (a0.1.2.2.length:Int)) ([]:(List Int)),0) (fun _=>rfl) h (SE.fin [1,0] ⟨rfl,rfl,rfl,rfl,trivial⟩ rfl) (fun n z7 y6 h=>?_)));unfold ek at h;refine sr (jb (bq rfl) ?_);refine au ?_;refine ci h (fun h=>?_) (fun h=>?_)
  ·refine au ?_;refine aj (au ?_);refine ab (au ?_);refine lo fP ?_;refine mq ?_;obtain⟨r8,s,h⟩:=aa h;refine jb (ao [.tmp 21,.tmp 22] rfl rfl LH rfl (gr k a1 y6.2 r8 s)) ?_;obtain⟨x9,c,h⟩:=aa h;refine fr 1 ?_;refine kb (aU (t:=(.slice (.int .i64))) rfl pY bZ c) ?_;refine a8 rfl rfl (cG (i:=Int.toNat y6.2) rfl bZ rfl (gj c) rfl .rep rfl) ⟨rfl,rfl,trivial⟩ ?_;refine au ?_;refine ab ?_;obtain⟨l,e,h⟩:=aa h;refine jb (be rfl e) ?_;refine au ?_;exact jz ((),(List.set y6.1 (Int.toNat y6.2) r8,l)) h [1,0]
  ·refine au ?_;exact jz ((),y6.1) h [1]
 ·
  refine au ?_;cases h;exact aN v3 [.eq v3] 1 ⟨rfl,trivial⟩ rfl
def bT{σ:Type}(k:Nat)(a0:(List (List Int)))(a1:Int)(a2:Int)(a3:dr)(self:(List (List Int))→Int→Int→σ→Option (Bool×σ))(h:(List Int)):Nat→(Int×σ)→Option (Except (Bool×σ) (σ))
 |0,_=>none
 |n+1,c=>
  if c.1 < (a3.1.2.1.length:Int) then(bE (α:=σ) ((aQ a3.1.2.1 c.1).bind fun y=>
  (((dY k a2 c.1).bind fun I=>
  if I=true then(some (true,c.2)) else((nw k a3.1 h).bind fun F=>
  (ck (F+y.1)).bind fun x=>
  (aQ a3.1.2.2 a1).bind fun u=>
  some (decide (u < x),c.2))):Option (Bool×σ)).bind fun j=>
  if j.1=true then(some (.ok j.2)) else((cU (0≤a1∧a1 < 3)).bind fun _=>
  (aQ a0 a1).bind fun s=>
  (cU (0≤(h.length:Int)∧(h.length:Int) < 5)).bind fun _=>
  (dT k a2 c.1).bind fun E=>
  (self (List.set a0 (Int.toNat a1) (List.set s (Int.toNat (h.length:Int)) c.1)) a1 E j.2).bind fun l=>
  if¬(l.1=true) then(some (.error (false,l.2))) else(some (.ok l.2)))) (fun e=>some (.error e)) fun D=>
  (ck (c.1+1)).bind fun r=>
  bT k a0 a1 a2 a3 self h n (r,D)) else(some (.ok c.2))
def bO{σ:Type}(k:Nat)(Y:σ→(List (List Int))→Option (σ×Bool))(a3:dr):Nat→(List (List Int))→Int→Int→σ→Option (Bool×σ)
 |0,_,_,_,_=>none
 |m0+1,a0,a1,a2,s0=>
  if a1=(a3.1.2.2.length:Int) then((((cU (0≤(a3.1.2.1.length:Int))).bind fun _=>
  if¬(a2=(IntKind.u8.wrap ((na .u8 1 (a3.1.2.1.length:Int)) - 1))) then(some (true,s0)) else((Y s0 a0).bind fun r5=>
  some (r5.2,r5.1))):Option (Bool×σ)).bind fun x2=>
  some (x2.1,x2.2)) else((ck (a1+1)).bind fun x7=>
  ((bO k Y a3 m0) a0 x7 a2 s0).bind fun r8=>
  if¬(r8.1=true) then(some (false,r8.2)) else((dU k a0 a1).bind fun e=>
  bE (α:=σ) (bT k a0 a1 a2 a3 (bO k Y a3 m0) e k (0,r8.2)) (some) fun c=>
  some (true,c)))
theorem m9{M:Md Tryz.prog}{σ Z:Type}(E:Z→σ→List D)(l:Nat)(Y:σ→(List (List Int))→Option (σ×Bool))(k:Nat)(a3:dr)(u:Nat)(x:Nat)(c:Nat)(hY:∀z s p r,Y s p=some r→YT M l [.rep (.arr 3 (.arr 5 (.int .i64))) p] (E z s) (fun z':Z=>(.eq (.bool r.2),E z' r.1))):
 ∀(n:Nat) (a0:(List (List Int))) (a1:Int) (a2:Int) (z0:Z) (s0:σ) (r:Bool×σ),bO k Y a3 n a0 a1 a2 s0=some r→dC M 90 [.rep (.arr 3 (.arr 5 (.int .i64))) a0,I a1,.eq (.int .u8 a2),Pt u,Pt x,Pt c] ([.obj u 80 (.at bD a3),.obj x 154 (.eq (.func (.yield l) #[] #[])),.obj c 155 (.eq (.func (.func 90) #[] #[(Pv u),(Pv x),(Pv c)]))]++E z0 s0) (fun z:Z=>(bj [.eq (.bool r.1)],[.obj u 80 (.at bD a3),.obj x 154 (.eq (.func (.yield l) #[] #[])),.obj c 155 (.eq (.func (.func 90) #[] #[(Pv u),(Pv x),(Pv c)]))]++E z r.2)):=by
 intro n
 induction n with
 |zero=>intro a0 a1 a2 z0 s0 r h;cases h
 |succ m0 ih=>
  intro a0 a1 a2 z0 s0 r h;rw [bO] at h;replace h:=a9 h;refine dC.of 97 Tryz.func90 rfl Tryz.ntmps90 rfl fun S w0=>?_;refine sr (bx fun b1=>?_);refine cq (nt (ar (sr ?_)));refine mq ?_;refine fr 1 ?_;refine lo uL ?_;refine ja (dN rfl) ?_;refine ja (aG 3 true rfl kl rfl) ?_;refine ja (aG 1 false rfl cM rfl) ?_;refine ja (an (t:=(.slice (.int .i64))) rfl bZ rfl) ?_;refine ol dP ?_;refine jb (dO rfl) ?_;refine nt (ci h (fun h=>?_) (fun h=>?_))
  ·refine aI (Z:=Z) (α:=Bool×σ) (fun z3 x2=>[(9,.eq (.bool x2.1))]) (fun z3 x2=>[.obj u 80 (.at bD a3),.obj x 154 (.eq (.func (.yield l) #[] #[])),.obj c 155 (.eq (.func (.func 90) #[] #[(Pv u),(Pv x),(Pv c)]))]++E z3 x2.2) h (fun K h=>?_) (fun z3 x2 h=>?_)
   ·refine ab (mq ?_);refine lo uL ?_;refine ja (dN rfl) ?_;refine ja (aG 3 true rfl kl rfl) ?_;refine ja (aG 1 false rfl cd rfl) ?_;refine ja (an (t:=(.slice aJ)) rfl fQ rfl) ?_;refine ol nn ?_;obtain⟨u4,Vt,h⟩:=aa h;refine jb (HG rfl (aA Vt)) ?_;refine jb (HF rfl) ?_;refine jb (gX rfl) ?_;refine mq ?_;refine cg (s:=32) rfl (fun hb=>?_) (fun hb=>?_)
    ·replace h:=cF (Ik hb) h;refine au ?_;exact jg (z0,(true,s0)) h (bi [.obj u 80 (.at bD a3),.obj b1 85 (.rep (.arr 3 (.arr 5 (.int .i64))) a0),.obj x 154 (.eq (.func (.yield l) #[] #[])),.obj c 155 (.eq (.func (.func 90) #[] #[(Pv u),(Pv x),(Pv c)]))] (E z0 s0) [0,2,3] ⟨rfl,trivial⟩ rfl)
    ·replace h:=bM (vT hb) h;refine fr 2 ?_;refine jr rfl rfl rfl rfl rfl rfl (ai rfl P6 jw rfl) ⟨rfl,trivial⟩ ?_;refine fr 2 ?_;refine jr rfl rfl rfl rfl rfl rfl (ai rfl fP (uA) rfl) ⟨rfl,trivial⟩ ?_;obtain⟨r5,Vv,h⟩:=aa h;refine fr 3 ?_;refine fr 3 ?_;refine fr 3 ?_;refine fr 3 ?_;refine Gz [.obj b1 85 (.rep (.arr 3 (.arr 5 (.int .i64))) a0),.obj x 154 (.eq (.func (.yield l) #[] #[])),.obj u 80 (.at bD a3),.obj c 155 (.eq (.func (.func 90) #[] #[(Pv u),(Pv x),(Pv c)]))] rfl rfl rfl rfl rfl rfl (yA [.tmp 34] rfl rfl rfl (hY z0 s0 a0 r5 Vv)) ⟨rfl,rfl,trivial⟩ fun z6=>?_;refine au ?_;exact jg (z6,(r5.2,r5.1)) h (bi [.obj b1 85 (.rep (.arr 3 (.arr 5 (.int .i64))) a0),.obj x 154 (.eq (.func (.yield l) #[] #[])),.obj u 80 (.at bD a3),.obj c 155 (.eq (.func (.func 90) #[] #[(Pv u),(Pv x),(Pv c)]))] (E z6 r5.1) [2,1,3] ⟨rfl,trivial⟩ rfl)
   ·refine au ?_;cases h;exact jh z3 [_] ⟨rfl,trivial⟩ rfl
  ·refine sk (ar (sr (fr 3 ?_)));refine lo DZ ?_;refine fr 2 ?_;refine lo fP ?_;refine mq ?_;obtain⟨x7,Vs,h⟩:=aa h;refine jb (be rfl Vs) ?_;refine mq ?_;obtain⟨r8,Vu,h⟩:=aa h;refine fr 1 ?_;refine fr 3 ?_;refine fr 3 ?_;refine fr 3 ?_;refine qe [.obj b1 85 (.rep (.arr 3 (.arr 5 (.int .i64))) a0)] rfl rfl rfl (pC (fs:=[]) (cs:=[(Pv u),(Pv x),(Pv c)]) (ags:=[.rep (.arr 3 (.arr 5 (.int .i64))) a0,I x7,.eq (.int .u8 a2)]) [.tmp 38,.tmp 40,.tmp 41] rfl rfl OF rfl (ih a0 x7 a2 z0 s0 r8 Vu)) ⟨rfl,rfl,rfl,rfl,trivial⟩ fun z9=>?_;refine ja (eW rfl) ?_;refine nt (cw h (fun h=>?_) (fun h=>?_))
   ·refine sr (cq (nt (rx ?_)));refine bu (bi (Γ':=[(9,_)]) [.obj b1 85 (.rep (.arr 3 (.arr 5 (.int .i64))) a0),.obj u 80 (.at bD a3),.obj x 154 (.eq (.func (.yield l) #[] #[])),.obj c 155 (.eq (.func (.func 90) #[] #[(Pv u),(Pv x),(Pv c)]))] (E z9 r8.2) [1,2,3] ⟨rfl,trivial⟩ rfl) ?_;cases h;exact jh z9 [_] ⟨rfl,trivial⟩ rfl
   ·refine au ?_;refine lo fP ?_;refine mq ?_;obtain⟨F,Vl,h⟩:=aa h;refine jb (ao [.tmp 44,.tmp 45] rfl rfl LH rfl (gr k a0 a1 F Vl)) ?_;refine aq (nt ?_);refine eT (Z:=Z) (α:=σ) (fun qt U6=>[]) (fun qt U6=>[.obj u 80 (.at bD a3),.obj x 154 (.eq (.func (.yield l) #[] #[])),.obj c 155 (.eq (.func (.func 90) #[] #[(Pv u),(Pv x),(Pv c)]))]++E qt U6) (fun e=>e=r) h (fun e h=>Option.some.inj h) (fun K hR h=>?_) (fun qt U6 h=>?_)
    ·refine sr (fr 1 ?_);refine lo uL ?_;refine ja (dN rfl) ?_;refine ja (aG 3 true rfl kl rfl) ?_;refine ja (aG 1 false rfl cd rfl) ?_;refine ja (an (t:=(.slice aJ)) rfl fQ rfl) ?_;refine ol nn ?_;refine ff rfl ?_;refine nt (aj (aK (Z:=Z) (α:=Int×σ) (fun J y=>[(1,I a1),(2,.eq (.int .u8 a2)),(3,Pt u),(5,Pt c),(6,Pt b1),(10,Ri F),(51,Rs aJ a3.1.2.1),(52,I (a3.1.2.1.length:Int)),(53,I y.1)]) (fun J y=>[.obj u 80 (.at bD a3),.obj c 155 (.eq (.func (.func 90) #[] #[(Pv u),(Pv x),(Pv c)])),.obj x 154 (.eq (.func (.yield l) #[] #[])),.obj b1 85 (.rep (.arr 3 (.arr 5 (.int .i64))) a0)]++E J y.2) (bT k a0 a1 a2 a3 (bO k Y a3 m0) F) k z9 (0,r8.2) (fun _=>rfl) h (bi [.obj u 80 (.at bD a3),.obj b1 85 (.rep (.arr 3 (.arr 5 (.int .i64))) a0),.obj x 154 (.eq (.func (.yield l) #[] #[])),.obj c 155 (.eq (.func (.func 90) #[] #[(Pv u),(Pv x),(Pv c)]))] (E z9 r8.2) [0,3,2,1] ⟨rfl,rfl,rfl,rfl,rfl,rfl,rfl,rfl,rfl,trivial⟩ rfl) (fun n J y h=>?_)));unfold bT at h;refine sr (jb (bq rfl) ?_);refine au ?_;refine ci h (fun h=>?_) (fun h=>?_)
     ·refine sk (eT (Z:=Z) (α:=σ) (fun X mc=>[(1,I a1),(2,.eq (.int .u8 a2)),(3,Pt u),(5,Pt c),(6,Pt b1),(10,Ri F),(51,Rs aJ a3.1.2.1),(52,I (a3.1.2.1.length:Int)),(53,I y.1)]) (fun X mc=>[.obj u 80 (.at bD a3),.obj c 155 (.eq (.func (.func 90) #[] #[(Pv u),(Pv x),(Pv c)])),.obj x 154 (.eq (.func (.yield l) #[] #[])),.obj b1 85 (.rep (.arr 3 (.arr 5 (.int .i64))) a0)]++E X mc) (fun e=>e=r) h (fun e h=>hR e h) (fun K hR h=>?_) (fun X mc h=>?_))
      ·refine aj (au ?_);obtain⟨Va,Vg,h⟩:=aa h;refine jb (aH (t:=aJ) rfl nn jl Vg) ?_;refine ja (an (t:=aJ) rfl jl rfl) ?_;refine aD rfl rfl rfl (aY rfl vg L2) trivial fun Vm=>?_;refine aq ?_;refine a8 rfl rfl (aX rfl jl rfl rfl rfl) ⟨rfl,rfl,trivial⟩ ?_;refine nt (ar (aI (Z:=Z) (α:=Bool×σ) (fun U O=>[(1,I a1),(2,.eq (.int .u8 a2)),(3,Pt u),(5,Pt c),(6,Pt b1),(10,Ri F),(11,I y.1),(51,Rs aJ a3.1.2.1),(52,I (a3.1.2.1.length:Int)),(53,I y.1),(80,.eq (.bool O.1))]) (fun U O=>[.obj u 80 (.at bD a3),.obj c 155 (.eq (.func (.func 90) #[] #[(Pv u),(Pv x),(Pv c)])),.obj x 154 (.eq (.func (.yield l) #[] #[])),.obj b1 85 (.rep (.arr 3 (.arr 5 (.int .i64))) a0)]++E U O.2) h (fun K h=>?_) (fun U O h=>?_)))
       ·refine bJ ?_;refine dm ?_;refine dm ?_;obtain⟨Vr,Vk,h⟩:=aa h;refine db (ao [.tmp 58,.tmp 59] rfl rfl LI rfl (iI k a2 y.1 Vr Vk)) ?_;refine kU rfl rfl rfl (aL rfl) ⟨rfl,trivial⟩ (fun hb=>?_) (fun hb=>?_)
        ·replace h:=cF (DO hb) h;iterate 17 refine dg ?_
         refine df cH ?_;refine au ?_;exact jg (J,(true,y.2)) h (bi [.obj Vm 35 (.rep aJ Va),.obj u 80 (.at bD a3),.obj c 155 (.eq (.func (.func 90) #[] #[(Pv u),(Pv x),(Pv c)])),.obj x 154 (.eq (.func (.yield l) #[] #[])),.obj b1 85 (.rep (.arr 3 (.arr 5 (.int .i64))) a0)] (E J y.2) [1,2,3,4] ⟨rfl,rfl,rfl,rfl,rfl,rfl,rfl,rfl,rfl,rfl,rfl,trivial⟩ rfl)
        ·replace h:=bM (DT hb) h;refine ko 1 rfl rfl rfl rfl rfl rfl (ai rfl uL jw rfl) ⟨rfl,rfl,trivial⟩ ?_;refine aV rfl rfl rfl rfl rfl (dN rfl) ⟨rfl,rfl,trivial⟩ ?_;refine aV rfl rfl rfl rfl rfl (aG 3 true rfl kl rfl) ⟨rfl,rfl,trivial⟩ ?_;refine aV rfl rfl rfl rfl rfl (an (t:=ak) rfl c6 rfl) ⟨rfl,rfl,trivial⟩ ?_;refine aV rfl rfl rfl rfl rfl (aL rfl) ⟨rfl,rfl,trivial⟩ ?_;obtain⟨Vq,Vj,h⟩:=aa h;refine aV rfl rfl rfl rfl rfl (ao [.tmp 65,.tmp 66] rfl rfl Q1 rfl (uo k a3.1 F Vq Vj)) ⟨rfl,rfl,rfl,trivial⟩ ?_;refine aV rfl rfl rfl rfl rfl (av rfl kJ) ⟨rfl,rfl,trivial⟩ ?_;refine ko 0 rfl rfl rfl rfl rfl rfl (ai rfl ct jw rfl) ⟨rfl,rfl,trivial⟩ ?_;obtain⟨Vp,Vf,h⟩:=aa h;refine aV rfl rfl rfl rfl rfl (be rfl Vf) ⟨rfl,rfl,rfl,trivial⟩ ?_;refine ko 1 rfl rfl rfl rfl rfl rfl (ai rfl uL jw rfl) ⟨rfl,rfl,trivial⟩ ?_;refine aV rfl rfl rfl rfl rfl (dN rfl) ⟨rfl,rfl,trivial⟩ ?_;refine aV rfl rfl rfl rfl rfl (aG 3 true rfl kl rfl) ⟨rfl,rfl,trivial⟩ ?_;refine aV rfl rfl rfl rfl rfl (aG 1 false rfl cM rfl) ⟨rfl,rfl,trivial⟩ ?_;refine aV rfl rfl rfl rfl rfl (an (t:=(.slice (.int .i64))) rfl bZ rfl) ⟨rfl,rfl,trivial⟩ ?_;refine aV rfl rfl rfl rfl rfl (aL rfl) ⟨rfl,rfl,trivial⟩ ?_;obtain⟨Vo,Ve,h⟩:=aa h;refine aV rfl rfl rfl rfl rfl (aH (t:=(.int .i64)) rfl dP ct Ve) ⟨rfl,rfl,rfl,trivial⟩ ?_;refine aV rfl rfl rfl rfl rfl (an (t:=(.int .i64)) rfl ct rfl) ⟨rfl,rfl,trivial⟩ ?_;refine df cH ?_;refine gb (jv rfl) ?_;refine au ?_;exact jg (J,(decide (Vo < Vp),y.2)) h (bi [.obj Vm 35 (.rep aJ Va),.obj u 80 (.at bD a3),.obj c 155 (.eq (.func (.func 90) #[] #[(Pv u),(Pv x),(Pv c)])),.obj x 154 (.eq (.func (.yield l) #[] #[])),.obj b1 85 (.rep (.arr 3 (.arr 5 (.int .i64))) a0)] (E J y.2) [1,2,3,4] ⟨rfl,rfl,rfl,rfl,rfl,rfl,rfl,rfl,rfl,rfl,rfl,trivial⟩ rfl)
       ·refine cv h (fun h=>?_) (fun h=>?_)
        ·refine au ?_;exact jg (U,O.2) h (bi [.obj u 80 (.at bD a3),.obj c 155 (.eq (.func (.func 90) #[] #[(Pv u),(Pv x),(Pv c)])),.obj x 154 (.eq (.func (.yield l) #[] #[])),.obj b1 85 (.rep (.arr 3 (.arr 5 (.int .i64))) a0)] (E U O.2) [0,1,2,3] ⟨rfl,rfl,rfl,rfl,rfl,rfl,rfl,rfl,rfl,trivial⟩ rfl)
        ·refine sk (sr (fr 3 ?_));refine lo fP ?_;refine aD rfl rfl rfl (aY rfl rT s8) trivial fun U8=>?_;refine a8 rfl rfl (aX rfl fP rfl rfl rfl) ⟨rfl,rfl,trivial⟩ ?_;refine au ?_;refine ol dP ?_;refine mq ?_;obtain⟨Vx,U4,h⟩:=aa h;refine jb (iV rfl SD He (aA U4).1 (aA U4).2) ?_;obtain⟨ac,Vd,h⟩:=aa h;obtain⟨Vw,Q,h⟩:=aa h;refine jb (iV rfl SG ct (aA Q).1 (aA Q).2) ?_;refine a8 rfl rfl (ox (t:=(.int .i64)) (off:=0) (i:=a1) (j:=(F.length:Int)) (N:=3) (L:=5) rfl ct .int rfl rfl rfl rfl Vd (aA Q).1 (aA Q).2 rfl) ⟨rfl,rfl,trivial⟩ ?_;refine au ?_;refine bJ ?_;refine ea 3 (ai rfl DZ jw rfl) ?_;refine ea 0 (ai rfl fP (uA) rfl) ?_;refine dm ?_;refine dm ?_;refine dm ?_;obtain⟨U7,Vi,h⟩:=aa h;refine db (ao [.tmp 91,.tmp 92] rfl rfl LF rfl (jD k a2 y.1 U7 Vi)) ?_;refine df cH ?_;obtain⟨se,Vh,h⟩:=aa h;refine fr 3 ?_;refine fr 4 ?_;refine fr 4 ?_;refine fr 4 ?_;refine fr 4 ?_;refine qe [.obj U8 85 (.rep (.arr 3 (.arr 5 (.int .i64))) (List.set a0 (Int.toNat a1) (List.set ac (Int.toNat (F.length:Int)) y.1))),.obj b1 85 (.rep (.arr 3 (.arr 5 (.int .i64))) a0)] rfl rfl rfl (pC (fs:=[]) (cs:=[(Pv u),(Pv x),(Pv c)]) (ags:=[.rep (.arr 3 (.arr 5 (.int .i64))) (List.set a0 (Int.toNat a1) (List.set ac (Int.toNat (F.length:Int)) y.1)),I a1,.eq (.int .u8 U7)]) [.tmp 89,.tmp 90,.tmp 93] rfl rfl OF rfl (ih (List.set a0 (Int.toNat a1) (List.set ac (Int.toNat (F.length:Int)) y.1)) a1 U7 U O.2 se Vh)) ⟨rfl,rfl,rfl,rfl,trivial⟩ fun pp=>?_;refine ja (eW rfl) ?_;refine nt (cw h (fun h=>?_) (fun h=>?_))
         ·refine sr (cq (nt (bI (br (mC (eC ?_))))));refine bu (bi (Γ':=[(9,_)]) [.obj U8 85 (.rep (.arr 3 (.arr 5 (.int .i64))) (List.set a0 (Int.toNat a1) (List.set ac (Int.toNat (F.length:Int)) y.1))),.obj b1 85 (.rep (.arr 3 (.arr 5 (.int .i64))) a0),.obj u 80 (.at bD a3),.obj x 154 (.eq (.func (.yield l) #[] #[])),.obj c 155 (.eq (.func (.func 90) #[] #[(Pv u),(Pv x),(Pv c)]))] (E pp se.2) [2,3,4] ⟨rfl,trivial⟩ rfl) ?_;obtain rfl:=hR _ h;exact jh pp [_] ⟨rfl,trivial⟩ rfl
         ·refine au ?_;exact jg (pp,se.2) h (bi [.obj U8 85 (.rep (.arr 3 (.arr 5 (.int .i64))) (List.set a0 (Int.toNat a1) (List.set ac (Int.toNat (F.length:Int)) y.1))),.obj b1 85 (.rep (.arr 3 (.arr 5 (.int .i64))) a0),.obj u 80 (.at bD a3),.obj x 154 (.eq (.func (.yield l) #[] #[])),.obj c 155 (.eq (.func (.func 90) #[] #[(Pv u),(Pv x),(Pv c)]))] (E pp se.2) [2,4,3,1] ⟨rfl,rfl,rfl,rfl,rfl,rfl,rfl,rfl,rfl,trivial⟩ rfl)
      ·refine ab ?_;obtain⟨Vn,Vb,h⟩:=aa h;refine jb (be rfl Vb) ?_;refine au ?_;exact jg (X,(Vn,mc)) h (bi [.obj u 80 (.at bD a3),.obj c 155 (.eq (.func (.func 90) #[] #[(Pv u),(Pv x),(Pv c)])),.obj x 154 (.eq (.func (.yield l) #[] #[])),.obj b1 85 (.rep (.arr 3 (.arr 5 (.int .i64))) a0)] (E X mc) [0,1,2,3] ⟨rfl,rfl,rfl,rfl,rfl,rfl,rfl,rfl,rfl,trivial⟩ rfl)
     ·refine au ?_;exact jg (J,y.2) h (bi [.obj u 80 (.at bD a3),.obj c 155 (.eq (.func (.func 90) #[] #[(Pv u),(Pv x),(Pv c)])),.obj x 154 (.eq (.func (.yield l) #[] #[])),.obj b1 85 (.rep (.arr 3 (.arr 5 (.int .i64))) a0)] (E J y.2) [0,2,1] trivial rfl)
    ·refine au ?_;cases h;exact jh qt [_] ⟨rfl,trivial⟩ rfl
def dH{σ:Type}(k:Nat)(Y:σ→(List (List Int))→Option (σ×Bool))(a1:dr)(s0:σ):Option (σ):=
 (dZ k ([]:(List (List Int)))).bind fun r2=>
 (bO k Y a1 k r2 0 0 s0).bind fun r5=>
 some r5.2
theorem jV{M:Md Tryz.prog}{σ Z:Type}(E:Z→σ→List D)(l:Nat)(Y:σ→(List (List Int))→Option (σ×Bool))(k:Nat)(a1:dr)(c:Nat)(hY:∀z s p r,Y s p=some r→YT M l [.rep (.arr 3 (.arr 5 (.int .i64))) p] (E z s) (fun z':Z=>(.eq (.bool r.2),E z' r.1))):
 ∀(z0:Z) (s0:σ) (r:σ),dH k Y a1 s0=some r→dC M 89 [.eq (.func (.yield l) #[] #[]),Pt c] ([.obj c 80 (.at bD a1)]++E z0 s0) (fun z:Z=>(bj [],[.obj c 80 (.at bD a1)]++E z r)):=by
 intro z0 s0 r h
 unfold dH at h
 replace h:=a9 h
 refine dC.of 10 Tryz.func89 rfl Tryz.ntmps89 rfl fun S w0=>?_
 refine sr ?_
 refine bx fun b1=>?_
 refine au ?_
 obtain⟨r2,j,h⟩:=aa h
 have u:=fq k ([]:(List (List Int))) r2 j
 refine ja (cV (N:=[(.const (.slice none 0 0),.eq (.slice none 0 0))]) (ao [.const (.slice none 0 0)] rfl rfl F8 rfl u) fun _ _ _ hn=>⟨(fL (t:=(.slice (.slice (.int .i64)))) (x:=([]:(List (List Int)))) .nil rfl rfl hn.1),trivial⟩) ?_
 refine aD rfl rfl rfl (aY rfl rT s8) trivial fun b3=>?_
 refine a8 rfl rfl (aX rfl fP rfl rfl rfl) ⟨rfl,rfl,trivial⟩ ?_
 refine au ?_
 refine aD rfl rfl rfl (aY rfl PQ RS) trivial fun b4=>?_
 refine au ?_
 refine jc (tQ [] [.tmp 1,.tmp 2,.tmp 4] [] [(Pv c),(Pv b1),(Pv b4)] rfl rfl rfl) ?_
 refine a8 rfl rfl (aX rfl DZ rfl rfl rfl) ⟨rfl,rfl,trivial⟩ ?_
 refine nt ?_
 refine ab ?_
 refine lo DZ ?_
 refine fr 1 ?_
 refine lo fP ?_
 obtain⟨r5,e,h⟩:=aa h
 have n:=m9 E l Y k a1 c b1 b4 hY k r2 0 0 z0 s0 r5 e
 refine fr 1 ?_
 refine fr 2 ?_
 refine fr 3 ?_
 refine fr 3 ?_
 refine qe [.obj b3 85 (.rep (.arr 3 (.arr 5 (.int .i64))) r2)] rfl rfl rfl (pC (fs:=[]) (cs:=[(Pv c),(Pv b1),(Pv b4)]) (ags:=[.rep (.arr 3 (.arr 5 (.int .i64))) r2,I 0,.eq (.int .u8 0)]) [.tmp 8,.const (.int .i64 (0)),.const (.int .u8 (0))] rfl rfl OF rfl n) ⟨rfl,rfl,rfl,rfl,trivial⟩ fun z6=>?_
 refine ax ?_
 refine jB ?_
 refine bu (bi (Γ':=[]) [.obj b3 85 (.rep (.arr 3 (.arr 5 (.int .i64))) r2),.obj c 80 (.at bD a1),.obj b1 154 (.eq (.func (.yield l) #[] #[])),.obj b4 155 (.eq (.func (.func 90) #[] #[(Pv c),(Pv b1),(Pv b4)]))] (E z6 r5.2) [1] trivial rfl) ?_
 cases h
 exact jh z6 [] trivial rfl
def hH(k:Nat)(a1:dr):Option (List (List (List Int))):=
 (dH k (l6 (fun(y2:(List (List (List Int)))) (p4:(List (List Int)))=>
  (cU (bm (List.length y2+List.length [p4]))).bind fun _=>
  some (y2++[p4],true))) a1 (([]:(List (List (List Int)))),false)).bind fun r5=>
 if r5.2=true then(none) else(some r5.1)
theorem o6(k:Nat)(a1:dr)(c:Nat)(r:(List (List (List Int))))(h:hH k a1=some r):
 bX Tryz.prog 88 [.eq (.slice none 0 0),.eq (.func (.func 89) #[] #[(Pv c)])] [.obj c 80 (.at bD a1)] (fun z:Value=>(bj [.eq z],[.sl z 85 (.arr 3 (.arr 5 (.int .i64))) r,.obj c 80 (.at bD a1)])):=by
 unfold hH at h
 replace h:=a9 h
 refine zo 13 Tryz.func88 rfl Tryz.ntmps88 rfl fun {M} S w0=>?_
 refine sr ?_
 refine bx fun b1=>?_
 refine au ?_
 refine aj ?_
 refine dG (SE.nil 85 (.arr 3 (.arr 5 (.int .i64)))) ?_
 refine eJ 1 rfl ?_
 refine eJ 2 rfl ?_
 obtain⟨r5,j,h⟩:=aa h
 refine lG (Δ:=[.obj c 80 (.at bD a1),.obj b1 102 (.eq (.slice none 0 0)),.sl (.slice none 0 0) 85 (.arr 3 (.arr 5 (.int .i64))) ([]:(List (List (List Int))))]) (F:=[]) (X:=Value) (J:=fun _=>GO r5.2) (E:=fun z3=>[.obj c 80 (.at bD a1),.obj b1 102 (.eq z3),.sl z3 85 (.arr 3 (.arr 5 (.int .i64))) r5.1]) (r0:=fun _=>.tup .any) rfl rfl Q2 (fun rec hp ha hb hs hpe hN hv l=>?_) (fun dl z3=>og (fun hj=>?_) (fun hj=>?_))
 ·
  rcases rec with⟨st0,pe0,fn0,tm0,ps0,as0,bd0,df0⟩;dsimp only at hp ha hb hs hpe hN hv;subst hp hs hpe;have vN:uT tm0 [(2,Pt b1)]:=⟨congrArg A.eq (hv 2 _ rfl).symm,trivial⟩;refine dC.pick (M:=M) [1,0,2,3] [1,0,2,3] (jV (fun(z3:Value) (q:(List (List (List Int)))×Bool)=>[.raw l (.loop (jm ⟨.ready,none,fn0,tm0, #[7],as0,bd0,df0⟩ (GO q.2))),.obj b1 102 (.eq z3),.sl z3 85 (.arr 3 (.arr 5 (.int .i64))) q.1]) l (l6 (fun(y2:(List (List (List Int)))) (p4:(List (List Int)))=>
  (cU (bm (List.length y2+List.length [p4]))).bind fun _=>
  some (y2++[p4],true))) k a1 c (fun z3 q p r' h=>?_) (.slice none 0 0) (([]:(List (List (List Int)))),false) r5 j) rfl (fun _=>rfl) (fun _=>rfl)
  obtain⟨rq,hq,h2,rfl⟩:=oh h;obtain⟨y2,b5⟩:=q;obtain rfl:b5=false:=hq;replace h:=a9 h2;obtain⟨p4,hpv⟩:∃x,x=p:=⟨_,rfl⟩;subst hpv;refine YT.pick (R':=(fun z3:Value=>(.eq (.bool rq.2),[.raw l (.loop (jm ⟨.ready,none,fn0,tm0, #[7],as0,bd0,df0⟩ (GO (!rq.2)))),.obj b1 102 (.eq z3),.sl z3 85 (.arr 3 (.arr 5 (.int .i64))) rq.1]))) [0,1,2] [0,1,2] (Dw ha hb (N:=13) (Γ:=[(2,Pt b1)]) rfl hN (by decide) vN (fun S w=>?_)) rfl (fun _=>rfl) (fun _=>rfl);refine ab (aD rfl rfl rfl (aY rfl rT s8) trivial fun b6=>?_);refine a8 rfl rfl (aX rfl fP rfl rfl rfl) ⟨rfl,rfl,trivial⟩ ?_;refine nl (bH 1 rfl ?_);refine tf rfl rfl ?_;refine aj (ab (fr 2 ?_));refine lo Hg ?_;refine fr 2 ?_;refine lo fP ?_;refine ja (bg (t:=(.arr 3 (.arr 5 (.int .i64)))) [(.tmp 9,_)] [p4] rfl rfl M4 (.cons rfl .rep .nil) rfl rfl) ?_;obtain⟨u7,e,h⟩:=aa h;refine fr 3 ?_;refine cz rfl rfl rfl (bf rfl rfl M4 (aA e)) ⟨rfl,rfl,trivial⟩ fun v8=>?_;refine qf fun o9=>?_;refine fr 2 ?_;refine a8 rfl rfl (aX rfl Hg o9 rfl rfl) ⟨rfl,rfl,trivial⟩ ?_;refine ax (bS (bH 1 rfl ?_));refine bH 1 rfl ?_;refine bH 3 rfl ?_;cases h;exact nV v8 2 rfl
 ·
  replace h:=bM (DT hj) h;refine bS (tn (sr (fr 2 ?_)));refine lo Hg ?_;refine aq (nt (bI ?_));refine bH 1 rfl ?_;refine vd ?_;refine bu (SE.fin (Γ':=[(4,_)]) [2,1,0] ⟨rfl,trivial⟩ rfl) ?_;cases h;exact aN z3 [.eq z3] 2 ⟨rfl,trivial⟩ rfl
 ·
  replace h:=cF (DO hj) h;cases h
def gx(k:Nat)(a0:dr):Option (List (List (List Int))):=
 (hH k a0).bind fun r1=>
 some r1
theorem qQ(k:Nat)(a0:dr)(c:Nat)(r:(List (List (List Int))))(h:gx k a0=some r):
 bX Tryz.prog 56 [.eq (.func (.func 89) #[] #[(Pv c)])] [.obj c 80 (.at bD a0)] (fun _:Unit=>(bj [.rep (.slice (.arr 3 (.arr 5 (.int .i64)))) r],[.obj c 80 (.at bD a0)])):=by
 unfold gx at h
 replace h:=a9 h
 refine bX.of 5 Tryz.func56 rfl Tryz.ntmps56 rfl fun S w0=>?_
 refine sr ?_
 refine cq ?_
 refine nt ?_
 refine sr ?_
 refine mq ?_
 obtain⟨r1,e,h⟩:=aa h
 have j:=o6 k a0 c r1 e
 refine bN (Δ:=[_]) (F:=_) (fun _ _ _=>ay rfl _) rfl rfl (ao [.const (.slice none 0 0),.tmp 3] rfl rfl TP rfl j) ⟨rfl,rfl,trivial⟩ fun z2=>?_
 refine aq ?_
 refine nt ?_
 refine bI ?_
 refine bu (dM [2,4] ⟨rfl,rfl,trivial⟩) ?_
 cases h
 exact aN () [_] 1 ⟨rfl,trivial⟩ rfl
theorem kW(a0:dr):bX Tryz.prog 57 [.at bD a0] [] (fun z:Nat=>(bj [.eq (.func (.func 89) #[] #[(Pv z)])],[.obj z 80 (.at bD a0)])):=by
 refine bX.of 4 Tryz.func57 rfl Tryz.ntmps57 rfl fun S w0=>?_;refine sr (aD rfl rfl rfl (oV rfl trivial) ⟨rfl,trivial⟩ fun z=>?_);refine au ?_;refine ja (tQ [] [.tmp 1] [] [(Pv z)] rfl rfl rfl) ?_;refine au ?_;exact aN z [_] 1 ⟨rfl,trivial⟩ rfl
def kQ(k:Nat)(a0:List Int):Option (List Int):=
 (cU (bm (List.length a0))).bind fun _=>some a0
theorem nC(k:Nat)(a0:List Int)(r:List Int)(h:kQ k a0=some r):
 bX Tryz.prog 59 [Ri a0] [] (fun z:Value=>(bj [.eq z],[.sl z 3 (.int .i64) r])):=by
 unfold kQ at h
 replace h:=a9 h
 refine bX.of 8 Tryz.func59 rfl Tryz.ntmps59 rfl fun S w0=>?_
 obtain⟨u1,c,h⟩:=aa h
 cases h
 refine sr ?_
 refine cq ?_
 refine nt ?_
 refine ar ?_
 refine sr ?_
 refine mq ?_
 refine bN (Δ:=[]) (F:=_) (fun _ _ _=>ay rfl _) rfl rfl (KL rfl dP) ⟨rfl,rfl,trivial⟩ fun b=>?_
 refine nt ?_
 refine bK rfl (fun hb=>?_) (fun hb=>?_)
 ·
  refine sr (cq (nt (rx ?_)));obtain rfl:=b.2 hb;refine bu (SE.nil 3 (.int .i64)) ?_;exact aN (.slice none 0 0) [.eq (.slice none 0 0)] 1 ⟨rfl,trivial⟩ rfl
 ·
  refine au ?_;refine aD rfl rfl rfl (ib (t:=(.int .i64)) [] [] rfl rfl dk .nil rfl rfl) trivial fun v1=>?_;refine mq ?_;refine cz rfl rfl rfl (bf rfl rfl dk (by simpa using aA c)) ⟨rfl,rfl,trivial⟩ fun v2=>?_;refine au ?_;exact aN v2 [.eq v2] 1 ⟨rfl,trivial⟩ rfl
def jC(k:Nat)(a0:dr)(a1:(List (List Int)))(a2:Int):Nat→(Int×(List (List Int))×Int)→Option (Int×(List (List Int)))
 |0,_=>none
 |n+1,y5=>
  if y5.2.2 < 3 then((dU k a1 y5.2.2).bind fun r7=>
  (ip k a0 a2).bind fun r8=>
  (ny k r7 r8).bind fun r9=>
  (cU (bm (List.length y5.2.1+List.length [r9.2]))).bind fun _=>
  (ck (y5.2.2+1)).bind fun c=>
  jC k a0 a1 a2 n (Ei .u8 y5.1 r9.1,y5.2.1++[r9.2],c)) else(some (y5.1,y5.2.1))
def lB(k:Nat)(a0:dr)(a1:(List (List Int)))(a2:Int):Option (Int×(List (List Int))):=
 ((jC k a0 a1 a2 k (0,([]:(List (List Int))),0)):Option (Int×(List (List Int)))).bind fun x3=>
 (dZ k x3.2).bind fun c=>
 some (x3.1,c)
theorem oQ(k:Nat)(a0:dr)(a1:(List (List Int)))(a2:Int)(r:Int×(List (List Int)))(h:lB k a0 a1 a2=some r):
 bX Tryz.prog 70 [.at bD a0,.rep (.arr 3 (.arr 5 (.int .i64))) a1,I a2] [] (fun _:Unit=>(bj [.eq (.int .u8 r.1),.rep (.arr 3 (.arr 5 (.int .i64))) r.2],[])):=by
 unfold lB at h
 replace h:=a9 h
 refine bX.of 37 Tryz.func70 rfl Tryz.ntmps70 rfl fun S w0=>?_
 refine sr ?_
 refine bx fun b1=>?_
 refine cq ?_
 refine aD rfl rfl rfl (aY rfl rT s8) trivial fun b2=>?_
 refine nt ?_
 refine sr ?_
 refine cq ?_
 refine nt ?_
 refine sr ?_
 refine cq ?_
 refine nt ?_
 refine aI (Z:=Value) (α:=Int×(List (List Int))) (fun z4 x3=>[(7,Pt b2),(8,.eq (.int .u8 x3.1)),(9,.eq z4)]) (fun z4 x3=>[.obj b2 85 (.rep (.arr 3 (.arr 5 (.int .i64))) [[0,0,0,0,0],[0,0,0,0,0],[0,0,0,0,0]]),.sl z4 22 (.slice (.int .i64)) x3.2]) h (fun K h=>?_) (fun z4 x3 h=>?_)
 ·
  refine sr (ff rfl ?_);refine nt (aj (dG (SE.nil 22 (.slice (.int .i64))) ?_));refine aK (fun z6 y5=>[(0,.at bD a0),(2,I a2),(4,Pt b1),(7,Pt b2),(8,.eq (.int .u8 y5.1)),(9,.eq z6),(13,I y5.2.2)]) (fun z6 y5=>[.obj b1 85 (.rep (.arr 3 (.arr 5 (.int .i64))) a1),.obj b2 85 (.rep (.arr 3 (.arr 5 (.int .i64))) [[0,0,0,0,0],[0,0,0,0,0],[0,0,0,0,0]]),.sl z6 22 (.slice (.int .i64)) y5.2.1]) (jC k a0 a1 a2) k (.slice none 0 0) (0,([]:(List (List Int))),0) (fun _=>rfl) h (SE.fin [2,1,0] ⟨rfl,rfl,rfl,rfl,rfl,rfl,rfl,trivial⟩ rfl) (fun n z6 y5 h=>?_);unfold jC at h;refine sr (jb (bq rfl) ?_);refine au ?_;refine ci h (fun h=>?_) (fun h=>?_)
  ·refine au ?_;refine aj (au ?_);refine lo fP ?_;refine mq ?_;obtain⟨r7,D,h⟩:=aa h;refine jb (ao [.tmp 17,.tmp 18] rfl rfl LH rfl (gr k a1 y5.2.2 r7 D)) ?_;refine au ?_;obtain⟨r8,y,h⟩:=aa h;refine jb (ao [.tmp 20,.tmp 21] rfl rfl TK rfl (nv k a0 a2 r8 y)) ?_;obtain⟨r9,x,h⟩:=aa h;refine jb (ao [.tmp 19,.tmp 22] rfl rfl TL rfl (uq k r7 r8 r9 x)) ?_;refine au ?_;refine jb (Qc rfl) ?_;refine au ?_;refine ab (au ?_);refine ja (bg (t:=(.slice (.int .i64))) [(.tmp 30,_)] [r9.2] rfl rfl mI (.cons rfl .rep .nil) rfl rfl) ?_;obtain⟨E,j,h⟩:=aa h;refine fr 2 ?_;refine cz rfl rfl rfl (bf rfl rfl mI (aA j)) ⟨rfl,rfl,trivial⟩ fun u=>?_;refine au ?_;refine ab ?_;obtain⟨s,e,h⟩:=aa h;refine jb (be rfl e) ?_;refine au ?_;exact jz (u,(Ei .u8 y5.1 r9.1,y5.2.1++[r9.2],s)) h [1,2,0]
  ·refine au ?_;exact jz (z6,(y5.1,y5.2.1)) h [1,2]
 ·
  refine sr ?_;iterate 2 refine mq ?_
  obtain⟨c,l,h⟩:=aa h;refine fr 1 ?_;refine ka (Dy (N:=[(.tmp 35,.eq z4)]) (ao [.tmp 35] rfl rfl F8 rfl (fq k x3.2 c l)) (fun _ _ _ hv hn=>⟨(lend hn.1 hv),trivial⟩) (fun _=>⟨rfl,IZ⟩)) ?_;refine aq ?_;refine fr 1 ?_;refine a8 rfl rfl (aX rfl fP rfl rfl rfl) ⟨rfl,rfl,trivial⟩ ?_;refine au ?_;cases h;exact aN () [_,.rep (.arr 3 (.arr 5 (.int .i64))) c] 0 ⟨rfl,⟨_,_,_,_,_,rfl,(.head _),fP,(uA),rfl⟩,trivial⟩ rfl
def kZ(k:Nat)(a0:(List Int)):Option aP:=
 ((if(a0.length:Int)=0 then(some [3,2]) else(some a0)):Option ((List Int))).bind fun x2=>
 some (3,[(1,[0,2]),(1,[1]),(2,[2]),(1,[0,1])],x2)
theorem jR(k:Nat)(a0:(List Int))(r:aP)(h:kZ k a0=some r):
 bX Tryz.prog 35 [Ri a0] [] (fun _:Unit=>(bj [.rep ak r],[])):=by
 unfold kZ at h
 replace h:=a9 h
 refine bX.of 18 Tryz.func35 rfl Tryz.ntmps35 rfl fun S w0=>?_
 refine sr ?_
 refine aD rfl rfl rfl (aY rfl lz nU) trivial fun b1=>?_
 refine nt ?_
 refine aI (Z:=Unit) (α:=(List Int)) (fun z3 x2=>[(0,Ri x2),(2,Pt b1)]) (fun z3 x2=>[.obj b1 27 (.agg (.pair (I 0) (.pair (.eq (.slice none 0 0)) (.eq (.slice none 0 0)))))]) h (fun K h=>?_) (fun z3 x2 h=>?_)
 ·
  refine au ?_;refine ol dP ?_;refine jb (dO rfl) ?_;refine nt (ci h (fun h=>?_) (fun h=>?_))
  ·refine ab (jb (bg (t:=(.int .i64)) [(.const (.int .i64 (3)),_),(.const (.int .i64 (2)),_)] [3,2] rfl rfl dk (.cons rfl .int (.cons rfl .int .nil)) rfl rfl) ?_);refine au ?_;exact jz ((),[3,2]) h [0]
  ·refine au ?_;exact jz ((),a0) h [0]
 ·
  refine sr (jb (bg (t:=(.int .i64)) [(.const (.int .i64 (0)),_),(.const (.int .i64 (2)),_)] [0,2] rfl rfl dk (.cons rfl .int (.cons rfl .int .nil)) rfl rfl) ?_);refine jb (c9 [(0,.const (.int .i64 (1)),_),(1,.tmp 7,_)] rfl CC vg wu (iM ⟨rfl,rfl,trivial⟩) rfl) ?_;refine ja (bg (t:=(.int .i64)) [(.const (.int .i64 (1)),_)] [1] rfl rfl dk (.cons rfl .int .nil) rfl rfl) ?_;refine jb (c9 [(0,.const (.int .i64 (1)),_),(1,.tmp 9,_)] rfl CC vg wu (iM ⟨rfl,rfl,trivial⟩) rfl) ?_;refine ja (bg (t:=(.int .i64)) [(.const (.int .i64 (2)),_)] [2] rfl rfl dk (.cons rfl .int .nil) rfl rfl) ?_;refine jb (c9 [(0,.const (.int .i64 (2)),_),(1,.tmp 11,_)] rfl CC vg wu (iM ⟨rfl,rfl,trivial⟩) rfl) ?_;refine jb (bg (t:=(.int .i64)) [(.const (.int .i64 (0)),_),(.const (.int .i64 (1)),_)] [0,1] rfl rfl dk (.cons rfl .int (.cons rfl .int .nil)) rfl rfl) ?_;refine jb (c9 [(0,.const (.int .i64 (1)),_),(1,.tmp 13,_)] rfl CC vg wu (iM ⟨rfl,rfl,trivial⟩) rfl) ?_;refine aF rfl (bg (t:=aJ) [(.tmp 8,_),(.tmp 10,_),(.tmp 12,_),(.tmp 14,_)] [(1,[0,2]),(1,[1]),(2,[2]),(1,[0,1])] rfl rfl BY (.cons trivial (.agg (.pair .int .rep)) (.cons trivial (.agg (.pair .int .rep)) (.cons trivial (.agg (.pair .int .rep)) (.cons trivial (.agg (.pair .int .rep)) .nil)))) rfl rfl) ⟨rfl,rfl,rfl,rfl,trivial⟩ ?_;refine mq ?_;refine jc (c9 [(0,.const (.int .i64 (3)),_),(1,.tmp 15,_),(2,.tmp 16,_)] rfl KF lz EE (iM ⟨rfl,rfl,rfl,trivial⟩) rfl) ?_;refine a8 rfl rfl (aX rfl c6 trivial rfl rfl) ⟨rfl,rfl,trivial⟩ ?_;refine nt (bI (bu (qL (a:=.agg (.pair (I 3) (.pair (Rs aJ [(1,[0,2]),(1,[1]),(2,[2]),(1,[0,1])]) (Ri x2)))) (a':=.rep ak (3,[(1,[0,2]),(1,[1]),(2,[2]),(1,[0,1])],x2)) (zq (.agg (.pair .int (.pair .rep .rep))))) ?_));cases h;exact aN () [.rep ak (3,[(1,[0,2]),(1,[1]),(2,[2]),(1,[0,1])],x2)] 0 ⟨⟨_,_,_,_,_,rfl,(.head _),c6,(uA),rfl⟩,trivial⟩ rfl
def xE(k:Nat):Option (List (List Int)):=
 some [[1,0,3],[2]]
theorem sL(k:Nat)(r:(List (List Int)))(h:xE k=some r):
 bX Tryz.prog 36 [] [] (fun _:Unit=>(bj [.rep (.slice (.slice (.int .i64))) r],[])):=by
 unfold xE at h
 replace h:=a9 h
 refine bX.of 4 Tryz.func36 rfl Tryz.ntmps36 rfl fun S w0=>?_
 refine au ?_
 refine jc (bg (t:=(.int .i64)) [(.const (.int .i64 (1)),_),(.const (.int .i64 (0)),_),(.const (.int .i64 (3)),_)] [1,0,3] rfl rfl dk (.cons rfl .int (.cons rfl .int (.cons rfl .int .nil))) rfl rfl) ?_
 refine ja (bg (t:=(.int .i64)) [(.const (.int .i64 (2)),_)] [2] rfl rfl dk (.cons rfl .int .nil) rfl rfl) ?_
 refine jb (bg (t:=(.slice (.int .i64))) [(.tmp 1,_),(.tmp 2,_)] [[1,0,3],[2]] rfl rfl mI (.cons rfl .rep (.cons rfl .rep .nil)) rfl rfl) ?_
 refine au ?_
 cases h
 exact ra
def IB(k:Nat):Option (List (List Int)):=
 some [[0,2],[3,1]]
theorem IA(k:Nat)(r:(List (List Int)))(h:IB k=some r):
 bX Tryz.prog 37 [] [] (fun _:Unit=>(bj [.rep (.slice (.slice (.int .i64))) r],[])):=by
 unfold IB at h
 replace h:=a9 h
 refine bX.of 4 Tryz.func37 rfl Tryz.ntmps37 rfl fun S w0=>?_
 refine au ?_
 refine jb (bg (t:=(.int .i64)) [(.const (.int .i64 (0)),_),(.const (.int .i64 (2)),_)] [0,2] rfl rfl dk (.cons rfl .int (.cons rfl .int .nil)) rfl rfl) ?_
 refine jb (bg (t:=(.int .i64)) [(.const (.int .i64 (3)),_),(.const (.int .i64 (1)),_)] [3,1] rfl rfl dk (.cons rfl .int (.cons rfl .int .nil)) rfl rfl) ?_
 refine jb (bg (t:=(.slice (.int .i64))) [(.tmp 1,_),(.tmp 2,_)] [[0,2],[3,1]] rfl rfl mI (.cons rfl .rep (.cons rfl .rep .nil)) rfl rfl) ?_
 refine au ?_
 cases h
 exact ra
def iy(k:Nat)(a0:dr)(a2:Int):Nat→((List (List Int))×Int)→Option (List (List Int))
 |0,_=>none
 |n+1,y5=>
  if y5.2 < a2 then((lB k a0 y5.1 y5.2).bind fun r7=>
  (ck (y5.2+1)).bind fun x8=>
  iy k a0 a2 n (r7.2,x8)) else(some y5.1)
def lV(k:Nat)(a0:dr)(a1:(List (List Int)))(a2:Int):Option (List (List Int)):=
 ((iy k a0 a2 k (a1,0)):Option ((List (List Int)))).bind fun x3=>
 some x3
theorem sa(k:Nat)(a0:dr)(a1:(List (List Int)))(a2:Int)(r:(List (List Int)))(h:lV k a0 a1 a2=some r):
 bX Tryz.prog 46 [.at bD a0,.rep (.arr 3 (.arr 5 (.int .i64))) a1,I a2] [] (fun _:Unit=>(bj [.rep (.arr 3 (.arr 5 (.int .i64))) r],[])):=by
 unfold lV at h
 replace h:=a9 h
 refine bX.of 21 Tryz.func46 rfl Tryz.ntmps46 rfl fun S w0=>?_
 refine sr ?_
 refine bx fun b1=>?_
 refine aD rfl rfl rfl (aY rfl rT s8) trivial fun b2=>?_
 refine nt ?_
 refine aI (Z:=Unit) (α:=(List (List Int))) (fun z4 x3=>[(4,Pt b1),(6,Pt b2)]) (fun z4 x3=>[.obj b1 85 (.rep (.arr 3 (.arr 5 (.int .i64))) x3),.obj b2 85 (.rep (.arr 3 (.arr 5 (.int .i64))) [[0,0,0,0,0],[0,0,0,0,0],[0,0,0,0,0]])]) h (fun K h=>?_) (fun z4 x3 h=>?_)
 ·
  refine au ?_;refine ff rfl ?_;refine nt (aj (aK (fun z6 y5=>[(0,.at bD a0),(4,Pt b1),(6,Pt b2),(8,I a2),(9,I y5.2)]) (fun z6 y5=>[.obj b1 85 (.rep (.arr 3 (.arr 5 (.int .i64))) y5.1),.obj b2 85 (.rep (.arr 3 (.arr 5 (.int .i64))) [[0,0,0,0,0],[0,0,0,0,0],[0,0,0,0,0]])]) (iy k a0 a2) k () (a1,0) (fun _=>rfl) h (SE.fin [1,0] ⟨rfl,rfl,rfl,rfl,rfl,trivial⟩ rfl) (fun n z6 y5 h=>?_)));unfold iy at h;refine sr (jb (bq rfl) ?_);refine au ?_;refine ci h (fun h=>?_) (fun h=>?_)
  ·refine au ?_;refine aj (au ?_);refine ab (mq ?_);refine lo fP ?_;refine mq ?_;obtain⟨r7,e,h⟩:=aa h;refine jc (ao [.tmp 13,.tmp 14,.tmp 15] rfl rfl Q6 rfl (oQ k a0 y5.1 y5.2 r7 e)) ?_;refine au ?_;refine a8 rfl rfl (aX rfl fP rfl rfl rfl) ⟨rfl,rfl,trivial⟩ ?_;refine au ?_;refine ab ?_;obtain⟨x8,c,h⟩:=aa h;refine jb (be rfl c) ?_;refine au ?_;exact jz ((),(r7.2,x8)) h [0,1]
  ·refine au ?_;exact jz ((),y5.1) h [0,1]
 ·
  refine sr (lo fP ?_);refine fr 1 ?_;refine a8 rfl rfl (aX rfl fP rfl rfl rfl) ⟨rfl,rfl,trivial⟩ ?_;refine au ?_;obtain rfl:=Option.some.inj h;exact aN () [.rep (.arr 3 (.arr 5 (.int .i64))) x3] 0 ⟨⟨_,_,_,_,_,rfl,(.head _),fP,(uA),rfl⟩,trivial⟩ rfl
def l9(k:Nat)(a0:List Int)(a1 a2:Int):Option (List Int):=
 (cU (0≤a1∧a1 < a2∧a2≤(a0.length:Int))).bind fun _=>some (a0.take a1.toNat++a0.drop a2.toNat)
theorem sq(k:Nat)(a0:List Int)(v:Value)(a1 a2:Int)(r:List Int)(h:l9 k a0 a1 a2=some r):bX Tryz.prog 105 [.eq v,.eq (.int .i64 a1),.eq (.int .i64 a2)] [.sl v 3 (.int .i64) a0] (fun z:Value=>(bj [.eq z],[.sl z 3 (.int .i64) r])):=by
 unfold l9 at h
 replace h:=a9 h
 obtain⟨u1,eg,h⟩:=aa h
 obtain⟨h1,h2,h3⟩:=aA eg
 obtain rfl:=Option.some.inj h
 refine bX.of 33 Tryz.func105 rfl Tryz.ntmps105 rfl fun S w0=>?_
 refine GG (fun e=>by rw [e] at h3;simp at h3;omega) fun b cap hv hcap=>?_
 subst hv
 have hl:(a0.take a1.toNat++a0.drop a2.toNat).length=a1.toNat+(a0.length - a2.toNat):=by simp;omega
 refine ar ?_
 refine ab ?_
 refine dF rfl ?_
 refine ax (ag ?_)
 show JC _ _ _ _ _
 refine ar ?_
 refine ab ?_
 refine aC rfl rfl ?_
 refine aC rfl rfl ?_
 refine aC rfl rfl ?_
 refine aC rfl rfl ?_
 refine bW rfl rfl rfl (dy rfl rfl dP) ⟨rfl,trivial⟩ ?_
 refine aF rfl (yB rfl dP ct h1 (by omega) h3 (by omega)) ⟨rfl,rfl,rfl,rfl,trivial⟩ ?_
 refine ax (ag ?_)
 show JC _ _ _ _ _
 refine ar ?_
 refine ar ?_
 refine ab ?_
 refine aC rfl rfl ?_
 refine aC rfl rfl ?_
 refine aF rfl (dO rfl) ⟨rfl,rfl,trivial⟩ ?_
 refine ax (ag ?_)
 show JC _ _ _ _ _
 refine bK rfl (fun hb=>absurd (of_decide_eq_true hb) (by omega)) (fun hb=>?_)
 refine cR (ag ?_)
 show JC _ _ _ _ _
 refine ar ?_
 refine ab ?_
 refine aC rfl rfl ?_
 refine bW rfl rfl rfl (dy rfl rfl dP) ⟨rfl,trivial⟩ ?_
 refine dn rfl rfl ?_
 refine ax (ag ?_)
 show JC _ _ _ _ _
 refine ar ?_
 refine bJ ?_
 refine du rfl rfl rfl (aL rfl) ⟨rfl,trivial⟩ ?_
 refine du rfl rfl rfl (aL rfl) ⟨rfl,trivial⟩ ?_
 refine du rfl rfl rfl (vL rfl dP ct h1 (by omega)) ⟨rfl,rfl,trivial⟩ ?_
 refine du rfl rfl rfl (aL rfl) ⟨rfl,trivial⟩ ?_
 refine du rfl rfl rfl (aL rfl) ⟨rfl,trivial⟩ ?_
 refine du rfl rfl rfl (CM rfl dP ct (by omega) h3) ⟨rfl,rfl,trivial⟩ ?_
 refine ul (by kernel_rfl) cH ?_
 refine cp (te 22 rfl fun _ _ _ h=>(D1▸h:(A.eq (.slice (some ⟨b,0,none⟩) a1.toNat cap)).holds _ _ _)) ?_
 refine bW rfl rfl rfl (yD (t:=.int .i64) (b:=b) (cap:=cap) (l:=a0) (i:=a1.toNat) (j:=a2.toNat) rfl rfl dk (by omega) (by omega) hcap) ⟨rfl,rfl,trivial⟩ ?_
 refine dn rfl rfl ?_
 refine ax (ag ?_)
 show JC _ _ _ _ _
 refine ar ?_
 refine ab ?_
 refine aC rfl rfl ?_
 refine aC rfl rfl ?_
 refine bW rfl rfl rfl (dy rfl rfl dP) ⟨rfl,trivial⟩ ?_
 refine aC rfl rfl ?_
 refine aF rfl (Ad rfl dP ct (by omega) (by rw [hl];omega) (by omega)) ⟨rfl,rfl,rfl,trivial⟩ ?_
 refine a8 rfl rfl (Ak (t:=.int .i64) (b:=b) (cap:=cap) (l:=a0.take a1.toNat++a0.drop a2.toNat) (n:=a0.length) rfl rfl dP rfl UP rfl rfl (by rw [hl];omega) hcap) ⟨rfl,trivial⟩ ?_
 refine ax (ag ?_)
 show JC _ _ _ _ _
 refine ar ?_
 refine ab ?_
 refine aC rfl rfl ?_
 refine dn rfl rfl ?_
 refine ax (ag ?_)
 show JC _ _ _ _ _
 refine bI ?_
 exact aN _ [.eq _] 1 ⟨rfl,trivial⟩ rfl
def kO(k:Nat)(x7:Int)(h:(List (List Int))):Nat→((List (List Int))×Int)→Option (List (List Int))
 |0,_=>none
 |n+1,c=>
  if c.2 < (h.length:Int) then((aQ h c.2).bind fun e=>
  (cU (bm (List.length [x7]+List.length e))).bind fun _=>
  (cU (bm (List.length c.1+List.length [[x7]++e]))).bind fun _=>
  (ck (c.2+1)).bind fun j=>
  kO k x7 h n (c.1++[[x7]++e],j)) else(some c.1)
def kP(k:Nat)(a0:(List Int))(self:(List Int)→Option ((List (List Int)))):Nat→((List (List Int))×Int)→Option (List (List Int))
 |0,_=>none
 |n+1,y3=>
  if y3.2 < (a0.length:Int) then((((aQ a0 y3.2).bind fun x7=>
  (kQ k a0).bind fun r8=>
  (ck (y3.2+1)).bind fun e=>
  (l9 k r8 y3.2 e).bind fun j=>
  (self j).bind fun h=>
  kO k x7 h k (y3.1,0)):Option ((List (List Int)))).bind fun x5=>
  (ck (y3.2+1)).bind fun c=>
  kP k a0 self n (x5,c)) else(some y3.1)
def lX(k:Nat):Nat→(List Int)→Option ((List (List Int)))
 |0,_=>none
 |m0+1,a0=>
  if(a0.length:Int)=0 then(some [[]]) else(((kP k a0 (lX k m0) k (([]:(List (List Int))),0)):Option ((List (List Int)))).bind fun x1=>
  some x1)
theorem wL(k:Nat):
 ∀(n:Nat) (a0:(List Int)) (r:(List (List Int))),lX k n a0=some r→bX Tryz.prog 75 [Ri a0] ([]) (fun _:Unit=>(bj [.rep (.slice (.slice (.int .i64))) r],[])):=by
 intro n
 induction n with
 |zero=>intro a0 r h;cases h
 |succ m0 ih=>
  intro a0 r h;rw [lX] at h;replace h:=a9 h;refine bX.of 41 Tryz.func75 rfl Tryz.ntmps75 rfl fun S w0=>?_;refine au ?_;refine ol dP ?_;refine jb (dO rfl) ?_;refine nt (ci h (fun h=>?_) (fun h=>?_))
  ·refine sr (ja (bg (t:=(.slice (.int .i64))) [(.const (.slice none 0 0),_)] [[]] rfl rfl mI (.cons rfl .nil .nil) rfl rfl) ?_);refine au ?_;cases h;exact ra
  ·refine sk (sr (cq (nt ?_)));refine aI (Z:=Value) (α:=(List (List Int))) (fun z2 x1=>[(3,.eq z2)]) (fun z2 x1=>[.sl z2 22 (.slice (.int .i64)) x1]) h (fun K h=>?_) (fun z2 x1 h=>?_)
   ·refine au ?_;refine ol dP ?_;refine ff rfl ?_;refine nt (aj (dG (SE.nil 22 (.slice (.int .i64))) ?_));refine aK (fun z4 y3=>[(0,Ri a0),(3,.eq z4),(12,Ri a0),(13,I (a0.length:Int)),(14,I y3.2)]) (fun z4 y3=>[.sl z4 22 (.slice (.int .i64)) y3.1]) (kP k a0 (lX k m0)) k (.slice none 0 0) (([]:(List (List Int))),0) (fun _=>rfl) h (SE.fin [0] ⟨rfl,rfl,rfl,rfl,rfl,trivial⟩ rfl) (fun n z4 y3 h=>?_);unfold kP at h;refine sr (jb (bq rfl) ?_);refine au ?_;refine ci h (fun h=>?_) (fun h=>?_)
    ·refine sk (aI (Z:=Value) (α:=(List (List Int))) (fun z6 x5=>[(0,Ri a0),(3,.eq z6),(12,Ri a0),(13,I (a0.length:Int)),(14,I y3.2)]) (fun z6 x5=>[.sl z6 22 (.slice (.int .i64)) x5]) h (fun K h=>?_) (fun z6 x5 h=>?_))
     ·refine aj (au ?_);obtain⟨x7,Y,h⟩:=aa h;refine jb (aH (t:=(.int .i64)) rfl dP ct Y) ?_;refine ja (an (t:=(.int .i64)) rfl ct rfl) ?_;refine au ?_;obtain⟨r8,ac,h⟩:=aa h;refine aD rfl rfl rfl (ao [.tmp 19] rfl rfl Ub rfl (nC k a0 r8 ac)) ⟨rfl,trivial⟩ fun v9=>?_;refine au ?_;obtain⟨U,D,h⟩:=aa h;refine jb (be rfl D) ?_;obtain⟨s,M,h⟩:=aa h;refine cz rfl rfl rfl (ao [.tmp 20,.tmp 21,.tmp 23] rfl rfl RG rfl (sq k r8 v9 y3.2 U s M)) ⟨rfl,rfl,rfl,trivial⟩ fun qt=>?_;refine cp (dM [24] ⟨rfl,trivial⟩) ?_;obtain⟨j,J,h⟩:=aa h;refine ja (ao [.tmp 24] rfl rfl Q4 rfl (ih s j J)) ?_;refine ol pY ?_;refine ff rfl ?_;refine nt (aj (aK (fun e c=>[(0,Ri a0),(3,.eq e),(5,I x7),(12,Ri a0),(13,I (a0.length:Int)),(14,I y3.2),(25,.rep (.slice (.slice (.int .i64))) j),(26,I (j.length:Int)),(27,I c.2)]) (fun e c=>[.sl e 22 (.slice (.int .i64)) c.1]) (kO k x7 j) k z4 (y3.1,0) (fun _=>rfl) h (SE.fin [0] ⟨rfl,rfl,rfl,rfl,rfl,rfl,rfl,rfl,rfl,trivial⟩ rfl) (fun n e c h=>?_)));unfold kO at h;refine sr (jb (bq rfl) ?_);refine au ?_;refine ci h (fun h=>?_) (fun h=>?_)
      ·refine au ?_;refine aj (sr ?_);obtain⟨l,y,h⟩:=aa h;refine jb (aH (t:=(.slice (.int .i64))) rfl pY bZ y) ?_;refine ja (an (t:=(.slice (.int .i64))) rfl bZ rfl) ?_;refine au ?_;refine ab (au ?_);refine aD rfl rfl rfl (ib (t:=(.int .i64)) [(.tmp 32,_)] [x7] rfl rfl dk (.cons rfl .int .nil) rfl rfl) ⟨rfl,trivial⟩ fun pp=>?_;refine mq ?_;obtain⟨U4,F,h⟩:=aa h;refine cz rfl rfl rfl (bf rfl rfl dk (aA F)) ⟨rfl,rfl,trivial⟩ fun mc=>?_;refine cp (dM [35] ⟨rfl,trivial⟩) ?_;refine ja (bg (t:=(.slice (.int .i64))) [(.tmp 35,_)] [[x7]++l] rfl rfl mI (.cons rfl .rep .nil) rfl rfl) ?_;obtain⟨se,E,h⟩:=aa h;refine cz rfl rfl rfl (bf rfl rfl mI (aA E)) ⟨rfl,rfl,trivial⟩ fun X=>?_;refine au ?_;refine ab ?_;obtain⟨Q,x,h⟩:=aa h;refine jb (be rfl x) ?_;refine au ?_;exact jz (X,(c.1++[[x7]++l],Q)) h [0]
      ·refine au ?_;exact jz (e,c.1) h [0]
     ·refine ab ?_;obtain⟨O,u,h⟩:=aa h;refine jb (be rfl u) ?_;refine au ?_;exact jz (z6,(x5,O)) h [0]
    ·refine au ?_;exact jz (z4,y3.1) h [0]
   ·refine sr (mq ?_);refine aq (nt (bI ?_));refine bu (dM [2,3,40] ⟨rfl,rfl,rfl,trivial⟩) ?_;cases h;exact ra
def gi{σ:Type}(k:Nat)(a1:(List Int))(Y:σ→Int→Option (σ×Bool)):Nat→(Int×σ)→Option (σ)
 |0,_=>none
 |n+1,y1=>
  if y1.1 < (a1.length:Int) then((aQ a1 y1.1).bind fun x3=>
  (Y y1.2 x3).bind fun r4=>
  if¬(r4.2=true) then(some r4.1) else((ck (y1.1+1)).bind fun x6=>
  gi k a1 Y n (x6,r4.1))) else(some y1.2)
def ky{σ:Type}(k:Nat)(Y:σ→Int→Option (σ×Bool))(a1:(List Int))(s0:σ):Option (σ):=
 gi k a1 Y k (0,s0)
theorem qO{M:Md Tryz.prog}{σ Z:Type}(E:Z→σ→List D)(l:Nat)(Y:σ→Int→Option (σ×Bool))(k:Nat)(a1:(List Int))(c:Nat)(hY:∀z s p r,Y s p=some r→YT M l [I p] (E z s) (fun z':Z=>(.eq (.bool r.2),E z' r.1))):
 ∀(z0:Z) (s0:σ) (r:σ),ky k Y a1 s0=some r→dC M 108 [.eq (.func (.yield l) #[] #[]),Pt c] ([.obj c 22 (Ri a1)]++E z0 s0) (fun z:Z=>(bj [],[.obj c 22 (Ri a1)]++E z r)):=by
 intro z0 s0 r h
 unfold ky at h
 replace h:=a9 h
 refine dC.of 16 Tryz.func108 rfl Tryz.ntmps108 rfl fun S w0=>?_
 refine sr ?_
 refine lo bZ ?_
 refine ol dP ?_
 refine ff rfl ?_
 refine nt ?_
 refine aj ?_
 refine aK (Z:=Z) (α:=Int×σ) (fun z2 y1=>[(0,.eq (.func (.yield l) #[] #[])),(5,Ri a1),(6,I (a1.length:Int)),(7,I y1.1)]) (fun z2 y1=>[.obj c 22 (Ri a1)]++E z2 y1.2) (gi k a1 Y) k z0 (0,s0) (fun _=>rfl) h (bi [.obj c 22 (Ri a1)] (E z0 s0) [0] ⟨rfl,rfl,rfl,rfl,trivial⟩ rfl) (fun n z2 y1 h=>?_)
 unfold gi at h
 refine sr ?_
 refine jb (bq rfl) ?_
 refine au ?_
 refine ci h (fun h=>?_) (fun h=>?_)
 ·
  refine au ?_;refine aj (sr ?_);obtain⟨x3,j,h⟩:=aa h;refine jb (aH (t:=(.int .i64)) rfl dP ct j) ?_;refine ja (an (t:=(.int .i64)) rfl ct rfl) ?_;refine au ?_;obtain⟨r4,u,h⟩:=aa h;refine qe [.obj c 22 (Ri a1)] rfl rfl rfl (yA [.tmp 12] rfl rfl rfl (hY z2 y1.2 x3 r4 u)) ⟨rfl,rfl,trivial⟩ fun z5=>?_;refine ja (eW rfl) ?_;refine nt (cw h (fun h=>?_) (fun h=>?_))
  ·refine au ?_;cases h;exact jh z5 [] trivial rfl
  ·refine au ?_;refine ab ?_;obtain⟨x6,e,h⟩:=aa h;refine jb (be rfl e) ?_;refine au ?_;exact jg (z5,(x6,r4.1)) h (bi [.obj c 22 (Ri a1)] (E z5 r4.1) [0] ⟨rfl,rfl,rfl,rfl,trivial⟩ rfl)
 ·
  refine au ?_;refine jB ?_;cases h;exact jh z2 [] trivial rfl
def j0(k:Nat)(a1:(List Int)):Option (List Int):=
 (ky k (l6 (fun(y2:(List Int)) (p4:Int)=>
  (cU (bm (List.length y2+List.length [p4]))).bind fun _=>
  some (y2++[p4],true))) a1 (([]:(List Int)),false)).bind fun r5=>
 if r5.2=true then(none) else(some r5.1)
theorem pr(k:Nat)(a1:(List Int))(c:Nat)(r:(List Int))(h:j0 k a1=some r):
 bX Tryz.prog 140 [.eq (.slice none 0 0),.eq (.func (.func 108) #[] #[(Pv c)])] [.obj c 22 (Ri a1)] (fun z:Value=>(bj [.eq z],[.sl z 3 (.int .i64) r,.obj c 22 (Ri a1)])):=by
 unfold j0 at h
 replace h:=a9 h
 refine zo 13 Tryz.func140 rfl Tryz.ntmps140 rfl fun {M} S w0=>?_
 refine sr ?_
 refine bx fun b1=>?_
 refine au ?_
 refine aj ?_
 refine dG (SE.nil 3 (.int .i64)) ?_
 refine eJ 1 rfl ?_
 refine eJ 2 rfl ?_
 obtain⟨r5,j,h⟩:=aa h
 refine lG (Δ:=[.obj c 22 (Ri a1),.obj b1 22 (.eq (.slice none 0 0)),.sl (.slice none 0 0) 3 (.int .i64) ([]:(List Int))]) (F:=[]) (X:=Value) (J:=fun _=>GO r5.2) (E:=fun z3=>[.obj c 22 (Ri a1),.obj b1 22 (.eq z3),.sl z3 3 (.int .i64) r5.1]) (r0:=fun _=>.tup .any) rfl rfl RD (fun rec hp ha hb hs hpe hN hv l=>?_) (fun dl z3=>og (fun hj=>?_) (fun hj=>?_))
 ·
  rcases rec with⟨st0,pe0,fn0,tm0,ps0,as0,bd0,df0⟩;dsimp only at hp ha hb hs hpe hN hv;subst hp hs hpe;have vN:uT tm0 [(2,Pt b1)]:=⟨congrArg A.eq (hv 2 _ rfl).symm,trivial⟩;refine dC.pick (M:=M) [1,0,2,3] [1,0,2,3] (qO (fun(z3:Value) (q:(List Int)×Bool)=>[.raw l (.loop (jm ⟨.ready,none,fn0,tm0, #[7],as0,bd0,df0⟩ (GO q.2))),.obj b1 22 (.eq z3),.sl z3 3 (.int .i64) q.1]) l (l6 (fun(y2:(List Int)) (p4:Int)=>
  (cU (bm (List.length y2+List.length [p4]))).bind fun _=>
  some (y2++[p4],true))) k a1 c (fun z3 q p r' h=>?_) (.slice none 0 0) (([]:(List Int)),false) r5 j) rfl (fun _=>rfl) (fun _=>rfl)
  obtain⟨rq,hq,h2,rfl⟩:=oh h;obtain⟨y2,b5⟩:=q;obtain rfl:b5=false:=hq;replace h:=a9 h2;obtain⟨p4,hpv⟩:∃x,x=p:=⟨_,rfl⟩;subst hpv;refine YT.pick (R':=(fun z3:Value=>(.eq (.bool rq.2),[.raw l (.loop (jm ⟨.ready,none,fn0,tm0, #[7],as0,bd0,df0⟩ (GO (!rq.2)))),.obj b1 22 (.eq z3),.sl z3 3 (.int .i64) rq.1]))) [0,1,2] [0,1,2] (Dw ha hb (N:=13) (Γ:=[(2,Pt b1)]) rfl hN (by decide) vN (fun S w=>?_)) rfl (fun _=>rfl) (fun _=>rfl);refine ab (au ?_);refine tf rfl rfl ?_;refine aj (ab (fr 1 ?_));refine lo bZ ?_;refine mq ?_;refine ja (bg (t:=(.int .i64)) [(.tmp 9,_)] [p4] rfl rfl dk (.cons rfl .int .nil) rfl rfl) ?_;obtain⟨u6,e,h⟩:=aa h;refine fr 2 ?_;refine cz rfl rfl rfl (bf rfl rfl dk (aA e)) ⟨rfl,rfl,trivial⟩ fun v7=>?_;refine qf fun o8=>?_;refine fr 1 ?_;refine a8 rfl rfl (aX rfl bZ o8 rfl rfl) ⟨rfl,rfl,trivial⟩ ?_;refine ax (bS (bH 1 rfl ?_));refine bH 1 rfl ?_;refine bH 2 rfl ?_;cases h;exact nV v7 2 rfl
 ·
  replace h:=bM (DT hj) h;refine bS (tn (sr (fr 2 ?_)));refine lo bZ ?_;refine aq (nt (bI ?_));refine bH 1 rfl ?_;refine vd ?_;refine bu (SE.fin (Γ':=[(4,_)]) [2,1,0] ⟨rfl,trivial⟩ rfl) ?_;cases h;exact aN z3 [.eq z3] 2 ⟨rfl,trivial⟩ rfl
 ·
  replace h:=cF (DO hj) h;cases h
def ln(k:Nat)(a0:(List Int)):Option (List Int):=
 (j0 k a0).bind fun r1=>
 some r1
theorem ru(k:Nat)(a0:(List Int))(c:Nat)(r:(List Int))(h:ln k a0=some r):
 bX Tryz.prog 106 [.eq (.func (.func 108) #[] #[(Pv c)])] [.obj c 22 (Ri a0)] (fun z:Value=>(bj [.eq z],[.sl z 3 (.int .i64) r,.obj c 22 (Ri a0)])):=by
 unfold ln at h
 replace h:=a9 h
 refine bX.of 5 Tryz.func106 rfl Tryz.ntmps106 rfl fun S w0=>?_
 refine sr ?_
 refine cq ?_
 refine nt ?_
 refine sr ?_
 refine mq ?_
 obtain⟨r1,e,h⟩:=aa h
 have j:=pr k a0 c r1 e
 refine bN (Δ:=[_]) (F:=_) (fun _ _ _=>ay rfl _) rfl rfl (ao [.const (.slice none 0 0),.tmp 3] rfl rfl Ru rfl j) ⟨rfl,rfl,trivial⟩ fun z2=>?_
 refine au ?_
 cases h
 exact aN z2 [.eq z2] 2 ⟨rfl,trivial⟩ rfl
def qG(k:Nat)(a0:Int):Option Bool:=
 some (!decide (a0=a0))
theorem sV(k:Nat)(a0:Int)(r:Bool)(h:qG k a0=some r):
 bX Tryz.prog 172 [I a0] [] (fun _:Unit=>(bj [.eq (.bool r)],[])):=by
 unfold qG at h
 replace h:=a9 h
 refine bX.of 6 Tryz.func172 rfl Tryz.ntmps172 rfl fun S w0=>?_
 refine au ?_
 refine jb (gX rfl) ?_
 refine au ?_
 cases h
 exact ra
def wl(k:Nat)(a0:Int)(a1:Int):Option Bool:=
 (((qG k a0).bind fun r3=>
 if r3=true then((qG k a1).bind fun r4=>
 if¬(r4=true) then(some true) else(some (decide (a0 < a1)))) else(some (decide (a0 < a1)))):Option (Bool)).bind fun x1=>
 some x1
theorem A6(k:Nat)(a0:Int)(a1:Int)(r:Bool)(h:wl k a0 a1=some r):
 bX Tryz.prog 161 [I a0,I a1] [] (fun _:Unit=>(bj [.eq (.bool r)],[])):=by
 unfold wl at h
 replace h:=a9 h
 refine bX.of 17 Tryz.func161 rfl Tryz.ntmps161 rfl fun S w0=>?_
 refine sr ?_
 refine cq ?_
 refine nt ?_
 refine aI (Z:=Unit) (α:=Bool) (fun z2 x1=>[(4,.eq (.bool x1))]) (fun z2 x1=>[]) h (fun K h=>?_) (fun z2 x1 h=>?_)
 ·
  refine ab (mq ?_);obtain⟨r3,e,h⟩:=aa h;refine ja (ao [.tmp 5] rfl rfl Nk rfl (sV k a0 r3 e)) ?_;refine mq ?_;refine cg (s:=7) rfl (fun hb=>?_) (fun hb=>?_)
  ·replace h:=cF (DO hb) h;refine gm ?_;obtain⟨r4,c,h⟩:=aa h;refine ga (ao [.tmp 8] rfl rfl Nk rfl (sV k a1 r4 c)) ?_;refine ga (eW rfl) ?_;refine pt ?_;refine mq ?_;refine cg (s:=12) rfl (fun hb=>?_) (fun hb=>?_)
   ·replace h:=cF (FG hb) h;refine au ?_;exact jz ((),true) h []
   ·replace h:=bM (xp hb) h;refine au ?_;refine gb (bq rfl) ?_;refine au ?_;exact jz ((),decide (a0 < a1)) h []
  ·replace h:=bM (DT hb) h;refine au ?_;refine gb (bq rfl) ?_;refine au ?_;exact jz ((),decide (a0 < a1)) h []
 ·
  refine bI ?_;cases h;exact ra
def cO(k:Nat)(a1:Int):Nat→((List Int)×Int)→Option (List Int)
 |0,_=>none
 |n+1,y6=>
  ((if a1 < y6.2 then((aQ y6.1 y6.2).bind fun u=>
  (ck (y6.2 - 1)).bind fun s=>
  (aQ y6.1 s).bind fun r=>
  (wl k u r).bind fun x=>
  some x) else(some false)):Option (Bool)).bind fun x8=>
  if x8=true then((ck (y6.2 - 1)).bind fun e=>
  (ck (y6.2 - 1)).bind fun l=>
  (aQ y6.1 l).bind fun c=>
  (aQ y6.1 y6.2).bind fun j=>
  (aQ y6.1 y6.2).bind fun D=>
  (aQ (List.set y6.1 (Int.toNat y6.2) c) e).bind fun y=>
  (ck (y6.2 - 1)).bind fun h=>
  cO k a1 n (List.set (List.set y6.1 (Int.toNat y6.2) c) (Int.toNat e) j,h)) else(some y6.1)
def cP(k:Nat)(a1:Int)(a2:Int):Nat→((List Int)×Int)→Option (List Int)
 |0,_=>none
 |n+1,y2=>
  if y2.2 < a2 then(((cO k a1 k (y2.1,y2.2)):Option ((List Int))).bind fun x4=>
  (ck (y2.2+1)).bind fun c=>
  cP k a1 a2 n (x4,c)) else(some y2.1)
def eE(k:Nat)(a0:(List Int))(a1:Int)(a2:Int):Option (List Int):=
 (ck (a1+1)).bind fun x1=>
 cP k a1 a2 k (a0,x1)
theorem ku(k:Nat)(a0:(List Int))(c:Value)(a1:Int)(a2:Int)(r:(List Int))(h:eE k a0 a1 a2=some r):
 bX Tryz.prog 155 [.eq c,I a1,I a2] [.sl c 3 (.int .i64) a0] (fun _:Unit=>(bj [],[.sl c 3 (.int .i64) r])):=by
 unfold eE at h
 replace h:=a9 h
 refine bX.of 49 Tryz.func155 rfl Tryz.ntmps155 rfl fun S w0=>?_
 refine au ?_
 obtain⟨x1,Vm,h⟩:=aa h
 refine jb (be rfl Vm) ?_
 refine au ?_
 refine aj ?_
 refine aK (fun z3 y2=>[(0,.eq c),(1,I a1),(2,I a2),(6,I y2.2)]) (fun z3 y2=>[.sl c 3 (.int .i64) y2.1]) (cP k a1 a2) k () (a0,x1) (fun _=>rfl) h (SE.fin [0] ⟨rfl,rfl,rfl,rfl,trivial⟩ rfl) (fun n z3 y2 h=>?_)
 unfold cP at h
 refine au ?_
 refine jb (bq rfl) ?_
 refine nt ?_
 refine ci h (fun h=>?_) (fun h=>?_)
 ·
  refine sk (aI (Z:=Unit) (α:=(List Int)) (fun z5 x4=>[(0,.eq c),(1,I a1),(2,I a2),(6,I y2.2)]) (fun z5 x4=>[.sl c 3 (.int .i64) x4]) h (fun K h=>?_) (fun z5 x4 h=>?_))
  ·refine aj (au ?_);refine aj (aK (fun z7 y6=>[(0,.eq c),(1,I a1),(2,I a2),(6,I y2.2),(7,I y6.2)]) (fun z7 y6=>[.sl c 3 (.int .i64) y6.1]) (cO k a1) k () (y2.1,y2.2) (fun _=>rfl) h (SE.fin [0] ⟨rfl,rfl,rfl,rfl,rfl,trivial⟩ rfl) (fun n z7 y6 h=>?_));unfold cO at h;refine ar (aI (Z:=Unit) (α:=Bool) (fun z9 x8=>[(0,.eq c),(1,I a1),(2,I a2),(6,I y2.2),(7,I y6.2),(30,.eq (.bool x8))]) (fun z9 x8=>[.sl c 3 (.int .i64) y6.1]) h (fun K h=>?_) (fun z9 x8 h=>?_))
   ·refine bJ ?_;refine dm ?_;refine dm ?_;refine db (jv rfl) ?_;refine kU rfl rfl rfl (aL rfl) ⟨rfl,trivial⟩ (fun hb=>?_) (fun hb=>?_)
    ·replace h:=cF (nX hb) h;refine aV rfl rfl rfl rfl rfl (aL rfl) ⟨rfl,rfl,trivial⟩ ?_;refine aV rfl rfl rfl rfl rfl (aL rfl) ⟨rfl,rfl,trivial⟩ ?_;obtain⟨Vb,x,h⟩:=aa h;refine ko 0 rfl rfl rfl rfl rfl rfl (aU (t:=(.int .i64)) rfl dP ct x) ⟨rfl,rfl,rfl,trivial⟩ ?_;refine ko 0 rfl rfl rfl rfl rfl rfl (dQ (i:=Int.toNat y6.2) (off:=0) rfl ct (fun _=>rfl) rfl (cy x).2.2 rfl) ⟨rfl,rfl,trivial⟩ ?_;refine aV rfl rfl rfl rfl rfl (aL rfl) ⟨rfl,rfl,trivial⟩ ?_;refine aV rfl rfl rfl rfl rfl (aL rfl) ⟨rfl,rfl,trivial⟩ ?_;obtain⟨Va,qt,h⟩:=aa h;refine aV rfl rfl rfl rfl rfl (fu rfl qt) ⟨rfl,rfl,rfl,trivial⟩ ?_;obtain⟨U8,u,h⟩:=aa h;refine ko 0 rfl rfl rfl rfl rfl rfl (aU (t:=(.int .i64)) rfl dP ct u) ⟨rfl,rfl,rfl,trivial⟩ ?_;refine ko 0 rfl rfl rfl rfl rfl rfl (dQ (i:=Int.toNat Va) (off:=0) rfl ct (fun _=>rfl) rfl (cy u).2.2 rfl) ⟨rfl,rfl,trivial⟩ ?_;refine df cH ?_;obtain⟨F,se,h⟩:=aa h;refine gb (ao [.tmp 23,.tmp 28] rfl rfl Rl rfl (A6 k Vb U8 F se)) ?_;refine au ?_;exact jz ((),F) h [0]
    ·replace h:=bM (nk hb) h;iterate 9 refine dg ?_
     refine df cH ?_;refine au ?_;exact jz ((),false) h [0]
   ·refine cv h (fun h=>?_) (fun h=>?_)
    ·refine au ?_;refine aj (mD ?_);refine aR rfl rfl rfl (aL rfl) ⟨rfl,trivial⟩ ?_;refine aR rfl rfl rfl (aL rfl) ⟨rfl,trivial⟩ ?_;refine aR rfl rfl rfl (aL rfl) ⟨rfl,trivial⟩ ?_;refine aR rfl rfl rfl (aL rfl) ⟨rfl,trivial⟩ ?_;obtain⟨y,pp,h⟩:=aa h;refine aR rfl rfl rfl (fu rfl pp) ⟨rfl,rfl,trivial⟩ ?_;refine aR rfl rfl rfl (aL rfl) ⟨rfl,trivial⟩ ?_;refine aR rfl rfl rfl (aL rfl) ⟨rfl,trivial⟩ ?_;obtain⟨U7,mc,h⟩:=aa h;refine aR rfl rfl rfl (fu rfl mc) ⟨rfl,rfl,trivial⟩ ?_;obtain⟨E,s,h⟩:=aa h;refine dt 0 rfl rfl rfl rfl (aU (t:=(.int .i64)) rfl dP ct s) ⟨rfl,rfl,trivial⟩ ?_;refine dt 0 rfl rfl rfl rfl (dQ (i:=Int.toNat U7) (off:=0) rfl ct (fun _=>rfl) rfl (cy s).2.2 rfl) ⟨rfl,trivial⟩ ?_;refine aR rfl rfl rfl (aL rfl) ⟨rfl,trivial⟩ ?_;refine aR rfl rfl rfl (aL rfl) ⟨rfl,trivial⟩ ?_;obtain⟨D,l,h⟩:=aa h;refine dt 0 rfl rfl rfl rfl (aU (t:=(.int .i64)) rfl dP ct l) ⟨rfl,rfl,trivial⟩ ?_;refine dt 0 rfl rfl rfl rfl (dQ (i:=Int.toNat y6.2) (off:=0) rfl ct (fun _=>rfl) rfl (cy l).2.2 rfl) ⟨rfl,trivial⟩ ?_;obtain⟨Vu,j,h⟩:=aa h;refine dt 0 rfl rfl rfl rfl (aU (t:=(.int .i64)) rfl dP ct j) ⟨rfl,rfl,trivial⟩ ?_;refine oN 15 [true,true,false,false,false,true,true,true,true,true,true,true,true,true,true] [48] [] [] rfl (by kernel_rfl) (by kernel_rfl) (by kernel_rfl) cH (fun vs hv hB=>?_);obtain⟨w0,VI,rfl,Vl⟩:=ap hv;obtain⟨w1,VH,rfl,Vk⟩:=ap Vl;obtain⟨w2,VG,rfl,Vj⟩:=ap Vk;obtain⟨w3,VF,rfl,Vi⟩:=ap Vj;obtain⟨w4,VE,rfl,Vh⟩:=ap Vi;obtain⟨w5,VD,rfl,Vg⟩:=ap Vh;obtain⟨w6,VC,rfl,Vf⟩:=ap Vg;obtain⟨w7,VB,rfl,Ve⟩:=ap Vf;obtain⟨w8,VA,rfl,Vd⟩:=ap Ve;obtain⟨w9,Vs,rfl,X⟩:=ap Vd;obtain⟨Vz,Vr,rfl,U⟩:=ap X;obtain⟨Vy,Vq,rfl,Q⟩:=ap U;obtain⟨Vx,Vp,rfl,O⟩:=ap Q;obtain⟨Vw,Vo,rfl,M⟩:=ap O;obtain⟨Vv,Vn,rfl,J⟩:=ap M;obtain rfl:=lE J;refine⟨[0],[.sl c 3 (.int .i64) y6.1],by kernel_rfl,by decide,?_⟩;refine rR rfl rfl (cG (i:=Int.toNat y6.2) rfl ct rfl (gj j) rfl .int rfl) ⟨rfl,rfl,trivial⟩ (by kernel_rfl) ?_;obtain⟨Vt,e,h⟩:=aa h;refine wE rfl rfl rfl rfl (aU (t:=(.int .i64)) rfl dP ct e) ⟨rfl,rfl,trivial⟩ (by kernel_rfl) ?_;refine rR rfl rfl (cG (i:=Int.toNat y) rfl ct rfl (gj e) rfl .int rfl) ⟨rfl,rfl,trivial⟩ (by kernel_rfl) ?_;refine uk ?_;refine bu (SE.fin (Γ':=[(0,.eq c),(1,I a1),(2,I a2),(6,I y2.2),(7,I y6.2)]) (Δ':=[.sl c 3 (.int .i64) (List.set (List.set y6.1 (Int.toNat y6.2) E) (Int.toNat y) D)]) [0] ⟨rfl,rfl,rfl,rfl,rfl,trivial⟩ rfl) ?_;refine au ?_;refine ab (mq ?_);obtain⟨U6,ac,h⟩:=aa h;refine jb (fu rfl ac) ?_;refine au ?_;exact jz ((),(List.set (List.set y6.1 (Int.toNat y6.2) E) (Int.toNat y) D,U6)) h [0]
    ·refine au ?_;exact jz ((),y6.1) h [0]
  ·refine ab (mq ?_);obtain⟨U4,Y,h⟩:=aa h;refine jb (be rfl Y) ?_;refine au ?_;exact jz ((),(x4,U4)) h [0]
 ·
  refine au ?_;refine jB ?_;cases h;exact aN () [] 1 trivial rfl
def lp(k:Nat)(a0:Int):Option Int:=
 ((if 4294967296≤a0 then(some (iE .u64 a0 32,32)) else(some (a0,0))):Option (Int×Int)).bind fun x1=>
 ((if 65536≤x1.1 then((ck (x1.2+16)).bind fun x5=>
 some (iE .u64 x1.1 16,x5)) else(some (x1.1,x1.2))):Option (Int×Int)).bind fun x3=>
 ((if 256≤x3.1 then((ck (x3.2+8)).bind fun x8=>
 some (iE .u64 x3.1 8,x8)) else(some (x3.1,x3.2))):Option (Int×Int)).bind fun x6=>
 (Db K3 (IntKind.u8.wrap x6.1)).bind fun x9=>
 (ck (x9.toNat:Int)).bind fun e=>
 (ck (x6.2+e)).bind fun c=>
 some c
theorem rJ(k:Nat)(a0:Int)(r:Int)(h:lp k a0=some r):
 bX Tryz.prog 165 [.eq (.int .u64 a0)] [] (fun _:Unit=>(bj [I r],[])):=by
 unfold lp at h
 replace h:=a9 h
 refine bX.of 25 Tryz.func165 rfl Tryz.ntmps165 rfl fun S w0=>?_
 refine sr ?_
 refine cq ?_
 refine nt ?_
 refine aI (Z:=Unit) (α:=Int×Int) (fun z2 x1=>[(0,.eq (.int .u64 x1.1)),(2,I x1.2)]) (fun z2 x1=>[]) h (fun K h=>?_) (fun z2 x1 h=>?_)
 ·
  refine au ?_;refine jb (qX rfl) ?_;refine nt (ci h (fun h=>?_) (fun h=>?_))
  ·refine au ?_;refine aF rfl (vM rfl (by decide)) ⟨rfl,rfl,trivial⟩ ?_;refine au ?_;refine ab (au ?_);exact jz ((),(iE .u64 a0 32,32)) h []
  ·refine au ?_;exact jz ((),(a0,0)) h []
 ·
  refine aI (Z:=Unit) (α:=Int×Int) (fun z4 x3=>[(0,.eq (.int .u64 x3.1)),(2,I x3.2)]) (fun z4 x3=>[]) h (fun K h=>?_) (fun z4 x3 h=>?_)
  ·refine au ?_;refine jb (qX rfl) ?_;refine nt (ci h (fun h=>?_) (fun h=>?_))
   ·refine au ?_;refine aF rfl (vM rfl (by decide)) ⟨rfl,rfl,trivial⟩ ?_;refine au ?_;refine ab (mq ?_);obtain⟨x5,n,h⟩:=aa h;refine jb (be rfl n) ?_;refine au ?_;exact jz ((),(iE .u64 x1.1 16,x5)) h []
   ·refine au ?_;exact jz ((),(x1.1,x1.2)) h []
  ·refine aI (Z:=Unit) (α:=Int×Int) (fun z7 x6=>[(0,.eq (.int .u64 x6.1)),(2,I x6.2)]) (fun z7 x6=>[]) h (fun K h=>?_) (fun z7 x6 h=>?_)
   ·refine au ?_;refine jb (qX rfl) ?_;refine nt (ci h (fun h=>?_) (fun h=>?_))
    ·refine au ?_;refine aF rfl (vM rfl (by decide)) ⟨rfl,rfl,trivial⟩ ?_;refine au ?_;refine ab (mq ?_);obtain⟨x8,l,h⟩:=aa h;refine jb (be rfl l) ?_;refine au ?_;exact jz ((),(iE .u64 x3.1 8,x8)) h []
    ·refine au ?_;exact jz ((),(x3.1,x3.2)) h []
   ·refine au ?_;refine ja (pB rfl SH U5) ?_;obtain⟨x9,j,h⟩:=aa h;refine ja (Ai rfl U9 j) ?_;obtain⟨u,e,h⟩:=aa h;refine ja (Aj rfl U5 U3 e) ?_;obtain⟨s,c,h⟩:=aa h;refine jb (be rfl c) ?_;refine au ?_;cases h;exact ra
def zf(k:Nat)(a0:Int):Option Int:=
 (lp k a0).bind fun r1=>
 some r1
theorem Du(k:Nat)(a0:Int)(r:Int)(h:zf k a0=some r):
 bX Tryz.prog 142 [.eq (.int .u64 a0)] [] (fun _:Unit=>(bj [I r],[])):=by
 unfold zf at h
 replace h:=a9 h
 refine bX.of 8 Tryz.func142 rfl Tryz.ntmps142 rfl fun S w0=>?_
 refine au ?_
 refine JQ (fun hb=>(by cases hb)) (fun hb=>?_)
 refine au ?_
 obtain⟨r1,c,h⟩:=aa h
 have e:=rJ k a0 r1 c
 refine ja (ao [.tmp 6] rfl rfl Rk rfl e) ?_
 refine au ?_
 cases h
 exact ra
def fF(k:Nat)(a0:(List Int))(a1:Int)(a2:Int)(a3:Int):Nat→Unit→Option (List Int)
 |0,_=>none
 |n+1,y1=>
  (ck (a2 - a1)).bind fun x3=>
  if x3≤12 then((eE k a0 a1 a2).bind fun r4=>
  some r4) else(if a3=0 then(none) else(none))
def g9(k:Nat)(a0:(List Int))(a1:Int)(a2:Int)(a3:Int):Option (List Int):=
 fF k a0 a1 a2 a3 k ()
theorem mH(k:Nat)(a0:(List Int))(c:Value)(a1:Int)(a2:Int)(a3:Int)(r:(List Int))(h:g9 k a0 a1 a2 a3=some r):
 bX Tryz.prog 141 [.eq c,I a1,I a2,I a3] [.sl c 3 (.int .i64) a0] (fun _:Unit=>(bj [],[.sl c 3 (.int .i64) r])):=by
 unfold g9 at h
 replace h:=a9 h
 refine bX.of 134 Tryz.func141 rfl Tryz.ntmps141 rfl fun S w0=>?_
 refine au ?_
 refine aj ?_
 refine aK (fun z2 y1=>[(0,.eq c),(1,I a1),(2,I a2),(3,I a3),(8,.eq (.bool true)),(9,.eq (.bool true))]) (fun z2 y1=>[.sl c 3 (.int .i64) a0]) (fF k a0 a1 a2 a3) k () () (fun _=>rfl) h (SE.fin [0] ⟨rfl,rfl,rfl,rfl,rfl,rfl,trivial⟩ rfl) (fun n z2 y1 h=>?_)
 unfold fF at h
 refine aj ?_
 refine au ?_
 obtain⟨x3,e,h⟩:=aa h
 refine jb (fu rfl e) ?_
 refine au ?_
 refine jb (vP rfl) ?_
 refine nt ?_
 refine ci h (fun h=>?_) (fun h=>?_)
 ·
  refine au ?_;obtain⟨r4,j,h⟩:=aa h;refine kc (ao [.tmp 24,.tmp 25,.tmp 26] rfl rfl Rm rfl (ku k a0 c a1 a2 r4 j)) ?_;refine au ?_;cases h;exact aN () [] 1 trivial rfl
 ·
  refine au ?_;refine jb (dO rfl) ?_;refine nt (ci h (fun h=>?_) (fun h=>?_))
  ·refine au ?_;cases h
  ·refine au ?_;refine ja (eW rfl) ?_;refine nt (bK rfl (fun hb=>(by cases hb)) (fun hb=>?_));refine au ?_;cases h
def oq(k:Nat)(a0:(List Int)):Option (List Int):=
 (zf k (IntKind.u64.wrap (a0.length:Int))).bind fun r1=>
 (g9 k a0 0 (a0.length:Int) r1).bind fun r2=>
 some r2
theorem uN(k:Nat)(a0:(List Int))(c:Value)(r:(List Int))(h:oq k a0=some r):
 bX Tryz.prog 107 [.eq c] [.sl c 3 (.int .i64) a0] (fun _:Unit=>(bj [],[.sl c 3 (.int .i64) r])):=by
 unfold oq at h
 replace h:=a9 h
 refine bX.of 11 Tryz.func107 rfl Tryz.ntmps107 rfl fun S w0=>?_
 refine au ?_
 refine ka (dy rfl rfl dP) ?_
 refine au ?_
 refine ab ?_
 refine au ?_
 refine ja (pB rfl U3 Uy) ?_
 obtain⟨r1,j,h⟩:=aa h
 have n:=Du k (IntKind.u64.wrap (a0.length:Int)) r1 j
 refine ja (ao [.tmp 8] rfl rfl Rr rfl n) ?_
 obtain⟨r2,e,h⟩:=aa h
 have l:=mH k a0 c 0 (a0.length:Int) r1 r2 e
 refine bW rfl rfl rfl (ao [.tmp 5,.const (.int .i64 (0)),.tmp 6,.tmp 9] rfl rfl Rt rfl l) ⟨rfl,rfl,rfl,rfl,trivial⟩ ?_
 refine ax ?_
 refine jB ?_
 cases h
 exact aN () [] 1 trivial rfl
def l8(k:Nat)(a0:(List Int)):Option (List Int):=
 (ln k a0).bind fun r1=>
 (oq k r1).bind fun r3=>
 some r3
theorem so(k:Nat)(a0:(List Int))(c:Nat)(r:(List Int))(h:l8 k a0=some r):
 bX Tryz.prog 76 [.eq (.func (.func 108) #[] #[(Pv c)])] [.obj c 22 (Ri a0)] (fun _:Unit=>(bj [Ri r],[.obj c 22 (Ri a0)])):=by
 unfold l8 at h
 replace h:=a9 h
 refine bX.of 9 Tryz.func76 rfl Tryz.ntmps76 rfl fun S w0=>?_
 refine sr ?_
 refine cq ?_
 refine nt ?_
 refine sr ?_
 refine mq ?_
 obtain⟨r1,j,h⟩:=aa h
 have n:=ru k a0 c r1 j
 refine bN (Δ:=[_]) (F:=_) (fun _ _ _=>ay rfl _) rfl rfl (ao [.tmp 4] rfl rfl RF rfl n) ⟨rfl,trivial⟩ fun z2=>?_
 refine au ?_
 obtain⟨r3,e,h⟩:=aa h
 have l:=uN k r1 z2 r3 e
 refine ka (ao [.tmp 6] rfl rfl RE rfl l) ?_
 refine nt ?_
 refine sr ?_
 refine mq ?_
 refine aq ?_
 refine nt ?_
 refine bI ?_
 refine bu (dM [2,3,5,6,8] ⟨rfl,rfl,rfl,rfl,rfl,trivial⟩) ?_
 cases h
 exact aN () [_] 1 ⟨rfl,trivial⟩ rfl
theorem sn(a0:(List Int)):bX Tryz.prog 77 [Ri a0] [] (fun z:Nat=>(bj [.eq (.func (.func 108) #[] #[(Pv z)])],[.obj z 22 (Ri a0)])):=by
 refine bX.of 4 Tryz.func77 rfl Tryz.ntmps77 rfl fun S w0=>?_;refine sr (bx fun z=>?_);refine au ?_;refine ja (tQ [] [.tmp 1] [] [(Pv z)] rfl rfl rfl) ?_;refine au ?_;exact aN z [_] 1 ⟨rfl,trivial⟩ rfl
def fW(k:Nat)(a0:(List Int)):Option (List Int):=
 (cU (bm (List.length ([]:(List Int))+List.length a0))).bind fun _=>
 some (([]:(List Int))++a0)
theorem dp(k:Nat)(a0:(List Int))(r:(List Int))(h:fW k a0=some r):
 bX Tryz.prog 41 [Ri a0] [] (fun z:Value=>(bj [.eq z],[.sl z 3 (.int .i64) r])):=by
 unfold fW at h
 replace h:=a9 h
 refine bX.of 6 Tryz.func41 rfl Tryz.ntmps41 rfl fun S w0=>?_
 refine au ?_
 refine aD rfl rfl rfl (ib (t:=(.int .i64)) [] ([]:(List Int)) rfl rfl dk .nil rfl rfl) trivial fun v1=>?_
 refine mq ?_
 obtain⟨u2,c,h⟩:=aa h
 refine cz rfl rfl rfl (bf rfl rfl dk (aA c)) ⟨rfl,rfl,trivial⟩ fun v3=>?_
 refine au ?_
 cases h
 exact aN v3 [.eq v3] 1 ⟨rfl,trivial⟩ rfl
def fK(k:Nat)(a0:aP):Nat→((List gf)×Int)→Option (List gf)
 |0,_=>none
 |n+1,y9=>
  if y9.2 < (a0.2.1.length:Int) then((aQ a0.2.1 y9.2).bind fun c=>
  (aQ a0.2.1 y9.2).bind fun j=>
  (fW k j.2).bind fun e=>
  (cU (bm (List.length y9.1+List.length [(c.1,e)]))).bind fun _=>
  (ck (y9.2+1)).bind fun h=>
  fK k a0 n (y9.1++[(c.1,e)],h)) else(some y9.1)
def je(k:Nat)(a0:aP):Option aP:=
 (fW k a0.2.2).bind fun r3=>
 ((fK k a0 k (([]:(List gf)),0)):Option ((List gf))).bind fun x7=>
 some (a0.1,x7,r3)
theorem oY(k:Nat)(a0:aP)(r:aP)(h:je k a0=some r):
 bX Tryz.prog 11 [.rep ak a0] [] (fun z:Value×Value=>(bj [.agg (.pair (I r.1) (.pair (.eq z.1) (.eq z.2)))],[.sl z.1 35 aJ r.2.1,.sl z.2 3 (.int .i64) r.2.2])):=by
 unfold je at h
 replace h:=a9 h
 refine bX.of 38 Tryz.func11 rfl Tryz.ntmps11 rfl fun S w0=>?_
 refine sr ?_
 refine bx fun b1=>?_
 refine aD rfl rfl rfl (aY rfl lz nU) trivial fun b2=>?_
 refine nt ?_
 refine ar ?_
 obtain⟨r3,c,h⟩:=aa h
 refine dG (SE.fin (Γ':=[(1,Pt b1),(2,Pt b2)]) (Δ':=[.obj b2 27 (.agg (.pair (I 0) (.pair (.eq (.slice none 0 0)) (.eq (.slice none 0 0))))),.obj b1 27 (.rep ak a0)]) [0,1] ⟨rfl,rfl,trivial⟩ rfl) ?_
 refine wG (I:=Value×Nat) (Ge:=fun i=>[(1,Pt b1),(2,Pt b2),(3,.eq (.pointer (some ⟨i.2,0,none⟩)))]) (De:=fun i=>[.obj b1 27 (.rep ak a0),.obj b2 27 (.agg (.pair (I 0) (.pair (.eq (.slice none 0 0)) (.eq (.slice none 0 0))))),.sl i.1 3 (.int .i64) r3,.obj i.2 27 (.agg (.pair (I a0.1) (.pair (.eq (.slice none 0 0)) (.eq i.1))))]) (L:=[true,true,true,true,true,true,true,true]) cH rfl (fun J hJ hE=>?_) (by kernel_rfl) ?_
 ·
  have s127:∀(v4:Value) (b6:Nat),J 1 [true,true,true,true,true,true,true,false] [(1,Pt b1),(2,Pt b2),(3,Pt b6),(10,.agg (.pair (I a0.1) (.pair (.eq (.slice none 0 0)) (.eq v4))))] [.obj b1 27 (.rep ak a0),.obj b2 27 (.agg (.pair (I 0) (.pair (.eq (.slice none 0 0)) (.eq (.slice none 0 0))))),.sl v4 3 (.int .i64) r3,.obj b6 27 (.agg (.pair (I 0) (.pair (.eq (.slice none 0 0)) (.eq (.slice none 0 0)))))]:=fun v4 b6=>by
   subst hJ;refine JD.step [7] (by kernel_rfl) rfl ?_;refine co.cons rfl ?_ ?_
   ·refine fr 3 ?_;refine a8 rfl rfl (aX rfl c6 trivial rfl rfl) ⟨rfl,rfl,trivial⟩ ?_;exact aB (hE ⟨v4,b6⟩) [1,2,3,0] ⟨rfl,rfl,rfl,trivial⟩
   exact trivial
  have s63:∀(v4:Value),J 2 [true,true,true,true,true,true,false,false] [(1,Pt b1),(2,Pt b2),(10,.agg (.pair (I a0.1) (.pair (.eq (.slice none 0 0)) (.eq v4))))] [.obj b1 27 (.rep ak a0),.obj b2 27 (.agg (.pair (I 0) (.pair (.eq (.slice none 0 0)) (.eq (.slice none 0 0))))),.sl v4 3 (.int .i64) r3]:=fun v4=>by
   subst hJ;refine JD.step [6] (by kernel_rfl) rfl ?_;refine co.cons rfl ?_ ?_
   ·refine aD rfl rfl rfl (aY rfl lz nU) trivial fun b6=>?_;exact aB (s127 v4 b6) [1,2,3,0] ⟨rfl,rfl,rfl,rfl,trivial⟩
   exact trivial
  have s95:∀(v4:Value) (b6:Nat),J 2 [true,true,true,true,true,false,true,false] [(1,Pt b1),(2,Pt b2),(3,Pt b6),(6,I a0.1),(9,.eq v4)] [.obj b1 27 (.rep ak a0),.obj b2 27 (.agg (.pair (I 0) (.pair (.eq (.slice none 0 0)) (.eq (.slice none 0 0))))),.sl v4 3 (.int .i64) r3,.obj b6 27 (.agg (.pair (I 0) (.pair (.eq (.slice none 0 0)) (.eq (.slice none 0 0)))))]:=fun v4 b6=>by
   subst hJ;refine JD.step [5] (by kernel_rfl) rfl ?_;refine co.cons rfl ?_ ?_
   ·refine fr 2 ?_;refine qf fun o5=>?_;refine jb (c9 [(0,.tmp 6,_),(2,.tmp 9,_)] rfl KF lz EE (iM ⟨rfl,o5,trivial⟩) rfl) ?_;exact aB (s127 v4 b6) [1,2,0,3] ⟨rfl,rfl,rfl,rfl,trivial⟩
   exact trivial
  have s31:∀(v4:Value),J 3 [true,true,true,true,true,false,false,false] [(1,Pt b1),(2,Pt b2),(6,I a0.1),(9,.eq v4)] [.obj b1 27 (.rep ak a0),.obj b2 27 (.agg (.pair (I 0) (.pair (.eq (.slice none 0 0)) (.eq (.slice none 0 0))))),.sl v4 3 (.int .i64) r3]:=fun v4=>by
   subst hJ;refine JD.step [5,6] (by kernel_rfl) rfl ?_;refine co.cons rfl ?_ ?_
   ·refine fr 2 ?_;refine qf fun o5=>?_;refine jb (c9 [(0,.tmp 6,_),(2,.tmp 9,_)] rfl KF lz EE (iM ⟨rfl,o5,trivial⟩) rfl) ?_;exact aB (s63 v4) [1,2,0] ⟨rfl,rfl,rfl,trivial⟩
   refine co.cons rfl ?_ ?_
   ·refine aD rfl rfl rfl (aY rfl lz nU) trivial fun b6=>?_;exact aB (s95 v4 b6) [1,2,3,0] ⟨rfl,rfl,rfl,rfl,rfl,trivial⟩
   exact trivial
  have s79:∀(b6:Nat),J 3 [true,true,true,true,false,false,true,false] [(1,Pt b1),(2,Pt b2),(3,Pt b6),(6,I a0.1),(8,Ri a0.2.2)] [.obj b1 27 (.rep ak a0),.obj b2 27 (.agg (.pair (I 0) (.pair (.eq (.slice none 0 0)) (.eq (.slice none 0 0))))),.obj b6 27 (.agg (.pair (I 0) (.pair (.eq (.slice none 0 0)) (.eq (.slice none 0 0)))))]:=fun b6=>by
   subst hJ;refine JD.step [4] (by kernel_rfl) rfl ?_;refine co.cons rfl ?_ ?_
   ·refine aD rfl rfl rfl (ao [.tmp 8] rfl rfl za rfl (dp k a0.2.2 r3 c)) ⟨rfl,trivial⟩ fun v4=>?_;exact aB (s95 v4 b6) [1,2,0,3] ⟨rfl,rfl,rfl,rfl,rfl,trivial⟩
   exact trivial
  have s93:∀(v4:Value) (b6:Nat),J 3 [true,false,true,true,true,false,true,false] [(1,Pt b1),(2,Pt b2),(3,Pt b6),(5,Pt b1),(9,.eq v4)] [.obj b1 27 (.rep ak a0),.obj b2 27 (.agg (.pair (I 0) (.pair (.eq (.slice none 0 0)) (.eq (.slice none 0 0))))),.sl v4 3 (.int .i64) r3,.obj b6 27 (.agg (.pair (I 0) (.pair (.eq (.slice none 0 0)) (.eq (.slice none 0 0)))))]:=fun v4 b6=>by
   subst hJ;refine JD.step [1] (by kernel_rfl) rfl ?_;refine co.cons rfl ?_ ?_
   ·refine lo ct ?_;exact aB (s95 v4 b6) [0,1,2,3] ⟨rfl,rfl,rfl,rfl,rfl,trivial⟩
   exact trivial
  have s15:J 4 [true,true,true,true,false,false,false,false] [(1,Pt b1),(2,Pt b2),(6,I a0.1),(8,Ri a0.2.2)] [.obj b1 27 (.rep ak a0),.obj b2 27 (.agg (.pair (I 0) (.pair (.eq (.slice none 0 0)) (.eq (.slice none 0 0)))))]:=by
   subst hJ;refine JD.step [4,6] (by kernel_rfl) rfl ?_;refine co.cons rfl ?_ ?_
   ·refine aD rfl rfl rfl (ao [.tmp 8] rfl rfl za rfl (dp k a0.2.2 r3 c)) ⟨rfl,trivial⟩ fun v4=>?_;exact aB (s31 v4) [1,2,0] ⟨rfl,rfl,rfl,rfl,trivial⟩
   refine co.cons rfl ?_ ?_
   ·refine aD rfl rfl rfl (aY rfl lz nU) trivial fun b6=>?_;exact aB (s79 b6) [1,2,0] ⟨rfl,rfl,rfl,rfl,rfl,trivial⟩
   exact trivial
  have s71:∀(b6:Nat),J 4 [true,true,true,false,false,false,true,false] [(1,Pt b1),(2,Pt b2),(3,Pt b6),(6,I a0.1),(7,.eq (.pointer (some ⟨b1,2,none⟩)))] [.obj b1 27 (.rep ak a0),.obj b2 27 (.agg (.pair (I 0) (.pair (.eq (.slice none 0 0)) (.eq (.slice none 0 0))))),.obj b6 27 (.agg (.pair (I 0) (.pair (.eq (.slice none 0 0)) (.eq (.slice none 0 0)))))]:=fun b6=>by
   subst hJ;refine JD.step [3] (by kernel_rfl) rfl ?_;refine co.cons rfl ?_ ?_
   ·refine lo bZ ?_;exact aB (s79 b6) [0,1,2] ⟨rfl,rfl,rfl,rfl,rfl,trivial⟩
   exact trivial
  have s29:∀(v4:Value),J 4 [true,false,true,true,true,false,false,false] [(1,Pt b1),(2,Pt b2),(5,Pt b1),(9,.eq v4)] [.obj b1 27 (.rep ak a0),.obj b2 27 (.agg (.pair (I 0) (.pair (.eq (.slice none 0 0)) (.eq (.slice none 0 0))))),.sl v4 3 (.int .i64) r3]:=fun v4=>by
   subst hJ;refine JD.step [1,6] (by kernel_rfl) rfl ?_;refine co.cons rfl ?_ ?_
   ·refine lo ct ?_;exact aB (s31 v4) [0,1,2] ⟨rfl,rfl,rfl,rfl,trivial⟩
   refine co.cons rfl ?_ ?_
   ·refine aD rfl rfl rfl (aY rfl lz nU) trivial fun b6=>?_;exact aB (s93 v4 b6) [1,2,3,0] ⟨rfl,rfl,rfl,rfl,rfl,trivial⟩
   exact trivial
  have s77:∀(b6:Nat),J 4 [true,false,true,true,false,false,true,false] [(1,Pt b1),(2,Pt b2),(3,Pt b6),(5,Pt b1),(8,Ri a0.2.2)] [.obj b1 27 (.rep ak a0),.obj b2 27 (.agg (.pair (I 0) (.pair (.eq (.slice none 0 0)) (.eq (.slice none 0 0))))),.obj b6 27 (.agg (.pair (I 0) (.pair (.eq (.slice none 0 0)) (.eq (.slice none 0 0)))))]:=fun b6=>by
   subst hJ;refine JD.step [1,4] (by kernel_rfl) rfl ?_;refine co.cons rfl ?_ ?_
   ·refine lo ct ?_;exact aB (s79 b6) [0,1,2] ⟨rfl,rfl,rfl,rfl,rfl,trivial⟩
   refine co.cons rfl ?_ ?_
   ·refine aD rfl rfl rfl (ao [.tmp 8] rfl rfl za rfl (dp k a0.2.2 r3 c)) ⟨rfl,trivial⟩ fun v4=>?_;exact aB (s93 v4 b6) [1,2,0,3] ⟨rfl,rfl,rfl,rfl,rfl,trivial⟩
   exact trivial
  have s92:∀(v4:Value) (b6:Nat),J 4 [false,false,true,true,true,false,true,false] [(1,Pt b1),(2,Pt b2),(3,Pt b6),(9,.eq v4)] [.obj b1 27 (.rep ak a0),.obj b2 27 (.agg (.pair (I 0) (.pair (.eq (.slice none 0 0)) (.eq (.slice none 0 0))))),.sl v4 3 (.int .i64) r3,.obj b6 27 (.agg (.pair (I 0) (.pair (.eq (.slice none 0 0)) (.eq (.slice none 0 0)))))]:=fun v4 b6=>by
   subst hJ;refine JD.step [0] (by kernel_rfl) rfl ?_;refine co.cons rfl ?_ ?_
   ·refine fl gI ?_;exact aB (s93 v4 b6) [0,1,2,3] ⟨rfl,rfl,rfl,rfl,rfl,trivial⟩
   exact trivial
  have s7:J 5 [true,true,true,false,false,false,false,false] [(1,Pt b1),(2,Pt b2),(6,I a0.1),(7,.eq (.pointer (some ⟨b1,2,none⟩)))] [.obj b1 27 (.rep ak a0),.obj b2 27 (.agg (.pair (I 0) (.pair (.eq (.slice none 0 0)) (.eq (.slice none 0 0)))))]:=by
   subst hJ;refine JD.step [3,6] (by kernel_rfl) rfl ?_;refine co.cons rfl ?_ ?_
   ·refine lo bZ ?_;exact aB s15 [0,1] ⟨rfl,rfl,rfl,rfl,trivial⟩
   refine co.cons rfl ?_ ?_
   ·refine aD rfl rfl rfl (aY rfl lz nU) trivial fun b6=>?_;exact aB (s71 b6) [1,2,0] ⟨rfl,rfl,rfl,rfl,rfl,trivial⟩
   exact trivial
  have s67:∀(b6:Nat),J 5 [true,true,false,false,false,false,true,false] [(1,Pt b1),(2,Pt b2),(3,Pt b6),(6,I a0.1)] [.obj b1 27 (.rep ak a0),.obj b2 27 (.agg (.pair (I 0) (.pair (.eq (.slice none 0 0)) (.eq (.slice none 0 0))))),.obj b6 27 (.agg (.pair (I 0) (.pair (.eq (.slice none 0 0)) (.eq (.slice none 0 0)))))]:=fun b6=>by
   subst hJ;refine JD.step [2] (by kernel_rfl) rfl ?_;refine co.cons rfl ?_ ?_
   ·refine fl cM ?_;exact aB (s71 b6) [0,1,2] ⟨rfl,rfl,rfl,rfl,rfl,trivial⟩
   exact trivial
  have s13:J 5 [true,false,true,true,false,false,false,false] [(1,Pt b1),(2,Pt b2),(5,Pt b1),(8,Ri a0.2.2)] [.obj b1 27 (.rep ak a0),.obj b2 27 (.agg (.pair (I 0) (.pair (.eq (.slice none 0 0)) (.eq (.slice none 0 0)))))]:=by
   subst hJ;refine JD.step [1,4,6] (by kernel_rfl) rfl ?_;refine co.cons rfl ?_ ?_
   ·refine lo ct ?_;exact aB s15 [0,1] ⟨rfl,rfl,rfl,rfl,trivial⟩
   refine co.cons rfl ?_ ?_
   ·refine aD rfl rfl rfl (ao [.tmp 8] rfl rfl za rfl (dp k a0.2.2 r3 c)) ⟨rfl,trivial⟩ fun v4=>?_;exact aB (s29 v4) [1,2,0] ⟨rfl,rfl,rfl,rfl,trivial⟩
   refine co.cons rfl ?_ ?_
   ·refine aD rfl rfl rfl (aY rfl lz nU) trivial fun b6=>?_;exact aB (s77 b6) [1,2,0] ⟨rfl,rfl,rfl,rfl,rfl,trivial⟩
   exact trivial
  have s69:∀(b6:Nat),J 5 [true,false,true,false,false,false,true,false] [(1,Pt b1),(2,Pt b2),(3,Pt b6),(5,Pt b1),(7,.eq (.pointer (some ⟨b1,2,none⟩)))] [.obj b1 27 (.rep ak a0),.obj b2 27 (.agg (.pair (I 0) (.pair (.eq (.slice none 0 0)) (.eq (.slice none 0 0))))),.obj b6 27 (.agg (.pair (I 0) (.pair (.eq (.slice none 0 0)) (.eq (.slice none 0 0)))))]:=fun b6=>by
   subst hJ;refine JD.step [1,3] (by kernel_rfl) rfl ?_;refine co.cons rfl ?_ ?_
   ·refine lo ct ?_;exact aB (s71 b6) [0,1,2] ⟨rfl,rfl,rfl,rfl,rfl,trivial⟩
   refine co.cons rfl ?_ ?_
   ·refine lo bZ ?_;exact aB (s77 b6) [0,1,2] ⟨rfl,rfl,rfl,rfl,rfl,trivial⟩
   exact trivial
  have s28:∀(v4:Value),J 5 [false,false,true,true,true,false,false,false] [(1,Pt b1),(2,Pt b2),(9,.eq v4)] [.obj b1 27 (.rep ak a0),.obj b2 27 (.agg (.pair (I 0) (.pair (.eq (.slice none 0 0)) (.eq (.slice none 0 0))))),.sl v4 3 (.int .i64) r3]:=fun v4=>by
   subst hJ;refine JD.step [0,6] (by kernel_rfl) rfl ?_;refine co.cons rfl ?_ ?_
   ·refine fl gI ?_;exact aB (s29 v4) [0,1,2] ⟨rfl,rfl,rfl,rfl,trivial⟩
   refine co.cons rfl ?_ ?_
   ·refine aD rfl rfl rfl (aY rfl lz nU) trivial fun b6=>?_;exact aB (s92 v4 b6) [1,2,3,0] ⟨rfl,rfl,rfl,rfl,trivial⟩
   exact trivial
  have s76:∀(b6:Nat),J 5 [false,false,true,true,false,false,true,false] [(1,Pt b1),(2,Pt b2),(3,Pt b6),(8,Ri a0.2.2)] [.obj b1 27 (.rep ak a0),.obj b2 27 (.agg (.pair (I 0) (.pair (.eq (.slice none 0 0)) (.eq (.slice none 0 0))))),.obj b6 27 (.agg (.pair (I 0) (.pair (.eq (.slice none 0 0)) (.eq (.slice none 0 0)))))]:=fun b6=>by
   subst hJ;refine JD.step [0,4] (by kernel_rfl) rfl ?_;refine co.cons rfl ?_ ?_
   ·refine fl gI ?_;exact aB (s77 b6) [0,1,2] ⟨rfl,rfl,rfl,rfl,rfl,trivial⟩
   refine co.cons rfl ?_ ?_
   ·refine aD rfl rfl rfl (ao [.tmp 8] rfl rfl za rfl (dp k a0.2.2 r3 c)) ⟨rfl,trivial⟩ fun v4=>?_;exact aB (s92 v4 b6) [1,2,0,3] ⟨rfl,rfl,rfl,rfl,trivial⟩
   exact trivial
  have s3:J 6 [true,true,false,false,false,false,false,false] [(1,Pt b1),(2,Pt b2),(6,I a0.1)] [.obj b1 27 (.rep ak a0),.obj b2 27 (.agg (.pair (I 0) (.pair (.eq (.slice none 0 0)) (.eq (.slice none 0 0)))))]:=by
   subst hJ;refine JD.step [2,6] (by kernel_rfl) rfl ?_;refine co.cons rfl ?_ ?_
   ·refine fl cM ?_;exact aB s7 [0,1] ⟨rfl,rfl,rfl,rfl,trivial⟩
   refine co.cons rfl ?_ ?_
   ·refine aD rfl rfl rfl (aY rfl lz nU) trivial fun b6=>?_;exact aB (s67 b6) [1,2,0] ⟨rfl,rfl,rfl,rfl,trivial⟩
   exact trivial
  have s5:J 6 [true,false,true,false,false,false,false,false] [(1,Pt b1),(2,Pt b2),(5,Pt b1),(7,.eq (.pointer (some ⟨b1,2,none⟩)))] [.obj b1 27 (.rep ak a0),.obj b2 27 (.agg (.pair (I 0) (.pair (.eq (.slice none 0 0)) (.eq (.slice none 0 0)))))]:=by
   subst hJ;refine JD.step [1,3,6] (by kernel_rfl) rfl ?_;refine co.cons rfl ?_ ?_
   ·refine lo ct ?_;exact aB s7 [0,1] ⟨rfl,rfl,rfl,rfl,trivial⟩
   refine co.cons rfl ?_ ?_
   ·refine lo bZ ?_;exact aB s13 [0,1] ⟨rfl,rfl,rfl,rfl,trivial⟩
   refine co.cons rfl ?_ ?_
   ·refine aD rfl rfl rfl (aY rfl lz nU) trivial fun b6=>?_;exact aB (s69 b6) [1,2,0] ⟨rfl,rfl,rfl,rfl,rfl,trivial⟩
   exact trivial
  have s65:∀(b6:Nat),J 6 [true,false,false,false,false,false,true,false] [(1,Pt b1),(2,Pt b2),(3,Pt b6),(5,Pt b1)] [.obj b1 27 (.rep ak a0),.obj b2 27 (.agg (.pair (I 0) (.pair (.eq (.slice none 0 0)) (.eq (.slice none 0 0))))),.obj b6 27 (.agg (.pair (I 0) (.pair (.eq (.slice none 0 0)) (.eq (.slice none 0 0)))))]:=fun b6=>by
   subst hJ;refine JD.step [1,2] (by kernel_rfl) rfl ?_;refine co.cons rfl ?_ ?_
   ·refine lo ct ?_;exact aB (s67 b6) [0,1,2] ⟨rfl,rfl,rfl,rfl,trivial⟩
   refine co.cons rfl ?_ ?_
   ·refine fl cM ?_;exact aB (s69 b6) [0,1,2] ⟨rfl,rfl,rfl,rfl,rfl,trivial⟩
   exact trivial
  have s12:J 6 [false,false,true,true,false,false,false,false] [(1,Pt b1),(2,Pt b2),(8,Ri a0.2.2)] [.obj b1 27 (.rep ak a0),.obj b2 27 (.agg (.pair (I 0) (.pair (.eq (.slice none 0 0)) (.eq (.slice none 0 0)))))]:=by
   subst hJ;refine JD.step [0,4,6] (by kernel_rfl) rfl ?_;refine co.cons rfl ?_ ?_
   ·refine fl gI ?_;exact aB s13 [0,1] ⟨rfl,rfl,rfl,rfl,trivial⟩
   refine co.cons rfl ?_ ?_
   ·refine aD rfl rfl rfl (ao [.tmp 8] rfl rfl za rfl (dp k a0.2.2 r3 c)) ⟨rfl,trivial⟩ fun v4=>?_;exact aB (s28 v4) [1,2,0] ⟨rfl,rfl,rfl,trivial⟩
   refine co.cons rfl ?_ ?_
   ·refine aD rfl rfl rfl (aY rfl lz nU) trivial fun b6=>?_;exact aB (s76 b6) [1,2,0] ⟨rfl,rfl,rfl,rfl,trivial⟩
   exact trivial
  have s68:∀(b6:Nat),J 6 [false,false,true,false,false,false,true,false] [(1,Pt b1),(2,Pt b2),(3,Pt b6),(7,.eq (.pointer (some ⟨b1,2,none⟩)))] [.obj b1 27 (.rep ak a0),.obj b2 27 (.agg (.pair (I 0) (.pair (.eq (.slice none 0 0)) (.eq (.slice none 0 0))))),.obj b6 27 (.agg (.pair (I 0) (.pair (.eq (.slice none 0 0)) (.eq (.slice none 0 0)))))]:=fun b6=>by
   subst hJ;refine JD.step [0,3] (by kernel_rfl) rfl ?_;refine co.cons rfl ?_ ?_
   ·refine fl gI ?_;exact aB (s69 b6) [0,1,2] ⟨rfl,rfl,rfl,rfl,rfl,trivial⟩
   refine co.cons rfl ?_ ?_
   ·refine lo bZ ?_;exact aB (s76 b6) [0,1,2] ⟨rfl,rfl,rfl,rfl,trivial⟩
   exact trivial
  have s1:J 7 [true,false,false,false,false,false,false,false] [(1,Pt b1),(2,Pt b2),(5,Pt b1)] [.obj b1 27 (.rep ak a0),.obj b2 27 (.agg (.pair (I 0) (.pair (.eq (.slice none 0 0)) (.eq (.slice none 0 0)))))]:=by
   subst hJ;refine JD.step [1,2,6] (by kernel_rfl) rfl ?_;refine co.cons rfl ?_ ?_
   ·refine lo ct ?_;exact aB s3 [0,1] ⟨rfl,rfl,rfl,trivial⟩
   refine co.cons rfl ?_ ?_
   ·refine fl cM ?_;exact aB s5 [0,1] ⟨rfl,rfl,rfl,rfl,trivial⟩
   refine co.cons rfl ?_ ?_
   ·refine aD rfl rfl rfl (aY rfl lz nU) trivial fun b6=>?_;exact aB (s65 b6) [1,2,0] ⟨rfl,rfl,rfl,rfl,trivial⟩
   exact trivial
  have s4:J 7 [false,false,true,false,false,false,false,false] [(1,Pt b1),(2,Pt b2),(7,.eq (.pointer (some ⟨b1,2,none⟩)))] [.obj b1 27 (.rep ak a0),.obj b2 27 (.agg (.pair (I 0) (.pair (.eq (.slice none 0 0)) (.eq (.slice none 0 0)))))]:=by
   subst hJ;refine JD.step [0,3,6] (by kernel_rfl) rfl ?_;refine co.cons rfl ?_ ?_
   ·refine fl gI ?_;exact aB s5 [0,1] ⟨rfl,rfl,rfl,rfl,trivial⟩
   refine co.cons rfl ?_ ?_
   ·refine lo bZ ?_;exact aB s12 [0,1] ⟨rfl,rfl,rfl,trivial⟩
   refine co.cons rfl ?_ ?_
   ·refine aD rfl rfl rfl (aY rfl lz nU) trivial fun b6=>?_;exact aB (s68 b6) [1,2,0] ⟨rfl,rfl,rfl,rfl,trivial⟩
   exact trivial
  have s64:∀(b6:Nat),J 7 [false,false,false,false,false,false,true,false] [(1,Pt b1),(2,Pt b2),(3,Pt b6)] [.obj b1 27 (.rep ak a0),.obj b2 27 (.agg (.pair (I 0) (.pair (.eq (.slice none 0 0)) (.eq (.slice none 0 0))))),.obj b6 27 (.agg (.pair (I 0) (.pair (.eq (.slice none 0 0)) (.eq (.slice none 0 0)))))]:=fun b6=>by
   subst hJ;refine JD.step [0,2] (by kernel_rfl) rfl ?_;refine co.cons rfl ?_ ?_
   ·refine fl gI ?_;exact aB (s65 b6) [0,1,2] ⟨rfl,rfl,rfl,rfl,trivial⟩
   refine co.cons rfl ?_ ?_
   ·refine fl cM ?_;exact aB (s68 b6) [0,1,2] ⟨rfl,rfl,rfl,rfl,trivial⟩
   exact trivial
  have s0:J 8 [false,false,false,false,false,false,false,false] [(1,Pt b1),(2,Pt b2)] [.obj b2 27 (.agg (.pair (I 0) (.pair (.eq (.slice none 0 0)) (.eq (.slice none 0 0))))),.obj b1 27 (.rep ak a0)]:=by
   subst hJ;refine JD.step [0,2,6] (by kernel_rfl) rfl ?_;refine co.cons rfl ?_ ?_
   ·refine fl gI ?_;exact aB s1 [1,0] ⟨rfl,rfl,rfl,trivial⟩
   refine co.cons rfl ?_ ?_
   ·refine fl cM ?_;exact aB s4 [1,0] ⟨rfl,rfl,rfl,trivial⟩
   refine co.cons rfl ?_ ?_
   ·refine aD rfl rfl rfl (aY rfl lz nU) trivial fun b6=>?_;exact aB (s64 b6) [2,1,0] ⟨rfl,rfl,rfl,trivial⟩
   exact trivial
  exact s0
 rintro⟨v4,b6⟩
 show JN _ _ [(1,Pt b1),(2,Pt b2),(3,Pt b6)] [.obj b1 27 (.rep ak a0),.obj b2 27 (.agg (.pair (I 0) (.pair (.eq (.slice none 0 0)) (.eq (.slice none 0 0))))),.sl v4 3 (.int .i64) r3,.obj b6 27 (.agg (.pair (I a0.1) (.pair (.eq (.slice none 0 0)) (.eq v4))))]
 refine tn ?_
 refine aI (Z:=Value) (α:=(List gf)) (fun z8 x7=>[(2,Pt b2),(3,Pt b6)]) (fun z8 x7=>[.obj b2 27 (.agg (.pair (I 0) (.pair (.eq (.slice none 0 0)) (.eq (.slice none 0 0))))),.obj b6 27 (.agg (.pair (I a0.1) (.pair (.eq z8) (.eq v4)))),.sl z8 35 aJ x7,.sl v4 3 (.int .i64) r3]) h (fun K h=>?_) (fun z8 x7 h=>?_)
 ·
  refine au ?_;refine aj (dG (SE.nil 35 aJ) ?_);refine aK (fun e y9=>[(1,Pt b1),(2,Pt b2),(3,Pt b6),(4,I y9.2)]) (fun e y9=>[.obj b1 27 (.rep ak a0),.obj b2 27 (.agg (.pair (I 0) (.pair (.eq (.slice none 0 0)) (.eq (.slice none 0 0))))),.obj b6 27 (.agg (.pair (I a0.1) (.pair (.eq e) (.eq v4)))),.sl e 35 aJ y9.1,.sl v4 3 (.int .i64) r3]) (fK k a0) k (.slice none 0 0) (([]:(List gf)),0) (fun _=>rfl) h (SE.fin [1,2,4,0,3] ⟨rfl,rfl,rfl,rfl,trivial⟩ rfl) (fun n e y9 h=>?_);unfold fK at h;refine au ?_;refine fl cd ?_;refine lo fQ ?_;refine ol nn ?_;refine jb (bq rfl) ?_;refine nt (ci h (fun h=>?_) (fun h=>?_))
  ·refine au ?_;refine aj (bJ ?_);refine da (av rfl cd) ?_;refine ea 2 (ai rfl fQ jw rfl) ?_;refine da (av rfl cd) ?_;refine ea 0 (ai rfl fQ jw rfl) ?_;refine dm ?_;obtain⟨l,x,h⟩:=aa h;refine db (aH (t:=aJ) rfl nn jl x) ?_;refine da (aG 1 false rfl kJ rfl) ?_;refine da (an (t:=(.int .i64)) rfl ct rfl) ?_;refine da (av rfl cd) ?_;refine ea 0 (ai rfl fQ jw rfl) ?_;refine dm ?_;obtain⟨F,u,h⟩:=aa h;refine db (aH (t:=aJ) rfl nn jl u) ?_;refine da (aG 1 false rfl kH rfl) ?_;refine da (an (t:=(.slice (.int .i64))) rfl bZ rfl) ?_;obtain⟨j,D,h⟩:=aa h;refine da (EL (ao [.tmp 31] rfl rfl za rfl (dp k F.2 j D))) ?_;refine db (c9 [(0,.tmp 25,_),(1,.tmp 32,_)] rfl CC vg wu (iM ⟨rfl,rfl,trivial⟩) rfl) ?_;refine da (bg (t:=aJ) [(.tmp 33,_)] [(l.1,j)] rfl rfl BY (.cons trivial (.agg (.pair .int .rep)) .nil) rfl rfl) ?_;refine df cH ?_;obtain⟨O,y,h⟩:=aa h;refine fr 3 ?_;refine cz rfl rfl rfl (bf rfl rfl BY (aA y)) ⟨rfl,rfl,trivial⟩ fun M=>?_;refine fl cd ?_;refine qf fun o16=>?_;refine fr 3 ?_;refine a8 rfl rfl (aX rfl fQ o16 rfl rfl) ⟨rfl,rfl,trivial⟩ ?_;refine au ?_;refine ab (mq ?_);obtain⟨E,s,h⟩:=aa h;refine jb (be rfl s) ?_;refine au ?_;exact jz (M,(y9.1++[(l.1,j)],E)) h [2,3,0,1,4]
  ·refine au ?_;exact jz (e,y9.1) h [1,2,3,4]
 ·
  refine sr (fr 1 ?_);refine lo c6 ?_;refine fr 1 ?_;refine a8 rfl rfl (aX rfl c6 trivial rfl rfl) ⟨rfl,rfl,trivial⟩ ?_;refine nt (bI (bu (SE.fin (Γ':=[(2,_)]) [2,3,0,1] ⟨rfl,trivial⟩ rfl) ?_));cases h;exact aN (z8,v4) [.agg (.pair (I a0.1) (.pair (.eq z8) (.eq v4)))] 2 ⟨⟨_,_,_,_,_,rfl,(.tail _ (.tail _ (.head _))),c6,(uA),rfl⟩,trivial⟩ rfl
def jQ(k:Nat)(a0:aP):Nat→Int→Option (Except Bool Unit)
 |0,_=>none
 |n+1,y6=>
  if y6 < (a0.2.1.length:Int) then((aQ a0.2.1 y6).bind fun x8=>
  if 20 < (x8.2.length:Int) then(some (.error true)) else((ck (y6+1)).bind fun x9=>
  jQ k a0 n x9)) else(some (.ok ()))
def mo(k:Nat)(a0:aP):Option Bool:=
 ((if 20 < (a0.2.1.length:Int) then(some true) else(some (decide (20 < (a0.2.2.length:Int))))):Option (Bool)).bind fun x2=>
 if x2=true then(some true) else(bE (α:=Unit) (jQ k a0 k 0) (some) fun _=>
 ((if(a0.2.1.length:Int)=5 then(some (decide ((a0.2.2.length:Int)=3))) else(some false)):Option (Bool)).bind fun c=>
 some c)
theorem uB(k:Nat)(a0:aP)(r:Bool)(h:mo k a0=some r):
 bX Tryz.prog 14 [.rep ak a0] [] (fun _:Unit=>(bj [.eq (.bool r)],[])):=by
 unfold mo at h
 replace h:=a9 h
 refine bX.of 39 Tryz.func14 rfl Tryz.ntmps14 rfl fun S w0=>?_
 refine sr ?_
 refine bx fun b1=>?_
 refine cq ?_
 refine nt ?_
 refine ar ?_
 refine aI (Z:=Unit) (α:=Bool) (fun z3 x2=>[(1,Pt b1),(13,.eq (.bool x2))]) (fun z3 x2=>[.obj b1 27 (.rep ak a0)]) h (fun K h=>?_) (fun z3 x2 h=>?_)
 ·
  refine ab (fl cd ?_);refine lo fQ ?_;refine ol nn ?_;refine jb (jv rfl) ?_;refine mq ?_;refine cg (s:=8) rfl (fun hb=>?_) (fun hb=>?_)
  ·replace h:=cF (nX hb) h;refine au ?_;exact jz ((),true) h [0]
  ·replace h:=bM (nk hb) h;refine ga (av rfl cM) ?_;refine jr rfl rfl rfl rfl rfl rfl (ai rfl bZ jw rfl) ⟨rfl,trivial⟩ ?_;refine ga (ju rfl rfl dP) ?_;refine gb (jv rfl) ?_;refine au ?_;exact jz ((),decide (20 < (a0.2.2.length:Int))) h [0]
 ·
  refine cv h (fun h=>?_) (fun h=>?_)
  ·refine au ?_;cases h;exact ra
  ·refine sk (eT (Z:=Unit) (α:=Unit) (fun z5 x4=>[(1,Pt b1)]) (fun z5 x4=>[.obj b1 27 (.rep ak a0)]) (fun e=>e=r) h (fun e h=>Option.some.inj h) (fun K hR h=>?_) (fun z5 x4 h=>?_))
   ·refine au ?_;refine aj (aK (fun z7 y6=>[(1,Pt b1),(3,I y6)]) (fun z7 y6=>[.obj b1 27 (.rep ak a0)]) (jQ k a0) k () 0 (fun _=>rfl) h (SE.fin [0] ⟨rfl,rfl,trivial⟩ rfl) (fun n z7 y6 h=>?_));unfold jQ at h;refine au ?_;refine fl cd ?_;refine lo fQ ?_;refine ol nn ?_;refine jb (bq rfl) ?_;refine nt (ci h (fun h=>?_) (fun h=>?_))
    ·refine au ?_;refine aj (sr (fl cd ?_));refine lo fQ ?_;refine mq ?_;obtain⟨x8,u,h⟩:=aa h;refine jb (aH (t:=aJ) rfl nn jl u) ?_;refine ja (aG 1 false rfl kH rfl) ?_;refine ja (an (t:=(.slice (.int .i64))) rfl bZ rfl) ?_;refine ol dP ?_;refine jb (jv rfl) ?_;refine nt (ci h (fun h=>?_) (fun h=>?_))
     ·refine au ?_;obtain rfl:=hR _ h;exact ra
     ·refine au ?_;refine ab (mq ?_);obtain⟨x9,l,h⟩:=aa h;refine jb (be rfl l) ?_;refine au ?_;exact jz ((),x9) h [0]
    ·refine au ?_;exact jz ((),()) h [0]
   ·refine aI (Z:=Unit) (α:=Bool) (fun j c=>[(2,.eq (.bool c))]) (fun j c=>[]) h (fun K h=>?_) (fun j c h=>?_)
    ·refine ab (fl cd ?_);refine lo fQ ?_;refine ol nn ?_;refine jb (dO rfl) ?_;refine mq ?_;refine cg (s:=33) rfl (fun hb=>?_) (fun hb=>?_)
     ·replace h:=cF (nX hb) h;refine ga (av rfl cM) ?_;refine jr rfl rfl rfl rfl rfl rfl (ai rfl bZ jw rfl) ⟨rfl,trivial⟩ ?_;refine ga (ju rfl rfl dP) ?_;refine gb (dO rfl) ?_;refine au ?_;exact jz ((),decide ((a0.2.2.length:Int)=3)) h []
     ·replace h:=bM (nk hb) h;refine au ?_;exact jz ((),false) h []
    ·refine bI ?_;cases h;exact ra
def fk(k:Nat)(a0:(List (List Int))):Nat→((List (List Int))×Int)→Option (List (List Int))
 |0,_=>none
 |n+1,y3=>
  if y3.2 < (a0.length:Int) then((aQ a0 y3.2).bind fun x5=>
  (fW k x5).bind fun r6=>
  (cU (bm (List.length y3.1+List.length [r6]))).bind fun _=>
  (ck (y3.2+1)).bind fun c=>
  fk k a0 n (y3.1++[r6],c)) else(some y3.1)
def jy(k:Nat)(a0:(List (List Int))):Option (List (List Int)):=
 ((fk k a0 k (([]:(List (List Int))),0)):Option ((List (List Int)))).bind fun x1=>
 some x1
def py(k:Nat)(a0:aP)(a1:Int)(a2:Int):Option Bool:=
 (aQ a0.2.1 a1).bind fun x2=>
 (ow k x2.2 a2).bind fun r3=>
 some r3
theorem zU(k:Nat)(a0:aP)(a1:Int)(a2:Int)(r:Bool)(h:py k a0 a1 a2=some r):
 bX Tryz.prog 147 [.rep ak a0,I a1,I a2] [] (fun _:Unit=>(bj [.eq (.bool r)],[])):=by
 unfold py at h
 replace h:=a9 h
 refine bX.of 15 Tryz.func147 rfl Tryz.ntmps147 rfl fun S w0=>?_
 refine sr ?_
 refine bx fun b1=>?_
 refine au ?_
 refine fl cd ?_
 refine lo fQ ?_
 refine mq ?_
 obtain⟨x2,c,h⟩:=aa h
 refine jb (aH (t:=aJ) rfl nn jl c) ?_
 refine ja (aG 1 false rfl kH rfl) ?_
 refine ja (an (t:=(.slice (.int .i64))) rfl bZ rfl) ?_
 refine mq ?_
 obtain⟨r3,e,h⟩:=aa h
 have j:=rC k x2.2 a2 r3 e
 refine jb (ao [.tmp 12,.tmp 13] rfl rfl OG rfl j) ?_
 refine au ?_
 cases h
 exact ra
def jJ(k:Nat)(a0:aP)(a1:(List Int))(a2:Int):Nat→((List Int)×(List Int)×(List Int)×Int)→Option ((List Int)×(List Int)×(List Int))
 |0,_=>none
 |n+1,y4=>
  if y4.2.2.2 < (a1.length:Int) then((((aQ a1 y4.2.2.2).bind fun x8=>
  (py k a0 x8 a2).bind fun r9=>
  if r9=true then((aQ a1 y4.2.2.2).bind fun h=>
  (cU (bm (List.length y4.2.2.1+List.length [h]))).bind fun _=>
  some (y4.1,y4.2.1,y4.2.2.1++[h])) else((aQ a1 y4.2.2.2).bind fun c=>
  (cU (bm (List.length y4.2.1+List.length [c]))).bind fun _=>
  if 0 < (y4.2.2.1.length:Int) then((aQ a1 y4.2.2.2).bind fun e=>
  (cU (bm (List.length y4.1+List.length [e]))).bind fun _=>
  some (y4.1++[e],y4.2.1++[c],y4.2.2.1)) else(some (y4.1,y4.2.1++[c],y4.2.2.1)))):Option ((List Int)×(List Int)×(List Int))).bind fun x6=>
  (ck (y4.2.2.2+1)).bind fun j=>
  jJ k a0 a1 a2 n (x6.1,x6.2.1,x6.2.2,j)) else(some (y4.1,y4.2.1,y4.2.2.1))
def su(k:Nat)(a0:aP)(a1:(List Int))(a2:Int):Option ((List Int)×(List Int)):=
 ((jJ k a0 a1 a2 k (([]:(List Int)),([]:(List Int)),([]:(List Int)),0)):Option ((List Int)×(List Int)×(List Int))).bind fun x2=>
 (cU (bm (List.length x2.2.1+List.length x2.2.2))).bind fun _=>
 some (x2.1,x2.2.1++x2.2.2)
theorem Cf(k:Nat)(a0:aP)(a1:(List Int))(a2:Int)(r:(List Int)×(List Int))(h:su k a0 a1 a2=some r):
 bX Tryz.prog 117 [.rep ak a0,Ri a1,I a2] [] (fun _:Unit=>(bj [Ri r.1,Ri r.2],[])):=by
 unfold su at h
 replace h:=a9 h
 refine bX.of 53 Tryz.func117 rfl Tryz.ntmps117 rfl fun S w0=>?_
 refine sr ?_
 refine bx fun b1=>?_
 refine cq ?_
 refine cq ?_
 refine nt ?_
 refine sr ?_
 refine cq ?_
 refine cq ?_
 refine cq ?_
 refine nt ?_
 refine aI (Z:=Value×Value×Value) (α:=(List Int)×(List Int)×(List Int)) (fun z3 x2=>[(8,.eq z3.1),(9,.eq z3.2.1),(10,.eq z3.2.2)]) (fun z3 x2=>[.sl z3.1 3 (.int .i64) x2.1,.sl z3.2.1 3 (.int .i64) x2.2.1,.sl z3.2.2 3 (.int .i64) x2.2.2]) h (fun K h=>?_) (fun z3 x2 h=>?_)
 ·
  refine au ?_;refine aj (dG (SE.nil 3 (.int .i64)) ?_);refine dG (SE.nil 3 (.int .i64)) ?_;refine dG (SE.nil 3 (.int .i64)) ?_;refine aK (fun z5 y4=>[(1,Ri a1),(2,I a2),(3,Pt b1),(8,.eq z5.1),(9,.eq z5.2.1),(10,.eq z5.2.2),(11,I y4.2.2.2)]) (fun z5 y4=>[.obj b1 27 (.rep ak a0),.sl z5.1 3 (.int .i64) y4.1,.sl z5.2.1 3 (.int .i64) y4.2.1,.sl z5.2.2 3 (.int .i64) y4.2.2.1]) (jJ k a0 a1 a2) k ((.slice none 0 0),(.slice none 0 0),(.slice none 0 0)) (([]:(List Int)),([]:(List Int)),([]:(List Int)),0) (fun _=>rfl) h (SE.fin [3,2,1,0] ⟨rfl,rfl,rfl,rfl,rfl,rfl,rfl,trivial⟩ rfl) (fun n z5 y4 h=>?_);unfold jJ at h;refine au ?_;refine ol dP ?_;refine jb (bq rfl) ?_;refine nt (ci h (fun h=>?_) (fun h=>?_))
  ·refine sk (aI (Z:=Value×Value×Value) (α:=(List Int)×(List Int)×(List Int)) (fun z7 x6=>[(1,Ri a1),(2,I a2),(3,Pt b1),(8,.eq z7.1),(9,.eq z7.2.1),(10,.eq z7.2.2),(11,I y4.2.2.2)]) (fun z7 x6=>[.obj b1 27 (.rep ak a0),.sl z7.1 3 (.int .i64) x6.1,.sl z7.2.1 3 (.int .i64) x6.2.1,.sl z7.2.2 3 (.int .i64) x6.2.2]) h (fun K h=>?_) (fun z7 x6 h=>?_))
   ·refine aj (au ?_);refine bJ ?_;refine ea 0 (ai rfl c6 (uA) rfl) ?_;refine dm ?_;refine dm ?_;obtain⟨x8,U,h⟩:=aa h;refine db (aH (t:=(.int .i64)) rfl dP ct U) ?_;refine da (an (t:=(.int .i64)) rfl ct rfl) ?_;refine dm ?_;refine df cH ?_;obtain⟨r9,X,h⟩:=aa h;refine jc (ao [.tmp 18,.tmp 22,.tmp 23] rfl rfl Rq rfl (zU k a0 x8 a2 r9 X)) ?_;refine nt (cv h (fun h=>?_) (fun h=>?_))
    ·refine au ?_;obtain⟨j,y,h⟩:=aa h;refine jb (aH (t:=(.int .i64)) rfl dP ct y) ?_;refine ja (an (t:=(.int .i64)) rfl ct rfl) ?_;refine ja (bg (t:=(.int .i64)) [(.tmp 29,_)] [j] rfl rfl dk (.cons rfl .int .nil) rfl rfl) ?_;obtain⟨qt,J,h⟩:=aa h;refine fr 3 ?_;refine cz rfl rfl rfl (bf rfl rfl dk (aA J)) ⟨rfl,rfl,trivial⟩ fun Q=>?_;refine au ?_;exact jz ((z5.1,z5.2.1,Q),(y4.1,y4.2.1,y4.2.2.1++[j])) h [1,2,3,0]
    ·refine au ?_;obtain⟨c,x,h⟩:=aa h;refine jb (aH (t:=(.int .i64)) rfl dP ct x) ?_;refine ja (an (t:=(.int .i64)) rfl ct rfl) ?_;refine ja (bg (t:=(.int .i64)) [(.tmp 36,_)] [c] rfl rfl dk (.cons rfl .int .nil) rfl rfl) ?_;obtain⟨pp,F,h⟩:=aa h;refine fr 2 ?_;refine cz rfl rfl rfl (bf rfl rfl dk (aA F)) ⟨rfl,rfl,trivial⟩ fun l=>?_;refine aq (nt (sr ?_));refine mq ?_;refine fr 3 ?_;refine ka (dy rfl rfl dP) ?_;refine jb (jv rfl) ?_;refine nt (ci h (fun h=>?_) (fun h=>?_))
     ·refine ab (au ?_);obtain⟨e,u,h⟩:=aa h;refine jb (aH (t:=(.int .i64)) rfl dP ct u) ?_;refine ja (an (t:=(.int .i64)) rfl ct rfl) ?_;refine ja (bg (t:=(.int .i64)) [(.tmp 46,_)] [e] rfl rfl dk (.cons rfl .int .nil) rfl rfl) ?_;obtain⟨mc,E,h⟩:=aa h;refine fr 3 ?_;refine cz rfl rfl rfl (bf rfl rfl dk (aA E)) ⟨rfl,rfl,trivial⟩ fun O=>?_;refine au ?_;exact jz ((O,l,z5.2.2),(y4.1++[e],y4.2.1++[c],y4.2.2.1)) h [3,0,2,1]
     ·refine au ?_;exact jz ((z5.1,l,z5.2.2),(y4.1,y4.2.1++[c],y4.2.2.1)) h [2,3,1,0]
   ·refine ab (mq ?_);obtain⟨M,s,h⟩:=aa h;refine jb (be rfl s) ?_;refine au ?_;exact jz ((z7.1,z7.2.1,z7.2.2),(x6.1,x6.2.1,x6.2.2,M)) h [0,1,2,3]
  ·refine au ?_;exact jz ((z5.1,z5.2.1,z5.2.2),(y4.1,y4.2.1,y4.2.2.1)) h [1,2,3]
 ·
  refine sr ?_;iterate 3 refine mq ?_
  refine fr 2 ?_;refine cp (dM [10,51] ⟨rfl,rfl,trivial⟩) ?_;obtain⟨ac,D,h⟩:=aa h;refine fr 1 ?_;refine cz rfl rfl rfl (bf rfl rfl dk (aA D)) ⟨rfl,rfl,trivial⟩ fun Y=>?_;refine aq ?_;refine aq (nt (bI ?_));refine bH 1 rfl ?_;refine bu (dM [6,8,49] ⟨rfl,rfl,rfl,trivial⟩) ?_;refine bu (dM [7,52] ⟨rfl,rfl,trivial⟩) ?_;cases h;exact rb
def iR(k:Nat)(e:(List Int)×(List Int)):Nat→((List Int)×Int)→Option (List Int)
 |0,_=>none
 |n+1,c=>
  if c.2 < (e.1.length:Int) then((aQ e.1 c.2).bind fun h=>
  (aQ e.1 c.2).bind fun s=>
  (aQ c.1 s).bind fun r=>
  (ck (r+1)).bind fun l=>
  (aQ c.1 h).bind fun u=>
  (ck (c.2+1)).bind fun j=>
  iR k e n (List.set c.1 (Int.toNat h) l,j)) else(some c.1)
def iS(k:Nat)(a0:aP)(y6:(List Int)×(List (List Int))×Int):Nat→((List Int)×(List (List Int))×Int)→Option ((List Int)×(List (List Int)))
 |0,_=>none
 |n+1,c=>
  if c.2.2 < (y6.2.1.length:Int) then((((aQ y6.2.1 c.2.2).bind fun r=>
  (su k a0 r y6.2.2).bind fun e=>
  ((iR k e k (c.1,0)):Option ((List Int))).bind fun l=>
  (cU (bm (List.length c.2.1+List.length [e.2]))).bind fun _=>
  some (l,c.2.1++[e.2])):Option ((List Int)×(List (List Int)))).bind fun h=>
  (ck (c.2.2+1)).bind fun j=>
  iS k a0 y6 n (h.1,h.2,j)) else(some (c.1,c.2.1))
def jP(k:Nat)(a0:aP)(a3:Int):Nat→((List Int)×(List (List Int))×Int)→Option ((List Int)×(List (List Int)))
 |0,_=>none
 |n+1,y6=>
  if y6.2.2 < a3 then(((((iS k a0 y6 k (y6.1,([]:(List (List Int))),0)):Option ((List Int)×(List (List Int)))).bind fun c=>
  some (c.1,c.2)):Option ((List Int)×(List (List Int)))).bind fun x8=>
  (ck (y6.2.2+1)).bind fun e=>
  jP k a0 a3 n (x8.1,x8.2,e)) else(some (y6.1,y6.2.1))
def pz(k:Nat)(a0:aP)(a1:(List (List Int)))(a2:Int)(a3:Int):Option ((List Int)×(List (List Int))):=
 (cU (0≤(a0.2.1.length:Int)∧bm (Int.toNat (a0.2.1.length:Int)))).bind fun _=>
 ((jP k a0 a3 k (List.replicate (Int.toNat (a0.2.1.length:Int)) 0,a1,a2)):Option ((List Int)×(List (List Int)))).bind fun x4=>
 some (x4.1,x4.2)
theorem zV(k:Nat)(a0:aP)(a1:(List (List Int)))(a2:Int)(a3:Int)(r:(List Int)×(List (List Int)))(h:pz k a0 a1 a2 a3=some r):
 bX Tryz.prog 96 [.rep ak a0,.rep (.slice (.slice (.int .i64))) a1,I a2,I a3] [] (fun _:Unit=>(bj [Ri r.1,.rep (.slice (.slice (.int .i64))) r.2],[])):=by
 unfold pz at h
 replace h:=a9 h
 refine bX.of 72 Tryz.func96 rfl Tryz.ntmps96 rfl fun S w0=>?_
 refine sr ?_
 refine bx fun b1=>?_
 refine au ?_
 refine fl cd ?_
 refine lo fQ ?_
 refine ol nn ?_
 obtain⟨u2,se,h⟩:=aa h
 refine aD rfl rfl rfl (CO (t:=(.int .i64)) (d:=0) rfl dk UQ (aA se).1 (aA se).2) ⟨rfl,rfl,trivial⟩ fun v3=>?_
 refine aq ?_
 refine nt ?_
 refine sr ?_
 refine mq ?_
 refine aq ?_
 refine nt ?_
 refine aI (Z:=Unit) (α:=(List Int)×(List (List Int))) (fun z5 x4=>[(10,.eq v3),(11,.rep (.slice (.slice (.int .i64))) x4.2)]) (fun z5 x4=>[.sl v3 3 (.int .i64) x4.1]) h (fun K h=>?_) (fun z5 x4 h=>?_)
 ·
  refine au ?_;refine aj (aK (fun z7 y6=>[(3,I a3),(4,Pt b1),(10,.eq v3),(11,.rep (.slice (.slice (.int .i64))) y6.2.1),(12,I y6.2.2)]) (fun z7 y6=>[.obj b1 27 (.rep ak a0),.sl v3 3 (.int .i64) y6.1]) (jP k a0 a3) k () (List.replicate (Int.toNat (a0.2.1.length:Int)) 0,a1,a2) (fun _=>rfl) h (SE.fin [1,0] ⟨rfl,rfl,rfl,rfl,rfl,trivial⟩ rfl) (fun n z7 y6 h=>?_));unfold jP at h;refine au ?_;refine jb (bq rfl) ?_;refine nt (ci h (fun h=>?_) (fun h=>?_))
  ·refine sk (aI (Z:=Value) (α:=(List Int)×(List (List Int))) (fun z9 x8=>[(3,I a3),(4,Pt b1),(10,.eq v3),(11,.eq z9),(12,I y6.2.2)]) (fun z9 x8=>[.obj b1 27 (.rep ak a0),.sl v3 3 (.int .i64) x8.1,.sl z9 22 (.slice (.int .i64)) x8.2]) h (fun K h=>?_) (fun z9 x8 h=>?_))
   ·refine aj (sr (cq (nt ?_)));refine aI (Z:=Value) (α:=(List Int)×(List (List Int))) (fun y u=>[(3,I a3),(4,Pt b1),(10,.eq v3),(12,I y6.2.2),(13,.eq y)]) (fun y u=>[.obj b1 27 (.rep ak a0),.sl v3 3 (.int .i64) u.1,.sl y 22 (.slice (.int .i64)) u.2]) h (fun K h=>?_) (fun y u h=>?_)
    ·refine au ?_;refine aj (dG (SE.nil 22 (.slice (.int .i64))) ?_);refine aK (fun e c=>[(3,I a3),(4,Pt b1),(10,.eq v3),(11,.rep (.slice (.slice (.int .i64))) y6.2.1),(12,I y6.2.2),(13,.eq e),(14,I c.2.2)]) (fun e c=>[.obj b1 27 (.rep ak a0),.sl v3 3 (.int .i64) c.1,.sl e 22 (.slice (.int .i64)) c.2.1]) (iS k a0 y6) k (.slice none 0 0) (y6.1,([]:(List (List Int))),0) (fun _=>rfl) h (SE.fin [1,2,0] ⟨rfl,rfl,rfl,rfl,rfl,rfl,rfl,trivial⟩ rfl) (fun n e c h=>?_);unfold iS at h;refine au ?_;refine ol pY ?_;refine jb (bq rfl) ?_;refine nt (ci h (fun h=>?_) (fun h=>?_))
     ·refine sk (aI (Z:=Value) (α:=(List Int)×(List (List Int))) (fun x s=>[(3,I a3),(4,Pt b1),(10,.eq v3),(11,.rep (.slice (.slice (.int .i64))) y6.2.1),(12,I y6.2.2),(13,.eq x),(14,I c.2.2)]) (fun x s=>[.obj b1 27 (.rep ak a0),.sl v3 3 (.int .i64) s.1,.sl x 22 (.slice (.int .i64)) s.2]) h (fun K h=>?_) (fun x s h=>?_))
      ·refine aj (ar (bJ ?_));refine ea 0 (ai rfl c6 (uA) rfl) ?_;refine dm ?_;refine dm ?_;obtain⟨Vd,pp,h⟩:=aa h;refine db (aH (t:=(.slice (.int .i64))) rfl pY bZ pp) ?_;refine da (an (t:=(.slice (.int .i64))) rfl bZ rfl) ?_;refine dm ?_;obtain⟨j,U4,h⟩:=aa h;refine dc (ao [.tmp 36,.tmp 40,.tmp 41] rfl rfl Rz rfl (Cf k a0 Vd y6.2.2 j U4)) ?_;refine dm ?_;refine da (fG rfl rfl) ?_;refine da (fG rfl rfl) ?_;refine da (j9 rfl) ?_;refine df cH ?_;refine aq (nt ?_);refine aI (Z:=Unit) (α:=(List Int)) (fun M D=>[(3,I a3),(4,Pt b1),(10,.eq v3),(11,.rep (.slice (.slice (.int .i64))) y6.2.1),(12,I y6.2.2),(13,.eq e),(14,I c.2.2),(16,Ri j.2)]) (fun M D=>[.obj b1 27 (.rep ak a0),.sl v3 3 (.int .i64) D,.sl e 22 (.slice (.int .i64)) c.2.1]) h (fun K h=>?_) (fun M D h=>?_)
       ·refine au ?_;refine aj (aK (fun J l=>[(3,I a3),(4,Pt b1),(10,.eq v3),(11,.rep (.slice (.slice (.int .i64))) y6.2.1),(12,I y6.2.2),(13,.eq e),(14,I c.2.2),(15,Ri j.1),(16,Ri j.2),(17,I l.2)]) (fun J l=>[.obj b1 27 (.rep ak a0),.sl v3 3 (.int .i64) l.1,.sl e 22 (.slice (.int .i64)) c.2.1]) (iR k j) k () (c.1,0) (fun _=>rfl) h (SE.fin [0,1,2] ⟨rfl,rfl,rfl,rfl,rfl,rfl,rfl,rfl,rfl,rfl,trivial⟩ rfl) (fun n J l h=>?_));unfold iR at h;refine au ?_;refine ol dP ?_;refine jb (bq rfl) ?_;refine nt (ci h (fun h=>?_) (fun h=>?_))
        ·refine au ?_;refine aj (bJ ?_);refine dm ?_;refine dm ?_;refine dm ?_;obtain⟨O,mc,h⟩:=aa h;refine db (aH (t:=(.int .i64)) rfl dP ct mc) ?_;refine da (an (t:=(.int .i64)) rfl ct rfl) ?_;refine dm ?_;refine dm ?_;refine dm ?_;obtain⟨Vb,ac,h⟩:=aa h;refine db (aH (t:=(.int .i64)) rfl dP ct ac) ?_;refine da (an (t:=(.int .i64)) rfl ct rfl) ?_;obtain⟨Vg,F,h⟩:=aa h;refine eb 1 (aU (t:=(.int .i64)) rfl dP ct F) ?_;refine ea 1 (dQ (i:=Int.toNat Vb) (off:=0) rfl ct (fun _=>rfl) rfl (cy F).2.2 rfl) ?_;obtain⟨Va,Y,h⟩:=aa h;refine db (be rfl Y) ?_;refine df cH ?_;obtain⟨Vf,E,h⟩:=aa h;refine fr 1 ?_;refine kb (aU (t:=(.int .i64)) rfl dP ct E) ?_;refine a8 rfl rfl (cG (i:=Int.toNat O) rfl ct rfl (gj E) rfl .int rfl) ⟨rfl,rfl,trivial⟩ ?_;refine au ?_;refine ab (mq ?_);obtain⟨U8,X,h⟩:=aa h;refine jb (be rfl X) ?_;refine au ?_;exact jz ((),(List.set l.1 (Int.toNat O) Va,U8)) h [1,0,2]
        ·refine au ?_;exact jz ((),l.1) h [0,1,2]
       ·refine ab (au ?_);refine ja (bg (t:=(.slice (.int .i64))) [(.tmp 66,_)] [j.2] rfl rfl mI (.cons rfl .rep .nil) rfl rfl) ?_;obtain⟨Vh,qt,h⟩:=aa h;refine fr 2 ?_;refine cz rfl rfl rfl (bf rfl rfl mI (aA qt)) ⟨rfl,rfl,trivial⟩ fun Ve=>?_;refine au ?_;exact jz (Ve,(D,c.2.1++[j.2])) h [1,2,0]
      ·refine ab (mq ?_);obtain⟨U7,U,h⟩:=aa h;refine jb (be rfl U) ?_;refine au ?_;exact jz (x,(s.1,s.2,U7)) h [0,1,2]
     ·refine au ?_;exact jz (e,(c.1,c.2.1)) h [0,1,2]
    ·refine ab (au ?_);exact jz (y,(u.1,u.2)) h [0,1,2]
   ·refine ab (mq ?_);obtain⟨U6,Q,h⟩:=aa h;refine jb (be rfl Q) ?_;refine aq (nl ?_);refine bH 2 rfl ?_;refine bu (dM [11] ⟨rfl,trivial⟩) ?_;exact jz ((),(x8.1,x8.2,U6)) h [0,1]
  ·refine au ?_;exact jz ((),(y6.1,y6.2.1)) h [1]
 ·
  refine sr ?_;iterate 2 refine mq ?_
  refine aq ?_;refine aq (nt (bI ?_));refine bu (dM [8,10,70] ⟨rfl,rfl,rfl,trivial⟩) ?_;cases h;exact rb
def hQ(k:Nat)(r2:(List Int)×(List (List Int))):Nat→(Int×Int)→Option Int
 |0,_=>none
 |n+1,y5=>
  if y5.2 < (r2.1.length:Int) then((aQ r2.1 y5.2).bind fun x7=>
  (ck (y5.1+x7)).bind fun x8=>
  (ck (y5.2+1)).bind fun x9=>
  hQ k r2 n (x8,x9)) else(some y5.1)
def lM(k:Nat)(a0:aP)(a1:(List (List Int)))(a2:Int):Option Int:=
 (pz k a0 a1 a2 a0.1).bind fun r2=>
 ((hQ k r2 k (0,0)):Option (Int)).bind fun x3=>
 some x3
theorem yt(k:Nat)(a0:aP)(a1:(List (List Int)))(a2:Int)(r:Int)(h:lM k a0 a1 a2=some r):
 bX Tryz.prog 63 [.rep ak a0,.rep (.slice (.slice (.int .i64))) a1,I a2] [] (fun _:Unit=>(bj [I r],[])):=by
 unfold lM at h
 replace h:=a9 h
 refine bX.of 33 Tryz.func63 rfl Tryz.ntmps63 rfl fun S w0=>?_
 refine sr ?_
 refine bx fun b1=>?_
 refine au ?_
 refine lo c6 ?_
 refine au ?_
 refine fl gI ?_
 refine lo ct ?_
 obtain⟨r2,l,h⟩:=aa h
 have s:=zV k a0 a1 a2 a0.1 r2 l
 refine aF rfl (ao [.tmp 12,.tmp 13,.tmp 14,.tmp 16] rfl rfl TM rfl s) ⟨rfl,rfl,rfl,rfl,trivial⟩ ?_
 refine mq ?_
 refine xr ?_
 refine xr ?_
 refine aq ?_
 refine aq ?_
 refine nt ?_
 refine sr ?_
 refine cq ?_
 refine nt ?_
 refine aI (Z:=Unit) (α:=Int) (fun z4 x3=>[(9,I x3)]) (fun z4 x3=>[]) h (fun K h=>?_) (fun z4 x3 h=>?_)
 ·
  refine au ?_;refine aj (aK (fun z6 y5=>[(7,Ri r2.1),(9,I y5.1),(10,I y5.2)]) (fun z6 y5=>[]) (hQ k r2) k () (0,0) (fun _=>rfl) h (SE.fin [] ⟨rfl,rfl,rfl,trivial⟩ rfl) (fun n z6 y5 h=>?_));unfold hQ at h;refine au ?_;refine ol dP ?_;refine jb (bq rfl) ?_;refine nt (ci h (fun h=>?_) (fun h=>?_))
  ·refine au ?_;refine aj (ab (au ?_));obtain⟨x7,j,h⟩:=aa h;refine jb (aH (t:=(.int .i64)) rfl dP ct j) ?_;refine ja (an (t:=(.int .i64)) rfl ct rfl) ?_;obtain⟨x8,e,h⟩:=aa h;refine jb (be rfl e) ?_;refine au ?_;refine ab (mq ?_);obtain⟨x9,c,h⟩:=aa h;refine jb (be rfl c) ?_;refine au ?_;exact jz ((),(x8,x9)) h []
  ·refine au ?_;exact jz ((),y5.1) h []
 ·
  refine au ?_;cases h;exact ra
def eF(k:Nat)(a0:aP)(a1:(List Int))(a2:(List (List Int)))(a3:(List Int))(a4:Int)(self:aP→(List Int)→(List (List Int))→(List Int)→Int→Option ((List (List (List Int)))))(x2:Int):Nat→((List (List (List Int)))×Int)→Option (List (List (List Int)))
 |0,_=>none
 |n+1,c=>
  ((if c.2 < (a0.2.1.length:Int) then((ow k a1 x2).bind fun E=>
  some E) else(some false)):Option (Bool)).bind fun y=>
  if y=true then((((((ow k a3 c.2).bind fun D=>
  if D=true then(some true) else((aQ a0.2.1 c.2).bind fun s=>
  some (decide (a4 < s.1)))):Option (Bool)).bind fun u=>
  if u=true then(some c.1) else((cU (bm (List.length ([]:(List (List Int)))+List.length a2))).bind fun _=>
  (aQ a2 x2).bind fun e=>
  (cU (bm (List.length ([]:(List Int))+List.length e))).bind fun _=>
  (cU (bm (List.length (([]:(List Int))++e)+List.length [c.2]))).bind fun _=>
  (aQ (([]:(List (List Int)))++a2) x2).bind fun F=>
  (aQ a0.2.1 c.2).bind fun r=>
  (ck (a4 - r.1)).bind fun l=>
  (cU (bm (List.length ([]:(List Int))+List.length a3))).bind fun _=>
  (cU (bm (List.length (([]:(List Int))++a3)+List.length [c.2]))).bind fun _=>
  (self a0 a1 (List.set (([]:(List (List Int)))++a2) (Int.toNat x2) ((([]:(List Int))++e)++[c.2])) ((([]:(List Int))++a3)++[c.2]) l).bind fun h=>
  (cU (bm (List.length c.1+List.length h))).bind fun _=>
  some (c.1++h))):Option ((List (List (List Int))))).bind fun x=>
  (ck (c.2+1)).bind fun j=>
  eF k a0 a1 a2 a3 a4 self x2 n (x,j)) else(some c.1)
def eO(k:Nat):Nat→aP→(List Int)→(List (List Int))→(List Int)→Int→Option ((List (List (List Int))))
 |0,_,_,_,_,_=>none
 |m0+1,a0,a1,a2,a3,a4=>
  (ck ((a2.length:Int) - 1)).bind fun x2=>
  (((ck ((a0.2.2.length:Int) - 1)).bind fun x5=>
  if x2=x5 then(if(a3.length:Int)=(a0.2.1.length:Int) then((cU (bm (List.length ([]:(List (List (List Int))))+List.length [a2]))).bind fun _=>
  some (([]:(List (List (List Int))))++[a2])) else(some ([]:(List (List (List Int)))))) else((cU (bm (List.length ([]:(List (List Int)))+List.length a2))).bind fun _=>
  (cU (bm (List.length (([]:(List (List Int)))++a2)+List.length ([[]]:(List (List Int)))))).bind fun _=>
  (ck (x2+1)).bind fun j=>
  (aQ a0.2.2 j).bind fun h=>
  ((eO k m0) a0 a1 ((([]:(List (List Int)))++a2)++([[]]:(List (List Int)))) a3 h).bind fun c=>
  (cU (bm (List.length ([]:(List (List (List Int))))+List.length c))).bind fun _=>
  some (([]:(List (List (List Int))))++c))):Option ((List (List (List Int))))).bind fun x3=>
  ((eF k a0 a1 a2 a3 a4 (eO k m0) x2 k (x3,0)):Option ((List (List (List Int))))).bind fun e=>
  some e
theorem uO(k:Nat):
 ∀(n:Nat) (a0:aP) (a1:(List Int)) (a2:(List (List Int))) (a3:(List Int)) (a4:Int) (r:(List (List (List Int)))),eO k n a0 a1 a2 a3 a4=some r→bX Tryz.prog 116 [.rep ak a0,Ri a1,.rep (.slice (.slice (.int .i64))) a2,Ri a3,I a4] ([]) (fun _:Unit=>(bj [.rep (.slice (.slice (.slice (.int .i64)))) r],[])):=by
 intro n
 induction n with
 |zero=>intro a0 a1 a2 a3 a4 r h;cases h
 |succ m0 ih=>
  intro a0 a1 a2 a3 a4 r h;rw [eO] at h;replace h:=a9 h;refine bX.of 114 Tryz.func116 rfl Tryz.ntmps116 rfl fun S w0=>?_;refine sr (bx fun b1=>?_);refine au ?_;refine ol pY ?_;obtain⟨x2,VJ,h⟩:=aa h;refine jb (fu rfl VJ) ?_;refine aq (nt (sr ?_));refine cq (nt ?_);refine aI (Z:=Value) (α:=(List (List (List Int)))) (fun z4 x3=>[(1,Ri a1),(2,.rep (.slice (.slice (.int .i64))) a2),(3,Ri a3),(4,I a4),(5,Pt b1),(11,I x2),(12,.eq z4)]) (fun z4 x3=>[.obj b1 27 (.rep ak a0),.sl z4 28 (.slice (.slice (.int .i64))) x3]) h (fun K h=>?_) (fun z4 x3 h=>?_)
  ·refine au ?_;refine fl cM ?_;refine lo bZ ?_;refine ol dP ?_;obtain⟨x5,VI,h⟩:=aa h;refine jb (fu rfl VI) ?_;refine jb (dO rfl) ?_;refine nt (ci h (fun h=>?_) (fun h=>?_))
   ·refine au ?_;refine ol dP ?_;refine fl cd ?_;refine lo fQ ?_;refine ol nn ?_;refine jb (dO rfl) ?_;refine nt (ci h (fun h=>?_) (fun h=>?_))
    ·refine ab (au ?_);refine ja (bg (t:=(.slice (.slice (.int .i64)))) [(.tmp 32,_)] [a2] rfl rfl Hk (.cons rfl .rep .nil) rfl rfl) ?_;refine cp (SE.nil 28 (.slice (.slice (.int .i64)))) ?_;obtain⟨u6,VL,h⟩:=aa h;refine cz rfl rfl rfl (bf rfl rfl Hk (aA VL)) ⟨rfl,rfl,trivial⟩ fun v7=>?_;refine au ?_;exact jz (v7,([]:(List (List (List Int))))++[a2]) h [1,0]
    ·refine cR (ag (bu (SE.nil 28 (.slice (.slice (.int .i64)))) ?_));exact jz ((.slice none 0 0),([]:(List (List (List Int))))) h [1,0]
   ·refine sr (aD rfl rfl rfl (ib (t:=(.slice (.int .i64))) [] ([]:(List (List Int))) rfl rfl mI .nil rfl rfl) trivial fun v8=>?_);refine mq ?_;obtain⟨u9,VK,h⟩:=aa h;refine cz rfl rfl rfl (bf rfl rfl mI (aA VK)) ⟨rfl,rfl,trivial⟩ fun Wn=>?_;refine ja (bg (t:=(.slice (.int .i64))) [(.const (.slice none 0 0),_)] ([[]]:(List (List Int))) rfl rfl mI (.cons rfl .nil .nil) rfl rfl) ?_;obtain⟨Wv,Vm,h⟩:=aa h;refine cz rfl rfl rfl (bf rfl rfl mI (aA Vm)) ⟨rfl,rfl,trivial⟩ fun Wm=>?_;refine aq (nt ?_);refine dG (dM [13,39] ⟨rfl,rfl,trivial⟩) ?_;refine bJ ?_;refine dm ?_;refine ea 0 (ai rfl c6 (uA) rfl) ?_;refine dm ?_;refine dm ?_;refine dm ?_;refine da (av rfl cM) ?_;refine ea 0 (ai rfl bZ jw rfl) ?_;refine dm ?_;obtain⟨VX,Ve,h⟩:=aa h;refine db (be rfl Ve) ?_;obtain⟨Vt,Vd,h⟩:=aa h;refine db (aH (t:=(.int .i64)) rfl dP ct Vd) ?_;refine da (an (t:=(.int .i64)) rfl ct rfl) ?_;obtain⟨X,Vq,h⟩:=aa h;refine du rfl rfl rfl (ao [.tmp 41,.tmp 42,.tmp 43,.tmp 44,.tmp 50] rfl rfl I9 rfl (ih a0 a1 ((([]:(List (List Int)))++a2)++([[]]:(List (List Int)))) a3 Vt X Vq)) ⟨rfl,rfl,rfl,rfl,rfl,trivial⟩ ?_;refine df cH ?_;refine cp (SE.nil 28 (.slice (.slice (.int .i64)))) ?_;obtain⟨u16,Vl,h⟩:=aa h;refine cz rfl rfl rfl (bf rfl rfl Hk (aA Vl)) ⟨rfl,rfl,trivial⟩ fun Vx=>?_;refine au ?_;exact jz (Vx,([]:(List (List (List Int))))++X) h [1,0]
  ·refine aI (Z:=Value) (α:=(List (List (List Int)))) (fun l E=>[(12,.eq l)]) (fun l E=>[.sl l 28 (.slice (.slice (.int .i64))) E]) h (fun K h=>?_) (fun l E h=>?_)
   ·refine au ?_;refine aj (aK (fun e c=>[(1,Ri a1),(2,.rep (.slice (.slice (.int .i64))) a2),(3,Ri a3),(4,I a4),(5,Pt b1),(11,I x2),(12,.eq e),(14,I c.2)]) (fun e c=>[.obj b1 27 (.rep ak a0),.sl e 28 (.slice (.slice (.int .i64))) c.1]) (eF k a0 a1 a2 a3 a4 (eO k m0) x2) k z4 (x3,0) (fun _=>rfl) h (SE.fin [0,1] ⟨rfl,rfl,rfl,rfl,rfl,rfl,rfl,rfl,trivial⟩ rfl) (fun n e c h=>?_));unfold eF at h;refine ar (aI (Z:=Unit) (α:=Bool) (fun J D=>[(1,Ri a1),(2,.rep (.slice (.slice (.int .i64))) a2),(3,Ri a3),(4,I a4),(5,Pt b1),(11,I x2),(12,.eq e),(14,I c.2),(62,.eq (.bool D))]) (fun J D=>[.obj b1 27 (.rep ak a0),.sl e 28 (.slice (.slice (.int .i64))) c.1]) h (fun K h=>?_) (fun J D h=>?_))
    ·refine ab (mq ?_);refine fl cd ?_;refine lo fQ ?_;refine ol nn ?_;refine jb (bq rfl) ?_;refine mq ?_;refine cg (s:=58) rfl (fun hb=>?_) (fun hb=>?_)
     ·replace h:=cF (nX hb) h;refine au ?_;obtain⟨U,Vp,h⟩:=aa h;refine gb (ao [.tmp 59,.tmp 60] rfl rfl OG rfl (rC k a1 x2 U Vp)) ?_;refine au ?_;exact jz ((),U) h [0,1]
     ·replace h:=bM (nk hb) h;refine au ?_;exact jz ((),false) h [0,1]
    ·refine cv h (fun h=>?_) (fun h=>?_)
     ·refine sk (aI (Z:=Value) (α:=(List (List (List Int)))) (fun j u=>[(1,Ri a1),(2,.rep (.slice (.slice (.int .i64))) a2),(3,Ri a3),(4,I a4),(5,Pt b1),(11,I x2),(12,.eq j),(14,I c.2)]) (fun j u=>[.obj b1 27 (.rep ak a0),.sl j 28 (.slice (.slice (.int .i64))) u]) h (fun K h=>?_) (fun j u h=>?_))
      ·refine aj (ar (aI (Z:=Unit) (α:=Bool) (fun F y=>[(1,Ri a1),(2,.rep (.slice (.slice (.int .i64))) a2),(3,Ri a3),(4,I a4),(5,Pt b1),(11,I x2),(12,.eq e),(14,I c.2),(77,.eq (.bool y))]) (fun F y=>[.obj b1 27 (.rep ak a0),.sl e 28 (.slice (.slice (.int .i64))) c.1]) h (fun K h=>?_) (fun F y h=>?_)))
       ·refine ab (au ?_);obtain⟨Vy,Vo,h⟩:=aa h;refine jb (ao [.tmp 65,.tmp 66] rfl rfl OG rfl (rC k a3 c.2 Vy Vo)) ?_;refine mq ?_;refine cg (s:=68) rfl (fun hb=>?_) (fun hb=>?_)
        ·replace h:=cF (DO hb) h;refine au ?_;exact jz ((),true) h [0,1]
        ·replace h:=bM (DT hb) h;refine ga (av rfl cd) ?_;refine jr rfl rfl rfl rfl rfl rfl (ai rfl fQ jw rfl) ⟨rfl,trivial⟩ ?_;refine gm ?_;obtain⟨Vs,Vb,h⟩:=aa h;refine gb (aH (t:=aJ) rfl nn jl Vb) ?_;refine ga (aG 1 false rfl kJ rfl) ?_;refine ga (an (t:=(.int .i64)) rfl ct rfl) ?_;refine gm ?_;refine gb (jv rfl) ?_;refine au ?_;exact jz ((),decide (a4 < Vs.1)) h [0,1]
       ·refine cv h (fun h=>?_) (fun h=>?_)
        ·refine au ?_;exact jz (e,c.1) h [0,1]
        ·refine au ?_;refine aD rfl rfl rfl (ib (t:=(.slice (.int .i64))) [] ([]:(List (List Int))) rfl rfl mI .nil rfl rfl) trivial fun Wj=>?_;refine mq ?_;obtain⟨u32,Vk,h⟩:=aa h;refine cz rfl rfl rfl (bf rfl rfl mI (aA Vk)) ⟨rfl,rfl,trivial⟩ fun Wi=>?_;refine au ?_;refine aD rfl rfl rfl (ib (t:=(.int .i64)) [] ([]:(List Int)) rfl rfl dk .nil rfl rfl) trivial fun Wh=>?_;refine au ?_;obtain⟨O,Va,h⟩:=aa h;refine jb (aH (t:=(.slice (.int .i64))) rfl pY bZ Va) ?_;refine ja (an (t:=(.slice (.int .i64))) rfl bZ rfl) ?_;obtain⟨Wu,Vj,h⟩:=aa h;refine cz rfl rfl rfl (bf rfl rfl dk (aA Vj)) ⟨rfl,rfl,trivial⟩ fun Wg=>?_;refine mq ?_;refine ja (bg (t:=(.int .i64)) [(.tmp 89,_)] [c.2] rfl rfl dk (.cons rfl .int .nil) rfl rfl) ?_;obtain⟨Wt,Vi,h⟩:=aa h;refine cz rfl rfl rfl (bf rfl rfl dk (aA Vi)) ⟨rfl,rfl,trivial⟩ fun We=>?_;obtain⟨VV,x,h⟩:=aa h;refine fr 1 ?_;refine kb (aU (t:=(.slice (.int .i64))) rfl pY bZ x) ?_;refine fr 1 ?_;refine cp (dM [91] ⟨rfl,trivial⟩) ?_;refine a8 rfl rfl (cG (i:=Int.toNat x2) rfl bZ rfl (gj x) rfl .rep rfl) ⟨rfl,rfl,trivial⟩ ?_;refine nt (dG (dM [15,80,81] ⟨rfl,rfl,rfl,trivial⟩) ?_);refine yf [0,1,2,3,5,7,8,10,11,12,13,14,15,16,17,4,6,9,18,19,20] (by kernel_rfl) ?_;refine aR rfl rfl rfl (aL rfl) ⟨rfl,trivial⟩ ?_;refine dt 0 rfl rfl rfl rfl (ai rfl c6 (uA) rfl) ⟨rfl,trivial⟩ ?_;refine aR rfl rfl rfl (aL rfl) ⟨rfl,trivial⟩ ?_;refine aR rfl rfl rfl (aL rfl) ⟨rfl,trivial⟩ ?_;refine aR rfl rfl rfl (aL rfl) ⟨rfl,trivial⟩ ?_;refine aR rfl rfl rfl (aL rfl) ⟨rfl,trivial⟩ ?_;refine aR rfl rfl rfl (bg (t:=(.int .i64)) [(.tmp 100,_)] [c.2] rfl rfl dk (.cons rfl .int .nil) rfl rfl) ⟨rfl,trivial⟩ ?_;refine aR rfl rfl rfl (aL rfl) ⟨rfl,trivial⟩ ?_;refine aR rfl rfl rfl (av rfl cd) ⟨rfl,trivial⟩ ?_;refine dt 0 rfl rfl rfl rfl (ai rfl fQ jw rfl) ⟨rfl,trivial⟩ ?_;refine aR rfl rfl rfl (aL rfl) ⟨rfl,trivial⟩ ?_;obtain⟨VU,U8,h⟩:=aa h;refine aR rfl rfl rfl (aH (t:=aJ) rfl nn jl U8) ⟨rfl,rfl,trivial⟩ ?_;refine aR rfl rfl rfl (aG 1 false rfl kJ rfl) ⟨rfl,trivial⟩ ?_;refine aR rfl rfl rfl (an (t:=(.int .i64)) rfl ct rfl) ⟨rfl,trivial⟩ ?_;obtain⟨M,U7,h⟩:=aa h;refine aR rfl rfl rfl (fu rfl U7) ⟨rfl,rfl,trivial⟩ ?_;refine zn (fun v=>[.sl v 3 (.int .i64) ([]:(List Int))]) (fun _=>rfl) rfl rfl rfl (ib (t:=(.int .i64)) [] ([]:(List Int)) rfl rfl dk .nil rfl rfl) trivial ?_;refine oN 16 [false,false,false,false,true,false,false,false,false,false,false,false,false,false,false,true] [99,102,111] [0] [.obj b1 27 (.rep ak a0)] rfl (by kernel_rfl) (by kernel_rfl) (by kernel_rfl) cH (fun vs hv hB=>?_);obtain⟨w0,Wb,rfl,VH⟩:=ap hv;obtain⟨w1,Wa,rfl,VG⟩:=ap VH;obtain⟨w2,V9,rfl,VF⟩:=ap VG;obtain⟨w3,V8,rfl,VE⟩:=ap VF;obtain⟨w4,V7,rfl,VD⟩:=ap VE;obtain⟨w5,V6,rfl,VC⟩:=ap VD;obtain⟨w6,V5,rfl,VB⟩:=ap VC;obtain⟨w7,V4,rfl,VA⟩:=ap VB;obtain⟨w8,V3,rfl,Vz⟩:=ap VA;obtain⟨w9,VT,rfl,U4⟩:=ap Vz;obtain⟨V2,VS,rfl,se⟩:=ap U4;obtain⟨V1,VQ,rfl,qt⟩:=ap se;obtain⟨V0,VP,rfl,pp⟩:=ap qt;obtain⟨VZ,VO,rfl,mc⟩:=ap pp;obtain⟨VY,VN,rfl,ac⟩:=ap mc;obtain⟨Vw,VM,rfl,Y⟩:=ap ac;obtain rfl:=lE Y;refine⟨[0,1,2],[.sl e 28 (.slice (.slice (.int .i64))) c.1,.sl Vw 3 (.int .i64) ([]:(List Int))],by kernel_rfl,by decide,?_⟩;obtain⟨Ws,Vh,h⟩:=aa h
         refine jA 1 rfl ?_;refine JG rfl rfl rfl rfl (bf rfl rfl dk (aA Vh)) ⟨rfl,rfl,trivial⟩ (by kernel_rfl) fun Wc=>?_;obtain⟨Wq,Vg,h⟩:=aa h;refine JG rfl rfl rfl rfl (bf rfl rfl dk (aA Vg)) ⟨rfl,rfl,trivial⟩ (by kernel_rfl) fun Vv=>?_;obtain⟨Q,Vn,h⟩:=aa h;refine MG (Δu:=[_]) rfl rfl rfl rfl (MF (N:=[(.tmp 94,.rep ak a0),(.tmp 95,Ri a1),(.tmp 96,.rep (.slice (.slice (.int .i64))) (List.set (([]:(List (List Int)))++a2) (Int.toNat x2) ((([]:(List Int))++O)++[c.2]))),(.tmp 102,.eq Vv),(.tmp 110,I M)]) (ao [.tmp 94,.tmp 95,.tmp 96,.tmp 102,.tmp 110] rfl rfl I9 rfl (ih a0 a1 (List.set (([]:(List (List Int)))++a2) (Int.toNat x2) ((([]:(List Int))++O)++[c.2])) ((([]:(List Int))++a3)++[c.2]) M Q Vn)) (fun _ _ _ hv hn=>⟨hn.1,hn.2.1,hn.2.2.1,(lend hn.2.2.2.1 hv),hn.2.2.2.2.1,trivial⟩)) ⟨rfl,rfl,rfl,rfl,rfl,trivial⟩ (by kernel_rfl) fun _=>?_;refine DC (by kernel_rfl) ?_;obtain⟨Wp,Vf,h⟩:=aa h;refine fr 1 ?_;refine cz rfl rfl rfl (bf rfl rfl Hk (aA Vf)) ⟨rfl,rfl,trivial⟩ fun Vu=>?_;refine au ?_;exact jz (Vu,c.1++Q) h [1,0]
      ·refine ab (mq ?_);obtain⟨Vr,U6,h⟩:=aa h;refine jb (be rfl U6) ?_;refine au ?_;exact jz (j,(u,Vr)) h [0,1]
     ·refine au ?_;exact jz (e,c.1) h [1]
   ·refine sr (mq ?_);refine aq (nt (bI ?_));refine bu (dM [10,12,113] ⟨rfl,rfl,rfl,trivial⟩) ?_;cases h;exact ra
def sx(k:Nat)(a0:aP)(a1:(List Int)):Option (List (List (List Int))):=
 (aQ a0.2.2 0).bind fun x2=>
 (eO k k a0 a1 [[]] ([]:(List Int)) x2).bind fun r3=>
 some r3
theorem Ci(k:Nat)(a0:aP)(a1:(List Int))(r:(List (List (List Int))))(h:sx k a0 a1=some r):
 bX Tryz.prog 93 [.rep ak a0,Ri a1] [] (fun _:Unit=>(bj [.rep (.slice (.slice (.slice (.int .i64)))) r],[])):=by
 unfold sx at h
 replace h:=a9 h
 refine bX.of 13 Tryz.func93 rfl Tryz.ntmps93 rfl fun S w0=>?_
 refine sr ?_
 refine bx fun b1=>?_
 refine au ?_
 refine bJ ?_
 refine ea 0 (ai rfl c6 (uA) rfl) ?_
 refine dm ?_
 refine da (bg (t:=(.slice (.int .i64))) [(.const (.slice none 0 0),_)] [[]] rfl rfl mI (.cons rfl .nil .nil) rfl rfl) ?_
 refine da (av rfl cM) ?_
 refine ea 0 (ai rfl bZ jw rfl) ?_
 obtain⟨x2,c,h⟩:=aa h
 refine db (aH (t:=(.int .i64)) rfl dP ct c) ?_
 refine da (an (t:=(.int .i64)) rfl ct rfl) ?_
 refine df cH ?_
 obtain⟨r3,e,h⟩:=aa h
 have j:=uO k k a0 a1 [[]] ([]:(List Int)) x2 r3 e
 refine aF rfl (cV (N:=[(.tmp 5,.rep ak a0),(.tmp 6,Ri a1),(.tmp 7,.rep (.slice (.slice (.int .i64))) [[]]),(.const (.slice none 0 0),.eq (.slice none 0 0)),(.tmp 11,I x2)]) (ao [.tmp 5,.tmp 6,.tmp 7,.const (.slice none 0 0),.tmp 11] rfl rfl I9 rfl j) fun _ _ _ hn=>⟨hn.1,hn.2.1,hn.2.2.1,(fL (t:=(.slice (.int .i64))) (x:=([]:(List Int))) .nil rfl rfl hn.2.2.2.1),hn.2.2.2.2.1,trivial⟩) ⟨rfl,rfl,rfl,rfl,rfl,trivial⟩ ?_
 refine au ?_
 cases h
 exact ra
def i9(k:Nat)(a0:Int):Nat→((List Int)×Int)→Option (List Int)
 |0,_=>none
 |n+1,y3=>
  if y3.2 < a0 then((cU (bm (List.length y3.1+List.length [y3.2]))).bind fun _=>
  (ck (y3.2+1)).bind fun x7=>
  i9 k a0 n (y3.1++[y3.2],x7)) else(some y3.1)
def nG(k:Nat)(a0:Int):Option (List Int):=
 ((i9 k a0 k (([]:(List Int)),0)):Option ((List Int))).bind fun x1=>
 some x1
theorem yu(k:Nat)(a0:Int)(r:(List Int))(h:nG k a0=some r):
 bX Tryz.prog 94 [I a0] [] (fun _:Unit=>(bj [Ri r],[])):=by
 unfold nG at h
 replace h:=a9 h
 refine bX.of 15 Tryz.func94 rfl Tryz.ntmps94 rfl fun S w0=>?_
 refine sr ?_
 refine cq ?_
 refine nt ?_
 refine sr ?_
 refine cq ?_
 refine nt ?_
 refine aI (Z:=Value) (α:=(List Int)) (fun z2 x1=>[(3,.eq z2)]) (fun z2 x1=>[.sl z2 3 (.int .i64) x1]) h (fun K h=>?_) (fun z2 x1 h=>?_)
 ·
  refine au ?_;refine aj (dG (SE.nil 3 (.int .i64)) ?_);refine aK (fun z4 y3=>[(0,I a0),(3,.eq z4),(4,I y3.2)]) (fun z4 y3=>[.sl z4 3 (.int .i64) y3.1]) (i9 k a0) k (.slice none 0 0) (([]:(List Int)),0) (fun _=>rfl) h (SE.fin [0] ⟨rfl,rfl,rfl,trivial⟩ rfl) (fun n z4 y3 h=>?_);unfold i9 at h;refine au ?_;refine jb (bq rfl) ?_;refine nt (ci h (fun h=>?_) (fun h=>?_))
  ·refine au ?_;refine aj (ab (au ?_));refine ja (bg (t:=(.int .i64)) [(.tmp 11,_)] [y3.2] rfl rfl dk (.cons rfl .int .nil) rfl rfl) ?_;obtain⟨u5,e,h⟩:=aa h;refine cz rfl rfl rfl (bf rfl rfl dk (aA e)) ⟨rfl,rfl,trivial⟩ fun v6=>?_;refine au ?_;refine ab (mq ?_);obtain⟨x7,c,h⟩:=aa h;refine jb (be rfl c) ?_;refine au ?_;exact jz (v6,(y3.1++[y3.2],x7)) h [0]
  ·refine au ?_;exact jz (z4,y3.1) h [0]
 ·
  refine sr (mq ?_);refine aq (nt (bI ?_));refine bu (dM [2,3,14] ⟨rfl,rfl,rfl,trivial⟩) ?_;cases h;exact ra
def gV(k:Nat)(a0:aP)(r3:(List (List (List Int)))):Nat→((List (List Int))×Int×Int×Int)→Option ((List (List Int))×Int×Int)
 |0,_=>none
 |n+1,y6=>
  if y6.2.2.2 < (r3.length:Int) then((((aQ r3 y6.2.2.2).bind fun s=>
  (lM k a0 s 0).bind fun e=>
  ((((if y6.2.2.1=0 then(some true) else(some (decide (e < y6.2.1)))):Option (Bool)).bind fun r=>
  if r=true then((aQ r3 y6.2.2.2).bind fun l=>
  some (l,e,0)) else(some (y6.1,y6.2.1,y6.2.2.1))):Option ((List (List Int))×Int×Int)).bind fun c=>
  if e=c.2.1 then((ck (c.2.2+1)).bind fun j=>
  some (c.1,c.2.1,j)) else(some (c.1,c.2.1,c.2.2))):Option ((List (List Int))×Int×Int)).bind fun x8=>
  (ck (y6.2.2.2+1)).bind fun h=>
  gV k a0 r3 n (x8.1,x8.2.1,x8.2.2,h)) else(some (y6.1,y6.2.1,y6.2.2.1))
def nE(k:Nat)(a0:aP):Option ((List (List Int))×Int×Int):=
 (nG k (a0.2.2.length:Int)).bind fun r2=>
 (sx k a0 r2).bind fun r3=>
 ((gV k a0 r3 k ([],0,0,0)):Option ((List (List Int))×Int×Int)).bind fun x4=>
 some (x4.1,x4.2.1,x4.2.2)
theorem uu(k:Nat)(a0:aP)(r:(List (List Int))×Int×Int)(h:nE k a0=some r):
 bX Tryz.prog 58 [.rep ak a0] [] (fun _:Unit=>(bj [.rep (.slice (.slice (.int .i64))) r.1,I r.2.1,I r.2.2],[])):=by
 unfold nE at h
 replace h:=a9 h
 refine bX.of 49 Tryz.func58 rfl Tryz.ntmps58 rfl fun S w0=>?_
 refine sr ?_
 refine bx fun b1=>?_
 refine au ?_
 refine bJ ?_
 refine ea 0 (ai rfl c6 (uA) rfl) ?_
 refine da (av rfl cM) ?_
 refine ea 0 (ai rfl bZ jw rfl) ?_
 refine da (ju rfl rfl dP) ?_
 obtain⟨r2,Y,h⟩:=aa h
 have mc:=yu k (a0.2.2.length:Int) r2 Y
 refine da (ao [.tmp 14] rfl rfl TN rfl mc) ?_
 refine df cH ?_
 obtain⟨r3,X,h⟩:=aa h
 have ac:=Ci k a0 r2 r3 X
 refine jb (ao [.tmp 11,.tmp 15] rfl rfl TO rfl ac) ?_
 refine aq ?_
 refine nt ?_
 refine sr ?_
 refine cq ?_
 refine nt ?_
 refine sr ?_
 refine cq ?_
 refine cq ?_
 refine nt ?_
 refine aI (Z:=Unit) (α:=(List (List Int))×Int×Int) (fun z5 x4=>[(6,.rep (.slice (.slice (.int .i64))) x4.1),(7,I x4.2.1),(8,I x4.2.2)]) (fun z5 x4=>[]) h (fun K h=>?_) (fun z5 x4 h=>?_)
 ·
  refine au ?_;refine aj (dG (lq (t:=(.slice (.slice (.int .i64)))) (x:=[]) 6 rfl .nil rfl rfl) ?_);refine aK (fun z7 y6=>[(1,Pt b1),(5,.rep (.slice (.slice (.slice (.int .i64)))) r3),(6,.rep (.slice (.slice (.int .i64))) y6.1),(7,I y6.2.1),(8,I y6.2.2.1),(9,I y6.2.2.2)]) (fun z7 y6=>[.obj b1 27 (.rep ak a0)]) (gV k a0 r3) k () ([],0,0,0) (fun _=>rfl) h (SE.fin [0] ⟨rfl,rfl,rfl,rfl,rfl,rfl,trivial⟩ rfl) (fun n z7 y6 h=>?_);unfold gV at h;refine au ?_;refine ol O5 ?_;refine jb (bq rfl) ?_;refine nt (ci h (fun h=>?_) (fun h=>?_))
  ·refine sk (aI (Z:=Unit) (α:=(List (List Int))×Int×Int) (fun z9 x8=>[(1,Pt b1),(5,.rep (.slice (.slice (.slice (.int .i64)))) r3),(6,.rep (.slice (.slice (.int .i64))) x8.1),(7,I x8.2.1),(8,I x8.2.2),(9,I y6.2.2.2)]) (fun z9 x8=>[.obj b1 27 (.rep ak a0)]) h (fun K h=>?_) (fun z9 x8 h=>?_))
   ·refine aj (ar (bJ ?_));refine ea 0 (ai rfl c6 (uA) rfl) ?_;refine dm ?_;refine dm ?_;obtain⟨U,F,h⟩:=aa h;refine db (aH (t:=(.slice (.slice (.int .i64)))) rfl O5 uM F) ?_;refine da (an (t:=(.slice (.slice (.int .i64)))) rfl uM rfl) ?_;refine df cH ?_;obtain⟨e,J,h⟩:=aa h;refine jc (ao [.tmp 23,.tmp 27,.const (.int .i64 (0))] rfl rfl Ua rfl (yt k a0 U 0 e J)) ?_;refine aq (nt ?_);refine aI (Z:=Unit) (α:=(List (List Int))×Int×Int) (fun u c=>[(1,Pt b1),(5,.rep (.slice (.slice (.slice (.int .i64)))) r3),(6,.rep (.slice (.slice (.int .i64))) c.1),(7,I c.2.1),(8,I c.2.2),(9,I y6.2.2.2),(10,I e)]) (fun u c=>[.obj b1 27 (.rep ak a0)]) h (fun K h=>?_) (fun u c h=>?_)
    ·refine aI (Z:=Unit) (α:=Bool) (fun l j=>[(1,Pt b1),(5,.rep (.slice (.slice (.slice (.int .i64)))) r3),(6,.rep (.slice (.slice (.int .i64))) y6.1),(7,I y6.2.1),(8,I y6.2.2.1),(9,I y6.2.2.2),(10,I e),(35,.eq (.bool j))]) (fun l j=>[.obj b1 27 (.rep ak a0)]) h (fun K h=>?_) (fun l j h=>?_)
     ·refine ab (mq ?_);refine jb (dO rfl) ?_;refine mq ?_;refine cg (s:=31) rfl (fun hb=>?_) (fun hb=>?_)
      ·replace h:=cF (nX hb) h;refine au ?_;exact jz ((),true) h [0]
      ·replace h:=bM (nk hb) h;refine au ?_;refine gb (bq rfl) ?_;refine au ?_;exact jz ((),decide (e < y6.2.1)) h [0]
     ·refine cv h (fun h=>?_) (fun h=>?_)
      ·refine ab (au ?_);obtain⟨Q,E,h⟩:=aa h;refine jb (aH (t:=(.slice (.slice (.int .i64)))) rfl O5 uM E) ?_;refine ja (an (t:=(.slice (.slice (.int .i64)))) rfl uM rfl) ?_;refine au ?_;exact jz ((),(Q,e,0)) h [0]
      ·refine au ?_;exact jz ((),(y6.1,y6.2.1,y6.2.2.1)) h [0]
    ·refine au ?_;refine jb (dO rfl) ?_;refine nt (ci h (fun h=>?_) (fun h=>?_))
     ·refine ab (mq ?_);obtain⟨O,D,h⟩:=aa h;refine jb (be rfl D) ?_;refine au ?_;exact jz ((),(c.1,c.2.1,O)) h [0]
     ·refine au ?_;exact jz ((),(c.1,c.2.1,c.2.2)) h [0]
   ·refine ab (mq ?_);obtain⟨M,y,h⟩:=aa h;refine jb (be rfl y) ?_;refine au ?_;exact jz ((),(x8.1,x8.2.1,x8.2.2,M)) h [0]
  ·refine au ?_;exact jz ((),(y6.1,y6.2.1,y6.2.2.1)) h []
 ·
  refine au ?_;cases h;exact aN () [_,_,_] 0 ⟨rfl,rfl,rfl,trivial⟩ rfl
def nH(k:Nat)(a0:aP):Option ((List (List Int))×Int×Int):=
 (lO k a0).bind fun r2=>
 if¬(r2=0) then(some ([],0,r2)) else((nE k a0).bind fun r3=>
 if r3.2.2=0 then(some ([],0,11)) else(some (r3.1,r3.2.1,0)))
theorem zW(k:Nat)(a0:aP)(r:(List (List Int))×Int×Int)(h:nH k a0=some r):
 bX Tryz.prog 24 [.rep ak a0] [] (fun _:Unit=>(bj [.rep (.slice (.slice (.int .i64))) r.1,I r.2.1,I r.2.2],[])):=by
 unfold nH at h
 replace h:=a9 h
 refine bX.of 24 Tryz.func24 rfl Tryz.ntmps24 rfl fun S w0=>?_
 refine sr ?_
 refine bx fun b1=>?_
 refine au ?_
 refine lo c6 ?_
 obtain⟨r2,e,h⟩:=aa h
 have j:=sw k a0 r2 e
 refine ja (ao [.tmp 9] rfl rfl Re rfl j) ?_
 refine au ?_
 refine jb (gX rfl) ?_
 refine nt ?_
 refine cn h (fun h=>?_) (fun h=>?_)
 ·
  refine sr (mq ?_);refine cq ?_;refine cq ?_;refine aq (nt (rx ?_));refine bu (lq (t:=(.slice (.slice (.int .i64)))) (x:=[]) 2 rfl .nil rfl rfl) ?_;cases h;exact aN () [_,_,_] 0 ⟨rfl,rfl,rfl,trivial⟩ rfl
 ·
  refine au ?_;refine lo c6 ?_;obtain⟨r3,c,h⟩:=aa h;refine ja (ao [.tmp 15] rfl rfl Q9 rfl (uu k a0 r3 c)) ?_;refine au ?_;refine jb (dO rfl) ?_;refine nt (ci h (fun h=>?_) (fun h=>?_))
  ·refine sr (cq ?_);refine cq ?_;refine cq (nt (rx ?_));refine bu (lq (t:=(.slice (.slice (.int .i64)))) (x:=[]) 2 rfl .nil rfl rfl) ?_;cases h;exact aN () [_,_,_] 0 ⟨rfl,rfl,rfl,trivial⟩ rfl
  ·refine au ?_;cases h;exact aN () [_,_,_] 0 ⟨rfl,rfl,rfl,trivial⟩ rfl
def lN(k:Nat)(a0:aP):Option (Int×Int):=
 (lO k a0).bind fun r2=>
 if¬(r2=0) then(some (0,r2)) else((nE k a0).bind fun r3=>
 if r3.2.2=0 then(some (0,11)) else(some (r3.2.2,0)))
theorem yv(k:Nat)(a0:aP)(r:Int×Int)(h:lN k a0=some r):
 bX Tryz.prog 26 [.rep ak a0] [] (fun _:Unit=>(bj [I r.1,I r.2],[])):=by
 unfold lN at h
 replace h:=a9 h
 refine bX.of 22 Tryz.func26 rfl Tryz.ntmps26 rfl fun S w0=>?_
 refine sr ?_
 refine bx fun b1=>?_
 refine au ?_
 refine lo c6 ?_
 obtain⟨r2,e,h⟩:=aa h
 have j:=sw k a0 r2 e
 refine ja (ao [.tmp 8] rfl rfl Re rfl j) ?_
 refine au ?_
 refine jb (gX rfl) ?_
 refine nt ?_
 refine cn h (fun h=>?_) (fun h=>?_)
 ·
  refine au ?_;cases h;exact rb
 ·
  refine au ?_;refine lo c6 ?_;obtain⟨r3,c,h⟩:=aa h;refine ja (ao [.tmp 14] rfl rfl Q9 rfl (uu k a0 r3 c)) ?_;refine au ?_;refine jb (dO rfl) ?_;refine nt (ci h (fun h=>?_) (fun h=>?_))
  ·refine au ?_;cases h;exact rb
  ·refine au ?_;cases h;exact rb
def fh(k:Nat)(a0:aP)(a1:aP):Nat→Int→Option (Except Bool Unit)
 |0,_=>none
 |n+1,y8=>
  if y8 < (a0.2.1.length:Int) then((((aQ a0.2.1 y8).bind fun l=>
  (aQ a1.2.1 y8).bind fun j=>
  if¬(l.1=j.1) then(some true) else((aQ a0.2.1 y8).bind fun h=>
  (aQ a1.2.1 y8).bind fun e=>
  (dV k h.2 e.2).bind fun s=>
  some (!s))):Option (Bool)).bind fun r=>
  if r=true then(some (.error false)) else((ck (y8+1)).bind fun c=>
  fh k a0 a1 n c)) else(some (.ok ()))
def iu(k:Nat)(a0:aP)(a1:aP):Option Bool:=
 ((if¬(a0.1=a1.1) then(some true) else(if¬((a0.2.1.length:Int)=(a1.2.1.length:Int)) then(some true) else((dV k a0.2.2 a1.2.2).bind fun r5=>
 some (!r5)))):Option (Bool)).bind fun x3=>
 if x3=true then(some false) else(bE (α:=Unit) (fh k a0 a1 k 0) (some) fun _=>
 some true)
theorem t6(k:Nat)(a0:aP)(a1:aP)(r:Bool)(h:iu k a0 a1=some r):
 bX Tryz.prog 27 [.rep ak a0,.rep ak a1] [] (fun _:Unit=>(bj [.eq (.bool r)],[])):=by
 unfold iu at h
 replace h:=a9 h
 refine bX.of 64 Tryz.func27 rfl Tryz.ntmps27 rfl fun S w0=>?_
 refine sr ?_
 refine bx fun b1=>?_
 refine bx fun b2=>?_
 refine cq ?_
 refine nt ?_
 refine ar ?_
 refine aI (Z:=Unit) (α:=Bool) (fun z4 x3=>[(2,Pt b1),(3,Pt b2),(27,.eq (.bool x3))]) (fun z4 x3=>[.obj b1 27 (.rep ak a0),.obj b2 27 (.rep ak a1)]) h (fun K h=>?_) (fun z4 x3 h=>?_)
 ·
  refine ab (fl gI ?_);refine fr 1 ?_;refine lo ct ?_;refine fl gI ?_;refine fr 1 ?_;refine lo ct ?_;refine jb (gX rfl) ?_;refine mq ?_;refine cg (s:=11) rfl (fun hb=>?_) (fun hb=>?_)
  ·replace h:=cF (Ik hb) h;refine au ?_;exact jz ((),true) h [1,0]
  ·replace h:=bM (vT hb) h;refine ga (av rfl cd) ?_;refine fr 1 ?_;refine jr rfl rfl rfl rfl rfl rfl (ai rfl fQ jw rfl) ⟨rfl,trivial⟩ ?_;refine ga (ju rfl rfl nn) ?_;refine ga (av rfl cd) ?_;refine fr 1 ?_;refine jr rfl rfl rfl rfl rfl rfl (ai rfl fQ jw rfl) ⟨rfl,trivial⟩ ?_;refine ga (ju rfl rfl nn) ?_;refine gb (gX rfl) ?_;refine pf ?_;refine mq ?_;refine cg (s:=20) rfl (fun hb=>?_) (fun hb=>?_)
   ·replace h:=cF (Ik hb) h;refine au ?_;exact jz ((),true) h [1,0]
   ·replace h:=bM (vT hb) h;refine ga (av rfl cM) ?_;refine fr 1 ?_;refine jr rfl rfl rfl rfl rfl rfl (ai rfl bZ jw rfl) ⟨rfl,trivial⟩ ?_;refine ga (av rfl cM) ?_;refine fr 1 ?_;refine jr rfl rfl rfl rfl rfl rfl (ai rfl bZ jw rfl) ⟨rfl,trivial⟩ ?_;obtain⟨r5,Q,h⟩:=aa h;refine gb (ao [.tmp 22,.tmp 24] rfl rfl I8 rfl (ik k a0.2.2 a1.2.2 r5 Q)) ?_;refine ga (eW rfl) ?_;refine au ?_;exact jz ((), !r5) h [1,0]
 ·
  refine cv h (fun h=>?_) (fun h=>?_)
  ·refine au ?_;cases h;exact ra
  ·refine sk (eT (Z:=Unit) (α:=Unit) (fun z7 x6=>[]) (fun z7 x6=>[]) (fun e=>e=r) h (fun e h=>Option.some.inj h) (fun K hR h=>?_) (fun z7 x6 h=>?_))
   ·refine au ?_;refine aj (aK (fun z9 y8=>[(2,Pt b1),(3,Pt b2),(5,I y8)]) (fun z9 y8=>[.obj b1 27 (.rep ak a0),.obj b2 27 (.rep ak a1)]) (fh k a0 a1) k () 0 (fun _=>rfl) h (SE.fin [0,1] ⟨rfl,rfl,rfl,trivial⟩ rfl) (fun n z9 y8 h=>?_));unfold fh at h;refine au ?_;refine fl cd ?_;refine lo fQ ?_;refine ol nn ?_;refine jb (bq rfl) ?_;refine nt (ci h (fun h=>?_) (fun h=>?_))
    ·refine au ?_;refine aj (aI (Z:=Unit) (α:=Bool) (fun j c=>[(2,Pt b1),(3,Pt b2),(5,I y8),(63,.eq (.bool c))]) (fun j c=>[.obj b1 27 (.rep ak a0),.obj b2 27 (.rep ak a1)]) h (fun K h=>?_) (fun j c h=>?_))
     ·refine bJ ?_;refine da (av rfl cd) ?_;refine ea 0 (ai rfl fQ jw rfl) ?_;refine dm ?_;obtain⟨X,E,h⟩:=aa h;refine db (aH (t:=aJ) rfl nn jl E) ?_;refine da (aG 1 false rfl kJ rfl) ?_;refine da (an (t:=(.int .i64)) rfl ct rfl) ?_;refine da (av rfl cd) ?_;refine ea 1 (ai rfl fQ jw rfl) ?_;refine dm ?_;obtain⟨U,D,h⟩:=aa h;refine db (aH (t:=aJ) rfl nn jl D) ?_;refine da (aG 1 false rfl kJ rfl) ?_;refine da (an (t:=(.int .i64)) rfl ct rfl) ?_;refine db (gX rfl) ?_;refine kU rfl rfl rfl (aL rfl) ⟨rfl,trivial⟩ (fun hb=>?_) (fun hb=>?_)
      ·replace h:=cF (Ik hb) h;iterate 12 refine dg ?_
       refine df cH ?_;refine au ?_;exact jz ((),true) h [0,1]
      ·replace h:=bM (vT hb) h;refine aV rfl rfl rfl rfl rfl (av rfl cd) ⟨rfl,rfl,trivial⟩ ?_;refine ko 0 rfl rfl rfl rfl rfl rfl (ai rfl fQ jw rfl) ⟨rfl,rfl,trivial⟩ ?_;refine aV rfl rfl rfl rfl rfl (aL rfl) ⟨rfl,rfl,trivial⟩ ?_;obtain⟨O,y,h⟩:=aa h;refine aV rfl rfl rfl rfl rfl (aH (t:=aJ) rfl nn jl y) ⟨rfl,rfl,rfl,trivial⟩ ?_;refine aV rfl rfl rfl rfl rfl (aG 1 false rfl kH rfl) ⟨rfl,rfl,trivial⟩ ?_;refine aV rfl rfl rfl rfl rfl (an (t:=(.slice (.int .i64))) rfl bZ rfl) ⟨rfl,rfl,trivial⟩ ?_;refine aV rfl rfl rfl rfl rfl (av rfl cd) ⟨rfl,rfl,trivial⟩ ?_;refine ko 1 rfl rfl rfl rfl rfl rfl (ai rfl fQ jw rfl) ⟨rfl,rfl,trivial⟩ ?_;refine aV rfl rfl rfl rfl rfl (aL rfl) ⟨rfl,rfl,trivial⟩ ?_;obtain⟨M,x,h⟩:=aa h;refine aV rfl rfl rfl rfl rfl (aH (t:=aJ) rfl nn jl x) ⟨rfl,rfl,rfl,trivial⟩ ?_;refine aV rfl rfl rfl rfl rfl (aG 1 false rfl kH rfl) ⟨rfl,rfl,trivial⟩ ?_;refine aV rfl rfl rfl rfl rfl (an (t:=(.slice (.int .i64))) rfl bZ rfl) ⟨rfl,rfl,trivial⟩ ?_;refine df cH ?_;obtain⟨l,F,h⟩:=aa h;refine gb (ao [.tmp 54,.tmp 60] rfl rfl I8 rfl (ik k O.2 M.2 l F)) ?_;refine ga (eW rfl) ?_;refine au ?_;exact jz ((), !l) h [0,1]
     ·refine cv h (fun h=>?_) (fun h=>?_)
      ·refine au ?_;obtain rfl:=hR _ h;exact ra
      ·refine au ?_;refine ab (mq ?_);obtain⟨J,u,h⟩:=aa h;refine jb (be rfl u) ?_;refine au ?_;exact jz ((),J) h [0,1]
    ·refine au ?_;exact jz ((),()) h []
   ·refine au ?_;cases h;exact ra
end Go.Proofs.YtmeojbemjkmebaaGreatDoor
