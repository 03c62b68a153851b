import Derived.Test.YtmeojbemjkmebaaGreatDoorREFacts
import Derived.Test.YtmeojbemjkmebaaGreatDoorREB6
import Derived.Test.YtmeojbemjkmebaaGreatDoorREB5
set_option linter.unusedSimpArgs false
set_option linter.unusedVariables false
set_option maxRecDepth 4000
set_option maxHeartbeats 1000000
namespace Go.Proofs.YtmeojbemjkmebaaGreatDoor
open K Go Go.Proofs
def mS(k:Nat)(a0:(List Int)):Option bT:=
 some (a0,0,1)
theorem dZ(k:Nat)(a0:(List Int))(r:bT)(h:mS k a0=some r):
 bV Tryz.prog 7 [Ri a0] [] (fun z:Nat=>(bm [Pt z],[.obj z 66 (.agg (.pair (Ri r.1) (.pair (I r.2.1) (.eq (.int .u64 r.2.2)))))])):=by
 unfold mS at h
 replace h:=aZ h
 refine bV.of 6 Tryz.func7 rfl Tryz.ntmps7 rfl fun S w0=>?_
 refine au ?_
 refine jb (cH [(0,.tmp 3,_),(2,.const (.int .u64 (1)),_)] rfl SL Su Rt (il ⟨rfl,rfl,trivial⟩) rfl) ?_
 refine aE rfl rfl rfl (oH rfl trivial) ⟨rfl,trivial⟩ fun b1=>?_
 refine au ?_
 cases h
 exact aO b1 [Pt b1] 1 ⟨rfl,trivial⟩ rfl
def jt(k:Nat)(a0:bT):Option (Int×bT):=
 ((if a0.2.1 < (a0.1.length:Int) then((aR a0.1 a0.2.1).bind fun x3=>
 some (IntKind.u64.wrap ((IntKind.u64.wrap ((IntKind.u64.wrap (a0.2.2 * 6364136223846793005))+1442695040888963407))+(IntKind.u64.wrap ((IntKind.u64.wrap x3) * 2862933555777941757))))) else(some (IntKind.u64.wrap ((IntKind.u64.wrap (a0.2.2 * 6364136223846793005))+1442695040888963407)))):Option (Int)).bind fun x1=>
 (ck (a0.2.1+1)).bind fun x4=>
 some (iH .u64 (q8 .u64 (IntKind.u64.wrap ((q8 .u64 x1 (iH .u64 x1 29)) * 2685821657736338717)) (iH .u64 (IntKind.u64.wrap ((q8 .u64 x1 (iH .u64 x1 29)) * 2685821657736338717)) 32)) 8,(a0.1,x4,x1))
theorem tK(k:Nat)(a0:bT)(c:Nat)(r:Int×bT)(h:jt k a0=some r):
 bV Tryz.prog 79 [Pt c] [.obj c 66 (.agg (.pair (Ri a0.1) (.pair (I a0.2.1) (.eq (.int .u64 a0.2.2)))))] (fun _:Unit=>(bm [.eq (.int .u64 r.1)],[.obj c 66 (.agg (.pair (Ri r.2.1) (.pair (I r.2.2.1) (.eq (.int .u64 r.2.2.2)))))])):=by
 unfold jt at h
 replace h:=aZ h
 refine bV.of 67 Tryz.func79 rfl Tryz.ntmps79 rfl fun S w0=>?_
 refine au ?_
 refine ja (aY rfl) ?_
 refine fl tO ?_
 refine lo EN ?_
 refine jb (CE rfl) ?_
 refine jb (CJ rfl) ?_
 refine ja (aY rfl) ?_
 refine fl tO ?_
 refine bf rfl rfl (a8 rfl EN rfl rfl rfl) ⟨rfl,rfl,trivial⟩ ?_
 refine nt ?_
 refine aM (Z:=Unit) (α:=Int) (fun z2 x1=>[(0,Pt c)]) (fun z2 x1=>[.obj c 66 (.agg (.pair (Ri a0.1) (.pair (I a0.2.1) (.eq (.int .u64 x1)))))]) h (fun K h=>?_) (fun z2 x1 h=>?_)
 ·
  refine ar (bR ?_);refine dm ?_;refine da (aY rfl) ?_;refine da (av rfl yN) ?_;refine ea 0 (aj rfl bY jF rfl) ?_;refine dm ?_;refine da (aY rfl) ?_;refine da (av rfl IN) ?_;refine ea 0 (aj rfl bC jF rfl) ?_;refine da (jQ rfl rfl dB) ?_;refine df cE ?_;refine jb (bg rfl) ?_;refine nt (ci h (fun h=>?_) (fun h=>?_))
  ·refine bR ?_;refine dm ?_;refine dm ?_;refine da (aY rfl) ?_;refine da (av rfl tO) ?_;refine ea 0 (aj rfl EN jF rfl) ?_;refine dm ?_;refine da (aY rfl) ?_;refine da (av rfl IN) ?_;refine ea 0 (aj rfl bC jF rfl) ?_;refine dm ?_;refine da (aY rfl) ?_;refine da (av rfl yN) ?_;refine ea 0 (aj rfl bY jF rfl) ?_;obtain⟨x3,j,h⟩:=aa h;refine db (aD (t:=(.int .i64)) rfl dB bY j) ?_;refine da (ak (t:=(.int .i64)) rfl bY rfl) ?_;refine da (pi rfl U3 R7) ?_;refine db (CE rfl) ?_;refine db (CJ rfl) ?_;refine df cE ?_;refine ja (aY rfl) ?_;refine fl tO ?_;refine bf rfl rfl (a8 rfl EN rfl rfl rfl) ⟨rfl,rfl,trivial⟩ ?_;refine au ?_;exact jz ((),IntKind.u64.wrap ((IntKind.u64.wrap ((IntKind.u64.wrap (a0.2.2 * 6364136223846793005))+1442695040888963407))+(IntKind.u64.wrap ((IntKind.u64.wrap x3) * 2862933555777941757)))) h [0]
  ·refine au ?_;exact jz ((),IntKind.u64.wrap ((IntKind.u64.wrap (a0.2.2 * 6364136223846793005))+1442695040888963407)) h [0]
 ·
  refine au ?_;refine ja (aY rfl) ?_;refine fl yN ?_;refine lo bY ?_;obtain⟨x4,e,h⟩:=aa h;refine jb (aW rfl e) ?_;refine ja (aY rfl) ?_;refine fl yN ?_;refine bf rfl rfl (a8 rfl bY rfl rfl rfl) ⟨rfl,rfl,trivial⟩ ?_;refine au ?_;refine bR ?_;refine dm ?_;refine da (aY rfl) ?_;refine da (av rfl tO) ?_;refine ea 0 (aj rfl EN jF rfl) ?_;refine dm ?_;refine da (aY rfl) ?_;refine da (av rfl tO) ?_;refine ea 0 (aj rfl EN jF rfl) ?_;refine dz rfl rfl rfl (vA rfl (by decide)) ⟨rfl,rfl,trivial⟩ ?_;refine df cE ?_;refine jb (MS rfl) ?_;refine au ?_;refine jb (CE rfl) ?_;refine au ?_;refine aG rfl (vA rfl (by decide)) ⟨rfl,rfl,trivial⟩ ?_;refine jb (MS rfl) ?_;refine aG rfl (vA rfl (by decide)) ⟨rfl,rfl,trivial⟩ ?_;refine au ?_;cases h;exact aO () [_] 1 ⟨rfl,trivial⟩ rfl
def dR(k:Nat)(a0:bT)(a1:Int):Option (Int×bT):=
 if a1 < 1 then(some (0,(a0.1,a0.2.1,a0.2.2))) else((jt k (a0.1,a0.2.1,a0.2.2)).bind fun r1=>
 (ck (a1+1)).bind fun x2=>
 (dj ((IntKind.u64.wrap x2)≠0)).bind fun _=>
 (ck (Int.tmod r1.1 (IntKind.u64.wrap x2))).bind fun x4=>
 some (x4,(r1.2.1,r1.2.2.1,r1.2.2.2)))
theorem gB(k:Nat)(a0:bT)(c:Nat)(a1:Int)(r:Int×bT)(h:dR k a0 a1=some r):
 bV Tryz.prog 40 [Pt c,I a1] [.obj c 66 (.agg (.pair (Ri a0.1) (.pair (I a0.2.1) (.eq (.int .u64 a0.2.2)))))] (fun _:Unit=>(bm [I r.1],[.obj c 66 (.agg (.pair (Ri r.2.1) (.pair (I r.2.2.1) (.eq (.int .u64 r.2.2.2)))))])):=by
 unfold dR at h
 replace h:=aZ h
 refine bV.of 14 Tryz.func40 rfl Tryz.ntmps40 rfl fun S w0=>?_
 refine au ?_
 refine jb (bg rfl) ?_
 refine nt ?_
 refine ci h (fun h=>?_) (fun h=>?_)
 ·
  refine au ?_;cases h;exact aO () [_] 1 ⟨rfl,trivial⟩ rfl
 ·
  refine au ?_;obtain⟨r1,n,h⟩:=aa h;refine ka (ap [.tmp 7] rfl rfl TG rfl (tK k (a0.1,a0.2.1,a0.2.2) c r1 n)) ?_;refine mq ?_;obtain⟨x2,j,h⟩:=aa h;refine jb (aW rfl j) ?_;refine ja (pi rfl U3 R7) ?_;obtain⟨u3,l,h⟩:=aa h;refine jb (Hv rfl (aB l)) ?_;obtain⟨x4,e,h⟩:=aa h;refine ja (Ae rfl R7 U3 e) ?_;refine au ?_;cases h;exact aO () [_] 1 ⟨rfl,trivial⟩ rfl
def fa(k:Nat)(a0:bT)(a1:Int)(a2:Int):Option (Int×bT):=
 (ck (a2 - a1)).bind fun x1=>
 (dR k (a0.1,a0.2.1,a0.2.2) x1).bind fun r2=>
 (ck (a1+r2.1)).bind fun x3=>
 some (x3,(r2.2.1,r2.2.2.1,r2.2.2.2))
theorem mn(k:Nat)(a0:bT)(c:Nat)(a1:Int)(a2:Int)(r:Int×bT)(h:fa k a0 a1 a2=some r):
 bV Tryz.prog 10 [Pt c,I a1,I a2] [.obj c 66 (.agg (.pair (Ri a0.1) (.pair (I a0.2.1) (.eq (.int .u64 a0.2.2)))))] (fun _:Unit=>(bm [I r.1],[.obj c 66 (.agg (.pair (Ri r.2.1) (.pair (I r.2.2.1) (.eq (.int .u64 r.2.2.2)))))])):=by
 unfold fa at h
 replace h:=aZ h
 refine bV.of 14 Tryz.func10 rfl Tryz.ntmps10 rfl fun S w0=>?_
 refine au ?_
 obtain⟨x1,j,h⟩:=aa h
 refine jb (fS rfl j) ?_
 obtain⟨r2,l,h⟩:=aa h
 have n:=gB k (a0.1,a0.2.1,a0.2.2) c x1 r2 l
 refine kb (ap [.tmp 8,.tmp 11] rfl rfl IV rfl n) ?_
 obtain⟨x3,e,h⟩:=aa h
 refine jb (aW rfl e) ?_
 refine au ?_
 cases h
 exact aO () [_] 1 ⟨rfl,trivial⟩ rfl
def jU(k:Nat)(a0:bT)(a1:(List Int)):Option (Int×bT):=
 (ck ((a1.length:Int) - 1)).bind fun x1=>
 (dR k (a0.1,a0.2.1,a0.2.2) x1).bind fun r2=>
 (aR a1 r2.1).bind fun x3=>
 some (x3,(r2.2.1,r2.2.2.1,r2.2.2.2))
theorem pu(k:Nat)(a0:bT)(c:Nat)(a1:(List Int))(r:Int×bT)(h:jU k a0 a1=some r):
 bV Tryz.prog 65 [Pt c,Ri a1] [.obj c 66 (.agg (.pair (Ri a0.1) (.pair (I a0.2.1) (.eq (.int .u64 a0.2.2)))))] (fun _:Unit=>(bm [I r.1],[.obj c 66 (.agg (.pair (Ri r.2.1) (.pair (I r.2.2.1) (.eq (.int .u64 r.2.2.2)))))])):=by
 unfold jU at h
 replace h:=aZ h
 refine bV.of 13 Tryz.func65 rfl Tryz.ntmps65 rfl fun S w0=>?_
 refine au ?_
 refine ol dB ?_
 obtain⟨x1,j,h⟩:=aa h
 refine jb (fS rfl j) ?_
 obtain⟨r2,l,h⟩:=aa h
 have n:=gB k (a0.1,a0.2.1,a0.2.2) c x1 r2 l
 refine kb (ap [.tmp 6,.tmp 9] rfl rfl IV rfl n) ?_
 obtain⟨x3,e,h⟩:=aa h
 refine jb (aD (t:=(.int .i64)) rfl dB bY e) ?_
 refine ja (ak (t:=(.int .i64)) rfl bY rfl) ?_
 refine au ?_
 cases h
 exact aO () [_] 1 ⟨rfl,trivial⟩ rfl
def f8(k:Nat)(a0:bT)(a1:Int):Option (Bool×bT):=
 (ck (a1 - 1)).bind fun x1=>
 (dR k (a0.1,a0.2.1,a0.2.2) x1).bind fun r2=>
 some (decide (r2.1=0),(r2.2.1,r2.2.2.1,r2.2.2.2))
theorem nC(k:Nat)(a0:bT)(c:Nat)(a1:Int)(r:Bool×bT)(h:f8 k a0 a1=some r):
 bV Tryz.prog 66 [Pt c,I a1] [.obj c 66 (.agg (.pair (Ri a0.1) (.pair (I a0.2.1) (.eq (.int .u64 a0.2.2)))))] (fun _:Unit=>(bm [.eq (.bool r.1)],[.obj c 66 (.agg (.pair (Ri r.2.1) (.pair (I r.2.2.1) (.eq (.int .u64 r.2.2.2)))))])):=by
 unfold f8 at h
 replace h:=aZ h
 refine bV.of 10 Tryz.func66 rfl Tryz.ntmps66 rfl fun S w0=>?_
 refine au ?_
 obtain⟨x1,e,h⟩:=aa h
 refine jb (fS rfl e) ?_
 obtain⟨r2,j,h⟩:=aa h
 have l:=gB k (a0.1,a0.2.1,a0.2.2) c x1 r2 j
 refine kb (ap [.tmp 5,.tmp 7] rfl rfl IV rfl l) ?_
 refine jb (fq rfl) ?_
 refine au ?_
 cases h
 exact aO () [_] 1 ⟨rfl,trivial⟩ rfl
def eX(k:Nat)(r2:Int×bT):Nat→((List Int)×Int×Int×(List Int)×Int)→Option ((List Int)×Int×Int×(List Int))
 |0,_=>none
 |n+1,c=>
  if c.2.2.2.2 < r2.1 then((((f8 k (c.1,c.2.1,c.2.2.1) 2).bind fun e=>
  if e.1=true then((dj (bq (List.length c.2.2.2.1+List.length [c.2.2.2.2]))).bind fun _=>
  some (e.2.1,e.2.2.1,e.2.2.2,c.2.2.2.1++[c.2.2.2.2])) else(some (e.2.1,e.2.2.1,e.2.2.2,c.2.2.2.1))):Option ((List Int)×Int×Int×(List Int))).bind fun h=>
  (ck (c.2.2.2.2+1)).bind fun j=>
  eX k r2 n (h.1,h.2.1,h.2.2.1,h.2.2.2,j)) else(some (c.1,c.2.1,c.2.2.1,c.2.2.2.1))
def eY(k:Nat)(r2:Int×bT):Nat→((List Int)×Int×Int×(List eC)×Int×Int)→Option ((List Int)×Int×Int×(List eC)×Int)
 |0,_=>none
 |n+1,y7=>
  if 0 < y7.2.2.2.2.2 then((((jU k (y7.1,y7.2.1,y7.2.2.1) [1,1,1,2,3]).bind fun c=>
  ((eX k r2 k (c.2.1,c.2.2.1,c.2.2.2,([]:(List Int)),0)):Option ((List Int)×Int×Int×(List Int))).bind fun e=>
  (dj (bq (List.length y7.2.2.2.1+List.length [(c.1,e.2.2.2)]))).bind fun _=>
  (ck (y7.2.2.2.2.1+c.1)).bind fun j=>
  some (e.1,e.2.1,e.2.2.1,y7.2.2.2.1++[(c.1,e.2.2.2)],j)):Option ((List Int)×Int×Int×(List eC)×Int)).bind fun x9=>
  (ck (y7.2.2.2.2.2 - 1)).bind fun h=>
  eY k r2 n (x9.1,x9.2.1,x9.2.2.1,x9.2.2.2.1,x9.2.2.2.2,h)) else(some (y7.1,y7.2.1,y7.2.2.1,y7.2.2.2.1,y7.2.2.2.2.1))
def eW(k:Nat)(x4:(List Int)×Int×Int×(List eC)×Int):Nat→((List Int)×Int×Int×(List Int)×Int)→Option ((List Int)×Int×Int×(List Int))
 |0,_=>none
 |n+1,c=>
  if 0 < c.2.2.2.2 then((ck (x4.2.2.2.2+1)).bind fun j=>
  (jU k (c.1,c.2.1,c.2.2.1) [1,2,3,kl 9 x4.2.2.2.2,kl 9 j]).bind fun e=>
  (dj (bq (List.length c.2.2.2.1+List.length [e.1]))).bind fun _=>
  (ck (c.2.2.2.2 - 1)).bind fun h=>
  eW k x4 n (e.2.1,e.2.2.1,e.2.2.2,c.2.2.2.1++[e.1],h)) else(some (c.1,c.2.1,c.2.2.1,c.2.2.2.1))
def kJ(k:Nat)(a0:bT)(a1:Int)(a2:Int):Option (aQ×bT):=
 (fa k (a0.1,a0.2.1,a0.2.2) 1 4).bind fun r2=>
 (((fa k (r2.2.1,r2.2.2.1,r2.2.2.2) 0 a1).bind fun r6=>
 eY k r2 k (r6.2.1,r6.2.2.1,r6.2.2.2,([]:(List eC)),0,r6.1)):Option ((List Int)×Int×Int×(List eC)×Int)).bind fun x4=>
 (((fa k (x4.1,x4.2.1,x4.2.2.1) 1 a2).bind fun j=>
 eW k x4 k (j.2.1,j.2.2.1,j.2.2.2,([]:(List Int)),j.1)):Option ((List Int)×Int×Int×(List Int))).bind fun e=>
 (((f8 k (e.1,e.2.1,e.2.2.1) 2).bind fun c=>
 if c.1=true then((aR e.2.2.2 0).bind fun l=>
 some (List.set e.2.2.2 (Int.toNat 0) (kl 9 x4.2.2.2.2),c.2.1,c.2.2.1,c.2.2.2)) else(some (e.2.2.2,c.2.1,c.2.2.1,c.2.2.2))):Option ((List Int)×(List Int)×Int×Int)).bind fun h=>
 some ((r2.1,x4.2.2.2.1,h.1),(h.2.1,h.2.2.1,h.2.2.2))
theorem wQ(k:Nat)(a0:bT)(c:Nat)(a1:Int)(a2:Int)(r:aQ×bT)(h:kJ k a0 a1 a2=some r):
 bV Tryz.prog 31 [Pt c,I a1,I a2] [.obj c 66 (.agg (.pair (Ri a0.1) (.pair (I a0.2.1) (.eq (.int .u64 a0.2.2)))))] (fun _:Unit=>(bm [.rep ao r.1],[.obj c 66 (.agg (.pair (Ri r.2.1) (.pair (I r.2.2.1) (.eq (.int .u64 r.2.2.2)))))])):=by
 unfold kJ at h
 replace h:=aZ h
 refine bV.of 79 Tryz.func31 rfl Tryz.ntmps31 rfl fun S w0=>?_
 refine sr ?_
 refine aE rfl rfl rfl (a9 rfl kC mG) trivial fun b1=>?_
 refine nt ?_
 refine sr ?_
 refine mq ?_
 obtain⟨r2,Vs,h⟩:=aa h
 have Vt:=mn k (a0.1,a0.2.1,a0.2.2) c 1 4 r2 Vs
 refine fr 1 ?_
 refine kc (ap [.tmp 13,.const (.int .i64 (1)),.const (.int .i64 (4))] rfl rfl Ox rfl Vt) ?_
 refine ja (cH [(0,.tmp 14,_)] rfl Hj kC A6 (il ⟨rfl,trivial⟩) rfl) ?_
 refine aE rfl rfl rfl (a9 rfl kC mG) trivial fun b3=>?_
 refine bf rfl rfl (a8 rfl cU trivial rfl rfl) ⟨rfl,rfl,trivial⟩ ?_
 refine nt ?_
 refine sr ?_
 refine cq ?_
 refine nt ?_
 refine aM (Z:=Value) (α:=(List Int)×Int×Int×(List eC)×Int) (fun z5 x4=>[(0,Pt c),(2,I a2),(6,Pt b1),(7,Pt b3),(8,I x4.2.2.2.2)]) (fun z5 x4=>[.obj c 66 (.agg (.pair (Ri x4.1) (.pair (I x4.2.1) (.eq (.int .u64 x4.2.2.1))))),.obj b1 27 (.agg (.pair (I 0) (.pair (.eq (.slice none 0 0)) (.eq (.slice none 0 0))))),.obj b3 27 (.agg (.pair (I r2.1) (.pair (.eq z5) (.eq (.slice none 0 0))))),.sl z5 35 aH x4.2.2.2.1]) h (fun K h=>?_) (fun z5 x4 h=>?_)
 ·
  refine sr ?_;iterate 2 refine mq ?_
  obtain⟨r6,Vr,h⟩:=aa h;refine fr 1 ?_;refine kc (ap [.tmp 16,.const (.int .i64 (0)),.tmp 17] rfl rfl Ox rfl (mn k (r2.2.1,r2.2.2.1,r2.2.2.2) c 0 a1 r6 Vr)) ?_;refine au ?_;refine ai (dA (SE.nil 35 aH) ?_);refine aK (fun z8 y7=>[(0,Pt c),(2,I a2),(6,Pt b1),(7,Pt b3),(8,I y7.2.2.2.2.1),(9,I y7.2.2.2.2.2)]) (fun z8 y7=>[.obj c 66 (.agg (.pair (Ri y7.1) (.pair (I y7.2.1) (.eq (.int .u64 y7.2.2.1))))),.obj b1 27 (.agg (.pair (I 0) (.pair (.eq (.slice none 0 0)) (.eq (.slice none 0 0))))),.obj b3 27 (.agg (.pair (I r2.1) (.pair (.eq z8) (.eq (.slice none 0 0))))),.sl z8 35 aH y7.2.2.2.1]) (eY k r2) k (.slice none 0 0) (r6.2.1,r6.2.2.1,r6.2.2.2,([]:(List eC)),0,r6.1) (fun _=>rfl) h (SE.fin [1,3,2,0] ⟨rfl,rfl,rfl,rfl,rfl,rfl,trivial⟩ rfl) (fun n z8 y7 h=>?_);unfold eY at h;refine au ?_;refine jb (iD rfl) ?_;refine nt (ci h (fun h=>?_) (fun h=>?_))
  ·refine sk (aM (Z:=Value) (α:=(List Int)×Int×Int×(List eC)×Int) (fun X x9=>[(0,Pt c),(2,I a2),(6,Pt b1),(7,Pt b3),(8,I x9.2.2.2.2),(9,I y7.2.2.2.2.2)]) (fun X x9=>[.obj c 66 (.agg (.pair (Ri x9.1) (.pair (I x9.2.1) (.eq (.int .u64 x9.2.2.1))))),.obj b1 27 (.agg (.pair (I 0) (.pair (.eq (.slice none 0 0)) (.eq (.slice none 0 0))))),.obj b3 27 (.agg (.pair (I r2.1) (.pair (.eq X) (.eq (.slice none 0 0))))),.sl X 35 aH x9.2.2.2.1]) h (fun K h=>?_) (fun X x9 h=>?_))
   ·refine ai (au ?_);refine aG rfl (be (t:=(.int .i64)) [(.const (.int .i64 (1)),_),(.const (.int .i64 (1)),_),(.const (.int .i64 (1)),_),(.const (.int .i64 (2)),_),(.const (.int .i64 (3)),_)] [1,1,1,2,3] rfl rfl dp (.cons rfl .int (.cons rfl .int (.cons rfl .int (.cons rfl .int (.cons rfl .int .nil))))) rfl rfl) ⟨rfl,rfl,rfl,rfl,rfl,trivial⟩ ?_;obtain⟨s,Va,h⟩:=aa h;refine kb (ap [.tmp 23,.tmp 24] rfl rfl QR rfl (pu k (y7.1,y7.2.1,y7.2.2.1) c [1,1,1,2,3] s Va)) ?_;refine ja (cH [(0,.tmp 25,_)] rfl zV ul ui (il ⟨rfl,trivial⟩) rfl) ?_;refine aE rfl rfl rfl (a9 rfl ul LS) trivial fun M=>?_;refine bf rfl rfl (a8 rfl gJ trivial rfl rfl) ⟨rfl,rfl,trivial⟩ ?_;refine nt (aM (Z:=Value) (α:=(List Int)×Int×Int×(List Int)) (fun ac j=>[(0,Pt c),(2,I a2),(6,Pt b1),(7,Pt b3),(8,I y7.2.2.2.2.1),(9,I y7.2.2.2.2.2),(10,Pt M)]) (fun ac j=>[.obj c 66 (.agg (.pair (Ri j.1) (.pair (I j.2.1) (.eq (.int .u64 j.2.2.1))))),.obj b1 27 (.agg (.pair (I 0) (.pair (.eq (.slice none 0 0)) (.eq (.slice none 0 0))))),.obj b3 27 (.agg (.pair (I r2.1) (.pair (.eq z8) (.eq (.slice none 0 0))))),.sl z8 35 aH y7.2.2.2.1,.obj M 35 (.agg (.pair (I s.1) (.eq ac))),.sl ac 3 (.int .i64) j.2.2.2]) h (fun K h=>?_) (fun ac j h=>?_))
    ·refine au ?_;refine ai (dA (SE.nil 3 (.int .i64)) ?_);refine aK (fun Q e=>[(0,Pt c),(2,I a2),(6,Pt b1),(7,Pt b3),(8,I y7.2.2.2.2.1),(9,I y7.2.2.2.2.2),(10,Pt M),(11,I e.2.2.2.2)]) (fun Q e=>[.obj c 66 (.agg (.pair (Ri e.1) (.pair (I e.2.1) (.eq (.int .u64 e.2.2.1))))),.obj b1 27 (.agg (.pair (I 0) (.pair (.eq (.slice none 0 0)) (.eq (.slice none 0 0))))),.obj b3 27 (.agg (.pair (I r2.1) (.pair (.eq z8) (.eq (.slice none 0 0))))),.sl z8 35 aH y7.2.2.2.1,.obj M 35 (.agg (.pair (I s.1) (.eq Q))),.sl Q 3 (.int .i64) e.2.2.2.1]) (eX k r2) k (.slice none 0 0) (s.2.1,s.2.2.1,s.2.2.2,([]:(List Int)),0) (fun _=>rfl) h (SE.fin [2,3,4,5,1,0] ⟨rfl,rfl,rfl,rfl,rfl,rfl,rfl,rfl,trivial⟩ rfl) (fun n Q e h=>?_);unfold eX at h;refine au ?_;refine fl f9 ?_;refine fr 2 ?_;refine lo bY ?_;refine jb (bg rfl) ?_;refine nt (ci h (fun h=>?_) (fun h=>?_))
     ·refine sk (aM (Z:=Value) (α:=(List Int)×Int×Int×(List Int)) (fun U x=>[(0,Pt c),(2,I a2),(6,Pt b1),(7,Pt b3),(8,I y7.2.2.2.2.1),(9,I y7.2.2.2.2.2),(10,Pt M),(11,I e.2.2.2.2)]) (fun U x=>[.obj c 66 (.agg (.pair (Ri x.1) (.pair (I x.2.1) (.eq (.int .u64 x.2.2.1))))),.obj b1 27 (.agg (.pair (I 0) (.pair (.eq (.slice none 0 0)) (.eq (.slice none 0 0))))),.obj b3 27 (.agg (.pair (I r2.1) (.pair (.eq z8) (.eq (.slice none 0 0))))),.sl z8 35 aH y7.2.2.2.1,.obj M 35 (.agg (.pair (I s.1) (.eq U))),.sl U 3 (.int .i64) x.2.2.2]) h (fun K h=>?_) (fun U x h=>?_))
      ·refine ai (sr (mq ?_));obtain⟨J,U8,h⟩:=aa h;refine fr 1 ?_;refine kb (ap [.tmp 33,.const (.int .i64 (2))] rfl rfl QQ rfl (nC k (e.1,e.2.1,e.2.2.1) c 2 J U8)) ?_;refine nt (cv h (fun h=>?_) (fun h=>?_))
       ·refine ab (fl km ?_);refine fr 4 ?_;refine lo bC ?_;refine mq ?_;refine ja (be (t:=(.int .i64)) [(.tmp 37,_)] [e.2.2.2.2] rfl rfl dp (.cons rfl .int .nil) rfl rfl) ?_;obtain⟨VH,U2,h⟩:=aa h;refine fr 5 ?_;refine cz rfl rfl rfl (bp rfl rfl dp (aB U2)) ⟨rfl,rfl,trivial⟩ fun Vh=>?_;refine fl km ?_;refine ov fun o22=>?_;refine fr 1 ?_;refine bf rfl rfl (a8 rfl bC o22 rfl rfl) ⟨rfl,rfl,trivial⟩ ?_;refine au ?_;exact jz (Vh,(J.2.1,J.2.2.1,J.2.2.2,e.2.2.2.1++[e.2.2.2.2])) h [2,4,3,5,0,1]
       ·refine au ?_;exact jz (Q,(J.2.1,J.2.2.1,J.2.2.2,e.2.2.2.1)) h [0,2,1,3,4,5]
      ·refine ab (mq ?_);obtain⟨Vf,UZ,h⟩:=aa h;refine jb (aW rfl UZ) ?_;refine au ?_;exact jz (U,(x.1,x.2.1,x.2.2.1,x.2.2.2,Vf)) h [0,1,2,3,4,5]
     ·refine au ?_;exact jz (Q,(e.1,e.2.1,e.2.2.1,e.2.2.2.1)) h [1,2,0,3,4,5]
    ·refine jx 4 rfl ?_;refine jx 5 rfl ?_;refine dA (kQ (off:=1) [] trivial rfl rfl) ?_;refine jy ?_;refine aI rfl rfl rfl (av rfl bN) ⟨rfl,trivial⟩ ?_;refine di 3 rfl rfl rfl rfl (aj rfl eI jF rfl) ⟨rfl,trivial⟩ ?_;refine di 0 rfl rfl rfl rfl (aj rfl gJ (wy) rfl) ⟨rfl,trivial⟩ ?_;refine aI rfl rfl rfl (be (t:=aH) [(.tmp 43,_)] [(s.1,j.2.2.2)] rfl rfl yj (.cons trivial (.agg (.pair .int .rep)) .nil) rfl rfl) ⟨rfl,trivial⟩ ?_;obtain⟨VG,U1,h⟩:=aa h;refine sP 4 rfl (fun v=>[.sl v 35 aH (y7.2.2.2.1++[(s.1,j.2.2.2)])]) (fun _=>rfl) rfl rfl rfl (bp rfl rfl yj (aB U1)) ⟨rfl,rfl,trivial⟩ ?_;refine aI rfl rfl rfl (aL rfl) ⟨rfl,trivial⟩ ?_;refine aI rfl rfl rfl (av rfl kN) ⟨rfl,trivial⟩ ?_;refine di 0 rfl rfl rfl rfl (aj rfl bY jF rfl) ⟨rfl,trivial⟩ ?_;obtain⟨Ve,UY,h⟩:=aa h;refine aI rfl rfl rfl (aW rfl UY) ⟨rfl,rfl,trivial⟩ ?_;refine aI rfl rfl rfl (av rfl bN) ⟨rfl,trivial⟩ ?_;refine mA 10 [true,true,true,true,true,false,false,false,false,true] [] [0] [.obj M 35 (.agg (.pair (I s.1) (Ri j.2.2.2)))] rfl (by kernel_rfl) (by kernel_rfl) (by kernel_rfl) cE (fun vs hv hB=>?_);obtain⟨w0,VE,rfl,Vq⟩:=an hv;obtain⟨w1,VD,rfl,Vp⟩:=an Vq;obtain⟨w2,VC,rfl,Vo⟩:=an Vp;obtain⟨w3,VB,rfl,Vn⟩:=an Vo;obtain⟨se,VA,rfl,Vm⟩:=an Vn;obtain⟨w5,Vz,rfl,Vl⟩:=an Vm;obtain⟨w6,Vy,rfl,Vk⟩:=an Vl;obtain⟨w7,Vx,rfl,Vj⟩:=an Vk;obtain⟨w8,Vw,rfl,Vi⟩:=an Vj;obtain⟨w9,Vu,rfl,UU⟩:=an Vi;obtain rfl:=kg UU;refine⟨[0,1,2,3,4],[.obj c 66 (.agg (.pair (Ri j.1) (.pair (I j.2.1) (.eq (.int .u64 j.2.2.1))))),.obj b1 27 (.agg (.pair (I 0) (.pair (.eq (.slice none 0 0)) (.eq (.slice none 0 0))))),.obj b3 27 (.agg (.pair (I r2.1) (.pair (.eq z8) (.eq (.slice none 0 0))))),.sl se 35 aH (y7.2.2.2.1++[(s.1,j.2.2.2)])],by kernel_rfl,by decide,?_⟩;refine i7 3 rfl ?_;refine Do fun o27=>?_;refine i7 3 rfl ?_;refine ou rfl rfl (a8 rfl eI o27 rfl rfl) ⟨rfl,rfl,trivial⟩ (by kernel_rfl) ?_;refine Dp (by kernel_rfl) ?_;refine au ?_;exact jz (se,(j.1,j.2.1,j.2.2.1,y7.2.2.2.1++[(s.1,j.2.2.2)],Ve)) h [3,4,1,2]
   ·refine ab (mq ?_);obtain⟨Vd,UX,h⟩:=aa h;refine jb (fS rfl UX) ?_;refine au ?_;exact jz (X,(x9.1,x9.2.1,x9.2.2.1,x9.2.2.2.1,x9.2.2.2.2,Vd)) h [0,1,2,3]
  ·refine au ?_;exact jz (z8,(y7.1,y7.2.1,y7.2.2.1,y7.2.2.2.1,y7.2.2.2.2.1)) h [0,1,2,3]
 ·
  refine aM (Z:=Value) (α:=(List Int)×Int×Int×(List Int)) (fun O u=>[(0,Pt c),(6,Pt b1),(7,Pt b3),(8,I x4.2.2.2.2)]) (fun O u=>[.obj c 66 (.agg (.pair (Ri u.1) (.pair (I u.2.1) (.eq (.int .u64 u.2.2.1))))),.obj b1 27 (.agg (.pair (I 0) (.pair (.eq (.slice none 0 0)) (.eq (.slice none 0 0))))),.obj b3 27 (.agg (.pair (I r2.1) (.pair (.eq z5) (.eq O)))),.sl z5 35 aH x4.2.2.2.1,.sl O 3 (.int .i64) u.2.2.2]) h (fun K h=>?_) (fun O u h=>?_)
  ·refine au ?_;obtain⟨Y,U7,h⟩:=aa h;refine kc (ap [.tmp 51,.const (.int .i64 (1)),.tmp 52] rfl rfl Ox rfl (mn k (x4.1,x4.2.1,x4.2.2.1) c 1 a2 Y U7)) ?_;refine au ?_;refine ai (dA (SE.nil 3 (.int .i64)) ?_);refine aK (fun E l=>[(0,Pt c),(6,Pt b1),(7,Pt b3),(8,I x4.2.2.2.2),(12,I l.2.2.2.2)]) (fun E l=>[.obj c 66 (.agg (.pair (Ri l.1) (.pair (I l.2.1) (.eq (.int .u64 l.2.2.1))))),.obj b1 27 (.agg (.pair (I 0) (.pair (.eq (.slice none 0 0)) (.eq (.slice none 0 0))))),.obj b3 27 (.agg (.pair (I r2.1) (.pair (.eq z5) (.eq E)))),.sl z5 35 aH x4.2.2.2.1,.sl E 3 (.int .i64) l.2.2.2.1]) (eW k x4) k (.slice none 0 0) (Y.2.1,Y.2.2.1,Y.2.2.2,([]:(List Int)),Y.1) (fun _=>rfl) h (SE.fin [1,2,3,4,0] ⟨rfl,rfl,rfl,rfl,rfl,trivial⟩ rfl) (fun n E l h=>?_);unfold eW at h;refine au ?_;refine jb (iD rfl) ?_;refine nt (ci h (fun h=>?_) (fun h=>?_))
   ·refine au ?_;refine ai (bR ?_);refine da (av rfl cI) ?_;refine ea 2 (aj rfl bC jF rfl) ?_;refine dm ?_;refine dm ?_;refine db (DT rfl rfl) ?_;refine dm ?_;obtain⟨qt,UW,h⟩:=aa h;refine db (aW rfl UW) ?_;refine db (DT rfl rfl) ?_;refine dz rfl rfl rfl (be (t:=(.int .i64)) [(.const (.int .i64 (1)),_),(.const (.int .i64 (2)),_),(.const (.int .i64 (3)),_),(.tmp 62,_),(.tmp 65,_)] [1,2,3,kl 9 x4.2.2.2.2,kl 9 qt] rfl rfl dp (.cons rfl .int (.cons rfl .int (.cons rfl .int (.cons rfl .int (.cons rfl .int .nil))))) rfl rfl) ⟨rfl,rfl,rfl,rfl,rfl,trivial⟩ ?_;obtain⟨D,U6,h⟩:=aa h;refine MC 0 rfl rfl rfl rfl (ap [.tmp 60,.tmp 66] rfl rfl QR rfl (pu k (l.1,l.2.1,l.2.2.1) c [1,2,3,kl 9 x4.2.2.2.2,kl 9 qt] D U6)) ⟨rfl,rfl,trivial⟩ ?_;refine da (be (t:=(.int .i64)) [(.tmp 67,_)] [D.1] rfl rfl dp (.cons rfl .int .nil) rfl rfl) ?_;refine ME (Δ':=[.obj b1 27 (.agg (.pair (I 0) (.pair (.eq (.slice none 0 0)) (.eq (.slice none 0 0))))),.obj b3 27 (.agg (.pair (I r2.1) (.pair (.eq z5) (.eq E)))),.sl z5 35 aH x4.2.2.2.1,.sl E 3 (.int .i64) l.2.2.2.1,.obj c 66 (.agg (.pair (Ri D.2.1) (.pair (I D.2.2.1) (.eq (.int .u64 D.2.2.2)))))]) (by kernel_rfl) cE (by kernel_rfl) ?_;obtain⟨VF,U0,h⟩:=aa h;refine fr 3 ?_;refine cz rfl rfl rfl (bp rfl rfl dp (aB U0)) ⟨rfl,rfl,trivial⟩ fun Vg=>?_;refine fl cI ?_;refine ov fun o38=>?_;refine fr 2 ?_;refine bf rfl rfl (a8 rfl bC o38 rfl rfl) ⟨rfl,rfl,trivial⟩ ?_;refine au ?_;refine ab (mq ?_);obtain⟨Vb,UV,h⟩:=aa h;refine jb (fS rfl UV) ?_;refine au ?_;exact jz (Vg,(D.2.1,D.2.2.1,D.2.2.2,l.2.2.2.1++[D.1],Vb)) h [4,2,0,3,1]
   ·refine au ?_;exact jz (E,(l.1,l.2.1,l.2.2.1,l.2.2.2.1)) h [0,1,2,3,4]
  ·refine aM (Z:=Unit) (α:=(List Int)×(List Int)×Int×Int) (fun pp y=>[(6,Pt b1),(7,Pt b3)]) (fun pp y=>[.obj b1 27 (.agg (.pair (I 0) (.pair (.eq (.slice none 0 0)) (.eq (.slice none 0 0))))),.obj b3 27 (.agg (.pair (I r2.1) (.pair (.eq z5) (.eq O)))),.sl z5 35 aH x4.2.2.2.1,.sl O 3 (.int .i64) y.1,.obj c 66 (.agg (.pair (Ri y.2.1) (.pair (I y.2.2.1) (.eq (.int .u64 y.2.2.2)))))]) h (fun K h=>?_) (fun pp y h=>?_)
   ·refine au ?_;obtain⟨F,U4,h⟩:=aa h;refine kb (ap [.tmp 71,.const (.int .i64 (2))] rfl rfl QQ rfl (nC k (u.1,u.2.1,u.2.2.1) c 2 F U4)) ?_;refine nt (cv h (fun h=>?_) (fun h=>?_))
    ·refine ab (fl cI ?_);refine fr 2 ?_;refine lo bC ?_;refine mq ?_;refine jb (DT rfl rfl) ?_;obtain⟨Vv,mc,h⟩:=aa h;refine fr 4 ?_;refine kb (aV (t:=(.int .i64)) rfl dB bY mc) ?_;refine bf rfl rfl (cP (i:=Int.toNat 0) rfl bY rfl (ig mc) rfl .int rfl) ⟨rfl,rfl,trivial⟩ ?_;refine au ?_;exact jz ((),(List.set u.2.2.2 (Int.toNat 0) (kl 9 x4.2.2.2.2),F.2.1,F.2.2.1,F.2.2.2)) h [3,1,4,0,2]
    ·refine au ?_;exact jz ((),(u.2.2.2,F.2.1,F.2.2.1,F.2.2.2)) h [1,2,3,4,0]
   ·refine sr (fr 1 ?_);refine fr 2 ?_;refine ct (kQ (off:=1) [] trivial rfl rfl) ?_;refine fr 2 ?_;refine ct (kQ (off:=2) [] trivial rfl rfl) ?_;refine lo cU ?_;refine fr 1 ?_;refine bf rfl rfl (a8 rfl cU trivial rfl rfl) ⟨rfl,rfl,trivial⟩ ?_;refine nt (bH (bz (oq (a:=.agg (.pair (I r2.1) (.pair (Rs aH x4.2.2.2.1) (Ri y.1)))) (a':=.rep ao (r2.1,x4.2.2.2.1,y.1)) (wx (.agg (.pair .int (.pair .rep .rep))))) ?_));refine bz (SE.fin (Γ':=[(6,_)]) [2,0,1] ⟨rfl,trivial⟩ rfl) ?_;cases h;exact aO () [.rep ao (r2.1,x4.2.2.2.1,y.1)] 1 ⟨⟨_,_,_,_,_,rfl,(.tail _ (.head _)),cU,(wy),rfl⟩,trivial⟩ rfl
def pr(k:Nat)(a0:Int)(a1:Int):Option Int:=
 (dj (a1≠0)).bind fun _=>
 (ck ((Int.tmod a0 a1)+a1)).bind fun x2=>
 (dj (a1≠0)).bind fun _=>
 some (Int.tmod x2 a1)
theorem AK(k:Nat)(a0:Int)(a1:Int)(r:Int)(h:pr k a0 a1=some r):
 bV Tryz.prog 52 [I a0,I a1] [] (fun _:Unit=>(bm [I r],[])):=by
 unfold pr at h
 replace h:=aZ h
 refine bV.of 12 Tryz.func52 rfl Tryz.ntmps52 rfl fun S w0=>?_
 refine au ?_
 obtain⟨u1,j,h⟩:=aa h
 refine jb (Hv rfl (aB j)) ?_
 refine mq ?_
 obtain⟨x2,c,h⟩:=aa h
 refine jb (aW rfl c) ?_
 refine mq ?_
 obtain⟨u3,e,h⟩:=aa h
 refine jb (Hv rfl (aB e)) ?_
 refine au ?_
 cases h
 exact ra
def eA(k:Nat)(a1:Int):Nat→((List Int)×Int×Int×(List Int)×Int)→Option ((List Int)×(List Int)×Int×Int)
 |0,_=>none
 |n+1,y3=>
  if y3.2.2.2.2 < a1 then((dR k (y3.1,y3.2.1,y3.2.2.1) y3.2.2.2.2).bind fun r5=>
  (dj (bq (List.length y3.2.2.2.1+List.length [y3.2.2.2.2]))).bind fun _=>
  (aR (y3.2.2.2.1++[y3.2.2.2.2]) r5.1).bind fun x8=>
  (aR (y3.2.2.2.1++[y3.2.2.2.2]) y3.2.2.2.2).bind fun x9=>
  (aR (List.set (y3.2.2.2.1++[y3.2.2.2.2]) (Int.toNat y3.2.2.2.2) x8) r5.1).bind fun e=>
  (ck (y3.2.2.2.2+1)).bind fun c=>
  eA k a1 n (r5.2.1,r5.2.2.1,r5.2.2.2,List.set (List.set (y3.2.2.2.1++[y3.2.2.2.2]) (Int.toNat y3.2.2.2.2) x8) (Int.toNat r5.1) y3.2.2.2.2,c)) else(some (y3.2.2.2.1,y3.1,y3.2.1,y3.2.2.1))
def gC(k:Nat)(a0:bT)(a1:Int):Option ((List Int)×bT):=
 ((eA k a1 k (a0.1,a0.2.1,a0.2.2,([]:(List Int)),0)):Option ((List Int)×(List Int)×Int×Int)).bind fun x1=>
 some (x1.1,(x1.2.1,x1.2.2.1,x1.2.2.2))
theorem sf(k:Nat)(a0:bT)(c:Nat)(a1:Int)(r:(List Int)×bT)(h:gC k a0 a1=some r):
 bV Tryz.prog 67 [Pt c,I a1] [.obj c 66 (.agg (.pair (Ri a0.1) (.pair (I a0.2.1) (.eq (.int .u64 a0.2.2)))))] (fun _:Unit=>(bm [Ri r.1],[.obj c 66 (.agg (.pair (Ri r.2.1) (.pair (I r.2.2.1) (.eq (.int .u64 r.2.2.2)))))])):=by
 unfold gC at h
 replace h:=aZ h
 refine bV.of 32 Tryz.func67 rfl Tryz.ntmps67 rfl fun S w0=>?_
 refine sr ?_
 refine cq ?_
 refine nt ?_
 refine sr ?_
 refine cq ?_
 refine nt ?_
 refine aM (Z:=Value) (α:=(List Int)×(List Int)×Int×Int) (fun z2 x1=>[(5,.eq z2)]) (fun z2 x1=>[.sl z2 3 (.int .i64) x1.1,.obj c 66 (.agg (.pair (Ri x1.2.1) (.pair (I x1.2.2.1) (.eq (.int .u64 x1.2.2.2)))))]) h (fun K h=>?_) (fun z2 x1 h=>?_)
 ·
  refine au ?_;refine ai (dA (SE.nil 3 (.int .i64)) ?_);refine aK (fun z4 y3=>[(0,Pt c),(1,I a1),(5,.eq z4),(6,I y3.2.2.2.2)]) (fun z4 y3=>[.obj c 66 (.agg (.pair (Ri y3.1) (.pair (I y3.2.1) (.eq (.int .u64 y3.2.2.1))))),.sl z4 3 (.int .i64) y3.2.2.2.1]) (eA k a1) k (.slice none 0 0) (a0.1,a0.2.1,a0.2.2,([]:(List Int)),0) (fun _=>rfl) h (SE.fin [1,0] ⟨rfl,rfl,rfl,rfl,trivial⟩ rfl) (fun n z4 y3 h=>?_);unfold eA at h;refine au ?_;refine jb (bg rfl) ?_;refine nt (ci h (fun h=>?_) (fun h=>?_))
  ·refine au ?_;refine ai (au ?_);obtain⟨r5,y,h⟩:=aa h;refine kb (ap [.tmp 13,.tmp 14] rfl rfl IV rfl (gB k (y3.1,y3.2.1,y3.2.2.1) c y3.2.2.2.2 r5 y)) ?_;refine au ?_;refine ja (be (t:=(.int .i64)) [(.tmp 17,_)] [y3.2.2.2.2] rfl rfl dp (.cons rfl .int .nil) rfl rfl) ?_;obtain⟨u6,x,h⟩:=aa h;refine fr 1 ?_;refine cz rfl rfl rfl (bp rfl rfl dp (aB x)) ⟨rfl,rfl,trivial⟩ fun v7=>?_;refine au ?_;refine ab (au ?_);obtain⟨x8,l,h⟩:=aa h;refine kb (aV (t:=(.int .i64)) rfl dB bY l) ?_;refine ka (dM (i:=Int.toNat r5.1) (off:=0) rfl bY (fun _=>rfl) rfl (co l).2.2 rfl) ?_;refine mq ?_;obtain⟨x9,j,h⟩:=aa h;refine kb (aV (t:=(.int .i64)) rfl dB bY j) ?_;refine bf rfl rfl (cP (i:=Int.toNat y3.2.2.2.2) rfl bY rfl (ig j) rfl .int rfl) ⟨rfl,rfl,trivial⟩ ?_;obtain⟨D,e,h⟩:=aa h;refine kb (aV (t:=(.int .i64)) rfl dB bY e) ?_;refine bf rfl rfl (cP (i:=Int.toNat r5.1) rfl bY rfl (ig e) rfl .int rfl) ⟨rfl,rfl,trivial⟩ ?_;refine au ?_;refine ab (mq ?_);obtain⟨u,s,h⟩:=aa h;refine jb (aW rfl s) ?_;refine au ?_;exact jz (v7,(r5.2.1,r5.2.2.1,r5.2.2.2,List.set (List.set (y3.2.2.2.1++[y3.2.2.2.2]) (Int.toNat y3.2.2.2.2) x8) (Int.toNat r5.1) y3.2.2.2.2,u)) h [1,0]
  ·refine au ?_;exact jz (z4,(y3.2.2.2.1,y3.1,y3.2.1,y3.2.2.1)) h [1,0]
 ·
  refine sr (mq ?_);refine aq (nt (bH ?_));refine bz (d5 [4,5,31] ⟨rfl,rfl,rfl,trivial⟩) ?_;cases h;exact aO () [_] 1 ⟨rfl,trivial⟩ rfl
def du(k:Nat)(a1:aQ)(r7:(List Int)×bT)(c:(List Int)×Int×Int×(List Int)×Int×(List (List Int)))(e:Int×bT):Nat→(Int×(List (List Int)))→Option ((List Int)×Int×Int×(List Int)×(List (List Int)))
 |0,_=>none
 |n+1,h=>
  if h.1 < (c.2.2.2.1.length:Int) then((ck (e.1+h.1)).bind fun O=>
  (pr k O (c.2.2.2.1.length:Int)).bind fun j=>
  (((aR c.2.2.2.1 j).bind fun M=>
  (aR r7.1 c.2.2.2.2.1).bind fun J=>
  (aR a1.2.1 J).bind fun I=>
  if I.1≤M then(some (true,h.2)) else((ck ((c.2.2.2.1.length:Int) - 1)).bind fun F=>
  some (decide (h.1=F),h.2))):Option (Bool×(List (List Int)))).bind fun l=>
  if l.1=true then((aR l.2 j).bind fun s=>
  (aR r7.1 c.2.2.2.2.1).bind fun r=>
  (dj (bq (List.length s+List.length [r]))).bind fun _=>
  (aR c.2.2.2.1 j).bind fun E=>
  (aR r7.1 c.2.2.2.2.1).bind fun D=>
  (aR a1.2.1 D).bind fun y=>
  (ck (E - y.1)).bind fun x=>
  (aR c.2.2.2.1 j).bind fun Q=>
  some (e.2.1,e.2.2.1,e.2.2.2,List.set c.2.2.2.1 (Int.toNat j) x,List.set l.2 (Int.toNat j) (s++[r]))) else((ck (h.1+1)).bind fun u=>
  du k a1 r7 c e n (u,l.2))) else(some (e.2.1,e.2.2.1,e.2.2.2,c.2.2.2.1,h.2))
def fj(k:Nat)(a1:aQ)(r7:(List Int)×bT):Nat→((List Int)×Int×Int×(List Int)×Int×(List (List Int)))→Option ((List Int)×Int×Int×(List (List Int)))
 |0,_=>none
 |n+1,c=>
  if c.2.2.2.2.1 < (r7.1.length:Int) then((((ck ((c.2.2.2.1.length:Int) - 1)).bind fun j=>
  (dR k (c.1,c.2.1,c.2.2.1) j).bind fun l=>
  du k a1 r7 c l k (0,c.2.2.2.2.2)):Option ((List Int)×Int×Int×(List Int)×(List (List Int)))).bind fun e=>
  (ck (c.2.2.2.2.1+1)).bind fun h=>
  fj k a1 r7 n (e.1,e.2.1,e.2.2.1,e.2.2.2.1,h,e.2.2.2.2)) else(some (c.1,c.2.1,c.2.2.1,c.2.2.2.2.2))
def eZ(k:Nat)(a0:bT)(a1:aQ):Option ((List (List Int))×bT):=
 (dj (0≤(a1.2.2.length:Int)∧bq (Int.toNat (a1.2.2.length:Int)))).bind fun _=>
 (dj (bq (List.length ([]:(List Int))+List.length a1.2.2))).bind fun _=>
 (gC k (a0.1,a0.2.1,a0.2.2) (a1.2.1.length:Int)).bind fun r7=>
 ((fj k a1 r7 k (r7.2.1,r7.2.2.1,r7.2.2.2,([]:(List Int))++a1.2.2,0,List.replicate (Int.toNat (a1.2.2.length:Int)) ([]:(List Int)))):Option ((List Int)×Int×Int×(List (List Int)))).bind fun x8=>
 some (x8.2.2.2,(x8.1,x8.2.1,x8.2.2.1))
theorem nB(k:Nat)(a0:bT)(e:Nat)(a1:aQ)(r:(List (List Int))×bT)(h:eZ k a0 a1=some r):
 bV Tryz.prog 32 [Pt e,.rep ao a1] [.obj e 66 (.agg (.pair (Ri a0.1) (.pair (I a0.2.1) (.eq (.int .u64 a0.2.2)))))] (fun _:Unit=>(bm [.rep (.slice (.slice (.int .i64))) r.1],[.obj e 66 (.agg (.pair (Ri r.2.1) (.pair (I r.2.2.1) (.eq (.int .u64 r.2.2.2)))))])):=by
 unfold eZ at h
 replace h:=aZ h
 refine bV.of 100 Tryz.func32 rfl Tryz.ntmps32 rfl fun S w0=>?_
 refine sr ?_
 refine bx fun b1=>?_
 refine au ?_
 refine fl cI ?_
 refine lo bC ?_
 refine ol dB ?_
 obtain⟨u2,Vr,h⟩:=aa h
 refine aE rfl rfl rfl (CG (t:=.val) (d:=.slice none 0 0) rfl nW Pe (aB Vr).1 (aB Vr).2) ⟨rfl,rfl,trivial⟩ fun v3=>?_
 refine ct (Bd (F:=[.obj b1 27 (.rep ao a1),.obj e 66 (.agg (.pair (Ri a0.1) (.pair (I a0.2.1) (.eq (.int .u64 a0.2.2)))))])) ?_
 refine au ?_
 refine aE rfl rfl rfl (mh (t:=(.int .i64)) [] ([]:(List Int)) rfl rfl dp .nil rfl rfl) trivial fun v4=>?_
 refine fl cI ?_
 refine fr 1 ?_
 refine lo bC ?_
 obtain⟨u5,VI,h⟩:=aa h
 refine fr 1 ?_
 refine cz rfl rfl rfl (bp rfl rfl dp (aB VI)) ⟨rfl,rfl,trivial⟩ fun v6=>?_
 refine au ?_
 refine fl bN ?_
 refine fr 1 ?_
 refine lo eI ?_
 refine ol mC ?_
 obtain⟨r7,VJ,h⟩:=aa h
 have VK:=sf k (a0.1,a0.2.1,a0.2.2) e (a1.2.1.length:Int) r7 VJ
 refine fr 2 ?_
 refine kb (ap [.tmp 20,.tmp 23] rfl rfl TO rfl VK) ?_
 refine aq ?_
 refine nt ?_
 refine aM (Z:=(Value×(Nat→Value))) (α:=(List Int)×Int×Int×(List (List Int))) (fun z9 x8=>[(5,.eq z9.1)]) (fun z9 x8=>[.obj e 66 (.agg (.pair (Ri x8.1) (.pair (I x8.2.1) (.eq (.int .u64 x8.2.2.1)))))]++fC 22 z9 x8.2.2.2) h (fun K h=>?_) (fun z9 x8 h=>?_)
 ·
  refine au ?_;refine ai (aK (Z:=(Value×(Nat→Value))) (α:=(List Int)×Int×Int×(List Int)×Int×(List (List Int))) (fun Q j=>[(0,Pt e),(3,Pt b1),(5,.eq Q.1),(6,.eq v6),(7,Ri r7.1),(8,I j.2.2.2.2.1)]) (fun Q j=>[.obj e 66 (.agg (.pair (Ri j.1) (.pair (I j.2.1) (.eq (.int .u64 j.2.2.1))))),.obj b1 27 (.rep ao a1),.sl v6 3 (.int .i64) j.2.2.2.1]++fC 22 Q j.2.2.2.2.2) (fj k a1 r7) k (v3,fun _=>.slice none 0 0) (r7.2.1,r7.2.2.1,r7.2.2.2,([]:(List Int))++a1.2.2,0,List.replicate (Int.toNat (a1.2.2.length:Int)) ([]:(List Int))) (fun _=>rfl) h (bi [.obj e 66 (.agg (.pair (Ri r7.2.1) (.pair (I r7.2.2.1) (.eq (.int .u64 r7.2.2.2))))),.obj b1 27 (.rep ao a1),.sl v6 3 (.int .i64) (([]:(List Int))++a1.2.2)] (fC 22 (v3,fun _=>.slice none 0 0) (List.replicate (Int.toNat (a1.2.2.length:Int)) ([]:(List Int)))) [0,1,2] ⟨rfl,rfl,rfl,rfl,rfl,rfl,trivial⟩ rfl) (fun n Q j h=>?_));unfold fj at h;refine au ?_;refine ol dB ?_;refine jb (bg rfl) ?_;refine nt (ci h (fun h=>?_) (fun h=>?_))
  ·refine sk (aM (Z:=(Value×(Nat→Value))) (α:=(List Int)×Int×Int×(List Int)×(List (List Int))) (fun X u=>[(0,Pt e),(3,Pt b1),(5,.eq X.1),(6,.eq v6),(7,Ri r7.1),(8,I j.2.2.2.2.1)]) (fun X u=>[.obj e 66 (.agg (.pair (Ri u.1) (.pair (I u.2.1) (.eq (.int .u64 u.2.2.1))))),.obj b1 27 (.rep ao a1),.sl v6 3 (.int .i64) u.2.2.2.1]++fC 22 X u.2.2.2.2) h (fun K h=>?_) (fun X u h=>?_))
   ·refine ai (sr ?_);iterate 2 refine mq ?_
    refine fr 2 ?_;refine ka (cZ rfl rfl dB) ?_;obtain⟨Vy,Vp,h⟩:=aa h;refine jb (fS rfl Vp) ?_;obtain⟨c,Vt,h⟩:=aa h;refine fr 1 ?_;refine kb (ap [.tmp 31,.tmp 34] rfl rfl IV rfl (gB k (j.1,j.2.1,j.2.2.1) e Vy c Vt)) ?_;refine au ?_;refine ai (aK (Z:=(Value×(Nat→Value))) (α:=Int×(List (List Int))) (fun E y=>[(0,Pt e),(3,Pt b1),(5,.eq E.1),(6,.eq v6),(7,Ri r7.1),(8,I j.2.2.2.2.1),(9,I c.1),(10,I y.1)]) (fun E y=>[.obj e 66 (.agg (.pair (Ri c.2.1) (.pair (I c.2.2.1) (.eq (.int .u64 c.2.2.2))))),.obj b1 27 (.rep ao a1),.sl v6 3 (.int .i64) j.2.2.2.1]++fC 22 E y.2) (du k a1 r7 j c) k Q (0,j.2.2.2.2.2) (fun _=>rfl) h (bi [.obj e 66 (.agg (.pair (Ri c.2.1) (.pair (I c.2.2.1) (.eq (.int .u64 c.2.2.2))))),.sl v6 3 (.int .i64) j.2.2.2.1,.obj b1 27 (.rep ao a1)] (fC 22 Q j.2.2.2.2.2) [0,2,1] ⟨rfl,rfl,rfl,rfl,rfl,rfl,rfl,rfl,trivial⟩ rfl) (fun n E y h=>?_));unfold du at h;refine ar (sr ?_);iterate 2 refine mq ?_
    refine fr 2 ?_;refine ka (cZ rfl rfl dB) ?_;refine jb (bg rfl) ?_;refine nt (ci h (fun h=>?_) (fun h=>?_))
    ·refine au ?_;refine ai (au ?_);obtain⟨Vx,Vo,h⟩:=aa h;refine jb (aW rfl Vo) ?_;refine mq ?_;refine ka (cZ rfl rfl dB) ?_;obtain⟨s,Vs,h⟩:=aa h;refine jb (ap [.tmp 44,.tmp 46] rfl rfl TZ rfl (AK k Vx (j.2.2.2.1.length:Int) s Vs)) ?_;refine aq (nt ?_);refine aM (Z:=(Value×(Nat→Value))) (α:=Bool×(List (List Int))) (fun l x=>[(0,Pt e),(3,Pt b1),(5,.eq l.1),(6,.eq v6),(7,Ri r7.1),(8,I j.2.2.2.2.1),(9,I c.1),(10,I y.1),(11,I s),(68,.eq (.bool x.1))]) (fun l x=>[.obj e 66 (.agg (.pair (Ri c.2.1) (.pair (I c.2.2.1) (.eq (.int .u64 c.2.2.2))))),.obj b1 27 (.rep ao a1),.sl v6 3 (.int .i64) j.2.2.2.1]++fC 22 l x.2) h (fun K h=>?_) (fun l x h=>?_)
     ·refine bR ?_;refine dm ?_;refine dm ?_;obtain⟨We,mc,h⟩:=aa h;refine eb 0 (aV (t:=(.int .i64)) rfl dB bY mc) ?_;refine ea 0 (dM (i:=Int.toNat s) (off:=0) rfl bY (fun _=>rfl) rfl (co mc).2.2 rfl) ?_;refine da (av rfl bN) ?_;refine ea 2 (aj rfl eI jF rfl) ?_;refine dm ?_;refine dm ?_;obtain⟨Wc,Vn,h⟩:=aa h;refine db (aD (t:=(.int .i64)) rfl dB bY Vn) ?_;refine da (ak (t:=(.int .i64)) rfl bY rfl) ?_;obtain⟨Wb,Vm,h⟩:=aa h;refine db (aD (t:=aH) rfl mC gJ Vm) ?_;refine da (aJ 1 false rfl kN rfl) ?_;refine da (ak (t:=(.int .i64)) rfl bY rfl) ?_;refine db (qC rfl) ?_;refine kW rfl rfl rfl (aL rfl) ⟨rfl,trivial⟩ (fun hb=>?_) (fun hb=>?_)
      ·replace h:=cG (oK hb) h;iterate 4 refine dg ?_
       refine df cE ?_;refine au ?_;exact jf (E,(true,y.2)) h (bi [.sl v6 3 (.int .i64) j.2.2.2.1,.obj e 66 (.agg (.pair (Ri c.2.1) (.pair (I c.2.2.1) (.eq (.int .u64 c.2.2.2))))),.obj b1 27 (.rep ao a1)] (fC 22 E y.2) [1,2,0] ⟨rfl,rfl,rfl,rfl,rfl,rfl,rfl,rfl,rfl,rfl,trivial⟩ rfl)
      ·replace h:=bO (nL hb) h;refine aU rfl rfl rfl rfl rfl (aL rfl) ⟨rfl,rfl,trivial⟩ ?_;refine aU rfl rfl rfl rfl rfl (aL rfl) ⟨rfl,rfl,trivial⟩ ?_;refine ky 0 rfl rfl rfl rfl rfl rfl (cZ rfl rfl dB) ⟨rfl,rfl,trivial⟩ ?_;obtain⟨Vw,Vl,h⟩:=aa h;refine aU rfl rfl rfl rfl rfl (fS rfl Vl) ⟨rfl,rfl,rfl,trivial⟩ ?_;refine df cE ?_;refine gb (fq rfl) ?_;refine au ?_;exact jf (E,(decide (y.1=Vw),y.2)) h (bi [.sl v6 3 (.int .i64) j.2.2.2.1,.obj e 66 (.agg (.pair (Ri c.2.1) (.pair (I c.2.2.1) (.eq (.int .u64 c.2.2.2))))),.obj b1 27 (.rep ao a1)] (fC 22 E y.2) [1,2,0] ⟨rfl,rfl,rfl,rfl,rfl,rfl,rfl,rfl,rfl,rfl,trivial⟩ rfl)
     ·refine cv h (fun h=>?_) (fun h=>?_)
      ·refine ar ?_;obtain⟨O,J,h⟩:=aa h;refine dA (t4 (pre:=[.obj e 66 (.agg (.pair (Ri c.2.1) (.pair (I c.2.2.1) (.eq (.int .u64 c.2.2.2))))),.obj b1 27 (.rep ao a1),.sl v6 3 (.int .i64) j.2.2.2.1]) (qe J).2) ?_;obtain⟨M,Vk,h⟩:=aa h;obtain⟨WP,Vq,h⟩:=aa h;obtain⟨Wa,ac,h⟩:=aa h;obtain⟨V9,Vj,h⟩:=aa h;obtain⟨V8,Vi,h⟩:=aa h;obtain⟨U,Vh,h⟩:=aa h;obtain⟨V7,Y,h⟩:=aa h;refine sO (Δ:=[.sl (l.2 (Int.toNat s)) 3 (.int .i64) O,.sl l.1 22 .val (ek l.2 0 x.2),.obj e 66 (.agg (.pair (Ri c.2.1) (.pair (I c.2.2.1) (.eq (.int .u64 c.2.2.2))))),.obj b1 27 (.rep ao a1),.sl v6 3 (.int .i64) j.2.2.2.1]) (F:=(kV l.2 0 x.2).eraseIdx (Int.toNat s)) (Z:=Value) (fun i=>[(0,Pt e),(3,Pt b1),(5,.eq l.1),(6,.eq v6),(7,Ri r7.1),(8,I j.2.2.2.2.1)]) (fun i=>[.sl v6 3 (.int .i64) (List.set j.2.2.2.1 (Int.toNat s) U),.sl l.1 22 .val (List.set (ek l.2 0 x.2) (Int.toNat s) i),.sl i 3 (.int .i64) (O++[M]),.obj e 66 (.agg (.pair (Ri c.2.1) (.pair (I c.2.2.1) (.eq (.int .u64 c.2.2.2))))),.obj b1 27 (.rep ao a1)]) (fun S w=>?_) (fun D=>?_)
       ·refine jy ?_;refine aI rfl rfl rfl (aL rfl) ⟨rfl,trivial⟩ ?_;refine aI rfl rfl rfl (aL rfl) ⟨rfl,trivial⟩ ?_;refine aI rfl rfl rfl (aL rfl) ⟨rfl,trivial⟩ ?_;refine aI rfl rfl rfl (aL rfl) ⟨rfl,trivial⟩ ?_;refine aI rfl rfl rfl (aL rfl) ⟨rfl,trivial⟩ ?_;refine aI rfl rfl rfl (aL rfl) ⟨rfl,trivial⟩ ?_;refine di 1 rfl rfl rfl rfl (aV (t:=.val) rfl lJ bC (kS J)) ⟨rfl,rfl,trivial⟩ ?_;refine di 1 rfl rfl rfl rfl (dM (i:=Int.toNat s) (off:=0) rfl bC (fun _=>rfl) rfl (co (kS J)).2.2 rfl) ⟨rfl,trivial⟩ ?_;refine aI rfl rfl rfl (aL rfl) ⟨rfl,trivial⟩ ?_;refine aI rfl rfl rfl (aL rfl) ⟨rfl,trivial⟩ ?_;refine aI rfl rfl rfl (aD (t:=(.int .i64)) rfl dB bY Vk) ⟨rfl,rfl,trivial⟩ ?_;refine aI rfl rfl rfl (ak (t:=(.int .i64)) rfl bY rfl) ⟨rfl,trivial⟩ ?_;refine aI rfl rfl rfl (be (t:=(.int .i64)) [(.tmp 80,_)] [M] rfl rfl dp (.cons rfl .int .nil) rfl rfl) ⟨rfl,trivial⟩ ?_;refine sP 0 rfl (fun v=>[.sl v 3 (.int .i64) (O++[M])]) (fun _=>rfl) rfl rfl rfl (bp rfl rfl dp (aB Vq)) ⟨rfl,rfl,trivial⟩ ?_;refine aI rfl rfl rfl (aL rfl) ⟨rfl,trivial⟩ ?_;refine aI rfl rfl rfl (aL rfl) ⟨rfl,trivial⟩ ?_;refine di 4 rfl rfl rfl rfl (aV (t:=(.int .i64)) rfl dB bY ac) ⟨rfl,rfl,trivial⟩ ?_;refine di 4 rfl rfl rfl rfl (dM (i:=Int.toNat s) (off:=0) rfl bY (fun _=>rfl) rfl (co ac).2.2 rfl) ⟨rfl,trivial⟩ ?_;refine aI rfl rfl rfl (av rfl bN) ⟨rfl,trivial⟩ ?_;refine di 3 rfl rfl rfl rfl (aj rfl eI jF rfl) ⟨rfl,trivial⟩ ?_;refine aI rfl rfl rfl (aL rfl) ⟨rfl,trivial⟩ ?_;refine aI rfl rfl rfl (aL rfl) ⟨rfl,trivial⟩ ?_;refine aI rfl rfl rfl (aD (t:=(.int .i64)) rfl dB bY Vj) ⟨rfl,rfl,trivial⟩ ?_;refine aI rfl rfl rfl (ak (t:=(.int .i64)) rfl bY rfl) ⟨rfl,trivial⟩ ?_;refine aI rfl rfl rfl (aD (t:=aH) rfl mC gJ Vi) ⟨rfl,rfl,trivial⟩ ?_;refine aI rfl rfl rfl (aJ 1 false rfl kN rfl) ⟨rfl,trivial⟩ ?_;refine aI rfl rfl rfl (ak (t:=(.int .i64)) rfl bY rfl) ⟨rfl,trivial⟩ ?_;refine aI rfl rfl rfl (fS rfl Vh) ⟨rfl,rfl,trivial⟩ ?_;refine di 1 rfl rfl rfl rfl (aV (t:=.val) rfl lJ bC (kS J)) ⟨rfl,rfl,trivial⟩ ?_;refine mA 29 [true,true,false,false,true,true,true,true,true,true,true,true,true,true,true,true,true,true,true,true,true,true,true,true,true,true,true,false,true] [98] [] [] rfl (by kernel_rfl) (by kernel_rfl) (by kernel_rfl) cE (fun vs hv hB=>?_);obtain⟨w0,WO,rfl,VH⟩:=an hv;obtain⟨w1,WN,rfl,VG⟩:=an VH;obtain⟨w2,WM,rfl,VF⟩:=an VG;obtain⟨w3,WL,rfl,VE⟩:=an VF;obtain⟨w4,WJ,rfl,VD⟩:=an VE;obtain⟨w5,WI,rfl,VC⟩:=an VD;obtain⟨w6,WH,rfl,VB⟩:=an VC;obtain⟨w7,WG,rfl,VA⟩:=an VB;obtain⟨w8,WE,rfl,Vz⟩:=an VA;obtain⟨w9,V6,rfl,Ve⟩:=an Vz;obtain⟨WC,V5,rfl,Vd⟩:=an Ve;obtain⟨WB,V4,rfl,Vb⟩:=an Vd;obtain⟨WA,V3,rfl,Va⟩:=an Vb;obtain⟨D,V2,rfl,U8⟩:=an Va;obtain⟨Wz,V1,rfl,U7⟩:=an U8;obtain⟨Wy,V0,rfl,U6⟩:=an U7;obtain⟨Wx,VZ,rfl,U4⟩:=an U6;obtain⟨Wv,VY,rfl,U2⟩:=an U4;obtain⟨Wu,VX,rfl,U1⟩:=an U2;obtain⟨Wt,VV,rfl,U0⟩:=an U1;obtain⟨Ws,VU,rfl,UZ⟩:=an U0;obtain⟨Wq,VT,rfl,UY⟩:=an UZ;obtain⟨Wp,VS,rfl,UX⟩:=an UY;obtain⟨Wn,VQ,rfl,UW⟩:=an UX;obtain⟨Wm,VP,rfl,UV⟩:=an UW;obtain⟨Wj,VO,rfl,UU⟩:=an UV;obtain⟨Wi,VN,rfl,se⟩:=an UU
        obtain⟨Wh,VM,rfl,qt⟩:=an se;obtain⟨Wg,VL,rfl,pp⟩:=an qt;obtain rfl:=kg pp;refine⟨[0,1,2,3,4],[.sl l.1 22 .val (ek l.2 0 x.2),.obj e 66 (.agg (.pair (Ri c.2.1) (.pair (I c.2.2.1) (.eq (.int .u64 c.2.2.2))))),.obj b1 27 (.rep ao a1),.sl v6 3 (.int .i64) j.2.2.2.1,.sl D 3 (.int .i64) (O++[M])],by kernel_rfl,by decide,?_⟩;refine i7 4 rfl ?_;refine Do fun o34=>?_;refine i7 1 rfl ?_;refine ou rfl rfl (cP (i:=Int.toNat s) rfl bC rfl (ig (kS J)) rfl (.val o34) o34) ⟨rfl,rfl,trivial⟩ (by kernel_rfl) ?_;refine i7 4 rfl ?_;refine wo rfl rfl rfl rfl (aV (t:=(.int .i64)) rfl dB bY Y) ⟨rfl,rfl,trivial⟩ (by kernel_rfl) ?_;refine ou rfl rfl (cP (i:=Int.toNat s) rfl bY rfl (ig Y) rfl .int rfl) ⟨rfl,rfl,trivial⟩ (by kernel_rfl) ?_;refine pL ?_;refine bz (SE.fin (Γ':=[(0,Pt e),(3,Pt b1),(5,.eq l.1),(6,.eq v6),(7,Ri r7.1),(8,I j.2.2.2.2.1)]) (Δ':=[.sl v6 3 (.int .i64) (List.set j.2.2.2.1 (Int.toNat s) U),.sl l.1 22 .val (List.set (ek l.2 0 x.2) (Int.toNat s) D),.sl D 3 (.int .i64) (O++[M]),.obj e 66 (.agg (.pair (Ri c.2.1) (.pair (I c.2.2.1) (.eq (.int .u64 c.2.2.2))))),.obj b1 27 (.rep ao a1)]) [0,1,2,3,4] ⟨rfl,rfl,rfl,rfl,rfl,rfl,trivial⟩ rfl) ?_;exact fun a w st=>⟨rfl,(D),(SE.fin (Γ':=[(0,Pt e),(3,Pt b1),(5,.eq l.1),(6,.eq v6),(7,Ri r7.1),(8,I j.2.2.2.2.1)]) (Δ':=[.sl v6 3 (.int .i64) (List.set j.2.2.2.1 (Int.toNat s) U),.sl l.1 22 .val (List.set (ek l.2 0 x.2) (Int.toNat s) D),.sl D 3 (.int .i64) (O++[M]),.obj e 66 (.agg (.pair (Ri c.2.1) (.pair (I c.2.2.1) (.eq (.int .u64 c.2.2.2))))),.obj b1 27 (.rep ao a1)]) [0,1,2,3,4] ⟨rfl,rfl,rfl,rfl,rfl,rfl,trivial⟩ rfl) a w st⟩
       ·show JN _ _ [(0,Pt e),(3,Pt b1),(5,.eq l.1),(6,.eq v6),(7,Ri r7.1),(8,I j.2.2.2.2.1)] ([.sl v6 3 (.int .i64) (List.set j.2.2.2.1 (Int.toNat s) U),.sl l.1 22 .val (List.set (ek l.2 0 x.2) (Int.toNat s) D),.sl D 3 (.int .i64) (O++[M]),.obj e 66 (.agg (.pair (Ri c.2.1) (.pair (I c.2.2.1) (.eq (.int .u64 c.2.2.2))))),.obj b1 27 (.rep ao a1)]++(kV l.2 0 x.2).eraseIdx (Int.toNat s));refine dh 1 rfl ?_;refine dh 2 rfl ?_;refine bz (wj (pre:=[.sl v6 3 (.int .i64) (List.set j.2.2.2.1 (Int.toNat s) U),.obj e 66 (.agg (.pair (Ri c.2.1) (.pair (I c.2.2.1) (.eq (.int .u64 c.2.2.2))))),.obj b1 27 (.rep ao a1)]) (z:=l) (i:=Int.toNat s) (qe J).2) ?_;refine au ?_;refine Bl (eq_false (by decide)) ?_;refine au ?_;exact jf ((l.1,nk l.2 (Int.toNat s) D),(c.2.1,c.2.2.1,c.2.2.2,List.set j.2.2.2.1 (Int.toNat s) U,List.set x.2 (Int.toNat s) (O++[M]))) h (bi [.sl v6 3 (.int .i64) (List.set j.2.2.2.1 (Int.toNat s) U),.obj e 66 (.agg (.pair (Ri c.2.1) (.pair (I c.2.2.1) (.eq (.int .u64 c.2.2.2))))),.obj b1 27 (.rep ao a1)] (fC 22 (l.1,nk l.2 (Int.toNat s) D) (List.set x.2 (Int.toNat s) (O++[M]))) [1,2,0] ⟨rfl,rfl,rfl,rfl,rfl,rfl,trivial⟩ rfl)
      ·refine au ?_;refine ab (mq ?_);obtain⟨Vv,Vg,h⟩:=aa h;refine jb (aW rfl Vg) ?_;refine au ?_;exact jf (l,(Vv,x.2)) h (bi [.obj e 66 (.agg (.pair (Ri c.2.1) (.pair (I c.2.2.1) (.eq (.int .u64 c.2.2.2))))),.obj b1 27 (.rep ao a1),.sl v6 3 (.int .i64) j.2.2.2.1] (fC 22 l x.2) [0,1,2] ⟨rfl,rfl,rfl,rfl,rfl,rfl,rfl,rfl,trivial⟩ rfl)
    ·refine au ?_;exact jf (E,(c.2.1,c.2.2.1,c.2.2.2,j.2.2.2.1,y.2)) h (bi [.sl v6 3 (.int .i64) j.2.2.2.1,.obj e 66 (.agg (.pair (Ri c.2.1) (.pair (I c.2.2.1) (.eq (.int .u64 c.2.2.2))))),.obj b1 27 (.rep ao a1)] (fC 22 E y.2) [1,2,0] ⟨rfl,rfl,rfl,rfl,rfl,rfl,trivial⟩ rfl)
   ·refine ab (mq ?_);obtain⟨Vu,Vf,h⟩:=aa h;refine jb (aW rfl Vf) ?_;refine au ?_;exact jf (X,(u.1,u.2.1,u.2.2.1,u.2.2.2.1,Vu,u.2.2.2.2)) h (bi [.obj e 66 (.agg (.pair (Ri u.1) (.pair (I u.2.1) (.eq (.int .u64 u.2.2.1))))),.obj b1 27 (.rep ao a1),.sl v6 3 (.int .i64) u.2.2.2.1] (fC 22 X u.2.2.2.2) [0,1,2] ⟨rfl,rfl,rfl,rfl,rfl,rfl,trivial⟩ rfl)
  ·refine au ?_;exact jf (Q,(j.1,j.2.1,j.2.2.1,j.2.2.2.2.2)) h (bi [.obj e 66 (.agg (.pair (Ri j.1) (.pair (I j.2.1) (.eq (.int .u64 j.2.2.1))))),.obj b1 27 (.rep ao a1),.sl v6 3 (.int .i64) j.2.2.2.1] (fC 22 Q j.2.2.2.2.2) [0] ⟨rfl,trivial⟩ rfl)
 ·
  refine sr (mq ?_);refine aq (nt (bH ?_));refine bz (Be (pre:=[.obj e 66 (.agg (.pair (Ri x8.1) (.pair (I x8.2.1) (.eq (.int .u64 x8.2.2.1)))))])) ?_;refine bz (d5 [4,5,99] ⟨rfl,rfl,rfl,trivial⟩) ?_;cases h;exact aO () [_] 1 ⟨rfl,trivial⟩ rfl
def ic(k:Nat)(a0:Int)(a1:Int)(a2:Int):Option Bool:=
 ((if a1≤a0 then(some (decide (a0≤a2))) else(some false)):Option (Bool)).bind fun x1=>
 some x1
theorem jq(k:Nat)(a0:Int)(a1:Int)(a2:Int)(r:Bool)(h:ic k a0 a1 a2=some r):
 bV Tryz.prog 87 [I a0,I a1,I a2] [] (fun _:Unit=>(bm [.eq (.bool r)],[])):=by
 unfold ic at h
 replace h:=aZ h
 refine bV.of 15 Tryz.func87 rfl Tryz.ntmps87 rfl fun S w0=>?_
 refine sr ?_
 refine cq ?_
 refine nt ?_
 refine aM (Z:=Unit) (α:=Bool) (fun z2 x1=>[(6,.eq (.bool x1))]) (fun z2 x1=>[]) h (fun K h=>?_) (fun z2 x1 h=>?_)
 ·
  refine ab (au ?_);refine jb (qC rfl) ?_;refine mq ?_;refine cd (s:=10) rfl (fun hb=>?_) (fun hb=>?_)
  ·replace h:=cG (oK hb) h;refine au ?_;refine gb (vC rfl) ?_;refine au ?_;exact jz ((),decide (a0≤a2)) h []
  ·replace h:=bO (nL hb) h;refine au ?_;exact jz ((),false) h []
 ·
  refine bH ?_;cases h;exact ra
def fQ(k:Nat)(a0:aQ)(e:eC):Nat→Int→Option (Except Int Unit)
 |0,_=>none
 |n+1,c=>
  if c < (e.2.length:Int) then((aR e.2 c).bind fun x=>
  (ck (a0.1 - 1)).bind fun u=>
  (ic k x 0 u).bind fun y=>
  if¬(y=true) then(some (.error 1)) else(((if 0 < c then((aR e.2 c).bind fun r=>
  (ck (c - 1)).bind fun l=>
  (aR e.2 l).bind fun j=>
  some (decide (r≤j))) else(some false)):Option (Bool)).bind fun s=>
  if s=true then(some (.error 5)) else((ck (c+1)).bind fun h=>
  fQ k a0 e n h))) else(some (.ok ()))
def fR(k:Nat)(a0:aQ):Nat→Int→Option (Except Int Unit)
 |0,_=>none
 |n+1,y5=>
  if y5 < (a0.2.1.length:Int) then(bE (α:=Unit) ((aR a0.2.1 y5).bind fun x9=>
  (ic k x9.1 1 3).bind fun j=>
  if¬(j=true) then(some (.error 1)) else((aR a0.2.1 y5).bind fun h=>
  fQ k a0 h k 0)) (fun e=>some (.error e)) fun _=>
  (ck (y5+1)).bind fun c=>
  fR k a0 n c) else(some (.ok ()))
def fP(k:Nat)(a0:aQ):Nat→Int→Option (Except Int Unit)
 |0,_=>none
 |n+1,c=>
  if c < (a0.2.2.length:Int) then((aR a0.2.2 c).bind fun h=>
  (ic k h 0 9).bind fun j=>
  if¬(j=true) then(some (.error 1)) else((ck (c+1)).bind fun e=>
  fP k a0 n e)) else(some (.ok ()))
def np(k:Nat)(a0:aQ):Option Int:=
 (ic k a0.1 1 6).bind fun r2=>
 if¬(r2=true) then(some 1) else(if 5 < (a0.2.1.length:Int) then(some 6) else(bE (α:=Unit) (fR k a0 k 0) (some) fun _=>
 if(a0.2.2.length:Int)=0 then(some 7) else(if 3 < (a0.2.2.length:Int) then(some 6) else(bE (α:=Unit) (fP k a0 k 0) (some) fun _=>
 some 0))))
theorem yp(k:Nat)(a0:aQ)(r:Int)(h:np k a0=some r):
 bV Tryz.prog 54 [.rep ao a0] [] (fun _:Unit=>(bm [I r],[])):=by
 unfold np at h
 replace h:=aZ h
 refine bV.of 87 Tryz.func54 rfl Tryz.ntmps54 rfl fun S w0=>?_
 refine sr ?_
 refine bx fun b1=>?_
 refine au ?_
 refine fl f9 ?_
 refine lo bY ?_
 obtain⟨r2,U8,h⟩:=aa h
 have Va:=jq k a0.1 1 6 r2 U8
 refine jc (ap [.tmp 8,.const (.int .i64 (1)),.const (.int .i64 (6))] rfl rfl IU rfl Va) ?_
 refine ja (eJ rfl) ?_
 refine nt ?_
 refine cw h (fun h=>?_) (fun h=>?_)
 ·
  refine au ?_;cases h;exact ra
 ·
  refine au ?_;refine fl bN ?_;refine lo eI ?_;refine ol mC ?_;refine jb (iD rfl) ?_;refine nt (ci h (fun h=>?_) (fun h=>?_))
  ·refine au ?_;cases h;exact ra
  ·refine sk (dK (Z:=Unit) (α:=Unit) (fun z4 x3=>[(1,Pt b1)]) (fun z4 x3=>[.obj b1 27 (.rep ao a0)]) (fun e=>e=r) h (fun e h=>Option.some.inj h) (fun K hR h=>?_) (fun z4 x3 h=>?_))
   ·refine au ?_;refine ai (aK (fun z6 y5=>[(1,Pt b1),(3,I y5)]) (fun z6 y5=>[.obj b1 27 (.rep ao a0)]) (fR k a0) k () 0 (fun _=>rfl) h (SE.fin [0] ⟨rfl,rfl,trivial⟩ rfl) (fun n z6 y5 h=>?_));unfold fR at h;refine au ?_;refine fl bN ?_;refine lo eI ?_;refine ol mC ?_;refine jb (bg rfl) ?_;refine nt (ci h (fun h=>?_) (fun h=>?_))
    ·refine sk (dK (Z:=Unit) (α:=Unit) (fun z8 x7=>[(1,Pt b1),(3,I y5)]) (fun z8 x7=>[.obj b1 27 (.rep ao a0)]) (fun e=>e=r) h (fun e h=>hR e h) (fun K hR h=>?_) (fun z8 x7 h=>?_))
     ·refine ai (au ?_);refine fl bN ?_;refine lo eI ?_;refine mq ?_;obtain⟨x9,U7,h⟩:=aa h;refine jb (aD (t:=aH) rfl mC gJ U7) ?_;refine ja (aJ 1 false rfl kN rfl) ?_;refine ja (ak (t:=(.int .i64)) rfl bY rfl) ?_;obtain⟨U6,se,h⟩:=aa h;refine jc (ap [.tmp 27,.const (.int .i64 (1)),.const (.int .i64 (3))] rfl rfl IU rfl (jq k x9.1 1 3 U6 se)) ?_;refine ja (eJ rfl) ?_;refine nt (cw h (fun h=>?_) (fun h=>?_))
      ·refine au ?_;obtain rfl:=hR _ h;exact ra
      ·refine au ?_;refine fl bN ?_;refine lo eI ?_;refine mq ?_;obtain⟨s,mc,h⟩:=aa h;refine jb (aD (t:=aH) rfl mC gJ mc) ?_;refine ja (aJ 1 false rfl km rfl) ?_;refine ja (ak (t:=(.slice (.int .i64))) rfl bC rfl) ?_;refine au ?_;refine ai (aK (fun D c=>[(1,Pt b1),(3,I y5),(4,Ri s.2),(5,I c)]) (fun D c=>[.obj b1 27 (.rep ao a0)]) (fQ k a0 s) k () 0 (fun _=>rfl) h (SE.fin [0] ⟨rfl,rfl,rfl,rfl,trivial⟩ rfl) (fun n D c h=>?_));unfold fQ at h;refine au ?_;refine ol dB ?_;refine jb (bg rfl) ?_;refine nt (ci h (fun h=>?_) (fun h=>?_))
       ·refine au ?_;refine ai (au ?_);refine bR ?_;refine dm ?_;refine dm ?_;obtain⟨U1,ac,h⟩:=aa h;refine db (aD (t:=(.int .i64)) rfl dB bY ac) ?_;refine da (ak (t:=(.int .i64)) rfl bY rfl) ?_;refine da (av rfl f9) ?_;refine ea 0 (aj rfl bY jF rfl) ?_;obtain⟨U0,Y,h⟩:=aa h;refine db (fS rfl Y) ?_;refine df cE ?_;obtain⟨U4,qt,h⟩:=aa h;refine jc (ap [.tmp 45,.const (.int .i64 (0)),.tmp 48] rfl rfl IU rfl (jq k U1 0 U0 U4 qt)) ?_;refine ja (eJ rfl) ?_;refine nt (cw h (fun h=>?_) (fun h=>?_))
        ·refine au ?_;obtain rfl:=hR _ h;exact ra
        ·refine sk (aM (Z:=Unit) (α:=Bool) (fun y l=>[(1,Pt b1),(3,I y5),(4,Ri s.2),(5,I c),(64,.eq (.bool l))]) (fun y l=>[.obj b1 27 (.rep ao a0)]) h (fun K h=>?_) (fun y l h=>?_))
         ·refine bR ?_;refine dm ?_;refine db (iD rfl) ?_;refine kW rfl rfl rfl (aL rfl) ⟨rfl,trivial⟩ (fun hb=>?_) (fun hb=>?_)
          ·replace h:=cG (oK hb) h;refine aU rfl rfl rfl rfl rfl (aL rfl) ⟨rfl,rfl,trivial⟩ ?_;refine aU rfl rfl rfl rfl rfl (aL rfl) ⟨rfl,rfl,trivial⟩ ?_;obtain⟨UZ,X,h⟩:=aa h;refine aU rfl rfl rfl rfl rfl (aD (t:=(.int .i64)) rfl dB bY X) ⟨rfl,rfl,rfl,trivial⟩ ?_;refine aU rfl rfl rfl rfl rfl (ak (t:=(.int .i64)) rfl bY rfl) ⟨rfl,rfl,trivial⟩ ?_;refine aU rfl rfl rfl rfl rfl (aL rfl) ⟨rfl,rfl,trivial⟩ ?_;refine aU rfl rfl rfl rfl rfl (aL rfl) ⟨rfl,rfl,trivial⟩ ?_;obtain⟨Vb,U,h⟩:=aa h;refine aU rfl rfl rfl rfl rfl (fS rfl U) ⟨rfl,rfl,rfl,trivial⟩ ?_;obtain⟨UY,Q,h⟩:=aa h;refine aU rfl rfl rfl rfl rfl (aD (t:=(.int .i64)) rfl dB bY Q) ⟨rfl,rfl,rfl,trivial⟩ ?_;refine aU rfl rfl rfl rfl rfl (ak (t:=(.int .i64)) rfl bY rfl) ⟨rfl,rfl,trivial⟩ ?_;refine df cE ?_;refine gb (vC rfl) ?_;refine au ?_;exact jz ((),decide (UZ≤UY)) h [0]
          ·replace h:=bO (nL hb) h;iterate 9 refine dg ?_
           refine df cE ?_;refine au ?_;exact jz ((),false) h [0]
         ·refine cv h (fun h=>?_) (fun h=>?_)
          ·refine au ?_;obtain rfl:=hR _ h;exact ra
          ·refine au ?_;refine ab (mq ?_);obtain⟨UX,O,h⟩:=aa h;refine jb (aW rfl O) ?_;refine au ?_;exact jz ((),UX) h [0]
       ·refine au ?_;exact jz ((),()) h [0]
     ·refine ab (mq ?_);obtain⟨UW,M,h⟩:=aa h;refine jb (aW rfl M) ?_;refine au ?_;exact jz ((),UW) h [0]
    ·refine au ?_;exact jz ((),()) h [0]
   ·refine au ?_;refine fl cI ?_;refine lo bC ?_;refine ol dB ?_;refine jb (fq rfl) ?_;refine nt (ci h (fun h=>?_) (fun h=>?_))
    ·refine au ?_;cases h;exact ra
    ·refine au ?_;refine fl cI ?_;refine lo bC ?_;refine ol dB ?_;refine jb (iD rfl) ?_;refine nt (ci h (fun h=>?_) (fun h=>?_))
     ·refine au ?_;cases h;exact ra
     ·refine sk (dK (Z:=Unit) (α:=Unit) (fun x E=>[]) (fun x E=>[]) (fun e=>e=r) h (fun e h=>Option.some.inj h) (fun K hR h=>?_) (fun x E h=>?_))
      ·refine au ?_;refine ai (aK (fun u j=>[(1,Pt b1),(6,I j)]) (fun u j=>[.obj b1 27 (.rep ao a0)]) (fP k a0) k () 0 (fun _=>rfl) h (SE.fin [0] ⟨rfl,rfl,trivial⟩ rfl) (fun n u j h=>?_));unfold fP at h;refine au ?_;refine fl cI ?_;refine lo bC ?_;refine ol dB ?_;refine jb (bg rfl) ?_;refine nt (ci h (fun h=>?_) (fun h=>?_))
       ·refine au ?_;refine ai (sr (fl cI ?_));refine lo bC ?_;refine mq ?_;obtain⟨UV,J,h⟩:=aa h;refine jb (aD (t:=(.int .i64)) rfl dB bY J) ?_;refine ja (ak (t:=(.int .i64)) rfl bY rfl) ?_;obtain⟨U2,pp,h⟩:=aa h;refine jc (ap [.tmp 84,.const (.int .i64 (0)),.const (.int .i64 (9))] rfl rfl IU rfl (jq k UV 0 9 U2 pp)) ?_;refine ja (eJ rfl) ?_;refine nt (cw h (fun h=>?_) (fun h=>?_))
        ·refine au ?_;obtain rfl:=hR _ h;exact ra
        ·refine au ?_;refine ab (mq ?_);obtain⟨UU,F,h⟩:=aa h;refine jb (aW rfl F) ?_;refine au ?_;exact jz ((),UU) h [0]
       ·refine au ?_;exact jz ((),()) h []
      ·refine au ?_;cases h;exact ra
def kZ(k:Nat)(a0:aQ)(a1:Int):Option Bool:=
 (ck ((a0.2.1.length:Int) - 1)).bind fun x2=>
 (ic k a1 0 x2).bind fun r3=>
 some r3
theorem vg(k:Nat)(a0:aQ)(a1:Int)(r:Bool)(h:kZ k a0 a1=some r):
 bV Tryz.prog 68 [.rep ao a0,I a1] [] (fun _:Unit=>(bm [.eq (.bool r)],[])):=by
 unfold kZ at h
 replace h:=aZ h
 refine bV.of 11 Tryz.func68 rfl Tryz.ntmps68 rfl fun S w0=>?_
 refine sr ?_
 refine bx fun b1=>?_
 refine au ?_
 refine fl bN ?_
 refine lo eI ?_
 refine ol mC ?_
 obtain⟨x2,c,h⟩:=aa h
 refine jb (fS rfl c) ?_
 obtain⟨r3,e,h⟩:=aa h
 have j:=jq k a1 0 x2 r3 e
 refine jc (ap [.tmp 5,.const (.int .i64 (0)),.tmp 9] rfl rfl IU rfl j) ?_
 refine au ?_
 cases h
 exact ra
def iP(k:Nat)(a0:(List Int))(a1:Int):Nat→Int→Option (Except Bool Unit)
 |0,_=>none
 |n+1,y3=>
  if y3 < (a0.length:Int) then((aR a0 y3).bind fun x5=>
  if x5=a1 then(some (.error true)) else((ck (y3+1)).bind fun x6=>
  iP k a0 a1 n x6)) else(some (.ok ()))
def pT(k:Nat)(a0:(List Int))(a1:Int):Option Bool:=
 bE (α:=Unit) (iP k a0 a1 k 0) (some) fun _=>
 some false
theorem vi(k:Nat)(a0:(List Int))(a1:Int)(r:Bool)(h:pT k a0 a1=some r):
 bV Tryz.prog 69 [Ri a0,I a1] [] (fun _:Unit=>(bm [.eq (.bool r)],[])):=by
 unfold pT at h
 replace h:=aZ h
 refine bV.of 18 Tryz.func69 rfl Tryz.ntmps69 rfl fun S w0=>?_
 refine sr ?_
 refine cq ?_
 refine nt ?_
 refine dK (Z:=Unit) (α:=Unit) (fun z2 x1=>[]) (fun z2 x1=>[]) (fun e=>e=r) h (fun e h=>Option.some.inj h) (fun K hR h=>?_) (fun z2 x1 h=>?_)
 ·
  refine au ?_;refine ai (aK (fun z4 y3=>[(0,Ri a0),(1,I a1),(5,I y3)]) (fun z4 y3=>[]) (iP k a0 a1) k () 0 (fun _=>rfl) h (SE.fin [] ⟨rfl,rfl,rfl,trivial⟩ rfl) (fun n z4 y3 h=>?_));unfold iP at h;refine au ?_;refine ol dB ?_;refine jb (bg rfl) ?_;refine nt (ci h (fun h=>?_) (fun h=>?_))
  ·refine au ?_;refine ai (au ?_);obtain⟨x5,j,h⟩:=aa h;refine jb (aD (t:=(.int .i64)) rfl dB bY j) ?_;refine ja (ak (t:=(.int .i64)) rfl bY rfl) ?_;refine mq ?_;refine jb (fq rfl) ?_;refine nt (ci h (fun h=>?_) (fun h=>?_))
   ·refine au ?_;obtain rfl:=hR _ h;exact ra
   ·refine au ?_;refine ab (mq ?_);obtain⟨x6,c,h⟩:=aa h;refine jb (aW rfl c) ?_;refine au ?_;exact jz ((),x6) h []
  ·refine au ?_;exact jz ((),()) h []
 ·
  refine au ?_;cases h;exact ra
def bZ(k:Nat)(a0:aQ)(a1:(List (List Int)))(y5:(List Int)×Int):Nat→((List Int)×Int×Int)→Option (Except Int ((List Int)×Int))
 |0,_=>none
 |n+1,c=>
  (aR a1 y5.2).bind fun F=>
  if c.2.2 < (F.length:Int) then((aR a1 y5.2).bind fun E=>
  (aR E c.2.2).bind fun D=>
  (kZ k a0 D).bind fun J=>
  if¬(J=true) then(some (.error 3)) else((aR a1 y5.2).bind fun y=>
  (aR y c.2.2).bind fun x=>
  (pT k c.1 x).bind fun I=>
  if I=true then(some (.error 4)) else((aR a1 y5.2).bind fun u=>
  (aR u c.2.2).bind fun e=>
  (dj (bq (List.length c.1+List.length [e]))).bind fun _=>
  (aR a1 y5.2).bind fun s=>
  (aR s c.2.2).bind fun r=>
  (aR a0.2.1 r).bind fun l=>
  (ck (c.2.1+l.1)).bind fun j=>
  (ck (c.2.2+1)).bind fun h=>
  bZ k a0 a1 y5 n (c.1++[e],j,h)))) else(some (.ok (c.1,c.2.1)))
def cD(k:Nat)(a0:aQ)(a1:(List (List Int))):Nat→((List Int)×Int)→Option (Except Int (List Int))
 |0,_=>none
 |n+1,y5=>
  if y5.2 < (a1.length:Int) then(bE (α:=(List Int)) (bE (α:=(List Int)×Int) (bZ k a0 a1 y5 k (y5.1,0,0)) (fun e=>some (.error e)) fun x9=>
  (aR a0.2.2 y5.2).bind fun h=>
  if h < x9.2 then(some (.error 12)) else(some (.ok x9.1))) (fun e=>some (.error e)) fun x7=>
  (ck (y5.2+1)).bind fun c=>
  cD k a0 a1 n (x7,c)) else(some (.ok y5.1))
def dr(k:Nat)(a0:aQ)(a1:(List (List Int))):Option Int:=
 (np k a0).bind fun r2=>
 if¬(r2=0) then(some r2) else(if(a1.length:Int) < (a0.2.2.length:Int) then(some 7) else(if(a0.2.2.length:Int) < (a1.length:Int) then(some 6) else(bE (α:=(List Int)) (cD k a0 a1 k (([]:(List Int)),0)) (some) fun x3=>
 if(x3.length:Int) < (a0.2.1.length:Int) then(some 7) else(some 0))))
theorem lA(k:Nat)(a0:aQ)(a1:(List (List Int)))(r:Int)(h:dr k a0 a1=some r):
 bV Tryz.prog 33 [.rep ao a0,.rep (.slice (.slice (.int .i64))) a1] [] (fun _:Unit=>(bm [I r],[])):=by
 unfold dr at h
 replace h:=aZ h
 refine bV.of 98 Tryz.func33 rfl Tryz.ntmps33 rfl fun S w0=>?_
 refine sr ?_
 refine bx fun b1=>?_
 refine au ?_
 refine lo cU ?_
 obtain⟨r2,Vt,h⟩:=aa h
 have Vu:=yp k a0 r2 Vt
 refine ja (ap [.tmp 10] rfl rfl TY rfl Vu) ?_
 refine au ?_
 refine jb (g7 rfl) ?_
 refine nt ?_
 refine cn h (fun h=>?_) (fun h=>?_)
 ·
  refine au ?_;cases h;exact ra
 ·
  refine au ?_;refine ol lJ ?_;refine fl cI ?_;refine lo bC ?_;refine ol dB ?_;refine jb (bg rfl) ?_;refine nt (ci h (fun h=>?_) (fun h=>?_))
  ·refine au ?_;cases h;exact ra
  ·refine au ?_;refine ol lJ ?_;refine fl cI ?_;refine lo bC ?_;refine ol dB ?_;refine jb (iD rfl) ?_;refine nt (ci h (fun h=>?_) (fun h=>?_))
   ·refine au ?_;cases h;exact ra
   ·refine sk (sr (cq (nt ?_)));refine dK (Z:=Value) (α:=(List Int)) (fun z4 x3=>[(2,Pt b1),(6,.eq z4)]) (fun z4 x3=>[.obj b1 27 (.rep ao a0),.sl z4 3 (.int .i64) x3]) (fun e=>e=r) h (fun e h=>Option.some.inj h) (fun K hR h=>?_) (fun z4 x3 h=>?_)
    ·refine au ?_;refine ai (dA (SE.nil 3 (.int .i64)) ?_);refine aK (fun z6 y5=>[(1,.rep (.slice (.slice (.int .i64))) a1),(2,Pt b1),(6,.eq z6),(7,I y5.2)]) (fun z6 y5=>[.obj b1 27 (.rep ao a0),.sl z6 3 (.int .i64) y5.1]) (cD k a0 a1) k (.slice none 0 0) (([]:(List Int)),0) (fun _=>rfl) h (SE.fin [1,0] ⟨rfl,rfl,rfl,rfl,trivial⟩ rfl) (fun n z6 y5 h=>?_);unfold cD at h;refine au ?_;refine ol lJ ?_;refine jb (bg rfl) ?_;refine nt (ci h (fun h=>?_) (fun h=>?_))
     ·refine sk (dK (Z:=Value) (α:=(List Int)) (fun z8 x7=>[(1,.rep (.slice (.slice (.int .i64))) a1),(2,Pt b1),(6,.eq z8),(7,I y5.2)]) (fun z8 x7=>[.obj b1 27 (.rep ao a0),.sl z8 3 (.int .i64) x7]) (fun e=>e=r) h (fun e h=>hR e h) (fun K hR h=>?_) (fun z8 x7 h=>?_))
      ·refine ai (sr (cq (nt ?_)));refine dK (Z:=Value) (α:=(List Int)×Int) (fun l x9=>[(1,.rep (.slice (.slice (.int .i64))) a1),(2,Pt b1),(6,.eq l),(7,I y5.2),(8,I x9.2)]) (fun l x9=>[.obj b1 27 (.rep ao a0),.sl l 3 (.int .i64) x9.1]) (fun e=>e=r) h (fun e h=>hR e h) (fun K hR h=>?_) (fun l x9 h=>?_)
       ·refine au ?_;refine ai (aK (fun j c=>[(1,.rep (.slice (.slice (.int .i64))) a1),(2,Pt b1),(6,.eq j),(7,I y5.2),(8,I c.2.1),(9,I c.2.2)]) (fun j c=>[.obj b1 27 (.rep ao a0),.sl j 3 (.int .i64) c.1]) (bZ k a0 a1 y5) k z6 (y5.1,0,0) (fun _=>rfl) h (SE.fin [0,1] ⟨rfl,rfl,rfl,rfl,rfl,rfl,trivial⟩ rfl) (fun n j c h=>?_));unfold bZ at h;refine au ?_;obtain⟨VS,U8,h⟩:=aa h;refine jb (aD (t:=(.slice (.int .i64))) rfl lJ bC U8) ?_;refine ja (ak (t:=(.slice (.int .i64))) rfl bC rfl) ?_;refine ol dB ?_;refine jb (bg rfl) ?_;refine nt (ci h (fun h=>?_) (fun h=>?_))
        ·refine au ?_;refine ai (au ?_);refine bR ?_;refine ea 0 (aj rfl cU (wy) rfl) ?_;refine dm ?_;refine dm ?_;obtain⟨VQ,U7,h⟩:=aa h;refine db (aD (t:=(.slice (.int .i64))) rfl lJ bC U7) ?_;refine da (ak (t:=(.slice (.int .i64))) rfl bC rfl) ?_;refine dm ?_;obtain⟨Vh,U6,h⟩:=aa h;refine db (aD (t:=(.int .i64)) rfl dB bY U6) ?_;refine da (ak (t:=(.int .i64)) rfl bY rfl) ?_;refine df cE ?_;obtain⟨Vj,Vd,h⟩:=aa h;refine jb (ap [.tmp 42,.tmp 49] rfl rfl TN rfl (vg k a0 Vh Vj Vd)) ?_;refine ja (eJ rfl) ?_;refine nt (cw h (fun h=>?_) (fun h=>?_))
         ·refine au ?_;obtain rfl:=hR _ h;exact ra
         ·refine au ?_;obtain⟨VP,U4,h⟩:=aa h;refine jb (aD (t:=(.slice (.int .i64))) rfl lJ bC U4) ?_;refine ja (ak (t:=(.slice (.int .i64))) rfl bC rfl) ?_;refine mq ?_;obtain⟨u,U2,h⟩:=aa h;refine jb (aD (t:=(.int .i64)) rfl dB bY U2) ?_;refine ja (ak (t:=(.int .i64)) rfl bY rfl) ?_;obtain⟨Vi,Vb,h⟩:=aa h;refine fr 1 ?_;refine kb (wl (N:=[(.tmp 52,.eq j),(.tmp 59,I u)]) (ap [.tmp 52,.tmp 59] rfl rfl QP rfl (vi k c.1 u Vi Vb)) (fun _ _ _ hv hn=>⟨(lend hn.1 hv),hn.2.1,trivial⟩) (fun _=>⟨rfl,AT⟩)) ?_;refine nt (cv h (fun h=>?_) (fun h=>?_))
          ·refine au ?_;obtain rfl:=hR _ h;exact ra
          ·refine sk (jy ?_);refine aI rfl rfl rfl (aL rfl) ⟨rfl,trivial⟩ ?_;refine aI rfl rfl rfl (aL rfl) ⟨rfl,trivial⟩ ?_;refine aI rfl rfl rfl (aL rfl) ⟨rfl,trivial⟩ ?_;obtain⟨VO,U1,h⟩:=aa h;refine aI rfl rfl rfl (aD (t:=(.slice (.int .i64))) rfl lJ bC U1) ⟨rfl,rfl,trivial⟩ ?_;refine aI rfl rfl rfl (ak (t:=(.slice (.int .i64))) rfl bC rfl) ⟨rfl,trivial⟩ ?_;refine aI rfl rfl rfl (aL rfl) ⟨rfl,trivial⟩ ?_;obtain⟨s,U0,h⟩:=aa h;refine aI rfl rfl rfl (aD (t:=(.int .i64)) rfl dB bY U0) ⟨rfl,rfl,trivial⟩ ?_;refine aI rfl rfl rfl (ak (t:=(.int .i64)) rfl bY rfl) ⟨rfl,trivial⟩ ?_;refine aI rfl rfl rfl (be (t:=(.int .i64)) [(.tmp 68,_)] [s] rfl rfl dp (.cons rfl .int .nil) rfl rfl) ⟨rfl,trivial⟩ ?_;obtain⟨Wj,Va,h⟩:=aa h;refine sP 0 rfl (fun v=>[.sl v 3 (.int .i64) (c.1++[s])]) (fun _=>rfl) rfl rfl rfl (bp rfl rfl dp (aB Va)) ⟨rfl,rfl,trivial⟩ ?_;refine aI rfl rfl rfl (aL rfl) ⟨rfl,trivial⟩ ?_;refine aI rfl rfl rfl (av rfl bN) ⟨rfl,trivial⟩ ?_;refine di 1 rfl rfl rfl rfl (aj rfl eI jF rfl) ⟨rfl,trivial⟩ ?_;refine aI rfl rfl rfl (aL rfl) ⟨rfl,trivial⟩ ?_;refine aI rfl rfl rfl (aL rfl) ⟨rfl,trivial⟩ ?_;obtain⟨VN,UZ,h⟩:=aa h;refine aI rfl rfl rfl (aD (t:=(.slice (.int .i64))) rfl lJ bC UZ) ⟨rfl,rfl,trivial⟩ ?_;refine aI rfl rfl rfl (ak (t:=(.slice (.int .i64))) rfl bC rfl) ⟨rfl,trivial⟩ ?_;refine aI rfl rfl rfl (aL rfl) ⟨rfl,trivial⟩ ?_;obtain⟨VM,UY,h⟩:=aa h;refine aI rfl rfl rfl (aD (t:=(.int .i64)) rfl dB bY UY) ⟨rfl,rfl,trivial⟩ ?_;refine aI rfl rfl rfl (ak (t:=(.int .i64)) rfl bY rfl) ⟨rfl,trivial⟩ ?_;obtain⟨VL,UX,h⟩:=aa h;refine aI rfl rfl rfl (aD (t:=aH) rfl mC gJ UX) ⟨rfl,rfl,trivial⟩ ?_;refine aI rfl rfl rfl (aJ 1 false rfl kN rfl) ⟨rfl,trivial⟩ ?_;refine aI rfl rfl rfl (ak (t:=(.int .i64)) rfl bY rfl) ⟨rfl,trivial⟩ ?_;obtain⟨Vg,UW,h⟩:=aa h;refine aI rfl rfl rfl (aW rfl UW) ⟨rfl,rfl,trivial⟩ ?_;refine mA 24 [true,true,true,true,true,true,true,true,true,true,false,false,false,false,false,false,false,false,false,false,false,false,false,false] [6] [1] [.obj b1 27 (.rep ao a0)] rfl (by kernel_rfl) (by kernel_rfl) (by kernel_rfl) cE (fun vs hv hB=>?_);obtain⟨w0,Wi,rfl,Vs⟩:=an hv;obtain⟨w1,Wh,rfl,Vr⟩:=an Vs;obtain⟨w2,Wg,rfl,Vq⟩:=an Vr;obtain⟨w3,We,rfl,Vp⟩:=an Vq;obtain⟨w4,Wc,rfl,Vo⟩:=an Vp;obtain⟨w5,Wb,rfl,Vn⟩:=an Vo;obtain⟨w6,Wa,rfl,Vm⟩:=an Vn;obtain⟨w7,V9,rfl,Vl⟩:=an Vm;obtain⟨w8,V8,rfl,Vk⟩:=an Vl;obtain⟨x,VJ,rfl,qt⟩:=an Vk;obtain⟨V7,VI,rfl,pp⟩:=an qt;obtain⟨V6,VH,rfl,mc⟩:=an pp;obtain⟨V5,VG,rfl,ac⟩:=an mc;obtain⟨V4,VF,rfl,Y⟩:=an ac;obtain⟨V3,VE,rfl,X⟩:=an Y;obtain⟨V2,VD,rfl,U⟩:=an X;obtain⟨V1,VC,rfl,Q⟩:=an U;obtain⟨V0,VB,rfl,O⟩:=an Q;obtain⟨VZ,VA,rfl,M⟩:=an O;obtain⟨VY,Vz,rfl,J⟩:=an M;obtain⟨VX,Vy,rfl,F⟩:=an J;obtain⟨VV,Vx,rfl,E⟩:=an F;obtain⟨VU,Vw,rfl,D⟩:=an E;obtain⟨VT,Vv,rfl,y⟩:=an D;obtain rfl:=kg y;refine⟨[0,1],[.sl x 3 (.int .i64) (c.1++[s])],by kernel_rfl,by decide,?_⟩;refine pK rfl rfl rfl rfl (fU rfl) ⟨rfl,trivial⟩ (by kernel_rfl) ?_;refine Dp (by kernel_rfl) ?_;refine au ?_;refine ab (mq ?_);obtain⟨Vf,UV,h⟩:=aa h;refine jb (aW rfl UV) ?_;refine au ?_
           exact jz (x,(c.1++[s],Vg,Vf)) h [0,1]
        ·refine au ?_;exact jz (j,(c.1,c.2.1)) h [0,1]
       ·refine au ?_;refine fl cI ?_;refine lo bC ?_;refine mq ?_;obtain⟨VK,UU,h⟩:=aa h;refine jb (aD (t:=(.int .i64)) rfl dB bY UU) ?_;refine ja (ak (t:=(.int .i64)) rfl bY rfl) ?_;refine jb (iD rfl) ?_;refine nt (ci h (fun h=>?_) (fun h=>?_))
        ·refine au ?_;obtain rfl:=hR _ h;exact ra
        ·refine au ?_;exact jz (l,x9.1) h [0,1]
      ·refine ab (mq ?_);obtain⟨Ve,se,h⟩:=aa h;refine jb (aW rfl se) ?_;refine au ?_;exact jz (z8,(x7,Ve)) h [0,1]
     ·refine au ?_;exact jz (z6,y5.1) h [0,1]
    ·refine ar (sr (mq ?_));refine fr 1 ?_;refine ka (cZ rfl rfl dB) ?_;refine fl bN ?_;refine fr 1 ?_;refine lo eI ?_;refine ol mC ?_;refine jb (bg rfl) ?_;refine nt (ci h (fun h=>?_) (fun h=>?_))
     ·refine au ?_;cases h;exact ra
     ·refine au ?_;cases h;exact ra
def eE(k:Nat)(a0:Int)(a1:Int)(a2:Int):Option Bool:=
 ((if a1≤a0 then(some (decide (a0≤a2))) else(some false)):Option (Bool)).bind fun x1=>
 some x1
theorem eS(k:Nat)(a0:Int)(a1:Int)(a2:Int)(r:Bool)(h:eE k a0 a1 a2=some r):
 bV Tryz.prog 43 [I a0,I a1,I a2] [] (fun _:Unit=>(bm [.eq (.bool r)],[])):=by
 unfold eE at h
 replace h:=aZ h
 refine bV.of 15 Tryz.func43 rfl Tryz.ntmps43 rfl fun S w0=>?_
 refine sr ?_
 refine cq ?_
 refine nt ?_
 refine aM (Z:=Unit) (α:=Bool) (fun z2 x1=>[(6,.eq (.bool x1))]) (fun z2 x1=>[]) h (fun K h=>?_) (fun z2 x1 h=>?_)
 ·
  refine ab (au ?_);refine jb (vC rfl) ?_;refine mq ?_;refine cd (s:=10) rfl (fun hb=>?_) (fun hb=>?_)
  ·replace h:=cG (oK hb) h;refine au ?_;refine gb (vC rfl) ?_;refine au ?_;exact jz ((),decide (a0≤a2)) h []
  ·replace h:=bO (nL hb) h;refine au ?_;exact jz ((),false) h []
 ·
  refine bH ?_;cases h;exact ra
def cV(k:Nat)(a0:aQ)(a1:eC):Nat→Int→Option (Except Int Unit)
 |0,_=>none
 |n+1,y6=>
  if y6 < (a1.2.length:Int) then((aR a1.2 y6).bind fun x8=>
  (ck (a0.1 - 1)).bind fun x9=>
  (eE k x8 0 x9).bind fun l=>
  if¬(l=true) then(some (.error 1)) else(((if 0 < y6 then((ck (y6 - 1)).bind fun h=>
  (aR a1.2 h).bind fun e=>
  some (decide (x8≤e))) else(some false)):Option (Bool)).bind fun j=>
  if j=true then(some (.error 5)) else((ck (y6+1)).bind fun c=>
  cV k a0 a1 n c))) else(some (.ok ()))
def iM(k:Nat)(a0:aQ)(a1:eC):Option Int:=
 (eE k a1.1 1 3).bind fun r3=>
 if¬(r3=true) then(some 1) else(bE (α:=Unit) (cV k a0 a1 k 0) (some) fun _=>
 some 0)
theorem rF(k:Nat)(a0:aQ)(a1:eC)(r:Int)(h:iM k a0 a1=some r):
 bV Tryz.prog 86 [.rep ao a0,.rep aH a1] [] (fun _:Unit=>(bm [I r],[])):=by
 unfold iM at h
 replace h:=aZ h
 refine bV.of 38 Tryz.func86 rfl Tryz.ntmps86 rfl fun S w0=>?_
 refine sr ?_
 refine bx fun b1=>?_
 refine bx fun b2=>?_
 refine au ?_
 refine fl kN ?_
 refine lo bY ?_
 obtain⟨r3,O,h⟩:=aa h
 have Q:=eS k a1.1 1 3 r3 O
 refine jc (ap [.tmp 8,.const (.int .i64 (1)),.const (.int .i64 (3))] rfl rfl AU rfl Q) ?_
 refine ja (eJ rfl) ?_
 refine nt ?_
 refine cw h (fun h=>?_) (fun h=>?_)
 ·
  refine au ?_;cases h;exact ra
 ·
  refine sk (dK (Z:=Unit) (α:=Unit) (fun z5 x4=>[]) (fun z5 x4=>[]) (fun e=>e=r) h (fun e h=>Option.some.inj h) (fun K hR h=>?_) (fun z5 x4 h=>?_))
  ·refine sr (fl km ?_);refine lo bC ?_;refine ol dB ?_;refine ff rfl ?_;refine nt (ai (aK (fun z7 y6=>[(2,Pt b1),(3,Pt b2),(12,Ri a1.2),(13,I (a1.2.length:Int)),(14,I y6)]) (fun z7 y6=>[.obj b1 27 (.rep ao a0),.obj b2 35 (.rep aH a1)]) (cV k a0 a1) k () 0 (fun _=>rfl) h (SE.fin [1,0] ⟨rfl,rfl,rfl,rfl,rfl,trivial⟩ rfl) (fun n z7 y6 h=>?_)));unfold cV at h;refine sr (jb (bg rfl) ?_);refine au ?_;refine ci h (fun h=>?_) (fun h=>?_)
   ·refine au ?_;refine ai (au ?_);obtain⟨x8,M,h⟩:=aa h;refine jb (aD (t:=(.int .i64)) rfl dB bY M) ?_;refine ja (ak (t:=(.int .i64)) rfl bY rfl) ?_;refine au ?_;refine fl f9 ?_;refine lo bY ?_;obtain⟨x9,J,h⟩:=aa h;refine jb (fS rfl J) ?_;obtain⟨F,y,h⟩:=aa h;refine jc (ap [.tmp 19,.const (.int .i64 (0)),.tmp 22] rfl rfl AU rfl (eS k x8 0 x9 F y)) ?_;refine ja (eJ rfl) ?_;refine nt (cw h (fun h=>?_) (fun h=>?_))
    ·refine au ?_;obtain rfl:=hR _ h;exact ra
    ·refine sk (aM (Z:=Unit) (α:=Bool) (fun j c=>[(2,Pt b1),(3,Pt b2),(12,Ri a1.2),(13,I (a1.2.length:Int)),(14,I y6),(36,.eq (.bool c))]) (fun j c=>[.obj b1 27 (.rep ao a0),.obj b2 35 (.rep aH a1)]) h (fun K h=>?_) (fun j c h=>?_))
     ·refine ab (mq ?_);refine jb (iD rfl) ?_;refine mq ?_;refine cd (s:=27) rfl (fun hb=>?_) (fun hb=>?_)
      ·replace h:=cG (oK hb) h;refine gm ?_;refine ga (av rfl km) ?_;refine fr 1 ?_;refine jN rfl rfl rfl rfl rfl rfl (aj rfl bC jF rfl) ⟨rfl,trivial⟩ ?_;refine gm ?_;obtain⟨U,x,h⟩:=aa h;refine gb (fS rfl x) ?_;obtain⟨E,u,h⟩:=aa h;refine gb (aD (t:=(.int .i64)) rfl dB bY u) ?_;refine ga (ak (t:=(.int .i64)) rfl bY rfl) ?_;refine gb (vC rfl) ?_;refine au ?_;exact jz ((),decide (x8≤E)) h [1,0]
      ·replace h:=bO (nL hb) h;refine au ?_;exact jz ((),false) h [0,1]
     ·refine cv h (fun h=>?_) (fun h=>?_)
      ·refine au ?_;obtain rfl:=hR _ h;exact ra
      ·refine au ?_;refine ab ?_;obtain⟨D,l,h⟩:=aa h;refine jb (aW rfl l) ?_;refine au ?_;exact jz ((),D) h [0,1]
   ·refine au ?_;exact jz ((),()) h []
  ·refine au ?_;cases h;exact ra
def fM(k:Nat)(a0:aQ):Nat→Int→Option (Except Int Unit)
 |0,_=>none
 |n+1,y5=>
  if y5 < (a0.2.1.length:Int) then((aR a0.2.1 y5).bind fun x7=>
  (iM k a0 x7).bind fun r9=>
  if¬(r9=0) then(some (.error r9)) else((ck (y5+1)).bind fun c=>
  fM k a0 n c)) else(some (.ok ()))
def fL(k:Nat)(a0:aQ):Nat→Int→Option (Except Int Unit)
 |0,_=>none
 |n+1,c=>
  if c < (a0.2.2.length:Int) then((aR a0.2.2 c).bind fun h=>
  (eE k h 0 9).bind fun j=>
  if¬(j=true) then(some (.error 1)) else((ck (c+1)).bind fun e=>
  fL k a0 n e)) else(some (.ok ()))
def lM(k:Nat)(a0:aQ):Option Int:=
 (eE k a0.1 1 6).bind fun r2=>
 if¬(r2=true) then(some 1) else(if 5 < (a0.2.1.length:Int) then(some 6) else(bE (α:=Unit) (fM k a0 k 0) (some) fun _=>
 if(a0.2.2.length:Int) < 1 then(some 7) else(if 3 < (a0.2.2.length:Int) then(some 6) else(bE (α:=Unit) (fL k a0 k 0) (some) fun _=>
 some 0))))
theorem rH(k:Nat)(a0:aQ)(r:Int)(h:lM k a0=some r):
 bV Tryz.prog 53 [.rep ao a0] [] (fun _:Unit=>(bm [I r],[])):=by
 unfold lM at h
 replace h:=aZ h
 refine bV.of 51 Tryz.func53 rfl Tryz.ntmps53 rfl fun S w0=>?_
 refine sr ?_
 refine bx fun b1=>?_
 refine au ?_
 refine fl f9 ?_
 refine lo bY ?_
 obtain⟨r2,U,h⟩:=aa h
 have X:=eS k a0.1 1 6 r2 U
 refine jc (ap [.tmp 10,.const (.int .i64 (1)),.const (.int .i64 (6))] rfl rfl AU rfl X) ?_
 refine ja (eJ rfl) ?_
 refine nt ?_
 refine cw h (fun h=>?_) (fun h=>?_)
 ·
  refine au ?_;cases h;exact ra
 ·
  refine au ?_;refine fl bN ?_;refine lo eI ?_;refine ol mC ?_;refine jb (iD rfl) ?_;refine nt (ci h (fun h=>?_) (fun h=>?_))
  ·refine au ?_;cases h;exact ra
  ·refine sk (dK (Z:=Unit) (α:=Unit) (fun z4 x3=>[(1,Pt b1)]) (fun z4 x3=>[.obj b1 27 (.rep ao a0)]) (fun e=>e=r) h (fun e h=>Option.some.inj h) (fun K hR h=>?_) (fun z4 x3 h=>?_))
   ·refine sr (fl bN ?_);refine lo eI ?_;refine ol mC ?_;refine ff rfl ?_;refine nt (ai (aK (fun z6 y5=>[(1,Pt b1),(18,Rs aH a0.2.1),(19,I (a0.2.1.length:Int)),(20,I y5)]) (fun z6 y5=>[.obj b1 27 (.rep ao a0)]) (fM k a0) k () 0 (fun _=>rfl) h (SE.fin [0] ⟨rfl,rfl,rfl,rfl,trivial⟩ rfl) (fun n z6 y5 h=>?_)));unfold fM at h;refine sr (jb (bg rfl) ?_);refine au ?_;refine ci h (fun h=>?_) (fun h=>?_)
    ·refine au ?_;refine ai (sr ?_);obtain⟨x7,O,h⟩:=aa h;refine jb (aD (t:=aH) rfl mC gJ O) ?_;refine ja (ak (t:=aH) rfl gJ rfl) ?_;refine aE rfl rfl rfl (a9 rfl ul LS) trivial fun b8=>?_;refine bf rfl rfl (a8 rfl gJ rfl rfl rfl) ⟨rfl,rfl,trivial⟩ ?_;refine nt (sr (fr 1 ?_));refine lo cU ?_;refine fr 1 ?_;refine lo gJ ?_;obtain⟨r9,Q,h⟩:=aa h;refine jb (ap [.tmp 24,.tmp 25] rfl rfl TD rfl (rF k a0 x7 r9 Q)) ?_;refine au ?_;refine jb (g7 rfl) ?_;refine nt (cn h (fun h=>?_) (fun h=>?_))
     ·refine au ?_;obtain rfl:=hR _ h;exact ra
     ·refine au ?_;refine ab ?_;obtain⟨J,y,h⟩:=aa h;refine jb (aW rfl y) ?_;refine au ?_;exact jz ((),J) h [1]
    ·refine au ?_;exact jz ((),()) h [0]
   ·refine au ?_;refine fl cI ?_;refine lo bC ?_;refine ol dB ?_;refine au ?_;refine ai (au ?_);refine jb (bg rfl) ?_;refine au ?_;refine ci h (fun h=>?_) (fun h=>?_)
    ·refine au ?_;cases h;exact ra
    ·refine au ?_;refine jb (iD rfl) ?_;refine au ?_;refine ci h (fun h=>?_) (fun h=>?_)
     ·refine au ?_;cases h;exact ra
     ·refine cX (bX (tn (dK (Z:=Unit) (α:=Unit) (fun l s=>[]) (fun l s=>[]) (fun e=>e=r) h (fun e h=>Option.some.inj h) (fun K hR h=>?_) (fun l s h=>?_))))
      ·refine sr (fl cI ?_);refine lo bC ?_;refine ol dB ?_;refine ff rfl ?_;refine nt (ai (aK (fun j c=>[(41,Ri a0.2.2),(42,I (a0.2.2.length:Int)),(43,I c)]) (fun j c=>[]) (fL k a0) k () 0 (fun _=>rfl) h (SE.fin [] ⟨rfl,rfl,rfl,trivial⟩ rfl) (fun n j c h=>?_)));unfold fL at h;refine sr (jb (bg rfl) ?_);refine au ?_;refine ci h (fun h=>?_) (fun h=>?_)
       ·refine au ?_;refine ai (sr ?_);obtain⟨F,x,h⟩:=aa h;refine jb (aD (t:=(.int .i64)) rfl dB bY x) ?_;refine ja (ak (t:=(.int .i64)) rfl bY rfl) ?_;refine au ?_;obtain⟨M,D,h⟩:=aa h;refine jc (ap [.tmp 47,.const (.int .i64 (0)),.const (.int .i64 (9))] rfl rfl AU rfl (eS k F 0 9 M D)) ?_;refine ja (eJ rfl) ?_;refine nt (cw h (fun h=>?_) (fun h=>?_))
        ·refine au ?_;obtain rfl:=hR _ h;exact ra
        ·refine au ?_;refine ab ?_;obtain⟨E,u,h⟩:=aa h;refine jb (aW rfl u) ?_;refine au ?_;exact jz ((),E) h []
       ·refine au ?_;exact jz ((),()) h []
      ·refine au ?_;cases h;exact ra
def dU(k:Nat)(a0:Int)(a1:Int):Option Bool:=
 (dj (0≤a1)).bind fun _=>
 some (decide ((wR .u8 (iH .u8 a0 a1) 1)=1))
theorem iK(k:Nat)(a0:Int)(a1:Int)(r:Bool)(h:dU k a0 a1=some r):
 bV Tryz.prog 71 [.eq (.int .u8 a0),I a1] [] (fun _:Unit=>(bm [.eq (.bool r)],[])):=by
 unfold dU at h
 replace h:=aZ h
 refine bV.of 10 Tryz.func71 rfl Tryz.ntmps71 rfl fun S w0=>?_
 refine au ?_
 obtain⟨u1,c,h⟩:=aa h
 refine jb (vA rfl (aB c)) ?_
 refine jb (PY rfl) ?_
 refine jb (fq rfl) ?_
 refine au ?_
 cases h
 exact ra
def gR(k:Nat)(a0:aQ)(a1:(List Int)):Nat→(Int×Int)→Option Int
 |0,_=>none
 |n+1,y4=>
  if y4.2 < (a1.length:Int) then((aR a1 y4.2).bind fun x6=>
  (aR a0.2.1 x6).bind fun x7=>
  (ck (y4.1+x7.1)).bind fun x8=>
  (ck (y4.2+1)).bind fun x9=>
  gR k a0 a1 n (x8,x9)) else(some y4.1)
def nc(k:Nat)(a0:aQ)(a1:(List Int)):Option Int:=
 ((gR k a0 a1 k (0,0)):Option (Int)).bind fun x2=>
 some x2
theorem t8(k:Nat)(a0:aQ)(a1:(List Int))(r:Int)(h:nc k a0 a1=some r):
 bV Tryz.prog 91 [.rep ao a0,Ri a1] [] (fun _:Unit=>(bm [I r],[])):=by
 unfold nc at h
 replace h:=aZ h
 refine bV.of 24 Tryz.func91 rfl Tryz.ntmps91 rfl fun S w0=>?_
 refine sr ?_
 refine bx fun b1=>?_
 refine cq ?_
 refine nt ?_
 refine sr ?_
 refine cq ?_
 refine nt ?_
 refine aM (Z:=Unit) (α:=Int) (fun z3 x2=>[(5,I x2)]) (fun z3 x2=>[]) h (fun K h=>?_) (fun z3 x2 h=>?_)
 ·
  refine au ?_;refine ol dB ?_;refine ff rfl ?_;refine nt (ai (aK (fun z5 y4=>[(2,Pt b1),(5,I y4.1),(8,Ri a1),(9,I (a1.length:Int)),(10,I y4.2)]) (fun z5 y4=>[.obj b1 27 (.rep ao a0)]) (gR k a0 a1) k () (0,0) (fun _=>rfl) h (SE.fin [0] ⟨rfl,rfl,rfl,rfl,rfl,trivial⟩ rfl) (fun n z5 y4 h=>?_)));unfold gR at h;refine sr (jb (bg rfl) ?_);refine au ?_;refine ci h (fun h=>?_) (fun h=>?_)
  ·refine au ?_;refine ai (sr ?_);obtain⟨x6,l,h⟩:=aa h;refine jb (aD (t:=(.int .i64)) rfl dB bY l) ?_;refine ja (ak (t:=(.int .i64)) rfl bY rfl) ?_;refine au ?_;refine ab (mq ?_);refine fl bN ?_;refine lo eI ?_;refine mq ?_;obtain⟨x7,j,h⟩:=aa h;refine jb (aD (t:=aH) rfl mC gJ j) ?_;refine ja (aJ 1 false rfl kN rfl) ?_;refine ja (ak (t:=(.int .i64)) rfl bY rfl) ?_;obtain⟨x8,e,h⟩:=aa h;refine jb (aW rfl e) ?_;refine au ?_;refine ab ?_;obtain⟨x9,c,h⟩:=aa h;refine jb (aW rfl c) ?_;refine au ?_;exact jz ((),(x8,x9)) h [0]
  ·refine au ?_;exact jz ((),y4.1) h []
 ·
  refine au ?_;cases h;exact ra
def eO(k:Nat)(a0:Int)(a1:Int):Option Int:=
 (dj (0≤a1)).bind fun _=>
 some (Fz .u8 a0 (nD .u8 1 a1))
theorem jB(k:Nat)(a0:Int)(a1:Int)(r:Int)(h:eO k a0 a1=some r):
 bV Tryz.prog 92 [.eq (.int .u8 a0),I a1] [] (fun _:Unit=>(bm [.eq (.int .u8 r)],[])):=by
 unfold eO at h
 replace h:=aZ h
 refine bV.of 9 Tryz.func92 rfl Tryz.ntmps92 rfl fun S w0=>?_
 refine au ?_
 obtain⟨u1,c,h⟩:=aa h
 refine jb (Ht rfl (aB c)) ?_
 refine jb (PW rfl) ?_
 refine au ?_
 cases h
 exact ra
def eN(k:Nat)(a0:aQ)(x8:(List Int)):Nat→(Int×Int)→Option (Except Value Int)
 |0,_=>none
 |n+1,c=>
  if c.2 < (x8.length:Int) then((aR x8 c.2).bind fun e=>
  (ck ((a0.2.1.length:Int) - 1)).bind fun j=>
  (eE k e 0 j).bind fun s=>
  if¬(s=true) then(some (.error (.iface 140 (.agg #[.int .i64 3])))) else((dU k c.1 e).bind fun r=>
  if r=true then(some (.error (.iface 140 (.agg #[.int .i64 4])))) else((eO k c.1 e).bind fun l=>
  (ck (c.2+1)).bind fun h=>
  eN k a0 x8 n (l,h)))) else(some (.ok c.1))
def fK(k:Nat)(a0:aQ)(a1:(List (List Int))):Nat→(Int×Int)→Option (Except Value Int)
 |0,_=>none
 |n+1,y4=>
  if y4.2 < (a1.length:Int) then(bE (α:=Int) ((aR a1 y4.2).bind fun x8=>
  bE (α:=Int) (eN k a0 x8 k (y4.1,0)) (fun e=>some (.error e)) fun x9=>
  (nc k a0 x8).bind fun j=>
  (aR a0.2.2 y4.2).bind fun h=>
  if h < j then(some (.error (.iface 140 (.agg #[.int .i64 12])))) else(some (.ok x9))) (fun e=>some (.error e)) fun x6=>
  (ck (y4.2+1)).bind fun c=>
  fK k a0 a1 n (x6,c)) else(some (.ok y4.1))
def lL(k:Nat)(a0:aQ)(a1:(List (List Int))):Option Value:=
 if(a1.length:Int) < (a0.2.2.length:Int) then(some (.iface 140 (.agg #[.int .i64 7]))) else(if(a0.2.2.length:Int) < (a1.length:Int) then(some (.iface 140 (.agg #[.int .i64 6]))) else(bE (α:=Int) (fK k a0 a1 k (0,0)) (some) fun x2=>
 (dj (0≤(a0.2.1.length:Int))).bind fun _=>
 if¬(x2=(IntKind.u8.wrap ((nD .u8 1 (a0.2.1.length:Int)) - 1))) then(some (.iface 140 (.agg #[.int .i64 7]))) else(some (.nilIface))))
theorem rA(k:Nat)(a0:aQ)(a1:(List (List Int)))(r:Value)(h:lL k a0 a1=some r):
 bV Tryz.prog 81 [.rep ao a0,.rep (.slice (.slice (.int .i64))) a1] [] (fun _:Unit=>(bm [.eq r],[])):=by
 unfold lL at h
 replace h:=aZ h
 refine bV.of 80 Tryz.func81 rfl Tryz.ntmps81 rfl fun S w0=>?_
 refine sr ?_
 refine bx fun b1=>?_
 refine au ?_
 refine fl cI ?_
 refine lo bC ?_
 refine ol dB ?_
 refine au ?_
 refine ai ?_
 refine au ?_
 refine ol lJ ?_
 refine mq ?_
 refine jb (bg rfl) ?_
 refine au ?_
 refine ci h (fun h=>?_) (fun h=>?_)
 ·
  refine sr (ja (cH [(0,.const (.int .i64 (7)),_)] rfl xf uO tZ (il ⟨rfl,trivial⟩) rfl) ?_);refine ja (nr rfl F3) ?_;refine au ?_;cases h;exact ra
 ·
  refine au ?_;refine ol lJ ?_;refine mq ?_;refine jb (iD rfl) ?_;refine au ?_;refine ci h (fun h=>?_) (fun h=>?_)
  ·refine sr (ja (cH [(0,.const (.int .i64 (6)),_)] rfl xf uO tZ (il ⟨rfl,trivial⟩) rfl) ?_);refine ja (nr rfl F3) ?_;refine au ?_;cases h;exact ra
  ·refine cX (bX (tn (sr (cq (nt ?_)))));refine dK (Z:=Unit) (α:=Int) (fun z3 x2=>[(2,Pt b1),(6,.eq (.int .u8 x2))]) (fun z3 x2=>[.obj b1 27 (.rep ao a0)]) (fun e=>e=r) h (fun e h=>Option.some.inj h) (fun K hR h=>?_) (fun z3 x2 h=>?_)
   ·refine au ?_;refine ol lJ ?_;refine ff rfl ?_;refine nt (ai (aK (fun z5 y4=>[(2,Pt b1),(6,.eq (.int .u8 y4.1)),(28,.rep (.slice (.slice (.int .i64))) a1),(29,I (a1.length:Int)),(30,I y4.2)]) (fun z5 y4=>[.obj b1 27 (.rep ao a0)]) (fK k a0 a1) k () (0,0) (fun _=>rfl) h (SE.fin [0] ⟨rfl,rfl,rfl,rfl,rfl,trivial⟩ rfl) (fun n z5 y4 h=>?_)));unfold fK at h;refine sr (jb (bg rfl) ?_);refine au ?_;refine ci h (fun h=>?_) (fun h=>?_)
    ·refine sk (dK (Z:=Unit) (α:=Int) (fun z7 x6=>[(2,Pt b1),(6,.eq (.int .u8 x6)),(28,.rep (.slice (.slice (.int .i64))) a1),(29,I (a1.length:Int)),(30,I y4.2)]) (fun z7 x6=>[.obj b1 27 (.rep ao a0)]) (fun e=>e=r) h (fun e h=>hR e h) (fun K hR h=>?_) (fun z7 x6 h=>?_))
     ·refine ai (au ?_);obtain⟨x8,se,h⟩:=aa h;refine jb (aD (t:=(.slice (.int .i64))) rfl lJ bC se) ?_;refine ja (ak (t:=(.slice (.int .i64))) rfl bC rfl) ?_;refine aq ?_;refine aq (nt ?_);refine dK (Z:=Unit) (α:=Int) (fun s x9=>[(2,Pt b1),(6,.eq (.int .u8 x9)),(7,I y4.2),(8,Ri x8),(28,.rep (.slice (.slice (.int .i64))) a1),(29,I (a1.length:Int)),(30,I y4.2)]) (fun s x9=>[.obj b1 27 (.rep ao a0)]) (fun e=>e=r) h (fun e h=>hR e h) (fun K hR h=>?_) (fun s x9 h=>?_)
      ·refine au ?_;refine ol dB ?_;refine ff rfl ?_;refine nt (ai (aK (fun l c=>[(2,Pt b1),(6,.eq (.int .u8 c.1)),(7,I y4.2),(8,Ri x8),(28,.rep (.slice (.slice (.int .i64))) a1),(29,I (a1.length:Int)),(30,I y4.2),(35,Ri x8),(36,I (x8.length:Int)),(37,I c.2)]) (fun l c=>[.obj b1 27 (.rep ao a0)]) (eN k a0 x8) k () (y4.1,0) (fun _=>rfl) h (SE.fin [0] ⟨rfl,rfl,rfl,rfl,rfl,rfl,rfl,rfl,rfl,rfl,trivial⟩ rfl) (fun n l c h=>?_)));unfold eN at h;refine sr (jb (bg rfl) ?_);refine au ?_;refine ci h (fun h=>?_) (fun h=>?_)
       ·refine au ?_;refine ai (sr ?_);obtain⟨j,F,h⟩:=aa h;refine jb (aD (t:=(.int .i64)) rfl dB bY F) ?_;refine ja (ak (t:=(.int .i64)) rfl bY rfl) ?_;refine au ?_;refine fl bN ?_;refine lo eI ?_;refine ol mC ?_;obtain⟨ac,E,h⟩:=aa h;refine jb (fS rfl E) ?_;obtain⟨qt,U,h⟩:=aa h;refine jc (ap [.tmp 41,.const (.int .i64 (0)),.tmp 45] rfl rfl AU rfl (eS k j 0 ac qt U)) ?_;refine ja (eJ rfl) ?_;refine nt (cw h (fun h=>?_) (fun h=>?_))
        ·refine sr (ja (cH [(0,.const (.int .i64 (3)),_)] rfl xf uO tZ (il ⟨rfl,trivial⟩) rfl) ?_);refine ja (nr rfl F3) ?_;refine au ?_;obtain rfl:=hR _ h;exact ra
        ·refine au ?_;obtain⟨pp,Q,h⟩:=aa h;refine jb (ap [.tmp 50,.tmp 51] rfl rfl Lu rfl (iK k c.1 j pp Q)) ?_;refine nt (cv h (fun h=>?_) (fun h=>?_))
         ·refine sr (ja (cH [(0,.const (.int .i64 (4)),_)] rfl xf uO tZ (il ⟨rfl,trivial⟩) rfl) ?_);refine ja (nr rfl F3) ?_;refine au ?_;obtain rfl:=hR _ h;exact ra
         ·refine sk (ab (au ?_));obtain⟨u,O,h⟩:=aa h;refine jb (ap [.tmp 55,.tmp 56] rfl rfl Ls rfl (jB k c.1 j u O)) ?_;refine au ?_;refine ab ?_;obtain⟨Y,D,h⟩:=aa h;refine jb (aW rfl D) ?_;refine au ?_;exact jz ((),(u,Y)) h [0]
       ·refine au ?_;exact jz ((),c.1) h [0]
      ·refine ar (bR ?_);refine ea 0 (aj rfl cU (wy) rfl) ?_;refine dm ?_;obtain⟨mc,M,h⟩:=aa h;refine db (ap [.tmp 59,.tmp 60] rfl rfl QK rfl (t8 k a0 x8 mc M)) ?_;refine da (av rfl cI) ?_;refine ea 0 (aj rfl bC jF rfl) ?_;refine dm ?_;obtain⟨UU,y,h⟩:=aa h;refine db (aD (t:=(.int .i64)) rfl dB bY y) ?_;refine da (ak (t:=(.int .i64)) rfl bY rfl) ?_;refine df cE ?_;refine jb (iD rfl) ?_;refine nt (ci h (fun h=>?_) (fun h=>?_))
       ·refine sr (ja (cH [(0,.const (.int .i64 (12)),_)] rfl xf uO tZ (il ⟨rfl,trivial⟩) rfl) ?_);refine ja (nr rfl F3) ?_;refine au ?_;obtain rfl:=hR _ h;exact ra
       ·refine au ?_;exact jz ((),x9) h [0]
     ·refine ab ?_;obtain⟨X,x,h⟩:=aa h;refine jb (aW rfl x) ?_;refine au ?_;exact jz ((),(x6,X)) h [0]
    ·refine au ?_;exact jz ((),y4.1) h [0]
   ·refine au ?_;refine fl bN ?_;refine lo eI ?_;refine ol mC ?_;obtain⟨UV,J,h⟩:=aa h;refine jb (Ht rfl (aB J)) ?_;refine jb (Hr rfl) ?_;refine jb (g7 rfl) ?_;refine nt (cn h (fun h=>?_) (fun h=>?_))
    ·refine sr (ja (cH [(0,.const (.int .i64 (7)),_)] rfl xf uO tZ (il ⟨rfl,trivial⟩) rfl) ?_);refine ja (nr rfl F3) ?_;refine au ?_;cases h;exact ra
    ·refine au ?_;cases h;exact ra
def cO(k:Nat)(a0:(List (List Int)))(y5:(List (List Int))×Int):Nat→((List (List Int))×Int)→Option (List (List Int))
 |0,_=>none
 |n+1,y9=>
  if y9.2 < 5 then((((dj (0≤y5.2∧y5.2 < 3)).bind fun _=>
  (aR y9.1 y5.2).bind fun c=>
  (dj (0≤y9.2∧y9.2 < 5)).bind fun _=>
  ((if y5.2 < (a0.length:Int) then((aR a0 y5.2).bind fun r=>
  some (decide (y9.2 < (r.length:Int)))) else(some false)):Option (Bool)).bind fun s=>
  if s=true then((aR a0 y5.2).bind fun l=>
  (aR l y9.2).bind fun j=>
  (dj (0≤y5.2∧y5.2 < 3)).bind fun _=>
  (aR (List.set y9.1 (Int.toNat y5.2) (List.set c (Int.toNat y9.2) (-1:Int))) y5.2).bind fun h=>
  (dj (0≤y9.2∧y9.2 < 5)).bind fun _=>
  some (List.set (List.set y9.1 (Int.toNat y5.2) (List.set c (Int.toNat y9.2) (-1:Int))) (Int.toNat y5.2) (List.set h (Int.toNat y9.2) j))) else(some (List.set y9.1 (Int.toNat y5.2) (List.set c (Int.toNat y9.2) (-1:Int))))):Option ((List (List Int)))).bind fun u=>
  (ck (y9.2+1)).bind fun e=>
  cO k a0 y5 n (u,e)) else(some y9.1)
def c6(k:Nat)(a0:(List (List Int))):Nat→((List (List Int))×Int)→Option (List (List Int))
 |0,_=>none
 |n+1,y5=>
  if y5.2 < 3 then(((cO k a0 y5 k (y5.1,0)):Option ((List (List Int)))).bind fun x7=>
  (ck (y5.2+1)).bind fun c=>
  c6 k a0 n (x7,c)) else(some y5.1)
def dV(k:Nat)(a0:(List (List Int))):Option (List (List Int)):=
 ((c6 k a0 k ([[0,0,0,0,0],[0,0,0,0,0],[0,0,0,0,0]],0)):Option ((List (List Int)))).bind fun x3=>
 some x3
theorem fo(k:Nat)(a0:(List (List Int)))(r:(List (List Int)))(h:dV k a0=some r):
 bV Tryz.prog 47 [.rep (.slice (.slice (.int .i64))) a0] [] (fun _:Unit=>(bm [.rep (.arr 3 (.arr 5 (.int .i64))) r],[])):=by
 unfold dV at h
 replace h:=aZ h
 refine bV.of 43 Tryz.func47 rfl Tryz.ntmps47 rfl fun S w0=>?_
 refine sr ?_
 refine aE rfl rfl rfl (a9 rfl sT t3) trivial fun b1=>?_
 refine au ?_
 refine aE rfl rfl rfl (a9 rfl sT t3) trivial fun b2=>?_
 refine nt ?_
 refine aM (Z:=Unit) (α:=(List (List Int))) (fun z4 x3=>[(2,Pt b1),(3,Pt b2)]) (fun z4 x3=>[.obj b1 85 (.rep (.arr 3 (.arr 5 (.int .i64))) [[0,0,0,0,0],[0,0,0,0,0],[0,0,0,0,0]]),.obj b2 85 (.rep (.arr 3 (.arr 5 (.int .i64))) x3)]) h (fun K h=>?_) (fun z4 x3 h=>?_)
 ·
  refine sr (ff rfl ?_);refine nt (ai (aK (fun z6 y5=>[(0,.rep (.slice (.slice (.int .i64))) a0),(2,Pt b1),(3,Pt b2),(6,I y5.2)]) (fun z6 y5=>[.obj b1 85 (.rep (.arr 3 (.arr 5 (.int .i64))) [[0,0,0,0,0],[0,0,0,0,0],[0,0,0,0,0]]),.obj b2 85 (.rep (.arr 3 (.arr 5 (.int .i64))) y5.1)]) (c6 k a0) k () ([[0,0,0,0,0],[0,0,0,0,0],[0,0,0,0,0]],0) (fun _=>rfl) h (SE.fin [1,0] ⟨rfl,rfl,rfl,rfl,trivial⟩ rfl) (fun n z6 y5 h=>?_)));unfold c6 at h;refine sr (jb (bg rfl) ?_);refine au ?_;refine ci h (fun h=>?_) (fun h=>?_)
  ·refine sk (aM (Z:=Unit) (α:=(List (List Int))) (fun z8 x7=>[(0,.rep (.slice (.slice (.int .i64))) a0),(2,Pt b1),(3,Pt b2),(6,I y5.2)]) (fun z8 x7=>[.obj b1 85 (.rep (.arr 3 (.arr 5 (.int .i64))) [[0,0,0,0,0],[0,0,0,0,0],[0,0,0,0,0]]),.obj b2 85 (.rep (.arr 3 (.arr 5 (.int .i64))) x7)]) h (fun K h=>?_) (fun z8 x7 h=>?_))
   ·refine ai (au ?_);refine ff rfl ?_;refine nt (ai (aK (fun J y9=>[(0,.rep (.slice (.slice (.int .i64))) a0),(2,Pt b1),(3,Pt b2),(4,I y5.2),(6,I y5.2),(9,I y9.2)]) (fun J y9=>[.obj b1 85 (.rep (.arr 3 (.arr 5 (.int .i64))) [[0,0,0,0,0],[0,0,0,0,0],[0,0,0,0,0]]),.obj b2 85 (.rep (.arr 3 (.arr 5 (.int .i64))) y9.1)]) (cO k a0 y5) k () (y5.1,0) (fun _=>rfl) h (SE.fin [0,1] ⟨rfl,rfl,rfl,rfl,rfl,rfl,trivial⟩ rfl) (fun n J y9 h=>?_)));unfold cO at h;refine sr (jb (bg rfl) ?_);refine au ?_;refine ci h (fun h=>?_) (fun h=>?_)
    ·refine sk (aM (Z:=Unit) (α:=(List (List Int))) (fun F l=>[(0,.rep (.slice (.slice (.int .i64))) a0),(2,Pt b1),(3,Pt b2),(4,I y5.2),(6,I y5.2),(9,I y9.2)]) (fun F l=>[.obj b1 85 (.rep (.arr 3 (.arr 5 (.int .i64))) [[0,0,0,0,0],[0,0,0,0,0],[0,0,0,0,0]]),.obj b2 85 (.rep (.arr 3 (.arr 5 (.int .i64))) l)]) h (fun K h=>?_) (fun F l h=>?_))
     ·refine ai (au ?_);obtain⟨UZ,x,h⟩:=aa h;refine jb (iU rfl RZ GY (aB x).1 (aB x).2) ?_;obtain⟨D,ac,h⟩:=aa h;obtain⟨UY,e,h⟩:=aa h;refine jb (iU rfl R2 bY (aB e).1 (aB e).2) ?_;refine fr 1 ?_;refine bf rfl rfl (nZ (t:=(.int .i64)) (off:=0) (i:=y5.2) (j:=y9.2) (N:=3) (L:=5) rfl bY .int rfl rfl rfl rfl ac (aB e).1 (aB e).2 rfl) ⟨rfl,rfl,trivial⟩ ?_;refine nt (aM (Z:=Unit) (α:=Bool) (fun E y=>[(0,.rep (.slice (.slice (.int .i64))) a0),(2,Pt b1),(3,Pt b2),(4,I y5.2),(5,I y9.2),(6,I y5.2),(9,I y9.2),(28,.eq (.bool y))]) (fun E y=>[.obj b1 85 (.rep (.arr 3 (.arr 5 (.int .i64))) [[0,0,0,0,0],[0,0,0,0,0],[0,0,0,0,0]]),.obj b2 85 (.rep (.arr 3 (.arr 5 (.int .i64))) (List.set y9.1 (Int.toNat y5.2) (List.set D (Int.toNat y9.2) (-1:Int))))]) h (fun K h=>?_) (fun E y h=>?_))
      ·refine ab (au ?_);refine ol lJ ?_;refine jb (bg rfl) ?_;refine mq ?_;refine cd (s:=20) rfl (fun hb=>?_) (fun hb=>?_)
       ·replace h:=cG (oK hb) h;refine au ?_;obtain⟨UU,Y,h⟩:=aa h;refine gb (aD (t:=(.slice (.int .i64))) rfl lJ bC Y) ?_;refine ga (ak (t:=(.slice (.int .i64))) rfl bC rfl) ?_;refine ga (jQ rfl rfl dB) ?_;refine gb (bg rfl) ?_;refine au ?_;exact jz ((),decide (y9.2 < (UU.length:Int))) h [1,0]
       ·replace h:=bO (nL hb) h;refine au ?_;exact jz ((),false) h [1,0]
      ·refine cv h (fun h=>?_) (fun h=>?_)
       ·refine bR ?_;refine dm ?_;refine dm ?_;refine dm ?_;refine dm ?_;obtain⟨UV,X,h⟩:=aa h;refine db (aD (t:=(.slice (.int .i64))) rfl lJ bC X) ?_;refine da (ak (t:=(.slice (.int .i64))) rfl bC rfl) ?_;refine dm ?_;obtain⟨se,U,h⟩:=aa h;refine db (aD (t:=(.int .i64)) rfl dB bY U) ?_;refine da (ak (t:=(.int .i64)) rfl bY rfl) ?_;obtain⟨UX,u,h⟩:=aa h;refine db (iU rfl RZ GY (aB u).1 (aB u).2) ?_;refine df cE ?_;obtain⟨qt,Q,h⟩:=aa h;obtain⟨UW,c,h⟩:=aa h;refine jb (iU rfl R2 bY (aB c).1 (aB c).2) ?_;refine fr 1 ?_;refine bf rfl rfl (nZ (t:=(.int .i64)) (off:=0) (i:=y5.2) (j:=y9.2) (N:=3) (L:=5) rfl bY .int rfl rfl rfl rfl Q (aB c).1 (aB c).2 rfl) ⟨rfl,rfl,trivial⟩ ?_;refine au ?_;exact jz ((),List.set (List.set y9.1 (Int.toNat y5.2) (List.set D (Int.toNat y9.2) (-1:Int))) (Int.toNat y5.2) (List.set qt (Int.toNat y9.2) se)) h [1,0]
       ·refine au ?_;exact jz ((),List.set y9.1 (Int.toNat y5.2) (List.set D (Int.toNat y9.2) (-1:Int))) h [0,1]
     ·refine ab ?_;obtain⟨pp,O,h⟩:=aa h;refine jb (aW rfl O) ?_;refine au ?_;exact jz ((),(l,pp)) h [0,1]
    ·refine au ?_;exact jz ((),y9.1) h [0,1]
   ·refine ab ?_;obtain⟨mc,M,h⟩:=aa h;refine jb (aW rfl M) ?_;refine au ?_;exact jz ((),(x7,mc)) h [0,1]
  ·refine au ?_;exact jz ((),y5.1) h [0,1]
 ·
  refine sr (fr 1 ?_);refine lo ge ?_;refine fr 1 ?_;refine bf rfl rfl (a8 rfl ge rfl rfl rfl) ⟨rfl,rfl,trivial⟩ ?_;refine au ?_;obtain rfl:=Option.some.inj h;exact aO () [.rep (.arr 3 (.arr 5 (.int .i64))) x3] 0 ⟨⟨_,_,_,_,_,rfl,(.head _),ge,(wy),rfl⟩,trivial⟩ rfl
def cS(k:Nat)(x5:(List Int)):Nat→((List Int)×Int)→Option (List Int)
 |0,_=>none
 |n+1,y6=>
  if y6.2 < 5 then((((aR x5 y6.2).bind fun c=>
  if 0≤c then((dj (bq (List.length y6.1+List.length [c]))).bind fun _=>
  some (y6.1++[c])) else(some y6.1)):Option ((List Int))).bind fun x8=>
  (ck (y6.2+1)).bind fun e=>
  cS k x5 n (x8,e)) else(some y6.1)
def dP(k:Nat)(a0:(List (List Int)))(a1:Int):Option (List Int):=
 (((dj (0≤a1∧a1 < 3)).bind fun _=>
 (aR a0 a1).bind fun x5=>
 cS k x5 k (([]:(List Int)),0)):Option ((List Int))).bind fun x2=>
 some x2
theorem gl(k:Nat)(a0:(List (List Int)))(a1:Int)(r:(List Int))(h:dP k a0 a1=some r):
 bV Tryz.prog 78 [.rep (.arr 3 (.arr 5 (.int .i64))) a0,I a1] [] (fun _:Unit=>(bm [Ri r],[])):=by
 unfold dP at h
 replace h:=aZ h
 refine bV.of 22 Tryz.func78 rfl Tryz.ntmps78 rfl fun S w0=>?_
 refine sr ?_
 refine bx fun b1=>?_
 refine cq ?_
 refine nt ?_
 refine sr ?_
 refine cq ?_
 refine nt ?_
 refine aM (Z:=Value) (α:=(List Int)) (fun z3 x2=>[(5,.eq z3)]) (fun z3 x2=>[.sl z3 3 (.int .i64) x2]) h (fun K h=>?_) (fun z3 x2 h=>?_)
 ·
  refine au ?_;obtain⟨u4,l,h⟩:=aa h;refine jb (iU rfl RZ GY (aB l).1 (aB l).2) ?_;obtain⟨x5,y,h⟩:=aa h;refine ka (CH (t:=(.arr 5 (.int .i64))) (off:=0) (i:=a1) (N:=3) rfl GY (wy) rfl rfl rfl rfl y) ?_;refine ff rfl ?_;refine nt (ai (dA (SE.nil 3 (.int .i64)) ?_));refine aK (fun z7 y6=>[(5,.eq z7),(10,.rep (.arr 5 (.int .i64)) x5),(11,I y6.2)]) (fun z7 y6=>[.sl z7 3 (.int .i64) y6.1]) (cS k x5) k (.slice none 0 0) (([]:(List Int)),0) (fun _=>rfl) h (SE.fin [0] ⟨rfl,rfl,rfl,trivial⟩ rfl) (fun n z7 y6 h=>?_);unfold cS at h;refine sr (jb (bg rfl) ?_);refine au ?_;refine ci h (fun h=>?_) (fun h=>?_)
  ·refine sk (aM (Z:=Value) (α:=(List Int)) (fun z9 x8=>[(5,.eq z9),(10,.rep (.arr 5 (.int .i64)) x5),(11,I y6.2)]) (fun z9 x8=>[.sl z9 3 (.int .i64) x8]) h (fun K h=>?_) (fun z9 x8 h=>?_))
   ·refine ai (sr ?_);obtain⟨c,j,h⟩:=aa h;refine jb (Ac (t:=(.int .i64)) rfl R2 bY rfl rfl (fun _=>rfl) j) ?_;refine au ?_;refine jb (qC rfl) ?_;refine nt (ci h (fun h=>?_) (fun h=>?_))
    ·refine ab (au ?_);refine ja (be (t:=(.int .i64)) [(.tmp 17,_)] [c] rfl rfl dp (.cons rfl .int .nil) rfl rfl) ?_;obtain⟨D,s,h⟩:=aa h;refine cz rfl rfl rfl (bp rfl rfl dp (aB s)) ⟨rfl,rfl,trivial⟩ fun x=>?_;refine au ?_;exact jz (x,y6.1++[c]) h [0]
    ·refine au ?_;exact jz (z7,y6.1) h [0]
   ·refine ab ?_;obtain⟨u,e,h⟩:=aa h;refine jb (aW rfl e) ?_;refine au ?_;exact jz (z9,(x8,u)) h [0]
  ·refine au ?_;exact jz (z7,y6.1) h [0]
 ·
  refine sr (mq ?_);refine aq (nt (bH ?_));refine bz (d5 [4,5,21] ⟨rfl,rfl,rfl,trivial⟩) ?_;cases h;exact ra
def cF{σ:Type}(k:Nat)(a1:(List Int))(Y:σ→(Int×Int)→Option (σ×Bool)):Nat→(Int×σ)→Option (σ)
 |0,_=>none
 |n+1,y2=>
  if 0≤y2.1 then((aR a1 y2.1).bind fun x4=>
  (Y y2.2 (y2.1,x4)).bind fun r5=>
  if¬(r5.2=true) then(some r5.1) else((ck (y2.1 - 1)).bind fun x7=>
  cF k a1 Y n (x7,r5.1))) else(some y2.2)
def ia{σ:Type}(k:Nat)(Y:σ→(Int×Int)→Option (σ×Bool))(a1:(List Int))(s0:σ):Option (σ):=
 (ck ((a1.length:Int) - 1)).bind fun x1=>
 cF k a1 Y k (x1,s0)
theorem oM{M:Md Tryz.prog}{σ Z:Type}(E:Z→σ→List D)(l:Nat)(Y:σ→(Int×Int)→Option (σ×Bool))(k:Nat)(a1:(List Int))(c:Nat)(hY:∀z s p r,Y s p=some r→YT M l [I p.1,I p.2] (E z s) (fun z':Z=>(.eq (.bool r.2),E z' r.1))):
 ∀(z0:Z) (s0:σ) (r:σ),ia k Y a1 s0=some r→dG M 166 [.eq (.func (.yield l) #[] #[]),Pt c] ([.obj c 22 (Ri a1)]++E z0 s0) (fun z:Z=>(bm [],[.obj c 22 (Ri a1)]++E z r)):=by
 intro z0 s0 r h
 unfold ia at h
 replace h:=aZ h
 refine dG.of 19 Tryz.func166 rfl Tryz.ntmps166 rfl fun S w0=>?_
 refine sr ?_
 refine lo bC ?_
 refine ol dB ?_
 obtain⟨x1,u,h⟩:=aa h
 refine jb (fS rfl u) ?_
 refine au ?_
 refine ai ?_
 refine aK (Z:=Z) (α:=Int×σ) (fun z3 y2=>[(0,.eq (.func (.yield l) #[] #[])),(1,Pt c),(3,I y2.1)]) (fun z3 y2=>[.obj c 22 (Ri a1)]++E z3 y2.2) (cF k a1 Y) k z0 (x1,s0) (fun _=>rfl) h (bi [.obj c 22 (Ri a1)] (E z0 s0) [0] ⟨rfl,rfl,rfl,trivial⟩ rfl) (fun n z3 y2 h=>?_)
 unfold cF at h
 refine au ?_
 refine jb (qC rfl) ?_
 refine nt ?_
 refine ci h (fun h=>?_) (fun h=>?_)
 ·
  refine au ?_;refine ai (au ?_);refine lo bC ?_;refine mq ?_;obtain⟨x4,j,h⟩:=aa h;refine jb (aD (t:=(.int .i64)) rfl dB bY j) ?_;refine ja (ak (t:=(.int .i64)) rfl bY rfl) ?_;obtain⟨r5,x,h⟩:=aa h;refine pM [.obj c 22 (Ri a1)] rfl rfl rfl (yt [.tmp 12,.tmp 16] rfl rfl rfl (hY z3 y2.2 (y2.1,x4) r5 x)) ⟨rfl,rfl,rfl,trivial⟩ fun z6=>?_;refine ja (eJ rfl) ?_;refine nt (cw h (fun h=>?_) (fun h=>?_))
  ·refine au ?_;cases h;exact jg z6 [] trivial rfl
  ·refine au ?_;refine ab (mq ?_);obtain⟨x7,e,h⟩:=aa h;refine jb (fS rfl e) ?_;refine au ?_;exact jf (z6,(x7,r5.1)) h (bi [.obj c 22 (Ri a1)] (E z6 r5.1) [0] ⟨rfl,rfl,rfl,trivial⟩ rfl)
 ·
  refine au ?_;refine jw ?_;cases h;exact jg z3 [] trivial rfl
theorem qu(a0:(List Int)):bV Tryz.prog 148 [Ri a0] [] (fun z:Nat=>(bm [.eq (.func (.func 166) #[] #[(Pv z)])],[.obj z 22 (Ri a0)])):=by
 refine bV.of 4 Tryz.func148 rfl Tryz.ntmps148 rfl fun S w0=>?_;refine sr (bx fun z=>?_);refine au ?_;refine ja (tu [] [.tmp 1] [] [(Pv z)] rfl rfl rfl) ?_;refine au ?_;exact aO z [_] 1 ⟨rfl,trivial⟩ rfl
def oY(k:Nat)(a0:(List Int)):Option (List Int):=
 (ia k (qB (fun(y3:(List Int)) (p5:(Int×Int))=>
  some ((p5.2::y3),true))) a0 ([],false)).bind fun r6=>
 if r6.2=true then(none) else(some r6.1)
theorem zA(k:Nat)(a0:(List Int))(r:(List Int))(h:oY k a0=some r):
 bV Tryz.prog 118 [Ri a0] [] (fun _:Unit=>(bm [.rep (.lst (.int .i64)) r],[])):=by
 unfold oY at h
 replace h:=aZ h
 refine zg 15 Tryz.func118 rfl Tryz.ntmps118 rfl fun {M} S w0=>?_
 refine au ?_
 refine aE rfl rfl rfl (a9 rfl Pi Ru) trivial fun b1=>?_
 refine au ?_
 refine aE rfl rfl rfl (ap [.tmp 6] rfl rfl Q5 rfl (qu a0)) ⟨rfl,trivial⟩ fun b2=>?_
 refine nt ?_
 refine ai ?_
 refine jx 1 rfl ?_
 refine dA (oq (a:=.eq (.pointer none)) (a':=.rep (.lst (.int .i64)) []) (wx .lnil)) ?_
 refine jx 1 rfl ?_
 obtain⟨r6,c,h⟩:=aa h
 refine ow (Δ:=[.obj b2 22 (Ri a0),.obj b1 196 (.rep (.lst (.int .i64)) [])]) (F:=[]) (X:=Unit) (J:=fun _=>KZ r6.2) (E:=fun z4=>[.obj b2 22 (Ri a0),.obj b1 196 (.rep (.lst (.int .i64)) r6.1)]) (r0:=fun _=>.tup .any) rfl rfl Q0 (fun rec hp ha hb hs hpe hN hv l=>?_) (fun dl z4=>qM (fun hj=>?_) (fun hj=>?_))
 ·
  rcases rec with⟨st0,pe0,fn0,tm0,ps0,as0,bd0,df0⟩;dsimp only at hp ha hb hs hpe hN hv;subst hp hs hpe;have vN:we tm0 [(3,Pt b1)]:=⟨congrArg A.eq (hv 3 _ rfl).symm,trivial⟩;refine dG.pick (M:=M) [1,0,2] [1,0,2] (oM (fun(z4:Unit) (q:(List Int)×Bool)=>[.raw l (.loop (j8 ⟨.ready,none,fn0,tm0, #[8,9],as0,bd0,df0⟩ (KZ q.2))),.obj b1 196 (.rep (.lst (.int .i64)) q.1)]) l (qB (fun(y3:(List Int)) (p5:(Int×Int))=>
  some ((p5.2::y3),true))) k a0 b2 (fun z4 q p r' h=>?_) () ([],false) r6 c) rfl (fun _=>rfl) (fun _=>rfl)
  obtain⟨rq,hq,h2,rfl⟩:=qN h;obtain⟨y3,b5⟩:=q;obtain rfl:b5=false:=hq;replace h:=aZ h2;obtain⟨p5,hpv⟩:∃x,x=p:=⟨_,rfl⟩;subst hpv;refine YT.pick (R':=(fun z4:Unit=>(.eq (.bool rq.2),[.raw l (.loop (j8 ⟨.ready,none,fn0,tm0, #[8,9],as0,bd0,df0⟩ (KZ (!rq.2)))),.obj b1 196 (.rep (.lst (.int .i64)) rq.1)]))) [0,1] [0,1] (LY ha hb (N:=15) (Γ:=[(3,Pt b1)]) rfl hN (by decide) vN (fun S w=>?_)) rfl (fun _=>rfl) (fun _=>rfl);refine ab (au ?_);refine wq rfl rfl ?_;refine ai (ab (mq ?_));refine fr 1 ?_;refine lo zF ?_;refine jb (cH [(0,.tmp 10,_),(1,.tmp 11,_)] rfl PS Pg OJ (il ⟨rfl,rfl,trivial⟩) rfl) ?_;refine aE rfl rfl rfl (oH rfl trivial) ⟨rfl,trivial⟩ fun b7=>?_;refine ct (lS (t:=GT) (x:=(p5.2,y3)) [13] (.agg (.pair .int .rep)) ⟨rfl,trivial⟩) ?_;refine bf rfl rfl (a8 rfl zF trivial rfl rfl) ⟨rfl,rfl,trivial⟩ ?_;refine ay (bX (bz (oq (a:=.at GT (p5.2,y3)) (a':=.rep (.lst (.int .i64)) (p5.2::y3)) (wx .lcons)) ?_));refine dh 1 rfl ?_;cases h;exact t5 () 1 rfl
 ·
  replace h:=bO (EI hj) h;refine bX (tn (sr (fr 2 ?_)));refine lo zF ?_;refine aq (nt (bH ?_));refine dh 1 rfl ?_;refine zd ?_;cases h;exact ra
 ·
  replace h:=cG (EH hj) h;cases h
def gU(k:Nat)(a1:Int):Nat→(Int×(List Int)×(List Int)×(List Int))→Option (Int×(List Int))
 |0,_=>none
 |n+1,y2=>
  if List.isEmpty y2.2.2.2=true then((dj (bq (List.length y2.2.2.1+List.length y2.2.1))).bind fun _=>
  some (y2.1,y2.2.2.1++y2.2.1)) else((oU y2.2.2.2).bind fun x6=>
  (dU k a1 x6.1).bind fun r7=>
  if r7=true then((oU y2.2.2.2).bind fun x8=>
  (dj (bq (List.length y2.2.1+List.length [x8.1]))).bind fun _=>
  (oU y2.2.2.2).bind fun l=>
  gU k a1 n (y2.1,y2.2.1++[x8.1],y2.2.2.1,l.2)) else(((if 0 < (y2.2.1.length:Int) then((oU y2.2.2.2).bind fun h=>
  (eO k y2.1 h.1).bind fun r=>
  some r) else(some y2.1)):Option (Int)).bind fun j=>
  (oU y2.2.2.2).bind fun c=>
  (dj (bq (List.length y2.2.2.1+List.length [c.1]))).bind fun _=>
  (oU y2.2.2.2).bind fun e=>
  gU k a1 n (j,y2.2.1,y2.2.2.1++[c.1],e.2)))
def ng(k:Nat)(a0:(List Int))(a1:Int):Option (Int×(List Int)):=
 (oY k a0).bind fun r1=>
 gU k a1 k (0,([]:(List Int)),([]:(List Int)),r1)
theorem t9(k:Nat)(a0:(List Int))(a1:Int)(r:Int×(List Int))(h:ng k a0 a1=some r):
 bV Tryz.prog 97 [Ri a0,.eq (.int .u8 a1)] [] (fun _:Unit=>(bm [.eq (.int .u8 r.1),Ri r.2],[])):=by
 unfold ng at h
 replace h:=aZ h
 refine bV.of 54 Tryz.func97 rfl Tryz.ntmps97 rfl fun S w0=>?_
 refine au ?_
 refine Gi rfl (Ea (by kernel_rfl) (Ea (by kernel_rfl) (Ob Oa))) ?_
 refine au ?_
 obtain⟨r1,mc,h⟩:=aa h
 have pp:=zA k a0 r1 mc
 refine ja (ap [.tmp 9] rfl rfl Re rfl pp) ?_
 refine au ?_
 refine Jy ?_
 refine tn ?_
 refine dA (SE.nil 3 (.int .i64)) ?_
 refine dA (SE.nil 3 (.int .i64)) ?_
 refine Ds (Z:=Value×Value) (α:=Int×(List Int)×(List Int)×(List Int)) rfl (fun z3 y2=>[(1,.eq (.int .u8 a1)),(4,.eq (.int .u8 y2.1)),(6,.eq z3.1),(7,.eq z3.2),(8,.rep (.lst (.int .i64)) y2.2.2.2)]) (fun z3 y2=>[.sl z3.1 3 (.int .i64) y2.2.1,.sl z3.2 3 (.int .i64) y2.2.2.1]) (gU k a1) k ((.slice none 0 0),(.slice none 0 0)) (0,([]:(List Int)),([]:(List Int)),r1) (fun _=>rfl) h (SE.fin [1,0] ⟨rfl,rfl,rfl,rfl,rfl,trivial⟩ rfl) (fun n z3 y2 h=>?_)
 unfold gU at h
 refine au ?_
 refine jb (Hz rfl Uo) ?_
 refine nt ?_
 refine cv h (fun h=>?_) (fun h=>?_)
 ·
  refine sr ?_;iterate 3 refine mq ?_
  refine ct (d5 [6,15] ⟨rfl,rfl,trivial⟩) ?_;obtain⟨u4,Y,h⟩:=aa h;refine cz rfl rfl rfl (bp rfl rfl dp (aB Y)) ⟨rfl,rfl,trivial⟩ fun v5=>?_;refine au ?_;refine Jx ?_;refine bz (d5 [5,16] ⟨rfl,rfl,trivial⟩) ?_;cases h;exact rb
 ·
  refine au ?_;obtain⟨x6,U,h⟩:=aa h;refine ja (lP rfl U) ?_;refine ja (aJ 1 false rfl uJ rfl) ?_;refine ja (ak (t:=(.int .i64)) rfl bY rfl) ?_;obtain⟨r7,ac,h⟩:=aa h;refine jb (ap [.tmp 17,.tmp 21] rfl rfl Lu rfl (iK k a1 x6.1 r7 ac)) ?_;refine nt (cv h (fun h=>?_) (fun h=>?_))
  ·refine au ?_;obtain⟨x8,Q,h⟩:=aa h;refine ja (lP rfl Q) ?_;refine ja (aJ 1 false rfl uJ rfl) ?_;refine ja (ak (t:=(.int .i64)) rfl bY rfl) ?_;refine ja (be (t:=(.int .i64)) [(.tmp 27,_)] [x8.1] rfl rfl dp (.cons rfl .int .nil) rfl rfl) ?_;obtain⟨u9,X,h⟩:=aa h;refine cz rfl rfl rfl (bp rfl rfl dp (aB X)) ⟨rfl,rfl,trivial⟩ fun O=>?_;refine au ?_;obtain⟨J,y,h⟩:=aa h;refine ja (lP rfl y) ?_;refine ja (aJ 1 false rfl D8 rfl) ?_;refine ja (ak (t:=(.lst (.int .i64))) rfl zF rfl) ?_;refine au ?_;refine Ew ?_;refine Gh ?_;exact Et ((O,z3.2),(y2.1,y2.2.1++[x8.1],y2.2.2.1,J.2)) h (SE.fin [0,1] ⟨rfl,rfl,rfl,rfl,rfl,trivial⟩ rfl)
  ·refine sk (aM (Z:=Unit) (α:=Int) (fun e c=>[(1,.eq (.int .u8 a1)),(4,.eq (.int .u8 c)),(6,.eq z3.1),(7,.eq z3.2),(8,.rep (.lst (.int .i64)) y2.2.2.2)]) (fun e c=>[.sl z3.1 3 (.int .i64) y2.2.1,.sl z3.2 3 (.int .i64) y2.2.2.1]) h (fun K h=>?_) (fun e c h=>?_))
   ·refine au ?_;refine ka (cZ rfl rfl dB) ?_;refine jb (iD rfl) ?_;refine nt (ci h (fun h=>?_) (fun h=>?_))
    ·refine ab (au ?_);obtain⟨I,x,h⟩:=aa h;refine ja (lP rfl x) ?_;refine ja (aJ 1 false rfl uJ rfl) ?_;refine ja (ak (t:=(.int .i64)) rfl bY rfl) ?_;obtain⟨l,E,h⟩:=aa h;refine jb (ap [.tmp 37,.tmp 41] rfl rfl Ls rfl (jB k y2.1 I.1 l E)) ?_;refine au ?_;exact jz ((),l) h [0,1]
    ·refine au ?_;exact jz ((),y2.1) h [0,1]
   ·refine au ?_;obtain⟨j,u,h⟩:=aa h;refine ja (lP rfl u) ?_;refine ja (aJ 1 false rfl uJ rfl) ?_;refine ja (ak (t:=(.int .i64)) rfl bY rfl) ?_;refine ja (be (t:=(.int .i64)) [(.tmp 47,_)] [j.1] rfl rfl dp (.cons rfl .int .nil) rfl rfl) ?_;obtain⟨qt,D,h⟩:=aa h;refine fr 1 ?_;refine cz rfl rfl rfl (bp rfl rfl dp (aB D)) ⟨rfl,rfl,trivial⟩ fun M=>?_;refine au ?_;obtain⟨F,s,h⟩:=aa h;refine ja (lP rfl s) ?_;refine ja (aJ 1 false rfl D8 rfl) ?_;refine ja (ak (t:=(.lst (.int .i64))) rfl zF rfl) ?_;refine au ?_;refine Ew ?_;exact Et ((z3.1,M),(c,y2.2.1,y2.2.2.1++[j.1],F.2)) h (SE.fin [1,0] ⟨rfl,rfl,rfl,rfl,rfl,trivial⟩ rfl)
def dq(k:Nat)(a0:(List Int))(a1:Int):Nat→Int→Option (Except Int Unit)
 |0,_=>none
 |n+1,y3=>
  if y3 < (a0.length:Int) then((aR a0 y3).bind fun x5=>
  if a1=x5 then(some (.error y3)) else((ck (y3+1)).bind fun x6=>
  dq k a0 a1 n x6)) else(some (.ok ()))
def jp(k:Nat)(a0:(List Int))(a1:Int):Option Int:=
 bE (α:=Unit) (dq k a0 a1 k 0) (some) fun _=>
 some (-1:Int)
theorem td(k:Nat)(a0:(List Int))(a1:Int)(r:Int)(h:jp k a0 a1=some r):
 bV Tryz.prog 149 [Ri a0,I a1] [] (fun _:Unit=>(bm [I r],[])):=by
 unfold jp at h
 replace h:=aZ h
 refine bV.of 19 Tryz.func149 rfl Tryz.ntmps149 rfl fun S w0=>?_
 refine sr ?_
 refine cq ?_
 refine nt ?_
 refine dK (Z:=Unit) (α:=Unit) (fun z2 x1=>[]) (fun z2 x1=>[]) (fun e=>e=r) h (fun e h=>Option.some.inj h) (fun K hR h=>?_) (fun z2 x1 h=>?_)
 ·
  refine au ?_;refine ol dB ?_;refine ff rfl ?_;refine nt (ai (aK (fun z4 y3=>[(0,Ri a0),(1,I a1),(7,I (a0.length:Int)),(8,I y3)]) (fun z4 y3=>[]) (dq k a0 a1) k () 0 (fun _=>rfl) h (SE.fin [] ⟨rfl,rfl,rfl,rfl,trivial⟩ rfl) (fun n z4 y3 h=>?_)));unfold dq at h;refine sr (jb (bg rfl) ?_);refine au ?_;refine ci h (fun h=>?_) (fun h=>?_)
  ·refine au ?_;refine ai (au ?_);obtain⟨x5,j,h⟩:=aa h;refine jb (aD (t:=(.int .i64)) rfl dB bY j) ?_;refine ja (ak (t:=(.int .i64)) rfl bY rfl) ?_;refine jb (fq rfl) ?_;refine nt (ci h (fun h=>?_) (fun h=>?_))
   ·refine au ?_;obtain rfl:=hR _ h;exact ra
   ·refine au ?_;refine ab ?_;obtain⟨x6,c,h⟩:=aa h;refine jb (aW rfl c) ?_;refine au ?_;exact jz ((),x6) h []
  ·refine au ?_;exact jz ((),()) h []
 ·
  refine au ?_;cases h;exact ra
def gr(k:Nat)(a0:(List Int))(a1:Int):Option Bool:=
 (jp k a0 a1).bind fun r1=>
 some (decide (0≤r1))
theorem qo(k:Nat)(a0:(List Int))(a1:Int)(r:Bool)(h:gr k a0 a1=some r):
 bV Tryz.prog 119 [Ri a0,I a1] [] (fun _:Unit=>(bm [.eq (.bool r)],[])):=by
 unfold gr at h
 replace h:=aZ h
 refine bV.of 9 Tryz.func119 rfl Tryz.ntmps119 rfl fun S w0=>?_
 refine au ?_
 obtain⟨r1,c,h⟩:=aa h
 have e:=td k a0 a1 r1 c
 refine jb (ap [.tmp 5,.tmp 6] rfl rfl Q4 rfl e) ?_
 refine jb (qC rfl) ?_
 refine au ?_
 cases h
 exact ra
def fg(k:Nat)(a0:dn)(a1:Int):Nat→(Int×Int)→Option Int
 |0,_=>none
 |n+1,y3=>
  if y3.2 < (a0.1.2.1.length:Int) then((((aR a0.1.2.1 y3.2).bind fun x7=>
  (gr k x7.2 a1).bind fun r9=>
  if r9=true then((eO k y3.1 y3.2).bind fun e=>
  some e) else(some y3.1)):Option (Int)).bind fun x5=>
  (ck (y3.2+1)).bind fun c=>
  fg k a0 a1 n (x5,c)) else(some y3.1)
def ip(k:Nat)(a0:dn)(a1:Int):Option Int:=
 ((fg k a0 a1 k (0,0)):Option (Int)).bind fun x1=>
 some x1
theorem nb(k:Nat)(a0:dn)(a1:Int)(r:Int)(h:ip k a0 a1=some r):
 bV Tryz.prog 98 [.at bI a0,I a1] [] (fun _:Unit=>(bm [.eq (.int .u8 r)],[])):=by
 unfold ip at h
 replace h:=aZ h
 refine bV.of 28 Tryz.func98 rfl Tryz.ntmps98 rfl fun S w0=>?_
 refine sr ?_
 refine cq ?_
 refine nt ?_
 refine sr ?_
 refine cq ?_
 refine nt ?_
 refine aM (Z:=Unit) (α:=Int) (fun z2 x1=>[(5,.eq (.int .u8 x1))]) (fun z2 x1=>[]) h (fun K h=>?_) (fun z2 x1 h=>?_)
 ·
  refine au ?_;refine ja (dL rfl) ?_;refine ja (aJ 3 true rfl ko rfl) ?_;refine ja (aJ 1 false rfl bN rfl) ?_;refine ja (ak (t:=(.slice aH)) rfl eI rfl) ?_;refine ol mC ?_;refine ff rfl ?_;refine nt (ai (aK (fun z4 y3=>[(1,I a1),(5,.eq (.int .u8 y3.1)),(12,Rs aH a0.1.2.1),(13,I (a0.1.2.1.length:Int)),(14,I y3.2)]) (fun z4 y3=>[]) (fg k a0 a1) k () (0,0) (fun _=>rfl) h (SE.fin [] ⟨rfl,rfl,rfl,rfl,rfl,trivial⟩ rfl) (fun n z4 y3 h=>?_)));unfold fg at h;refine sr (jb (bg rfl) ?_);refine au ?_;refine ci h (fun h=>?_) (fun h=>?_)
  ·refine sk (aM (Z:=Unit) (α:=Int) (fun z6 x5=>[(1,I a1),(5,.eq (.int .u8 x5)),(12,Rs aH a0.1.2.1),(13,I (a0.1.2.1.length:Int)),(14,I y3.2)]) (fun z6 x5=>[]) h (fun K h=>?_) (fun z6 x5 h=>?_))
   ·refine ai (au ?_);obtain⟨x7,s,h⟩:=aa h;refine jb (aD (t:=aH) rfl mC gJ s) ?_;refine ja (ak (t:=aH) rfl gJ rfl) ?_;refine aE rfl rfl rfl (a9 rfl ul LS) trivial fun b8=>?_;refine aq ?_;refine bf rfl rfl (a8 rfl gJ rfl rfl rfl) ⟨rfl,rfl,trivial⟩ ?_;refine au ?_;refine fl km ?_;refine lo bC ?_;refine mq ?_;obtain⟨r9,u,h⟩:=aa h;refine jb (ap [.tmp 20,.tmp 21] rfl rfl Rb rfl (qo k x7.2 a1 r9 u)) ?_;refine nt (cv h (fun h=>?_) (fun h=>?_))
    ·refine ab (au ?_);obtain⟨c,j,h⟩:=aa h;refine jb (ap [.tmp 23,.tmp 24] rfl rfl Ls rfl (jB k y3.1 y3.2 c j)) ?_;refine au ?_;exact jz ((),c) h []
    ·refine au ?_;exact jz ((),y3.1) h []
   ·refine ab ?_;obtain⟨l,e,h⟩:=aa h;refine jb (aW rfl e) ?_;refine au ?_;exact jz ((),(x5,l)) h []
  ·refine au ?_;exact jz ((),y3.1) h []
 ·
  refine au ?_;cases h;exact ra
def dH(k:Nat)(a0:(List Int))(a1:(List Int)):Nat→Int→Option (Except Bool Unit)
 |0,_=>none
 |n+1,y3=>
  if y3 < (a0.length:Int) then((aR a0 y3).bind fun x5=>
  (aR a1 y3).bind fun x6=>
  if¬(x5=x6) then(some (.error false)) else((ck (y3+1)).bind fun x7=>
  dH k a0 a1 n x7)) else(some (.ok ()))
def dQ(k:Nat)(a0:(List Int))(a1:(List Int)):Option Bool:=
 if¬((a0.length:Int)=(a1.length:Int)) then(some false) else(bE (α:=Unit) (dH k a0 a1 k 0) (some) fun _=>
 some true)
theorem io(k:Nat)(a0:(List Int))(a1:(List Int))(r:Bool)(h:dQ k a0 a1=some r):
 bV Tryz.prog 39 [Ri a0,Ri a1] [] (fun _:Unit=>(bm [.eq (.bool r)],[])):=by
 unfold dQ at h
 replace h:=aZ h
 refine bV.of 26 Tryz.func39 rfl Tryz.ntmps39 rfl fun S w0=>?_
 refine au ?_
 refine ol dB ?_
 refine mq ?_
 refine ol dB ?_
 refine jb (g7 rfl) ?_
 refine nt ?_
 refine cn h (fun h=>?_) (fun h=>?_)
 ·
  refine au ?_;cases h;exact ra
 ·
  refine sk (dK (Z:=Unit) (α:=Unit) (fun z2 x1=>[]) (fun z2 x1=>[]) (fun e=>e=r) h (fun e h=>Option.some.inj h) (fun K hR h=>?_) (fun z2 x1 h=>?_))
  ·refine au ?_;refine ai (aK (fun z4 y3=>[(0,Ri a0),(1,Ri a1),(5,I y3)]) (fun z4 y3=>[]) (dH k a0 a1) k () 0 (fun _=>rfl) h (SE.fin [] ⟨rfl,rfl,rfl,trivial⟩ rfl) (fun n z4 y3 h=>?_));unfold dH at h;refine au ?_;refine ol dB ?_;refine jb (bg rfl) ?_;refine nt (ci h (fun h=>?_) (fun h=>?_))
   ·refine au ?_;refine ai (ar (bR ?_));refine dm ?_;refine dm ?_;obtain⟨x5,l,h⟩:=aa h;refine db (aD (t:=(.int .i64)) rfl dB bY l) ?_;refine da (ak (t:=(.int .i64)) rfl bY rfl) ?_;refine dm ?_;refine dm ?_;obtain⟨x6,j,h⟩:=aa h;refine db (aD (t:=(.int .i64)) rfl dB bY j) ?_;refine da (ak (t:=(.int .i64)) rfl bY rfl) ?_;refine df cE ?_;refine jb (g7 rfl) ?_;refine nt (cn h (fun h=>?_) (fun h=>?_))
    ·refine au ?_;obtain rfl:=hR _ h;exact ra
    ·refine au ?_;refine ab (mq ?_);obtain⟨x7,c,h⟩:=aa h;refine jb (aW rfl c) ?_;refine au ?_;exact jz ((),x7) h []
   ·refine au ?_;exact jz ((),()) h []
  ·refine au ?_;cases h;exact ra
def fi(k:Nat)(a0:(List (List Int)))(a1:(List (List Int))):Nat→Int→Option (Except Bool Unit)
 |0,_=>none
 |n+1,y3=>
  if y3 < (a0.length:Int) then((aR a0 y3).bind fun x5=>
  (aR a1 y3).bind fun x6=>
  (dQ k x5 x6).bind fun r7=>
  if¬(r7=true) then(some (.error false)) else((ck (y3+1)).bind fun x8=>
  fi k a0 a1 n x8)) else(some (.ok ()))
def f7(k:Nat)(a0:(List (List Int)))(a1:(List (List Int))):Option Bool:=
 if¬((a0.length:Int)=(a1.length:Int)) then(some false) else(bE (α:=Unit) (fi k a0 a1 k 0) (some) fun _=>
 some true)
theorem kK(k:Nat)(a0:(List (List Int)))(a1:(List (List Int)))(r:Bool)(h:f7 k a0 a1=some r):
 bV Tryz.prog 22 [.rep (.slice (.slice (.int .i64))) a0,.rep (.slice (.slice (.int .i64))) a1] [] (fun _:Unit=>(bm [.eq (.bool r)],[])):=by
 unfold f7 at h
 replace h:=aZ h
 refine bV.of 27 Tryz.func22 rfl Tryz.ntmps22 rfl fun S w0=>?_
 refine au ?_
 refine ol lJ ?_
 refine mq ?_
 refine ol lJ ?_
 refine jb (g7 rfl) ?_
 refine nt ?_
 refine cn h (fun h=>?_) (fun h=>?_)
 ·
  refine au ?_;cases h;exact ra
 ·
  refine sk (dK (Z:=Unit) (α:=Unit) (fun z2 x1=>[]) (fun z2 x1=>[]) (fun e=>e=r) h (fun e h=>Option.some.inj h) (fun K hR h=>?_) (fun z2 x1 h=>?_))
  ·refine au ?_;refine ai (aK (fun z4 y3=>[(0,.rep (.slice (.slice (.int .i64))) a0),(1,.rep (.slice (.slice (.int .i64))) a1),(5,I y3)]) (fun z4 y3=>[]) (fi k a0 a1) k () 0 (fun _=>rfl) h (SE.fin [] ⟨rfl,rfl,rfl,trivial⟩ rfl) (fun n z4 y3 h=>?_));unfold fi at h;refine au ?_;refine ol lJ ?_;refine jb (bg rfl) ?_;refine nt (ci h (fun h=>?_) (fun h=>?_))
   ·refine au ?_;refine ai (ar (bR ?_));refine dm ?_;refine dm ?_;obtain⟨x5,l,h⟩:=aa h;refine db (aD (t:=(.slice (.int .i64))) rfl lJ bC l) ?_;refine da (ak (t:=(.slice (.int .i64))) rfl bC rfl) ?_;refine dm ?_;refine dm ?_;obtain⟨x6,j,h⟩:=aa h;refine db (aD (t:=(.slice (.int .i64))) rfl lJ bC j) ?_;refine da (ak (t:=(.slice (.int .i64))) rfl bC rfl) ?_;refine df cE ?_;obtain⟨r7,s,h⟩:=aa h;refine jb (ap [.tmp 20,.tmp 24] rfl rfl IW rfl (io k x5 x6 r7 s)) ?_;refine ja (eJ rfl) ?_;refine nt (cw h (fun h=>?_) (fun h=>?_))
    ·refine au ?_;obtain rfl:=hR _ h;exact ra
    ·refine au ?_;refine ab (mq ?_);obtain⟨x8,c,h⟩:=aa h;refine jb (aW rfl c) ?_;refine au ?_;exact jz ((),x8) h []
   ·refine au ?_;exact jz ((),()) h []
  ·refine au ?_;cases h;exact ra
def ix(k:Nat)(a0:dn)(a1:(List (List Int))):Nat→((List (List Int))×Int)→Option (List (List Int))
 |0,_=>none
 |n+1,y6=>
  if y6.2 < ((List.replicate (Int.toNat (a0.1.2.2.length:Int)) ([]:(List Int))).length:Int) then((dP k a1 y6.2).bind fun r8=>
  (aR y6.1 y6.2).bind fun x9=>
  (ck (y6.2+1)).bind fun c=>
  ix k a0 a1 n (List.set y6.1 (Int.toNat y6.2) r8,c)) else(some y6.1)
def iJ(k:Nat)(a0:dn)(a1:(List (List Int))):Option (List (List Int)):=
 (dj (0≤(a0.1.2.2.length:Int)∧bq (Int.toNat (a0.1.2.2.length:Int)))).bind fun _=>
 ((ix k a0 a1 k (List.replicate (Int.toNat (a0.1.2.2.length:Int)) ([]:(List Int)),0)):Option ((List (List Int)))).bind fun x4=>
 some x4
theorem jX(k:Nat)(a0:dn)(a1:(List (List Int)))(r:(List (List Int)))(h:iJ k a0 a1=some r):
 bV Tryz.prog 45 [.at bI a0,.rep (.arr 3 (.arr 5 (.int .i64))) a1] [] (fun z:Value=>(bm [.eq z],[.sl z 22 (.slice (.int .i64)) r])):=by
 unfold iJ at h
 replace h:=aZ h
 refine bV.of 27 Tryz.func45 rfl Tryz.ntmps45 rfl fun S w0=>?_
 refine sr ?_
 refine bx fun b1=>?_
 refine au ?_
 refine ja (dL rfl) ?_
 refine ja (aJ 3 true rfl ko rfl) ?_
 refine ja (aJ 1 false rfl cI rfl) ?_
 refine ja (ak (t:=(.slice (.int .i64))) rfl bC rfl) ?_
 refine ol dB ?_
 obtain⟨u2,j,h⟩:=aa h
 refine aE rfl rfl rfl (CG (t:=(.slice (.int .i64))) (d:=([]:(List Int))) rfl nW Sr (aB j).1 (aB j).2) ⟨rfl,rfl,trivial⟩ fun v3=>?_
 refine aq ?_
 refine nt ?_
 refine aM (Z:=Unit) (α:=(List (List Int))) (fun z5 x4=>[(5,.eq v3)]) (fun z5 x4=>[.sl v3 22 (.slice (.int .i64)) x4]) h (fun K h=>?_) (fun z5 x4 h=>?_)
 ·
  refine au ?_;refine ka (cZ rfl rfl lJ) ?_;refine ff rfl ?_;refine nt (ai (aK (fun z7 y6=>[(3,Pt b1),(5,.eq v3),(15,I ((List.replicate (Int.toNat (a0.1.2.2.length:Int)) ([]:(List Int))).length:Int)),(16,I y6.2)]) (fun z7 y6=>[.obj b1 85 (.rep (.arr 3 (.arr 5 (.int .i64))) a1),.sl v3 22 (.slice (.int .i64)) y6.1]) (ix k a0 a1) k () (List.replicate (Int.toNat (a0.1.2.2.length:Int)) ([]:(List Int)),0) (fun _=>rfl) h (SE.fin [1,0] ⟨rfl,rfl,rfl,rfl,trivial⟩ rfl) (fun n z7 y6 h=>?_)));unfold ix at h;refine sr (jb (bg rfl) ?_);refine au ?_;refine ci h (fun h=>?_) (fun h=>?_)
  ·refine au ?_;refine ai (au ?_);refine ab (au ?_);refine lo ge ?_;refine mq ?_;obtain⟨r8,s,h⟩:=aa h;refine jb (ap [.tmp 21,.tmp 22] rfl rfl Lt rfl (gl k a1 y6.2 r8 s)) ?_;obtain⟨x9,c,h⟩:=aa h;refine fr 1 ?_;refine kb (aV (t:=(.slice (.int .i64))) rfl lJ bC c) ?_;refine bf rfl rfl (cP (i:=Int.toNat y6.2) rfl bC rfl (ig c) rfl .rep rfl) ⟨rfl,rfl,trivial⟩ ?_;refine au ?_;refine ab ?_;obtain⟨l,e,h⟩:=aa h;refine jb (aW rfl e) ?_;refine au ?_;exact jz ((),(List.set y6.1 (Int.toNat y6.2) r8,l)) h [1,0]
  ·refine au ?_;exact jz ((),y6.1) h [1]
 ·
  refine au ?_;cases h;exact aO v3 [.eq v3] 1 ⟨rfl,trivial⟩ rfl
def dO{σ:Type}(k:Nat)(a0:(List (List Int)))(a1:Int)(a2:Int)(a3:dn)(self:(List (List Int))→Int→Int→σ→Option (Bool×σ))(h:(List Int)):Nat→(Int×σ)→Option (Except (Bool×σ) (σ))
 |0,_=>none
 |n+1,c=>
  if c.1 < (a3.1.2.1.length:Int) then(bE (α:=σ) ((aR a3.1.2.1 c.1).bind fun y=>
  (((dU k a2 c.1).bind fun I=>
  if I=true then(some (true,c.2)) else((nc k a3.1 h).bind fun F=>
  (ck (F+y.1)).bind fun x=>
  (aR a3.1.2.2 a1).bind fun u=>
  some (decide (u < x),c.2))):Option (Bool×σ)).bind fun j=>
  if j.1=true then(some (.ok j.2)) else((dj (0≤a1∧a1 < 3)).bind fun _=>
  (aR a0 a1).bind fun s=>
  (dj (0≤(h.length:Int)∧(h.length:Int) < 5)).bind fun _=>
  (eO k a2 c.1).bind fun E=>
  (self (List.set a0 (Int.toNat a1) (List.set s (Int.toNat (h.length:Int)) c.1)) a1 E j.2).bind fun l=>
  if¬(l.1=true) then(some (.error (false,l.2))) else(some (.ok l.2)))) (fun e=>some (.error e)) fun D=>
  (ck (c.1+1)).bind fun r=>
  dO k a0 a1 a2 a3 self h n (r,D)) else(some (.ok c.2))
def cY{σ:Type}(k:Nat)(Y:σ→(List (List Int))→Option (σ×Bool))(a3:dn):Nat→(List (List Int))→Int→Int→σ→Option (Bool×σ)
 |0,_,_,_,_=>none
 |m0+1,a0,a1,a2,s0=>
  if a1=(a3.1.2.2.length:Int) then((((dj (0≤(a3.1.2.1.length:Int))).bind fun _=>
  if¬(a2=(IntKind.u8.wrap ((nD .u8 1 (a3.1.2.1.length:Int)) - 1))) then(some (true,s0)) else((Y s0 a0).bind fun r5=>
  some (r5.2,r5.1))):Option (Bool×σ)).bind fun x2=>
  some (x2.1,x2.2)) else((ck (a1+1)).bind fun x7=>
  ((cY k Y a3 m0) a0 x7 a2 s0).bind fun r8=>
  if¬(r8.1=true) then(some (false,r8.2)) else((dP k a0 a1).bind fun e=>
  bE (α:=σ) (dO k a0 a1 a2 a3 (cY k Y a3 m0) e k (0,r8.2)) (some) fun c=>
  some (true,c)))
theorem mZ{M:Md Tryz.prog}{σ Z:Type}(E:Z→σ→List D)(l:Nat)(Y:σ→(List (List Int))→Option (σ×Bool))(k:Nat)(a3:dn)(u:Nat)(x:Nat)(c:Nat)(hY:∀z s p r,Y s p=some r→YT M l [.rep (.arr 3 (.arr 5 (.int .i64))) p] (E z s) (fun z':Z=>(.eq (.bool r.2),E z' r.1))):
 ∀(n:Nat) (a0:(List (List Int))) (a1:Int) (a2:Int) (z0:Z) (s0:σ) (r:Bool×σ),cY k Y a3 n a0 a1 a2 s0=some r→dG M 90 [.rep (.arr 3 (.arr 5 (.int .i64))) a0,I a1,.eq (.int .u8 a2),Pt u,Pt x,Pt c] ([.obj u 80 (.at bI a3),.obj x 154 (.eq (.func (.yield l) #[] #[])),.obj c 155 (.eq (.func (.func 90) #[] #[(Pv u),(Pv x),(Pv c)]))]++E z0 s0) (fun z:Z=>(bm [.eq (.bool r.1)],[.obj u 80 (.at bI a3),.obj x 154 (.eq (.func (.yield l) #[] #[])),.obj c 155 (.eq (.func (.func 90) #[] #[(Pv u),(Pv x),(Pv c)]))]++E z r.2)):=by
 intro n
 induction n with
 |zero=>intro a0 a1 a2 z0 s0 r h;cases h
 |succ m0 ih=>
  intro a0 a1 a2 z0 s0 r h;rw [cY] at h;replace h:=aZ h;refine dG.of 97 Tryz.func90 rfl Tryz.ntmps90 rfl fun S w0=>?_;refine sr (bx fun b1=>?_);refine cq (nt (ar (sr ?_)));refine mq ?_;refine fr 1 ?_;refine lo yf ?_;refine ja (dL rfl) ?_;refine ja (aJ 3 true rfl ko rfl) ?_;refine ja (aJ 1 false rfl cI rfl) ?_;refine ja (ak (t:=(.slice (.int .i64))) rfl bC rfl) ?_;refine ol dB ?_;refine jb (fq rfl) ?_;refine nt (ci h (fun h=>?_) (fun h=>?_))
  ·refine aM (Z:=Z) (α:=Bool×σ) (fun z3 x2=>[(9,.eq (.bool x2.1))]) (fun z3 x2=>[.obj u 80 (.at bI a3),.obj x 154 (.eq (.func (.yield l) #[] #[])),.obj c 155 (.eq (.func (.func 90) #[] #[(Pv u),(Pv x),(Pv c)]))]++E z3 x2.2) h (fun K h=>?_) (fun z3 x2 h=>?_)
   ·refine ab (mq ?_);refine lo yf ?_;refine ja (dL rfl) ?_;refine ja (aJ 3 true rfl ko rfl) ?_;refine ja (aJ 1 false rfl bN rfl) ?_;refine ja (ak (t:=(.slice aH)) rfl eI rfl) ?_;refine ol mC ?_;obtain⟨u4,Vk,h⟩:=aa h;refine jb (Ht rfl (aB Vk)) ?_;refine jb (Hr rfl) ?_;refine jb (g7 rfl) ?_;refine mq ?_;refine cd (s:=32) rfl (fun hb=>?_) (fun hb=>?_)
    ·replace h:=cG (H5 hb) h;refine au ?_;exact jf (z0,(true,s0)) h (bi [.obj u 80 (.at bI a3),.obj b1 85 (.rep (.arr 3 (.arr 5 (.int .i64))) a0),.obj x 154 (.eq (.func (.yield l) #[] #[])),.obj c 155 (.eq (.func (.func 90) #[] #[(Pv u),(Pv x),(Pv c)]))] (E z0 s0) [0,2,3] ⟨rfl,trivial⟩ rfl)
    ·replace h:=bO (vH hb) h;refine fr 2 ?_;refine jN rfl rfl rfl rfl rfl rfl (aj rfl PP jF rfl) ⟨rfl,trivial⟩ ?_;refine fr 2 ?_;refine jN rfl rfl rfl rfl rfl rfl (aj rfl ge (wy) rfl) ⟨rfl,trivial⟩ ?_;obtain⟨r5,Vm,h⟩:=aa h;refine fr 3 ?_;refine fr 3 ?_;refine fr 3 ?_;refine fr 3 ?_;refine Gf [.obj b1 85 (.rep (.arr 3 (.arr 5 (.int .i64))) a0),.obj x 154 (.eq (.func (.yield l) #[] #[])),.obj u 80 (.at bI a3),.obj c 155 (.eq (.func (.func 90) #[] #[(Pv u),(Pv x),(Pv c)]))] rfl rfl rfl rfl rfl rfl (yt [.tmp 34] rfl rfl rfl (hY z0 s0 a0 r5 Vm)) ⟨rfl,rfl,trivial⟩ fun z6=>?_;refine au ?_;exact jf (z6,(r5.2,r5.1)) h (bi [.obj b1 85 (.rep (.arr 3 (.arr 5 (.int .i64))) a0),.obj x 154 (.eq (.func (.yield l) #[] #[])),.obj u 80 (.at bI a3),.obj c 155 (.eq (.func (.func 90) #[] #[(Pv u),(Pv x),(Pv c)]))] (E z6 r5.1) [2,1,3] ⟨rfl,trivial⟩ rfl)
   ·refine au ?_;cases h;exact jg z3 [_] ⟨rfl,trivial⟩ rfl
  ·refine sk (ar (sr (fr 3 ?_)));refine lo Dz ?_;refine fr 2 ?_;refine lo ge ?_;refine mq ?_;obtain⟨x7,Vj,h⟩:=aa h;refine jb (aW rfl Vj) ?_;refine mq ?_;obtain⟨r8,Vl,h⟩:=aa h;refine fr 1 ?_;refine fr 3 ?_;refine fr 3 ?_;refine fr 3 ?_;refine pM [.obj b1 85 (.rep (.arr 3 (.arr 5 (.int .i64))) a0)] rfl rfl rfl (pj (fs:=[]) (cs:=[(Pv u),(Pv x),(Pv c)]) (ags:=[.rep (.arr 3 (.arr 5 (.int .i64))) a0,I x7,.eq (.int .u8 a2)]) [.tmp 38,.tmp 40,.tmp 41] rfl rfl Oq rfl (ih a0 x7 a2 z0 s0 r8 Vl)) ⟨rfl,rfl,rfl,rfl,trivial⟩ fun z9=>?_;refine ja (eJ rfl) ?_;refine nt (cw h (fun h=>?_) (fun h=>?_))
   ·refine sr (cq (nt (rx ?_)));refine bz (bi (Γ':=[(9,_)]) [.obj b1 85 (.rep (.arr 3 (.arr 5 (.int .i64))) a0),.obj u 80 (.at bI a3),.obj x 154 (.eq (.func (.yield l) #[] #[])),.obj c 155 (.eq (.func (.func 90) #[] #[(Pv u),(Pv x),(Pv c)]))] (E z9 r8.2) [1,2,3] ⟨rfl,trivial⟩ rfl) ?_;cases h;exact jg z9 [_] ⟨rfl,trivial⟩ rfl
   ·refine au ?_;refine lo ge ?_;refine mq ?_;obtain⟨F,Vb,h⟩:=aa h;refine jb (ap [.tmp 44,.tmp 45] rfl rfl Lt rfl (gl k a0 a1 F Vb)) ?_;refine aq (nt ?_);refine dK (Z:=Z) (α:=σ) (fun qt UV=>[]) (fun qt UV=>[.obj u 80 (.at bI a3),.obj x 154 (.eq (.func (.yield l) #[] #[])),.obj c 155 (.eq (.func (.func 90) #[] #[(Pv u),(Pv x),(Pv c)]))]++E qt UV) (fun e=>e=r) h (fun e h=>Option.some.inj h) (fun K hR h=>?_) (fun qt UV h=>?_)
    ·refine sr (fr 1 ?_);refine lo yf ?_;refine ja (dL rfl) ?_;refine ja (aJ 3 true rfl ko rfl) ?_;refine ja (aJ 1 false rfl bN rfl) ?_;refine ja (ak (t:=(.slice aH)) rfl eI rfl) ?_;refine ol mC ?_;refine ff rfl ?_;refine nt (ai (aK (Z:=Z) (α:=Int×σ) (fun J y=>[(1,I a1),(2,.eq (.int .u8 a2)),(3,Pt u),(5,Pt c),(6,Pt b1),(10,Ri F),(51,Rs aH a3.1.2.1),(52,I (a3.1.2.1.length:Int)),(53,I y.1)]) (fun J y=>[.obj u 80 (.at bI a3),.obj c 155 (.eq (.func (.func 90) #[] #[(Pv u),(Pv x),(Pv c)])),.obj x 154 (.eq (.func (.yield l) #[] #[])),.obj b1 85 (.rep (.arr 3 (.arr 5 (.int .i64))) a0)]++E J y.2) (dO k a0 a1 a2 a3 (cY k Y a3 m0) F) k z9 (0,r8.2) (fun _=>rfl) h (bi [.obj u 80 (.at bI a3),.obj b1 85 (.rep (.arr 3 (.arr 5 (.int .i64))) a0),.obj x 154 (.eq (.func (.yield l) #[] #[])),.obj c 155 (.eq (.func (.func 90) #[] #[(Pv u),(Pv x),(Pv c)]))] (E z9 r8.2) [0,3,2,1] ⟨rfl,rfl,rfl,rfl,rfl,rfl,rfl,rfl,rfl,trivial⟩ rfl) (fun n J y h=>?_)));unfold dO at h;refine sr (jb (bg rfl) ?_);refine au ?_;refine ci h (fun h=>?_) (fun h=>?_)
     ·refine sk (dK (Z:=Z) (α:=σ) (fun X mc=>[(1,I a1),(2,.eq (.int .u8 a2)),(3,Pt u),(5,Pt c),(6,Pt b1),(10,Ri F),(51,Rs aH a3.1.2.1),(52,I (a3.1.2.1.length:Int)),(53,I y.1)]) (fun X mc=>[.obj u 80 (.at bI a3),.obj c 155 (.eq (.func (.func 90) #[] #[(Pv u),(Pv x),(Pv c)])),.obj x 154 (.eq (.func (.yield l) #[] #[])),.obj b1 85 (.rep (.arr 3 (.arr 5 (.int .i64))) a0)]++E X mc) (fun e=>e=r) h (fun e h=>hR e h) (fun K hR h=>?_) (fun X mc h=>?_))
      ·refine ai (au ?_);obtain⟨UY,U4,h⟩:=aa h;refine jb (aD (t:=aH) rfl mC gJ U4) ?_;refine ja (ak (t:=aH) rfl gJ rfl) ?_;refine aE rfl rfl rfl (a9 rfl ul LS) trivial fun Vd=>?_;refine aq ?_;refine bf rfl rfl (a8 rfl gJ rfl rfl rfl) ⟨rfl,rfl,trivial⟩ ?_;refine nt (ar (aM (Z:=Z) (α:=Bool×σ) (fun U O=>[(1,I a1),(2,.eq (.int .u8 a2)),(3,Pt u),(5,Pt c),(6,Pt b1),(10,Ri F),(11,I y.1),(51,Rs aH a3.1.2.1),(52,I (a3.1.2.1.length:Int)),(53,I y.1),(80,.eq (.bool O.1))]) (fun U O=>[.obj u 80 (.at bI a3),.obj c 155 (.eq (.func (.func 90) #[] #[(Pv u),(Pv x),(Pv c)])),.obj x 154 (.eq (.func (.yield l) #[] #[])),.obj b1 85 (.rep (.arr 3 (.arr 5 (.int .i64))) a0)]++E U O.2) h (fun K h=>?_) (fun U O h=>?_)))
       ·refine bR ?_;refine dm ?_;refine dm ?_;obtain⟨Vi,Va,h⟩:=aa h;refine db (ap [.tmp 58,.tmp 59] rfl rfl Lu rfl (iK k a2 y.1 Vi Va)) ?_;refine kW rfl rfl rfl (aL rfl) ⟨rfl,trivial⟩ (fun hb=>?_) (fun hb=>?_)
        ·replace h:=cG (EH hb) h;iterate 17 refine dg ?_
         refine df cE ?_;refine au ?_;exact jf (J,(true,y.2)) h (bi [.obj Vd 35 (.rep aH UY),.obj u 80 (.at bI a3),.obj c 155 (.eq (.func (.func 90) #[] #[(Pv u),(Pv x),(Pv c)])),.obj x 154 (.eq (.func (.yield l) #[] #[])),.obj b1 85 (.rep (.arr 3 (.arr 5 (.int .i64))) a0)] (E J y.2) [1,2,3,4] ⟨rfl,rfl,rfl,rfl,rfl,rfl,rfl,rfl,rfl,rfl,rfl,trivial⟩ rfl)
        ·replace h:=bO (EI hb) h;refine ky 1 rfl rfl rfl rfl rfl rfl (aj rfl yf jF rfl) ⟨rfl,rfl,trivial⟩ ?_;refine aU rfl rfl rfl rfl rfl (dL rfl) ⟨rfl,rfl,trivial⟩ ?_;refine aU rfl rfl rfl rfl rfl (aJ 3 true rfl ko rfl) ⟨rfl,rfl,trivial⟩ ?_;refine aU rfl rfl rfl rfl rfl (ak (t:=ao) rfl cU rfl) ⟨rfl,rfl,trivial⟩ ?_;refine aU rfl rfl rfl rfl rfl (aL rfl) ⟨rfl,rfl,trivial⟩ ?_;obtain⟨Vh,U8,h⟩:=aa h;refine aU rfl rfl rfl rfl rfl (ap [.tmp 65,.tmp 66] rfl rfl QK rfl (t8 k a3.1 F Vh U8)) ⟨rfl,rfl,rfl,trivial⟩ ?_;refine aU rfl rfl rfl rfl rfl (av rfl kN) ⟨rfl,rfl,trivial⟩ ?_;refine ky 0 rfl rfl rfl rfl rfl rfl (aj rfl bY jF rfl) ⟨rfl,rfl,trivial⟩ ?_;obtain⟨Vg,U2,h⟩:=aa h;refine aU rfl rfl rfl rfl rfl (aW rfl U2) ⟨rfl,rfl,rfl,trivial⟩ ?_;refine ky 1 rfl rfl rfl rfl rfl rfl (aj rfl yf jF rfl) ⟨rfl,rfl,trivial⟩ ?_;refine aU rfl rfl rfl rfl rfl (dL rfl) ⟨rfl,rfl,trivial⟩ ?_;refine aU rfl rfl rfl rfl rfl (aJ 3 true rfl ko rfl) ⟨rfl,rfl,trivial⟩ ?_;refine aU rfl rfl rfl rfl rfl (aJ 1 false rfl cI rfl) ⟨rfl,rfl,trivial⟩ ?_;refine aU rfl rfl rfl rfl rfl (ak (t:=(.slice (.int .i64))) rfl bC rfl) ⟨rfl,rfl,trivial⟩ ?_;refine aU rfl rfl rfl rfl rfl (aL rfl) ⟨rfl,rfl,trivial⟩ ?_;obtain⟨Vf,U1,h⟩:=aa h;refine aU rfl rfl rfl rfl rfl (aD (t:=(.int .i64)) rfl dB bY U1) ⟨rfl,rfl,rfl,trivial⟩ ?_;refine aU rfl rfl rfl rfl rfl (ak (t:=(.int .i64)) rfl bY rfl) ⟨rfl,rfl,trivial⟩ ?_;refine df cE ?_;refine gb (iD rfl) ?_;refine au ?_;exact jf (J,(decide (Vf < Vg),y.2)) h (bi [.obj Vd 35 (.rep aH UY),.obj u 80 (.at bI a3),.obj c 155 (.eq (.func (.func 90) #[] #[(Pv u),(Pv x),(Pv c)])),.obj x 154 (.eq (.func (.yield l) #[] #[])),.obj b1 85 (.rep (.arr 3 (.arr 5 (.int .i64))) a0)] (E J y.2) [1,2,3,4] ⟨rfl,rfl,rfl,rfl,rfl,rfl,rfl,rfl,rfl,rfl,rfl,trivial⟩ rfl)
       ·refine cv h (fun h=>?_) (fun h=>?_)
        ·refine au ?_;exact jf (U,O.2) h (bi [.obj u 80 (.at bI a3),.obj c 155 (.eq (.func (.func 90) #[] #[(Pv u),(Pv x),(Pv c)])),.obj x 154 (.eq (.func (.yield l) #[] #[])),.obj b1 85 (.rep (.arr 3 (.arr 5 (.int .i64))) a0)] (E U O.2) [0,1,2,3] ⟨rfl,rfl,rfl,rfl,rfl,rfl,rfl,rfl,rfl,trivial⟩ rfl)
        ·refine sk (sr (fr 3 ?_));refine lo ge ?_;refine aE rfl rfl rfl (a9 rfl sT t3) trivial fun UX=>?_;refine bf rfl rfl (a8 rfl ge rfl rfl rfl) ⟨rfl,rfl,trivial⟩ ?_;refine au ?_;refine ol dB ?_;refine mq ?_;obtain⟨Vo,UU,h⟩:=aa h;refine jb (iU rfl RZ GY (aB UU).1 (aB UU).2) ?_;obtain⟨ac,U0,h⟩:=aa h;obtain⟨Vn,Q,h⟩:=aa h;refine jb (iU rfl R2 bY (aB Q).1 (aB Q).2) ?_;refine bf rfl rfl (nZ (t:=(.int .i64)) (off:=0) (i:=a1) (j:=(F.length:Int)) (N:=3) (L:=5) rfl bY .int rfl rfl rfl rfl U0 (aB Q).1 (aB Q).2 rfl) ⟨rfl,rfl,trivial⟩ ?_;refine au ?_;refine bR ?_;refine ea 3 (aj rfl Dz jF rfl) ?_;refine ea 0 (aj rfl ge (wy) rfl) ?_;refine dm ?_;refine dm ?_;refine dm ?_;obtain⟨UW,U7,h⟩:=aa h;refine db (ap [.tmp 91,.tmp 92] rfl rfl Ls rfl (jB k a2 y.1 UW U7)) ?_;refine df cE ?_;obtain⟨se,U6,h⟩:=aa h;refine fr 3 ?_;refine fr 4 ?_;refine fr 4 ?_;refine fr 4 ?_;refine fr 4 ?_;refine pM [.obj UX 85 (.rep (.arr 3 (.arr 5 (.int .i64))) (List.set a0 (Int.toNat a1) (List.set ac (Int.toNat (F.length:Int)) y.1))),.obj b1 85 (.rep (.arr 3 (.arr 5 (.int .i64))) a0)] rfl rfl rfl (pj (fs:=[]) (cs:=[(Pv u),(Pv x),(Pv c)]) (ags:=[.rep (.arr 3 (.arr 5 (.int .i64))) (List.set a0 (Int.toNat a1) (List.set ac (Int.toNat (F.length:Int)) y.1)),I a1,.eq (.int .u8 UW)]) [.tmp 89,.tmp 90,.tmp 93] rfl rfl Oq rfl (ih (List.set a0 (Int.toNat a1) (List.set ac (Int.toNat (F.length:Int)) y.1)) a1 UW U O.2 se U6)) ⟨rfl,rfl,rfl,rfl,trivial⟩ fun pp=>?_;refine ja (eJ rfl) ?_;refine nt (cw h (fun h=>?_) (fun h=>?_))
         ·refine sr (cq (nt (bH (br (mz (eD ?_))))));refine bz (bi (Γ':=[(9,_)]) [.obj UX 85 (.rep (.arr 3 (.arr 5 (.int .i64))) (List.set a0 (Int.toNat a1) (List.set ac (Int.toNat (F.length:Int)) y.1))),.obj b1 85 (.rep (.arr 3 (.arr 5 (.int .i64))) a0),.obj u 80 (.at bI a3),.obj x 154 (.eq (.func (.yield l) #[] #[])),.obj c 155 (.eq (.func (.func 90) #[] #[(Pv u),(Pv x),(Pv c)]))] (E pp se.2) [2,3,4] ⟨rfl,trivial⟩ rfl) ?_;obtain rfl:=hR _ h;exact jg pp [_] ⟨rfl,trivial⟩ rfl
         ·refine au ?_;exact jf (pp,se.2) h (bi [.obj UX 85 (.rep (.arr 3 (.arr 5 (.int .i64))) (List.set a0 (Int.toNat a1) (List.set ac (Int.toNat (F.length:Int)) y.1))),.obj b1 85 (.rep (.arr 3 (.arr 5 (.int .i64))) a0),.obj u 80 (.at bI a3),.obj x 154 (.eq (.func (.yield l) #[] #[])),.obj c 155 (.eq (.func (.func 90) #[] #[(Pv u),(Pv x),(Pv c)]))] (E pp se.2) [2,4,3,1] ⟨rfl,rfl,rfl,rfl,rfl,rfl,rfl,rfl,rfl,trivial⟩ rfl)
      ·refine ab ?_;obtain⟨Ve,UZ,h⟩:=aa h;refine jb (aW rfl UZ) ?_;refine au ?_;exact jf (X,(Ve,mc)) h (bi [.obj u 80 (.at bI a3),.obj c 155 (.eq (.func (.func 90) #[] #[(Pv u),(Pv x),(Pv c)])),.obj x 154 (.eq (.func (.yield l) #[] #[])),.obj b1 85 (.rep (.arr 3 (.arr 5 (.int .i64))) a0)] (E X mc) [0,1,2,3] ⟨rfl,rfl,rfl,rfl,rfl,rfl,rfl,rfl,rfl,trivial⟩ rfl)
     ·refine au ?_;exact jf (J,y.2) h (bi [.obj u 80 (.at bI a3),.obj c 155 (.eq (.func (.func 90) #[] #[(Pv u),(Pv x),(Pv c)])),.obj x 154 (.eq (.func (.yield l) #[] #[])),.obj b1 85 (.rep (.arr 3 (.arr 5 (.int .i64))) a0)] (E J y.2) [0,2,1] trivial rfl)
    ·refine au ?_;cases h;exact jg qt [_] ⟨rfl,trivial⟩ rfl
def jk{σ:Type}(k:Nat)(Y:σ→(List (List Int))→Option (σ×Bool))(a1:dn)(s0:σ):Option (σ):=
 (dV k ([]:(List (List Int)))).bind fun r2=>
 (cY k Y a1 k r2 0 0 s0).bind fun r5=>
 some r5.2
theorem nP{M:Md Tryz.prog}{σ Z:Type}(E:Z→σ→List D)(l:Nat)(Y:σ→(List (List Int))→Option (σ×Bool))(k:Nat)(a1:dn)(c:Nat)(hY:∀z s p r,Y s p=some r→YT M l [.rep (.arr 3 (.arr 5 (.int .i64))) p] (E z s) (fun z':Z=>(.eq (.bool r.2),E z' r.1))):
 ∀(z0:Z) (s0:σ) (r:σ),jk k Y a1 s0=some r→dG M 89 [.eq (.func (.yield l) #[] #[]),Pt c] ([.obj c 80 (.at bI a1)]++E z0 s0) (fun z:Z=>(bm [],[.obj c 80 (.at bI a1)]++E z r)):=by
 intro z0 s0 r h
 unfold jk at h
 replace h:=aZ h
 refine dG.of 10 Tryz.func89 rfl Tryz.ntmps89 rfl fun S w0=>?_
 refine sr ?_
 refine bx fun b1=>?_
 refine au ?_
 obtain⟨r2,j,h⟩:=aa h
 have u:=fo k ([]:(List (List Int))) r2 j
 refine ja (d6 (N:=[(.const (.slice none 0 0),.eq (.slice none 0 0))]) (ap [.const (.slice none 0 0)] rfl rfl FN rfl u) fun _ _ _ hn=>⟨(kP (t:=(.slice (.slice (.int .i64)))) (x:=([]:(List (List Int)))) .nil rfl rfl hn.1),trivial⟩) ?_
 refine aE rfl rfl rfl (a9 rfl sT t3) trivial fun b3=>?_
 refine bf rfl rfl (a8 rfl ge rfl rfl rfl) ⟨rfl,rfl,trivial⟩ ?_
 refine au ?_
 refine aE rfl rfl rfl (a9 rfl Pn Rz) trivial fun b4=>?_
 refine au ?_
 refine jc (tu [] [.tmp 1,.tmp 2,.tmp 4] [] [(Pv c),(Pv b1),(Pv b4)] rfl rfl rfl) ?_
 refine bf rfl rfl (a8 rfl Dz rfl rfl rfl) ⟨rfl,rfl,trivial⟩ ?_
 refine nt ?_
 refine ab ?_
 refine lo Dz ?_
 refine fr 1 ?_
 refine lo ge ?_
 obtain⟨r5,e,h⟩:=aa h
 have n:=mZ E l Y k a1 c b1 b4 hY k r2 0 0 z0 s0 r5 e
 refine fr 1 ?_
 refine fr 2 ?_
 refine fr 3 ?_
 refine fr 3 ?_
 refine pM [.obj b3 85 (.rep (.arr 3 (.arr 5 (.int .i64))) r2)] rfl rfl rfl (pj (fs:=[]) (cs:=[(Pv c),(Pv b1),(Pv b4)]) (ags:=[.rep (.arr 3 (.arr 5 (.int .i64))) r2,I 0,.eq (.int .u8 0)]) [.tmp 8,.const (.int .i64 (0)),.const (.int .u8 (0))] rfl rfl Oq rfl n) ⟨rfl,rfl,rfl,rfl,trivial⟩ fun z6=>?_
 refine ay ?_
 refine jw ?_
 refine bz (bi (Γ':=[]) [.obj b3 85 (.rep (.arr 3 (.arr 5 (.int .i64))) r2),.obj c 80 (.at bI a1),.obj b1 154 (.eq (.func (.yield l) #[] #[])),.obj b4 155 (.eq (.func (.func 90) #[] #[(Pv c),(Pv b1),(Pv b4)]))] (E z6 r5.2) [1] trivial rfl) ?_
 cases h
 exact jg z6 [] trivial rfl
def jJ(k:Nat)(a1:dn):Option (List (List (List Int))):=
 (jk k (qB (fun(y2:(List (List (List Int)))) (p4:(List (List Int)))=>
  (dj (bq (List.length y2+List.length [p4]))).bind fun _=>
  some (y2++[p4],true))) a1 (([]:(List (List (List Int)))),false)).bind fun r5=>
 if r5.2=true then(none) else(some r5.1)
theorem oN(k:Nat)(a1:dn)(c:Nat)(r:(List (List (List Int))))(h:jJ k a1=some r):
 bV Tryz.prog 88 [.eq (.slice none 0 0),.eq (.func (.func 89) #[] #[(Pv c)])] [.obj c 80 (.at bI a1)] (fun z:Value=>(bm [.eq z],[.sl z 85 (.arr 3 (.arr 5 (.int .i64))) r,.obj c 80 (.at bI a1)])):=by
 unfold jJ at h
 replace h:=aZ h
 refine zg 13 Tryz.func88 rfl Tryz.ntmps88 rfl fun {M} S w0=>?_
 refine sr ?_
 refine bx fun b1=>?_
 refine au ?_
 refine ai ?_
 refine dA (SE.nil 85 (.arr 3 (.arr 5 (.int .i64)))) ?_
 refine jx 1 rfl ?_
 refine jx 2 rfl ?_
 obtain⟨r5,j,h⟩:=aa h
 refine ow (Δ:=[.obj c 80 (.at bI a1),.obj b1 102 (.eq (.slice none 0 0)),.sl (.slice none 0 0) 85 (.arr 3 (.arr 5 (.int .i64))) ([]:(List (List (List Int))))]) (F:=[]) (X:=Value) (J:=fun _=>KZ r5.2) (E:=fun z3=>[.obj c 80 (.at bI a1),.obj b1 102 (.eq z3),.sl z3 85 (.arr 3 (.arr 5 (.int .i64))) r5.1]) (r0:=fun _=>.tup .any) rfl rfl TB (fun rec hp ha hb hs hpe hN hv l=>?_) (fun dl z3=>qM (fun hj=>?_) (fun hj=>?_))
 ·
  rcases rec with⟨st0,pe0,fn0,tm0,ps0,as0,bd0,df0⟩;dsimp only at hp ha hb hs hpe hN hv;subst hp hs hpe;have vN:we tm0 [(2,Pt b1)]:=⟨congrArg A.eq (hv 2 _ rfl).symm,trivial⟩;refine dG.pick (M:=M) [1,0,2,3] [1,0,2,3] (nP (fun(z3:Value) (q:(List (List (List Int)))×Bool)=>[.raw l (.loop (j8 ⟨.ready,none,fn0,tm0, #[7],as0,bd0,df0⟩ (KZ q.2))),.obj b1 102 (.eq z3),.sl z3 85 (.arr 3 (.arr 5 (.int .i64))) q.1]) l (qB (fun(y2:(List (List (List Int)))) (p4:(List (List Int)))=>
  (dj (bq (List.length y2+List.length [p4]))).bind fun _=>
  some (y2++[p4],true))) k a1 c (fun z3 q p r' h=>?_) (.slice none 0 0) (([]:(List (List (List Int)))),false) r5 j) rfl (fun _=>rfl) (fun _=>rfl)
  obtain⟨rq,hq,h2,rfl⟩:=qN h;obtain⟨y2,b5⟩:=q;obtain rfl:b5=false:=hq;replace h:=aZ h2;obtain⟨p4,hpv⟩:∃x,x=p:=⟨_,rfl⟩;subst hpv;refine YT.pick (R':=(fun z3:Value=>(.eq (.bool rq.2),[.raw l (.loop (j8 ⟨.ready,none,fn0,tm0, #[7],as0,bd0,df0⟩ (KZ (!rq.2)))),.obj b1 102 (.eq z3),.sl z3 85 (.arr 3 (.arr 5 (.int .i64))) rq.1]))) [0,1,2] [0,1,2] (Jj ha hb (N:=13) (Γ:=[(2,Pt b1)]) rfl hN (by decide) vN (fun S w=>?_)) rfl (fun _=>rfl) (fun _=>rfl);refine ab (aE rfl rfl rfl (a9 rfl sT t3) trivial fun b6=>?_);refine bf rfl rfl (a8 rfl ge rfl rfl rfl) ⟨rfl,rfl,trivial⟩ ?_;refine nl (dh 1 rfl ?_);refine wq rfl rfl ?_;refine ai (ab (fr 2 ?_));refine lo G0 ?_;refine fr 2 ?_;refine lo ge ?_;refine ja (be (t:=(.arr 3 (.arr 5 (.int .i64)))) [(.tmp 9,_)] [p4] rfl rfl MO (.cons rfl .rep .nil) rfl rfl) ?_;obtain⟨u7,e,h⟩:=aa h;refine fr 3 ?_;refine cz rfl rfl rfl (bp rfl rfl MO (aB e)) ⟨rfl,rfl,trivial⟩ fun v8=>?_;refine ov fun o9=>?_;refine fr 2 ?_;refine bf rfl rfl (a8 rfl G0 o9 rfl rfl) ⟨rfl,rfl,trivial⟩ ?_;refine ay (bX (dh 1 rfl ?_));refine dh 1 rfl ?_;refine dh 3 rfl ?_;cases h;exact t5 v8 2 rfl
 ·
  replace h:=bO (EI hj) h;refine bX (tn (sr (fr 2 ?_)));refine lo G0 ?_;refine aq (nt (bH ?_));refine dh 1 rfl ?_;refine zd ?_;refine bz (SE.fin (Γ':=[(4,_)]) [2,1,0] ⟨rfl,trivial⟩ rfl) ?_;cases h;exact aO z3 [.eq z3] 2 ⟨rfl,trivial⟩ rfl
 ·
  replace h:=cG (EH hj) h;cases h
def kE(k:Nat)(a0:dn):Option (List (List (List Int))):=
 (jJ k a0).bind fun r1=>
 some r1
theorem qs(k:Nat)(a0:dn)(c:Nat)(r:(List (List (List Int))))(h:kE k a0=some r):
 bV Tryz.prog 56 [.eq (.func (.func 89) #[] #[(Pv c)])] [.obj c 80 (.at bI a0)] (fun _:Unit=>(bm [.rep (.slice (.arr 3 (.arr 5 (.int .i64)))) r],[.obj c 80 (.at bI a0)])):=by
 unfold kE at h
 replace h:=aZ h
 refine bV.of 5 Tryz.func56 rfl Tryz.ntmps56 rfl fun S w0=>?_
 refine sr ?_
 refine cq ?_
 refine nt ?_
 refine sr ?_
 refine mq ?_
 obtain⟨r1,e,h⟩:=aa h
 have j:=oN k a0 c r1 e
 refine bQ (Δ:=[_]) (F:=_) (fun _ _ _=>aA rfl _) rfl rfl (ap [.const (.slice none 0 0),.tmp 3] rfl rfl TC rfl j) ⟨rfl,rfl,trivial⟩ fun z2=>?_
 refine aq ?_
 refine nt ?_
 refine bH ?_
 refine bz (d5 [2,4] ⟨rfl,rfl,trivial⟩) ?_
 cases h
 exact aO () [_] 1 ⟨rfl,trivial⟩ rfl
theorem oW(a0:dn):bV Tryz.prog 57 [.at bI a0] [] (fun z:Nat=>(bm [.eq (.func (.func 89) #[] #[(Pv z)])],[.obj z 80 (.at bI a0)])):=by
 refine bV.of 4 Tryz.func57 rfl Tryz.ntmps57 rfl fun S w0=>?_;refine sr (aE rfl rfl rfl (oH rfl trivial) ⟨rfl,trivial⟩ fun z=>?_);refine au ?_;refine ja (tu [] [.tmp 1] [] [(Pv z)] rfl rfl rfl) ?_;refine au ?_;exact aO z [_] 1 ⟨rfl,trivial⟩ rfl
def iq(k:Nat)(a0:List Int):Option (List Int):=
 (dj (bq (List.length a0))).bind fun _=>some a0
theorem nj(k:Nat)(a0:List Int)(r:List Int)(h:iq k a0=some r):
 bV Tryz.prog 59 [Ri a0] [] (fun z:Value=>(bm [.eq z],[.sl z 3 (.int .i64) r])):=by
 unfold iq at h
 replace h:=aZ h
 refine bV.of 8 Tryz.func59 rfl Tryz.ntmps59 rfl fun S w0=>?_
 obtain⟨u1,c,h⟩:=aa h
 cases h
 refine sr ?_
 refine cq ?_
 refine nt ?_
 refine ar ?_
 refine sr ?_
 refine mq ?_
 refine bQ (Δ:=[]) (F:=_) (fun _ _ _=>aA rfl _) rfl rfl (Kz rfl dB) ⟨rfl,rfl,trivial⟩ fun b=>?_
 refine nt ?_
 refine bG rfl (fun hb=>?_) (fun hb=>?_)
 ·
  refine sr (cq (nt (rx ?_)));obtain rfl:=b.2 hb;refine bz (SE.nil 3 (.int .i64)) ?_;exact aO (.slice none 0 0) [.eq (.slice none 0 0)] 1 ⟨rfl,trivial⟩ rfl
 ·
  refine au ?_;refine aE rfl rfl rfl (mh (t:=(.int .i64)) [] [] rfl rfl dp .nil rfl rfl) trivial fun v1=>?_;refine mq ?_;refine cz rfl rfl rfl (bp rfl rfl dp (by simpa using aB c)) ⟨rfl,rfl,trivial⟩ fun v2=>?_;refine au ?_;exact aO v2 [.eq v2] 1 ⟨rfl,trivial⟩ rfl
def jA(k:Nat)(a0:dn)(a1:(List (List Int)))(a2:Int):Nat→(Int×(List (List Int))×Int)→Option (Int×(List (List Int)))
 |0,_=>none
 |n+1,y5=>
  if y5.2.2 < 3 then((dP k a1 y5.2.2).bind fun r7=>
  (ip k a0 a2).bind fun r8=>
  (ng k r7 r8).bind fun r9=>
  (dj (bq (List.length y5.2.1+List.length [r9.2]))).bind fun _=>
  (ck (y5.2.2+1)).bind fun c=>
  jA k a0 a1 a2 n (Fz .u8 y5.1 r9.1,y5.2.1++[r9.2],c)) else(some (y5.1,y5.2.1))
def lE(k:Nat)(a0:dn)(a1:(List (List Int)))(a2:Int):Option (Int×(List (List Int))):=
 ((jA k a0 a1 a2 k (0,([]:(List (List Int))),0)):Option (Int×(List (List Int)))).bind fun x3=>
 (dV k x3.2).bind fun c=>
 some (x3.1,c)
theorem oC(k:Nat)(a0:dn)(a1:(List (List Int)))(a2:Int)(r:Int×(List (List Int)))(h:lE k a0 a1 a2=some r):
 bV Tryz.prog 70 [.at bI a0,.rep (.arr 3 (.arr 5 (.int .i64))) a1,I a2] [] (fun _:Unit=>(bm [.eq (.int .u8 r.1),.rep (.arr 3 (.arr 5 (.int .i64))) r.2],[])):=by
 unfold lE at h
 replace h:=aZ h
 refine bV.of 37 Tryz.func70 rfl Tryz.ntmps70 rfl fun S w0=>?_
 refine sr ?_
 refine bx fun b1=>?_
 refine cq ?_
 refine aE rfl rfl rfl (a9 rfl sT t3) trivial fun b2=>?_
 refine nt ?_
 refine sr ?_
 refine cq ?_
 refine nt ?_
 refine sr ?_
 refine cq ?_
 refine nt ?_
 refine aM (Z:=Value) (α:=Int×(List (List Int))) (fun z4 x3=>[(7,Pt b2),(8,.eq (.int .u8 x3.1)),(9,.eq z4)]) (fun z4 x3=>[.obj b2 85 (.rep (.arr 3 (.arr 5 (.int .i64))) [[0,0,0,0,0],[0,0,0,0,0],[0,0,0,0,0]]),.sl z4 22 (.slice (.int .i64)) x3.2]) h (fun K h=>?_) (fun z4 x3 h=>?_)
 ·
  refine sr (ff rfl ?_);refine nt (ai (dA (SE.nil 22 (.slice (.int .i64))) ?_));refine aK (fun z6 y5=>[(0,.at bI a0),(2,I a2),(4,Pt b1),(7,Pt b2),(8,.eq (.int .u8 y5.1)),(9,.eq z6),(13,I y5.2.2)]) (fun z6 y5=>[.obj b1 85 (.rep (.arr 3 (.arr 5 (.int .i64))) a1),.obj b2 85 (.rep (.arr 3 (.arr 5 (.int .i64))) [[0,0,0,0,0],[0,0,0,0,0],[0,0,0,0,0]]),.sl z6 22 (.slice (.int .i64)) y5.2.1]) (jA k a0 a1 a2) k (.slice none 0 0) (0,([]:(List (List Int))),0) (fun _=>rfl) h (SE.fin [2,1,0] ⟨rfl,rfl,rfl,rfl,rfl,rfl,rfl,trivial⟩ rfl) (fun n z6 y5 h=>?_);unfold jA at h;refine sr (jb (bg rfl) ?_);refine au ?_;refine ci h (fun h=>?_) (fun h=>?_)
  ·refine au ?_;refine ai (au ?_);refine lo ge ?_;refine mq ?_;obtain⟨r7,D,h⟩:=aa h;refine jb (ap [.tmp 17,.tmp 18] rfl rfl Lt rfl (gl k a1 y5.2.2 r7 D)) ?_;refine au ?_;obtain⟨r8,y,h⟩:=aa h;refine jb (ap [.tmp 20,.tmp 21] rfl rfl Tv rfl (nb k a0 a2 r8 y)) ?_;obtain⟨r9,x,h⟩:=aa h;refine jb (ap [.tmp 19,.tmp 22] rfl rfl Tz rfl (t9 k r7 r8 r9 x)) ?_;refine au ?_;refine jb (PW rfl) ?_;refine au ?_;refine ab (au ?_);refine ja (be (t:=(.slice (.int .i64))) [(.tmp 30,_)] [r9.2] rfl rfl nW (.cons rfl .rep .nil) rfl rfl) ?_;obtain⟨E,j,h⟩:=aa h;refine fr 2 ?_;refine cz rfl rfl rfl (bp rfl rfl nW (aB j)) ⟨rfl,rfl,trivial⟩ fun u=>?_;refine au ?_;refine ab ?_;obtain⟨s,e,h⟩:=aa h;refine jb (aW rfl e) ?_;refine au ?_;exact jz (u,(Fz .u8 y5.1 r9.1,y5.2.1++[r9.2],s)) h [1,2,0]
  ·refine au ?_;exact jz (z6,(y5.1,y5.2.1)) h [1,2]
 ·
  refine sr ?_;iterate 2 refine mq ?_
  obtain⟨c,l,h⟩:=aa h;refine fr 1 ?_;refine ka (wl (N:=[(.tmp 35,.eq z4)]) (ap [.tmp 35] rfl rfl FN rfl (fo k x3.2 c l)) (fun _ _ _ hv hn=>⟨(lend hn.1 hv),trivial⟩) (fun _=>⟨rfl,AT⟩)) ?_;refine aq ?_;refine fr 1 ?_;refine bf rfl rfl (a8 rfl ge rfl rfl rfl) ⟨rfl,rfl,trivial⟩ ?_;refine au ?_;cases h;exact aO () [_,.rep (.arr 3 (.arr 5 (.int .i64))) c] 0 ⟨rfl,⟨_,_,_,_,_,rfl,(.head _),ge,(wy),rfl⟩,trivial⟩ rfl
def lg(k:Nat)(a0:(List Int)):Option aQ:=
 ((if(a0.length:Int)=0 then(some [3,2]) else(some a0)):Option ((List Int))).bind fun x2=>
 some (3,[(1,[0,2]),(1,[1]),(2,[2]),(1,[0,1])],x2)
theorem jT(k:Nat)(a0:(List Int))(r:aQ)(h:lg k a0=some r):
 bV Tryz.prog 35 [Ri a0] [] (fun _:Unit=>(bm [.rep ao r],[])):=by
 unfold lg at h
 replace h:=aZ h
 refine bV.of 18 Tryz.func35 rfl Tryz.ntmps35 rfl fun S w0=>?_
 refine sr ?_
 refine aE rfl rfl rfl (a9 rfl kC mG) trivial fun b1=>?_
 refine nt ?_
 refine aM (Z:=Unit) (α:=(List Int)) (fun z3 x2=>[(0,Ri x2),(2,Pt b1)]) (fun z3 x2=>[.obj b1 27 (.agg (.pair (I 0) (.pair (.eq (.slice none 0 0)) (.eq (.slice none 0 0)))))]) h (fun K h=>?_) (fun z3 x2 h=>?_)
 ·
  refine au ?_;refine ol dB ?_;refine jb (fq rfl) ?_;refine nt (ci h (fun h=>?_) (fun h=>?_))
  ·refine ab (jb (be (t:=(.int .i64)) [(.const (.int .i64 (3)),_),(.const (.int .i64 (2)),_)] [3,2] rfl rfl dp (.cons rfl .int (.cons rfl .int .nil)) rfl rfl) ?_);refine au ?_;exact jz ((),[3,2]) h [0]
  ·refine au ?_;exact jz ((),a0) h [0]
 ·
  refine sr (jb (be (t:=(.int .i64)) [(.const (.int .i64 (0)),_),(.const (.int .i64 (2)),_)] [0,2] rfl rfl dp (.cons rfl .int (.cons rfl .int .nil)) rfl rfl) ?_);refine jb (cH [(0,.const (.int .i64 (1)),_),(1,.tmp 7,_)] rfl zV ul ui (il ⟨rfl,rfl,trivial⟩) rfl) ?_;refine ja (be (t:=(.int .i64)) [(.const (.int .i64 (1)),_)] [1] rfl rfl dp (.cons rfl .int .nil) rfl rfl) ?_;refine jb (cH [(0,.const (.int .i64 (1)),_),(1,.tmp 9,_)] rfl zV ul ui (il ⟨rfl,rfl,trivial⟩) rfl) ?_;refine ja (be (t:=(.int .i64)) [(.const (.int .i64 (2)),_)] [2] rfl rfl dp (.cons rfl .int .nil) rfl rfl) ?_;refine jb (cH [(0,.const (.int .i64 (2)),_),(1,.tmp 11,_)] rfl zV ul ui (il ⟨rfl,rfl,trivial⟩) rfl) ?_;refine jb (be (t:=(.int .i64)) [(.const (.int .i64 (0)),_),(.const (.int .i64 (1)),_)] [0,1] rfl rfl dp (.cons rfl .int (.cons rfl .int .nil)) rfl rfl) ?_;refine jb (cH [(0,.const (.int .i64 (1)),_),(1,.tmp 13,_)] rfl zV ul ui (il ⟨rfl,rfl,trivial⟩) rfl) ?_;refine aG rfl (be (t:=aH) [(.tmp 8,_),(.tmp 10,_),(.tmp 12,_),(.tmp 14,_)] [(1,[0,2]),(1,[1]),(2,[2]),(1,[0,1])] rfl rfl yj (.cons trivial (.agg (.pair .int .rep)) (.cons trivial (.agg (.pair .int .rep)) (.cons trivial (.agg (.pair .int .rep)) (.cons trivial (.agg (.pair .int .rep)) .nil)))) rfl rfl) ⟨rfl,rfl,rfl,rfl,trivial⟩ ?_;refine mq ?_;refine jc (cH [(0,.const (.int .i64 (3)),_),(1,.tmp 15,_),(2,.tmp 16,_)] rfl Hj kC A6 (il ⟨rfl,rfl,rfl,trivial⟩) rfl) ?_;refine bf rfl rfl (a8 rfl cU trivial rfl rfl) ⟨rfl,rfl,trivial⟩ ?_;refine nt (bH (bz (oq (a:=.agg (.pair (I 3) (.pair (Rs aH [(1,[0,2]),(1,[1]),(2,[2]),(1,[0,1])]) (Ri x2)))) (a':=.rep ao (3,[(1,[0,2]),(1,[1]),(2,[2]),(1,[0,1])],x2)) (wx (.agg (.pair .int (.pair .rep .rep))))) ?_));cases h;exact aO () [.rep ao (3,[(1,[0,2]),(1,[1]),(2,[2]),(1,[0,1])],x2)] 0 ⟨⟨_,_,_,_,_,rfl,(.head _),cU,(wy),rfl⟩,trivial⟩ rfl
def xw(k:Nat):Option (List (List Int)):=
 some [[1,0,3],[2]]
theorem sc(k:Nat)(r:(List (List Int)))(h:xw k=some r):
 bV Tryz.prog 36 [] [] (fun _:Unit=>(bm [.rep (.slice (.slice (.int .i64))) r],[])):=by
 unfold xw at h
 replace h:=aZ h
 refine bV.of 4 Tryz.func36 rfl Tryz.ntmps36 rfl fun S w0=>?_
 refine au ?_
 refine jc (be (t:=(.int .i64)) [(.const (.int .i64 (1)),_),(.const (.int .i64 (0)),_),(.const (.int .i64 (3)),_)] [1,0,3] rfl rfl dp (.cons rfl .int (.cons rfl .int (.cons rfl .int .nil))) rfl rfl) ?_
 refine ja (be (t:=(.int .i64)) [(.const (.int .i64 (2)),_)] [2] rfl rfl dp (.cons rfl .int .nil) rfl rfl) ?_
 refine jb (be (t:=(.slice (.int .i64))) [(.tmp 1,_),(.tmp 2,_)] [[1,0,3],[2]] rfl rfl nW (.cons rfl .rep (.cons rfl .rep .nil)) rfl rfl) ?_
 refine au ?_
 cases h
 exact ra
def Im(k:Nat):Option (List (List Int)):=
 some [[0,2],[3,1]]
theorem Il(k:Nat)(r:(List (List Int)))(h:Im k=some r):
 bV Tryz.prog 37 [] [] (fun _:Unit=>(bm [.rep (.slice (.slice (.int .i64))) r],[])):=by
 unfold Im at h
 replace h:=aZ h
 refine bV.of 4 Tryz.func37 rfl Tryz.ntmps37 rfl fun S w0=>?_
 refine au ?_
 refine jb (be (t:=(.int .i64)) [(.const (.int .i64 (0)),_),(.const (.int .i64 (2)),_)] [0,2] rfl rfl dp (.cons rfl .int (.cons rfl .int .nil)) rfl rfl) ?_
 refine jb (be (t:=(.int .i64)) [(.const (.int .i64 (3)),_),(.const (.int .i64 (1)),_)] [3,1] rfl rfl dp (.cons rfl .int (.cons rfl .int .nil)) rfl rfl) ?_
 refine jb (be (t:=(.slice (.int .i64))) [(.tmp 1,_),(.tmp 2,_)] [[0,2],[3,1]] rfl rfl nW (.cons rfl .rep (.cons rfl .rep .nil)) rfl rfl) ?_
 refine au ?_
 cases h
 exact ra
def iy(k:Nat)(a0:dn)(a2:Int):Nat→((List (List Int))×Int)→Option (List (List Int))
 |0,_=>none
 |n+1,y5=>
  if y5.2 < a2 then((lE k a0 y5.1 y5.2).bind fun r7=>
  (ck (y5.2+1)).bind fun x8=>
  iy k a0 a2 n (r7.2,x8)) else(some y5.1)
def lU(k:Nat)(a0:dn)(a1:(List (List Int)))(a2:Int):Option (List (List Int)):=
 ((iy k a0 a2 k (a1,0)):Option ((List (List Int)))).bind fun x3=>
 some x3
theorem rC(k:Nat)(a0:dn)(a1:(List (List Int)))(a2:Int)(r:(List (List Int)))(h:lU k a0 a1 a2=some r):
 bV Tryz.prog 46 [.at bI a0,.rep (.arr 3 (.arr 5 (.int .i64))) a1,I a2] [] (fun _:Unit=>(bm [.rep (.arr 3 (.arr 5 (.int .i64))) r],[])):=by
 unfold lU at h
 replace h:=aZ h
 refine bV.of 21 Tryz.func46 rfl Tryz.ntmps46 rfl fun S w0=>?_
 refine sr ?_
 refine bx fun b1=>?_
 refine aE rfl rfl rfl (a9 rfl sT t3) trivial fun b2=>?_
 refine nt ?_
 refine aM (Z:=Unit) (α:=(List (List Int))) (fun z4 x3=>[(4,Pt b1),(6,Pt b2)]) (fun z4 x3=>[.obj b1 85 (.rep (.arr 3 (.arr 5 (.int .i64))) x3),.obj b2 85 (.rep (.arr 3 (.arr 5 (.int .i64))) [[0,0,0,0,0],[0,0,0,0,0],[0,0,0,0,0]])]) h (fun K h=>?_) (fun z4 x3 h=>?_)
 ·
  refine au ?_;refine ff rfl ?_;refine nt (ai (aK (fun z6 y5=>[(0,.at bI a0),(4,Pt b1),(6,Pt b2),(8,I a2),(9,I y5.2)]) (fun z6 y5=>[.obj b1 85 (.rep (.arr 3 (.arr 5 (.int .i64))) y5.1),.obj b2 85 (.rep (.arr 3 (.arr 5 (.int .i64))) [[0,0,0,0,0],[0,0,0,0,0],[0,0,0,0,0]])]) (iy k a0 a2) k () (a1,0) (fun _=>rfl) h (SE.fin [1,0] ⟨rfl,rfl,rfl,rfl,rfl,trivial⟩ rfl) (fun n z6 y5 h=>?_)));unfold iy at h;refine sr (jb (bg rfl) ?_);refine au ?_;refine ci h (fun h=>?_) (fun h=>?_)
  ·refine au ?_;refine ai (au ?_);refine ab (mq ?_);refine lo ge ?_;refine mq ?_;obtain⟨r7,e,h⟩:=aa h;refine jc (ap [.tmp 13,.tmp 14,.tmp 15] rfl rfl QO rfl (oC k a0 y5.1 y5.2 r7 e)) ?_;refine au ?_;refine bf rfl rfl (a8 rfl ge rfl rfl rfl) ⟨rfl,rfl,trivial⟩ ?_;refine au ?_;refine ab ?_;obtain⟨x8,c,h⟩:=aa h;refine jb (aW rfl c) ?_;refine au ?_;exact jz ((),(r7.2,x8)) h [0,1]
  ·refine au ?_;exact jz ((),y5.1) h [0,1]
 ·
  refine sr (lo ge ?_);refine fr 1 ?_;refine bf rfl rfl (a8 rfl ge rfl rfl rfl) ⟨rfl,rfl,trivial⟩ ?_;refine au ?_;obtain rfl:=Option.some.inj h;exact aO () [.rep (.arr 3 (.arr 5 (.int .i64))) x3] 0 ⟨⟨_,_,_,_,_,rfl,(.head _),ge,(wy),rfl⟩,trivial⟩ rfl
def l7(k:Nat)(a0:List Int)(a1 a2:Int):Option (List Int):=
 (dj (0≤a1∧a1 < a2∧a2≤(a0.length:Int))).bind fun _=>some (a0.take a1.toNat++a0.drop a2.toNat)
theorem rN(k:Nat)(a0:List Int)(v:Value)(a1 a2:Int)(r:List Int)(h:l7 k a0 a1 a2=some r):bV Tryz.prog 105 [.eq v,.eq (.int .i64 a1),.eq (.int .i64 a2)] [.sl v 3 (.int .i64) a0] (fun z:Value=>(bm [.eq z],[.sl z 3 (.int .i64) r])):=by
 unfold l7 at h
 replace h:=aZ h
 obtain⟨u1,eg,h⟩:=aa h
 obtain⟨h1,h2,h3⟩:=aB eg
 obtain rfl:=Option.some.inj h
 refine bV.of 33 Tryz.func105 rfl Tryz.ntmps105 rfl fun S w0=>?_
 refine Gj (fun e=>by rw [e] at h3;simp at h3;omega) fun b cap hv hcap=>?_
 subst hv
 have hl:(a0.take a1.toNat++a0.drop a2.toNat).length=a1.toNat+(a0.length - a2.toNat):=by simp;omega
 refine ar ?_
 refine ab ?_
 refine dE rfl ?_
 refine ay (ag ?_)
 show JC _ _ _ _ _
 refine ar ?_
 refine ab ?_
 refine aC rfl rfl ?_
 refine aC rfl rfl ?_
 refine aC rfl rfl ?_
 refine aC rfl rfl ?_
 refine bU rfl rfl rfl (cZ rfl rfl dB) ⟨rfl,trivial⟩ ?_
 refine aG rfl (yu rfl dB bY h1 (by omega) h3 (by omega)) ⟨rfl,rfl,rfl,rfl,trivial⟩ ?_
 refine ay (ag ?_)
 show JC _ _ _ _ _
 refine ar ?_
 refine ar ?_
 refine ab ?_
 refine aC rfl rfl ?_
 refine aC rfl rfl ?_
 refine aG rfl (fq rfl) ⟨rfl,rfl,trivial⟩ ?_
 refine ay (ag ?_)
 show JC _ _ _ _ _
 refine bG rfl (fun hb=>absurd (of_decide_eq_true hb) (by omega)) (fun hb=>?_)
 refine cX (ag ?_)
 show JC _ _ _ _ _
 refine ar ?_
 refine ab ?_
 refine aC rfl rfl ?_
 refine bU rfl rfl rfl (cZ rfl rfl dB) ⟨rfl,trivial⟩ ?_
 refine de rfl rfl ?_
 refine ay (ag ?_)
 show JC _ _ _ _ _
 refine ar ?_
 refine bR ?_
 refine dz rfl rfl rfl (aL rfl) ⟨rfl,trivial⟩ ?_
 refine dz rfl rfl rfl (aL rfl) ⟨rfl,trivial⟩ ?_
 refine dz rfl rfl rfl (vz rfl dB bY h1 (by omega)) ⟨rfl,rfl,trivial⟩ ?_
 refine dz rfl rfl rfl (aL rfl) ⟨rfl,trivial⟩ ?_
 refine dz rfl rfl rfl (aL rfl) ⟨rfl,trivial⟩ ?_
 refine dz rfl rfl rfl (CC rfl dB bY (by omega) h3) ⟨rfl,rfl,trivial⟩ ?_
 refine t7 (by kernel_rfl) cE ?_
 refine ct (sL 22 rfl fun _ _ _ h=>(DC▸h:(A.eq (.slice (some ⟨b,0,none⟩) a1.toNat cap)).holds _ _ _)) ?_
 refine bU rfl rfl rfl (yw (t:=.int .i64) (b:=b) (cap:=cap) (l:=a0) (i:=a1.toNat) (j:=a2.toNat) rfl rfl dp (by omega) (by omega) hcap) ⟨rfl,rfl,trivial⟩ ?_
 refine de rfl rfl ?_
 refine ay (ag ?_)
 show JC _ _ _ _ _
 refine ar ?_
 refine ab ?_
 refine aC rfl rfl ?_
 refine aC rfl rfl ?_
 refine bU rfl rfl rfl (cZ rfl rfl dB) ⟨rfl,trivial⟩ ?_
 refine aC rfl rfl ?_
 refine aG rfl (zY rfl dB bY (by omega) (by rw [hl];omega) (by omega)) ⟨rfl,rfl,rfl,trivial⟩ ?_
 refine bf rfl rfl (Af (t:=.int .i64) (b:=b) (cap:=cap) (l:=a0.take a1.toNat++a0.drop a2.toNat) (n:=a0.length) rfl rfl dB rfl UG rfl rfl (by rw [hl];omega) hcap) ⟨rfl,trivial⟩ ?_
 refine ay (ag ?_)
 show JC _ _ _ _ _
 refine ar ?_
 refine ab ?_
 refine aC rfl rfl ?_
 refine de rfl rfl ?_
 refine ay (ag ?_)
 show JC _ _ _ _ _
 refine bH ?_
 exact aO _ [.eq _] 1 ⟨rfl,trivial⟩ rfl
def kT(k:Nat)(x7:Int)(h:(List (List Int))):Nat→((List (List Int))×Int)→Option (List (List Int))
 |0,_=>none
 |n+1,c=>
  if c.2 < (h.length:Int) then((aR h c.2).bind fun e=>
  (dj (bq (List.length [x7]+List.length e))).bind fun _=>
  (dj (bq (List.length c.1+List.length [[x7]++e]))).bind fun _=>
  (ck (c.2+1)).bind fun j=>
  kT k x7 h n (c.1++[[x7]++e],j)) else(some c.1)
def kU(k:Nat)(a0:(List Int))(self:(List Int)→Option ((List (List Int)))):Nat→((List (List Int))×Int)→Option (List (List Int))
 |0,_=>none
 |n+1,y3=>
  if y3.2 < (a0.length:Int) then((((aR a0 y3.2).bind fun x7=>
  (iq k a0).bind fun r8=>
  (ck (y3.2+1)).bind fun e=>
  (l7 k r8 y3.2 e).bind fun j=>
  (self j).bind fun h=>
  kT k x7 h k (y3.1,0)):Option ((List (List Int)))).bind fun x5=>
  (ck (y3.2+1)).bind fun c=>
  kU k a0 self n (x5,c)) else(some y3.1)
def lW(k:Nat):Nat→(List Int)→Option ((List (List Int)))
 |0,_=>none
 |m0+1,a0=>
  if(a0.length:Int)=0 then(some [[]]) else(((kU k a0 (lW k m0) k (([]:(List (List Int))),0)):Option ((List (List Int)))).bind fun x1=>
  some x1)
theorem wC(k:Nat):
 ∀(n:Nat) (a0:(List Int)) (r:(List (List Int))),lW k n a0=some r→bV Tryz.prog 75 [Ri a0] ([]) (fun _:Unit=>(bm [.rep (.slice (.slice (.int .i64))) r],[])):=by
 intro n
 induction n with
 |zero=>intro a0 r h;cases h
 |succ m0 ih=>
  intro a0 r h;rw [lW] at h;replace h:=aZ h;refine bV.of 41 Tryz.func75 rfl Tryz.ntmps75 rfl fun S w0=>?_;refine au ?_;refine ol dB ?_;refine jb (fq rfl) ?_;refine nt (ci h (fun h=>?_) (fun h=>?_))
  ·refine sr (ja (be (t:=(.slice (.int .i64))) [(.const (.slice none 0 0),_)] [[]] rfl rfl nW (.cons rfl .nil .nil) rfl rfl) ?_);refine au ?_;cases h;exact ra
  ·refine sk (sr (cq (nt ?_)));refine aM (Z:=Value) (α:=(List (List Int))) (fun z2 x1=>[(3,.eq z2)]) (fun z2 x1=>[.sl z2 22 (.slice (.int .i64)) x1]) h (fun K h=>?_) (fun z2 x1 h=>?_)
   ·refine au ?_;refine ol dB ?_;refine ff rfl ?_;refine nt (ai (dA (SE.nil 22 (.slice (.int .i64))) ?_));refine aK (fun z4 y3=>[(0,Ri a0),(3,.eq z4),(12,Ri a0),(13,I (a0.length:Int)),(14,I y3.2)]) (fun z4 y3=>[.sl z4 22 (.slice (.int .i64)) y3.1]) (kU k a0 (lW k m0)) k (.slice none 0 0) (([]:(List (List Int))),0) (fun _=>rfl) h (SE.fin [0] ⟨rfl,rfl,rfl,rfl,rfl,trivial⟩ rfl) (fun n z4 y3 h=>?_);unfold kU at h;refine sr (jb (bg rfl) ?_);refine au ?_;refine ci h (fun h=>?_) (fun h=>?_)
    ·refine sk (aM (Z:=Value) (α:=(List (List Int))) (fun z6 x5=>[(0,Ri a0),(3,.eq z6),(12,Ri a0),(13,I (a0.length:Int)),(14,I y3.2)]) (fun z6 x5=>[.sl z6 22 (.slice (.int .i64)) x5]) h (fun K h=>?_) (fun z6 x5 h=>?_))
     ·refine ai (au ?_);obtain⟨x7,Y,h⟩:=aa h;refine jb (aD (t:=(.int .i64)) rfl dB bY Y) ?_;refine ja (ak (t:=(.int .i64)) rfl bY rfl) ?_;refine au ?_;obtain⟨r8,ac,h⟩:=aa h;refine aE rfl rfl rfl (ap [.tmp 19] rfl rfl TR rfl (nj k a0 r8 ac)) ⟨rfl,trivial⟩ fun v9=>?_;refine au ?_;obtain⟨U,D,h⟩:=aa h;refine jb (aW rfl D) ?_;obtain⟨s,M,h⟩:=aa h;refine cz rfl rfl rfl (ap [.tmp 20,.tmp 21,.tmp 23] rfl rfl Rn rfl (rN k r8 v9 y3.2 U s M)) ⟨rfl,rfl,rfl,trivial⟩ fun qt=>?_;refine ct (d5 [24] ⟨rfl,trivial⟩) ?_;obtain⟨j,J,h⟩:=aa h;refine ja (ap [.tmp 24] rfl rfl QM rfl (ih s j J)) ?_;refine ol lJ ?_;refine ff rfl ?_;refine nt (ai (aK (fun e c=>[(0,Ri a0),(3,.eq e),(5,I x7),(12,Ri a0),(13,I (a0.length:Int)),(14,I y3.2),(25,.rep (.slice (.slice (.int .i64))) j),(26,I (j.length:Int)),(27,I c.2)]) (fun e c=>[.sl e 22 (.slice (.int .i64)) c.1]) (kT k x7 j) k z4 (y3.1,0) (fun _=>rfl) h (SE.fin [0] ⟨rfl,rfl,rfl,rfl,rfl,rfl,rfl,rfl,rfl,trivial⟩ rfl) (fun n e c h=>?_)));unfold kT at h;refine sr (jb (bg rfl) ?_);refine au ?_;refine ci h (fun h=>?_) (fun h=>?_)
      ·refine au ?_;refine ai (sr ?_);obtain⟨l,y,h⟩:=aa h;refine jb (aD (t:=(.slice (.int .i64))) rfl lJ bC y) ?_;refine ja (ak (t:=(.slice (.int .i64))) rfl bC rfl) ?_;refine au ?_;refine ab (au ?_);refine aE rfl rfl rfl (mh (t:=(.int .i64)) [(.tmp 32,_)] [x7] rfl rfl dp (.cons rfl .int .nil) rfl rfl) ⟨rfl,trivial⟩ fun pp=>?_;refine mq ?_;obtain⟨UU,F,h⟩:=aa h;refine cz rfl rfl rfl (bp rfl rfl dp (aB F)) ⟨rfl,rfl,trivial⟩ fun mc=>?_;refine ct (d5 [35] ⟨rfl,trivial⟩) ?_;refine ja (be (t:=(.slice (.int .i64))) [(.tmp 35,_)] [[x7]++l] rfl rfl nW (.cons rfl .rep .nil) rfl rfl) ?_;obtain⟨se,E,h⟩:=aa h;refine cz rfl rfl rfl (bp rfl rfl nW (aB E)) ⟨rfl,rfl,trivial⟩ fun X=>?_;refine au ?_;refine ab ?_;obtain⟨Q,x,h⟩:=aa h;refine jb (aW rfl x) ?_;refine au ?_;exact jz (X,(c.1++[[x7]++l],Q)) h [0]
      ·refine au ?_;exact jz (e,c.1) h [0]
     ·refine ab ?_;obtain⟨O,u,h⟩:=aa h;refine jb (aW rfl u) ?_;refine au ?_;exact jz (z6,(x5,O)) h [0]
    ·refine au ?_;exact jz (z4,y3.1) h [0]
   ·refine sr (mq ?_);refine aq (nt (bH ?_));refine bz (d5 [2,3,40] ⟨rfl,rfl,rfl,trivial⟩) ?_;cases h;exact ra
def gh{σ:Type}(k:Nat)(a1:(List Int))(Y:σ→Int→Option (σ×Bool)):Nat→(Int×σ)→Option (σ)
 |0,_=>none
 |n+1,y1=>
  if y1.1 < (a1.length:Int) then((aR a1 y1.1).bind fun x3=>
  (Y y1.2 x3).bind fun r4=>
  if¬(r4.2=true) then(some r4.1) else((ck (y1.1+1)).bind fun x6=>
  gh k a1 Y n (x6,r4.1))) else(some y1.2)
def kD{σ:Type}(k:Nat)(Y:σ→Int→Option (σ×Bool))(a1:(List Int))(s0:σ):Option (σ):=
 gh k a1 Y k (0,s0)
theorem qn{M:Md Tryz.prog}{σ Z:Type}(E:Z→σ→List D)(l:Nat)(Y:σ→Int→Option (σ×Bool))(k:Nat)(a1:(List Int))(c:Nat)(hY:∀z s p r,Y s p=some r→YT M l [I p] (E z s) (fun z':Z=>(.eq (.bool r.2),E z' r.1))):
 ∀(z0:Z) (s0:σ) (r:σ),kD k Y a1 s0=some r→dG M 108 [.eq (.func (.yield l) #[] #[]),Pt c] ([.obj c 22 (Ri a1)]++E z0 s0) (fun z:Z=>(bm [],[.obj c 22 (Ri a1)]++E z r)):=by
 intro z0 s0 r h
 unfold kD at h
 replace h:=aZ h
 refine dG.of 16 Tryz.func108 rfl Tryz.ntmps108 rfl fun S w0=>?_
 refine sr ?_
 refine lo bC ?_
 refine ol dB ?_
 refine ff rfl ?_
 refine nt ?_
 refine ai ?_
 refine aK (Z:=Z) (α:=Int×σ) (fun z2 y1=>[(0,.eq (.func (.yield l) #[] #[])),(5,Ri a1),(6,I (a1.length:Int)),(7,I y1.1)]) (fun z2 y1=>[.obj c 22 (Ri a1)]++E z2 y1.2) (gh k a1 Y) k z0 (0,s0) (fun _=>rfl) h (bi [.obj c 22 (Ri a1)] (E z0 s0) [0] ⟨rfl,rfl,rfl,rfl,trivial⟩ rfl) (fun n z2 y1 h=>?_)
 unfold gh at h
 refine sr ?_
 refine jb (bg rfl) ?_
 refine au ?_
 refine ci h (fun h=>?_) (fun h=>?_)
 ·
  refine au ?_;refine ai (sr ?_);obtain⟨x3,j,h⟩:=aa h;refine jb (aD (t:=(.int .i64)) rfl dB bY j) ?_;refine ja (ak (t:=(.int .i64)) rfl bY rfl) ?_;refine au ?_;obtain⟨r4,u,h⟩:=aa h;refine pM [.obj c 22 (Ri a1)] rfl rfl rfl (yt [.tmp 12] rfl rfl rfl (hY z2 y1.2 x3 r4 u)) ⟨rfl,rfl,trivial⟩ fun z5=>?_;refine ja (eJ rfl) ?_;refine nt (cw h (fun h=>?_) (fun h=>?_))
  ·refine au ?_;cases h;exact jg z5 [] trivial rfl
  ·refine au ?_;refine ab ?_;obtain⟨x6,e,h⟩:=aa h;refine jb (aW rfl e) ?_;refine au ?_;exact jf (z5,(x6,r4.1)) h (bi [.obj c 22 (Ri a1)] (E z5 r4.1) [0] ⟨rfl,rfl,rfl,rfl,trivial⟩ rfl)
 ·
  refine au ?_;refine jw ?_;cases h;exact jg z2 [] trivial rfl
def j7(k:Nat)(a1:(List Int)):Option (List Int):=
 (kD k (qB (fun(y2:(List Int)) (p4:Int)=>
  (dj (bq (List.length y2+List.length [p4]))).bind fun _=>
  some (y2++[p4],true))) a1 (([]:(List Int)),false)).bind fun r5=>
 if r5.2=true then(none) else(some r5.1)
theorem oZ(k:Nat)(a1:(List Int))(c:Nat)(r:(List Int))(h:j7 k a1=some r):
 bV Tryz.prog 140 [.eq (.slice none 0 0),.eq (.func (.func 108) #[] #[(Pv c)])] [.obj c 22 (Ri a1)] (fun z:Value=>(bm [.eq z],[.sl z 3 (.int .i64) r,.obj c 22 (Ri a1)])):=by
 unfold j7 at h
 replace h:=aZ h
 refine zg 13 Tryz.func140 rfl Tryz.ntmps140 rfl fun {M} S w0=>?_
 refine sr ?_
 refine bx fun b1=>?_
 refine au ?_
 refine ai ?_
 refine dA (SE.nil 3 (.int .i64)) ?_
 refine jx 1 rfl ?_
 refine jx 2 rfl ?_
 obtain⟨r5,j,h⟩:=aa h
 refine ow (Δ:=[.obj c 22 (Ri a1),.obj b1 22 (.eq (.slice none 0 0)),.sl (.slice none 0 0) 3 (.int .i64) ([]:(List Int))]) (F:=[]) (X:=Value) (J:=fun _=>KZ r5.2) (E:=fun z3=>[.obj c 22 (Ri a1),.obj b1 22 (.eq z3),.sl z3 3 (.int .i64) r5.1]) (r0:=fun _=>.tup .any) rfl rfl Rk (fun rec hp ha hb hs hpe hN hv l=>?_) (fun dl z3=>qM (fun hj=>?_) (fun hj=>?_))
 ·
  rcases rec with⟨st0,pe0,fn0,tm0,ps0,as0,bd0,df0⟩;dsimp only at hp ha hb hs hpe hN hv;subst hp hs hpe;have vN:we tm0 [(2,Pt b1)]:=⟨congrArg A.eq (hv 2 _ rfl).symm,trivial⟩;refine dG.pick (M:=M) [1,0,2,3] [1,0,2,3] (qn (fun(z3:Value) (q:(List Int)×Bool)=>[.raw l (.loop (j8 ⟨.ready,none,fn0,tm0, #[7],as0,bd0,df0⟩ (KZ q.2))),.obj b1 22 (.eq z3),.sl z3 3 (.int .i64) q.1]) l (qB (fun(y2:(List Int)) (p4:Int)=>
  (dj (bq (List.length y2+List.length [p4]))).bind fun _=>
  some (y2++[p4],true))) k a1 c (fun z3 q p r' h=>?_) (.slice none 0 0) (([]:(List Int)),false) r5 j) rfl (fun _=>rfl) (fun _=>rfl)
  obtain⟨rq,hq,h2,rfl⟩:=qN h;obtain⟨y2,b5⟩:=q;obtain rfl:b5=false:=hq;replace h:=aZ h2;obtain⟨p4,hpv⟩:∃x,x=p:=⟨_,rfl⟩;subst hpv;refine YT.pick (R':=(fun z3:Value=>(.eq (.bool rq.2),[.raw l (.loop (j8 ⟨.ready,none,fn0,tm0, #[7],as0,bd0,df0⟩ (KZ (!rq.2)))),.obj b1 22 (.eq z3),.sl z3 3 (.int .i64) rq.1]))) [0,1,2] [0,1,2] (Jj ha hb (N:=13) (Γ:=[(2,Pt b1)]) rfl hN (by decide) vN (fun S w=>?_)) rfl (fun _=>rfl) (fun _=>rfl);refine ab (au ?_);refine wq rfl rfl ?_;refine ai (ab (fr 1 ?_));refine lo bC ?_;refine mq ?_;refine ja (be (t:=(.int .i64)) [(.tmp 9,_)] [p4] rfl rfl dp (.cons rfl .int .nil) rfl rfl) ?_;obtain⟨u6,e,h⟩:=aa h;refine fr 2 ?_;refine cz rfl rfl rfl (bp rfl rfl dp (aB e)) ⟨rfl,rfl,trivial⟩ fun v7=>?_;refine ov fun o8=>?_;refine fr 1 ?_;refine bf rfl rfl (a8 rfl bC o8 rfl rfl) ⟨rfl,rfl,trivial⟩ ?_;refine ay (bX (dh 1 rfl ?_));refine dh 1 rfl ?_;refine dh 2 rfl ?_;cases h;exact t5 v7 2 rfl
 ·
  replace h:=bO (EI hj) h;refine bX (tn (sr (fr 2 ?_)));refine lo bC ?_;refine aq (nt (bH ?_));refine dh 1 rfl ?_;refine zd ?_;refine bz (SE.fin (Γ':=[(4,_)]) [2,1,0] ⟨rfl,trivial⟩ rfl) ?_;cases h;exact aO z3 [.eq z3] 2 ⟨rfl,trivial⟩ rfl
 ·
  replace h:=cG (EH hj) h;cases h
def lw(k:Nat)(a0:(List Int)):Option (List Int):=
 (j7 k a0).bind fun r1=>
 some r1
theorem qQ(k:Nat)(a0:(List Int))(c:Nat)(r:(List Int))(h:lw k a0=some r):
 bV Tryz.prog 106 [.eq (.func (.func 108) #[] #[(Pv c)])] [.obj c 22 (Ri a0)] (fun z:Value=>(bm [.eq z],[.sl z 3 (.int .i64) r,.obj c 22 (Ri a0)])):=by
 unfold lw at h
 replace h:=aZ h
 refine bV.of 5 Tryz.func106 rfl Tryz.ntmps106 rfl fun S w0=>?_
 refine sr ?_
 refine cq ?_
 refine nt ?_
 refine sr ?_
 refine mq ?_
 obtain⟨r1,e,h⟩:=aa h
 have j:=oZ k a0 c r1 e
 refine bQ (Δ:=[_]) (F:=_) (fun _ _ _=>aA rfl _) rfl rfl (ap [.const (.slice none 0 0),.tmp 3] rfl rfl Q9 rfl j) ⟨rfl,rfl,trivial⟩ fun z2=>?_
 refine au ?_
 cases h
 exact aO z2 [.eq z2] 2 ⟨rfl,trivial⟩ rfl
def qi(k:Nat)(a0:Int):Option Bool:=
 some (!decide (a0=a0))
theorem sC(k:Nat)(a0:Int)(r:Bool)(h:qi k a0=some r):
 bV Tryz.prog 172 [I a0] [] (fun _:Unit=>(bm [.eq (.bool r)],[])):=by
 unfold qi at h
 replace h:=aZ h
 refine bV.of 6 Tryz.func172 rfl Tryz.ntmps172 rfl fun S w0=>?_
 refine au ?_
 refine jb (g7 rfl) ?_
 refine au ?_
 cases h
 exact ra
def vW(k:Nat)(a0:Int)(a1:Int):Option Bool:=
 (((qi k a0).bind fun r3=>
 if r3=true then((qi k a1).bind fun r4=>
 if¬(r4=true) then(some true) else(some (decide (a0 < a1)))) else(some (decide (a0 < a1)))):Option (Bool)).bind fun x1=>
 some x1
theorem A1(k:Nat)(a0:Int)(a1:Int)(r:Bool)(h:vW k a0 a1=some r):
 bV Tryz.prog 161 [I a0,I a1] [] (fun _:Unit=>(bm [.eq (.bool r)],[])):=by
 unfold vW at h
 replace h:=aZ h
 refine bV.of 17 Tryz.func161 rfl Tryz.ntmps161 rfl fun S w0=>?_
 refine sr ?_
 refine cq ?_
 refine nt ?_
 refine aM (Z:=Unit) (α:=Bool) (fun z2 x1=>[(4,.eq (.bool x1))]) (fun z2 x1=>[]) h (fun K h=>?_) (fun z2 x1 h=>?_)
 ·
  refine ab (mq ?_);obtain⟨r3,e,h⟩:=aa h;refine ja (ap [.tmp 5] rfl rfl M7 rfl (sC k a0 r3 e)) ?_;refine mq ?_;refine cd (s:=7) rfl (fun hb=>?_) (fun hb=>?_)
  ·replace h:=cG (EH hb) h;refine gm ?_;obtain⟨r4,c,h⟩:=aa h;refine ga (ap [.tmp 8] rfl rfl M7 rfl (sC k a1 r4 c)) ?_;refine ga (eJ rfl) ?_;refine pt ?_;refine mq ?_;refine cd (s:=12) rfl (fun hb=>?_) (fun hb=>?_)
   ·replace h:=cG (Fa hb) h;refine au ?_;exact jz ((),true) h []
   ·replace h:=bO (xh hb) h;refine au ?_;refine gb (bg rfl) ?_;refine au ?_;exact jz ((),decide (a0 < a1)) h []
  ·replace h:=bO (EI hb) h;refine au ?_;refine gb (bg rfl) ?_;refine au ?_;exact jz ((),decide (a0 < a1)) h []
 ·
  refine bH ?_;cases h;exact ra
def cK(k:Nat)(a1:Int):Nat→((List Int)×Int)→Option (List Int)
 |0,_=>none
 |n+1,y6=>
  ((if a1 < y6.2 then((aR y6.1 y6.2).bind fun u=>
  (ck (y6.2 - 1)).bind fun s=>
  (aR y6.1 s).bind fun r=>
  (vW k u r).bind fun x=>
  some x) else(some false)):Option (Bool)).bind fun x8=>
  if x8=true then((ck (y6.2 - 1)).bind fun e=>
  (ck (y6.2 - 1)).bind fun l=>
  (aR y6.1 l).bind fun c=>
  (aR y6.1 y6.2).bind fun j=>
  (aR y6.1 y6.2).bind fun D=>
  (aR (List.set y6.1 (Int.toNat y6.2) c) e).bind fun y=>
  (ck (y6.2 - 1)).bind fun h=>
  cK k a1 n (List.set (List.set y6.1 (Int.toNat y6.2) c) (Int.toNat e) j,h)) else(some y6.1)
def cM(k:Nat)(a1:Int)(a2:Int):Nat→((List Int)×Int)→Option (List Int)
 |0,_=>none
 |n+1,y2=>
  if y2.2 < a2 then(((cK k a1 k (y2.1,y2.2)):Option ((List Int))).bind fun x4=>
  (ck (y2.2+1)).bind fun c=>
  cM k a1 a2 n (x4,c)) else(some y2.1)
def eF(k:Nat)(a0:(List Int))(a1:Int)(a2:Int):Option (List Int):=
 (ck (a1+1)).bind fun x1=>
 cM k a1 a2 k (a0,x1)
theorem kz(k:Nat)(a0:(List Int))(c:Value)(a1:Int)(a2:Int)(r:(List Int))(h:eF k a0 a1 a2=some r):
 bV Tryz.prog 155 [.eq c,I a1,I a2] [.sl c 3 (.int .i64) a0] (fun _:Unit=>(bm [],[.sl c 3 (.int .i64) r])):=by
 unfold eF at h
 replace h:=aZ h
 refine bV.of 49 Tryz.func155 rfl Tryz.ntmps155 rfl fun S w0=>?_
 refine au ?_
 obtain⟨x1,Vd,h⟩:=aa h
 refine jb (aW rfl Vd) ?_
 refine au ?_
 refine ai ?_
 refine aK (fun z3 y2=>[(0,.eq c),(1,I a1),(2,I a2),(6,I y2.2)]) (fun z3 y2=>[.sl c 3 (.int .i64) y2.1]) (cM k a1 a2) k () (a0,x1) (fun _=>rfl) h (SE.fin [0] ⟨rfl,rfl,rfl,rfl,trivial⟩ rfl) (fun n z3 y2 h=>?_)
 unfold cM at h
 refine au ?_
 refine jb (bg rfl) ?_
 refine nt ?_
 refine ci h (fun h=>?_) (fun h=>?_)
 ·
  refine sk (aM (Z:=Unit) (α:=(List Int)) (fun z5 x4=>[(0,.eq c),(1,I a1),(2,I a2),(6,I y2.2)]) (fun z5 x4=>[.sl c 3 (.int .i64) x4]) h (fun K h=>?_) (fun z5 x4 h=>?_))
  ·refine ai (au ?_);refine ai (aK (fun z7 y6=>[(0,.eq c),(1,I a1),(2,I a2),(6,I y2.2),(7,I y6.2)]) (fun z7 y6=>[.sl c 3 (.int .i64) y6.1]) (cK k a1) k () (y2.1,y2.2) (fun _=>rfl) h (SE.fin [0] ⟨rfl,rfl,rfl,rfl,rfl,trivial⟩ rfl) (fun n z7 y6 h=>?_));unfold cK at h;refine ar (aM (Z:=Unit) (α:=Bool) (fun z9 x8=>[(0,.eq c),(1,I a1),(2,I a2),(6,I y2.2),(7,I y6.2),(30,.eq (.bool x8))]) (fun z9 x8=>[.sl c 3 (.int .i64) y6.1]) h (fun K h=>?_) (fun z9 x8 h=>?_))
   ·refine bR ?_;refine dm ?_;refine dm ?_;refine db (iD rfl) ?_;refine kW rfl rfl rfl (aL rfl) ⟨rfl,trivial⟩ (fun hb=>?_) (fun hb=>?_)
    ·replace h:=cG (oK hb) h;refine aU rfl rfl rfl rfl rfl (aL rfl) ⟨rfl,rfl,trivial⟩ ?_;refine aU rfl rfl rfl rfl rfl (aL rfl) ⟨rfl,rfl,trivial⟩ ?_;obtain⟨UZ,x,h⟩:=aa h;refine ky 0 rfl rfl rfl rfl rfl rfl (aV (t:=(.int .i64)) rfl dB bY x) ⟨rfl,rfl,rfl,trivial⟩ ?_;refine ky 0 rfl rfl rfl rfl rfl rfl (dM (i:=Int.toNat y6.2) (off:=0) rfl bY (fun _=>rfl) rfl (co x).2.2 rfl) ⟨rfl,rfl,trivial⟩ ?_;refine aU rfl rfl rfl rfl rfl (aL rfl) ⟨rfl,rfl,trivial⟩ ?_;refine aU rfl rfl rfl rfl rfl (aL rfl) ⟨rfl,rfl,trivial⟩ ?_;obtain⟨UY,qt,h⟩:=aa h;refine aU rfl rfl rfl rfl rfl (fS rfl qt) ⟨rfl,rfl,rfl,trivial⟩ ?_;obtain⟨UX,u,h⟩:=aa h;refine ky 0 rfl rfl rfl rfl rfl rfl (aV (t:=(.int .i64)) rfl dB bY u) ⟨rfl,rfl,rfl,trivial⟩ ?_;refine ky 0 rfl rfl rfl rfl rfl rfl (dM (i:=Int.toNat UY) (off:=0) rfl bY (fun _=>rfl) rfl (co u).2.2 rfl) ⟨rfl,rfl,trivial⟩ ?_;refine df cE ?_;obtain⟨F,se,h⟩:=aa h;refine gb (ap [.tmp 23,.tmp 28] rfl rfl Q2 rfl (A1 k UZ UX F se)) ?_;refine au ?_;exact jz ((),F) h [0]
    ·replace h:=bO (nL hb) h;iterate 9 refine dg ?_
     refine df cE ?_;refine au ?_;exact jz ((),false) h [0]
   ·refine cv h (fun h=>?_) (fun h=>?_)
    ·refine au ?_;refine ai (jy ?_);refine aI rfl rfl rfl (aL rfl) ⟨rfl,trivial⟩ ?_;refine aI rfl rfl rfl (aL rfl) ⟨rfl,trivial⟩ ?_;refine aI rfl rfl rfl (aL rfl) ⟨rfl,trivial⟩ ?_;refine aI rfl rfl rfl (aL rfl) ⟨rfl,trivial⟩ ?_;obtain⟨y,pp,h⟩:=aa h;refine aI rfl rfl rfl (fS rfl pp) ⟨rfl,rfl,trivial⟩ ?_;refine aI rfl rfl rfl (aL rfl) ⟨rfl,trivial⟩ ?_;refine aI rfl rfl rfl (aL rfl) ⟨rfl,trivial⟩ ?_;obtain⟨UW,mc,h⟩:=aa h;refine aI rfl rfl rfl (fS rfl mc) ⟨rfl,rfl,trivial⟩ ?_;obtain⟨E,s,h⟩:=aa h;refine di 0 rfl rfl rfl rfl (aV (t:=(.int .i64)) rfl dB bY s) ⟨rfl,rfl,trivial⟩ ?_;refine di 0 rfl rfl rfl rfl (dM (i:=Int.toNat UW) (off:=0) rfl bY (fun _=>rfl) rfl (co s).2.2 rfl) ⟨rfl,trivial⟩ ?_;refine aI rfl rfl rfl (aL rfl) ⟨rfl,trivial⟩ ?_;refine aI rfl rfl rfl (aL rfl) ⟨rfl,trivial⟩ ?_;obtain⟨D,l,h⟩:=aa h;refine di 0 rfl rfl rfl rfl (aV (t:=(.int .i64)) rfl dB bY l) ⟨rfl,rfl,trivial⟩ ?_;refine di 0 rfl rfl rfl rfl (dM (i:=Int.toNat y6.2) (off:=0) rfl bY (fun _=>rfl) rfl (co l).2.2 rfl) ⟨rfl,trivial⟩ ?_;obtain⟨Vl,j,h⟩:=aa h;refine di 0 rfl rfl rfl rfl (aV (t:=(.int .i64)) rfl dB bY j) ⟨rfl,rfl,trivial⟩ ?_;refine mA 15 [true,true,false,false,false,true,true,true,true,true,true,true,true,true,true] [48] [] [] rfl (by kernel_rfl) (by kernel_rfl) (by kernel_rfl) cE (fun vs hv hB=>?_);obtain⟨w0,Vz,rfl,Vb⟩:=an hv;obtain⟨w1,Vy,rfl,Va⟩:=an Vb;obtain⟨w2,Vx,rfl,U8⟩:=an Va;obtain⟨w3,Vw,rfl,U7⟩:=an U8;obtain⟨w4,Vv,rfl,U6⟩:=an U7;obtain⟨w5,Vu,rfl,U4⟩:=an U6;obtain⟨w6,Vt,rfl,U2⟩:=an U4;obtain⟨w7,Vs,rfl,U1⟩:=an U2;obtain⟨w8,Vr,rfl,U0⟩:=an U1;obtain⟨w9,Vj,rfl,X⟩:=an U0;obtain⟨Vq,Vi,rfl,U⟩:=an X;obtain⟨Vp,Vh,rfl,Q⟩:=an U;obtain⟨Vo,Vg,rfl,O⟩:=an Q;obtain⟨Vn,Vf,rfl,M⟩:=an O;obtain⟨Vm,Ve,rfl,J⟩:=an M;obtain rfl:=kg J;refine⟨[0],[.sl c 3 (.int .i64) y6.1],by kernel_rfl,by decide,?_⟩;refine ou rfl rfl (cP (i:=Int.toNat y6.2) rfl bY rfl (ig j) rfl .int rfl) ⟨rfl,rfl,trivial⟩ (by kernel_rfl) ?_;obtain⟨Vk,e,h⟩:=aa h;refine wo rfl rfl rfl rfl (aV (t:=(.int .i64)) rfl dB bY e) ⟨rfl,rfl,trivial⟩ (by kernel_rfl) ?_;refine ou rfl rfl (cP (i:=Int.toNat y) rfl bY rfl (ig e) rfl .int rfl) ⟨rfl,rfl,trivial⟩ (by kernel_rfl) ?_;refine pL ?_;refine bz (SE.fin (Γ':=[(0,.eq c),(1,I a1),(2,I a2),(6,I y2.2),(7,I y6.2)]) (Δ':=[.sl c 3 (.int .i64) (List.set (List.set y6.1 (Int.toNat y6.2) E) (Int.toNat y) D)]) [0] ⟨rfl,rfl,rfl,rfl,rfl,trivial⟩ rfl) ?_;refine au ?_;refine ab (mq ?_);obtain⟨UV,ac,h⟩:=aa h;refine jb (fS rfl ac) ?_;refine au ?_;exact jz ((),(List.set (List.set y6.1 (Int.toNat y6.2) E) (Int.toNat y) D,UV)) h [0]
    ·refine au ?_;exact jz ((),y6.1) h [0]
  ·refine ab (mq ?_);obtain⟨UU,Y,h⟩:=aa h;refine jb (aW rfl Y) ?_;refine au ?_;exact jz ((),(x4,UU)) h [0]
 ·
  refine au ?_;refine jw ?_;cases h;exact aO () [] 1 trivial rfl
def lx(k:Nat)(a0:Int):Option Int:=
 ((if 4294967296≤a0 then(some (iH .u64 a0 32,32)) else(some (a0,0))):Option (Int×Int)).bind fun x1=>
 ((if 65536≤x1.1 then((ck (x1.2+16)).bind fun x5=>
 some (iH .u64 x1.1 16,x5)) else(some (x1.1,x1.2))):Option (Int×Int)).bind fun x3=>
 ((if 256≤x3.1 then((ck (x3.2+8)).bind fun x8=>
 some (iH .u64 x3.1 8,x8)) else(some (x3.1,x3.2))):Option (Int×Int)).bind fun x6=>
 (C4 KV (IntKind.u8.wrap x6.1)).bind fun x9=>
 (ck (x9.toNat:Int)).bind fun e=>
 (ck (x6.2+e)).bind fun c=>
 some c
theorem q7(k:Nat)(a0:Int)(r:Int)(h:lx k a0=some r):
 bV Tryz.prog 165 [.eq (.int .u64 a0)] [] (fun _:Unit=>(bm [I r],[])):=by
 unfold lx at h
 replace h:=aZ h
 refine bV.of 25 Tryz.func165 rfl Tryz.ntmps165 rfl fun S w0=>?_
 refine sr ?_
 refine cq ?_
 refine nt ?_
 refine aM (Z:=Unit) (α:=Int×Int) (fun z2 x1=>[(0,.eq (.int .u64 x1.1)),(2,I x1.2)]) (fun z2 x1=>[]) h (fun K h=>?_) (fun z2 x1 h=>?_)
 ·
  refine au ?_;refine jb (qC rfl) ?_;refine nt (ci h (fun h=>?_) (fun h=>?_))
  ·refine au ?_;refine aG rfl (vA rfl (by decide)) ⟨rfl,rfl,trivial⟩ ?_;refine au ?_;refine ab (au ?_);exact jz ((),(iH .u64 a0 32,32)) h []
  ·refine au ?_;exact jz ((),(a0,0)) h []
 ·
  refine aM (Z:=Unit) (α:=Int×Int) (fun z4 x3=>[(0,.eq (.int .u64 x3.1)),(2,I x3.2)]) (fun z4 x3=>[]) h (fun K h=>?_) (fun z4 x3 h=>?_)
  ·refine au ?_;refine jb (qC rfl) ?_;refine nt (ci h (fun h=>?_) (fun h=>?_))
   ·refine au ?_;refine aG rfl (vA rfl (by decide)) ⟨rfl,rfl,trivial⟩ ?_;refine au ?_;refine ab (mq ?_);obtain⟨x5,n,h⟩:=aa h;refine jb (aW rfl n) ?_;refine au ?_;exact jz ((),(iH .u64 x1.1 16,x5)) h []
   ·refine au ?_;exact jz ((),(x1.1,x1.2)) h []
  ·refine aM (Z:=Unit) (α:=Int×Int) (fun z7 x6=>[(0,.eq (.int .u64 x6.1)),(2,I x6.2)]) (fun z7 x6=>[]) h (fun K h=>?_) (fun z7 x6 h=>?_)
   ·refine au ?_;refine jb (qC rfl) ?_;refine nt (ci h (fun h=>?_) (fun h=>?_))
    ·refine au ?_;refine aG rfl (vA rfl (by decide)) ⟨rfl,rfl,trivial⟩ ?_;refine au ?_;refine ab (mq ?_);obtain⟨x8,l,h⟩:=aa h;refine jb (aW rfl l) ?_;refine au ?_;exact jz ((),(iH .u64 x3.1 8,x8)) h []
    ·refine au ?_;exact jz ((),(x3.1,x3.2)) h []
   ·refine au ?_;refine ja (pi rfl R7 U5) ?_;obtain⟨x9,j,h⟩:=aa h;refine ja (Ad rfl U9 j) ?_;obtain⟨u,e,h⟩:=aa h;refine ja (Ae rfl U5 U3 e) ?_;obtain⟨s,c,h⟩:=aa h;refine jb (aW rfl c) ?_;refine au ?_;cases h;exact ra
def yV(k:Nat)(a0:Int):Option Int:=
 (lx k a0).bind fun r1=>
 some r1
theorem Dl(k:Nat)(a0:Int)(r:Int)(h:yV k a0=some r):
 bV Tryz.prog 142 [.eq (.int .u64 a0)] [] (fun _:Unit=>(bm [I r],[])):=by
 unfold yV at h
 replace h:=aZ h
 refine bV.of 8 Tryz.func142 rfl Tryz.ntmps142 rfl fun S w0=>?_
 refine au ?_
 refine JE (fun hb=>(by cases hb)) (fun hb=>?_)
 refine au ?_
 obtain⟨r1,c,h⟩:=aa h
 have e:=q7 k a0 r1 c
 refine ja (ap [.tmp 6] rfl rfl Q1 rfl e) ?_
 refine au ?_
 cases h
 exact ra
def fF(k:Nat)(a0:(List Int))(a1:Int)(a2:Int)(a3:Int):Nat→Unit→Option (List Int)
 |0,_=>none
 |n+1,y1=>
  (ck (a2 - a1)).bind fun x3=>
  if x3≤12 then((eF k a0 a1 a2).bind fun r4=>
  some r4) else(if a3=0 then(none) else(none))
def hQ(k:Nat)(a0:(List Int))(a1:Int)(a2:Int)(a3:Int):Option (List Int):=
 fF k a0 a1 a2 a3 k ()
theorem mF(k:Nat)(a0:(List Int))(c:Value)(a1:Int)(a2:Int)(a3:Int)(r:(List Int))(h:hQ k a0 a1 a2 a3=some r):
 bV Tryz.prog 141 [.eq c,I a1,I a2,I a3] [.sl c 3 (.int .i64) a0] (fun _:Unit=>(bm [],[.sl c 3 (.int .i64) r])):=by
 unfold hQ at h
 replace h:=aZ h
 refine bV.of 134 Tryz.func141 rfl Tryz.ntmps141 rfl fun S w0=>?_
 refine au ?_
 refine ai ?_
 refine aK (fun z2 y1=>[(0,.eq c),(1,I a1),(2,I a2),(3,I a3),(8,.eq (.bool true)),(9,.eq (.bool true))]) (fun z2 y1=>[.sl c 3 (.int .i64) a0]) (fF k a0 a1 a2 a3) k () () (fun _=>rfl) h (SE.fin [0] ⟨rfl,rfl,rfl,rfl,rfl,rfl,trivial⟩ rfl) (fun n z2 y1 h=>?_)
 unfold fF at h
 refine ai ?_
 refine au ?_
 obtain⟨x3,e,h⟩:=aa h
 refine jb (fS rfl e) ?_
 refine au ?_
 refine jb (vC rfl) ?_
 refine nt ?_
 refine ci h (fun h=>?_) (fun h=>?_)
 ·
  refine au ?_;obtain⟨r4,j,h⟩:=aa h;refine kc (ap [.tmp 24,.tmp 25,.tmp 26] rfl rfl Q3 rfl (kz k a0 c a1 a2 r4 j)) ?_;refine au ?_;cases h;exact aO () [] 1 trivial rfl
 ·
  refine au ?_;refine jb (fq rfl) ?_;refine nt (ci h (fun h=>?_) (fun h=>?_))
  ·refine au ?_;cases h
  ·refine au ?_;refine ja (eJ rfl) ?_;refine nt (bG rfl (fun hb=>(by cases hb)) (fun hb=>?_));refine au ?_;cases h
def nU(k:Nat)(a0:(List Int)):Option (List Int):=
 (yV k (IntKind.u64.wrap (a0.length:Int))).bind fun r1=>
 (hQ k a0 0 (a0.length:Int) r1).bind fun r2=>
 some r2
theorem uu(k:Nat)(a0:(List Int))(c:Value)(r:(List Int))(h:nU k a0=some r):
 bV Tryz.prog 107 [.eq c] [.sl c 3 (.int .i64) a0] (fun _:Unit=>(bm [],[.sl c 3 (.int .i64) r])):=by
 unfold nU at h
 replace h:=aZ h
 refine bV.of 11 Tryz.func107 rfl Tryz.ntmps107 rfl fun S w0=>?_
 refine au ?_
 refine ka (cZ rfl rfl dB) ?_
 refine au ?_
 refine ab ?_
 refine au ?_
 refine ja (pi rfl U3 Up) ?_
 obtain⟨r1,j,h⟩:=aa h
 have n:=Dl k (IntKind.u64.wrap (a0.length:Int)) r1 j
 refine ja (ap [.tmp 8] rfl rfl Q7 rfl n) ?_
 obtain⟨r2,e,h⟩:=aa h
 have l:=mF k a0 c 0 (a0.length:Int) r1 r2 e
 refine bU rfl rfl rfl (ap [.tmp 5,.const (.int .i64 (0)),.tmp 6,.tmp 9] rfl rfl Q8 rfl l) ⟨rfl,rfl,rfl,rfl,trivial⟩ ?_
 refine ay ?_
 refine jw ?_
 cases h
 exact aO () [] 1 trivial rfl
def l6(k:Nat)(a0:(List Int)):Option (List Int):=
 (lw k a0).bind fun r1=>
 (nU k r1).bind fun r3=>
 some r3
theorem rM(k:Nat)(a0:(List Int))(c:Nat)(r:(List Int))(h:l6 k a0=some r):
 bV Tryz.prog 76 [.eq (.func (.func 108) #[] #[(Pv c)])] [.obj c 22 (Ri a0)] (fun _:Unit=>(bm [Ri r],[.obj c 22 (Ri a0)])):=by
 unfold l6 at h
 replace h:=aZ h
 refine bV.of 9 Tryz.func76 rfl Tryz.ntmps76 rfl fun S w0=>?_
 refine sr ?_
 refine cq ?_
 refine nt ?_
 refine sr ?_
 refine mq ?_
 obtain⟨r1,j,h⟩:=aa h
 have n:=qQ k a0 c r1 j
 refine bQ (Δ:=[_]) (F:=_) (fun _ _ _=>aA rfl _) rfl rfl (ap [.tmp 4] rfl rfl Rm rfl n) ⟨rfl,trivial⟩ fun z2=>?_
 refine au ?_
 obtain⟨r3,e,h⟩:=aa h
 have l:=uu k r1 z2 r3 e
 refine ka (ap [.tmp 6] rfl rfl Rl rfl l) ?_
 refine nt ?_
 refine sr ?_
 refine mq ?_
 refine aq ?_
 refine nt ?_
 refine bH ?_
 refine bz (d5 [2,3,5,6,8] ⟨rfl,rfl,rfl,rfl,rfl,trivial⟩) ?_
 cases h
 exact aO () [_] 1 ⟨rfl,trivial⟩ rfl
theorem rL(a0:(List Int)):bV Tryz.prog 77 [Ri a0] [] (fun z:Nat=>(bm [.eq (.func (.func 108) #[] #[(Pv z)])],[.obj z 22 (Ri a0)])):=by
 refine bV.of 4 Tryz.func77 rfl Tryz.ntmps77 rfl fun S w0=>?_;refine sr (bx fun z=>?_);refine au ?_;refine ja (tu [] [.tmp 1] [] [(Pv z)] rfl rfl rfl) ?_;refine au ?_;exact aO z [_] 1 ⟨rfl,trivial⟩ rfl
def dS(k:Nat)(a0:(List Int)):Option (List Int):=
 (dj (bq (List.length ([]:(List Int))+List.length a0))).bind fun _=>
 some (([]:(List Int))++a0)
theorem cm(k:Nat)(a0:(List Int))(r:(List Int))(h:dS k a0=some r):
 bV Tryz.prog 41 [Ri a0] [] (fun z:Value=>(bm [.eq z],[.sl z 3 (.int .i64) r])):=by
 unfold dS at h
 replace h:=aZ h
 refine bV.of 6 Tryz.func41 rfl Tryz.ntmps41 rfl fun S w0=>?_
 refine au ?_
 refine aE rfl rfl rfl (mh (t:=(.int .i64)) [] ([]:(List Int)) rfl rfl dp .nil rfl rfl) trivial fun v1=>?_
 refine mq ?_
 obtain⟨u2,c,h⟩:=aa h
 refine cz rfl rfl rfl (bp rfl rfl dp (aB c)) ⟨rfl,rfl,trivial⟩ fun v3=>?_
 refine au ?_
 cases h
 exact aO v3 [.eq v3] 1 ⟨rfl,trivial⟩ rfl
def fJ(k:Nat)(a0:aQ):Nat→((List eC)×Int)→Option (List eC)
 |0,_=>none
 |n+1,y9=>
  if y9.2 < (a0.2.1.length:Int) then((aR a0.2.1 y9.2).bind fun c=>
  (aR a0.2.1 y9.2).bind fun j=>
  (dS k j.2).bind fun e=>
  (dj (bq (List.length y9.1+List.length [(c.1,e)]))).bind fun _=>
  (ck (y9.2+1)).bind fun h=>
  fJ k a0 n (y9.1++[(c.1,e)],h)) else(some y9.1)
def jd(k:Nat)(a0:aQ):Option aQ:=
 (dS k a0.2.2).bind fun r3=>
 ((fJ k a0 k (([]:(List eC)),0)):Option ((List eC))).bind fun x7=>
 some (a0.1,x7,r3)
theorem uw(k:Nat)(a0:aQ)(r:aQ)(h:jd k a0=some r):
 bV Tryz.prog 11 [.rep ao a0] [] (fun z:Value×Value=>(bm [.agg (.pair (I r.1) (.pair (.eq z.1) (.eq z.2)))],[.sl z.1 35 aH r.2.1,.sl z.2 3 (.int .i64) r.2.2])):=by
 unfold jd at h
 replace h:=aZ h
 refine bV.of 38 Tryz.func11 rfl Tryz.ntmps11 rfl fun S w0=>?_
 refine sr ?_
 refine bx fun b1=>?_
 refine aE rfl rfl rfl (a9 rfl kC mG) trivial fun b2=>?_
 refine nt ?_
 refine ar ?_
 obtain⟨r3,c,h⟩:=aa h
 refine dA (SE.fin (Γ':=[(1,Pt b1),(2,Pt b2)]) (Δ':=[.obj b2 27 (.agg (.pair (I 0) (.pair (.eq (.slice none 0 0)) (.eq (.slice none 0 0))))),.obj b1 27 (.rep ao a0)]) [0,1] ⟨rfl,rfl,trivial⟩ rfl) ?_
 refine wv (I:=Value×Nat) (Ge:=fun i=>[(1,Pt b1),(2,Pt b2),(3,.eq (.pointer (some ⟨i.2,0,none⟩)))]) (De:=fun i=>[.obj b1 27 (.rep ao a0),.obj b2 27 (.agg (.pair (I 0) (.pair (.eq (.slice none 0 0)) (.eq (.slice none 0 0))))),.sl i.1 3 (.int .i64) r3,.obj i.2 27 (.agg (.pair (I a0.1) (.pair (.eq (.slice none 0 0)) (.eq i.1))))]) (L:=[true,true,true,true,true,true,true,true]) cE rfl (fun J hJ hE=>?_) (by kernel_rfl) ?_
 ·
  have s127:∀(v4:Value) (b6:Nat),J 1 [true,true,true,true,true,true,true,false] [(1,Pt b1),(2,Pt b2),(3,Pt b6),(10,.agg (.pair (I a0.1) (.pair (.eq (.slice none 0 0)) (.eq v4))))] [.obj b1 27 (.rep ao a0),.obj b2 27 (.agg (.pair (I 0) (.pair (.eq (.slice none 0 0)) (.eq (.slice none 0 0))))),.sl v4 3 (.int .i64) r3,.obj b6 27 (.agg (.pair (I 0) (.pair (.eq (.slice none 0 0)) (.eq (.slice none 0 0)))))]:=fun v4 b6=>by
   subst hJ;refine JD.step [7] (by kernel_rfl) rfl ?_;refine bK.cons rfl ?_ ?_
   ·refine fr 3 ?_;refine bf rfl rfl (a8 rfl cU trivial rfl rfl) ⟨rfl,rfl,trivial⟩ ?_;exact aw (hE ⟨v4,b6⟩) [1,2,3,0] ⟨rfl,rfl,rfl,trivial⟩
   exact trivial
  have s63:∀(v4:Value),J 2 [true,true,true,true,true,true,false,false] [(1,Pt b1),(2,Pt b2),(10,.agg (.pair (I a0.1) (.pair (.eq (.slice none 0 0)) (.eq v4))))] [.obj b1 27 (.rep ao a0),.obj b2 27 (.agg (.pair (I 0) (.pair (.eq (.slice none 0 0)) (.eq (.slice none 0 0))))),.sl v4 3 (.int .i64) r3]:=fun v4=>by
   subst hJ;refine JD.step [6] (by kernel_rfl) rfl ?_;refine bK.cons rfl ?_ ?_
   ·refine aE rfl rfl rfl (a9 rfl kC mG) trivial fun b6=>?_;exact aw (s127 v4 b6) [1,2,3,0] ⟨rfl,rfl,rfl,rfl,trivial⟩
   exact trivial
  have s95:∀(v4:Value) (b6:Nat),J 2 [true,true,true,true,true,false,true,false] [(1,Pt b1),(2,Pt b2),(3,Pt b6),(6,I a0.1),(9,.eq v4)] [.obj b1 27 (.rep ao a0),.obj b2 27 (.agg (.pair (I 0) (.pair (.eq (.slice none 0 0)) (.eq (.slice none 0 0))))),.sl v4 3 (.int .i64) r3,.obj b6 27 (.agg (.pair (I 0) (.pair (.eq (.slice none 0 0)) (.eq (.slice none 0 0)))))]:=fun v4 b6=>by
   subst hJ;refine JD.step [5] (by kernel_rfl) rfl ?_;refine bK.cons rfl ?_ ?_
   ·refine fr 2 ?_;refine ov fun o5=>?_;refine jb (cH [(0,.tmp 6,_),(2,.tmp 9,_)] rfl Hj kC A6 (il ⟨rfl,o5,trivial⟩) rfl) ?_;exact aw (s127 v4 b6) [1,2,0,3] ⟨rfl,rfl,rfl,rfl,trivial⟩
   exact trivial
  have s31:∀(v4:Value),J 3 [true,true,true,true,true,false,false,false] [(1,Pt b1),(2,Pt b2),(6,I a0.1),(9,.eq v4)] [.obj b1 27 (.rep ao a0),.obj b2 27 (.agg (.pair (I 0) (.pair (.eq (.slice none 0 0)) (.eq (.slice none 0 0))))),.sl v4 3 (.int .i64) r3]:=fun v4=>by
   subst hJ;refine JD.step [5,6] (by kernel_rfl) rfl ?_;refine bK.cons rfl ?_ ?_
   ·refine fr 2 ?_;refine ov fun o5=>?_;refine jb (cH [(0,.tmp 6,_),(2,.tmp 9,_)] rfl Hj kC A6 (il ⟨rfl,o5,trivial⟩) rfl) ?_;exact aw (s63 v4) [1,2,0] ⟨rfl,rfl,rfl,trivial⟩
   refine bK.cons rfl ?_ ?_
   ·refine aE rfl rfl rfl (a9 rfl kC mG) trivial fun b6=>?_;exact aw (s95 v4 b6) [1,2,3,0] ⟨rfl,rfl,rfl,rfl,rfl,trivial⟩
   exact trivial
  have s79:∀(b6:Nat),J 3 [true,true,true,true,false,false,true,false] [(1,Pt b1),(2,Pt b2),(3,Pt b6),(6,I a0.1),(8,Ri a0.2.2)] [.obj b1 27 (.rep ao a0),.obj b2 27 (.agg (.pair (I 0) (.pair (.eq (.slice none 0 0)) (.eq (.slice none 0 0))))),.obj b6 27 (.agg (.pair (I 0) (.pair (.eq (.slice none 0 0)) (.eq (.slice none 0 0)))))]:=fun b6=>by
   subst hJ;refine JD.step [4] (by kernel_rfl) rfl ?_;refine bK.cons rfl ?_ ?_
   ·refine aE rfl rfl rfl (ap [.tmp 8] rfl rfl uA rfl (cm k a0.2.2 r3 c)) ⟨rfl,trivial⟩ fun v4=>?_;exact aw (s95 v4 b6) [1,2,0,3] ⟨rfl,rfl,rfl,rfl,rfl,trivial⟩
   exact trivial
  have s93:∀(v4:Value) (b6:Nat),J 3 [true,false,true,true,true,false,true,false] [(1,Pt b1),(2,Pt b2),(3,Pt b6),(5,Pt b1),(9,.eq v4)] [.obj b1 27 (.rep ao a0),.obj b2 27 (.agg (.pair (I 0) (.pair (.eq (.slice none 0 0)) (.eq (.slice none 0 0))))),.sl v4 3 (.int .i64) r3,.obj b6 27 (.agg (.pair (I 0) (.pair (.eq (.slice none 0 0)) (.eq (.slice none 0 0)))))]:=fun v4 b6=>by
   subst hJ;refine JD.step [1] (by kernel_rfl) rfl ?_;refine bK.cons rfl ?_ ?_
   ·refine lo bY ?_;exact aw (s95 v4 b6) [0,1,2,3] ⟨rfl,rfl,rfl,rfl,rfl,trivial⟩
   exact trivial
  have s15:J 4 [true,true,true,true,false,false,false,false] [(1,Pt b1),(2,Pt b2),(6,I a0.1),(8,Ri a0.2.2)] [.obj b1 27 (.rep ao a0),.obj b2 27 (.agg (.pair (I 0) (.pair (.eq (.slice none 0 0)) (.eq (.slice none 0 0)))))]:=by
   subst hJ;refine JD.step [4,6] (by kernel_rfl) rfl ?_;refine bK.cons rfl ?_ ?_
   ·refine aE rfl rfl rfl (ap [.tmp 8] rfl rfl uA rfl (cm k a0.2.2 r3 c)) ⟨rfl,trivial⟩ fun v4=>?_;exact aw (s31 v4) [1,2,0] ⟨rfl,rfl,rfl,rfl,trivial⟩
   refine bK.cons rfl ?_ ?_
   ·refine aE rfl rfl rfl (a9 rfl kC mG) trivial fun b6=>?_;exact aw (s79 b6) [1,2,0] ⟨rfl,rfl,rfl,rfl,rfl,trivial⟩
   exact trivial
  have s71:∀(b6:Nat),J 4 [true,true,true,false,false,false,true,false] [(1,Pt b1),(2,Pt b2),(3,Pt b6),(6,I a0.1),(7,.eq (.pointer (some ⟨b1,2,none⟩)))] [.obj b1 27 (.rep ao a0),.obj b2 27 (.agg (.pair (I 0) (.pair (.eq (.slice none 0 0)) (.eq (.slice none 0 0))))),.obj b6 27 (.agg (.pair (I 0) (.pair (.eq (.slice none 0 0)) (.eq (.slice none 0 0)))))]:=fun b6=>by
   subst hJ;refine JD.step [3] (by kernel_rfl) rfl ?_;refine bK.cons rfl ?_ ?_
   ·refine lo bC ?_;exact aw (s79 b6) [0,1,2] ⟨rfl,rfl,rfl,rfl,rfl,trivial⟩
   exact trivial
  have s29:∀(v4:Value),J 4 [true,false,true,true,true,false,false,false] [(1,Pt b1),(2,Pt b2),(5,Pt b1),(9,.eq v4)] [.obj b1 27 (.rep ao a0),.obj b2 27 (.agg (.pair (I 0) (.pair (.eq (.slice none 0 0)) (.eq (.slice none 0 0))))),.sl v4 3 (.int .i64) r3]:=fun v4=>by
   subst hJ;refine JD.step [1,6] (by kernel_rfl) rfl ?_;refine bK.cons rfl ?_ ?_
   ·refine lo bY ?_;exact aw (s31 v4) [0,1,2] ⟨rfl,rfl,rfl,rfl,trivial⟩
   refine bK.cons rfl ?_ ?_
   ·refine aE rfl rfl rfl (a9 rfl kC mG) trivial fun b6=>?_;exact aw (s93 v4 b6) [1,2,3,0] ⟨rfl,rfl,rfl,rfl,rfl,trivial⟩
   exact trivial
  have s77:∀(b6:Nat),J 4 [true,false,true,true,false,false,true,false] [(1,Pt b1),(2,Pt b2),(3,Pt b6),(5,Pt b1),(8,Ri a0.2.2)] [.obj b1 27 (.rep ao a0),.obj b2 27 (.agg (.pair (I 0) (.pair (.eq (.slice none 0 0)) (.eq (.slice none 0 0))))),.obj b6 27 (.agg (.pair (I 0) (.pair (.eq (.slice none 0 0)) (.eq (.slice none 0 0)))))]:=fun b6=>by
   subst hJ;refine JD.step [1,4] (by kernel_rfl) rfl ?_;refine bK.cons rfl ?_ ?_
   ·refine lo bY ?_;exact aw (s79 b6) [0,1,2] ⟨rfl,rfl,rfl,rfl,rfl,trivial⟩
   refine bK.cons rfl ?_ ?_
   ·refine aE rfl rfl rfl (ap [.tmp 8] rfl rfl uA rfl (cm k a0.2.2 r3 c)) ⟨rfl,trivial⟩ fun v4=>?_;exact aw (s93 v4 b6) [1,2,0,3] ⟨rfl,rfl,rfl,rfl,rfl,trivial⟩
   exact trivial
  have s92:∀(v4:Value) (b6:Nat),J 4 [false,false,true,true,true,false,true,false] [(1,Pt b1),(2,Pt b2),(3,Pt b6),(9,.eq v4)] [.obj b1 27 (.rep ao a0),.obj b2 27 (.agg (.pair (I 0) (.pair (.eq (.slice none 0 0)) (.eq (.slice none 0 0))))),.sl v4 3 (.int .i64) r3,.obj b6 27 (.agg (.pair (I 0) (.pair (.eq (.slice none 0 0)) (.eq (.slice none 0 0)))))]:=fun v4 b6=>by
   subst hJ;refine JD.step [0] (by kernel_rfl) rfl ?_;refine bK.cons rfl ?_ ?_
   ·refine fl f9 ?_;exact aw (s93 v4 b6) [0,1,2,3] ⟨rfl,rfl,rfl,rfl,rfl,trivial⟩
   exact trivial
  have s7:J 5 [true,true,true,false,false,false,false,false] [(1,Pt b1),(2,Pt b2),(6,I a0.1),(7,.eq (.pointer (some ⟨b1,2,none⟩)))] [.obj b1 27 (.rep ao a0),.obj b2 27 (.agg (.pair (I 0) (.pair (.eq (.slice none 0 0)) (.eq (.slice none 0 0)))))]:=by
   subst hJ;refine JD.step [3,6] (by kernel_rfl) rfl ?_;refine bK.cons rfl ?_ ?_
   ·refine lo bC ?_;exact aw s15 [0,1] ⟨rfl,rfl,rfl,rfl,trivial⟩
   refine bK.cons rfl ?_ ?_
   ·refine aE rfl rfl rfl (a9 rfl kC mG) trivial fun b6=>?_;exact aw (s71 b6) [1,2,0] ⟨rfl,rfl,rfl,rfl,rfl,trivial⟩
   exact trivial
  have s67:∀(b6:Nat),J 5 [true,true,false,false,false,false,true,false] [(1,Pt b1),(2,Pt b2),(3,Pt b6),(6,I a0.1)] [.obj b1 27 (.rep ao a0),.obj b2 27 (.agg (.pair (I 0) (.pair (.eq (.slice none 0 0)) (.eq (.slice none 0 0))))),.obj b6 27 (.agg (.pair (I 0) (.pair (.eq (.slice none 0 0)) (.eq (.slice none 0 0)))))]:=fun b6=>by
   subst hJ;refine JD.step [2] (by kernel_rfl) rfl ?_;refine bK.cons rfl ?_ ?_
   ·refine fl cI ?_;exact aw (s71 b6) [0,1,2] ⟨rfl,rfl,rfl,rfl,rfl,trivial⟩
   exact trivial
  have s13:J 5 [true,false,true,true,false,false,false,false] [(1,Pt b1),(2,Pt b2),(5,Pt b1),(8,Ri a0.2.2)] [.obj b1 27 (.rep ao a0),.obj b2 27 (.agg (.pair (I 0) (.pair (.eq (.slice none 0 0)) (.eq (.slice none 0 0)))))]:=by
   subst hJ;refine JD.step [1,4,6] (by kernel_rfl) rfl ?_;refine bK.cons rfl ?_ ?_
   ·refine lo bY ?_;exact aw s15 [0,1] ⟨rfl,rfl,rfl,rfl,trivial⟩
   refine bK.cons rfl ?_ ?_
   ·refine aE rfl rfl rfl (ap [.tmp 8] rfl rfl uA rfl (cm k a0.2.2 r3 c)) ⟨rfl,trivial⟩ fun v4=>?_;exact aw (s29 v4) [1,2,0] ⟨rfl,rfl,rfl,rfl,trivial⟩
   refine bK.cons rfl ?_ ?_
   ·refine aE rfl rfl rfl (a9 rfl kC mG) trivial fun b6=>?_;exact aw (s77 b6) [1,2,0] ⟨rfl,rfl,rfl,rfl,rfl,trivial⟩
   exact trivial
  have s69:∀(b6:Nat),J 5 [true,false,true,false,false,false,true,false] [(1,Pt b1),(2,Pt b2),(3,Pt b6),(5,Pt b1),(7,.eq (.pointer (some ⟨b1,2,none⟩)))] [.obj b1 27 (.rep ao a0),.obj b2 27 (.agg (.pair (I 0) (.pair (.eq (.slice none 0 0)) (.eq (.slice none 0 0))))),.obj b6 27 (.agg (.pair (I 0) (.pair (.eq (.slice none 0 0)) (.eq (.slice none 0 0)))))]:=fun b6=>by
   subst hJ;refine JD.step [1,3] (by kernel_rfl) rfl ?_;refine bK.cons rfl ?_ ?_
   ·refine lo bY ?_;exact aw (s71 b6) [0,1,2] ⟨rfl,rfl,rfl,rfl,rfl,trivial⟩
   refine bK.cons rfl ?_ ?_
   ·refine lo bC ?_;exact aw (s77 b6) [0,1,2] ⟨rfl,rfl,rfl,rfl,rfl,trivial⟩
   exact trivial
  have s28:∀(v4:Value),J 5 [false,false,true,true,true,false,false,false] [(1,Pt b1),(2,Pt b2),(9,.eq v4)] [.obj b1 27 (.rep ao a0),.obj b2 27 (.agg (.pair (I 0) (.pair (.eq (.slice none 0 0)) (.eq (.slice none 0 0))))),.sl v4 3 (.int .i64) r3]:=fun v4=>by
   subst hJ;refine JD.step [0,6] (by kernel_rfl) rfl ?_;refine bK.cons rfl ?_ ?_
   ·refine fl f9 ?_;exact aw (s29 v4) [0,1,2] ⟨rfl,rfl,rfl,rfl,trivial⟩
   refine bK.cons rfl ?_ ?_
   ·refine aE rfl rfl rfl (a9 rfl kC mG) trivial fun b6=>?_;exact aw (s92 v4 b6) [1,2,3,0] ⟨rfl,rfl,rfl,rfl,trivial⟩
   exact trivial
  have s76:∀(b6:Nat),J 5 [false,false,true,true,false,false,true,false] [(1,Pt b1),(2,Pt b2),(3,Pt b6),(8,Ri a0.2.2)] [.obj b1 27 (.rep ao a0),.obj b2 27 (.agg (.pair (I 0) (.pair (.eq (.slice none 0 0)) (.eq (.slice none 0 0))))),.obj b6 27 (.agg (.pair (I 0) (.pair (.eq (.slice none 0 0)) (.eq (.slice none 0 0)))))]:=fun b6=>by
   subst hJ;refine JD.step [0,4] (by kernel_rfl) rfl ?_;refine bK.cons rfl ?_ ?_
   ·refine fl f9 ?_;exact aw (s77 b6) [0,1,2] ⟨rfl,rfl,rfl,rfl,rfl,trivial⟩
   refine bK.cons rfl ?_ ?_
   ·refine aE rfl rfl rfl (ap [.tmp 8] rfl rfl uA rfl (cm k a0.2.2 r3 c)) ⟨rfl,trivial⟩ fun v4=>?_;exact aw (s92 v4 b6) [1,2,0,3] ⟨rfl,rfl,rfl,rfl,trivial⟩
   exact trivial
  have s3:J 6 [true,true,false,false,false,false,false,false] [(1,Pt b1),(2,Pt b2),(6,I a0.1)] [.obj b1 27 (.rep ao a0),.obj b2 27 (.agg (.pair (I 0) (.pair (.eq (.slice none 0 0)) (.eq (.slice none 0 0)))))]:=by
   subst hJ;refine JD.step [2,6] (by kernel_rfl) rfl ?_;refine bK.cons rfl ?_ ?_
   ·refine fl cI ?_;exact aw s7 [0,1] ⟨rfl,rfl,rfl,rfl,trivial⟩
   refine bK.cons rfl ?_ ?_
   ·refine aE rfl rfl rfl (a9 rfl kC mG) trivial fun b6=>?_;exact aw (s67 b6) [1,2,0] ⟨rfl,rfl,rfl,rfl,trivial⟩
   exact trivial
  have s5:J 6 [true,false,true,false,false,false,false,false] [(1,Pt b1),(2,Pt b2),(5,Pt b1),(7,.eq (.pointer (some ⟨b1,2,none⟩)))] [.obj b1 27 (.rep ao a0),.obj b2 27 (.agg (.pair (I 0) (.pair (.eq (.slice none 0 0)) (.eq (.slice none 0 0)))))]:=by
   subst hJ;refine JD.step [1,3,6] (by kernel_rfl) rfl ?_;refine bK.cons rfl ?_ ?_
   ·refine lo bY ?_;exact aw s7 [0,1] ⟨rfl,rfl,rfl,rfl,trivial⟩
   refine bK.cons rfl ?_ ?_
   ·refine lo bC ?_;exact aw s13 [0,1] ⟨rfl,rfl,rfl,rfl,trivial⟩
   refine bK.cons rfl ?_ ?_
   ·refine aE rfl rfl rfl (a9 rfl kC mG) trivial fun b6=>?_;exact aw (s69 b6) [1,2,0] ⟨rfl,rfl,rfl,rfl,rfl,trivial⟩
   exact trivial
  have s65:∀(b6:Nat),J 6 [true,false,false,false,false,false,true,false] [(1,Pt b1),(2,Pt b2),(3,Pt b6),(5,Pt b1)] [.obj b1 27 (.rep ao a0),.obj b2 27 (.agg (.pair (I 0) (.pair (.eq (.slice none 0 0)) (.eq (.slice none 0 0))))),.obj b6 27 (.agg (.pair (I 0) (.pair (.eq (.slice none 0 0)) (.eq (.slice none 0 0)))))]:=fun b6=>by
   subst hJ;refine JD.step [1,2] (by kernel_rfl) rfl ?_;refine bK.cons rfl ?_ ?_
   ·refine lo bY ?_;exact aw (s67 b6) [0,1,2] ⟨rfl,rfl,rfl,rfl,trivial⟩
   refine bK.cons rfl ?_ ?_
   ·refine fl cI ?_;exact aw (s69 b6) [0,1,2] ⟨rfl,rfl,rfl,rfl,rfl,trivial⟩
   exact trivial
  have s12:J 6 [false,false,true,true,false,false,false,false] [(1,Pt b1),(2,Pt b2),(8,Ri a0.2.2)] [.obj b1 27 (.rep ao a0),.obj b2 27 (.agg (.pair (I 0) (.pair (.eq (.slice none 0 0)) (.eq (.slice none 0 0)))))]:=by
   subst hJ;refine JD.step [0,4,6] (by kernel_rfl) rfl ?_;refine bK.cons rfl ?_ ?_
   ·refine fl f9 ?_;exact aw s13 [0,1] ⟨rfl,rfl,rfl,rfl,trivial⟩
   refine bK.cons rfl ?_ ?_
   ·refine aE rfl rfl rfl (ap [.tmp 8] rfl rfl uA rfl (cm k a0.2.2 r3 c)) ⟨rfl,trivial⟩ fun v4=>?_;exact aw (s28 v4) [1,2,0] ⟨rfl,rfl,rfl,trivial⟩
   refine bK.cons rfl ?_ ?_
   ·refine aE rfl rfl rfl (a9 rfl kC mG) trivial fun b6=>?_;exact aw (s76 b6) [1,2,0] ⟨rfl,rfl,rfl,rfl,trivial⟩
   exact trivial
  have s68:∀(b6:Nat),J 6 [false,false,true,false,false,false,true,false] [(1,Pt b1),(2,Pt b2),(3,Pt b6),(7,.eq (.pointer (some ⟨b1,2,none⟩)))] [.obj b1 27 (.rep ao a0),.obj b2 27 (.agg (.pair (I 0) (.pair (.eq (.slice none 0 0)) (.eq (.slice none 0 0))))),.obj b6 27 (.agg (.pair (I 0) (.pair (.eq (.slice none 0 0)) (.eq (.slice none 0 0)))))]:=fun b6=>by
   subst hJ;refine JD.step [0,3] (by kernel_rfl) rfl ?_;refine bK.cons rfl ?_ ?_
   ·refine fl f9 ?_;exact aw (s69 b6) [0,1,2] ⟨rfl,rfl,rfl,rfl,rfl,trivial⟩
   refine bK.cons rfl ?_ ?_
   ·refine lo bC ?_;exact aw (s76 b6) [0,1,2] ⟨rfl,rfl,rfl,rfl,trivial⟩
   exact trivial
  have s1:J 7 [true,false,false,false,false,false,false,false] [(1,Pt b1),(2,Pt b2),(5,Pt b1)] [.obj b1 27 (.rep ao a0),.obj b2 27 (.agg (.pair (I 0) (.pair (.eq (.slice none 0 0)) (.eq (.slice none 0 0)))))]:=by
   subst hJ;refine JD.step [1,2,6] (by kernel_rfl) rfl ?_;refine bK.cons rfl ?_ ?_
   ·refine lo bY ?_;exact aw s3 [0,1] ⟨rfl,rfl,rfl,trivial⟩
   refine bK.cons rfl ?_ ?_
   ·refine fl cI ?_;exact aw s5 [0,1] ⟨rfl,rfl,rfl,rfl,trivial⟩
   refine bK.cons rfl ?_ ?_
   ·refine aE rfl rfl rfl (a9 rfl kC mG) trivial fun b6=>?_;exact aw (s65 b6) [1,2,0] ⟨rfl,rfl,rfl,rfl,trivial⟩
   exact trivial
  have s4:J 7 [false,false,true,false,false,false,false,false] [(1,Pt b1),(2,Pt b2),(7,.eq (.pointer (some ⟨b1,2,none⟩)))] [.obj b1 27 (.rep ao a0),.obj b2 27 (.agg (.pair (I 0) (.pair (.eq (.slice none 0 0)) (.eq (.slice none 0 0)))))]:=by
   subst hJ;refine JD.step [0,3,6] (by kernel_rfl) rfl ?_;refine bK.cons rfl ?_ ?_
   ·refine fl f9 ?_;exact aw s5 [0,1] ⟨rfl,rfl,rfl,rfl,trivial⟩
   refine bK.cons rfl ?_ ?_
   ·refine lo bC ?_;exact aw s12 [0,1] ⟨rfl,rfl,rfl,trivial⟩
   refine bK.cons rfl ?_ ?_
   ·refine aE rfl rfl rfl (a9 rfl kC mG) trivial fun b6=>?_;exact aw (s68 b6) [1,2,0] ⟨rfl,rfl,rfl,rfl,trivial⟩
   exact trivial
  have s64:∀(b6:Nat),J 7 [false,false,false,false,false,false,true,false] [(1,Pt b1),(2,Pt b2),(3,Pt b6)] [.obj b1 27 (.rep ao a0),.obj b2 27 (.agg (.pair (I 0) (.pair (.eq (.slice none 0 0)) (.eq (.slice none 0 0))))),.obj b6 27 (.agg (.pair (I 0) (.pair (.eq (.slice none 0 0)) (.eq (.slice none 0 0)))))]:=fun b6=>by
   subst hJ;refine JD.step [0,2] (by kernel_rfl) rfl ?_;refine bK.cons rfl ?_ ?_
   ·refine fl f9 ?_;exact aw (s65 b6) [0,1,2] ⟨rfl,rfl,rfl,rfl,trivial⟩
   refine bK.cons rfl ?_ ?_
   ·refine fl cI ?_;exact aw (s68 b6) [0,1,2] ⟨rfl,rfl,rfl,rfl,trivial⟩
   exact trivial
  have s0:J 8 [false,false,false,false,false,false,false,false] [(1,Pt b1),(2,Pt b2)] [.obj b2 27 (.agg (.pair (I 0) (.pair (.eq (.slice none 0 0)) (.eq (.slice none 0 0))))),.obj b1 27 (.rep ao a0)]:=by
   subst hJ;refine JD.step [0,2,6] (by kernel_rfl) rfl ?_;refine bK.cons rfl ?_ ?_
   ·refine fl f9 ?_;exact aw s1 [1,0] ⟨rfl,rfl,rfl,trivial⟩
   refine bK.cons rfl ?_ ?_
   ·refine fl cI ?_;exact aw s4 [1,0] ⟨rfl,rfl,rfl,trivial⟩
   refine bK.cons rfl ?_ ?_
   ·refine aE rfl rfl rfl (a9 rfl kC mG) trivial fun b6=>?_;exact aw (s64 b6) [2,1,0] ⟨rfl,rfl,rfl,trivial⟩
   exact trivial
  exact s0
 rintro⟨v4,b6⟩
 show JN _ _ [(1,Pt b1),(2,Pt b2),(3,Pt b6)] [.obj b1 27 (.rep ao a0),.obj b2 27 (.agg (.pair (I 0) (.pair (.eq (.slice none 0 0)) (.eq (.slice none 0 0))))),.sl v4 3 (.int .i64) r3,.obj b6 27 (.agg (.pair (I a0.1) (.pair (.eq (.slice none 0 0)) (.eq v4))))]
 refine tn ?_
 refine aM (Z:=Value) (α:=(List eC)) (fun z8 x7=>[(2,Pt b2),(3,Pt b6)]) (fun z8 x7=>[.obj b2 27 (.agg (.pair (I 0) (.pair (.eq (.slice none 0 0)) (.eq (.slice none 0 0))))),.obj b6 27 (.agg (.pair (I a0.1) (.pair (.eq z8) (.eq v4)))),.sl z8 35 aH x7,.sl v4 3 (.int .i64) r3]) h (fun K h=>?_) (fun z8 x7 h=>?_)
 ·
  refine au ?_;refine ai (dA (SE.nil 35 aH) ?_);refine aK (fun e y9=>[(1,Pt b1),(2,Pt b2),(3,Pt b6),(4,I y9.2)]) (fun e y9=>[.obj b1 27 (.rep ao a0),.obj b2 27 (.agg (.pair (I 0) (.pair (.eq (.slice none 0 0)) (.eq (.slice none 0 0))))),.obj b6 27 (.agg (.pair (I a0.1) (.pair (.eq e) (.eq v4)))),.sl e 35 aH y9.1,.sl v4 3 (.int .i64) r3]) (fJ k a0) k (.slice none 0 0) (([]:(List eC)),0) (fun _=>rfl) h (SE.fin [1,2,4,0,3] ⟨rfl,rfl,rfl,rfl,trivial⟩ rfl) (fun n e y9 h=>?_);unfold fJ at h;refine au ?_;refine fl bN ?_;refine lo eI ?_;refine ol mC ?_;refine jb (bg rfl) ?_;refine nt (ci h (fun h=>?_) (fun h=>?_))
  ·refine au ?_;refine ai (bR ?_);refine da (av rfl bN) ?_;refine ea 2 (aj rfl eI jF rfl) ?_;refine da (av rfl bN) ?_;refine ea 0 (aj rfl eI jF rfl) ?_;refine dm ?_;obtain⟨l,x,h⟩:=aa h;refine db (aD (t:=aH) rfl mC gJ x) ?_;refine da (aJ 1 false rfl kN rfl) ?_;refine da (ak (t:=(.int .i64)) rfl bY rfl) ?_;refine da (av rfl bN) ?_;refine ea 0 (aj rfl eI jF rfl) ?_;refine dm ?_;obtain⟨F,u,h⟩:=aa h;refine db (aD (t:=aH) rfl mC gJ u) ?_;refine da (aJ 1 false rfl km rfl) ?_;refine da (ak (t:=(.slice (.int .i64))) rfl bC rfl) ?_;obtain⟨j,D,h⟩:=aa h;refine da (sM (ap [.tmp 31] rfl rfl uA rfl (cm k F.2 j D))) ?_;refine db (cH [(0,.tmp 25,_),(1,.tmp 32,_)] rfl zV ul ui (il ⟨rfl,rfl,trivial⟩) rfl) ?_;refine da (be (t:=aH) [(.tmp 33,_)] [(l.1,j)] rfl rfl yj (.cons trivial (.agg (.pair .int .rep)) .nil) rfl rfl) ?_;refine df cE ?_;obtain⟨O,y,h⟩:=aa h;refine fr 3 ?_;refine cz rfl rfl rfl (bp rfl rfl yj (aB y)) ⟨rfl,rfl,trivial⟩ fun M=>?_;refine fl bN ?_;refine ov fun o16=>?_;refine fr 3 ?_;refine bf rfl rfl (a8 rfl eI o16 rfl rfl) ⟨rfl,rfl,trivial⟩ ?_;refine au ?_;refine ab (mq ?_);obtain⟨E,s,h⟩:=aa h;refine jb (aW rfl s) ?_;refine au ?_;exact jz (M,(y9.1++[(l.1,j)],E)) h [2,3,0,1,4]
  ·refine au ?_;exact jz (e,y9.1) h [1,2,3,4]
 ·
  refine sr (fr 1 ?_);refine lo cU ?_;refine fr 1 ?_;refine bf rfl rfl (a8 rfl cU trivial rfl rfl) ⟨rfl,rfl,trivial⟩ ?_;refine nt (bH (bz (SE.fin (Γ':=[(2,_)]) [2,3,0,1] ⟨rfl,trivial⟩ rfl) ?_));cases h;exact aO (z8,v4) [.agg (.pair (I a0.1) (.pair (.eq z8) (.eq v4)))] 2 ⟨⟨_,_,_,_,_,rfl,(.tail _ (.tail _ (.head _))),cU,(wy),rfl⟩,trivial⟩ rfl
def i9(k:Nat)(a0:aQ):Nat→((List eC)×Int)→Option (List eC)
 |0,_=>none
 |n+1,y7=>
  if y7.2 < (a0.2.1.length:Int) then((aR a0.2.1 y7.2).bind fun x9=>
  (aR a0.2.1 y7.2).bind fun h=>
  (dS k h.2).bind fun c=>
  (dj (bq (List.length y7.1+List.length [(x9.1,c)]))).bind fun _=>
  (ck (y7.2+1)).bind fun e=>
  i9 k a0 n (y7.1++[(x9.1,c)],e)) else(some y7.1)
def ju(k:Nat)(a0:aQ):Option aQ:=
 (dS k a0.2.2).bind fun r3=>
 ((i9 k a0 k (([]:(List eC)),0)):Option ((List eC))).bind fun x5=>
 some (a0.1,x5,r3)
theorem tL(k:Nat)(a0:aQ)(r:aQ)(h:ju k a0=some r):
 bV Tryz.prog 11 [.rep ao a0] [] (fun _:Unit=>(bm [.rep ao r],[])):=by
 unfold ju at h
 replace h:=aZ h
 refine bV.of 38 Tryz.func11 rfl Tryz.ntmps11 rfl fun S w0=>?_
 refine sr ?_
 refine bx fun b1=>?_
 refine aE rfl rfl rfl (a9 rfl kC mG) trivial fun b2=>?_
 refine au ?_
 refine jy ?_
 refine aI rfl rfl rfl (av rfl f9) ⟨rfl,trivial⟩ ?_
 refine di 1 rfl rfl rfl rfl (aj rfl bY jF rfl) ⟨rfl,trivial⟩ ?_
 refine aI rfl rfl rfl (av rfl cI) ⟨rfl,trivial⟩ ?_
 refine di 1 rfl rfl rfl rfl (aj rfl bC jF rfl) ⟨rfl,trivial⟩ ?_
 obtain⟨r3,X,h⟩:=aa h
 have Y:=cm k a0.2.2 r3 X
 refine aI rfl rfl rfl (sM (ap [.tmp 8] rfl rfl uA rfl Y)) ⟨rfl,trivial⟩ ?_
 refine aI rfl rfl rfl (cH [(0,.tmp 6,_),(2,.tmp 9,_)] rfl Hj kC A6 (il ⟨rfl,rfl,trivial⟩) rfl) ⟨rfl,rfl,trivial⟩ ?_
 refine uM (Hf 27 (.agg (.pair (I 0) (.pair (.eq (.slice none 0 0)) (.eq (.slice none 0 0)))))) (fun _=>rfl) rfl rfl rfl (a9 rfl kC mG) trivial ?_
 refine mA 7 [true,true,true,true,true,true,true] [] [] [] rfl (by kernel_rfl) (by kernel_rfl) (by kernel_rfl) cE (fun vs hv hB=>?_)
 obtain⟨w0,UV,rfl,Q⟩:=an hv
 obtain⟨w1,UU,rfl,O⟩:=an Q
 obtain⟨w2,se,rfl,M⟩:=an O
 obtain⟨w3,qt,rfl,J⟩:=an M
 obtain⟨w4,pp,rfl,F⟩:=an J
 obtain⟨w5,mc,rfl,E⟩:=an F
 obtain⟨w6,ac,rfl,D⟩:=an E
 obtain rfl:=kg D
 obtain⟨b4,rfl⟩:=Cd hB.2.2.2.2.2.2.1
 refine⟨[0,1,2],[.obj b2 27 (.agg (.pair (I 0) (.pair (.eq (.slice none 0 0)) (.eq (.slice none 0 0))))),.obj b1 27 (.rep ao a0),.obj b4 27 (.agg (.pair (I 0) (.pair (.eq (.slice none 0 0)) (.eq (.slice none 0 0)))))],by kernel_rfl,by decide,?_⟩
 refine i7 2 rfl ?_
 refine ou rfl rfl (a8 rfl cU trivial rfl rfl) ⟨rfl,rfl,trivial⟩ (by kernel_rfl) ?_
 refine pL ?_
 refine bz (SE.fin (Γ':=[(1,Pt b1),(2,Pt b2),(3,Pt b4)]) (Δ':=[.obj b4 27 (.agg (.pair (I a0.1) (.pair (.eq (.slice none 0 0)) (Ri r3)))),.obj b2 27 (.agg (.pair (I 0) (.pair (.eq (.slice none 0 0)) (.eq (.slice none 0 0))))),.obj b1 27 (.rep ao a0)]) [0,1,2] ⟨rfl,rfl,rfl,trivial⟩ rfl) ?_
 refine tn ?_
 refine aM (Z:=Value) (α:=(List eC)) (fun z6 x5=>[(2,Pt b2),(3,Pt b4)]) (fun z6 x5=>[.obj b2 27 (.agg (.pair (I 0) (.pair (.eq (.slice none 0 0)) (.eq (.slice none 0 0))))),.obj b4 27 (.agg (.pair (I a0.1) (.pair (.eq z6) (Ri r3)))),.sl z6 35 aH x5]) h (fun K h=>?_) (fun z6 x5 h=>?_)
 ·
  refine au ?_;refine ai (dA (SE.nil 35 aH) ?_);refine aK (fun z8 y7=>[(1,Pt b1),(2,Pt b2),(3,Pt b4),(4,I y7.2)]) (fun z8 y7=>[.obj b1 27 (.rep ao a0),.obj b2 27 (.agg (.pair (I 0) (.pair (.eq (.slice none 0 0)) (.eq (.slice none 0 0))))),.obj b4 27 (.agg (.pair (I a0.1) (.pair (.eq z8) (Ri r3)))),.sl z8 35 aH y7.1]) (i9 k a0) k (.slice none 0 0) (([]:(List eC)),0) (fun _=>rfl) h (SE.fin [3,2,1,0] ⟨rfl,rfl,rfl,rfl,trivial⟩ rfl) (fun n z8 y7 h=>?_);unfold i9 at h;refine au ?_;refine fl bN ?_;refine lo eI ?_;refine ol mC ?_;refine jb (bg rfl) ?_;refine nt (ci h (fun h=>?_) (fun h=>?_))
  ·refine au ?_;refine ai (bR ?_);refine da (av rfl bN) ?_;refine ea 2 (aj rfl eI jF rfl) ?_;refine da (av rfl bN) ?_;refine ea 0 (aj rfl eI jF rfl) ?_;refine dm ?_;obtain⟨x9,U,h⟩:=aa h;refine db (aD (t:=aH) rfl mC gJ U) ?_;refine da (aJ 1 false rfl kN rfl) ?_;refine da (ak (t:=(.int .i64)) rfl bY rfl) ?_;refine da (av rfl bN) ?_;refine ea 0 (aj rfl eI jF rfl) ?_;refine dm ?_;obtain⟨x,j,h⟩:=aa h;refine db (aD (t:=aH) rfl mC gJ j) ?_;refine da (aJ 1 false rfl km rfl) ?_;refine da (ak (t:=(.slice (.int .i64))) rfl bC rfl) ?_;obtain⟨c,s,h⟩:=aa h;refine da (sM (ap [.tmp 31] rfl rfl uA rfl (cm k x.2 c s))) ?_;refine db (cH [(0,.tmp 25,_),(1,.tmp 32,_)] rfl zV ul ui (il ⟨rfl,rfl,trivial⟩) rfl) ?_;refine da (be (t:=aH) [(.tmp 33,_)] [(x9.1,c)] rfl rfl yj (.cons trivial (.agg (.pair .int .rep)) .nil) rfl rfl) ?_;refine df cE ?_;obtain⟨UW,l,h⟩:=aa h;refine fr 3 ?_;refine cz rfl rfl rfl (bp rfl rfl yj (aB l)) ⟨rfl,rfl,trivial⟩ fun y=>?_;refine fl bN ?_;refine ov fun o14=>?_;refine fr 3 ?_;refine bf rfl rfl (a8 rfl eI o14 rfl rfl) ⟨rfl,rfl,trivial⟩ ?_;refine au ?_;refine ab (mq ?_);obtain⟨u,e,h⟩:=aa h;refine jb (aW rfl e) ?_;refine au ?_;exact jz (y,(y7.1++[(x9.1,c)],u)) h [2,3,0,1]
  ·refine au ?_;exact jz (z8,y7.1) h [1,2,3]
 ·
  refine sr (fr 1 ?_);refine fr 2 ?_;refine ct (kQ (off:=1) [] trivial rfl rfl) ?_;refine lo cU ?_;refine fr 1 ?_;refine bf rfl rfl (a8 rfl cU trivial rfl rfl) ⟨rfl,rfl,trivial⟩ ?_;refine nt (bH (bz (oq (a:=.agg (.pair (I a0.1) (.pair (Rs aH x5) (Ri r3)))) (a':=.rep ao (a0.1,x5,r3)) (wx (.agg (.pair .int (.pair .rep .rep))))) ?_));cases h;exact aO () [.rep ao (a0.1,x5,r3)] 0 ⟨⟨_,_,_,_,_,rfl,(.head _),cU,(wy),rfl⟩,trivial⟩ rfl
def jS(k:Nat)(a0:aQ):Nat→Int→Option (Except Bool Unit)
 |0,_=>none
 |n+1,y6=>
  if y6 < (a0.2.1.length:Int) then((aR a0.2.1 y6).bind fun x8=>
  if 20 < (x8.2.length:Int) then(some (.error true)) else((ck (y6+1)).bind fun x9=>
  jS k a0 n x9)) else(some (.ok ()))
def ny(k:Nat)(a0:aQ):Option Bool:=
 ((if 20 < (a0.2.1.length:Int) then(some true) else(some (decide (20 < (a0.2.2.length:Int))))):Option (Bool)).bind fun x2=>
 if x2=true then(some true) else(bE (α:=Unit) (jS k a0 k 0) (some) fun _=>
 ((if(a0.2.1.length:Int)=5 then(some (decide ((a0.2.2.length:Int)=3))) else(some false)):Option (Bool)).bind fun c=>
 some c)
theorem AG(k:Nat)(a0:aQ)(r:Bool)(h:ny k a0=some r):
 bV Tryz.prog 14 [.rep ao a0] [] (fun _:Unit=>(bm [.eq (.bool r)],[])):=by
 unfold ny at h
 replace h:=aZ h
 refine bV.of 39 Tryz.func14 rfl Tryz.ntmps14 rfl fun S w0=>?_
 refine sr ?_
 refine bx fun b1=>?_
 refine cq ?_
 refine nt ?_
 refine ar ?_
 refine aM (Z:=Unit) (α:=Bool) (fun z3 x2=>[(1,Pt b1),(13,.eq (.bool x2))]) (fun z3 x2=>[.obj b1 27 (.rep ao a0)]) h (fun K h=>?_) (fun z3 x2 h=>?_)
 ·
  refine ab (fl bN ?_);refine lo eI ?_;refine ol mC ?_;refine jb (iD rfl) ?_;refine mq ?_;refine cd (s:=8) rfl (fun hb=>?_) (fun hb=>?_)
  ·replace h:=cG (oK hb) h;refine au ?_;exact jz ((),true) h [0]
  ·replace h:=bO (nL hb) h;refine ga (av rfl cI) ?_;refine jN rfl rfl rfl rfl rfl rfl (aj rfl bC jF rfl) ⟨rfl,trivial⟩ ?_;refine ga (jQ rfl rfl dB) ?_;refine gb (iD rfl) ?_;refine au ?_;exact jz ((),decide (20 < (a0.2.2.length:Int))) h [0]
 ·
  refine cv h (fun h=>?_) (fun h=>?_)
  ·refine au ?_;cases h;exact ra
  ·refine sk (dK (Z:=Unit) (α:=Unit) (fun z5 x4=>[(1,Pt b1)]) (fun z5 x4=>[.obj b1 27 (.rep ao a0)]) (fun e=>e=r) h (fun e h=>Option.some.inj h) (fun K hR h=>?_) (fun z5 x4 h=>?_))
   ·refine au ?_;refine ai (aK (fun z7 y6=>[(1,Pt b1),(3,I y6)]) (fun z7 y6=>[.obj b1 27 (.rep ao a0)]) (jS k a0) k () 0 (fun _=>rfl) h (SE.fin [0] ⟨rfl,rfl,trivial⟩ rfl) (fun n z7 y6 h=>?_));unfold jS at h;refine au ?_;refine fl bN ?_;refine lo eI ?_;refine ol mC ?_;refine jb (bg rfl) ?_;refine nt (ci h (fun h=>?_) (fun h=>?_))
    ·refine au ?_;refine ai (sr (fl bN ?_));refine lo eI ?_;refine mq ?_;obtain⟨x8,u,h⟩:=aa h;refine jb (aD (t:=aH) rfl mC gJ u) ?_;refine ja (aJ 1 false rfl km rfl) ?_;refine ja (ak (t:=(.slice (.int .i64))) rfl bC rfl) ?_;refine ol dB ?_;refine jb (iD rfl) ?_;refine nt (ci h (fun h=>?_) (fun h=>?_))
     ·refine au ?_;obtain rfl:=hR _ h;exact ra
     ·refine au ?_;refine ab (mq ?_);obtain⟨x9,l,h⟩:=aa h;refine jb (aW rfl l) ?_;refine au ?_;exact jz ((),x9) h [0]
    ·refine au ?_;exact jz ((),()) h [0]
   ·refine aM (Z:=Unit) (α:=Bool) (fun j c=>[(2,.eq (.bool c))]) (fun j c=>[]) h (fun K h=>?_) (fun j c h=>?_)
    ·refine ab (fl bN ?_);refine lo eI ?_;refine ol mC ?_;refine jb (fq rfl) ?_;refine mq ?_;refine cd (s:=33) rfl (fun hb=>?_) (fun hb=>?_)
     ·replace h:=cG (oK hb) h;refine ga (av rfl cI) ?_;refine jN rfl rfl rfl rfl rfl rfl (aj rfl bC jF rfl) ⟨rfl,trivial⟩ ?_;refine ga (jQ rfl rfl dB) ?_;refine gb (fq rfl) ?_;refine au ?_;exact jz ((),decide ((a0.2.2.length:Int)=3)) h []
     ·replace h:=bO (nL hb) h;refine au ?_;exact jz ((),false) h []
    ·refine bH ?_;cases h;exact ra
def jR(k:Nat)(a0:(List (List Int))):Nat→Int→Option (Except Bool Unit)
 |0,_=>none
 |n+1,y3=>
  ((if y3 < (a0.length:Int) then(some (decide (y3 < 20))) else(some false)):Option (Bool)).bind fun x5=>
  if x5=true then((aR a0 y3).bind fun x7=>
  if 20 < (x7.length:Int) then(some (.error true)) else((ck (y3+1)).bind fun x8=>
  jR k a0 n x8)) else(some (.ok ()))
def nw(k:Nat)(a0:(List (List Int))):Option Bool:=
 bE (α:=Unit) (jR k a0 k 0) (some) fun _=>
 some (decide (20 < (a0.length:Int)))
theorem AD(k:Nat)(a0:(List (List Int)))(r:Bool)(h:nw k a0=some r):
 bV Tryz.prog 15 [.rep (.slice (.slice (.int .i64))) a0] [] (fun _:Unit=>(bm [.eq (.bool r)],[])):=by
 unfold nw at h
 replace h:=aZ h
 refine bV.of 23 Tryz.func15 rfl Tryz.ntmps15 rfl fun S w0=>?_
 refine sr ?_
 refine cq ?_
 refine nt ?_
 refine dK (Z:=Unit) (α:=Unit) (fun z2 x1=>[(0,.rep (.slice (.slice (.int .i64))) a0)]) (fun z2 x1=>[]) (fun e=>e=r) h (fun e h=>Option.some.inj h) (fun K hR h=>?_) (fun z2 x1 h=>?_)
 ·
  refine au ?_;refine ai (aK (fun z4 y3=>[(0,.rep (.slice (.slice (.int .i64))) a0),(3,I y3)]) (fun z4 y3=>[]) (jR k a0) k () 0 (fun _=>rfl) h (SE.fin [] ⟨rfl,rfl,trivial⟩ rfl) (fun n z4 y3 h=>?_));unfold jR at h;refine ar (aM (Z:=Unit) (α:=Bool) (fun z6 x5=>[(0,.rep (.slice (.slice (.int .i64))) a0),(3,I y3),(11,.eq (.bool x5))]) (fun z6 x5=>[]) h (fun K h=>?_) (fun z6 x5 h=>?_))
  ·refine ab (au ?_);refine ol lJ ?_;refine jb (bg rfl) ?_;refine mq ?_;refine cd (s:=8) rfl (fun hb=>?_) (fun hb=>?_)
   ·replace h:=cG (oK hb) h;refine gm ?_;refine gb (bg rfl) ?_;refine au ?_;exact jz ((),decide (y3 < 20)) h []
   ·replace h:=bO (nL hb) h;refine au ?_;exact jz ((),false) h []
  ·refine cv h (fun h=>?_) (fun h=>?_)
   ·refine au ?_;refine ai (au ?_);obtain⟨x7,j,h⟩:=aa h;refine jb (aD (t:=(.slice (.int .i64))) rfl lJ bC j) ?_;refine ja (ak (t:=(.slice (.int .i64))) rfl bC rfl) ?_;refine ol dB ?_;refine jb (iD rfl) ?_;refine nt (ci h (fun h=>?_) (fun h=>?_))
    ·refine au ?_;obtain rfl:=hR _ h;exact ra
    ·refine au ?_;refine ab (mq ?_);obtain⟨x8,c,h⟩:=aa h;refine jb (aW rfl c) ?_;refine au ?_;exact jz ((),x8) h []
   ·refine au ?_;exact jz ((),()) h []
 ·
  refine au ?_;refine ol lJ ?_;refine jb (iD rfl) ?_;refine au ?_;cases h;exact ra
def dw(k:Nat)(a0:(List (List Int))):Nat→((List (List Int))×Int)→Option (List (List Int))
 |0,_=>none
 |n+1,y3=>
  if y3.2 < (a0.length:Int) then((aR a0 y3.2).bind fun x5=>
  (dS k x5).bind fun r6=>
  (dj (bq (List.length y3.1+List.length [r6]))).bind fun _=>
  (ck (y3.2+1)).bind fun c=>
  dw k a0 n (y3.1++[r6],c)) else(some y3.1)
def fe(k:Nat)(a0:(List (List Int))):Option (List (List Int)):=
 ((dw k a0 k (([]:(List (List Int))),0)):Option ((List (List Int)))).bind fun x1=>
 some x1
theorem tM(k:Nat)(a0:(List (List Int)))(r:(List (List Int)))(h:fe k a0=some r):
 bV Tryz.prog 28 [.rep (.slice (.slice (.int .i64))) a0] [] (fun z:Value=>(bm [.eq z],[.sl z 22 (.slice (.int .i64)) r])):=by
 unfold fe at h
 replace h:=aZ h
 refine bV.of 20 Tryz.func28 rfl Tryz.ntmps28 rfl fun S w0=>?_
 refine sr ?_
 refine cq ?_
 refine nt ?_
 refine sr ?_
 refine cq ?_
 refine nt ?_
 refine aM (Z:=Value) (α:=(List (List Int))) (fun z2 x1=>[(3,.eq z2)]) (fun z2 x1=>[.sl z2 22 (.slice (.int .i64)) x1]) h (fun K h=>?_) (fun z2 x1 h=>?_)
 ·
  refine au ?_;refine ai (dA (SE.nil 22 (.slice (.int .i64))) ?_);refine aK (fun z4 y3=>[(0,.rep (.slice (.slice (.int .i64))) a0),(3,.eq z4),(4,I y3.2)]) (fun z4 y3=>[.sl z4 22 (.slice (.int .i64)) y3.1]) (dw k a0) k (.slice none 0 0) (([]:(List (List Int))),0) (fun _=>rfl) h (SE.fin [0] ⟨rfl,rfl,rfl,trivial⟩ rfl) (fun n z4 y3 h=>?_);unfold dw at h;refine au ?_;refine ol lJ ?_;refine jb (bg rfl) ?_;refine nt (ci h (fun h=>?_) (fun h=>?_))
  ·refine au ?_;refine ai (ab (au ?_));obtain⟨x5,j,h⟩:=aa h;refine jb (aD (t:=(.slice (.int .i64))) rfl lJ bC j) ?_;refine ja (ak (t:=(.slice (.int .i64))) rfl bC rfl) ?_;obtain⟨r6,s,h⟩:=aa h;refine aE rfl rfl rfl (ap [.tmp 15] rfl rfl uA rfl (cm k x5 r6 s)) ⟨rfl,trivial⟩ fun v7=>?_;refine ct (d5 [16] ⟨rfl,trivial⟩) ?_;refine ja (be (t:=(.slice (.int .i64))) [(.tmp 16,_)] [r6] rfl rfl nW (.cons rfl .rep .nil) rfl rfl) ?_;obtain⟨u8,l,h⟩:=aa h;refine cz rfl rfl rfl (bp rfl rfl nW (aB l)) ⟨rfl,rfl,trivial⟩ fun v9=>?_;refine au ?_;refine ab (mq ?_);obtain⟨e,c,h⟩:=aa h;refine jb (aW rfl c) ?_;refine au ?_;exact jz (v9,(y3.1++[r6],e)) h [0]
  ·refine au ?_;exact jz (z4,y3.1) h [0]
 ·
  refine au ?_;cases h;exact aO z2 [.eq z2] 1 ⟨rfl,trivial⟩ rfl
def o7(k:Nat)(a0:aQ)(a1:Int)(a2:Int):Option Bool:=
 (aR a0.2.1 a1).bind fun x2=>
 (pT k x2.2 a2).bind fun r3=>
 some r3
theorem zL(k:Nat)(a0:aQ)(a1:Int)(a2:Int)(r:Bool)(h:o7 k a0 a1 a2=some r):
 bV Tryz.prog 147 [.rep ao a0,I a1,I a2] [] (fun _:Unit=>(bm [.eq (.bool r)],[])):=by
 unfold o7 at h
 replace h:=aZ h
 refine bV.of 15 Tryz.func147 rfl Tryz.ntmps147 rfl fun S w0=>?_
 refine sr ?_
 refine bx fun b1=>?_
 refine au ?_
 refine fl bN ?_
 refine lo eI ?_
 refine mq ?_
 obtain⟨x2,c,h⟩:=aa h
 refine jb (aD (t:=aH) rfl mC gJ c) ?_
 refine ja (aJ 1 false rfl km rfl) ?_
 refine ja (ak (t:=(.slice (.int .i64))) rfl bC rfl) ?_
 refine mq ?_
 obtain⟨r3,e,h⟩:=aa h
 have j:=vi k x2.2 a2 r3 e
 refine jb (ap [.tmp 12,.tmp 13] rfl rfl QP rfl j) ?_
 refine au ?_
 cases h
 exact ra
def jK(k:Nat)(a0:aQ)(a1:(List Int))(a2:Int):Nat→((List Int)×(List Int)×(List Int)×Int)→Option ((List Int)×(List Int)×(List Int))
 |0,_=>none
 |n+1,y4=>
  if y4.2.2.2 < (a1.length:Int) then((((aR a1 y4.2.2.2).bind fun x8=>
  (o7 k a0 x8 a2).bind fun r9=>
  if r9=true then((aR a1 y4.2.2.2).bind fun h=>
  (dj (bq (List.length y4.2.2.1+List.length [h]))).bind fun _=>
  some (y4.1,y4.2.1,y4.2.2.1++[h])) else((aR a1 y4.2.2.2).bind fun c=>
  (dj (bq (List.length y4.2.1+List.length [c]))).bind fun _=>
  if 0 < (y4.2.2.1.length:Int) then((aR a1 y4.2.2.2).bind fun e=>
  (dj (bq (List.length y4.1+List.length [e]))).bind fun _=>
  some (y4.1++[e],y4.2.1++[c],y4.2.2.1)) else(some (y4.1,y4.2.1++[c],y4.2.2.1)))):Option ((List Int)×(List Int)×(List Int))).bind fun x6=>
  (ck (y4.2.2.2+1)).bind fun j=>
  jK k a0 a1 a2 n (x6.1,x6.2.1,x6.2.2,j)) else(some (y4.1,y4.2.1,y4.2.2.1))
def rP(k:Nat)(a0:aQ)(a1:(List Int))(a2:Int):Option ((List Int)×(List Int)):=
 ((jK k a0 a1 a2 k (([]:(List Int)),([]:(List Int)),([]:(List Int)),0)):Option ((List Int)×(List Int)×(List Int))).bind fun x2=>
 (dj (bq (List.length x2.2.1+List.length x2.2.2))).bind fun _=>
 some (x2.1,x2.2.1++x2.2.2)
theorem BZ(k:Nat)(a0:aQ)(a1:(List Int))(a2:Int)(r:(List Int)×(List Int))(h:rP k a0 a1 a2=some r):
 bV Tryz.prog 117 [.rep ao a0,Ri a1,I a2] [] (fun _:Unit=>(bm [Ri r.1,Ri r.2],[])):=by
 unfold rP at h
 replace h:=aZ h
 refine bV.of 53 Tryz.func117 rfl Tryz.ntmps117 rfl fun S w0=>?_
 refine sr ?_
 refine bx fun b1=>?_
 refine cq ?_
 refine cq ?_
 refine nt ?_
 refine sr ?_
 refine cq ?_
 refine cq ?_
 refine cq ?_
 refine nt ?_
 refine aM (Z:=Value×Value×Value) (α:=(List Int)×(List Int)×(List Int)) (fun z3 x2=>[(8,.eq z3.1),(9,.eq z3.2.1),(10,.eq z3.2.2)]) (fun z3 x2=>[.sl z3.1 3 (.int .i64) x2.1,.sl z3.2.1 3 (.int .i64) x2.2.1,.sl z3.2.2 3 (.int .i64) x2.2.2]) h (fun K h=>?_) (fun z3 x2 h=>?_)
 ·
  refine au ?_;refine ai (dA (SE.nil 3 (.int .i64)) ?_);refine dA (SE.nil 3 (.int .i64)) ?_;refine dA (SE.nil 3 (.int .i64)) ?_;refine aK (fun z5 y4=>[(1,Ri a1),(2,I a2),(3,Pt b1),(8,.eq z5.1),(9,.eq z5.2.1),(10,.eq z5.2.2),(11,I y4.2.2.2)]) (fun z5 y4=>[.obj b1 27 (.rep ao a0),.sl z5.1 3 (.int .i64) y4.1,.sl z5.2.1 3 (.int .i64) y4.2.1,.sl z5.2.2 3 (.int .i64) y4.2.2.1]) (jK k a0 a1 a2) k ((.slice none 0 0),(.slice none 0 0),(.slice none 0 0)) (([]:(List Int)),([]:(List Int)),([]:(List Int)),0) (fun _=>rfl) h (SE.fin [3,2,1,0] ⟨rfl,rfl,rfl,rfl,rfl,rfl,rfl,trivial⟩ rfl) (fun n z5 y4 h=>?_);unfold jK at h;refine au ?_;refine ol dB ?_;refine jb (bg rfl) ?_;refine nt (ci h (fun h=>?_) (fun h=>?_))
  ·refine sk (aM (Z:=Value×Value×Value) (α:=(List Int)×(List Int)×(List Int)) (fun z7 x6=>[(1,Ri a1),(2,I a2),(3,Pt b1),(8,.eq z7.1),(9,.eq z7.2.1),(10,.eq z7.2.2),(11,I y4.2.2.2)]) (fun z7 x6=>[.obj b1 27 (.rep ao a0),.sl z7.1 3 (.int .i64) x6.1,.sl z7.2.1 3 (.int .i64) x6.2.1,.sl z7.2.2 3 (.int .i64) x6.2.2]) h (fun K h=>?_) (fun z7 x6 h=>?_))
   ·refine ai (au ?_);refine bR ?_;refine ea 0 (aj rfl cU (wy) rfl) ?_;refine dm ?_;refine dm ?_;obtain⟨x8,U,h⟩:=aa h;refine db (aD (t:=(.int .i64)) rfl dB bY U) ?_;refine da (ak (t:=(.int .i64)) rfl bY rfl) ?_;refine dm ?_;refine df cE ?_;obtain⟨r9,X,h⟩:=aa h;refine jc (ap [.tmp 18,.tmp 22,.tmp 23] rfl rfl Q6 rfl (zL k a0 x8 a2 r9 X)) ?_;refine nt (cv h (fun h=>?_) (fun h=>?_))
    ·refine au ?_;obtain⟨j,y,h⟩:=aa h;refine jb (aD (t:=(.int .i64)) rfl dB bY y) ?_;refine ja (ak (t:=(.int .i64)) rfl bY rfl) ?_;refine ja (be (t:=(.int .i64)) [(.tmp 29,_)] [j] rfl rfl dp (.cons rfl .int .nil) rfl rfl) ?_;obtain⟨qt,J,h⟩:=aa h;refine fr 3 ?_;refine cz rfl rfl rfl (bp rfl rfl dp (aB J)) ⟨rfl,rfl,trivial⟩ fun Q=>?_;refine au ?_;exact jz ((z5.1,z5.2.1,Q),(y4.1,y4.2.1,y4.2.2.1++[j])) h [1,2,3,0]
    ·refine au ?_;obtain⟨c,x,h⟩:=aa h;refine jb (aD (t:=(.int .i64)) rfl dB bY x) ?_;refine ja (ak (t:=(.int .i64)) rfl bY rfl) ?_;refine ja (be (t:=(.int .i64)) [(.tmp 36,_)] [c] rfl rfl dp (.cons rfl .int .nil) rfl rfl) ?_;obtain⟨pp,F,h⟩:=aa h;refine fr 2 ?_;refine cz rfl rfl rfl (bp rfl rfl dp (aB F)) ⟨rfl,rfl,trivial⟩ fun l=>?_;refine aq (nt (sr ?_));refine mq ?_;refine fr 3 ?_;refine ka (cZ rfl rfl dB) ?_;refine jb (iD rfl) ?_;refine nt (ci h (fun h=>?_) (fun h=>?_))
     ·refine ab (au ?_);obtain⟨e,u,h⟩:=aa h;refine jb (aD (t:=(.int .i64)) rfl dB bY u) ?_;refine ja (ak (t:=(.int .i64)) rfl bY rfl) ?_;refine ja (be (t:=(.int .i64)) [(.tmp 46,_)] [e] rfl rfl dp (.cons rfl .int .nil) rfl rfl) ?_;obtain⟨mc,E,h⟩:=aa h;refine fr 3 ?_;refine cz rfl rfl rfl (bp rfl rfl dp (aB E)) ⟨rfl,rfl,trivial⟩ fun O=>?_;refine au ?_;exact jz ((O,l,z5.2.2),(y4.1++[e],y4.2.1++[c],y4.2.2.1)) h [3,0,2,1]
     ·refine au ?_;exact jz ((z5.1,l,z5.2.2),(y4.1,y4.2.1++[c],y4.2.2.1)) h [2,3,1,0]
   ·refine ab (mq ?_);obtain⟨M,s,h⟩:=aa h;refine jb (aW rfl s) ?_;refine au ?_;exact jz ((z7.1,z7.2.1,z7.2.2),(x6.1,x6.2.1,x6.2.2,M)) h [0,1,2,3]
  ·refine au ?_;exact jz ((z5.1,z5.2.1,z5.2.2),(y4.1,y4.2.1,y4.2.2.1)) h [1,2,3]
 ·
  refine sr ?_;iterate 3 refine mq ?_
  refine fr 2 ?_;refine ct (d5 [10,51] ⟨rfl,rfl,trivial⟩) ?_;obtain⟨ac,D,h⟩:=aa h;refine fr 1 ?_;refine cz rfl rfl rfl (bp rfl rfl dp (aB D)) ⟨rfl,rfl,trivial⟩ fun Y=>?_;refine aq ?_;refine aq (nt (bH ?_));refine dh 1 rfl ?_;refine bz (d5 [6,8,49] ⟨rfl,rfl,rfl,trivial⟩) ?_;refine bz (d5 [7,52] ⟨rfl,rfl,trivial⟩) ?_;cases h;exact rb
def iQ(k:Nat)(e:(List Int)×(List Int)):Nat→((List Int)×Int)→Option (List Int)
 |0,_=>none
 |n+1,c=>
  if c.2 < (e.1.length:Int) then((aR e.1 c.2).bind fun h=>
  (aR e.1 c.2).bind fun s=>
  (aR c.1 s).bind fun r=>
  (ck (r+1)).bind fun l=>
  (aR c.1 h).bind fun u=>
  (ck (c.2+1)).bind fun j=>
  iQ k e n (List.set c.1 (Int.toNat h) l,j)) else(some c.1)
def iR(k:Nat)(a0:aQ)(y6:(List Int)×(List (List Int))×Int):Nat→((List Int)×(List (List Int))×Int)→Option ((List Int)×(List (List Int)))
 |0,_=>none
 |n+1,c=>
  if c.2.2 < (y6.2.1.length:Int) then((((aR y6.2.1 c.2.2).bind fun r=>
  (rP k a0 r y6.2.2).bind fun e=>
  ((iQ k e k (c.1,0)):Option ((List Int))).bind fun l=>
  (dj (bq (List.length c.2.1+List.length [e.2]))).bind fun _=>
  some (l,c.2.1++[e.2])):Option ((List Int)×(List (List Int)))).bind fun h=>
  (ck (c.2.2+1)).bind fun j=>
  iR k a0 y6 n (h.1,h.2,j)) else(some (c.1,c.2.1))
def jP(k:Nat)(a0:aQ)(a3:Int):Nat→((List Int)×(List (List Int))×Int)→Option ((List Int)×(List (List Int)))
 |0,_=>none
 |n+1,y6=>
  if y6.2.2 < a3 then(((((iR k a0 y6 k (y6.1,([]:(List (List Int))),0)):Option ((List Int)×(List (List Int)))).bind fun c=>
  some (c.1,c.2)):Option ((List Int)×(List (List Int)))).bind fun x8=>
  (ck (y6.2.2+1)).bind fun e=>
  jP k a0 a3 n (x8.1,x8.2,e)) else(some (y6.1,y6.2.1))
def pe(k:Nat)(a0:aQ)(a1:(List (List Int)))(a2:Int)(a3:Int):Option ((List Int)×(List (List Int))):=
 (dj (0≤(a0.2.1.length:Int)∧bq (Int.toNat (a0.2.1.length:Int)))).bind fun _=>
 ((jP k a0 a3 k (List.replicate (Int.toNat (a0.2.1.length:Int)) 0,a1,a2)):Option ((List Int)×(List (List Int)))).bind fun x4=>
 some (x4.1,x4.2)
theorem zN(k:Nat)(a0:aQ)(a1:(List (List Int)))(a2:Int)(a3:Int)(r:(List Int)×(List (List Int)))(h:pe k a0 a1 a2 a3=some r):
 bV Tryz.prog 96 [.rep ao a0,.rep (.slice (.slice (.int .i64))) a1,I a2,I a3] [] (fun _:Unit=>(bm [Ri r.1,.rep (.slice (.slice (.int .i64))) r.2],[])):=by
 unfold pe at h
 replace h:=aZ h
 refine bV.of 72 Tryz.func96 rfl Tryz.ntmps96 rfl fun S w0=>?_
 refine sr ?_
 refine bx fun b1=>?_
 refine au ?_
 refine fl bN ?_
 refine lo eI ?_
 refine ol mC ?_
 obtain⟨u2,se,h⟩:=aa h
 refine aE rfl rfl rfl (CG (t:=(.int .i64)) (d:=0) rfl dp UH (aB se).1 (aB se).2) ⟨rfl,rfl,trivial⟩ fun v3=>?_
 refine aq ?_
 refine nt ?_
 refine sr ?_
 refine mq ?_
 refine aq ?_
 refine nt ?_
 refine aM (Z:=Unit) (α:=(List Int)×(List (List Int))) (fun z5 x4=>[(10,.eq v3),(11,.rep (.slice (.slice (.int .i64))) x4.2)]) (fun z5 x4=>[.sl v3 3 (.int .i64) x4.1]) h (fun K h=>?_) (fun z5 x4 h=>?_)
 ·
  refine au ?_;refine ai (aK (fun z7 y6=>[(3,I a3),(4,Pt b1),(10,.eq v3),(11,.rep (.slice (.slice (.int .i64))) y6.2.1),(12,I y6.2.2)]) (fun z7 y6=>[.obj b1 27 (.rep ao a0),.sl v3 3 (.int .i64) y6.1]) (jP k a0 a3) k () (List.replicate (Int.toNat (a0.2.1.length:Int)) 0,a1,a2) (fun _=>rfl) h (SE.fin [1,0] ⟨rfl,rfl,rfl,rfl,rfl,trivial⟩ rfl) (fun n z7 y6 h=>?_));unfold jP at h;refine au ?_;refine jb (bg rfl) ?_;refine nt (ci h (fun h=>?_) (fun h=>?_))
  ·refine sk (aM (Z:=Value) (α:=(List Int)×(List (List Int))) (fun z9 x8=>[(3,I a3),(4,Pt b1),(10,.eq v3),(11,.eq z9),(12,I y6.2.2)]) (fun z9 x8=>[.obj b1 27 (.rep ao a0),.sl v3 3 (.int .i64) x8.1,.sl z9 22 (.slice (.int .i64)) x8.2]) h (fun K h=>?_) (fun z9 x8 h=>?_))
   ·refine ai (sr (cq (nt ?_)));refine aM (Z:=Value) (α:=(List Int)×(List (List Int))) (fun y u=>[(3,I a3),(4,Pt b1),(10,.eq v3),(12,I y6.2.2),(13,.eq y)]) (fun y u=>[.obj b1 27 (.rep ao a0),.sl v3 3 (.int .i64) u.1,.sl y 22 (.slice (.int .i64)) u.2]) h (fun K h=>?_) (fun y u h=>?_)
    ·refine au ?_;refine ai (dA (SE.nil 22 (.slice (.int .i64))) ?_);refine aK (fun e c=>[(3,I a3),(4,Pt b1),(10,.eq v3),(11,.rep (.slice (.slice (.int .i64))) y6.2.1),(12,I y6.2.2),(13,.eq e),(14,I c.2.2)]) (fun e c=>[.obj b1 27 (.rep ao a0),.sl v3 3 (.int .i64) c.1,.sl e 22 (.slice (.int .i64)) c.2.1]) (iR k a0 y6) k (.slice none 0 0) (y6.1,([]:(List (List Int))),0) (fun _=>rfl) h (SE.fin [1,2,0] ⟨rfl,rfl,rfl,rfl,rfl,rfl,rfl,trivial⟩ rfl) (fun n e c h=>?_);unfold iR at h;refine au ?_;refine ol lJ ?_;refine jb (bg rfl) ?_;refine nt (ci h (fun h=>?_) (fun h=>?_))
     ·refine sk (aM (Z:=Value) (α:=(List Int)×(List (List Int))) (fun x s=>[(3,I a3),(4,Pt b1),(10,.eq v3),(11,.rep (.slice (.slice (.int .i64))) y6.2.1),(12,I y6.2.2),(13,.eq x),(14,I c.2.2)]) (fun x s=>[.obj b1 27 (.rep ao a0),.sl v3 3 (.int .i64) s.1,.sl x 22 (.slice (.int .i64)) s.2]) h (fun K h=>?_) (fun x s h=>?_))
      ·refine ai (ar (bR ?_));refine ea 0 (aj rfl cU (wy) rfl) ?_;refine dm ?_;refine dm ?_;obtain⟨U0,pp,h⟩:=aa h;refine db (aD (t:=(.slice (.int .i64))) rfl lJ bC pp) ?_;refine da (ak (t:=(.slice (.int .i64))) rfl bC rfl) ?_;refine dm ?_;obtain⟨j,UU,h⟩:=aa h;refine dc (ap [.tmp 36,.tmp 40,.tmp 41] rfl rfl Rf rfl (BZ k a0 U0 y6.2.2 j UU)) ?_;refine dm ?_;refine da (dF rfl rfl) ?_;refine da (dF rfl rfl) ?_;refine da (fU rfl) ?_;refine df cE ?_;refine aq (nt ?_);refine aM (Z:=Unit) (α:=(List Int)) (fun M D=>[(3,I a3),(4,Pt b1),(10,.eq v3),(11,.rep (.slice (.slice (.int .i64))) y6.2.1),(12,I y6.2.2),(13,.eq e),(14,I c.2.2),(16,Ri j.2)]) (fun M D=>[.obj b1 27 (.rep ao a0),.sl v3 3 (.int .i64) D,.sl e 22 (.slice (.int .i64)) c.2.1]) h (fun K h=>?_) (fun M D h=>?_)
       ·refine au ?_;refine ai (aK (fun J l=>[(3,I a3),(4,Pt b1),(10,.eq v3),(11,.rep (.slice (.slice (.int .i64))) y6.2.1),(12,I y6.2.2),(13,.eq e),(14,I c.2.2),(15,Ri j.1),(16,Ri j.2),(17,I l.2)]) (fun J l=>[.obj b1 27 (.rep ao a0),.sl v3 3 (.int .i64) l.1,.sl e 22 (.slice (.int .i64)) c.2.1]) (iQ k j) k () (c.1,0) (fun _=>rfl) h (SE.fin [0,1,2] ⟨rfl,rfl,rfl,rfl,rfl,rfl,rfl,rfl,rfl,rfl,trivial⟩ rfl) (fun n J l h=>?_));unfold iQ at h;refine au ?_;refine ol dB ?_;refine jb (bg rfl) ?_;refine nt (ci h (fun h=>?_) (fun h=>?_))
        ·refine au ?_;refine ai (bR ?_);refine dm ?_;refine dm ?_;refine dm ?_;obtain⟨O,mc,h⟩:=aa h;refine db (aD (t:=(.int .i64)) rfl dB bY mc) ?_;refine da (ak (t:=(.int .i64)) rfl bY rfl) ?_;refine dm ?_;refine dm ?_;refine dm ?_;obtain⟨UZ,ac,h⟩:=aa h;refine db (aD (t:=(.int .i64)) rfl dB bY ac) ?_;refine da (ak (t:=(.int .i64)) rfl bY rfl) ?_;obtain⟨U4,F,h⟩:=aa h;refine eb 1 (aV (t:=(.int .i64)) rfl dB bY F) ?_;refine ea 1 (dM (i:=Int.toNat UZ) (off:=0) rfl bY (fun _=>rfl) rfl (co F).2.2 rfl) ?_;obtain⟨UY,Y,h⟩:=aa h;refine db (aW rfl Y) ?_;refine df cE ?_;obtain⟨U2,E,h⟩:=aa h;refine fr 1 ?_;refine kb (aV (t:=(.int .i64)) rfl dB bY E) ?_;refine bf rfl rfl (cP (i:=Int.toNat O) rfl bY rfl (ig E) rfl .int rfl) ⟨rfl,rfl,trivial⟩ ?_;refine au ?_;refine ab (mq ?_);obtain⟨UX,X,h⟩:=aa h;refine jb (aW rfl X) ?_;refine au ?_;exact jz ((),(List.set l.1 (Int.toNat O) UY,UX)) h [1,0,2]
        ·refine au ?_;exact jz ((),l.1) h [0,1,2]
       ·refine ab (au ?_);refine ja (be (t:=(.slice (.int .i64))) [(.tmp 66,_)] [j.2] rfl rfl nW (.cons rfl .rep .nil) rfl rfl) ?_;obtain⟨U6,qt,h⟩:=aa h;refine fr 2 ?_;refine cz rfl rfl rfl (bp rfl rfl nW (aB qt)) ⟨rfl,rfl,trivial⟩ fun U1=>?_;refine au ?_;exact jz (U1,(D,c.2.1++[j.2])) h [1,2,0]
      ·refine ab (mq ?_);obtain⟨UW,U,h⟩:=aa h;refine jb (aW rfl U) ?_;refine au ?_;exact jz (x,(s.1,s.2,UW)) h [0,1,2]
     ·refine au ?_;exact jz (e,(c.1,c.2.1)) h [0,1,2]
    ·refine ab (au ?_);exact jz (y,(u.1,u.2)) h [0,1,2]
   ·refine ab (mq ?_);obtain⟨UV,Q,h⟩:=aa h;refine jb (aW rfl Q) ?_;refine aq (nl ?_);refine dh 2 rfl ?_;refine bz (d5 [11] ⟨rfl,trivial⟩) ?_;exact jz ((),(x8.1,x8.2,UV)) h [0,1]
  ·refine au ?_;exact jz ((),(y6.1,y6.2.1)) h [1]
 ·
  refine sr ?_;iterate 2 refine mq ?_
  refine aq ?_;refine aq (nt (bH ?_));refine bz (d5 [8,10,70] ⟨rfl,rfl,rfl,trivial⟩) ?_;cases h;exact rb
def ib(k:Nat)(r2:(List Int)×(List (List Int))):Nat→(Int×Int)→Option Int
 |0,_=>none
 |n+1,y5=>
  if y5.2 < (r2.1.length:Int) then((aR r2.1 y5.2).bind fun x7=>
  (ck (y5.1+x7)).bind fun x8=>
  (ck (y5.2+1)).bind fun x9=>
  ib k r2 n (x8,x9)) else(some y5.1)
def lO(k:Nat)(a0:aQ)(a1:(List (List Int)))(a2:Int):Option Int:=
 (pe k a0 a1 a2 a0.1).bind fun r2=>
 ((ib k r2 k (0,0)):Option (Int)).bind fun x3=>
 some x3
theorem rO(k:Nat)(a0:aQ)(a1:(List (List Int)))(a2:Int)(r:Int)(h:lO k a0 a1 a2=some r):
 bV Tryz.prog 63 [.rep ao a0,.rep (.slice (.slice (.int .i64))) a1,I a2] [] (fun _:Unit=>(bm [I r],[])):=by
 unfold lO at h
 replace h:=aZ h
 refine bV.of 33 Tryz.func63 rfl Tryz.ntmps63 rfl fun S w0=>?_
 refine sr ?_
 refine bx fun b1=>?_
 refine au ?_
 refine lo cU ?_
 refine au ?_
 refine fl f9 ?_
 refine lo bY ?_
 obtain⟨r2,l,h⟩:=aa h
 have s:=zN k a0 a1 a2 a0.1 r2 l
 refine aG rfl (ap [.tmp 12,.tmp 13,.tmp 14,.tmp 16] rfl rfl TA rfl s) ⟨rfl,rfl,rfl,rfl,trivial⟩ ?_
 refine mq ?_
 refine xr ?_
 refine xr ?_
 refine aq ?_
 refine aq ?_
 refine nt ?_
 refine sr ?_
 refine cq ?_
 refine nt ?_
 refine aM (Z:=Unit) (α:=Int) (fun z4 x3=>[(9,I x3)]) (fun z4 x3=>[]) h (fun K h=>?_) (fun z4 x3 h=>?_)
 ·
  refine au ?_;refine ai (aK (fun z6 y5=>[(7,Ri r2.1),(9,I y5.1),(10,I y5.2)]) (fun z6 y5=>[]) (ib k r2) k () (0,0) (fun _=>rfl) h (SE.fin [] ⟨rfl,rfl,rfl,trivial⟩ rfl) (fun n z6 y5 h=>?_));unfold ib at h;refine au ?_;refine ol dB ?_;refine jb (bg rfl) ?_;refine nt (ci h (fun h=>?_) (fun h=>?_))
  ·refine au ?_;refine ai (ab (au ?_));obtain⟨x7,j,h⟩:=aa h;refine jb (aD (t:=(.int .i64)) rfl dB bY j) ?_;refine ja (ak (t:=(.int .i64)) rfl bY rfl) ?_;obtain⟨x8,e,h⟩:=aa h;refine jb (aW rfl e) ?_;refine au ?_;refine ab (mq ?_);obtain⟨x9,c,h⟩:=aa h;refine jb (aW rfl c) ?_;refine au ?_;exact jz ((),(x8,x9)) h []
  ·refine au ?_;exact jz ((),y5.1) h []
 ·
  refine au ?_;cases h;exact ra
def fh(k:Nat)(a0:aQ)(a1:aQ):Nat→Int→Option (Except Bool Unit)
 |0,_=>none
 |n+1,y8=>
  if y8 < (a0.2.1.length:Int) then((((aR a0.2.1 y8).bind fun l=>
  (aR a1.2.1 y8).bind fun j=>
  if¬(l.1=j.1) then(some true) else((aR a0.2.1 y8).bind fun h=>
  (aR a1.2.1 y8).bind fun e=>
  (dQ k h.2 e.2).bind fun s=>
  some (!s))):Option (Bool)).bind fun r=>
  if r=true then(some (.error false)) else((ck (y8+1)).bind fun c=>
  fh k a0 a1 n c)) else(some (.ok ()))
def jr(k:Nat)(a0:aQ)(a1:aQ):Option Bool:=
 ((if¬(a0.1=a1.1) then(some true) else(if¬((a0.2.1.length:Int)=(a1.2.1.length:Int)) then(some true) else((dQ k a0.2.2 a1.2.2).bind fun r5=>
 some (!r5)))):Option (Bool)).bind fun x3=>
 if x3=true then(some false) else(bE (α:=Unit) (fh k a0 a1 k 0) (some) fun _=>
 some true)
theorem tJ(k:Nat)(a0:aQ)(a1:aQ)(r:Bool)(h:jr k a0 a1=some r):
 bV Tryz.prog 27 [.rep ao a0,.rep ao a1] [] (fun _:Unit=>(bm [.eq (.bool r)],[])):=by
 unfold jr at h
 replace h:=aZ h
 refine bV.of 64 Tryz.func27 rfl Tryz.ntmps27 rfl fun S w0=>?_
 refine sr ?_
 refine bx fun b1=>?_
 refine bx fun b2=>?_
 refine cq ?_
 refine nt ?_
 refine ar ?_
 refine aM (Z:=Unit) (α:=Bool) (fun z4 x3=>[(2,Pt b1),(3,Pt b2),(27,.eq (.bool x3))]) (fun z4 x3=>[.obj b1 27 (.rep ao a0),.obj b2 27 (.rep ao a1)]) h (fun K h=>?_) (fun z4 x3 h=>?_)
 ·
  refine ab (fl f9 ?_);refine fr 1 ?_;refine lo bY ?_;refine fl f9 ?_;refine fr 1 ?_;refine lo bY ?_;refine jb (g7 rfl) ?_;refine mq ?_;refine cd (s:=11) rfl (fun hb=>?_) (fun hb=>?_)
  ·replace h:=cG (H5 hb) h;refine au ?_;exact jz ((),true) h [1,0]
  ·replace h:=bO (vH hb) h;refine ga (av rfl bN) ?_;refine fr 1 ?_;refine jN rfl rfl rfl rfl rfl rfl (aj rfl eI jF rfl) ⟨rfl,trivial⟩ ?_;refine ga (jQ rfl rfl mC) ?_;refine ga (av rfl bN) ?_;refine fr 1 ?_;refine jN rfl rfl rfl rfl rfl rfl (aj rfl eI jF rfl) ⟨rfl,trivial⟩ ?_;refine ga (jQ rfl rfl mC) ?_;refine gb (g7 rfl) ?_;refine pf ?_;refine mq ?_;refine cd (s:=20) rfl (fun hb=>?_) (fun hb=>?_)
   ·replace h:=cG (H5 hb) h;refine au ?_;exact jz ((),true) h [1,0]
   ·replace h:=bO (vH hb) h;refine ga (av rfl cI) ?_;refine fr 1 ?_;refine jN rfl rfl rfl rfl rfl rfl (aj rfl bC jF rfl) ⟨rfl,trivial⟩ ?_;refine ga (av rfl cI) ?_;refine fr 1 ?_;refine jN rfl rfl rfl rfl rfl rfl (aj rfl bC jF rfl) ⟨rfl,trivial⟩ ?_;obtain⟨r5,Q,h⟩:=aa h;refine gb (ap [.tmp 22,.tmp 24] rfl rfl IW rfl (io k a0.2.2 a1.2.2 r5 Q)) ?_;refine ga (eJ rfl) ?_;refine au ?_;exact jz ((), !r5) h [1,0]
 ·
  refine cv h (fun h=>?_) (fun h=>?_)
  ·refine au ?_;cases h;exact ra
  ·refine sk (dK (Z:=Unit) (α:=Unit) (fun z7 x6=>[]) (fun z7 x6=>[]) (fun e=>e=r) h (fun e h=>Option.some.inj h) (fun K hR h=>?_) (fun z7 x6 h=>?_))
   ·refine au ?_;refine ai (aK (fun z9 y8=>[(2,Pt b1),(3,Pt b2),(5,I y8)]) (fun z9 y8=>[.obj b1 27 (.rep ao a0),.obj b2 27 (.rep ao a1)]) (fh k a0 a1) k () 0 (fun _=>rfl) h (SE.fin [0,1] ⟨rfl,rfl,rfl,trivial⟩ rfl) (fun n z9 y8 h=>?_));unfold fh at h;refine au ?_;refine fl bN ?_;refine lo eI ?_;refine ol mC ?_;refine jb (bg rfl) ?_;refine nt (ci h (fun h=>?_) (fun h=>?_))
    ·refine au ?_;refine ai (aM (Z:=Unit) (α:=Bool) (fun j c=>[(2,Pt b1),(3,Pt b2),(5,I y8),(63,.eq (.bool c))]) (fun j c=>[.obj b1 27 (.rep ao a0),.obj b2 27 (.rep ao a1)]) h (fun K h=>?_) (fun j c h=>?_))
     ·refine bR ?_;refine da (av rfl bN) ?_;refine ea 0 (aj rfl eI jF rfl) ?_;refine dm ?_;obtain⟨X,E,h⟩:=aa h;refine db (aD (t:=aH) rfl mC gJ E) ?_;refine da (aJ 1 false rfl kN rfl) ?_;refine da (ak (t:=(.int .i64)) rfl bY rfl) ?_;refine da (av rfl bN) ?_;refine ea 1 (aj rfl eI jF rfl) ?_;refine dm ?_;obtain⟨U,D,h⟩:=aa h;refine db (aD (t:=aH) rfl mC gJ D) ?_;refine da (aJ 1 false rfl kN rfl) ?_;refine da (ak (t:=(.int .i64)) rfl bY rfl) ?_;refine db (g7 rfl) ?_;refine kW rfl rfl rfl (aL rfl) ⟨rfl,trivial⟩ (fun hb=>?_) (fun hb=>?_)
      ·replace h:=cG (H5 hb) h;iterate 12 refine dg ?_
       refine df cE ?_;refine au ?_;exact jz ((),true) h [0,1]
      ·replace h:=bO (vH hb) h;refine aU rfl rfl rfl rfl rfl (av rfl bN) ⟨rfl,rfl,trivial⟩ ?_;refine ky 0 rfl rfl rfl rfl rfl rfl (aj rfl eI jF rfl) ⟨rfl,rfl,trivial⟩ ?_;refine aU rfl rfl rfl rfl rfl (aL rfl) ⟨rfl,rfl,trivial⟩ ?_;obtain⟨O,y,h⟩:=aa h;refine aU rfl rfl rfl rfl rfl (aD (t:=aH) rfl mC gJ y) ⟨rfl,rfl,rfl,trivial⟩ ?_;refine aU rfl rfl rfl rfl rfl (aJ 1 false rfl km rfl) ⟨rfl,rfl,trivial⟩ ?_;refine aU rfl rfl rfl rfl rfl (ak (t:=(.slice (.int .i64))) rfl bC rfl) ⟨rfl,rfl,trivial⟩ ?_;refine aU rfl rfl rfl rfl rfl (av rfl bN) ⟨rfl,rfl,trivial⟩ ?_;refine ky 1 rfl rfl rfl rfl rfl rfl (aj rfl eI jF rfl) ⟨rfl,rfl,trivial⟩ ?_;refine aU rfl rfl rfl rfl rfl (aL rfl) ⟨rfl,rfl,trivial⟩ ?_;obtain⟨M,x,h⟩:=aa h;refine aU rfl rfl rfl rfl rfl (aD (t:=aH) rfl mC gJ x) ⟨rfl,rfl,rfl,trivial⟩ ?_;refine aU rfl rfl rfl rfl rfl (aJ 1 false rfl km rfl) ⟨rfl,rfl,trivial⟩ ?_;refine aU rfl rfl rfl rfl rfl (ak (t:=(.slice (.int .i64))) rfl bC rfl) ⟨rfl,rfl,trivial⟩ ?_;refine df cE ?_;obtain⟨l,F,h⟩:=aa h;refine gb (ap [.tmp 54,.tmp 60] rfl rfl IW rfl (io k O.2 M.2 l F)) ?_;refine ga (eJ rfl) ?_;refine au ?_;exact jz ((), !l) h [0,1]
     ·refine cv h (fun h=>?_) (fun h=>?_)
      ·refine au ?_;obtain rfl:=hR _ h;exact ra
      ·refine au ?_;refine ab (mq ?_);obtain⟨J,u,h⟩:=aa h;refine jb (aW rfl u) ?_;refine au ?_;exact jz ((),J) h [0,1]
    ·refine au ?_;exact jz ((),()) h []
   ·refine au ?_;cases h;exact ra
def dW(k:Nat)(a0:(List (List Int)))(a1:Int)(a2:Int)(y3:(List (List Int))×Int):Nat→((List Int)×Int)→Option (List Int)
 |0,_=>none
 |n+1,y9=>
  (aR a0 y3.2).bind fun s=>
  if y9.2 < (s.length:Int) then((((aR a0 y3.2).bind fun l=>
  (aR l y9.2).bind fun e=>
  if e=a1 then((dj (bq (List.length y9.1+List.length [a2]))).bind fun _=>
  some (y9.1++[a2])) else(if e=a2 then((dj (bq (List.length y9.1+List.length [a1]))).bind fun _=>
  some (y9.1++[a1])) else((aR a0 y3.2).bind fun j=>
  (aR j y9.2).bind fun c=>
  (dj (bq (List.length y9.1+List.length [c]))).bind fun _=>
  some (y9.1++[c])))):Option ((List Int))).bind fun r=>
  (ck (y9.2+1)).bind fun h=>
  dW k a0 a1 a2 y3 n (r,h)) else(some y9.1)
def gw(k:Nat)(a0:(List (List Int)))(a1:Int)(a2:Int):Nat→((List (List Int))×Int)→Option (List (List Int))
 |0,_=>none
 |n+1,y3=>
  if y3.2 < (a0.length:Int) then(((((dW k a0 a1 a2 y3 k (([]:(List Int)),0)):Option ((List Int))).bind fun x7=>
  (dj (bq (List.length y3.1+List.length [x7]))).bind fun _=>
  some (y3.1++[x7])):Option ((List (List Int)))).bind fun x5=>
  (ck (y3.2+1)).bind fun c=>
  gw k a0 a1 a2 n (x5,c)) else(some y3.1)
def k7(k:Nat)(a0:(List (List Int)))(a1:Int)(a2:Int):Option (List (List Int)):=
 ((gw k a0 a1 a2 k (([]:(List (List Int))),0)):Option ((List (List Int)))).bind fun x1=>
 some x1
theorem vj(k:Nat)(a0:(List (List Int)))(a1:Int)(a2:Int)(r:(List (List Int)))(h:k7 k a0 a1 a2=some r):
 bV Tryz.prog 64 [.rep (.slice (.slice (.int .i64))) a0,I a1,I a2] [] (fun _:Unit=>(bm [.rep (.slice (.slice (.int .i64))) r],[])):=by
 unfold k7 at h
 replace h:=aZ h
 refine bV.of 62 Tryz.func64 rfl Tryz.ntmps64 rfl fun S w0=>?_
 refine sr ?_
 refine cq ?_
 refine nt ?_
 refine sr ?_
 refine cq ?_
 refine nt ?_
 refine aM (Z:=Value) (α:=(List (List Int))) (fun z2 x1=>[(7,.eq z2)]) (fun z2 x1=>[.sl z2 22 (.slice (.int .i64)) x1]) h (fun K h=>?_) (fun z2 x1 h=>?_)
 ·
  refine au ?_;refine ai (dA (SE.nil 22 (.slice (.int .i64))) ?_);refine aK (fun z4 y3=>[(0,.rep (.slice (.slice (.int .i64))) a0),(1,I a1),(2,I a2),(7,.eq z4),(8,I y3.2)]) (fun z4 y3=>[.sl z4 22 (.slice (.int .i64)) y3.1]) (gw k a0 a1 a2) k (.slice none 0 0) (([]:(List (List Int))),0) (fun _=>rfl) h (SE.fin [0] ⟨rfl,rfl,rfl,rfl,rfl,trivial⟩ rfl) (fun n z4 y3 h=>?_);unfold gw at h;refine au ?_;refine ol lJ ?_;refine jb (bg rfl) ?_;refine nt (ci h (fun h=>?_) (fun h=>?_))
  ·refine sk (aM (Z:=Value) (α:=(List (List Int))) (fun z6 x5=>[(0,.rep (.slice (.slice (.int .i64))) a0),(1,I a1),(2,I a2),(7,.eq z6),(8,I y3.2)]) (fun z6 x5=>[.sl z6 22 (.slice (.int .i64)) x5]) h (fun K h=>?_) (fun z6 x5 h=>?_))
   ·refine ai (sr (cq (nt ?_)));refine aM (Z:=Value) (α:=(List Int)) (fun z8 x7=>[(0,.rep (.slice (.slice (.int .i64))) a0),(1,I a1),(2,I a2),(7,.eq z4),(8,I y3.2),(9,.eq z8)]) (fun z8 x7=>[.sl z4 22 (.slice (.int .i64)) y3.1,.sl z8 3 (.int .i64) x7]) h (fun K h=>?_) (fun z8 x7 h=>?_)
    ·refine au ?_;refine ai (dA (SE.nil 3 (.int .i64)) ?_);refine aK (fun e y9=>[(0,.rep (.slice (.slice (.int .i64))) a0),(1,I a1),(2,I a2),(7,.eq z4),(8,I y3.2),(9,.eq e),(10,I y9.2)]) (fun e y9=>[.sl z4 22 (.slice (.int .i64)) y3.1,.sl e 3 (.int .i64) y9.1]) (dW k a0 a1 a2 y3) k (.slice none 0 0) (([]:(List Int)),0) (fun _=>rfl) h (SE.fin [1,0] ⟨rfl,rfl,rfl,rfl,rfl,rfl,rfl,trivial⟩ rfl) (fun n e y9 h=>?_);unfold dW at h;refine au ?_;obtain⟨UV,F,h⟩:=aa h;refine jb (aD (t:=(.slice (.int .i64))) rfl lJ bC F) ?_;refine ja (ak (t:=(.slice (.int .i64))) rfl bC rfl) ?_;refine ol dB ?_;refine jb (bg rfl) ?_;refine nt (ci h (fun h=>?_) (fun h=>?_))
     ·refine sk (aM (Z:=Value) (α:=(List Int)) (fun c j=>[(0,.rep (.slice (.slice (.int .i64))) a0),(1,I a1),(2,I a2),(7,.eq z4),(8,I y3.2),(9,.eq c),(10,I y9.2)]) (fun c j=>[.sl z4 22 (.slice (.int .i64)) y3.1,.sl c 3 (.int .i64) j]) h (fun K h=>?_) (fun c j h=>?_))
      ·refine ai (au ?_);obtain⟨UU,E,h⟩:=aa h;refine jb (aD (t:=(.slice (.int .i64))) rfl lJ bC E) ?_;refine ja (ak (t:=(.slice (.int .i64))) rfl bC rfl) ?_;refine mq ?_;obtain⟨se,D,h⟩:=aa h;refine jb (aD (t:=(.int .i64)) rfl dB bY D) ?_;refine ja (ak (t:=(.int .i64)) rfl bY rfl) ?_;refine nt (ai (au ?_));refine jb (fq rfl) ?_;refine au ?_;refine ci h (fun h=>?_) (fun h=>?_)
       ·refine ab (au ?_);refine ja (be (t:=(.int .i64)) [(.tmp 47,_)] [a2] rfl rfl dp (.cons rfl .int .nil) rfl rfl) ?_;obtain⟨u16,Q,h⟩:=aa h;refine fr 1 ?_;refine cz rfl rfl rfl (bp rfl rfl dp (aB Q)) ⟨rfl,rfl,trivial⟩ fun pp=>?_;refine au ?_;exact jz (pp,y9.1++[a2]) h [1,0]
       ·refine au ?_;refine jb (fq rfl) ?_;refine au ?_;refine ci h (fun h=>?_) (fun h=>?_)
        ·refine ab (au ?_);refine ja (be (t:=(.int .i64)) [(.tmp 54,_)] [a1] rfl rfl dp (.cons rfl .int .nil) rfl rfl) ?_;obtain⟨UY,O,h⟩:=aa h;refine fr 1 ?_;refine cz rfl rfl rfl (bp rfl rfl dp (aB O)) ⟨rfl,rfl,trivial⟩ fun mc=>?_;refine au ?_;exact jz (mc,y9.1++[a1]) h [1,0]
        ·refine ab (au ?_);obtain⟨qt,y,h⟩:=aa h;refine jb (aD (t:=(.slice (.int .i64))) rfl lJ bC y) ?_;refine ja (ak (t:=(.slice (.int .i64))) rfl bC rfl) ?_;refine mq ?_;obtain⟨l,x,h⟩:=aa h;refine jb (aD (t:=(.int .i64)) rfl dB bY x) ?_;refine ja (ak (t:=(.int .i64)) rfl bY rfl) ?_;refine ja (be (t:=(.int .i64)) [(.tmp 40,_)] [l] rfl rfl dp (.cons rfl .int .nil) rfl rfl) ?_;obtain⟨UX,M,h⟩:=aa h;refine fr 1 ?_;refine cz rfl rfl rfl (bp rfl rfl dp (aB M)) ⟨rfl,rfl,trivial⟩ fun ac=>?_;refine au ?_;exact jz (ac,y9.1++[l]) h [1,0]
      ·refine ab (mq ?_);obtain⟨X,u,h⟩:=aa h;refine jb (aW rfl u) ?_;refine au ?_;exact jz (c,(j,X)) h [0,1]
     ·refine au ?_;exact jz (e,y9.1) h [0,1]
    ·refine ab ?_;iterate 2 refine mq ?_
     refine fr 1 ?_;refine ct (d5 [9,58] ⟨rfl,rfl,trivial⟩) ?_;refine ja (be (t:=(.slice (.int .i64))) [(.tmp 58,_)] [x7] rfl rfl nW (.cons rfl .rep .nil) rfl rfl) ?_;obtain⟨UW,J,h⟩:=aa h;refine cz rfl rfl rfl (bp rfl rfl nW (aB J)) ⟨rfl,rfl,trivial⟩ fun Y=>?_;refine au ?_;exact jz (Y,y3.1++[x7]) h [0]
   ·refine ab (mq ?_);obtain⟨U,s,h⟩:=aa h;refine jb (aW rfl s) ?_;refine au ?_;exact jz (z6,(x5,U)) h [0]
  ·refine au ?_;exact jz (z4,y3.1) h [0]
 ·
  refine sr (mq ?_);refine aq (nt (bH ?_));refine bz (d5 [6,7,61] ⟨rfl,rfl,rfl,trivial⟩) ?_;cases h;exact ra
def gX(k:Nat)(a0:aQ)(a1:(List (List Int)))(y6:Int×Int×Int×Int):Nat→(Int×Int×Int×Int)→Option (Int×Int×Int)
 |0,_=>none
 |n+1,c=>
  if c.2.2.2 < (a0.2.1.length:Int) then((((k7 k a1 y6.2.2.2 c.2.2.2).bind fun j=>
  (dr k a0 j).bind fun r=>
  if¬(r=0) then(some (c.1,c.2.1,c.2.2.1)) else((lO k a0 j 0).bind fun h=>
  if h < c.2.2.1 then(some (y6.2.2.2,c.2.2.2,h)) else(some (c.1,c.2.1,c.2.2.1)))):Option (Int×Int×Int)).bind fun e=>
  (ck (c.2.2.2+1)).bind fun l=>
  gX k a0 a1 y6 n (e.1,e.2.1,e.2.2,l)) else(some (c.1,c.2.1,c.2.2.1))
def gY(k:Nat)(a0:aQ)(a1:(List (List Int))):Nat→(Int×Int×Int×Int)→Option (Int×Int×Int)
 |0,_=>none
 |n+1,y6=>
  if y6.2.2.2 < (a0.2.1.length:Int) then((((ck (y6.2.2.2+1)).bind fun e=>
  gX k a0 a1 y6 k (y6.1,y6.2.1,y6.2.2.1,e)):Option (Int×Int×Int)).bind fun x8=>
  (ck (y6.2.2.2+1)).bind fun c=>
  gY k a0 a1 n (x8.1,x8.2.1,x8.2.2,c)) else(some (y6.1,y6.2.1,y6.2.2.1))
def nn(k:Nat)(a0:aQ)(a1:(List (List Int))):Option (Int×Int×Int×Int):=
 (dr k a0 a1).bind fun r2=>
 if¬(r2=0) then(some (0,0,0,r2)) else((lO k a0 a1 0).bind fun r3=>
 ((gY k a0 a1 k ((-1:Int),(-1:Int),r3,0)):Option (Int×Int×Int)).bind fun x4=>
 if x4.1 < 0 then(some (0,0,0,11)) else(some (x4.1,x4.2.1,x4.2.2,0)))
theorem zM(k:Nat)(a0:aQ)(a1:(List (List Int)))(r:Int×Int×Int×Int)(h:nn k a0 a1=some r):
 bV Tryz.prog 30 [.rep ao a0,.rep (.slice (.slice (.int .i64))) a1] [] (fun _:Unit=>(bm [I r.1,I r.2.1,I r.2.2.1,I r.2.2.2],[])):=by
 unfold nn at h
 replace h:=aZ h
 refine bV.of 63 Tryz.func30 rfl Tryz.ntmps30 rfl fun S w0=>?_
 refine sr ?_
 refine bx fun b1=>?_
 refine au ?_
 refine lo cU ?_
 refine mq ?_
 obtain⟨r2,Y,h⟩:=aa h
 have ac:=lA k a0 a1 r2 Y
 refine jb (ap [.tmp 16,.tmp 17] rfl rfl QW rfl ac) ?_
 refine au ?_
 refine jb (g7 rfl) ?_
 refine nt ?_
 refine cn h (fun h=>?_) (fun h=>?_)
 ·
  refine au ?_;cases h;exact aO () [_,_,_,_] 0 ⟨rfl,rfl,rfl,rfl,trivial⟩ rfl
 ·
  refine au ?_;refine lo cU ?_;refine mq ?_;obtain⟨r3,X,h⟩:=aa h;refine jc (ap [.tmp 22,.tmp 23,.const (.int .i64 (0))] rfl rfl QT rfl (rO k a0 a1 0 r3 X)) ?_;refine cq ?_;refine cq ?_;refine aq (nt ?_);refine aM (Z:=Unit) (α:=Int×Int×Int) (fun z5 x4=>[(9,I x4.1),(10,I x4.2.1),(11,I x4.2.2)]) (fun z5 x4=>[]) h (fun K h=>?_) (fun z5 x4 h=>?_)
  ·refine au ?_;refine ai (aK (fun z7 y6=>[(1,.rep (.slice (.slice (.int .i64))) a1),(2,Pt b1),(9,I y6.1),(10,I y6.2.1),(11,I y6.2.2.1),(12,I y6.2.2.2)]) (fun z7 y6=>[.obj b1 27 (.rep ao a0)]) (gY k a0 a1) k () ((-1:Int),(-1:Int),r3,0) (fun _=>rfl) h (SE.fin [0] ⟨rfl,rfl,rfl,rfl,rfl,rfl,trivial⟩ rfl) (fun n z7 y6 h=>?_));unfold gY at h;refine au ?_;refine fl bN ?_;refine lo eI ?_;refine ol mC ?_;refine jb (bg rfl) ?_;refine nt (ci h (fun h=>?_) (fun h=>?_))
   ·refine sk (aM (Z:=Unit) (α:=Int×Int×Int) (fun z9 x8=>[(1,.rep (.slice (.slice (.int .i64))) a1),(2,Pt b1),(9,I x8.1),(10,I x8.2.1),(11,I x8.2.2),(12,I y6.2.2.2)]) (fun z9 x8=>[.obj b1 27 (.rep ao a0)]) h (fun K h=>?_) (fun z9 x8 h=>?_))
    ·refine ai (au ?_);obtain⟨Q,D,h⟩:=aa h;refine jb (aW rfl D) ?_;refine au ?_;refine ai (aK (fun s c=>[(1,.rep (.slice (.slice (.int .i64))) a1),(2,Pt b1),(9,I c.1),(10,I c.2.1),(11,I c.2.2.1),(12,I y6.2.2.2),(13,I c.2.2.2)]) (fun s c=>[.obj b1 27 (.rep ao a0)]) (gX k a0 a1 y6) k () (y6.1,y6.2.1,y6.2.2.1,Q) (fun _=>rfl) h (SE.fin [0] ⟨rfl,rfl,rfl,rfl,rfl,rfl,rfl,trivial⟩ rfl) (fun n s c h=>?_));unfold gX at h;refine au ?_;refine fl bN ?_;refine lo eI ?_;refine ol mC ?_;refine jb (bg rfl) ?_;refine nt (ci h (fun h=>?_) (fun h=>?_))
     ·refine sk (aM (Z:=Unit) (α:=Int×Int×Int) (fun l e=>[(1,.rep (.slice (.slice (.int .i64))) a1),(2,Pt b1),(9,I e.1),(10,I e.2.1),(11,I e.2.2),(12,I y6.2.2.2),(13,I c.2.2.2)]) (fun l e=>[.obj b1 27 (.rep ao a0)]) h (fun K h=>?_) (fun l e h=>?_))
      ·refine ai (au ?_);obtain⟨j,J,h⟩:=aa h;refine jc (ap [.tmp 41,.tmp 42,.tmp 43] rfl rfl TP rfl (vj k a1 y6.2.2.2 c.2.2.2 j J)) ?_;refine au ?_;refine lo cU ?_;refine mq ?_;obtain⟨U,F,h⟩:=aa h;refine jb (ap [.tmp 45,.tmp 46] rfl rfl QW rfl (lA k a0 j U F)) ?_;refine jb (g7 rfl) ?_;refine nt (cn h (fun h=>?_) (fun h=>?_))
       ·refine au ?_;exact jz ((),(c.1,c.2.1,c.2.2.1)) h [0]
       ·refine au ?_;refine lo cU ?_;refine mq ?_;obtain⟨u,E,h⟩:=aa h;refine jc (ap [.tmp 49,.tmp 50,.const (.int .i64 (0))] rfl rfl QT rfl (rO k a0 j 0 u E)) ?_;refine au ?_;refine jb (bg rfl) ?_;refine nt (ci h (fun h=>?_) (fun h=>?_))
        ·refine ab (au ?_);exact jz ((),(y6.2.2.2,c.2.2.2,u)) h [0]
        ·refine au ?_;exact jz ((),(c.1,c.2.1,c.2.2.1)) h [0]
      ·refine ab (mq ?_);obtain⟨O,y,h⟩:=aa h;refine jb (aW rfl y) ?_;refine au ?_;exact jz ((),(e.1,e.2.1,e.2.2,O)) h [0]
     ·refine au ?_;exact jz ((),(c.1,c.2.1,c.2.2.1)) h [0]
    ·refine ab (mq ?_);obtain⟨M,x,h⟩:=aa h;refine jb (aW rfl x) ?_;refine au ?_;exact jz ((),(x8.1,x8.2.1,x8.2.2,M)) h [0]
   ·refine au ?_;exact jz ((),(y6.1,y6.2.1,y6.2.2.1)) h []
  ·refine au ?_;refine jb (bg rfl) ?_;refine nt (ci h (fun h=>?_) (fun h=>?_))
   ·refine au ?_;cases h;exact aO () [_,_,_,_] 0 ⟨rfl,rfl,rfl,rfl,trivial⟩ rfl
   ·refine au ?_;cases h;exact aO () [_,_,_,_] 0 ⟨rfl,rfl,rfl,rfl,trivial⟩ rfl
end Go.Proofs.YtmeojbemjkmebaaGreatDoor
