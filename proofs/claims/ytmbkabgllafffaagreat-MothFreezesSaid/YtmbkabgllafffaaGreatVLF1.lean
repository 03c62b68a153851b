import Derived.Test.YtmbkabgllafffaaGreatVLFacts
open Nat
open List hiding mem_of_getElem?
open Array hiding mem_of_getElem? mk
set_option linter.unusedSimpArgs false
set_option linter.unusedVariables false
set_option maxRecDepth 4000
set_option maxHeartbeats 1000000
namespace Go.Proofs.YtmbkabgllafffaaGreat
open K Go Go.Proofs
def nk(k:Nat)(a0:(List Int)):Option bV:=
 some (a0,0,1)
theorem wB(k:Nat)(a0:(List Int))(r:bV)(h:nk k a0=some r):
 c6 Tryz.prog 6 [.rep Tl a0] [] (λz:Nat=>(bA [Pt z],[.obj z 60 (.agg (.pair (.rep Tl r.1) (.pair (I r.2.1) (.eq (.int .u64 r.2.2)))))])):=by
 unfold nk at h
 replace h:=bb h
 refine c6.of 6 Tryz.func6 rfl Tryz.ntmps6 rfl λS w0=>?_
 refine sr ?_
 refine cq ?_
 refine nt ?_
 refine sr ?_
 refine mq ?_
 refine jb (eU [(0,.tmp 3,_),(2,.const (.int .u64 (1)),_)] rfl Vi U8 Uy (kR ⟨rfl,rfl,trivial⟩) rfl) ?_
 refine aW rfl rfl rfl (yp rfl trivial) ⟨rfl,trivial⟩ λb1=>?_
 refine aq ?_
 refine nt ?_
 refine aD ?_
 cases h
 exact aS b1 [Pt b1] 1 ⟨rfl,trivial⟩ rfl
def jh(k:Nat)(a0:bV):Option (Int×bV):=
 ((if a0.2.1 < (a0.1.length:Int) then((aG a0.1 a0.2.1).bind λx3=>
 some (IntKind.u64.wrap ((IntKind.u64.wrap ((IntKind.u64.wrap (a0.2.2 * 6364136223846793005))+1442695040888963407))+(IntKind.u64.wrap ((IntKind.u64.wrap x3) * 2862933555777941757))))) else(some (IntKind.u64.wrap ((IntKind.u64.wrap (a0.2.2 * 6364136223846793005))+1442695040888963407)))):Option (Int)).bind λx1=>
 (ck (a0.2.1+1)).bind λx4=>
 some (jk .u64 (ug .u64 (IntKind.u64.wrap ((ug .u64 x1 (jk .u64 x1 29)) * 2685821657736338717)) (jk .u64 (IntKind.u64.wrap ((ug .u64 x1 (jk .u64 x1 29)) * 2685821657736338717)) 32)) 8,(a0.1,x4,x1))
theorem ud(k:Nat)(a0:bV)(c:Nat)(r:Int×bV)(h:jh k a0=some r):
 c6 Tryz.prog 34 [Pt c] [.obj c 60 (.agg (.pair (.rep Tl a0.1) (.pair (I a0.2.1) (.eq (.int .u64 a0.2.2)))))] (λ_:Unit=>(bA [.eq (.int .u64 r.1)],[.obj c 60 (.agg (.pair (.rep Tl r.2.1) (.pair (I r.2.2.1) (.eq (.int .u64 r.2.2.2)))))])):=by
 unfold jh at h
 replace h:=bb h
 refine c6.of 67 Tryz.func34 rfl Tryz.ntmps34 rfl λS w0=>?_
 refine sr ?_
 refine cq ?_
 refine nt ?_
 refine sr ?_
 iterate 2 refine mq ?_
 refine ja (c7 rfl) ?_
 refine fl uj ?_
 refine lo GF ?_
 refine jb (D2 rfl) ?_
 refine jb (Ja rfl) ?_
 refine ja (c7 rfl) ?_
 refine fl uj ?_
 refine aO rfl rfl (aK rfl GF rfl rfl rfl) ⟨rfl,rfl,trivial⟩ ?_
 refine nt ?_
 refine aE (Z:=Unit) (α:=Int) (λz2 x1=>[(0,Pt c)]) (λz2 x1=>[.obj c 60 (.agg (.pair (.rep Tl a0.1) (.pair (I a0.2.1) (.eq (.int .u64 x1)))))]) h (λK h=>?_) (λz2 x1 h=>?_)
 .
  refine ai (bB ?_);refine dm ?_;refine da (c7 rfl) ?_;refine da (au rfl zM) ?_;refine ea 0 (ao rfl bR jI rfl) ?_;refine dm ?_;refine da (c7 rfl) ?_;refine da (au rfl J2) ?_;refine ea 0 (ao rfl dO jI rfl) ?_;refine da (pi rfl rfl gi) ?_;refine df cY ?_;refine jb (bh rfl) ?_;refine nt (ci h (λh=>?_) (λh=>?_))
  .refine bB ?_;refine dm ?_;refine dm ?_;refine da (c7 rfl) ?_;refine da (au rfl uj) ?_;refine ea 0 (ao rfl GF jI rfl) ?_;refine dm ?_;refine da (c7 rfl) ?_;refine da (au rfl J2) ?_;refine ea 0 (ao rfl dO jI rfl) ?_;refine dm ?_;refine da (c7 rfl) ?_;refine da (au rfl zM) ?_;refine ea 0 (ao rfl bR jI rfl) ?_;obtain⟨x3,j,h⟩:=aa h;refine db (aA (t:=Ti) rfl gi bR j) ?_;refine da (am (t:=Ti) rfl bR rfl) ?_;refine da (tR rfl U3 UX) ?_;refine db (D2 rfl) ?_;refine db (Ja rfl) ?_;refine df cY ?_;refine ja (c7 rfl) ?_;refine fl uj ?_;refine aO rfl rfl (aK rfl GF rfl rfl rfl) ⟨rfl,rfl,trivial⟩ ?_;refine nl ?_;exact jz ((),IntKind.u64.wrap ((IntKind.u64.wrap ((IntKind.u64.wrap (a0.2.2 * 6364136223846793005))+1442695040888963407))+(IntKind.u64.wrap ((IntKind.u64.wrap x3) * 2862933555777941757)))) h [0]
  .refine bg (ax ?_);exact jz ((),IntKind.u64.wrap ((IntKind.u64.wrap (a0.2.2 * 6364136223846793005))+1442695040888963407)) h [0]
 .
  refine sr (mq ?_);refine ja (c7 rfl) ?_;refine fl zM ?_;refine lo bR ?_;obtain⟨x4,e,h⟩:=aa h;refine jb (aU rfl e) ?_;refine ja (c7 rfl) ?_;refine fl zM ?_;refine aO rfl rfl (aK rfl bR rfl rfl rfl) ⟨rfl,rfl,trivial⟩ ?_;refine nt (ai (bB ?_));refine dm ?_;refine da (c7 rfl) ?_;refine da (au rfl uj) ?_;refine ea 0 (ao rfl GF jI rfl) ?_;refine dm ?_;refine da (c7 rfl) ?_;refine da (au rfl uj) ?_;refine ea 0 (ao rfl GF jI rfl) ?_;refine gk rfl rfl rfl (wb rfl (by decide)) ⟨rfl,rfl,trivial⟩ ?_;refine df cY ?_;refine jb (O9 rfl) ?_;refine aq (nt (sr ?_));refine mq ?_;refine jb (D2 rfl) ?_;refine aq (nt (sr ?_));iterate 2 refine mq ?_
  refine cG rfl (wb rfl (by decide)) ⟨rfl,rfl,trivial⟩ ?_;refine jb (O9 rfl) ?_;refine cG rfl (wb rfl (by decide)) ⟨rfl,rfl,trivial⟩ ?_;refine aq (nt (aD ?_));cases h;exact aS () [_] 1 ⟨rfl,trivial⟩ rfl
def cy(k:Nat)(a0:bV)(a1:Int):Option (Int×bV):=
 if a1 < 1 then(some (0,(a0.1,a0.2.1,a0.2.2))) else((jh k (a0.1,a0.2.1,a0.2.2)).bind λr1=>
 (ck (a1+1)).bind λx2=>
 (bU ((IntKind.u64.wrap x2)≠0)).bind λ_=>
 (ck (Int.tmod r1.1 (IntKind.u64.wrap x2))).bind λx4=>
 some (x4,(r1.2.1,r1.2.2.1,r1.2.2.2)))
theorem cI(k:Nat)(a0:bV)(c:Nat)(a1:Int)(r:Int×bV)(h:cy k a0 a1=some r):
 c6 Tryz.prog 9 [Pt c,I a1] [.obj c 60 (.agg (.pair (.rep Tl a0.1) (.pair (I a0.2.1) (.eq (.int .u64 a0.2.2)))))] (λ_:Unit=>(bA [I r.1],[.obj c 60 (.agg (.pair (.rep Tl r.2.1) (.pair (I r.2.2.1) (.eq (.int .u64 r.2.2.2)))))])):=by
 unfold cy at h
 replace h:=bb h
 refine c6.of 14 Tryz.func9 rfl Tryz.ntmps9 rfl λS w0=>?_
 refine sr ?_
 refine cq ?_
 refine nt ?_
 refine ai ?_
 refine sr ?_
 refine mq ?_
 refine jb (bh rfl) ?_
 refine nt ?_
 refine ci h (λh=>?_) (λh=>?_)
 .
  refine sr (cq (nt (rx ?_)));cases h;exact aS () [_] 1 ⟨rfl,trivial⟩ rfl
 .
  refine sk (sr (mq ?_));obtain⟨r1,n,h⟩:=aa h;refine ka (av [.tmp 7] rfl rfl Wi rfl (ud k (a0.1,a0.2.1,a0.2.2) c r1 n)) ?_;refine mq ?_;obtain⟨x2,j,h⟩:=aa h;refine jb (aU rfl j) ?_;refine ja (tR rfl U3 UX) ?_;obtain⟨u3,l,h⟩:=aa h;refine jb (SR rfl (ap l)) ?_;obtain⟨x4,e,h⟩:=aa h;refine ja (Bi rfl UX U3 e) ?_;refine aq (nt (aD ?_));cases h;exact aS () [_] 1 ⟨rfl,trivial⟩ rfl
def j6(k:Nat)(a0:(List Int)):Option (List Int):=
 (bU (aR (length ([]:(List Int))+length a0))).bind λ_=>
 some (([]:(List Int))++a0)
theorem u7(k:Nat)(a0:(List Int))(r:(List Int))(h:j6 k a0=some r):
 c6 Tryz.prog 83 [.rep Tl a0] [] (λz:Value=>(bA [.eq z],[.sl z 3 Ti r])):=by
 unfold j6 at h
 replace h:=bb h
 refine c6.of 6 Tryz.func83 rfl Tryz.ntmps83 rfl λS w0=>?_
 refine sr ?_
 refine cq ?_
 refine nt ?_
 refine sr ?_
 refine aW rfl rfl rfl (gR (t:=Ti) [] ([]:(List Int)) rfl rfl cZ .nil rfl rfl) trivial λv1=>?_
 refine mq ?_
 obtain⟨u2,c,h⟩:=aa h
 refine cC rfl rfl rfl (bf rfl rfl cZ (ap c)) ⟨rfl,rfl,trivial⟩ λv3=>?_
 refine aq ?_
 refine nt ?_
 refine aD ?_
 cases h
 exact aS v3 [.eq v3] 1 ⟨rfl,trivial⟩ rfl
def eg(k:Nat)(a0:(List (List Int))):Nat->((List (List Int))×Int)->Option (List (List Int))
 |0,_=>none
 |n+1,y3=>
  if y3.2 < (a0.length:Int) then((aG a0 y3.2).bind λx5=>
  (j6 k x5).bind λr6=>
  (bU (aR (length y3.1+length [r6]))).bind λ_=>
  (ck (y3.2+1)).bind λc=>
  eg k a0 n (y3.1++[r6],c)) else(some y3.1)
def il(k:Nat)(a0:(List (List Int))):Option (List (List Int)):=
 ((eg k a0 k (([]:(List (List Int))),0)):Option ((List (List Int)))).bind λx1=>
 some x1
theorem om(k:Nat)(a0:(List (List Int)))(r:(List (List Int)))(h:il k a0=some r):
 c6 Tryz.prog 49 [.rep (.slice Tl) a0] [] (λz:Value=>(bA [.eq z],[.sl z 22 Tl r])):=by
 unfold il at h
 replace h:=bb h
 refine c6.of 20 Tryz.func49 rfl Tryz.ntmps49 rfl λS w0=>?_
 refine sr ?_
 refine cq ?_
 refine nt ?_
 refine sr ?_
 refine cq ?_
 refine nt ?_
 refine aE (Z:=Value) (α:=(List (List Int))) (λz2 x1=>[(3,.eq z2)]) (λz2 x1=>[.sl z2 22 Tl x1]) h (λK h=>?_) (λz2 x1 h=>?_)
 .
  refine sr (cq (nt (ah ?_)));refine fS (SE.nil 22 Tl) ?_;refine aC (λz4 y3=>[(0,.rep (.slice Tl) a0),(3,.eq z4),(4,I y3.2)]) (λz4 y3=>[.sl z4 22 Tl y3.1]) (eg k a0) k (.slice none 0 0) (([]:(List (List Int))),0) (λ_=>rfl) h (SE.fin [0] ⟨rfl,rfl,rfl,trivial⟩ rfl) (λn z4 y3 h=>?_);unfold eg at h;refine ai (sr ?_);iterate 2 refine mq ?_
  refine ol lF ?_;refine jb (bh rfl) ?_;refine nt (ci h (λh=>?_) (λh=>?_))
  .refine sk (ai (ah (ae ?_)));iterate 3 refine mq ?_
   obtain⟨x5,j,h⟩:=aa h;refine jb (aA (t:=Tl) rfl lF dO j) ?_;refine ja (am (t:=Tl) rfl dO rfl) ?_;obtain⟨r6,s,h⟩:=aa h;refine aW rfl rfl rfl (av [.tmp 15] rfl rfl VT rfl (u7 k x5 r6 s)) ⟨rfl,trivial⟩ λv7=>?_;refine d4 (fu [16] ⟨rfl,trivial⟩) ?_;refine ja (aP (t:=Tl) [(.tmp 16,_)] [r6] rfl rfl kj (.cons rfl .rep .nil) rfl rfl) ?_;obtain⟨u8,l,h⟩:=aa h;refine cC rfl rfl rfl (bf rfl rfl kj (ap l)) ⟨rfl,rfl,trivial⟩ λv9=>?_;refine aq (aH (aJ (tn (ae ?_))));refine mq ?_;obtain⟨e,c,h⟩:=aa h;refine jb (aU rfl c) ?_;refine aq (nl ?_);exact jz (v9,(y3.1++[r6],e)) h [0]
  .refine xa ?_;exact jz (z4,y3.1) h [0]
 .
  refine sr (mq ?_);refine aq (nt (aD ?_));cases h;exact aS z2 [.eq z2] 1 ⟨rfl,trivial⟩ rfl
def gA(k:Nat)(a0:bV)(a1:Int)(a2:Int):Option (Int×bV):=
 (ck (a2 - a1)).bind λx1=>
 (cy k (a0.1,a0.2.1,a0.2.2) x1).bind λr2=>
 (ck (a1+r2.1)).bind λx3=>
 some (x3,(r2.2.1,r2.2.2.1,r2.2.2.2))
theorem jZ(k:Nat)(a0:bV)(c:Nat)(a1:Int)(a2:Int)(r:Int×bV)(h:gA k a0 a1 a2=some r):
 c6 Tryz.prog 57 [Pt c,I a1,I a2] [.obj c 60 (.agg (.pair (.rep Tl a0.1) (.pair (I a0.2.1) (.eq (.int .u64 a0.2.2)))))] (λ_:Unit=>(bA [I r.1],[.obj c 60 (.agg (.pair (.rep Tl r.2.1) (.pair (I r.2.2.1) (.eq (.int .u64 r.2.2.2)))))])):=by
 unfold gA at h
 replace h:=bb h
 refine c6.of 14 Tryz.func57 rfl Tryz.ntmps57 rfl λS w0=>?_
 refine sr ?_
 refine cq ?_
 refine nt ?_
 refine sr ?_
 iterate 4 refine mq ?_
 obtain⟨x1,j,h⟩:=aa h
 refine jb (eJ rfl j) ?_
 obtain⟨r2,l,h⟩:=aa h
 have n:=cI k (a0.1,a0.2.1,a0.2.2) c x1 r2 l
 refine kb (av [.tmp 8,.tmp 11] rfl rfl J7 rfl n) ?_
 obtain⟨x3,e,h⟩:=aa h
 refine jb (aU rfl e) ?_
 refine aq ?_
 refine nt ?_
 refine aD ?_
 cases h
 exact aS () [_] 1 ⟨rfl,trivial⟩ rfl
def iK(k:Nat)(a0:bV)(a1:(List Int)):Option (Int×bV):=
 (ck ((a1.length:Int) - 1)).bind λx1=>
 (cy k (a0.1,a0.2.1,a0.2.2) x1).bind λr2=>
 (aG a1 r2.1).bind λx3=>
 some (x3,(r2.2.1,r2.2.2.1,r2.2.2.2))
theorem mJ(k:Nat)(a0:bV)(c:Nat)(a1:(List Int))(r:Int×bV)(h:iK k a0 a1=some r):
 c6 Tryz.prog 58 [Pt c,.rep Tl a1] [.obj c 60 (.agg (.pair (.rep Tl a0.1) (.pair (I a0.2.1) (.eq (.int .u64 a0.2.2)))))] (λ_:Unit=>(bA [I r.1],[.obj c 60 (.agg (.pair (.rep Tl r.2.1) (.pair (I r.2.2.1) (.eq (.int .u64 r.2.2.2)))))])):=by
 unfold iK at h
 replace h:=bb h
 refine c6.of 13 Tryz.func58 rfl Tryz.ntmps58 rfl λS w0=>?_
 refine sr ?_
 refine cq ?_
 refine nt ?_
 refine sr ?_
 iterate 3 refine mq ?_
 refine ol gi ?_
 obtain⟨x1,j,h⟩:=aa h
 refine jb (eJ rfl j) ?_
 obtain⟨r2,l,h⟩:=aa h
 have n:=cI k (a0.1,a0.2.1,a0.2.2) c x1 r2 l
 refine kb (av [.tmp 6,.tmp 9] rfl rfl J7 rfl n) ?_
 obtain⟨x3,e,h⟩:=aa h
 refine jb (aA (t:=Ti) rfl gi bR e) ?_
 refine ja (am (t:=Ti) rfl bR rfl) ?_
 refine aq ?_
 refine nt ?_
 refine aD ?_
 cases h
 exact aS () [_] 1 ⟨rfl,trivial⟩ rfl
def fW(k:Nat)(a0:bV)(a1:Int):Option (Bool×bV):=
 (ck (a1 - 1)).bind λx1=>
 (cy k (a0.1,a0.2.1,a0.2.2) x1).bind λr2=>
 some (decide (r2.1=0),(r2.2.1,r2.2.2.1,r2.2.2.2))
theorem kD(k:Nat)(a0:bV)(c:Nat)(a1:Int)(r:Bool×bV)(h:fW k a0 a1=some r):
 c6 Tryz.prog 59 [Pt c,I a1] [.obj c 60 (.agg (.pair (.rep Tl a0.1) (.pair (I a0.2.1) (.eq (.int .u64 a0.2.2)))))] (λ_:Unit=>(bA [.eq (.bool r.1)],[.obj c 60 (.agg (.pair (.rep Tl r.2.1) (.pair (I r.2.2.1) (.eq (.int .u64 r.2.2.2)))))])):=by
 unfold fW at h
 replace h:=bb h
 refine c6.of 10 Tryz.func59 rfl Tryz.ntmps59 rfl λS w0=>?_
 refine sr ?_
 refine cq ?_
 refine nt ?_
 refine sr ?_
 iterate 2 refine mq ?_
 obtain⟨x1,e,h⟩:=aa h
 refine jb (eJ rfl e) ?_
 obtain⟨r2,j,h⟩:=aa h
 have l:=cI k (a0.1,a0.2.1,a0.2.2) c x1 r2 j
 refine kb (av [.tmp 5,.tmp 7] rfl rfl J7 rfl l) ?_
 refine jb (jF rfl) ?_
 refine aq ?_
 refine nt ?_
 refine aD ?_
 cases h
 exact aS () [_] 1 ⟨rfl,trivial⟩ rfl
def eO(k:Nat)(a1:Int):Nat->((List Int)×Int×Int×(List Int)×Int)->Option ((List Int)×(List Int)×Int×Int)
 |0,_=>none
 |n+1,y3=>
  if y3.2.2.2.2 < a1 then((cy k (y3.1,y3.2.1,y3.2.2.1) y3.2.2.2.2).bind λr5=>
  (bU (aR (length y3.2.2.2.1+length [y3.2.2.2.2]))).bind λ_=>
  (aG (y3.2.2.2.1++[y3.2.2.2.2]) r5.1).bind λx8=>
  (aG (y3.2.2.2.1++[y3.2.2.2.2]) y3.2.2.2.2).bind λx9=>
  (aG (List.set (y3.2.2.2.1++[y3.2.2.2.2]) (Int.toNat y3.2.2.2.2) x8) r5.1).bind λe=>
  (ck (y3.2.2.2.2+1)).bind λc=>
  eO k a1 n (r5.2.1,r5.2.2.1,r5.2.2.2,List.set (List.set (y3.2.2.2.1++[y3.2.2.2.2]) (Int.toNat y3.2.2.2.2) x8) (Int.toNat r5.1) y3.2.2.2.2,c)) else(some (y3.2.2.2.1,y3.1,y3.2.1,y3.2.2.1))
def iL(k:Nat)(a0:bV)(a1:Int):Option ((List Int)×bV):=
 ((eO k a1 k (a0.1,a0.2.1,a0.2.2,([]:(List Int)),0)):Option ((List Int)×(List Int)×Int×Int)).bind λx1=>
 some (x1.1,(x1.2.1,x1.2.2.1,x1.2.2.2))
theorem tc(k:Nat)(a0:bV)(c:Nat)(a1:Int)(r:(List Int)×bV)(h:iL k a0 a1=some r):
 c6 Tryz.prog 87 [Pt c,I a1] [.obj c 60 (.agg (.pair (.rep Tl a0.1) (.pair (I a0.2.1) (.eq (.int .u64 a0.2.2)))))] (λ_:Unit=>(bA [.rep Tl r.1],[.obj c 60 (.agg (.pair (.rep Tl r.2.1) (.pair (I r.2.2.1) (.eq (.int .u64 r.2.2.2)))))])):=by
 unfold iL at h
 replace h:=bb h
 refine c6.of 32 Tryz.func87 rfl Tryz.ntmps87 rfl λS w0=>?_
 refine sr ?_
 refine cq ?_
 refine nt ?_
 refine sr ?_
 refine cq ?_
 refine nt ?_
 refine aE (Z:=Value) (α:=(List Int)×(List Int)×Int×Int) (λz2 x1=>[(5,.eq z2)]) (λz2 x1=>[.sl z2 3 Ti x1.1,.obj c 60 (.agg (.pair (.rep Tl x1.2.1) (.pair (I x1.2.2.1) (.eq (.int .u64 x1.2.2.2)))))]) h (λK h=>?_) (λz2 x1 h=>?_)
 .
  refine sr (cq (nt (ah ?_)));refine fS (SE.nil 3 Ti) ?_;refine aC (λz4 y3=>[(0,Pt c),(1,I a1),(5,.eq z4),(6,I y3.2.2.2.2)]) (λz4 y3=>[.obj c 60 (.agg (.pair (.rep Tl y3.1) (.pair (I y3.2.1) (.eq (.int .u64 y3.2.2.1))))),.sl z4 3 Ti y3.2.2.2.1]) (eO k a1) k (.slice none 0 0) (a0.1,a0.2.1,a0.2.2,([]:(List Int)),0) (λ_=>rfl) h (SE.fin [1,0] ⟨rfl,rfl,rfl,rfl,trivial⟩ rfl) (λn z4 y3 h=>?_);unfold eO at h;refine ai (sr ?_);iterate 2 refine mq ?_
  refine jb (bh rfl) ?_;refine nt (ci h (λh=>?_) (λh=>?_))
  .refine sk (ai (ah (sr ?_)));iterate 2 refine mq ?_
   obtain⟨r5,y,h⟩:=aa h;refine kb (av [.tmp 13,.tmp 14] rfl rfl J7 rfl (cI k (y3.1,y3.2.1,y3.2.2.1) c y3.2.2.2.2 r5 y)) ?_;refine aq (nt (sr ?_));iterate 2 refine mq ?_
   refine ja (aP (t:=Ti) [(.tmp 17,_)] [y3.2.2.2.2] rfl rfl cZ (.cons rfl .int .nil) rfl rfl) ?_;obtain⟨u6,x,h⟩:=aa h;refine fr 1 ?_;refine cC rfl rfl rfl (bf rfl rfl cZ (ap x)) ⟨rfl,rfl,trivial⟩ λv7=>?_;refine aq (nt (ae ?_));iterate 6 refine mq ?_
   obtain⟨x8,l,h⟩:=aa h;refine kb (cQ (t:=Ti) rfl gi bR l) ?_;refine ka (ij (i:=Int.toNat r5.1) (off:=0) rfl bR (λ_=>rfl) rfl (dR l).2.2 rfl) ?_;refine mq ?_;obtain⟨x9,j,h⟩:=aa h;refine kb (cQ (t:=Ti) rfl gi bR j) ?_;refine aO rfl rfl (iD (i:=Int.toNat y3.2.2.2.2) rfl bR rfl (oZ j) rfl .int rfl) ⟨rfl,rfl,trivial⟩ ?_;obtain⟨D,e,h⟩:=aa h;refine kb (cQ (t:=Ti) rfl gi bR e) ?_;refine aO rfl rfl (iD (i:=Int.toNat r5.1) rfl bR rfl (oZ e) rfl .int rfl) ⟨rfl,rfl,trivial⟩ ?_;refine aH (aJ (tn (ae (mq ?_))));obtain⟨u,s,h⟩:=aa h;refine jb (aU rfl s) ?_;refine aq (nl ?_);exact jz (v7,(r5.2.1,r5.2.2.1,r5.2.2.2,List.set (List.set (y3.2.2.2.1++[y3.2.2.2.2]) (Int.toNat y3.2.2.2.2) x8) (Int.toNat r5.1) y3.2.2.2.2,u)) h [1,0]
  .refine xa ?_;exact jz (z4,(y3.2.2.2.1,y3.1,y3.2.1,y3.2.2.1)) h [1,0]
 .
  refine sr (mq ?_);refine aq (nt (aD ?_));refine bD (fu [4,5,31] ⟨rfl,rfl,rfl,trivial⟩) ?_;cases h;exact aS () [_] 1 ⟨rfl,trivial⟩ rfl
def ec(k:Nat)(a0:Int)(a1:Int)(a2:Int):Option Bool:=
 ((if a1≤a0 then(some (decide (a0≤a2))) else(some false)):Option (Bool)).bind λx1=>
 some x1
theorem eE(k:Nat)(a0:Int)(a1:Int)(a2:Int)(r:Bool)(h:ec k a0 a1 a2=some r):
 c6 Tryz.prog 64 [I a0,I a1,I a2] [] (λ_:Unit=>(bA [.eq (.bool r)],[])):=by
 unfold ec at h
 replace h:=bb h
 refine c6.of 15 Tryz.func64 rfl Tryz.ntmps64 rfl λS w0=>?_
 refine sr ?_
 refine cq ?_
 refine nt ?_
 refine aE (Z:=Unit) (α:=Bool) (λz2 x1=>[(6,.eq (.bool x1))]) (λz2 x1=>[]) h (λK h=>?_) (λz2 x1 h=>?_)
 .
  refine ae ?_;iterate 2 refine mq ?_
  refine jb (yo rfl) ?_;refine mq ?_;refine bX (s:=10) rfl (λhb=>?_) (λhb=>?_)
  .replace h:=eh (va hb) h;refine gm ?_;refine gm ?_;refine gb (yo rfl) ?_;refine pt ?_;refine aq (nl ?_);exact jz ((),decide (a0≤a2)) h []
  .replace h:=cK (vb hb) h;iterate 3 refine gn ?_
   refine pf ?_;refine aq (nl ?_);exact jz ((),false) h []
 .
  refine aD ?_;cases h;exact ra
def gU(k:Nat)(a0:Int)(a1:Int):Option Int:=
 (bU (0≤a1)).bind λ_=>
 some (Fj .u8 a0 (qh .u8 1 a1))
theorem lB(k:Nat)(a0:Int)(a1:Int)(r:Int)(h:gU k a0 a1=some r):
 c6 Tryz.prog 65 [.eq (.int .u8 a0),I a1] [] (λ_:Unit=>(bA [.eq (.int .u8 r)],[])):=by
 unfold gU at h
 replace h:=bb h
 refine c6.of 9 Tryz.func65 rfl Tryz.ntmps65 rfl λS w0=>?_
 refine sr ?_
 refine cq ?_
 refine nt ?_
 refine sr ?_
 iterate 2 refine mq ?_
 obtain⟨u1,c,h⟩:=aa h
 refine jb (Pe rfl (ap c)) ?_
 refine jb (Vj rfl) ?_
 refine aq ?_
 refine nt ?_
 refine aD ?_
 cases h
 exact ra
def fa(k:Nat)(a0:Int)(a1:Int):Option Bool:=
 (bU (0≤a1)).bind λ_=>
 some (decide ((sf .u8 (jk .u8 a0 a1) 1)=1))
theorem iG(k:Nat)(a0:Int)(a1:Int)(r:Bool)(h:fa k a0 a1=some r):
 c6 Tryz.prog 69 [.eq (.int .u8 a0),I a1] [] (λ_:Unit=>(bA [.eq (.bool r)],[])):=by
 unfold fa at h
 replace h:=bb h
 refine c6.of 10 Tryz.func69 rfl Tryz.ntmps69 rfl λS w0=>?_
 refine sr ?_
 refine cq ?_
 refine nt ?_
 refine sr ?_
 iterate 2 refine mq ?_
 obtain⟨u1,c,h⟩:=aa h
 refine jb (wb rfl (ap c)) ?_
 refine jb (SV rfl) ?_
 refine jb (jF rfl) ?_
 refine aq ?_
 refine nt ?_
 refine aD ?_
 cases h
 exact ra
def dy(k:Nat)(a0:ab)(x8:(List Int)):Nat->(Int×Int)->Option (Except Int Int)
 |0,_=>none
 |n+1,y9=>
  if y9.2 < (x8.length:Int) then((aG x8 y9.2).bind λc=>
  (ck (a0.1 - 1)).bind λh=>
  (ec k c 0 h).bind λr=>
  if¬(r=true) then(some (.error 3)) else((fa k y9.1 c).bind λl=>
  if l=true then(some (.error 4)) else((gU k y9.1 c).bind λj=>
  (ck (y9.2+1)).bind λe=>
  dy k a0 x8 n (j,e)))) else(some (.ok y9.1))
def dz(k:Nat)(a0:ab)(a1:(List (List Int))):Nat->(Int×Int)->Option (Except Int Unit)
 |0,_=>none
 |n+1,y4=>
  if y4.2 < (a1.length:Int) then(bE (α:=Int) ((aG a1 y4.2).bind λx8=>
  dy k a0 x8 k (y4.1,0)) (λe=>some (.error e)) λx6=>
  (ck (y4.2+1)).bind λc=>
  dz k a0 a1 n (x6,c)) else(some (.ok ()))
def jX(k:Nat)(a0:ab)(a1:(List (List Int))):Option Int:=
 if 3 < (a1.length:Int) then(some 6) else(bE (α:=Unit) (dz k a0 a1 k (0,0)) (some) λ_=>
 some 0)
theorem uZ(k:Nat)(a0:ab)(a1:(List (List Int)))(r:Int)(h:jX k a0 a1=some r):
 c6 Tryz.prog 92 [.rep ak a0,.rep (.slice Tl) a1] [] (λ_:Unit=>(bA [I r],[])):=by
 unfold jX at h
 replace h:=bb h
 refine c6.of 39 Tryz.func92 rfl Tryz.ntmps92 rfl λS w0=>?_
 refine sr ?_
 refine bx λb1=>?_
 refine cq ?_
 refine nt ?_
 refine ai ?_
 refine sr ?_
 refine mq ?_
 refine ol lF ?_
 refine jb (jE rfl) ?_
 refine nt ?_
 refine ci h (λh=>?_) (λh=>?_)
 .
  refine sr (cq (nt (rx ?_)));cases h;exact ra
 .
  refine sk (sr (cq (nt ?_)));refine cu (Z:=Unit) (α:=Unit) (λz3 x2=>[]) (λz3 x2=>[]) (λe=>e=r) h (λe h=>Option.some.inj h) (λK hR h=>?_) (λz3 x2 h=>?_)
  .refine sr (mq ?_);refine ol lF ?_;refine fZ rfl ?_;refine nt (ah (aC (λz5 y4=>[(2,Pt b1),(5,.eq (.int .u8 y4.1)),(13,.rep (.slice Tl) a1),(14,I (a1.length:Int)),(15,I y4.2)]) (λz5 y4=>[.obj b1 28 (.rep ak a0)]) (dz k a0 a1) k () (0,0) (λ_=>rfl) h (SE.fin [0] ⟨rfl,rfl,rfl,rfl,rfl,trivial⟩ rfl) (λn z5 y4 h=>?_)));unfold dz at h;refine sr (jb (bh rfl) ?_);refine nt (ai (ci h (λh=>?_) (λh=>?_)))
   .refine sk (cu (Z:=Unit) (α:=Int) (λz7 x6=>[(2,Pt b1),(5,.eq (.int .u8 x6)),(13,.rep (.slice Tl) a1),(14,I (a1.length:Int)),(15,I y4.2)]) (λz7 x6=>[.obj b1 28 (.rep ak a0)]) (λe=>e=r) h (λe h=>hR e h) (λK hR h=>?_) (λz7 x6 h=>?_))
    .refine ah (sr ?_);obtain⟨x8,X,h⟩:=aa h;refine jb (aA (t:=Tl) rfl lF dO X) ?_;refine ja (am (t:=Tl) rfl dO rfl) ?_;refine aq (nt (sr ?_));refine mq ?_;refine ol gi ?_;refine fZ rfl ?_;refine nt (ah (aC (λj y9=>[(2,Pt b1),(5,.eq (.int .u8 y9.1)),(13,.rep (.slice Tl) a1),(14,I (a1.length:Int)),(15,I y4.2),(19,.rep Tl x8),(20,I (x8.length:Int)),(21,I y9.2)]) (λj y9=>[.obj b1 28 (.rep ak a0)]) (dy k a0 x8) k () (y4.1,0) (λ_=>rfl) h (SE.fin [0] ⟨rfl,rfl,rfl,rfl,rfl,rfl,rfl,rfl,trivial⟩ rfl) (λn j y9 h=>?_)));unfold dy at h;refine sr (jb (bh rfl) ?_);refine nt (ai (ci h (λh=>?_) (λh=>?_)))
     .refine sk (ai (ah (sr ?_)));obtain⟨c,y,h⟩:=aa h;refine jb (aA (t:=Ti) rfl gi bR y) ?_;refine ja (am (t:=Ti) rfl bR rfl) ?_;refine aq (nt (ai (sr ?_)));refine mq ?_;refine fl fq ?_;refine lo bR ?_;obtain⟨O,x,h⟩:=aa h;refine jb (eJ rfl x) ?_;obtain⟨U,F,h⟩:=aa h;refine jc (av [.tmp 25,.const (.int .i64 (0)),.tmp 28] rfl rfl zT rfl (eE k c 0 O U F)) ?_;refine ja (fo rfl) ?_;refine nt (cw h (λh=>?_) (λh=>?_))
      .refine sr (cq (nt (rx (br (aX (br (aX (be ?_))))))));obtain rfl:=hR _ h;exact ra
      .refine sk (ai (sr ?_));iterate 2 refine mq ?_
       obtain⟨Q,E,h⟩:=aa h;refine jb (av [.tmp 31,.tmp 32] rfl rfl J8 rfl (iG k y9.1 c Q E)) ?_;refine nt (cv h (λh=>?_) (λh=>?_))
       .refine sr (cq (nt (rx (br (aX (br (aX (be ?_))))))));obtain rfl:=hR _ h;exact ra
       .refine sk (ae ?_);iterate 2 refine mq ?_
        obtain⟨l,D,h⟩:=aa h;refine jb (av [.tmp 34,.tmp 35] rfl rfl QW rfl (lB k y9.1 c l D)) ?_;refine aq (aH (aJ (tn (ae ?_))));obtain⟨M,u,h⟩:=aa h;refine jb (aU rfl u) ?_;refine mq (nl ?_);exact jz ((),(l,M)) h [0]
     .refine eQ (bp (bp (cM (bn ?_))));exact jz ((),y9.1) h [0]
    .refine ae ?_;obtain⟨J,s,h⟩:=aa h;refine jb (aU rfl s) ?_;refine mq (nl ?_);exact jz ((),(x6,J)) h [0]
   .refine xa ?_;exact jz ((),()) h []
  .refine sr (cq (nt (aD ?_)));cases h;exact ra
def ib(k:Nat)(a0:ab)(a1:aQ):Option Int:=
 (((ck (a0.1 - 1)).bind λx5=>
 (ec k a1.1 0 x5).bind λr6=>
 if¬(r6=true) then(some true) else((ec k a1.2.1 0 (a0.2.2.2.2.1.length:Int)).bind λr7=>
 some (!r7))):Option (Bool)).bind λx3=>
 if x3=true then(some 3) else(some 0)
theorem rX(k:Nat)(a0:ab)(a1:aQ)(r:Int)(h:ib k a0 a1=some r):
 c6 Tryz.prog 93 [.rep ak a0,.rep aI a1] [] (λ_:Unit=>(bA [I r],[])):=by
 unfold ib at h
 replace h:=bb h
 refine c6.of 21 Tryz.func93 rfl Tryz.ntmps93 rfl λS w0=>?_
 refine sr ?_
 refine bx λb1=>?_
 refine bx λb2=>?_
 refine cq ?_
 refine nt ?_
 refine ai ?_
 refine aE (Z:=Unit) (α:=Bool) (λz4 x3=>[(20,.eq (.bool x3))]) (λz4 x3=>[]) h (λK h=>?_) (λz4 x3 h=>?_)
 .
  refine ae (fl zO ?_);refine lo bR ?_;refine fl fq ?_;refine fr 1 ?_;refine lo bR ?_;obtain⟨x5,c,h⟩:=aa h;refine jb (eJ rfl c) ?_;obtain⟨r6,j,h⟩:=aa h;refine jc (av [.tmp 6,.const (.int .i64 (0)),.tmp 9] rfl rfl zT rfl (eE k a1.1 0 x5 r6 j)) ?_;refine ja (fo rfl) ?_;refine mq ?_;refine bX (s:=12) rfl (λhb=>?_) (λhb=>?_)
  .replace h:=eh (tU hb) h;iterate 7 refine gn ?_
   refine pt (nl ?_);exact jz ((),true) h []
  .replace h:=cK (od hb) h;refine ga (au rfl zN) ?_;refine fr 1 ?_;refine eX rfl rfl rfl rfl rfl rfl (ao rfl bR jI rfl) ⟨rfl,trivial⟩ ?_;refine ga (au rfl bL) ?_;refine fr 1 ?_;refine eX rfl rfl rfl rfl rfl rfl (ao rfl eL jI rfl) ⟨rfl,trivial⟩ ?_;refine ga (pi rfl rfl oC) ?_;obtain⟨r7,e,h⟩:=aa h;refine gc (av [.tmp 14,.const (.int .i64 (0)),.tmp 17] rfl rfl zT rfl (eE k a1.2.1 0 (a0.2.2.2.2.1.length:Int) r7 e)) ?_;refine ga (fo rfl) ?_;refine pf (nl ?_);exact jz ((), !r7) h []
 .
  refine cv h (λh=>?_) (λh=>?_)
  .refine sr (cq (nt (rx ?_)));cases h;exact ra
  .refine sk (sr (cq (nt (aD ?_))));cases h;exact ra
def fP(k:Nat)(a0:ab):Nat->Int->Option (Except Int Unit)
 |0,_=>none
 |n+1,c=>
  if c < (a0.2.2.2.2.1.length:Int) then((aG a0.2.2.2.2.1 c).bind λj=>
  (jX k a0 j).bind λe=>
  if¬(e=0) then(some (.error e)) else((ck (c+1)).bind λh=>
  fP k a0 n h)) else(some (.ok ()))
def fO(k:Nat)(a0:ab):Nat->Int->Option (Except Int Unit)
 |0,_=>none
 |n+1,c=>
  if c < (a0.2.2.2.2.2.length:Int) then((aG a0.2.2.2.2.2 c).bind λj=>
  (ib k a0 j).bind λe=>
  if¬(e=0) then(some (.error e)) else((ck (c+1)).bind λh=>
  fO k a0 n h)) else(some (.ok ()))
def og(k:Nat)(a0:ab):Option Int:=
 (((ec k a0.1 1 5).bind λr4=>
 if¬(r4=true) then(some true) else((ec k a0.2.1 0 3).bind λr5=>
 if¬(r5=true) then(some true) else((ec k a0.2.2.1 0 3).bind λr6=>
 if¬(r6=true) then(some true) else((ec k a0.2.2.2.1 1 3).bind λr7=>
 some (!r7))))):Option (Bool)).bind λx2=>
 if x2=true then(some 1) else(if(a0.2.2.2.2.1.length:Int) < 1 then(some 7) else(if 6 < (a0.2.2.2.2.1.length:Int) then(some 6) else(bE (α:=Unit) (fP k a0 k 0) (some) λ_=>
 if 8 < (a0.2.2.2.2.2.length:Int) then(some 6) else(bE (α:=Unit) (fO k a0 k 0) (some) λ_=>
 some 0))))
theorem zB(k:Nat)(a0:ab)(r:Int)(h:og k a0=some r):
 c6 Tryz.prog 63 [.rep ak a0] [] (λ_:Unit=>(bA [I r],[])):=by
 unfold og at h
 replace h:=bb h
 refine c6.of 73 Tryz.func63 rfl Tryz.ntmps63 rfl λS w0=>?_
 refine sr ?_
 refine bx λb1=>?_
 refine cq ?_
 refine nt ?_
 refine ai ?_
 refine aE (Z:=Unit) (α:=Bool) (λz3 x2=>[(1,Pt b1),(31,.eq (.bool x2))]) (λz3 x2=>[.obj b1 28 (.rep ak a0)]) h (λK h=>?_) (λz3 x2 h=>?_)
 .
  refine ae (fl fq ?_);refine lo bR ?_;obtain⟨r4,Xe,h⟩:=aa h;refine jc (av [.tmp 11,.const (.int .i64 (1)),.const (.int .i64 (5))] rfl rfl zT rfl (eE k a0.1 1 5 r4 Xe)) ?_;refine ja (fo rfl) ?_;refine mq ?_;refine bX (s:=14) rfl (λhb=>?_) (λhb=>?_)
  .replace h:=eh (tU hb) h;iterate 4 refine gn ?_
   refine pt ?_;refine mq ?_;iterate 4 refine gn ?_
   refine pt ?_;refine mq ?_;iterate 4 refine gn ?_
   refine pt (nl ?_);exact jz ((),true) h [0]
  .replace h:=cK (od hb) h;refine ga (au rfl qj) ?_;refine eX rfl rfl rfl rfl rfl rfl (ao rfl bR jI rfl) ⟨rfl,trivial⟩ ?_;obtain⟨r5,zz,h⟩:=aa h;refine gc (av [.tmp 16,.const (.int .i64 (0)),.const (.int .i64 (3))] rfl rfl zT rfl (eE k a0.2.1 0 3 r5 zz)) ?_;refine ga (fo rfl) ?_;refine pf ?_;refine mq ?_;refine bX (s:=20) rfl (λhb=>?_) (λhb=>?_)
   .replace h:=eh (tU hb) h;iterate 4 refine gn ?_
    refine pt ?_;refine mq ?_;iterate 4 refine gn ?_
    refine pt (nl ?_);exact jz ((),true) h [0]
   .replace h:=cK (od hb) h;refine ga (au rfl sw) ?_;refine eX rfl rfl rfl rfl rfl rfl (ao rfl bR jI rfl) ⟨rfl,trivial⟩ ?_;obtain⟨r6,qt,h⟩:=aa h;refine gc (av [.tmp 22,.const (.int .i64 (0)),.const (.int .i64 (3))] rfl rfl zT rfl (eE k a0.2.2.1 0 3 r6 qt)) ?_;refine ga (fo rfl) ?_;refine pf ?_;refine mq ?_;refine bX (s:=26) rfl (λhb=>?_) (λhb=>?_)
    .replace h:=eh (tU hb) h;iterate 4 refine gn ?_
     refine pt (nl ?_);exact jz ((),true) h [0]
    .replace h:=cK (od hb) h;refine ga (au rfl uk) ?_;refine eX rfl rfl rfl rfl rfl rfl (ao rfl bR jI rfl) ⟨rfl,trivial⟩ ?_;obtain⟨r7,mw,h⟩:=aa h;refine gc (av [.tmp 28,.const (.int .i64 (1)),.const (.int .i64 (3))] rfl rfl zT rfl (eE k a0.2.2.2.1 1 3 r7 mw)) ?_;refine ga (fo rfl) ?_;refine pf (nl ?_);exact jz ((), !r7) h [0]
 .
  refine cv h (λh=>?_) (λh=>?_)
  .refine sr (cq (nt (rx ?_)));cases h;exact ra
  .refine sk (ai (sr (fl bL ?_)));refine lo eL ?_;refine ol oC ?_;refine aq (nt (ah (sr ?_)));refine mq ?_;refine jb (bh rfl) ?_;refine aq (nt ?_);refine ci h (λh=>?_) (λh=>?_)
   .refine sr (cq (nt (aD (aX (be ?_)))));cases h;exact ra
   .refine sr (mq ?_);refine jb (jE rfl) ?_;refine aq (nt ?_);refine ci h (λh=>?_) (λh=>?_)
    .refine sr (cq (nt (aD (aX (be ?_)))));cases h;exact ra
    .refine bg (aJ (tn (cu (Z:=Unit) (α:=Unit) (λz9 x8=>[(1,Pt b1)]) (λz9 x8=>[.obj b1 28 (.rep ak a0)]) (λe=>e=r) h (λe h=>Option.some.inj h) (λK hR h=>?_) (λz9 x8 h=>?_))))
     .refine sr (fl bL ?_);refine lo eL ?_;refine ol oC ?_;refine fZ rfl ?_;refine nt (ah (aC (λx j=>[(1,Pt b1),(42,.rep (.slice (.slice Tl)) a0.2.2.2.2.1),(43,I (a0.2.2.2.2.1.length:Int)),(44,I j)]) (λx j=>[.obj b1 28 (.rep ak a0)]) (fP k a0) k () 0 (λ_=>rfl) h (SE.fin [0] ⟨rfl,rfl,rfl,rfl,trivial⟩ rfl) (λn x j h=>?_)));unfold fP at h;refine sr (jb (bh rfl) ?_);refine nt (ai (ci h (λh=>?_) (λh=>?_)))
      .refine sk (ai (ah (sr ?_)));obtain⟨Y,J,h⟩:=aa h;refine jb (aA (t:=(.slice Tl)) rfl oC iR J) ?_;refine ja (am (t:=(.slice Tl)) rfl iR rfl) ?_;refine aq (nt (sr ?_));refine lo dq ?_;refine mq ?_;obtain⟨mc,O,h⟩:=aa h;refine jb (av [.tmp 48,.tmp 49] rfl rfl VN rfl (uZ k a0 Y mc O)) ?_;refine aq (nt (sr ?_));refine mq ?_;refine jb (eT rfl) ?_;refine nt (cn h (λh=>?_) (λh=>?_))
       .refine sr (mq ?_);refine aq (nt (aD (br (aX (be ?_)))));obtain rfl:=hR _ h;exact ra
       .refine bg (aJ (tn (ae ?_)));obtain⟨X,F,h⟩:=aa h;refine jb (aU rfl F) ?_;refine mq (nl ?_);exact jz ((),X) h [0]
      .refine xa ?_;exact jz ((),()) h [0]
     .refine ai (sr (fl gf ?_));refine lo nP ?_;refine ol Dj ?_;refine jb (jE rfl) ?_;refine nt (ci h (λh=>?_) (λh=>?_))
      .refine sr (cq (nt (rx ?_)));cases h;exact ra
      .refine sk (cu (Z:=Unit) (α:=Unit) (λu y=>[]) (λu y=>[]) (λe=>e=r) h (λe h=>Option.some.inj h) (λK hR h=>?_) (λu y h=>?_))
       .refine sr (fl gf ?_);refine lo nP ?_;refine ol Dj ?_;refine fZ rfl ?_;refine nt (ah (aC (λl c=>[(1,Pt b1),(60,Rs aI a0.2.2.2.2.2),(61,I (a0.2.2.2.2.2.length:Int)),(62,I c)]) (λl c=>[.obj b1 28 (.rep ak a0)]) (fO k a0) k () 0 (λ_=>rfl) h (SE.fin [0] ⟨rfl,rfl,rfl,rfl,trivial⟩ rfl) (λn l c h=>?_)));unfold fO at h;refine sr (jb (bh rfl) ?_);refine nt (ai (ci h (λh=>?_) (λh=>?_)))
        .refine sk (ai (ah (sr ?_)));obtain⟨U,E,h⟩:=aa h;refine jb (aA (t:=aI) rfl Dj nB E) ?_;refine ja (am (t:=aI) rfl nB rfl) ?_;refine aW rfl rfl rfl (bq rfl Gu Oq) trivial λXf=>?_;refine aO rfl rfl (aK rfl nB rfl rfl rfl) ⟨rfl,rfl,trivial⟩ ?_;refine nt (sr (fr 1 ?_));refine lo dq ?_;refine fr 1 ?_;refine lo nB ?_;obtain⟨gw,M,h⟩:=aa h;refine jb (av [.tmp 66,.tmp 67] rfl rfl VM rfl (rX k a0 U gw M)) ?_;refine aq (nt (sr ?_));refine mq ?_;refine jb (eT rfl) ?_;refine nt (cn h (λh=>?_) (λh=>?_))
         .refine sr (mq ?_);refine aq (nt (aD (br (aX (be ?_)))));obtain rfl:=hR _ h;exact ra
         .refine bg (aJ (tn (ae ?_)));obtain⟨Q,D,h⟩:=aa h;refine jb (aU rfl D) ?_;refine mq (nl ?_);exact jz ((),Q) h [1]
        .refine xa ?_;exact jz ((),()) h []
       .refine sr (cq (nt (aD ?_)));cases h;exact ra
def cV(k:Nat)(a0:ab)(a1:Int):Nat->((List Int)×Int)->Option (List Int)
 |0,_=>none
 |n+1,y5=>
  if y5.2 < 5 then((((bU (0≤y5.2/\y5.2 < 5)).bind λ_=>
  (fa k a1 y5.2).bind λe=>
  if e=true then((bU (0≤y5.2/\y5.2 < 5)).bind λ_=>
  some (List.set (List.set y5.1 (Int.toNat y5.2) (-1:Int)) (Int.toNat y5.2) a0.2.1)) else(some (List.set y5.1 (Int.toNat y5.2) (-1:Int)))):Option ((List Int))).bind λx7=>
  (ck (y5.2+1)).bind λc=>
  cV k a0 a1 n (x7,c)) else(some y5.1)
def fE(k:Nat)(a0:ab)(a1:Int):Option (List Int):=
 ((cV k a0 a1 k ([0,0,0,0,0],0)):Option ((List Int))).bind λx3=>
 some x3
theorem rV{M:Md Tryz.prog}{bm:Nat}{c0 c1 c2 c3 c4 c5:Value}(hK:Kn M bm 0 [c0,c1,c2,c3,c4,c5])(k:Nat)(a0:ab)(a1:Int)(r:(List Int))(h:fE k a0 a1=some r):
 cD M 90 [.rep (.mo (Pv bm) [c0,c1,c2,c3,c4,c5] ak) a0,.eq (.int .u8 a1)] [] (λ_:Unit=>(bA [.rep Tr r],[])):=by
 unfold fE at h
 replace h:=bb h
 refine cD.of 24 Tryz.func90 rfl Tryz.ntmps90 rfl λS w0=>?_
 refine sr ?_
 refine aW rfl rfl rfl (bq rfl ES FW) trivial λb1=>?_
 refine nt ?_
 refine sr ?_
 refine aW rfl rfl rfl (bq rfl ES FW) trivial λb2=>?_
 refine nt ?_
 refine aE (Z:=Unit) (α:=(List Int)) (λz4 x3=>[(4,Pt b1),(5,Pt b2)]) (λz4 x3=>[.obj b1 106 (.rep Tr [0,0,0,0,0]),.obj b2 106 (.rep Tr x3)]) h (λK h=>?_) (λz4 x3 h=>?_)
 .
  refine sr (fZ rfl ?_);refine nt (ah (aC (λz6 y5=>[(0,.rep (.mo (Pv bm) [c0,c1,c2,c3,c4,c5] ak) a0),(1,.eq (.int .u8 a1)),(4,Pt b1),(5,Pt b2),(7,I y5.2)]) (λz6 y5=>[.obj b1 106 (.rep Tr [0,0,0,0,0]),.obj b2 106 (.rep Tr y5.1)]) (cV k a0 a1) k () ([0,0,0,0,0],0) (λ_=>rfl) h (SE.fin [1,0] ⟨rfl,rfl,rfl,rfl,rfl,trivial⟩ rfl) (λn z6 y5 h=>?_)));unfold cV at h;refine sr (jb (bh rfl) ?_);refine nt (ai (ci h (λh=>?_) (λh=>?_)))
  .refine sk (aE (Z:=Unit) (α:=(List Int)) (λz8 x7=>[(0,.rep (.mo (Pv bm) [c0,c1,c2,c3,c4,c5] ak) a0),(1,.eq (.int .u8 a1)),(4,Pt b1),(5,Pt b2),(7,I y5.2)]) (λz8 x7=>[.obj b1 106 (.rep Tr [0,0,0,0,0]),.obj b2 106 (.rep Tr x7)]) h (λK h=>?_) (λz8 x7 h=>?_))
   .refine ah (sr (mq ?_));refine aq (nt (sr ?_));refine mq ?_;obtain⟨u9,e,h⟩:=aa h;refine jb (eK rfl sG bR (ap e).1 (ap e).2) ?_;refine fr 1 ?_;refine aO rfl rfl (iE (t:=Ti) (off:=0) (i:=y5.2) (N:=5) rfl bR .int rfl rfl rfl rfl (ap e).1 (ap e).2 rfl) ⟨rfl,rfl,trivial⟩ ?_;refine nt (sr ?_);iterate 2 refine mq ?_
    obtain⟨u,l,h⟩:=aa h;refine jb (av [.tmp 12,.tmp 13] rfl rfl J8 rfl (iG k a1 y5.2 u l)) ?_;refine nt (cv h (λh=>?_) (λh=>?_))
    .refine ae ?_;iterate 2 refine mq ?_
     refine ja (my rfl) ?_;refine ja (iF rfl iT) ?_;refine ja (jy 1 false rfl qj rfl rfl) ?_;refine ja (kw (t:=Ti) rfl bR (hK.sub 1 1 rfl (le_of_ble_eq_true rfl)) rfl rfl) ?_;obtain⟨x,c,h⟩:=aa h;refine jb (eK rfl sG bR (ap c).1 (ap c).2) ?_;refine aO rfl rfl (iE (t:=Ti) (off:=0) (i:=y5.2) (N:=5) rfl bR .int rfl rfl rfl rfl (ap c).1 (ap c).2 rfl) ⟨rfl,rfl,trivial⟩ ?_;refine aH (bn ?_);exact jz ((),List.set (List.set y5.1 (Int.toNat y5.2) (-1:Int)) (Int.toNat y5.2) a0.2.1) h [1,0]
    .refine bg (bn ?_);exact jz ((),List.set y5.1 (Int.toNat y5.2) (-1:Int)) h [1,0]
   .refine ae ?_;obtain⟨s,j,h⟩:=aa h;refine jb (aU rfl j) ?_;refine mq (nl ?_);exact jz ((),(x7,s)) h [0,1]
  .refine xa ?_;exact jz ((),y5.1) h [0,1]
 .
  refine sr (fr 1 ?_);refine lo fY ?_;refine fr 1 ?_;refine aO rfl rfl (aK rfl fY rfl rfl rfl) ⟨rfl,rfl,trivial⟩ ?_;refine nt (aD ?_);obtain rfl:=Option.some.inj h;exact aS () [.rep Tr x3] 0 ⟨⟨_,_,_,_,_,rfl,(.head _),fY,(pu),rfl⟩,trivial⟩ rfl
def dD(k:Nat)(a0:(List Int))(a1:Int):Nat->Int->Option (Except Int Unit)
 |0,_=>none
 |n+1,y3=>
  if y3 < (a0.length:Int) then((aG a0 y3).bind λx5=>
  if a1=x5 then(some (.error y3)) else((ck (y3+1)).bind λx6=>
  dD k a0 a1 n x6)) else(some (.ok ()))
def ig(k:Nat)(a0:(List Int))(a1:Int):Option Int:=
 bE (α:=Unit) (dD k a0 a1 k 0) (some) λ_=>
 some (-1:Int)
theorem nS(k:Nat)(a0:(List Int))(a1:Int)(r:Int)(h:ig k a0 a1=some r):
 c6 Tryz.prog 82 [.rep Tl a0,I a1] [] (λ_:Unit=>(bA [I r],[])):=by
 unfold ig at h
 replace h:=bb h
 refine c6.of 19 Tryz.func82 rfl Tryz.ntmps82 rfl λS w0=>?_
 refine sr ?_
 refine cq ?_
 refine nt ?_
 refine cu (Z:=Unit) (α:=Unit) (λz2 x1=>[]) (λz2 x1=>[]) (λe=>e=r) h (λe h=>Option.some.inj h) (λK hR h=>?_) (λz2 x1 h=>?_)
 .
  refine sr (mq ?_);refine ol gi ?_;refine fZ rfl ?_;refine nt (ah (aC (λz4 y3=>[(0,.rep Tl a0),(1,I a1),(7,I (a0.length:Int)),(8,I y3)]) (λz4 y3=>[]) (dD k a0 a1) k () 0 (λ_=>rfl) h (SE.fin [] ⟨rfl,rfl,rfl,rfl,trivial⟩ rfl) (λn z4 y3 h=>?_)));unfold dD at h;refine sr (jb (bh rfl) ?_);refine nt (ai (ci h (λh=>?_) (λh=>?_)))
  .refine sk (ai (ah (sr (mq ?_))));refine aq (nt (sr ?_));iterate 3 refine mq ?_
   obtain⟨x5,j,h⟩:=aa h;refine jb (aA (t:=Ti) rfl gi bR j) ?_;refine ja (am (t:=Ti) rfl bR rfl) ?_;refine jb (jF rfl) ?_;refine nt (ci h (λh=>?_) (λh=>?_))
   .refine sr (mq ?_);refine aq (nt (aD (br (aX (be ?_)))));obtain rfl:=hR _ h;exact ra
   .refine bg (aJ (tn (ae ?_)));obtain⟨x6,c,h⟩:=aa h;refine jb (aU rfl c) ?_;refine mq (nl ?_);exact jz ((),x6) h []
  .refine xa ?_;exact jz ((),()) h []
 .
  refine sr (cq (nt (aD ?_)));cases h;exact ra
def l7(k:Nat)(a0:Int):Option Bool:=
 some (!decide (a0=a0))
theorem ti(k:Nat)(a0:Int)(r:Bool)(h:l7 k a0=some r):
 c6 Tryz.prog 164 [I a0] [] (λ_:Unit=>(bA [.eq (.bool r)],[])):=by
 unfold l7 at h
 replace h:=bb h
 refine c6.of 6 Tryz.func164 rfl Tryz.ntmps164 rfl λS w0=>?_
 refine sr ?_
 refine cq ?_
 refine nt ?_
 refine sr ?_
 iterate 2 refine mq ?_
 refine jb (eT rfl) ?_
 refine aq ?_
 refine nt ?_
 refine aD ?_
 cases h
 exact ra
def qm(k:Nat)(a0:Int)(a1:Int):Option Bool:=
 (((l7 k a0).bind λr3=>
 if r3=true then((l7 k a1).bind λr4=>
 if¬(r4=true) then(some true) else(some (decide (a0 < a1)))) else(some (decide (a0 < a1)))):Option (Bool)).bind λx1=>
 some x1
theorem Cm(k:Nat)(a0:Int)(a1:Int)(r:Bool)(h:qm k a0 a1=some r):
 c6 Tryz.prog 154 [I a0,I a1] [] (λ_:Unit=>(bA [.eq (.bool r)],[])):=by
 unfold qm at h
 replace h:=bb h
 refine c6.of 17 Tryz.func154 rfl Tryz.ntmps154 rfl λS w0=>?_
 refine sr ?_
 refine cq ?_
 refine nt ?_
 refine aE (Z:=Unit) (α:=Bool) (λz2 x1=>[(4,.eq (.bool x1))]) (λz2 x1=>[]) h (λK h=>?_) (λz2 x1 h=>?_)
 .
  refine ae (mq ?_);obtain⟨r3,e,h⟩:=aa h;refine ja (av [.tmp 5] rfl rfl Pl rfl (ti k a0 r3 e)) ?_;refine mq ?_;refine bX (s:=7) rfl (λhb=>?_) (λhb=>?_)
  .replace h:=eh (Lp hb) h;refine gm ?_;obtain⟨r4,c,h⟩:=aa h;refine ga (av [.tmp 8] rfl rfl Pl rfl (ti k a1 r4 c)) ?_;refine ga (fo rfl) ?_;refine pt ?_;refine mq ?_;refine bX (s:=12) rfl (λhb=>?_) (λhb=>?_)
   .replace h:=eh (tU hb) h;iterate 3 refine gn ?_
    refine pt ?_;refine aq (nl ?_);exact jz ((),true) h []
   .replace h:=cK (od hb) h;refine gm ?_;refine gm ?_;refine gb (bh rfl) ?_;refine pf ?_;refine aq (nl ?_);exact jz ((),decide (a0 < a1)) h []
  .replace h:=cK (Lq hb) h;iterate 3 refine gn ?_
   refine pf ?_;refine mq ?_;refine gm ?_;refine gm ?_;refine gb (bh rfl) ?_;refine pf ?_;refine aq (nl ?_);exact jz ((),decide (a0 < a1)) h []
 .
  refine aD ?_;cases h;exact ra
def bP(k:Nat)(a1:Int):Nat->((List Int)×Int)->Option (List Int)
 |0,_=>none
 |n+1,y6=>
  ((if a1 < y6.2 then((aG y6.1 y6.2).bind λu=>
  (ck (y6.2 - 1)).bind λs=>
  (aG y6.1 s).bind λr=>
  (qm k u r).bind λx=>
  some x) else(some false)):Option (Bool)).bind λx8=>
  if x8=true then((ck (y6.2 - 1)).bind λe=>
  (ck (y6.2 - 1)).bind λl=>
  (aG y6.1 l).bind λc=>
  (aG y6.1 y6.2).bind λj=>
  (aG y6.1 y6.2).bind λD=>
  (aG (List.set y6.1 (Int.toNat y6.2) c) e).bind λy=>
  (ck (y6.2 - 1)).bind λh=>
  bP k a1 n (List.set (List.set y6.1 (Int.toNat y6.2) c) (Int.toNat e) j,h)) else(some y6.1)
def bz(k:Nat)(a1:Int)(a2:Int):Nat->((List Int)×Int)->Option (List Int)
 |0,_=>none
 |n+1,y2=>
  if y2.2 < a2 then(((bP k a1 k (y2.1,y2.2)):Option ((List Int))).bind λx4=>
  (ck (y2.2+1)).bind λc=>
  bz k a1 a2 n (x4,c)) else(some y2.1)
def cg(k:Nat)(a0:(List Int))(a1:Int)(a2:Int):Option (List Int):=
 (ck (a1+1)).bind λx1=>
 bz k a1 a2 k (a0,x1)
theorem kh(k:Nat)(a0:(List Int))(c:Value)(a1:Int)(a2:Int)(r:(List Int))(h:cg k a0 a1 a2=some r):
 c6 Tryz.prog 148 [.eq c,I a1,I a2] [.sl c 3 Ti a0] (λ_:Unit=>(bA [],[.sl c 3 Ti r])):=by
 unfold cg at h
 replace h:=bb h
 refine c6.of 49 Tryz.func148 rfl Tryz.ntmps148 rfl λS w0=>?_
 refine sr ?_
 refine mq ?_
 obtain⟨x1,Xt,h⟩:=aa h
 refine jb (aU rfl Xt) ?_
 refine aq ?_
 refine nt ?_
 refine ah ?_
 refine aC (λz3 y2=>[(0,.eq c),(1,I a1),(2,I a2),(6,I y2.2)]) (λz3 y2=>[.sl c 3 Ti y2.1]) (bz k a1 a2) k () (a0,x1) (λ_=>rfl) h (SE.fin [0] ⟨rfl,rfl,rfl,rfl,trivial⟩ rfl) (λn z3 y2 h=>?_)
 unfold bz at h
 refine ai ?_
 refine sr ?_
 iterate 2 refine mq ?_
 refine jb (bh rfl) ?_
 refine nt ?_
 refine ci h (λh=>?_) (λh=>?_)
 .
  refine sk (aE (Z:=Unit) (α:=(List Int)) (λz5 x4=>[(0,.eq c),(1,I a1),(2,I a2),(6,I y2.2)]) (λz5 x4=>[.sl c 3 Ti x4]) h (λK h=>?_) (λz5 x4 h=>?_))
  .refine ah (sr (mq ?_));refine aq (nt (ah ?_));refine aC (λz7 y6=>[(0,.eq c),(1,I a1),(2,I a2),(6,I y2.2),(7,I y6.2)]) (λz7 y6=>[.sl c 3 Ti y6.1]) (bP k a1) k () (y2.1,y2.2) (λ_=>rfl) h (SE.fin [0] ⟨rfl,rfl,rfl,rfl,rfl,trivial⟩ rfl) (λn z7 y6 h=>?_);unfold bP at h;refine ai (aE (Z:=Unit) (α:=Bool) (λz9 x8=>[(0,.eq c),(1,I a1),(2,I a2),(6,I y2.2),(7,I y6.2),(30,.eq (.bool x8))]) (λz9 x8=>[.sl c 3 Ti y6.1]) h (λK h=>?_) (λz9 x8 h=>?_))
   .refine bB ?_;refine dm ?_;refine dm ?_;refine db (jE rfl) ?_;refine nA rfl rfl rfl (ba rfl) ⟨rfl,trivial⟩ (λhb=>?_) (λhb=>?_)
    .replace h:=eh (va hb) h;refine bu rfl rfl rfl rfl rfl (ba rfl) ⟨rfl,rfl,trivial⟩ ?_;refine bu rfl rfl rfl rfl rfl (ba rfl) ⟨rfl,rfl,trivial⟩ ?_;obtain⟨Xj,x,h⟩:=aa h;refine g9 0 rfl rfl rfl rfl rfl rfl (cQ (t:=Ti) rfl gi bR x) ⟨rfl,rfl,rfl,trivial⟩ ?_;refine g9 0 rfl rfl rfl rfl rfl rfl (ij (i:=Int.toNat y6.2) (off:=0) rfl bR (λ_=>rfl) rfl (dR x).2.2 rfl) ⟨rfl,rfl,trivial⟩ ?_;refine bu rfl rfl rfl rfl rfl (ba rfl) ⟨rfl,rfl,trivial⟩ ?_;refine bu rfl rfl rfl rfl rfl (ba rfl) ⟨rfl,rfl,trivial⟩ ?_;obtain⟨Xi,qt,h⟩:=aa h;refine bu rfl rfl rfl rfl rfl (eJ rfl qt) ⟨rfl,rfl,rfl,trivial⟩ ?_;obtain⟨Xh,u,h⟩:=aa h;refine g9 0 rfl rfl rfl rfl rfl rfl (cQ (t:=Ti) rfl gi bR u) ⟨rfl,rfl,rfl,trivial⟩ ?_;refine g9 0 rfl rfl rfl rfl rfl rfl (ij (i:=Int.toNat Xi) (off:=0) rfl bR (λ_=>rfl) rfl (dR u).2.2 rfl) ⟨rfl,rfl,trivial⟩ ?_;refine df cY ?_;obtain⟨F,zz,h⟩:=aa h;refine gb (av [.tmp 23,.tmp 28] rfl rfl Ug rfl (Cm k Xj Xh F zz)) ?_;refine pt (nl ?_);exact jz ((),F) h [0]
    .replace h:=cK (vb hb) h;iterate 9 refine dg ?_
     refine df cY ?_;refine gn ?_;refine pf (nl ?_);exact jz ((),false) h [0]
   .refine cv h (λh=>?_) (λh=>?_)
    .refine sk (ai (ah (qy ?_)));refine bM rfl rfl rfl (ba rfl) ⟨rfl,trivial⟩ ?_;refine bM rfl rfl rfl (ba rfl) ⟨rfl,trivial⟩ ?_;refine bM rfl rfl rfl (ba rfl) ⟨rfl,trivial⟩ ?_;refine bM rfl rfl rfl (ba rfl) ⟨rfl,trivial⟩ ?_;obtain⟨y,mw,h⟩:=aa h;refine bM rfl rfl rfl (eJ rfl mw) ⟨rfl,rfl,trivial⟩ ?_;refine bM rfl rfl rfl (ba rfl) ⟨rfl,trivial⟩ ?_;refine bM rfl rfl rfl (ba rfl) ⟨rfl,trivial⟩ ?_;obtain⟨Xg,mc,h⟩:=aa h;refine bM rfl rfl rfl (eJ rfl mc) ⟨rfl,rfl,trivial⟩ ?_;obtain⟨E,s,h⟩:=aa h;refine iO 0 rfl rfl rfl rfl (cQ (t:=Ti) rfl gi bR s) ⟨rfl,rfl,trivial⟩ ?_;refine iO 0 rfl rfl rfl rfl (ij (i:=Int.toNat Xg) (off:=0) rfl bR (λ_=>rfl) rfl (dR s).2.2 rfl) ⟨rfl,trivial⟩ ?_;refine bM rfl rfl rfl (ba rfl) ⟨rfl,trivial⟩ ?_;refine bM rfl rfl rfl (ba rfl) ⟨rfl,trivial⟩ ?_;obtain⟨D,l,h⟩:=aa h;refine iO 0 rfl rfl rfl rfl (cQ (t:=Ti) rfl gi bR l) ⟨rfl,rfl,trivial⟩ ?_;refine iO 0 rfl rfl rfl rfl (ij (i:=Int.toNat y6.2) (off:=0) rfl bR (λ_=>rfl) rfl (dR l).2.2 rfl) ⟨rfl,trivial⟩ ?_;obtain⟨XB,j,h⟩:=aa h;refine iO 0 rfl rfl rfl rfl (cQ (t:=Ti) rfl gi bR j) ⟨rfl,rfl,trivial⟩ ?_;refine uE 15 [true,true,false,false,false,true,true,true,true,true,true,true,true,true,true] [48] [] [] rfl (by kernel_rfl) (by kernel_rfl) (by kernel_rfl) cY (λvs hv hB=>?_);obtain⟨w0,XP,rfl,Xs⟩:=aF hv;obtain⟨w1,XO,rfl,Xr⟩:=aF Xs;obtain⟨w2,XN,rfl,Xq⟩:=aF Xr;obtain⟨w3,XM,rfl,Xp⟩:=aF Xq;obtain⟨w4,XL,rfl,Xo⟩:=aF Xp;obtain⟨w5,XK,rfl,Xn⟩:=aF Xo;obtain⟨w6,XJ,rfl,Xm⟩:=aF Xn;obtain⟨w7,XI,rfl,Xl⟩:=aF Xm;obtain⟨w8,XH,rfl,Xk⟩:=aF Xl;obtain⟨w9,Xz,rfl,X⟩:=aF Xk;obtain⟨XG,Xy,rfl,U⟩:=aF X;obtain⟨XF,Xx,rfl,Q⟩:=aF U;obtain⟨XE,Xw,rfl,O⟩:=aF Q;obtain⟨XD,Xv,rfl,M⟩:=aF O;obtain⟨XC,Xu,rfl,J⟩:=aF M;obtain rfl:=qK J;refine⟨[0],[.sl c 3 Ti y6.1],by kernel_rfl,by decide,?_⟩;refine sH rfl rfl (iD (i:=Int.toNat y6.2) rfl bR rfl (oZ j) rfl .int rfl) ⟨rfl,rfl,trivial⟩ (by kernel_rfl) ?_;obtain⟨XA,e,h⟩:=aa h;refine wX rfl rfl rfl rfl (cQ (t:=Ti) rfl gi bR e) ⟨rfl,rfl,trivial⟩ (by kernel_rfl) ?_;refine sH rfl rfl (iD (i:=Int.toNat y) rfl bR rfl (oZ e) rfl .int rfl) ⟨rfl,rfl,trivial⟩ (by kernel_rfl) ?_;refine wY ?_;refine bD (SE.fin (Γ':=[(0,.eq c),(1,I a1),(2,I a2),(6,I y2.2),(7,I y6.2)]) (Δ':=[.sl c 3 Ti (List.set (List.set y6.1 (Int.toNat y6.2) E) (Int.toNat y) D)]) [0] ⟨rfl,rfl,rfl,rfl,rfl,trivial⟩ rfl) ?_;refine aJ (tn (ae (mq ?_)));obtain⟨Xf,gw,h⟩:=aa h;refine jb (eJ rfl gw) ?_;refine aq (nl ?_);exact jz ((),(List.set (List.set y6.1 (Int.toNat y6.2) E) (Int.toNat y) D,Xf)) h [0]
    .refine eQ (bp (bp (cM (bn ?_))));exact jz ((),y6.1) h [0]
  .refine ae (mq ?_);obtain⟨Xe,Y,h⟩:=aa h;refine jb (aU rfl Y) ?_;refine aq (nl ?_);exact jz ((),(x4,Xe)) h [0]
 .
  refine eQ (bp (bp (cM (lq ?_))));cases h;exact aS () [] 1 trivial rfl
def lD(k:Nat)(a0:Int):Option Int:=
 ((if 4294967296≤a0 then(some (jk .u64 a0 32,32)) else(some (a0,0))):Option (Int×Int)).bind λx1=>
 ((if 65536≤x1.1 then((ck (x1.2+16)).bind λx5=>
 some (jk .u64 x1.1 16,x5)) else(some (x1.1,x1.2))):Option (Int×Int)).bind λx3=>
 ((if 256≤x3.1 then((ck (x3.2+8)).bind λx8=>
 some (jk .u64 x3.1 8,x8)) else(some (x3.1,x3.2))):Option (Int×Int)).bind λx6=>
 (Em NC (IntKind.u8.wrap x6.1)).bind λx9=>
 (ck (x9.toNat:Int)).bind λe=>
 (ck (x6.2+e)).bind λc=>
 some c
theorem sc(k:Nat)(a0:Int)(r:Int)(h:lD k a0=some r):
 c6 Tryz.prog 158 [.eq (.int .u64 a0)] [] (λ_:Unit=>(bA [I r],[])):=by
 unfold lD at h
 replace h:=bb h
 refine c6.of 25 Tryz.func158 rfl Tryz.ntmps158 rfl λS w0=>?_
 refine sr ?_
 refine cq ?_
 refine nt ?_
 refine aE (Z:=Unit) (α:=Int×Int) (λz2 x1=>[(0,.eq (.int .u64 x1.1)),(2,I x1.2)]) (λz2 x1=>[]) h (λK h=>?_) (λz2 x1 h=>?_)
 .
  refine sr (mq ?_);refine jb (iV rfl) ?_;refine nt (ci h (λh=>?_) (λh=>?_))
  .refine sr (mq ?_);refine cG rfl (wb rfl (by decide)) ⟨rfl,rfl,trivial⟩ ?_;refine aq (nt (ae ?_));refine cq (nl ?_);exact jz ((),(jk .u64 a0 32,32)) h []
  .refine bg (ax ?_);exact jz ((),(a0,0)) h []
 .
  refine aE (Z:=Unit) (α:=Int×Int) (λz4 x3=>[(0,.eq (.int .u64 x3.1)),(2,I x3.2)]) (λz4 x3=>[]) h (λK h=>?_) (λz4 x3 h=>?_)
  .refine sr (mq ?_);refine jb (iV rfl) ?_;refine nt (ci h (λh=>?_) (λh=>?_))
   .refine sr (mq ?_);refine cG rfl (wb rfl (by decide)) ⟨rfl,rfl,trivial⟩ ?_;refine aq (nt (ae ?_));refine mq ?_;obtain⟨x5,n,h⟩:=aa h;refine jb (aU rfl n) ?_;refine aq (nl ?_);exact jz ((),(jk .u64 x1.1 16,x5)) h []
   .refine bg (ax ?_);exact jz ((),(x1.1,x1.2)) h []
  .refine aE (Z:=Unit) (α:=Int×Int) (λz7 x6=>[(0,.eq (.int .u64 x6.1)),(2,I x6.2)]) (λz7 x6=>[]) h (λK h=>?_) (λz7 x6 h=>?_)
   .refine sr (mq ?_);refine jb (iV rfl) ?_;refine nt (ci h (λh=>?_) (λh=>?_))
    .refine sr (mq ?_);refine cG rfl (wb rfl (by decide)) ⟨rfl,rfl,trivial⟩ ?_;refine aq (nt (ae ?_));refine mq ?_;obtain⟨x8,l,h⟩:=aa h;refine jb (aU rfl l) ?_;refine aq (nl ?_);exact jz ((),(jk .u64 x3.1 8,x8)) h []
    .refine bg (ax ?_);exact jz ((),(x3.1,x3.2)) h []
   .refine sr ?_;iterate 2 refine mq ?_
    refine ja (tR rfl UX U5) ?_;obtain⟨x9,j,h⟩:=aa h;refine ja (Bh rfl U9 j) ?_;obtain⟨u,e,h⟩:=aa h;refine ja (Bi rfl U5 U3 e) ?_;obtain⟨s,c,h⟩:=aa h;refine jb (aU rfl c) ?_;refine aq (nt (aD ?_));cases h;exact ra
def qX(k:Nat)(a0:Int):Option Int:=
 (lD k a0).bind λr1=>
 some r1
theorem EH(k:Nat)(a0:Int)(r:Int)(h:qX k a0=some r):
 c6 Tryz.prog 147 [.eq (.int .u64 a0)] [] (λ_:Unit=>(bA [I r],[])):=by
 unfold qX at h
 replace h:=bb h
 refine c6.of 8 Tryz.func147 rfl Tryz.ntmps147 rfl λS w0=>?_
 refine sr ?_
 refine cq ?_
 refine nt ?_
 refine ai ?_
 refine K7 (λhb=>(by cases hb)) (λhb=>?_)
 refine sk ?_
 refine sr ?_
 refine mq ?_
 obtain⟨r1,c,h⟩:=aa h
 have e:=sc k a0 r1 c
 refine ja (av [.tmp 6] rfl rfl Uf rfl e) ?_
 refine aq ?_
 refine nt ?_
 refine aD ?_
 cases h
 exact ra
def cS(k:Nat)(a0:(List Int))(a1:Int)(a2:Int)(a3:Int):Nat->Unit->Option (List Int)
 |0,_=>none
 |n+1,y1=>
  (ck (a2 - a1)).bind λx3=>
  if x3≤12 then((cg k a0 a1 a2).bind λr4=>
  some r4) else(if a3=0 then(none) else(none))
def dj(k:Nat)(a0:(List Int))(a1:Int)(a2:Int)(a3:Int):Option (List Int):=
 cS k a0 a1 a2 a3 k ()
theorem mV(k:Nat)(a0:(List Int))(c:Value)(a1:Int)(a2:Int)(a3:Int)(r:(List Int))(h:dj k a0 a1 a2 a3=some r):
 c6 Tryz.prog 146 [.eq c,I a1,I a2,I a3] [.sl c 3 Ti a0] (λ_:Unit=>(bA [],[.sl c 3 Ti r])):=by
 unfold dj at h
 replace h:=bb h
 refine c6.of 134 Tryz.func146 rfl Tryz.ntmps146 rfl λS w0=>?_
 refine sr ?_
 refine cq ?_
 refine nt ?_
 refine sr ?_
 refine cq ?_
 refine nt ?_
 refine ah ?_
 refine aC (λz2 y1=>[(0,.eq c),(1,I a1),(2,I a2),(3,I a3),(8,.eq (.bool true)),(9,.eq (.bool true))]) (λz2 y1=>[.sl c 3 Ti a0]) (cS k a0 a1 a2 a3) k () () (λ_=>rfl) h (SE.fin [0] ⟨rfl,rfl,rfl,rfl,rfl,rfl,trivial⟩ rfl) (λn z2 y1 h=>?_)
 unfold cS at h
 refine ah ?_
 refine sr ?_
 iterate 2 refine mq ?_
 obtain⟨x3,e,h⟩:=aa h
 refine jb (eJ rfl e) ?_
 refine aq ?_
 refine nt ?_
 refine ai ?_
 refine sr ?_
 refine mq ?_
 refine jb (yo rfl) ?_
 refine nt ?_
 refine ci h (λh=>?_) (λh=>?_)
 .
  refine sr ?_;iterate 3 refine mq ?_
  obtain⟨r4,j,h⟩:=aa h;refine kc (av [.tmp 24,.tmp 25,.tmp 26] rfl rfl Ui rfl (kh k a0 c a1 a2 r4 j)) ?_;refine nt (rx (aX (be (aX ?_))));cases h;exact aS () [] 1 trivial rfl
 .
  refine sk (ai (sr (mq ?_)));refine jb (jF rfl) ?_;refine nt (ci h (λh=>?_) (λh=>?_))
  .cases h
  .cases h
def gI(k:Nat)(a0:(List Int)):Option (List Int):=
 (qX k (IntKind.u64.wrap (a0.length:Int))).bind λr1=>
 (dj k a0 0 (a0.length:Int) r1).bind λr2=>
 some r2
theorem uU(k:Nat)(a0:(List Int))(c:Value)(r:(List Int))(h:gI k a0=some r):
 c6 Tryz.prog 133 [.eq c] [.sl c 3 Ti a0] (λ_:Unit=>(bA [],[.sl c 3 Ti r])):=by
 unfold gI at h
 replace h:=bb h
 refine c6.of 11 Tryz.func133 rfl Tryz.ntmps133 rfl λS w0=>?_
 refine sr ?_
 refine mq ?_
 refine ka (oc rfl rfl gi) ?_
 refine aq ?_
 refine nt ?_
 refine ae ?_
 iterate 3 refine mq ?_
 refine ja (tR rfl U3 WG) ?_
 obtain⟨r1,j,h⟩:=aa h
 have n:=EH k (IntKind.u64.wrap (a0.length:Int)) r1 j
 refine ja (av [.tmp 8] rfl rfl Uj rfl n) ?_
 obtain⟨r2,e,h⟩:=aa h
 have l:=mV k a0 c 0 (a0.length:Int) r1 r2 e
 refine nI rfl rfl rfl (av [.tmp 5,.const (.int .i64 (0)),.tmp 6,.tmp 9] rfl rfl Uk rfl l) ⟨rfl,rfl,rfl,rfl,trivial⟩ ?_
 refine aH ?_
 refine lq ?_
 cases h
 exact aS () [] 1 trivial rfl
def cX(k:Nat)(a1:Int)(x3:(List (List Int))):Nat->Int->Option (Except (Int ⊕ (List Int)) Unit)
 |0,_=>none
 |n+1,y4=>
  if y4 < (x3.length:Int) then((aG x3 y4).bind λx6=>
  (ig k x6 a1).bind λr7=>
  if 0≤r7 then(((if 0 < r7 then((ck (r7 - 1)).bind λs=>
  (aG x6 s).bind λe=>
  (bU (aR (length ([]:(List Int))+length [e]))).bind λ_=>
  some (([]:(List Int))++[e])) else(some ([]:(List Int)))):Option ((List Int))).bind λx8=>
  (((ck (r7+1)).bind λl=>
  if l < (x6.length:Int) then((ck (r7+1)).bind λj=>
  (aG x6 j).bind λc=>
  (bU (aR (length x8+length [c]))).bind λ_=>
  some (x8++[c])) else(some x8)):Option ((List Int))).bind λr=>
  (gI k r).bind λu=>
  some (.error (Sum.inr u:(Int ⊕ (List Int))))) else((ck (y4+1)).bind λh=>
  cX k a1 x3 n h)) else(some (.ok ()))
def eR(k:Nat):Nat->ab->Int->Int->Option ((Int ⊕ (List Int)))
 |0,_,_,_=>none
 |m0+1,a0,a1,a2=>
  bE (α:=Unit) ((aG a0.2.2.2.2.1 a2).bind λx3=>
  cX k a1 x3 k 0) (some) λ_=>
  ((if 0 < a2 then((ck (a2 - 1)).bind λh=>
  ((eR k m0) a0 a1 h).bind λc=>
  if MG c=true then((ck (1+(SH c))).bind λe=>
  some e) else(some 1)) else(some 1)):Option (Int)).bind λj=>
  some (Sum.inl j:(Int ⊕ (List Int)))
theorem mE{M:Md Tryz.prog}{bm:Nat}{c0 c1 c2 c3 c4 c5:Value}(hK:Kn M bm 0 [c0,c1,c2,c3,c4,c5])(k:Nat):
 ∀(n:Nat) (a0:ab) (a1:Int) (a2:Int) (r:(Int ⊕ (List Int))),eR k n a0 a1 a2=some r->cD M 108 [.rep (.mo (Pv bm) [c0,c1,c2,c3,c4,c5] ak) a0,I a1,I a2] ([]) (λ_:Unit=>(bA [.rep (.pl 167 169 Tl) r],[])):=by
 intro n
 induction n with
 |zero=>intro a0 a1 a2 r h;cases h
 |succ m0 ih=>
  intro a0 a1 a2 r h;rw [eR] at h;replace h:=bb h;refine cD.of 80 Tryz.func108 rfl Tryz.ntmps108 rfl λS w0=>?_;refine sr (cq (nt ?_));refine cu (Z:=Unit) (α:=Unit) (λz2 x1=>[(0,.rep (.mo (Pv bm) [c0,c1,c2,c3,c4,c5] ak) a0),(1,I a1),(2,I a2)]) (λz2 x1=>[]) (λe=>e=r) h (λe h=>Option.some.inj h) (λK hR h=>?_) (λz2 x1 h=>?_)
  .refine sr (mq ?_);refine ja (my rfl) ?_;refine ja (iF rfl iT) ?_;refine ja (jy 1 false rfl bL rfl rfl) ?_;refine ja (kw (t:=(.slice (.slice Tl))) rfl eL (hK.sub 4 1 rfl (le_of_ble_eq_true rfl)) rfl rfl) ?_;refine mq ?_;obtain⟨x3,Xj,h⟩:=aa h;refine jb (aA (t:=(.slice Tl)) rfl oC iR Xj) ?_;refine ja (am (t:=(.slice Tl)) rfl iR rfl) ?_;refine ol lF ?_;refine fZ rfl ?_;refine nt (ah (aC (λz5 y4=>[(0,.rep (.mo (Pv bm) [c0,c1,c2,c3,c4,c5] ak) a0),(1,I a1),(2,I a2),(21,.rep (.slice Tl) x3),(22,I (x3.length:Int)),(23,I y4)]) (λz5 y4=>[]) (cX k a1 x3) k () 0 (λ_=>rfl) h (SE.fin [] ⟨rfl,rfl,rfl,rfl,rfl,rfl,trivial⟩ rfl) (λn z5 y4 h=>?_)));unfold cX at h;refine sr (jb (bh rfl) ?_);refine nt (ai (ci h (λh=>?_) (λh=>?_)))
   .refine sk (ai (ah (sr ?_)));obtain⟨x6,Xi,h⟩:=aa h;refine jb (aA (t:=Tl) rfl lF dO Xi) ?_;refine ja (am (t:=Tl) rfl dO rfl) ?_;refine aq (nt (sr ?_));iterate 2 refine mq ?_
    obtain⟨r7,Xk,h⟩:=aa h;refine jb (av [.tmp 27,.tmp 28] rfl rfl TS rfl (nS k x6 a1 r7 Xk)) ?_;refine aq (nt (sr ?_));refine mq ?_;refine jb (iV rfl) ?_;refine nt (ci h (λh=>?_) (λh=>?_))
    .refine sr (cq (nt ?_));refine aE (Z:=Value) (α:=(List Int)) (λz9 x8=>[(8,.rep Tl x6),(9,I r7),(10,.eq z9)]) (λz9 x8=>[.sl z9 3 Ti x8]) h (λK h=>?_) (λz9 x8 h=>?_)
     .refine sr (mq ?_);refine jb (jE rfl) ?_;refine nt (ci h (λh=>?_) (λh=>?_))
      .refine ae ?_;iterate 3 refine mq ?_
       obtain⟨Xn,U,h⟩:=aa h;refine jb (eJ rfl U) ?_;obtain⟨x,Q,h⟩:=aa h;refine jb (aA (t:=Ti) rfl gi bR Q) ?_;refine ja (am (t:=Ti) rfl bR rfl) ?_;refine ja (aP (t:=Ti) [(.tmp 39,_)] [x] rfl rfl cZ (.cons rfl .int .nil) rfl rfl) ?_;refine d4 (SE.nil 3 Ti) ?_;obtain⟨Xp,Y,h⟩:=aa h;refine cC rfl rfl rfl (bf rfl rfl cZ (ap Y)) ⟨rfl,rfl,trivial⟩ λXf=>?_;refine aq (nl ?_);exact jz (Xf,([]:(List Int))++[x]) h [0]
      .refine bg (ax (bD (SE.nil 3 Ti) ?_));exact jz ((.slice none 0 0),([]:(List Int))) h [0]
     .refine aE (Z:=Value) (α:=(List Int)) (λc j=>[(10,.eq c)]) (λc j=>[.sl c 3 Ti j]) h (λK h=>?_) (λc j h=>?_)
      .refine sr (mq ?_);obtain⟨Xm,O,h⟩:=aa h;refine jb (aU rfl O) ?_;refine mq ?_;refine ol gi ?_;refine jb (bh rfl) ?_;refine nt (ci h (λh=>?_) (λh=>?_))
       .refine ae ?_;iterate 3 refine mq ?_
        obtain⟨Xl,J,h⟩:=aa h;refine jb (aU rfl J) ?_;obtain⟨u,F,h⟩:=aa h;refine jb (aA (t:=Ti) rfl gi bR F) ?_;refine ja (am (t:=Ti) rfl bR rfl) ?_;refine ja (aP (t:=Ti) [(.tmp 52,_)] [u] rfl rfl cZ (.cons rfl .int .nil) rfl rfl) ?_;obtain⟨Xo,X,h⟩:=aa h;refine cC rfl rfl rfl (bf rfl rfl cZ (ap X)) ⟨rfl,rfl,trivial⟩ λXe=>?_;refine aq (nl ?_);exact jz (Xe,x8++[u]) h [0]
       .refine bg (ax ?_);exact jz (z9,x8) h [0]
      .refine sr (mq ?_);obtain⟨Xh,mc,h⟩:=aa h;refine ka (av [.tmp 55] rfl rfl Ul rfl (uU k j c Xh mc)) ?_;refine nt (sr (mq ?_));refine d4 (fu [10,55,57] ⟨rfl,rfl,rfl,trivial⟩) ?_;refine ja (eU [(0,.tmp 57,_)] rfl SK OX Rb (kR ⟨rfl,trivial⟩) rfl) ?_;refine ja (MO (t0:=167) (t:=Ti) rfl WB) ?_;refine aq (nt (aD (br (aX (be ?_)))));obtain rfl:=hR _ h;exact ra
    .refine bg (aJ (tn (ae ?_)));obtain⟨zz,E,h⟩:=aa h;refine jb (aU rfl E) ?_;refine mq (nl ?_);exact jz ((),zz) h []
   .refine xa ?_;exact jz ((),()) h []
  .refine sr (cq (nt ?_));refine aE (Z:=Unit) (α:=Int) (λs l=>[(11,I l)]) (λs l=>[]) h (λK h=>?_) (λs l h=>?_)
   .refine sr (mq ?_);refine jb (jE rfl) ?_;refine nt (ci h (λh=>?_) (λh=>?_))
    .refine sr ?_;iterate 3 refine mq ?_
     obtain⟨qt,D,h⟩:=aa h;refine jb (eJ rfl D) ?_;obtain⟨Xg,gw,h⟩:=aa h;refine jc (bv [.tmp 64,.tmp 65,.tmp 67] rfl rfl J9 rfl (ih a0 a1 qt Xg gw)) ?_;refine cG rfl (E4 rfl Iq (by decide)) ⟨rfl,trivial⟩ ?_;refine mq ?_;refine xr ?_;refine xr ?_;refine aW rfl rfl rfl (bq rfl HT PG) trivial λXq=>?_;refine aO rfl rfl (aK rfl O6 trivial rfl rfl) ⟨rfl,rfl,trivial⟩ ?_;refine aq (nt (sr ?_));refine mq (nt ?_);refine cv h (λh=>?_) (λh=>?_)
     .refine ae (mq ?_);refine fl FD ?_;refine lo bR ?_;obtain⟨mw,y,h⟩:=aa h;refine jb (aU rfl y) ?_;refine aq (nl ?_);exact jz ((),mw) h []
     .refine bg (ax ?_);exact jz ((),1) h []
    .refine bg (ax ?_);exact jz ((),1) h []
   .refine sr (mq ?_);refine ja (eU [(0,.tmp 77,_)] rfl SL HT Re (kR ⟨rfl,trivial⟩) rfl) ?_;refine ja (MP (t1:=169) (t:=Ti) rfl WC) ?_;refine aq (nt (aD ?_));cases h;exact ra
def ju(k:Nat)(a0:Py):Option (List Int):=
 some ([]:(List Int))
theorem rW(k:Nat)(a0:Py)(r:(List Int))(h:ju k a0=some r):
 c6 Tryz.prog 182 [.rep Sr a0] [] (λ_:Unit=>(bA [.rep Tl r],[])):=by
 unfold ju at h
 replace h:=bb h
 refine c6.of 3 Tryz.func182 rfl Tryz.ntmps182 rfl λS w0=>?_
 refine sr ?_
 refine bx λb1=>?_
 refine cq ?_
 refine nt ?_
 refine sr ?_
 refine cq ?_
 refine nt ?_
 refine aD ?_
 refine bD (ek (t:=Tl) (x:=([]:(List Int))) 2 rfl .nil rfl rfl) ?_
 cases h
 exact ra
def jr(k:Nat)(a0:Px):Option (List Int):=
 some a0
theorem rT(k:Nat)(a0:Px)(r:(List Int))(h:jr k a0=some r):
 c6 Tryz.prog 183 [.rep Sl a0] [] (λ_:Unit=>(bA [.rep Tl r],[])):=by
 unfold jr at h
 replace h:=bb h
 refine c6.of 5 Tryz.func183 rfl Tryz.ntmps183 rfl λS w0=>?_
 refine sr ?_
 refine bx λb1=>?_
 refine cq ?_
 refine nt ?_
 refine sr ?_
 refine fl NP ?_
 refine lo dO ?_
 refine aq ?_
 refine nt ?_
 refine aD ?_
 cases h
 exact ra
def cp(k:Nat)(a0:ab)(a1:(List Int))(r5:(List Int)):Nat->Int->Option (Except Int Unit)
 |0,_=>none
 |n+1,y6=>
  if y6 < (r5.length:Int) then((aG r5 y6).bind λx8=>
  (bU (0≤x8/\x8 < 5)).bind λ_=>
  (aG a1 x8).bind λe=>
  if(uh 0 a0.2.1)≤e then(some (.error x8)) else((ck (y6+1)).bind λc=>
  cp k a0 a1 r5 n c)) else(some (.ok ()))
def dP(k:Nat)(a0:ab)(a1:(List Int))(a2:Int)(a3:Int):Option Int:=
 bE (α:=Unit) ((eR k k a0 a2 a3).bind λr4=>
 (Kw r4 (λn=>ju k n) (λl=>jr k l)).bind λr5=>
 cp k a0 a1 r5 k 0) (some) λ_=>
 some (-1:Int)
theorem kV{M:Md Tryz.prog}{bm:Nat}{c0 c1 c2 c3 c4 c5:Value}(hK:Kn M bm 0 [c0,c1,c2,c3,c4,c5])(k:Nat)(a0:ab)(a1:(List Int))(a2:Int)(a3:Int)(r:Int)(h:dP k a0 a1 a2 a3=some r):
    cD M 100 [.rep (.mo (Pv bm) [c0,c1,c2,c3,c4,c5] ak) a0,.rep Tr a1,.eq (.int .i64 a2),.eq (.int .i64 a3)] [] (λ_:Unit=>(bA [.eq (.int .i64 r)],[])):=by
  unfold dP at h
  replace h:=bb h
  refine cD.of 33 Tryz.func100 rfl Tryz.ntmps100 rfl λS w0=>?_
  refine ai ?_
  refine ae ?_
  refine aW rfl rfl rfl (yp rfl rfl) ⟨rfl,trivial⟩ λb1=>?_
  refine Ge rfl ?_
  refine aH ?_
  refine ax ?_
  show JC _ _ _ _ _
  refine cu (Z:=Unit) (α:=Unit) (λz3 x2=>[]) (λz3 x2=>[]) (λe=>e=r) h (λe h=>Option.some.inj h) (λK hR h=>?_) (λz3 x2 h=>?_)
  .
    refine ai ?_
    refine ae ?_
    refine iZ rfl rfl ?_
    refine iZ rfl rfl ?_
    refine iZ rfl rfl ?_
    obtain⟨r4,D,h⟩:=aa h
    have E:=mE hK k k a0 a2 a3 r4 D
    refine cG rfl (bv [.tmp 11,.tmp 12,.tmp 13] rfl rfl J9 rfl E) ⟨rfl,rfl,rfl,trivial⟩ ?_
    obtain⟨r5,c,h⟩:=aa h
    refine cG rfl (MQ (r:=.rep Tl r5) rfl rfl xG xF (λn hd=>.agI (rW k n r5 (by rw [hd] at c;exact c))) (λl hd=>.agS (rT k l r5 (by rw [hd] at c;exact c)))) ⟨rfl,trivial⟩ ?_
    refine cG rfl (pi rfl rfl gi) ⟨rfl,trivial⟩ ?_
    refine fZ rfl ?_
    refine aH ?_
    refine ax ?_
    show JC _ _ _ _ _
    refine ah ?_
    refine aC (λz7 y6=>[(0,.rep (.mo (Pv bm) [c0,c1,c2,c3,c4,c5] ak) a0),(5,.eq (Pv b1)),(15,.rep Tl r5),(16,.eq (.int .i64 (r5.length:Int))),(17,.eq (.int .i64 y6))]) (λz7 y6=>[.obj b1 106 (.rep Tr a1)]) (cp k a0 a1 r5) k () 0 (λ_=>rfl) h (SE.fin [0] ⟨rfl,rfl,rfl,rfl,rfl,trivial⟩ rfl) (λn z7 y6 h=>?_)
    unfold cp at h
    refine ai ?_
    refine ae ?_
    refine cG rfl (bh rfl) ⟨rfl,rfl,trivial⟩ ?_
    refine aH ?_
    refine ax ?_
    show JC _ _ _ _ _
    refine ai ?_
    refine j9 rfl (λhb=>?_) (λhb=>?_)
    . replace h:=eh (va hb) h
      refine bg ?_
      refine ax ?_
      show JC _ _ _ _ _
      refine ai ?_
      refine ah ?_
      refine ai ?_
      refine ae ?_
      obtain⟨x8,y,h⟩:=aa h
      refine cG rfl (aA (t:=Ti) rfl gi bR y) ⟨rfl,rfl,trivial⟩ ?_
      refine cG rfl (am (t:=Ti) rfl bR rfl) ⟨rfl,trivial⟩ ?_
      refine wZ rfl rfl ?_
      refine aH ?_
      refine ax ?_
      show JC _ _ _ _ _
      refine ai ?_
      refine bB ?_
      refine gk rfl rfl rfl (ba rfl) ⟨rfl,trivial⟩ ?_
      obtain⟨u9,u,h⟩:=aa h
      refine gk rfl rfl rfl (eK rfl sG bR (ap u).1 (ap u).2) ⟨rfl,rfl,trivial⟩ ?_
      obtain⟨F,s,h⟩:=aa h
      refine Ao 0 rfl rfl rfl rfl (oN (t:=Ti) (off:=0) (i:=x8) (N:=5) rfl bR (λ_=>rfl) rfl rfl rfl rfl s) ⟨rfl,trivial⟩ ?_
      refine gk rfl rfl rfl (ba rfl) ⟨rfl,trivial⟩ ?_
      refine gk rfl rfl rfl (my rfl) ⟨rfl,trivial⟩ ?_
      refine gk rfl rfl rfl (iF rfl iT) ⟨rfl,trivial⟩ ?_
      refine gk rfl rfl rfl (jy 1 false rfl qj rfl rfl) ⟨rfl,trivial⟩ ?_
      refine gk rfl rfl rfl (kw (t:=Ti) rfl bR (hK.sub 1 1 rfl (le_of_ble_eq_true rfl)) rfl rfl) ⟨rfl,trivial⟩ ?_
      refine gk rfl rfl rfl (I5 rfl rfl) ⟨rfl,rfl,trivial⟩ ?_
      refine EQ (by kernel_rfl) cY ?_
      refine cG rfl (iV rfl) ⟨rfl,rfl,trivial⟩ ?_
      refine aH ?_
      refine ax ?_
      show JC _ _ _ _ _
      refine j9 rfl (λhb=>?_) (λhb=>?_)
      . replace h:=eh (va hb) h
        refine ai ?_
        refine ae ?_
        refine iZ rfl rfl ?_
        refine wZ rfl rfl ?_
        refine aH ?_
        refine ax ?_
        show JC _ _ _ _ _
        refine aD ?_
        refine aX ?_
        refine be ?_
        refine be ?_
        refine aX ?_
        refine be ?_
        obtain rfl:=hR _ h
        exact aS () [_] 0 ⟨rfl,trivial⟩ rfl
      . replace h:=cK (vb hb) h
        refine bg ?_
        refine aJ ?_
        refine ax ?_
        show JC _ _ _ _ _
        refine ae ?_
        obtain⟨x,j,h⟩:=aa h
        refine cG rfl (aU rfl j) ⟨rfl,rfl,trivial⟩ ?_
        refine iZ rfl rfl ?_
        refine aH ?_
        refine ax ?_
        exact xb ((),x) h (SE.fin [0] ⟨rfl,rfl,rfl,rfl,rfl,trivial⟩ rfl)
    . replace h:=cK (vb hb) h
      refine eQ ?_
      refine bp ?_
      refine bp ?_
      refine cM ?_
      refine ax ?_
      exact xb ((),()) h (SE.fin [] trivial rfl)
  .
    refine ai ?_
    refine ae ?_
    refine Ge rfl ?_
    refine aH ?_
    refine ax ?_
    show JC _ _ _ _ _
    refine aD ?_
    obtain rfl:=Option.some.inj h
    exact aS () [_] 0 ⟨rfl,trivial⟩ rfl
def cO(k:Nat)(a0:ab)(a1:(List Int))(a2:Int):Nat->((List Int)×Int)->Option (List Int)
 |0,_=>none
 |n+1,y6=>
  if y6.2 < a0.1 then((((eR k k a0 y6.2 a2).bind λc=>
  if MG c=true then(if a0.2.2.2.1≤(SH c) then((bU (0≤y6.2/\y6.2 < 5)).bind λ_=>
  some (List.set y6.1 (Int.toNat y6.2) (-1:Int))) else(some y6.1)) else(if¬(MG c=true) then((bU (0≤y6.2/\y6.2 < 5)).bind λ_=>
  (aG a1 y6.2).bind λl=>
  if 0≤l then((bU (0≤y6.2/\y6.2 < 5)).bind λ_=>
  (aG a1 y6.2).bind λj=>
  (ck (j+1)).bind λh=>
  (bU (0≤y6.2/\y6.2 < 5)).bind λ_=>
  some (List.set y6.1 (Int.toNat y6.2) h)) else((dP k a0 a1 y6.2 a2).bind λr=>
  if 0≤r then((bU (0≤y6.2/\y6.2 < 5)).bind λ_=>
  some (List.set y6.1 (Int.toNat y6.2) 0)) else(some y6.1))) else(some y6.1))):Option ((List Int))).bind λx8=>
  (ck (y6.2+1)).bind λe=>
  cO k a0 a1 a2 n (x8,e)) else(some y6.1)
def iH(k:Nat)(a0:ab)(a1:(List Int))(a2:Int):Option (List Int):=
 ((cO k a0 a1 a2 k (a1,0)):Option ((List Int))).bind λx4=>
 some x4
theorem s7{M:Md Tryz.prog}{bm:Nat}{c0 c1 c2 c3 c4 c5:Value}(hK:Kn M bm 0 [c0,c1,c2,c3,c4,c5])(k:Nat)(a0:ab)(a1:(List Int))(a2:Int)(r:(List Int))(h:iH k a0 a1 a2=some r):
 cD M 91 [.rep (.mo (Pv bm) [c0,c1,c2,c3,c4,c5] ak) a0,.rep Tr a1,I a2] [] (λ_:Unit=>(bA [.rep Tr r],[])):=by
 unfold iH at h
 replace h:=bb h
 refine cD.of 60 Tryz.func91 rfl Tryz.ntmps91 rfl λS w0=>?_
 refine sr ?_
 refine bx λb1=>?_
 refine aW rfl rfl rfl (bq rfl ES FW) trivial λb2=>?_
 refine nt ?_
 refine sr ?_
 refine fr 1 ?_
 refine lo fY ?_
 refine aW rfl rfl rfl (bq rfl ES FW) trivial λb3=>?_
 refine aO rfl rfl (aK rfl fY rfl rfl rfl) ⟨rfl,rfl,trivial⟩ ?_
 refine nt ?_
 refine aE (Z:=Unit) (α:=(List Int)) (λz5 x4=>[(6,Pt b2),(7,Pt b3)]) (λz5 x4=>[.obj b2 106 (.rep Tr [0,0,0,0,0]),.obj b3 106 (.rep Tr x4)]) h (λK h=>?_) (λz5 x4 h=>?_)
 .
  refine sr (mq ?_);refine ja (my rfl) ?_;refine ja (iF rfl iT) ?_;refine ja (jy 1 false rfl fq rfl rfl) ?_;refine ja (kw (t:=Ti) rfl bR (hK.sub 0 1 rfl (le_of_ble_eq_true rfl)) rfl rfl) ?_;refine fZ rfl ?_;refine nt (ah (aC (λz7 y6=>[(0,.rep (.mo (Pv bm) [c0,c1,c2,c3,c4,c5] ak) a0),(2,I a2),(4,Pt b1),(6,Pt b2),(7,Pt b3),(16,I a0.1),(17,I y6.2)]) (λz7 y6=>[.obj b1 106 (.rep Tr a1),.obj b2 106 (.rep Tr [0,0,0,0,0]),.obj b3 106 (.rep Tr y6.1)]) (cO k a0 a1 a2) k () (a1,0) (λ_=>rfl) h (SE.fin [1,2,0] ⟨rfl,rfl,rfl,rfl,rfl,rfl,rfl,trivial⟩ rfl) (λn z7 y6 h=>?_)));unfold cO at h;refine sr (jb (bh rfl) ?_);refine nt (ai (ci h (λh=>?_) (λh=>?_)))
  .refine sk (aE (Z:=Unit) (α:=(List Int)) (λz9 x8=>[(0,.rep (.mo (Pv bm) [c0,c1,c2,c3,c4,c5] ak) a0),(2,I a2),(4,Pt b1),(6,Pt b2),(7,Pt b3),(16,I a0.1),(17,I y6.2)]) (λz9 x8=>[.obj b1 106 (.rep Tr a1),.obj b2 106 (.rep Tr [0,0,0,0,0]),.obj b3 106 (.rep Tr x8)]) h (λK h=>?_) (λz9 x8 h=>?_))
   .refine ah (sr (mq ?_));refine aq (nt (sr ?_));iterate 3 refine mq ?_
    obtain⟨U,F,h⟩:=aa h;refine jc (bv [.tmp 20,.tmp 21,.tmp 22] rfl rfl J9 rfl (mE hK k k a0 y6.2 a2 U F)) ?_;refine nt (ah (sr (cG rfl (E4 rfl Iq (by decide)) ⟨rfl,trivial⟩ ?_)));refine xr ?_;refine xr ?_;refine nt (cv h (λh=>?_) (λh=>?_))
    .refine sr (aW rfl rfl rfl (bq rfl HT PG) trivial λXe=>?_);refine aO rfl rfl (aK rfl O6 trivial rfl rfl) ⟨rfl,rfl,trivial⟩ ?_;refine nt (ai (bB ?_));refine da (au rfl FD) ?_;refine ea 0 (ao rfl bR jI rfl) ?_;refine dm ?_;refine da (my rfl) ?_;refine da (iF rfl iT) ?_;refine da (jy 1 false rfl uk rfl rfl) ?_;refine da (kw (t:=Ti) rfl bR (hK.sub 3 1 rfl (le_of_ble_eq_true rfl)) rfl rfl) ?_;refine df cY ?_;refine jb (iV rfl) ?_;refine nt (ci h (λh=>?_) (λh=>?_))
     .refine ae (mq ?_);obtain⟨qt,j,h⟩:=aa h;refine jb (eK rfl sG bR (ap j).1 (ap j).2) ?_;refine fr 3 ?_;refine aO rfl rfl (iE (t:=Ti) (off:=0) (i:=y6.2) (N:=5) rfl bR .int rfl rfl rfl rfl (ap j).1 (ap j).2 rfl) ⟨rfl,rfl,trivial⟩ ?_;refine aH (aJ (bn ?_));exact jz ((),List.set y6.1 (Int.toNat y6.2) (-1:Int)) h [2,3,0]
     .refine bg (aJ (bn ?_));exact jz ((),y6.1) h [1,2,3]
    .refine sr (cG rfl (MV rfl P1 (by decide)) ⟨rfl,trivial⟩ ?_);refine xr ?_;refine xr ?_;refine nt (cw h (λh=>?_) (λh=>?_))
     .refine sr (aW rfl rfl rfl (bq rfl OX UA) trivial λzz=>?_);refine aO rfl rfl (aK rfl SA trivial rfl rfl) ⟨rfl,rfl,trivial⟩ ?_;refine nt (sr (mq ?_));obtain⟨mw,s,h⟩:=aa h;refine jb (eK rfl sG bR (ap s).1 (ap s).2) ?_;obtain⟨Y,D,h⟩:=aa h;refine fr 1 ?_;refine ka (oN (t:=Ti) (off:=0) (i:=y6.2) (N:=5) rfl bR (λ_=>rfl) rfl rfl rfl rfl D) ?_;refine jb (iV rfl) ?_;refine nt (ci h (λh=>?_) (λh=>?_))
      .refine ae ?_;iterate 2 refine mq ?_
       obtain⟨u16,l,h⟩:=aa h;refine jb (eK rfl sG bR (ap l).1 (ap l).2) ?_;obtain⟨X,y,h⟩:=aa h;refine ka (oN (t:=Ti) (off:=0) (i:=y6.2) (N:=5) rfl bR (λ_=>rfl) rfl rfl rfl rfl y) ?_;obtain⟨O,x,h⟩:=aa h;refine jb (aU rfl x) ?_;obtain⟨mc,e,h⟩:=aa h;refine jb (eK rfl sG bR (ap e).1 (ap e).2) ?_;refine fr 3 ?_;refine aO rfl rfl (iE (t:=Ti) (off:=0) (i:=y6.2) (N:=5) rfl bR .int rfl rfl rfl rfl (ap e).1 (ap e).2 rfl) ⟨rfl,rfl,trivial⟩ ?_;refine aH (aJ (bn ?_));exact jz ((),List.set y6.1 (Int.toNat y6.2) O) h [1,3,0]
      .refine sr (mq ?_);refine lo fY ?_;iterate 2 refine mq ?_
       obtain⟨Q,E,h⟩:=aa h;refine cG rfl (bv [.tmp 50,.tmp 51,.tmp 52,.tmp 53] rfl rfl Po rfl (kV hK k a0 a1 y6.2 a2 Q E)) ⟨rfl,rfl,rfl,rfl,trivial⟩ ?_;refine jb (iV rfl) ?_;refine nt (ci h (λh=>?_) (λh=>?_))
       .refine ae (mq ?_);obtain⟨gw,c,h⟩:=aa h;refine jb (eK rfl sG bR (ap c).1 (ap c).2) ?_;refine fr 3 ?_;refine aO rfl rfl (iE (t:=Ti) (off:=0) (i:=y6.2) (N:=5) rfl bR .int rfl rfl rfl rfl (ap c).1 (ap c).2 rfl) ⟨rfl,rfl,trivial⟩ ?_;refine aH (aJ (bn ?_));exact jz ((),List.set y6.1 (Int.toNat y6.2) 0) h [1,3,0]
       .refine bg (aJ (bn ?_));exact jz ((),y6.1) h [0,2,3]
     .refine bg (aJ (bn ?_));exact jz ((),y6.1) h [0,1,2]
   .refine ae ?_;obtain⟨J,u,h⟩:=aa h;refine jb (aU rfl u) ?_;refine mq (nl ?_);exact jz ((),(x8,J)) h [0,1,2]
  .refine xa ?_;exact jz ((),y6.1) h [1,2]
 .
  refine sr (fr 1 ?_);refine lo fY ?_;refine fr 1 ?_;refine aO rfl rfl (aK rfl fY rfl rfl rfl) ⟨rfl,rfl,trivial⟩ ?_;refine nt (aD ?_);obtain rfl:=Option.some.inj h;exact aS () [.rep Tr x4] 0 ⟨⟨_,_,_,_,_,rfl,(.head _),fY,(pu),rfl⟩,trivial⟩ rfl
def nC(k:Nat)(a0:List Int):Option (List Int):=
 (bU (aR (length a0))).bind λ_=>some a0
theorem tG(k:Nat)(a0:List Int)(r:List Int)(h:nC k a0=some r):
 c6 Tryz.prog 62 [.rep Tl a0] [] (λz:Value=>(bA [.eq z],[.sl z 3 Ti r])):=by
 unfold nC at h
 replace h:=bb h
 refine c6.of 8 Tryz.func62 rfl Tryz.ntmps62 rfl λS w0=>?_
 obtain⟨u1,c,h⟩:=aa h
 cases h
 refine sr ?_
 refine cq ?_
 refine nt ?_
 refine ai ?_
 refine sr ?_
 refine mq ?_
 refine aV (Δ:=[]) (F:=_) (λ_ _ _=>aj rfl _) rfl rfl (MS rfl gi) ⟨rfl,rfl,trivial⟩ λb=>?_
 refine nt ?_
 refine j9 rfl (λhb=>?_) (λhb=>?_)
 .
  refine sr (cq (nt (rx ?_)));obtain rfl:=b.2 hb;refine bD (SE.nil 3 Ti) ?_;exact aS (.slice none 0 0) [.eq (.slice none 0 0)] 1 ⟨rfl,trivial⟩ rfl
 .
  refine sk (sr (aW rfl rfl rfl (gR (t:=Ti) [] [] rfl rfl cZ .nil rfl rfl) trivial λv1=>?_));refine mq ?_;refine cC rfl rfl rfl (bf rfl rfl cZ (by simpa using ap c)) ⟨rfl,rfl,trivial⟩ λv2=>?_;refine aq (nt (aD ?_));exact aS v2 [.eq v2] 1 ⟨rfl,trivial⟩ rfl
def jj(k:Nat)(a0:bV)(a1:zU):Option (aQ×bV):=
 (ck (a1.1 - 1)).bind λx3=>
 (cy k (a0.1,a0.2.1,a0.2.2) x3).bind λr4=>
 (cy k (r4.2.1,r4.2.2.1,r4.2.2.2) (a1.2.2.2.2.1.length:Int)).bind λr5=>
 (fW k (r5.2.1,r5.2.2.1,r5.2.2.2) 2).bind λr6=>
 some ((r4.1,r5.1,r6.1),(r6.2.1,r6.2.2.1,r6.2.2.2))
theorem uf(k:Nat)(a0:bV)(c:Nat)(a1:zU)(r:aQ×bV)(h:jj k a0 a1=some r):
 c6 Tryz.prog 30 [Pt c,.rep EY a1] [.obj c 60 (.agg (.pair (.rep Tl a0.1) (.pair (I a0.2.1) (.eq (.int .u64 a0.2.2)))))] (λ_:Unit=>(bA [.rep aI r.1],[.obj c 60 (.agg (.pair (.rep Tl r.2.1) (.pair (I r.2.2.1) (.eq (.int .u64 r.2.2.2)))))])):=by
 unfold jj at h
 replace h:=bb h
 refine c6.of 18 Tryz.func30 rfl Tryz.ntmps30 rfl λS w0=>?_
 refine sr ?_
 refine bx λb1=>?_
 refine aW rfl rfl rfl (bq rfl Gu Oq) trivial λb2=>?_
 refine nt ?_
 refine ai ?_
 refine HI [1,2,3,5,6,7,8,10,0,4,9,11,12,13] (by kernel_rfl) ?_
 refine bM rfl rfl rfl (au rfl fq) ⟨rfl,trivial⟩ ?_
 refine iO 1 rfl rfl rfl rfl (ao rfl bR jI rfl) ⟨rfl,trivial⟩ ?_
 obtain⟨x3,E,h⟩:=aa h
 refine bM rfl rfl rfl (eJ rfl E) ⟨rfl,rfl,trivial⟩ ?_
 refine bM rfl rfl rfl (ba rfl) ⟨rfl,trivial⟩ ?_
 refine bM rfl rfl rfl (au rfl bL) ⟨rfl,trivial⟩ ?_
 refine iO 1 rfl rfl rfl rfl (ao rfl eL jI rfl) ⟨rfl,trivial⟩ ?_
 refine bM rfl rfl rfl (pi rfl rfl oC) ⟨rfl,trivial⟩ ?_
 refine bM rfl rfl rfl (ba rfl) ⟨rfl,trivial⟩ ?_
 refine bM rfl rfl rfl (ba rfl) ⟨rfl,trivial⟩ ?_
 refine uE 9 [true,true,true,false,false,false,false,false,true] [9,14] [1] [.obj b1 28 (.rep EY a1)] rfl (by kernel_rfl) (by kernel_rfl) (by kernel_rfl) cY (λvs hv hB=>?_)
 obtain⟨w0,Xe,rfl,D⟩:=aF hv
 obtain⟨w1,zz,rfl,y⟩:=aF D
 obtain⟨w2,qt,rfl,x⟩:=aF y
 obtain⟨w3,mw,rfl,u⟩:=aF x
 obtain⟨w4,mc,rfl,s⟩:=aF u
 obtain⟨w5,gw,rfl,n⟩:=aF s
 obtain⟨w6,Z,rfl,l⟩:=aF n
 obtain⟨w7,Y,rfl,j⟩:=aF l
 obtain⟨w8,X,rfl,e⟩:=aF j
 obtain rfl:=qK e
 refine⟨[1,0,2],[.obj b2 46 (.agg (.pair (I 0) (.pair (I 0) (.eq (.bool false))))),.obj c 60 (.agg (.pair (.rep Tl a0.1) (.pair (I a0.2.1) (.eq (.int .u64 a0.2.2)))))],by kernel_rfl,by decide,?_⟩
 obtain⟨r4,M,h⟩:=aa h
 have U:=cI k (a0.1,a0.2.1,a0.2.2) c x3 r4 M
 refine qx 1 rfl ?_
 refine wX rfl rfl rfl rfl (av [.tmp 5,.tmp 8] rfl rfl J7 rfl U) ⟨rfl,rfl,trivial⟩ (by kernel_rfl) ?_
 obtain⟨r5,J,h⟩:=aa h
 have Q:=cI k (r4.2.1,r4.2.2.1,r4.2.2.2) c (a1.2.2.2.2.1.length:Int) r5 J
 refine wX rfl rfl rfl rfl (av [.tmp 10,.tmp 13] rfl rfl J7 rfl Q) ⟨rfl,rfl,trivial⟩ (by kernel_rfl) ?_
 refine Rx (by kernel_rfl) ?_
 obtain⟨r6,F,h⟩:=aa h
 have O:=kD k (r5.2.1,r5.2.2.1,r5.2.2.2) c 2 r6 F
 refine fr 1 ?_
 refine kb (av [.tmp 15,.const (.int .i64 (2))] rfl rfl QX rfl O) ?_
 refine jc (eU [(0,.tmp 9,_),(1,.tmp 14,_),(2,.tmp 16,_)] rfl SI Gu PD (kR ⟨rfl,rfl,rfl,trivial⟩) rfl) ?_
 refine fr 2 ?_
 refine aO rfl rfl (aK rfl nB trivial rfl rfl) ⟨rfl,rfl,trivial⟩ ?_
 refine nt ?_
 refine aD ?_
 refine bD (gZ (a:=.agg (.pair (I r4.1) (.pair (I r5.1) (.eq (.bool r6.1))))) (a':=.rep aI (r4.1,r5.1,r6.1)) (kg (.agg (.pair .int (.pair .int .bool))))) ?_
 refine bD (SE.fin (Γ':=[(4,_)]) [1,0,2] ⟨rfl,trivial⟩ rfl) ?_
 cases h
 exact aS () [.rep aI (r4.1,r5.1,r6.1)] 1 ⟨⟨_,_,_,_,_,rfl,(.tail _ (.head _)),nB,(pu),rfl⟩,trivial⟩ rfl
def dH{σ:Type}(k:Nat)(a0:Int)(a3:Int)(self:Int->Int->σ->Option (Bool×σ)):Nat->(Int×σ)->Option (Except (Bool×σ) (σ))
 |0,_=>none
 |n+1,y5=>
  if y5.1 < a3 then((gU k a0 y5.1).bind λr7=>
  (ck (y5.1+1)).bind λx8=>
  (self r7 x8 y5.2).bind λr9=>
  if¬(r9.1=true) then(some (.error (false,r9.2))) else((ck (y5.1+1)).bind λc=>
  dH k a0 a3 self n (c,r9.2))) else(some (.ok y5.2))
def dw{σ:Type}(k:Nat)(Y:σ->Int->Option (σ×Bool))(a3:Int):Nat->Int->Int->σ->Option (Bool×σ)
 |0,_,_,_=>none
 |m0+1,a0,a1,s0=>
  (Y s0 a0).bind λr1=>
  if¬(r1.2=true) then(some (false,r1.1)) else(bE (α:=σ) (dH k a0 a3 (dw k Y a3 m0) k (a1,r1.1)) (some) λx3=>
  some (true,x3))
theorem t6{M:Md Tryz.prog}{σ Z:Type}(E:Z->σ->List D)(l:Nat)(Y:σ->Int->Option (σ×Bool))(k:Nat)(u:Nat)(a3:Int)(j:Nat)(c:Nat)(hY:∀z s p r,Y s p=some r->YT M l [.eq (.int .u8 p)] (E z s) (λz':Z=>(.eq (.bool r.2),E z' r.1))):
 ∀(n:Nat) (a0:Int) (a1:Int) (z0:Z) (s0:σ) (r:Bool×σ),dw k Y a3 n a0 a1 s0=some r->cD M 71 [.eq (.int .u8 a0),I a1,Pt u,Pt j,Pt c] ([.obj u 80 (.eq (.func (.yield l) #[] #[])),.obj j 3 (I a3),.obj c 79 (.eq (.func (.func 71) #[] #[(Pv u),(Pv j),(Pv c)]))]++E z0 s0) (λz:Z=>(bA [.eq (.bool r.1)],[.obj u 80 (.eq (.func (.yield l) #[] #[])),.obj j 3 (I a3),.obj c 79 (.eq (.func (.func 71) #[] #[(Pv u),(Pv j),(Pv c)]))]++E z r.2)):=by
 intro n
 induction n with
 |zero=>intro a0 a1 z0 s0 r h;cases h
 |succ m0 ih=>
  intro a0 a1 z0 s0 r h;rw [dw] at h;replace h:=bb h;refine cD.of 27 Tryz.func71 rfl Tryz.ntmps71 rfl λS w0=>?_;refine sr (cq (nt (ai (sr ?_))));refine lo Vf ?_;refine mq ?_;obtain⟨r1,U,h⟩:=aa h;refine fr 2 ?_;refine fr 2 ?_;refine fr 2 ?_;refine KY [.obj u 80 (.eq (.func (.yield l) #[] #[])),.obj j 3 (I a3),.obj c 79 (.eq (.func (.func 71) #[] #[(Pv u),(Pv j),(Pv c)]))] rfl rfl rfl (MK [.tmp 10] rfl rfl rfl (hY z0 s0 a0 r1 U)) ⟨rfl,rfl,trivial⟩ λz2=>?_;refine ja (fo rfl) ?_;refine nt (cw h (λh=>?_) (λh=>?_))
  .refine sr (cq (nt (rx ?_)));cases h;exact vA z2 [_] ⟨rfl,trivial⟩ rfl
  .refine sk (cu (Z:=Z) (α:=σ) (λz4 x3=>[]) (λz4 x3=>[.obj u 80 (.eq (.func (.yield l) #[] #[])),.obj j 3 (I a3),.obj c 79 (.eq (.func (.func 71) #[] #[(Pv u),(Pv j),(Pv c)]))]++E z4 x3) (λe=>e=r) h (λe h=>Option.some.inj h) (λK hR h=>?_) (λz4 x3 h=>?_))
   .refine sr (mq ?_);refine aq (nt (ah ?_));refine aC (Z:=Z) (α:=Int×σ) (λz6 y5=>[(0,.eq (.int .u8 a0)),(3,Pt j),(4,Pt c),(8,I y5.1)]) (λz6 y5=>[.obj j 3 (I a3),.obj c 79 (.eq (.func (.func 71) #[] #[(Pv u),(Pv j),(Pv c)])),.obj u 80 (.eq (.func (.yield l) #[] #[]))]++E z6 y5.2) (dH k a0 a3 (dw k Y a3 m0)) k z2 (a1,r1.1) (λ_=>rfl) h (lW [.obj u 80 (.eq (.func (.yield l) #[] #[])),.obj j 3 (I a3),.obj c 79 (.eq (.func (.func 71) #[] #[(Pv u),(Pv j),(Pv c)]))] (E z2 r1.1) [1,2,0] ⟨rfl,rfl,rfl,rfl,trivial⟩ rfl) (λn z6 y5 h=>?_);unfold dH at h;refine ai (sr (mq ?_));refine lo bR ?_;refine jb (bh rfl) ?_;refine nt (ci h (λh=>?_) (λh=>?_))
    .refine sk (ai (ah (ai (bB ?_))));refine ea 1 (ao rfl P2 jI rfl) ?_;refine dm ?_;refine dm ?_;obtain⟨r7,Q,h⟩:=aa h;refine db (av [.tmp 20,.tmp 21] rfl rfl QW rfl (lB k a0 y5.1 r7 Q)) ?_;refine dm ?_;obtain⟨x8,J,h⟩:=aa h;refine db (aU rfl J) ?_;refine df cY ?_;obtain⟨r9,O,h⟩:=aa h;refine fr 1 ?_;refine fr 1 ?_;refine fr 2 ?_;refine CZ rfl rfl rfl (sY (fs:=[]) (cs:=[(Pv u),(Pv j),(Pv c)]) (ags:=[.eq (.int .u8 r7),I x8]) [.tmp 22,.tmp 24] rfl rfl TW rfl (ih r7 x8 z6 y5.2 r9 O)) ⟨rfl,rfl,rfl,trivial⟩ λx=>?_;refine ja (fo rfl) ?_;refine nt (cw h (λh=>?_) (λh=>?_))
     .refine sr (cq (nt (aD (br (aX (be ?_))))));obtain rfl:=hR _ h;exact vA x [_] ⟨rfl,trivial⟩ rfl
     .refine bg (aJ (tn (ae (mq ?_))));obtain⟨F,y,h⟩:=aa h;refine jb (aU rfl y) ?_;refine aq (nl ?_);exact xb (x,(F,r9.2)) h (lW [.obj u 80 (.eq (.func (.yield l) #[] #[])),.obj j 3 (I a3),.obj c 79 (.eq (.func (.func 71) #[] #[(Pv u),(Pv j),(Pv c)]))] (E x r9.2) [1,2,0] ⟨rfl,rfl,rfl,rfl,trivial⟩ rfl)
    .refine xa ?_;exact xb (z6,y5.2) h (lW [.obj j 3 (I a3),.obj c 79 (.eq (.func (.func 71) #[] #[(Pv u),(Pv j),(Pv c)])),.obj u 80 (.eq (.func (.yield l) #[] #[]))] (E z6 y5.2) [2,0,1] trivial rfl)
   .refine sr (cq (nt (aD ?_)));cases h;exact vA z4 [_] ⟨rfl,trivial⟩ rfl
def jJ{σ:Type}(k:Nat)(Y:σ->Int->Option (σ×Bool))(a1:Int)(s0:σ):Option (σ):=
 (dw k Y a1 k 0 0 s0).bind λr3=>
 some r3.2
theorem qc{M:Md Tryz.prog}{σ Z:Type}(E:Z->σ->List D)(l:Nat)(Y:σ->Int->Option (σ×Bool))(k:Nat)(a1:Int)(c:Nat)(hY:∀z s p r,Y s p=some r->YT M l [.eq (.int .u8 p)] (E z s) (λz':Z=>(.eq (.bool r.2),E z' r.1))):
 ∀(z0:Z) (s0:σ) (r:σ),jJ k Y a1 s0=some r->cD M 70 [.eq (.func (.yield l) #[] #[]),Pt c] ([.obj c 3 (I a1)]++E z0 s0) (λz:Z=>(bA [],[.obj c 3 (I a1)]++E z r)):=by
 intro z0 s0 r h
 unfold jJ at h
 replace h:=bb h
 refine cD.of 7 Tryz.func70 rfl Tryz.ntmps70 rfl λS w0=>?_
 refine sr ?_
 refine bx λb1=>?_
 refine nt ?_
 refine sr ?_
 refine aW rfl rfl rfl (bq rfl U6 Wy) trivial λb2=>?_
 refine nt ?_
 refine sr ?_
 refine jc (tP [] [.tmp 2,.tmp 1,.tmp 3] [] [(Pv b1),(Pv c),(Pv b2)] rfl rfl rfl) ?_
 refine aO rfl rfl (aK rfl P2 rfl rfl rfl) ⟨rfl,rfl,trivial⟩ ?_
 refine nt ?_
 refine ae ?_
 refine lo P2 ?_
 obtain⟨r3,e,h⟩:=aa h
 have j:=t6 E l Y k b1 a1 c b2 hY k 0 0 z0 s0 r3 e
 refine fr 2 ?_
 refine fr 2 ?_
 refine CZ rfl rfl rfl (sY (fs:=[]) (cs:=[(Pv b1),(Pv c),(Pv b2)]) (ags:=[.eq (.int .u8 0),I 0]) [.const (.int .u8 (0)),.const (.int .i64 (0))] rfl rfl TW rfl j) ⟨rfl,rfl,rfl,trivial⟩ λz4=>?_
 refine aH ?_
 refine lq ?_
 refine bD (lW (Γ':=[]) [.obj b1 80 (.eq (.func (.yield l) #[] #[])),.obj c 3 (I a1),.obj b2 79 (.eq (.func (.func 71) #[] #[(Pv b1),(Pv c),(Pv b2)]))] (E z4 r3.2) [1] trivial rfl) ?_
 cases h
 exact vA z4 [] trivial rfl
theorem s9(a0:Int):c6 Tryz.prog 36 [I a0] [] (λz:Nat=>(bA [.eq (.func (.func 70) #[] #[(Pv z)])],[.obj z 3 (I a0)])):=by
 refine c6.of 4 Tryz.func36 rfl Tryz.ntmps36 rfl λS w0=>?_;refine sr (bx λz=>?_);refine cq (nt (sr ?_));refine ja (tP [] [.tmp 1] [] [(Pv z)] rfl rfl rfl) ?_;refine aq (nt (aD ?_));exact aS z [_] 1 ⟨rfl,trivial⟩ rfl
def dV(k:Nat)(a0:Int):Nat->((List Int)×Int)->Option (List Int)
 |0,_=>none
 |n+1,y3=>
  if y3.2 < 5 then((((fa k a0 y3.2).bind λr7=>
  if r7=true then((bU (aR (length y3.1+length [y3.2]))).bind λ_=>
  some (y3.1++[y3.2])) else(some y3.1)):Option ((List Int))).bind λx5=>
  (ck (y3.2+1)).bind λc=>
  dV k a0 n (x5,c)) else(some y3.1)
def fL(k:Nat)(a0:Int):Option (List Int):=
 ((dV k a0 k (([]:(List Int)),0)):Option ((List Int))).bind λx1=>
 some x1
theorem lC(k:Nat)(a0:Int)(r:(List Int))(h:fL k a0=some r):
 c6 Tryz.prog 33 [.eq (.int .u8 a0)] [] (λ_:Unit=>(bA [.rep Tl r],[])):=by
 unfold fL at h
 replace h:=bb h
 refine c6.of 17 Tryz.func33 rfl Tryz.ntmps33 rfl λS w0=>?_
 refine sr ?_
 refine cq ?_
 refine nt ?_
 refine sr ?_
 refine cq ?_
 refine nt ?_
 refine aE (Z:=Value) (α:=(List Int)) (λz2 x1=>[(3,.eq z2)]) (λz2 x1=>[.sl z2 3 Ti x1]) h (λK h=>?_) (λz2 x1 h=>?_)
 .
  refine sr (fZ rfl ?_);refine nt (ah (fS (SE.nil 3 Ti) ?_));refine aC (λz4 y3=>[(0,.eq (.int .u8 a0)),(3,.eq z4),(5,I y3.2)]) (λz4 y3=>[.sl z4 3 Ti y3.1]) (dV k a0) k (.slice none 0 0) (([]:(List Int)),0) (λ_=>rfl) h (SE.fin [0] ⟨rfl,rfl,rfl,trivial⟩ rfl) (λn z4 y3 h=>?_);unfold dV at h;refine sr (jb (bh rfl) ?_);refine nt (ai (ci h (λh=>?_) (λh=>?_)))
  .refine sk (aE (Z:=Value) (α:=(List Int)) (λz6 x5=>[(0,.eq (.int .u8 a0)),(3,.eq z6),(5,I y3.2)]) (λz6 x5=>[.sl z6 3 Ti x5]) h (λK h=>?_) (λz6 x5 h=>?_))
   .refine ah (sr (mq ?_));refine aq (nt (sr ?_));iterate 2 refine mq ?_
    obtain⟨r7,l,h⟩:=aa h;refine jb (av [.tmp 8,.tmp 9] rfl rfl J8 rfl (iG k a0 y3.2 r7 l)) ?_;refine nt (cv h (λh=>?_) (λh=>?_))
    .refine ae ?_;iterate 2 refine mq ?_
     refine ja (aP (t:=Ti) [(.tmp 12,_)] [y3.2] rfl rfl cZ (.cons rfl .int .nil) rfl rfl) ?_;obtain⟨u8,j,h⟩:=aa h;refine cC rfl rfl rfl (bf rfl rfl cZ (ap j)) ⟨rfl,rfl,trivial⟩ λv9=>?_;refine aq (aH (bn ?_));exact jz (v9,y3.1++[y3.2]) h [0]
    .refine bg (bn ?_);exact jz (z4,y3.1) h [0]
   .refine ae ?_;obtain⟨e,c,h⟩:=aa h;refine jb (aU rfl c) ?_;refine mq (nl ?_);exact jz (z6,(x5,e)) h [0]
  .refine xa ?_;exact jz (z4,y3.1) h [0]
 .
  refine sr (mq ?_);refine aq (nt (aD ?_));refine bD (fu [2,3,16] ⟨rfl,rfl,rfl,trivial⟩) ?_;cases h;exact ra
def lQ(k:Nat)(a0:Int):Option Int:=
 (fL k a0).bind λr1=>
 some (r1.length:Int)
theorem pn(k:Nat)(a0:Int)(r:Int)(h:lQ k a0=some r):
 c6 Tryz.prog 42 [.eq (.int .u8 a0)] [] (λ_:Unit=>(bA [I r],[])):=by
 unfold lQ at h
 replace h:=bb h
 refine c6.of 6 Tryz.func42 rfl Tryz.ntmps42 rfl λS w0=>?_
 refine sr ?_
 refine cq ?_
 refine nt ?_
 refine sr ?_
 refine mq ?_
 obtain⟨r1,c,h⟩:=aa h
 have e:=lC k a0 r1 c
 refine ja (av [.tmp 3] rfl rfl QZ rfl e) ?_
 refine ol gi ?_
 refine aq ?_
 refine nt ?_
 refine aD ?_
 cases h
 exact ra
def oV(k:Nat)(a0:Int):Option Int:=
 (fL k a0).bind λr1=>
 some (r1.length:Int)
def oS(k:Nat)(a0:Int)(a1:Int):Option Int:=
 (lQ k a0).bind λr1=>
 (lQ k a1).bind λr2=>
 (ck (r1 - r2)).bind λx3=>
 some x3
theorem uY(k:Nat)(a0:Int)(a1:Int)(c:Nat)(r:Int)(h:oS k a0 a1=some r):
 c6 Tryz.prog 74 [.eq (.int .u8 a0),.eq (.int .u8 a1),Pt c] [.obj c 83 (.eq (.func (.func 42) #[] #[]))] (λ_:Unit=>(bA [I r],[.obj c 83 (.eq (.func (.func 42) #[] #[]))])):=by
 unfold oS at h
 replace h:=bb h
 refine c6.of 13 Tryz.func74 rfl Tryz.ntmps74 rfl λS w0=>?_
 refine sr ?_
 refine cq ?_
 refine nt ?_
 refine ai ?_
 refine bB ?_
 refine ea 0 (ao rfl Sz jI rfl) ?_
 refine dm ?_
 obtain⟨r1,l,h⟩:=aa h
 have s:=pn k a0 r1 l
 refine db (vn (fs:=[]) (cs:=[]) (ags:=[.eq (.int .u8 a0)]) [.tmp 7] rfl rfl T9 rfl s) ?_
 refine ea 0 (ao rfl Sz jI rfl) ?_
 refine dm ?_
 refine df cY ?_
 obtain⟨r2,j,h⟩:=aa h
 have n:=pn k a1 r2 j
 refine jb (vn (fs:=[]) (cs:=[]) (ags:=[.eq (.int .u8 a1)]) [.tmp 10] rfl rfl T9 rfl n) ?_
 obtain⟨x3,e,h⟩:=aa h
 refine jb (eJ rfl e) ?_
 refine aq ?_
 refine nt ?_
 refine aD ?_
 cases h
 exact aS () [_] 1 ⟨rfl,trivial⟩ rfl
def nD(k:Nat)(a0:Int)(a1:Int):Option Int:=
 (oV k a0).bind λr1=>
 (oV k a1).bind λr2=>
 (ck (r1 - r2)).bind λx3=>
 some x3
def gK(k:Nat)(a0:(List Int)):Nat->(Int×Int)->Option Int
 |0,_=>none
 |n+1,y4=>
  if y4.2 < (a0.length:Int) then((((aG a0 y4.2).bind λx8=>
  (oS k x8 y4.1).bind λr9=>
  if r9 < 0 then((aG a0 y4.2).bind λe=>
  some e) else(some y4.1)):Option (Int)).bind λx6=>
  (ck (y4.2+1)).bind λc=>
  gK k a0 n (x6,c)) else(some y4.1)
def lx(k:Nat)(a0:(List Int)):Option Int:=
 if(a0.length:Int) < 1 then(none) else((aG a0 0).bind λx1=>
 ((gK k a0 k (x1,1)):Option (Int)).bind λx2=>
 some x2)
theorem rK(k:Nat)(a0:(List Int))(c_a1_0:Nat)(r:Int)(h:lx k a0=some r):
 c6 Tryz.prog 73 [.rep (.slice (.int .u8)) a0,.eq (.func (.func 74) #[] #[(Pv c_a1_0)])] [.obj c_a1_0 83 (.eq (.func (.func 42) #[] #[]))] (λ_:Unit=>(bA [.eq (.int .u8 r)],[.obj c_a1_0 83 (.eq (.func (.func 42) #[] #[]))])):=by
 unfold lx at h
 replace h:=bb h
 refine c6.of 33 Tryz.func73 rfl Tryz.ntmps73 rfl λS w0=>?_
 refine sr ?_
 refine cq ?_
 refine nt ?_
 refine ai ?_
 refine sr ?_
 refine mq ?_
 refine ol Di ?_
 refine jb (bh rfl) ?_
 refine nt ?_
 refine ci h (λh=>?_) (λh=>?_)
 .
  cases h
 .
  refine sk (sr (mq ?_));obtain⟨x1,u,h⟩:=aa h;refine jb (aA (t:=(.int .u8)) rfl Di rG u) ?_;refine ja (am (t:=(.int .u8)) rfl rG rfl) ?_;refine aq (nt ?_);refine aE (Z:=Unit) (α:=Int) (λz3 x2=>[(5,.eq (.int .u8 x2))]) (λz3 x2=>[.obj c_a1_0 83 (.eq (.func (.func 42) #[] #[]))]) h (λK h=>?_) (λz3 x2 h=>?_)
  .refine sr (cq (nt (ah ?_)));refine aC (λz5 y4=>[(0,.rep (.slice (.int .u8)) a0),(1,.eq (.func (.func 74) #[] #[(Pv c_a1_0)])),(5,.eq (.int .u8 y4.1)),(6,I y4.2)]) (λz5 y4=>[.obj c_a1_0 83 (.eq (.func (.func 42) #[] #[]))]) (gK k a0) k () (x1,1) (λ_=>rfl) h (SE.fin [0] ⟨rfl,rfl,rfl,rfl,trivial⟩ rfl) (λn z5 y4 h=>?_);unfold gK at h;refine ai (sr ?_);iterate 2 refine mq ?_
   refine ol Di ?_;refine jb (bh rfl) ?_;refine nt (ci h (λh=>?_) (λh=>?_))
   .refine sk (aE (Z:=Unit) (α:=Int) (λz7 x6=>[(0,.rep (.slice (.int .u8)) a0),(1,.eq (.func (.func 74) #[] #[(Pv c_a1_0)])),(5,.eq (.int .u8 x6)),(6,I y4.2)]) (λz7 x6=>[.obj c_a1_0 83 (.eq (.func (.func 42) #[] #[]))]) h (λK h=>?_) (λz7 x6 h=>?_))
    .refine ah (sr ?_);iterate 3 refine mq ?_
     obtain⟨x8,s,h⟩:=aa h;refine jb (aA (t:=(.int .u8)) rfl Di rG s) ?_;refine ja (am (t:=(.int .u8)) rfl rG rfl) ?_;refine mq ?_;obtain⟨r9,x,h⟩:=aa h;refine kc (vn (fs:=[]) (cs:=[(Pv c_a1_0)]) (ags:=[.eq (.int .u8 x8),.eq (.int .u8 y4.1)]) [.tmp 24,.tmp 25] rfl rfl VY rfl (uY k x8 y4.1 c_a1_0 r9 x)) ?_;refine jb (bh rfl) ?_;refine nt (ci h (λh=>?_) (λh=>?_))
     .refine ae ?_;iterate 2 refine mq ?_
      obtain⟨l,e,h⟩:=aa h;refine jb (aA (t:=(.int .u8)) rfl Di rG e) ?_;refine ja (am (t:=(.int .u8)) rfl rG rfl) ?_;refine aq (aH (bn ?_));exact jz ((),l) h [0]
     .refine bg (bn ?_);exact jz ((),y4.1) h [0]
    .refine ae (mq ?_);obtain⟨j,c,h⟩:=aa h;refine jb (aU rfl c) ?_;refine aq (nl ?_);exact jz ((),(x6,j)) h [0]
   .refine xa ?_;exact jz ((),y4.1) h [0]
  .refine sr (mq ?_);refine aq (nt (aD ?_));cases h;exact aS () [_] 1 ⟨rfl,trivial⟩ rfl
def dQ(k:Nat)(a0:(List Int)):Nat->(Int×Int)->Option Int
 |0,_=>none
 |n+1,y4=>
  if y4.2 < (a0.length:Int) then((((aG a0 y4.2).bind λx8=>
  (nD k x8 y4.1).bind λr9=>
  if r9 < 0 then((aG a0 y4.2).bind λe=>
  some e) else(some y4.1)):Option (Int)).bind λx6=>
  (ck (y4.2+1)).bind λc=>
  dQ k a0 n (x6,c)) else(some y4.1)
def nR(k:Nat)(a0:(List Int)):Option Int:=
 if(a0.length:Int) < 1 then(none) else((aG a0 0).bind λx1=>
 ((dQ k a0 k (x1,1)):Option (Int)).bind λx2=>
 some x2)
def oU(k:Nat)(a0:(List Int)):Option Int:=
 (lx k a0).bind λr2=>
 some r2
theorem xI(k:Nat)(a0:(List Int))(r:Int)(h:oU k a0=some r):
 c6 Tryz.prog 41 [.rep (.slice (.int .u8)) a0,.eq (.func (.func 42) #[] #[])] [] (λ_:Unit=>(bA [.eq (.int .u8 r)],[])):=by
 unfold oU at h
 replace h:=bb h
 refine c6.of 8 Tryz.func41 rfl Tryz.ntmps41 rfl λS w0=>?_
 refine sr ?_
 refine bx λb1=>?_
 refine cq ?_
 refine nt ?_
 refine sr ?_
 refine mq ?_
 refine ja (tP [] [.tmp 3] [] [(Pv b1)] rfl rfl rfl) ?_
 obtain⟨r2,c,h⟩:=aa h
 have e:=rK k a0 b1 r2 c
 refine kb (av [.tmp 5,.tmp 6] rfl rfl VZ rfl e) ?_
 refine aq ?_
 refine nt ?_
 refine aD ?_
 cases h
 exact ra
def qd(k:Nat)(a0:(List Int)):Option Int:=
 (nR k a0).bind λr2=>
 some r2
def ix(k:Nat)(a0:(List Int))(a1:Int):Nat->Int->Option (Except Bool Unit)
 |0,_=>none
 |n+1,y3=>
  if y3 < (a0.length:Int) then((aG a0 y3).bind λx5=>
  if x5=a1 then(some (.error true)) else((ck (y3+1)).bind λx6=>
  ix k a0 a1 n x6)) else(some (.ok ()))
def lN(k:Nat)(a0:(List Int))(a1:Int):Option Bool:=
 bE (α:=Unit) (ix k a0 a1 k 0) (some) λ_=>
 some false
theorem oM(k:Nat)(a0:(List Int))(a1:Int)(r:Bool)(h:lN k a0 a1=some r):
 c6 Tryz.prog 44 [.rep Tl a0,I a1] [] (λ_:Unit=>(bA [.eq (.bool r)],[])):=by
 unfold lN at h
 replace h:=bb h
 refine c6.of 18 Tryz.func44 rfl Tryz.ntmps44 rfl λS w0=>?_
 refine sr ?_
 refine cq ?_
 refine nt ?_
 refine cu (Z:=Unit) (α:=Unit) (λz2 x1=>[]) (λz2 x1=>[]) (λe=>e=r) h (λe h=>Option.some.inj h) (λK hR h=>?_) (λz2 x1 h=>?_)
 .
  refine sr (cq (nt (ah ?_)));refine aC (λz4 y3=>[(0,.rep Tl a0),(1,I a1),(5,I y3)]) (λz4 y3=>[]) (ix k a0 a1) k () 0 (λ_=>rfl) h (SE.fin [] ⟨rfl,rfl,rfl,trivial⟩ rfl) (λn z4 y3 h=>?_);unfold ix at h;refine ai (sr ?_);iterate 2 refine mq ?_
  refine ol gi ?_;refine jb (bh rfl) ?_;refine nt (ci h (λh=>?_) (λh=>?_))
  .refine sk (ai (ah (sr ?_)));iterate 2 refine mq ?_
   obtain⟨x5,j,h⟩:=aa h;refine jb (aA (t:=Ti) rfl gi bR j) ?_;refine ja (am (t:=Ti) rfl bR rfl) ?_;refine mq ?_;refine jb (jF rfl) ?_;refine nt (ci h (λh=>?_) (λh=>?_))
   .refine sr (cq (nt (aD (br (aX (be ?_))))));obtain rfl:=hR _ h;exact ra
   .refine bg (aJ (tn (ae (mq ?_))));obtain⟨x6,c,h⟩:=aa h;refine jb (aU rfl c) ?_;refine aq (nl ?_);exact jz ((),x6) h []
  .refine xa ?_;exact jz ((),()) h []
 .
  refine sr (cq (nt (aD ?_)));cases h;exact ra
def er(k:Nat)(a0:ab)(a1:Int)(a2:(List Int))(y6:(List (List (List Int)))×Int)(e:(List (List Int))×Int):Nat->((List Int)×Int)->Option (List Int)
 |0,_=>none
 |n+1,c=>
  (aG a0.2.2.2.2.1 y6.2).bind λF=>
  (aG F e.2).bind λE=>
  if c.2 < (E.length:Int) then(((((if y6.2 < a1 then(some true) else((aG a0.2.2.2.2.1 y6.2).bind λx=>
  (aG x e.2).bind λu=>
  (aG u c.2).bind λs=>
  (lN k a2 s).bind λI=>
  some (!I))):Option (Bool)).bind λy=>
  if y=true then((aG a0.2.2.2.2.1 y6.2).bind λr=>
  (aG r e.2).bind λl=>
  (aG l c.2).bind λh=>
  (bU (aR (length c.1+length [h]))).bind λ_=>
  some (c.1++[h])) else(some c.1)):Option ((List Int))).bind λD=>
  (ck (c.2+1)).bind λj=>
  er k a0 a1 a2 y6 e n (D,j)) else(some c.1)
def eu(k:Nat)(a0:ab)(a1:Int)(a2:(List Int))(y6:(List (List (List Int)))×Int):Nat->((List (List Int))×Int)->Option (List (List Int))
 |0,_=>none
 |n+1,c=>
  (aG a0.2.2.2.2.1 y6.2).bind λl=>
  if c.2 < (l.length:Int) then(((((er k a0 a1 a2 y6 c k (([]:(List Int)),0)):Option ((List Int))).bind λe=>
  (bU (aR (length c.1+length [e]))).bind λ_=>
  some (c.1++[e])):Option ((List (List Int)))).bind λj=>
  (ck (c.2+1)).bind λh=>
  eu k a0 a1 a2 y6 n (j,h)) else(some c.1)
def eY(k:Nat)(a0:ab)(a1:Int)(a2:(List Int)):Nat->((List (List (List Int)))×Int)->Option (List (List (List Int)))
 |0,_=>none
 |n+1,y6=>
  if y6.2 < (a0.2.2.2.2.1.length:Int) then(((((eu k a0 a1 a2 y6 k (([]:(List (List Int))),0)):Option ((List (List Int)))).bind λc=>
  (bU (aR (length y6.1+length [c]))).bind λ_=>
  some (y6.1++[c])):Option ((List (List (List Int))))).bind λx8=>
  (ck (y6.2+1)).bind λe=>
  eY k a0 a1 a2 n (x8,e)) else(some y6.1)
def mm(k:Nat)(a0:ab)(a1:Int)(a2:(List Int)):Option ab:=
 ((eY k a0 a1 a2 k (([]:(List (List (List Int)))),0)):Option ((List (List (List Int))))).bind λx4=>
 some (a0.1,a0.2.1,a0.2.2.1,a0.2.2.2.1,x4,a0.2.2.2.2.2)
theorem xw(k:Nat)(a0:ab)(a1:Int)(a2:(List Int))(r:ab)(h:mm k a0 a1 a2=some r):
 c6 Tryz.prog 12 [.rep ak a0,I a1,.rep Tl a2] [] (λ_:Unit=>(bA [.rep ak r],[])):=by
 unfold mm at h
 replace h:=bb h
 refine c6.of 89 Tryz.func12 rfl Tryz.ntmps12 rfl λS w0=>?_
 refine sr ?_
 refine bx λb1=>?_
 refine aW rfl rfl rfl (bq rfl sK vd) trivial λb2=>?_
 refine nt ?_
 refine sr ?_
 refine fr 1 ?_
 refine lo dq ?_
 refine aW rfl rfl rfl (bq rfl sK vd) trivial λb3=>?_
 refine aO rfl rfl (aK rfl dq rfl rfl rfl) ⟨rfl,rfl,trivial⟩ ?_
 refine nt ?_
 refine sr ?_
 refine fl bL ?_
 refine aO rfl rfl (aK rfl eL rfl rfl rfl) ⟨rfl,rfl,trivial⟩ ?_
 refine nt ?_
 refine aE (Z:=Value) (α:=(List (List (List Int)))) (λz5 x4=>[(6,Pt b2),(7,Pt b3)]) (λz5 x4=>[.obj b2 28 (.agg (.pair (I 0) (.pair (I 0) (.pair (I 0) (.pair (I 0) (.pair (.eq (.slice none 0 0)) (.eq (.slice none 0 0)))))))),.obj b3 28 (.agg (.pair (I a0.1) (.pair (I a0.2.1) (.pair (I a0.2.2.1) (.pair (I a0.2.2.2.1) (.pair (.eq z5) (Rs aI a0.2.2.2.2.2))))))),.sl z5 29 (.slice Tl) x4]) h (λK h=>?_) (λz5 x4 h=>?_)
 .
  refine sr (cq (nt (ah ?_)));refine fS (SE.nil 29 (.slice Tl)) ?_;refine dN 1 rfl ?_;refine fS (gZ (a:=.agg (.pair (.rep Ti a0.1) (.pair (.rep Ti a0.2.1) (.pair (.rep Ti a0.2.2.1) (.pair (.rep Ti a0.2.2.2.1) (.pair (.eq (.slice none 0 0)) (Rs aI a0.2.2.2.2.2))))))) (a':=.agg (.pair (I a0.1) (.pair (I a0.2.1) (.pair (I a0.2.2.1) (.pair (I a0.2.2.2.1) (.pair (.eq (.slice none 0 0)) (Rs aI a0.2.2.2.2.2))))))) (AE.agg (AE.pair AE.int (AE.pair AE.int (AE.pair AE.int (AE.pair AE.int AE.rfl)))))) ?_;refine aC (λz7 y6=>[(1,I a1),(2,.rep Tl a2),(3,Pt b1),(6,Pt b2),(7,Pt b3),(8,I y6.2)]) (λz7 y6=>[.obj b1 28 (.rep ak a0),.obj b2 28 (.agg (.pair (I 0) (.pair (I 0) (.pair (I 0) (.pair (I 0) (.pair (.eq (.slice none 0 0)) (.eq (.slice none 0 0)))))))),.obj b3 28 (.agg (.pair (I a0.1) (.pair (I a0.2.1) (.pair (I a0.2.2.1) (.pair (I a0.2.2.2.1) (.pair (.eq z7) (Rs aI a0.2.2.2.2.2))))))),.sl z7 29 (.slice Tl) y6.1]) (eY k a0 a1 a2) k (.slice none 0 0) (([]:(List (List (List Int)))),0) (λ_=>rfl) h (SE.fin [2,3,0,1] ⟨rfl,rfl,rfl,rfl,rfl,rfl,trivial⟩ rfl) (λn z7 y6 h=>?_);unfold eY at h;refine ai (sr (mq ?_));refine fl bL ?_;refine lo eL ?_;refine ol oC ?_;refine jb (bh rfl) ?_;refine nt (ci h (λh=>?_) (λh=>?_))
  .refine sk (aE (Z:=Value) (α:=(List (List (List Int)))) (λz9 x8=>[(1,I a1),(2,.rep Tl a2),(3,Pt b1),(6,Pt b2),(7,Pt b3),(8,I y6.2)]) (λz9 x8=>[.obj b1 28 (.rep ak a0),.obj b2 28 (.agg (.pair (I 0) (.pair (I 0) (.pair (I 0) (.pair (I 0) (.pair (.eq (.slice none 0 0)) (.eq (.slice none 0 0)))))))),.obj b3 28 (.agg (.pair (I a0.1) (.pair (I a0.2.1) (.pair (I a0.2.2.1) (.pair (I a0.2.2.2.1) (.pair (.eq z9) (Rs aI a0.2.2.2.2.2))))))),.sl z9 29 (.slice Tl) x8]) h (λK h=>?_) (λz9 x8 h=>?_))
   .refine ah (sr (cq (nt ?_)));refine aE (Z:=Value) (α:=(List (List Int))) (λF D=>[(1,I a1),(2,.rep Tl a2),(3,Pt b1),(6,Pt b2),(7,Pt b3),(8,I y6.2),(9,.eq F)]) (λF D=>[.obj b1 28 (.rep ak a0),.obj b2 28 (.agg (.pair (I 0) (.pair (I 0) (.pair (I 0) (.pair (I 0) (.pair (.eq (.slice none 0 0)) (.eq (.slice none 0 0)))))))),.obj b3 28 (.agg (.pair (I a0.1) (.pair (I a0.2.1) (.pair (I a0.2.2.1) (.pair (I a0.2.2.2.1) (.pair (.eq z7) (Rs aI a0.2.2.2.2.2))))))),.sl z7 29 (.slice Tl) y6.1,.sl F 22 Tl D]) h (λK h=>?_) (λF D h=>?_)
    .refine sr (cq (nt (ah ?_)));refine fS (SE.nil 22 Tl) ?_;refine aC (λe c=>[(1,I a1),(2,.rep Tl a2),(3,Pt b1),(6,Pt b2),(7,Pt b3),(8,I y6.2),(9,.eq e),(10,I c.2)]) (λe c=>[.obj b1 28 (.rep ak a0),.obj b2 28 (.agg (.pair (I 0) (.pair (I 0) (.pair (I 0) (.pair (I 0) (.pair (.eq (.slice none 0 0)) (.eq (.slice none 0 0)))))))),.obj b3 28 (.agg (.pair (I a0.1) (.pair (I a0.2.1) (.pair (I a0.2.2.1) (.pair (I a0.2.2.2.1) (.pair (.eq z7) (Rs aI a0.2.2.2.2.2))))))),.sl z7 29 (.slice Tl) y6.1,.sl e 22 Tl c.1]) (eu k a0 a1 a2 y6) k (.slice none 0 0) (([]:(List (List Int))),0) (λ_=>rfl) h (SE.fin [1,2,3,4,0] ⟨rfl,rfl,rfl,rfl,rfl,rfl,rfl,rfl,trivial⟩ rfl) (λn e c h=>?_);unfold eu at h;refine ai (sr (mq ?_));refine fl bL ?_;refine lo eL ?_;refine mq ?_;obtain⟨XB,Xj,h⟩:=aa h;refine jb (aA (t:=(.slice Tl)) rfl oC iR Xj) ?_;refine ja (am (t:=(.slice Tl)) rfl iR rfl) ?_;refine ol lF ?_;refine jb (bh rfl) ?_;refine nt (ci h (λh=>?_) (λh=>?_))
     .refine sk (aE (Z:=Value) (α:=(List (List Int))) (λx M=>[(1,I a1),(2,.rep Tl a2),(3,Pt b1),(6,Pt b2),(7,Pt b3),(8,I y6.2),(9,.eq x),(10,I c.2)]) (λx M=>[.obj b1 28 (.rep ak a0),.obj b2 28 (.agg (.pair (I 0) (.pair (I 0) (.pair (I 0) (.pair (I 0) (.pair (.eq (.slice none 0 0)) (.eq (.slice none 0 0)))))))),.obj b3 28 (.agg (.pair (I a0.1) (.pair (I a0.2.1) (.pair (I a0.2.2.1) (.pair (I a0.2.2.2.1) (.pair (.eq z7) (Rs aI a0.2.2.2.2.2))))))),.sl z7 29 (.slice Tl) y6.1,.sl x 22 Tl M]) h (λK h=>?_) (λx M h=>?_))
      .refine ah (sr (cq (nt ?_)));refine aE (Z:=Value) (α:=(List Int)) (λE y=>[(1,I a1),(2,.rep Tl a2),(3,Pt b1),(6,Pt b2),(7,Pt b3),(8,I y6.2),(9,.eq e),(10,I c.2),(11,.eq E)]) (λE y=>[.obj b1 28 (.rep ak a0),.obj b2 28 (.agg (.pair (I 0) (.pair (I 0) (.pair (I 0) (.pair (I 0) (.pair (.eq (.slice none 0 0)) (.eq (.slice none 0 0)))))))),.obj b3 28 (.agg (.pair (I a0.1) (.pair (I a0.2.1) (.pair (I a0.2.2.1) (.pair (I a0.2.2.2.1) (.pair (.eq z7) (Rs aI a0.2.2.2.2.2))))))),.sl z7 29 (.slice Tl) y6.1,.sl e 22 Tl c.1,.sl E 3 Ti y]) h (λK h=>?_) (λE y h=>?_)
       .refine sr (cq (nt (ah ?_)));refine fS (SE.nil 3 Ti) ?_;refine aC (λl j=>[(1,I a1),(2,.rep Tl a2),(3,Pt b1),(6,Pt b2),(7,Pt b3),(8,I y6.2),(9,.eq e),(10,I c.2),(11,.eq l),(12,I j.2)]) (λl j=>[.obj b1 28 (.rep ak a0),.obj b2 28 (.agg (.pair (I 0) (.pair (I 0) (.pair (I 0) (.pair (I 0) (.pair (.eq (.slice none 0 0)) (.eq (.slice none 0 0)))))))),.obj b3 28 (.agg (.pair (I a0.1) (.pair (I a0.2.1) (.pair (I a0.2.2.1) (.pair (I a0.2.2.2.1) (.pair (.eq z7) (Rs aI a0.2.2.2.2.2))))))),.sl z7 29 (.slice Tl) y6.1,.sl e 22 Tl c.1,.sl l 3 Ti j.1]) (er k a0 a1 a2 y6 c) k (.slice none 0 0) (([]:(List Int)),0) (λ_=>rfl) h (SE.fin [1,2,3,4,5,0] ⟨rfl,rfl,rfl,rfl,rfl,rfl,rfl,rfl,rfl,rfl,trivial⟩ rfl) (λn l j h=>?_);unfold er at h;refine ai (sr (mq ?_));refine fl bL ?_;refine lo eL ?_;refine mq ?_;obtain⟨XA,Xi,h⟩:=aa h;refine jb (aA (t:=(.slice Tl)) rfl oC iR Xi) ?_;refine ja (am (t:=(.slice Tl)) rfl iR rfl) ?_;refine mq ?_;obtain⟨Xz,Xh,h⟩:=aa h;refine jb (aA (t:=Tl) rfl lF dO Xh) ?_;refine ja (am (t:=Tl) rfl dO rfl) ?_;refine ol gi ?_;refine jb (bh rfl) ?_;refine nt (ci h (λh=>?_) (λh=>?_))
        .refine sk (aE (Z:=Value) (α:=(List Int)) (λu J=>[(1,I a1),(2,.rep Tl a2),(3,Pt b1),(6,Pt b2),(7,Pt b3),(8,I y6.2),(9,.eq e),(10,I c.2),(11,.eq u),(12,I j.2)]) (λu J=>[.obj b1 28 (.rep ak a0),.obj b2 28 (.agg (.pair (I 0) (.pair (I 0) (.pair (I 0) (.pair (I 0) (.pair (.eq (.slice none 0 0)) (.eq (.slice none 0 0)))))))),.obj b3 28 (.agg (.pair (I a0.1) (.pair (I a0.2.1) (.pair (I a0.2.2.1) (.pair (I a0.2.2.2.1) (.pair (.eq z7) (Rs aI a0.2.2.2.2.2))))))),.sl z7 29 (.slice Tl) y6.1,.sl e 22 Tl c.1,.sl u 3 Ti J]) h (λK h=>?_) (λu J h=>?_))
         .refine ah (aE (Z:=Unit) (α:=Bool) (λQ O=>[(1,I a1),(2,.rep Tl a2),(3,Pt b1),(6,Pt b2),(7,Pt b3),(8,I y6.2),(9,.eq e),(10,I c.2),(11,.eq l),(12,I j.2),(63,.eq (.bool O))]) (λQ O=>[.obj b1 28 (.rep ak a0),.obj b2 28 (.agg (.pair (I 0) (.pair (I 0) (.pair (I 0) (.pair (I 0) (.pair (.eq (.slice none 0 0)) (.eq (.slice none 0 0)))))))),.obj b3 28 (.agg (.pair (I a0.1) (.pair (I a0.2.1) (.pair (I a0.2.2.1) (.pair (I a0.2.2.2.1) (.pair (.eq z7) (Rs aI a0.2.2.2.2.2))))))),.sl z7 29 (.slice Tl) y6.1,.sl e 22 Tl c.1,.sl l 3 Ti j.1]) h (λK h=>?_) (λQ O h=>?_))
          .refine ae ?_;iterate 2 refine mq ?_
           refine jb (bh rfl) ?_;refine mq ?_;refine bX (s:=48) rfl (λhb=>?_) (λhb=>?_)
           .replace h:=eh (va hb) h;iterate 14 refine gn ?_
            refine pt (nl ?_);exact jz ((),true) h [0,1,2,3,4,5]
           .replace h:=cK (vb hb) h;refine gm ?_;refine ga (au rfl bL) ?_;refine eX rfl rfl rfl rfl rfl rfl (ao rfl eL jI rfl) ⟨rfl,trivial⟩ ?_;refine gm ?_;obtain⟨Xy,Xg,h⟩:=aa h;refine gb (aA (t:=(.slice Tl)) rfl oC iR Xg) ?_;refine ga (am (t:=(.slice Tl)) rfl iR rfl) ?_;refine gm ?_;obtain⟨Xx,Xf,h⟩:=aa h;refine gb (aA (t:=Tl) rfl lF dO Xf) ?_;refine ga (am (t:=Tl) rfl dO rfl) ?_;refine gm ?_;obtain⟨Xr,Xe,h⟩:=aa h;refine gb (aA (t:=Ti) rfl gi bR Xe) ?_;refine ga (am (t:=Ti) rfl bR rfl) ?_;obtain⟨X,Xn,h⟩:=aa h;refine gb (av [.tmp 49,.tmp 60] rfl rfl NU rfl (oM k a2 Xr X Xn)) ?_;refine ga (fo rfl) ?_;refine pf (nl ?_);exact jz ((), !X) h [0,1,2,3,4,5]
          .refine cv h (λh=>?_) (λh=>?_)
           .refine ae (mq ?_);refine fl bL ?_;refine lo eL ?_;refine mq ?_;obtain⟨Xw,zz,h⟩:=aa h;refine jb (aA (t:=(.slice Tl)) rfl oC iR zz) ?_;refine ja (am (t:=(.slice Tl)) rfl iR rfl) ?_;refine mq ?_;obtain⟨Xv,qt,h⟩:=aa h;refine jb (aA (t:=Tl) rfl lF dO qt) ?_;refine ja (am (t:=Tl) rfl dO rfl) ?_;refine mq ?_;obtain⟨U,mw,h⟩:=aa h;refine jb (aA (t:=Ti) rfl gi bR mw) ?_;refine ja (am (t:=Ti) rfl bR rfl) ?_;refine ja (aP (t:=Ti) [(.tmp 75,_)] [U] rfl rfl cZ (.cons rfl .int .nil) rfl rfl) ?_;obtain⟨XE,Xm,h⟩:=aa h;refine fr 5 ?_;refine cC rfl rfl rfl (bf rfl rfl cZ (ap Xm)) ⟨rfl,rfl,trivial⟩ λXu=>?_;refine aq (aH (bn ?_));exact jz (Xu,j.1++[U]) h [1,2,3,4,5,0]
           .refine bg (bn ?_);exact jz (l,j.1) h [0,1,2,3,4,5]
         .refine ae (mq ?_);obtain⟨Xq,mc,h⟩:=aa h;refine jb (aU rfl mc) ?_;refine aq (nl ?_);exact jz (u,(J,Xq)) h [0,1,2,3,4,5]
        .refine xa ?_;exact jz (l,j.1) h [0,1,2,3,4,5]
       .refine ae ?_;iterate 2 refine mq ?_
        refine fr 5 ?_;refine d4 (fu [11,79] ⟨rfl,rfl,trivial⟩) ?_;refine ja (aP (t:=Tl) [(.tmp 79,_)] [y] rfl rfl kj (.cons rfl .rep .nil) rfl rfl) ?_;obtain⟨XD,Xl,h⟩:=aa h;refine fr 4 ?_;refine cC rfl rfl rfl (bf rfl rfl kj (ap Xl)) ⟨rfl,rfl,trivial⟩ λXt=>?_;refine aq (aH (bn ?_));exact jz (Xt,c.1++[y]) h [1,2,3,4,0]
      .refine ae (mq ?_);obtain⟨Xp,gw,h⟩:=aa h;refine jb (aU rfl gw) ?_;refine aq (nl ?_);exact jz (x,(M,Xp)) h [0,1,2,3,4]
     .refine xa ?_;exact jz (e,c.1) h [0,1,2,3,4]
    .refine ae (fl bL ?_);refine fr 2 ?_;refine lo eL ?_;refine mq ?_;refine fr 4 ?_;refine d4 (fu [9,84] ⟨rfl,rfl,trivial⟩) ?_;refine ja (aP (t:=(.slice Tl)) [(.tmp 84,_)] [D] rfl rfl vL (.cons rfl .rep .nil) rfl rfl) ?_;obtain⟨XC,Xk,h⟩:=aa h;refine fr 3 ?_;refine cC rfl rfl rfl (bf rfl rfl vL (ap Xk)) ⟨rfl,rfl,trivial⟩ λXs=>?_;refine fl bL ?_;refine nJ λo42=>?_;refine fr 1 ?_;refine aO rfl rfl (aK rfl eL o42 rfl rfl) ⟨rfl,rfl,trivial⟩ ?_;refine aH (bn ?_);exact jz (Xs,y6.1++[D]) h [2,3,0,1]
   .refine ae (mq ?_);obtain⟨Xo,Y,h⟩:=aa h;refine jb (aU rfl Y) ?_;refine aq (nl ?_);exact jz (z9,(x8,Xo)) h [0,1,2,3]
  .refine xa ?_;exact jz (z7,y6.1) h [1,2,3]
 .
  refine sr (fr 1 ?_);refine fr 2 ?_;refine d4 (iN (off:=4) [] trivial rfl rfl) ?_;refine lo dq ?_;refine fr 1 ?_;refine aO rfl rfl (aK rfl dq trivial rfl rfl) ⟨rfl,rfl,trivial⟩ ?_;refine nt (aD (bD (gZ (a:=.agg (.pair (I a0.1) (.pair (I a0.2.1) (.pair (I a0.2.2.1) (.pair (I a0.2.2.2.1) (.pair (.rep (.slice (.slice Tl)) x4) (Rs aI a0.2.2.2.2.2))))))) (a':=.rep ak (a0.1,a0.2.1,a0.2.2.1,a0.2.2.2.1,x4,a0.2.2.2.2.2)) (kg (.agg (.pair .int (.pair .int (.pair .int (.pair .int (.pair .rep .rep)))))))) ?_));cases h;exact aS () [.rep ak (a0.1,a0.2.1,a0.2.2.1,a0.2.2.2.1,x4,a0.2.2.2.2.2)] 0 ⟨⟨_,_,_,_,_,rfl,(.head _),dq,(pu),rfl⟩,trivial⟩ rfl
def dX(k:Nat)(a0:(List Int))(a1:(List Int)):Nat->Int->Option (Except Bool Unit)
 |0,_=>none
 |n+1,y3=>
  if y3 < (a0.length:Int) then((aG a0 y3).bind λx5=>
  (aG a1 y3).bind λx6=>
  if¬(x5=x6) then(some (.error false)) else((ck (y3+1)).bind λx7=>
  dX k a0 a1 n x7)) else(some (.ok ()))
def fQ(k:Nat)(a0:(List Int))(a1:(List Int)):Option Bool:=
 if¬((a0.length:Int)=(a1.length:Int)) then(some false) else(bE (α:=Unit) (dX k a0 a1 k 0) (some) λ_=>
 some true)
theorem jw(k:Nat)(a0:(List Int))(a1:(List Int))(r:Bool)(h:fQ k a0 a1=some r):
 c6 Tryz.prog 14 [.rep Tl a0,.rep Tl a1] [] (λ_:Unit=>(bA [.eq (.bool r)],[])):=by
 unfold fQ at h
 replace h:=bb h
 refine c6.of 26 Tryz.func14 rfl Tryz.ntmps14 rfl λS w0=>?_
 refine sr ?_
 refine cq ?_
 refine nt ?_
 refine ai ?_
 refine sr ?_
 refine mq ?_
 refine ol gi ?_
 refine mq ?_
 refine ol gi ?_
 refine jb (eT rfl) ?_
 refine nt ?_
 refine cn h (λh=>?_) (λh=>?_)
 .
  refine sr (cq (nt (rx ?_)));cases h;exact ra
 .
  refine sk (cu (Z:=Unit) (α:=Unit) (λz2 x1=>[]) (λz2 x1=>[]) (λe=>e=r) h (λe h=>Option.some.inj h) (λK hR h=>?_) (λz2 x1 h=>?_))
  .refine sr (cq (nt (ah ?_)));refine aC (λz4 y3=>[(0,.rep Tl a0),(1,.rep Tl a1),(5,I y3)]) (λz4 y3=>[]) (dX k a0 a1) k () 0 (λ_=>rfl) h (SE.fin [] ⟨rfl,rfl,rfl,trivial⟩ rfl) (λn z4 y3 h=>?_);unfold dX at h;refine ai (sr ?_);iterate 2 refine mq ?_
   refine ol gi ?_;refine jb (bh rfl) ?_;refine nt (ci h (λh=>?_) (λh=>?_))
   .refine sk (ai (ah (ai (bB ?_))));refine dm ?_;refine dm ?_;obtain⟨x5,l,h⟩:=aa h;refine db (aA (t:=Ti) rfl gi bR l) ?_;refine da (am (t:=Ti) rfl bR rfl) ?_;refine dm ?_;refine dm ?_;obtain⟨x6,j,h⟩:=aa h;refine db (aA (t:=Ti) rfl gi bR j) ?_;refine da (am (t:=Ti) rfl bR rfl) ?_;refine df cY ?_;refine jb (eT rfl) ?_;refine nt (cn h (λh=>?_) (λh=>?_))
    .refine sr (cq (nt (aD (br (aX (be ?_))))));obtain rfl:=hR _ h;exact ra
    .refine bg (aJ (tn (ae (mq ?_))));obtain⟨x7,c,h⟩:=aa h;refine jb (aU rfl c) ?_;refine aq (nl ?_);exact jz ((),x7) h []
   .refine xa ?_;exact jz ((),()) h []
  .refine sr (cq (nt (aD ?_)));cases h;exact ra
def dK(k:Nat)(a0:(List (List Int)))(a1:(List (List Int))):Nat->Int->Option (Except Bool Unit)
 |0,_=>none
 |n+1,y3=>
  if y3 < (a0.length:Int) then((aG a0 y3).bind λx5=>
  (aG a1 y3).bind λx6=>
  (fQ k x5 x6).bind λr7=>
  if¬(r7=true) then(some (.error false)) else((ck (y3+1)).bind λx8=>
  dK k a0 a1 n x8)) else(some (.ok ()))
def fV(k:Nat)(a0:(List (List Int)))(a1:(List (List Int))):Option Bool:=
 if¬((a0.length:Int)=(a1.length:Int)) then(some false) else(bE (α:=Unit) (dK k a0 a1 k 0) (some) λ_=>
 some true)
theorem kC(k:Nat)(a0:(List (List Int)))(a1:(List (List Int)))(r:Bool)(h:fV k a0 a1=some r):
 c6 Tryz.prog 25 [.rep (.slice Tl) a0,.rep (.slice Tl) a1] [] (λ_:Unit=>(bA [.eq (.bool r)],[])):=by
 unfold fV at h
 replace h:=bb h
 refine c6.of 27 Tryz.func25 rfl Tryz.ntmps25 rfl λS w0=>?_
 refine sr ?_
 refine cq ?_
 refine nt ?_
 refine ai ?_
 refine sr ?_
 refine mq ?_
 refine ol lF ?_
 refine mq ?_
 refine ol lF ?_
 refine jb (eT rfl) ?_
 refine nt ?_
 refine cn h (λh=>?_) (λh=>?_)
 .
  refine sr (cq (nt (rx ?_)));cases h;exact ra
 .
  refine sk (cu (Z:=Unit) (α:=Unit) (λz2 x1=>[]) (λz2 x1=>[]) (λe=>e=r) h (λe h=>Option.some.inj h) (λK hR h=>?_) (λz2 x1 h=>?_))
  .refine sr (cq (nt (ah ?_)));refine aC (λz4 y3=>[(0,.rep (.slice Tl) a0),(1,.rep (.slice Tl) a1),(5,I y3)]) (λz4 y3=>[]) (dK k a0 a1) k () 0 (λ_=>rfl) h (SE.fin [] ⟨rfl,rfl,rfl,trivial⟩ rfl) (λn z4 y3 h=>?_);unfold dK at h;refine ai (sr ?_);iterate 2 refine mq ?_
   refine ol lF ?_;refine jb (bh rfl) ?_;refine nt (ci h (λh=>?_) (λh=>?_))
   .refine sk (ai (ah (ai (bB ?_))));refine dm ?_;refine dm ?_;obtain⟨x5,l,h⟩:=aa h;refine db (aA (t:=Tl) rfl lF dO l) ?_;refine da (am (t:=Tl) rfl dO rfl) ?_;refine dm ?_;refine dm ?_;obtain⟨x6,j,h⟩:=aa h;refine db (aA (t:=Tl) rfl lF dO j) ?_;refine da (am (t:=Tl) rfl dO rfl) ?_;refine df cY ?_;obtain⟨r7,s,h⟩:=aa h;refine jb (av [.tmp 20,.tmp 24] rfl rfl NV rfl (jw k x5 x6 r7 s)) ?_;refine ja (fo rfl) ?_;refine nt (cw h (λh=>?_) (λh=>?_))
    .refine sr (cq (nt (aD (br (aX (be ?_))))));obtain rfl:=hR _ h;exact ra
    .refine bg (aJ (tn (ae (mq ?_))));obtain⟨x8,c,h⟩:=aa h;refine jb (aU rfl c) ?_;refine aq (nl ?_);exact jz ((),x8) h []
   .refine xa ?_;exact jz ((),()) h []
  .refine sr (cq (nt (aD ?_)));cases h;exact ra
def mI(k:Nat)(a0:Int)(a1:Int)(a2:Bool):Option aQ:=
 some (a0,a1,a2)
theorem nE(k:Nat)(a0:Int)(a1:Int)(a2:Bool)(r:aQ)(h:mI k a0 a1 a2=some r):
 c6 Tryz.prog 76 [I a0,I a1,.eq (.bool a2)] [] (λ_:Unit=>(bA [.rep aI r],[])):=by
 unfold mI at h
 replace h:=bb h
 refine c6.of 11 Tryz.func76 rfl Tryz.ntmps76 rfl λS w0=>?_
 refine sr ?_
 refine aW rfl rfl rfl (bq rfl Gu Oq) trivial λb1=>?_
 refine nt ?_
 refine sr ?_
 iterate 3 refine mq ?_
 refine jc (eU [(0,.tmp 7,_),(1,.tmp 8,_),(2,.tmp 9,_)] rfl SI Gu PD (kR ⟨rfl,rfl,rfl,trivial⟩) rfl) ?_
 refine aO rfl rfl (aK rfl nB trivial rfl rfl) ⟨rfl,rfl,trivial⟩ ?_
 refine nt ?_
 refine aD ?_
 refine bD (gZ (a:=.agg (.pair (I a0) (.pair (I a1) (.eq (.bool a2))))) (a':=.rep aI (a0,a1,a2)) (kg (.agg (.pair .int (.pair .int .bool))))) ?_
 cases h
 exact aS () [.rep aI (a0,a1,a2)] 0 ⟨⟨_,_,_,_,_,rfl,(.head _),nB,(pu),rfl⟩,trivial⟩ rfl
def jL(k:Nat)(a0:(List aQ)):Option ab:=
 (mI k 1 2 true).bind λr2=>
 (mI k 2 1 false).bind λr3=>
 (mI k 3 3 false).bind λr4=>
 (bU (aR (length [r2,r3,r4]+length a0))).bind λ_=>
 some (4,1,1,2,[[[0,1,2],[3]],[[0,1],[2,3]],[[1,2,3]],[[1,3],[2]]],[r2,r3,r4]++a0)
theorem iS(k:Nat)(a0:(List aQ))(r:ab)(h:jL k a0=some r):
 c6 Tryz.prog 45 [Rs aI a0] [] (λ_:Unit=>(bA [.rep ak r],[])):=by
 unfold jL at h
 replace h:=bb h
 refine c6.of 24 Tryz.func45 rfl Tryz.ntmps45 rfl λS w0=>?_
 refine sr ?_
 refine aW rfl rfl rfl (bq rfl sK vd) trivial λb1=>?_
 refine nt ?_
 refine sr ?_
 obtain⟨r2,l,h⟩:=aa h
 have u:=nE k 1 2 true r2 l
 refine jc (av [.const (.int .i64 (1)),.const (.int .i64 (2)),.const (.bool true)] rfl rfl QV rfl u) ?_
 obtain⟨r3,j,h⟩:=aa h
 have s:=nE k 2 1 false r3 j
 refine jc (av [.const (.int .i64 (2)),.const (.int .i64 (1)),.const (.bool false)] rfl rfl QV rfl s) ?_
 obtain⟨r4,e,h⟩:=aa h
 have n:=nE k 3 3 false r4 e
 refine jc (av [.const (.int .i64 (3)),.const (.int .i64 (3)),.const (.bool false)] rfl rfl QV rfl n) ?_
 refine aW rfl rfl rfl (gR (t:=aI) [(.tmp 4,_),(.tmp 5,_),(.tmp 6,_)] [r2,r3,r4] rfl rfl AY (.cons rfl .rep (.cons rfl .rep (.cons rfl .rep .nil))) rfl rfl) ⟨rfl,rfl,rfl,trivial⟩ λv5=>?_
 refine aq ?_
 refine nt ?_
 refine sr ?_
 refine jc (aP (t:=Ti) [(.const (.int .i64 (0)),_),(.const (.int .i64 (1)),_),(.const (.int .i64 (2)),_)] [0,1,2] rfl rfl cZ (.cons rfl .int (.cons rfl .int (.cons rfl .int .nil))) rfl rfl) ?_
 refine ja (aP (t:=Ti) [(.const (.int .i64 (3)),_)] [3] rfl rfl cZ (.cons rfl .int .nil) rfl rfl) ?_
 refine jb (aP (t:=Tl) [(.tmp 8,_),(.tmp 9,_)] [[0,1,2],[3]] rfl rfl kj (.cons rfl .rep (.cons rfl .rep .nil)) rfl rfl) ?_
 refine jb (aP (t:=Ti) [(.const (.int .i64 (0)),_),(.const (.int .i64 (1)),_)] [0,1] rfl rfl cZ (.cons rfl .int (.cons rfl .int .nil)) rfl rfl) ?_
 refine jb (aP (t:=Ti) [(.const (.int .i64 (2)),_),(.const (.int .i64 (3)),_)] [2,3] rfl rfl cZ (.cons rfl .int (.cons rfl .int .nil)) rfl rfl) ?_
 refine jb (aP (t:=Tl) [(.tmp 11,_),(.tmp 12,_)] [[0,1],[2,3]] rfl rfl kj (.cons rfl .rep (.cons rfl .rep .nil)) rfl rfl) ?_
 refine jc (aP (t:=Ti) [(.const (.int .i64 (1)),_),(.const (.int .i64 (2)),_),(.const (.int .i64 (3)),_)] [1,2,3] rfl rfl cZ (.cons rfl .int (.cons rfl .int (.cons rfl .int .nil))) rfl rfl) ?_
 refine ja (aP (t:=Tl) [(.tmp 14,_)] [[1,2,3]] rfl rfl kj (.cons rfl .rep .nil) rfl rfl) ?_
 refine jb (aP (t:=Ti) [(.const (.int .i64 (1)),_),(.const (.int .i64 (3)),_)] [1,3] rfl rfl cZ (.cons rfl .int (.cons rfl .int .nil)) rfl rfl) ?_
 refine ja (aP (t:=Ti) [(.const (.int .i64 (2)),_)] [2] rfl rfl cZ (.cons rfl .int .nil) rfl rfl) ?_
 refine jb (aP (t:=Tl) [(.tmp 16,_),(.tmp 17,_)] [[1,3],[2]] rfl rfl kj (.cons rfl .rep (.cons rfl .rep .nil)) rfl rfl) ?_
 refine cG rfl (aP (t:=(.slice Tl)) [(.tmp 10,_),(.tmp 13,_),(.tmp 15,_),(.tmp 18,_)] [[[0,1,2],[3]],[[0,1],[2,3]],[[1,2,3]],[[1,3],[2]]] rfl rfl vL (.cons rfl .rep (.cons rfl .rep (.cons rfl .rep (.cons rfl .rep .nil)))) rfl rfl) ⟨rfl,rfl,rfl,rfl,trivial⟩ ?_
 iterate 2 refine mq ?_
 obtain⟨u6,c,h⟩:=aa h
 refine cC rfl rfl rfl (bf rfl rfl AY (ap c)) ⟨rfl,rfl,trivial⟩ λv7=>?_
 refine d4 (fu [22] ⟨rfl,trivial⟩) ?_
 refine cG rfl (eU [(0,.const (.int .i64 (4)),_),(1,.const (.int .i64 (1)),_),(2,.const (.int .i64 (1)),_),(3,.const (.int .i64 (2)),_),(4,.tmp 19,_),(5,.tmp 22,_)] rfl SJ sK PE (kR ⟨rfl,rfl,rfl,rfl,rfl,rfl,trivial⟩) rfl) ⟨rfl,rfl,rfl,rfl,rfl,rfl,trivial⟩ ?_
 refine aO rfl rfl (aK rfl dq trivial rfl rfl) ⟨rfl,rfl,trivial⟩ ?_
 refine nt ?_
 refine aD ?_
 refine bD (gZ (a:=.agg (.pair (I 4) (.pair (I 1) (.pair (I 1) (.pair (I 2) (.pair (.rep (.slice (.slice Tl)) [[[0,1,2],[3]],[[0,1],[2,3]],[[1,2,3]],[[1,3],[2]]]) (Rs aI ([r2,r3,r4]++a0)))))))) (a':=.rep ak (4,1,1,2,[[[0,1,2],[3]],[[0,1],[2,3]],[[1,2,3]],[[1,3],[2]]],[r2,r3,r4]++a0)) (kg (.agg (.pair .int (.pair .int (.pair .int (.pair .int (.pair .rep .rep)))))))) ?_
 cases h
 exact aS () [.rep ak (4,1,1,2,[[[0,1,2],[3]],[[0,1],[2,3]],[[1,2,3]],[[1,3],[2]]],[r2,r3,r4]++a0)] 0 ⟨⟨_,_,_,_,_,rfl,(.head _),dq,(pu),rfl⟩,trivial⟩ rfl
def jQ(k:Nat)(a0:(List Int)):Nat->(Int×Int)->Option Int
 |0,_=>none
 |n+1,y4=>
  if y4.2 < (a0.length:Int) then((aG a0 y4.2).bind λx6=>
  (ck (y4.2+1)).bind λx7=>
  jQ k a0 n (JP y4.1 x6,x7)) else(some y4.1)
def m9(k:Nat)(a0:(List Int)):Option Int:=
 if(a0.length:Int) < 1 then(none) else((aG a0 0).bind λx1=>
 ((jQ k a0 k (x1,1)):Option (Int)).bind λx2=>
 some x2)
theorem pJ(k:Nat)(a0:(List Int))(r:Int)(h:m9 k a0=some r):
 c6 Tryz.prog 78 [.rep Tl a0] [] (λ_:Unit=>(bA [I r],[])):=by
 unfold m9 at h
 replace h:=bb h
 refine c6.of 25 Tryz.func78 rfl Tryz.ntmps78 rfl λS w0=>?_
 refine sr ?_
 refine cq ?_
 refine nt ?_
 refine ai ?_
 refine sr ?_
 refine mq ?_
 refine ol gi ?_
 refine jb (bh rfl) ?_
 refine nt ?_
 refine ci h (λh=>?_) (λh=>?_)
 .
  cases h
 .
  refine sk (sr (mq ?_));obtain⟨x1,j,h⟩:=aa h;refine jb (aA (t:=Ti) rfl gi bR j) ?_;refine ja (am (t:=Ti) rfl bR rfl) ?_;refine aq (nt ?_);refine aE (Z:=Unit) (α:=Int) (λz3 x2=>[(3,I x2)]) (λz3 x2=>[]) h (λK h=>?_) (λz3 x2 h=>?_)
  .refine sr (cq (nt (ah ?_)));refine aC (λz5 y4=>[(0,.rep Tl a0),(3,I y4.1),(4,I y4.2)]) (λz5 y4=>[]) (jQ k a0) k () (x1,1) (λ_=>rfl) h (SE.fin [] ⟨rfl,rfl,rfl,trivial⟩ rfl) (λn z5 y4 h=>?_);unfold jQ at h;refine ai (sr ?_);iterate 2 refine mq ?_
   refine ol gi ?_;refine jb (bh rfl) ?_;refine nt (ci h (λh=>?_) (λh=>?_))
   .refine sk (ai (ah (ae ?_)));iterate 3 refine mq ?_
    obtain⟨x6,e,h⟩:=aa h;refine jb (aA (t:=Ti) rfl gi bR e) ?_;refine ja (am (t:=Ti) rfl bR rfl) ?_;refine jb (SS rfl rfl) ?_;refine aq (aH (aJ (tn (ae ?_))));refine mq ?_;obtain⟨x7,c,h⟩:=aa h;refine jb (aU rfl c) ?_;refine aq (nl ?_);exact jz ((),(JP y4.1 x6,x7)) h []
   .refine xa ?_;exact jz ((),y4.1) h []
  .refine sr (mq ?_);refine aq (nt (aD ?_));cases h;exact ra
def jR(k:Nat)(a0:(List Int)):Nat->(Int×Int)->Option Int
 |0,_=>none
 |n+1,y4=>
  if y4.2 < (a0.length:Int) then((aG a0 y4.2).bind λx6=>
  (ck (y4.2+1)).bind λx7=>
  jR k a0 n (uh y4.1 x6,x7)) else(some y4.1)
def pK(k:Nat)(a0:(List Int)):Option Int:=
 if(a0.length:Int) < 1 then(none) else((aG a0 0).bind λx1=>
 ((jR k a0 k (x1,1)):Option (Int)).bind λx2=>
 some x2)
theorem vK(k:Nat)(a0:(List Int))(r:Int)(h:pK k a0=some r):
 c6 Tryz.prog 79 [.rep Tl a0] [] (λ_:Unit=>(bA [I r],[])):=by
 unfold pK at h
 replace h:=bb h
 refine c6.of 25 Tryz.func79 rfl Tryz.ntmps79 rfl λS w0=>?_
 refine sr ?_
 refine cq ?_
 refine nt ?_
 refine ai ?_
 refine sr ?_
 refine mq ?_
 refine ol gi ?_
 refine jb (bh rfl) ?_
 refine nt ?_
 refine ci h (λh=>?_) (λh=>?_)
 .
  cases h
 .
  refine sk (sr (mq ?_));obtain⟨x1,j,h⟩:=aa h;refine jb (aA (t:=Ti) rfl gi bR j) ?_;refine ja (am (t:=Ti) rfl bR rfl) ?_;refine aq (nt ?_);refine aE (Z:=Unit) (α:=Int) (λz3 x2=>[(3,I x2)]) (λz3 x2=>[]) h (λK h=>?_) (λz3 x2 h=>?_)
  .refine sr (cq (nt (ah ?_)));refine aC (λz5 y4=>[(0,.rep Tl a0),(3,I y4.1),(4,I y4.2)]) (λz5 y4=>[]) (jR k a0) k () (x1,1) (λ_=>rfl) h (SE.fin [] ⟨rfl,rfl,rfl,trivial⟩ rfl) (λn z5 y4 h=>?_);unfold jR at h;refine ai (sr ?_);iterate 2 refine mq ?_
   refine ol gi ?_;refine jb (bh rfl) ?_;refine nt (ci h (λh=>?_) (λh=>?_))
   .refine sk (ai (ah (ae ?_)));iterate 3 refine mq ?_
    obtain⟨x6,e,h⟩:=aa h;refine jb (aA (t:=Ti) rfl gi bR e) ?_;refine ja (am (t:=Ti) rfl bR rfl) ?_;refine jb (I5 rfl rfl) ?_;refine aq (aH (aJ (tn (ae ?_))));refine mq ?_;obtain⟨x7,c,h⟩:=aa h;refine jb (aU rfl c) ?_;refine aq (nl ?_);exact jz ((),(uh y4.1 x6,x7)) h []
   .refine xa ?_;exact jz ((),y4.1) h []
  .refine sr (mq ?_);refine aq (nt (aD ?_));cases h;exact ra
def gJ(k:Nat):Nat->((List Int)×Int×Int)->Option (List Int)
 |0,_=>none
 |n+1,y2=>
  if y2.2.1 < y2.2.2 then((aG y2.1 y2.2.2).bind λx4=>
  (aG y2.1 y2.2.1).bind λx5=>
  (aG y2.1 y2.2.1).bind λx6=>
  (aG (List.set y2.1 (Int.toNat y2.2.1) x4) y2.2.2).bind λx7=>
  (ck (y2.2.1+1)).bind λx8=>
  (ck (y2.2.2 - 1)).bind λx9=>
  gJ k n (List.set (List.set y2.1 (Int.toNat y2.2.1) x4) (Int.toNat y2.2.2) x5,x8,x9)) else(some y2.1)
def lw(k:Nat)(a0:(List Int)):Option (List Int):=
 (ck ((a0.length:Int) - 1)).bind λx1=>
 gJ k k (a0,0,x1)
theorem rJ(k:Nat)(a0:(List Int))(c:Value)(r:(List Int))(h:lw k a0=some r):
 c6 Tryz.prog 81 [.eq c] [.sl c 3 Ti a0] (λ_:Unit=>(bA [],[.sl c 3 Ti r])):=by
 unfold lw at h
 replace h:=bb h
 refine c6.of 28 Tryz.func81 rfl Tryz.ntmps81 rfl λS w0=>?_
 refine sr ?_
 refine mq ?_
 refine ka (oc rfl rfl gi) ?_
 obtain⟨x1,mc,h⟩:=aa h
 refine jb (eJ rfl mc) ?_
 refine cq ?_
 refine aq ?_
 refine nt ?_
 refine ah ?_
 refine aC (λz3 y2=>[(0,.eq c),(2,I y2.2.1),(3,I y2.2.2)]) (λz3 y2=>[.sl c 3 Ti y2.1]) (gJ k) k () (a0,0,x1) (λ_=>rfl) h (SE.fin [0] ⟨rfl,rfl,rfl,trivial⟩ rfl) (λn z3 y2 h=>?_)
 unfold gJ at h
 refine ai ?_
 refine sr ?_
 iterate 2 refine mq ?_
 refine jb (bh rfl) ?_
 refine nt ?_
 refine ci h (λh=>?_) (λh=>?_)
 .
  refine sk (ai (ah (qy ?_)));refine bM rfl rfl rfl (ba rfl) ⟨rfl,trivial⟩ ?_;refine bM rfl rfl rfl (ba rfl) ⟨rfl,trivial⟩ ?_;refine bM rfl rfl rfl (ba rfl) ⟨rfl,trivial⟩ ?_;refine bM rfl rfl rfl (ba rfl) ⟨rfl,trivial⟩ ?_;refine bM rfl rfl rfl (ba rfl) ⟨rfl,trivial⟩ ?_;refine bM rfl rfl rfl (ba rfl) ⟨rfl,trivial⟩ ?_;obtain⟨x4,D,h⟩:=aa h;refine iO 0 rfl rfl rfl rfl (cQ (t:=Ti) rfl gi bR D) ⟨rfl,rfl,trivial⟩ ?_;refine iO 0 rfl rfl rfl rfl (ij (i:=Int.toNat y2.2.2) (off:=0) rfl bR (λ_=>rfl) rfl (dR D).2.2 rfl) ⟨rfl,trivial⟩ ?_;refine bM rfl rfl rfl (ba rfl) ⟨rfl,trivial⟩ ?_;refine bM rfl rfl rfl (ba rfl) ⟨rfl,trivial⟩ ?_;obtain⟨x5,y,h⟩:=aa h;refine iO 0 rfl rfl rfl rfl (cQ (t:=Ti) rfl gi bR y) ⟨rfl,rfl,trivial⟩ ?_;refine iO 0 rfl rfl rfl rfl (ij (i:=Int.toNat y2.2.1) (off:=0) rfl bR (λ_=>rfl) rfl (dR y).2.2 rfl) ⟨rfl,trivial⟩ ?_;obtain⟨x6,x,h⟩:=aa h;refine iO 0 rfl rfl rfl rfl (cQ (t:=Ti) rfl gi bR x) ⟨rfl,rfl,trivial⟩ ?_;refine uE 13 [true,true,false,false,true,true,true,true,true,true,true,true,true] [27] [] [] rfl (by kernel_rfl) (by kernel_rfl) (by kernel_rfl) cY (λvs hv hB=>?_);obtain⟨w0,Xq,rfl,Y⟩:=aF hv;obtain⟨w1,Xp,rfl,X⟩:=aF Y;obtain⟨w2,Xo,rfl,U⟩:=aF X;obtain⟨w3,Xn,rfl,Q⟩:=aF U;obtain⟨w4,Xm,rfl,O⟩:=aF Q;obtain⟨w5,Xl,rfl,M⟩:=aF O;obtain⟨w6,Xk,rfl,J⟩:=aF M;obtain⟨w7,Xj,rfl,F⟩:=aF J;obtain⟨w8,Xi,rfl,E⟩:=aF F;obtain⟨w9,Xe,rfl,s⟩:=aF E;obtain⟨Xh,zz,rfl,l⟩:=aF s;obtain⟨Xg,qt,rfl,j⟩:=aF l;obtain⟨Xf,mw,rfl,e⟩:=aF j;obtain rfl:=qK e;refine⟨[0],[.sl c 3 Ti y2.1],by kernel_rfl,by decide,?_⟩;refine sH rfl rfl (iD (i:=Int.toNat y2.2.1) rfl bR rfl (oZ x) rfl .int rfl) ⟨rfl,rfl,trivial⟩ (by kernel_rfl) ?_;obtain⟨x7,u,h⟩:=aa h;refine wX rfl rfl rfl rfl (cQ (t:=Ti) rfl gi bR u) ⟨rfl,rfl,trivial⟩ (by kernel_rfl) ?_;refine sH rfl rfl (iD (i:=Int.toNat y2.2.2) rfl bR rfl (oZ u) rfl .int rfl) ⟨rfl,rfl,trivial⟩ (by kernel_rfl) ?_;refine wY ?_;refine bD (SE.fin (Γ':=[(0,.eq c),(2,I y2.2.1),(3,I y2.2.2)]) (Δ':=[.sl c 3 Ti (List.set (List.set y2.1 (Int.toNat y2.2.1) x4) (Int.toNat y2.2.2) x5)]) [0] ⟨rfl,rfl,rfl,trivial⟩ rfl) ?_;refine aJ (tn (ae (mq ?_)));obtain⟨x8,gw,h⟩:=aa h;refine jb (aU rfl gw) ?_;refine mq ?_;obtain⟨x9,Z,h⟩:=aa h;refine jb (eJ rfl Z) ?_;refine aq ?_;refine aq (nl ?_);exact jz ((),(List.set (List.set y2.1 (Int.toNat y2.2.1) x4) (Int.toNat y2.2.2) x5,x8,x9)) h [0]
 .
  refine eQ (bp (bp (cM (lq ?_))));cases h;exact aS () [] 1 trivial rfl
def iI(k:Nat)(a0:ab)(y4:Int):Nat->Int->Option (Except Bool Unit)
 |0,_=>none
 |n+1,c=>
  (aG a0.2.2.2.2.1 y4).bind λl=>
  if c < (l.length:Int) then((aG a0.2.2.2.2.1 y4).bind λj=>
  (aG j c).bind λh=>
  if 20 < (h.length:Int) then(some (.error true)) else((ck (c+1)).bind λe=>
  iI k a0 y4 n e)) else(some (.ok ()))
def iJ(k:Nat)(a0:ab):Nat->Int->Option (Except Bool Unit)
 |0,_=>none
 |n+1,y4=>
  ((if y4 < (a0.2.2.2.2.1.length:Int) then(some (decide (y4 < 20))) else(some false)):Option (Bool)).bind λx6=>
  if x6=true then(bE (α:=Unit) ((aG a0.2.2.2.2.1 y4).bind λh=>
  if 20 < (h.length:Int) then(some (.error true)) else(iI k a0 y4 k 0)) (λe=>some (.error e)) λ_=>
  (ck (y4+1)).bind λc=>
  iJ k a0 n c) else(some (.ok ()))
def qe(k:Nat)(a0:ab):Option Bool:=
 bE (α:=Unit) (iJ k a0 k 0) (some) λ_=>
 ((if 20 < (a0.2.2.2.2.1.length:Int) then(some true) else(some (decide (20 < (a0.2.2.2.2.2.length:Int))))):Option (Bool)).bind λc=>
 some c
theorem BK(k:Nat)(a0:ab)(r:Bool)(h:qe k a0=some r):
 c6 Tryz.prog 16 [.rep ak a0] [] (λ_:Unit=>(bA [.eq (.bool r)],[])):=by
 unfold qe at h
 replace h:=bb h
 refine c6.of 53 Tryz.func16 rfl Tryz.ntmps16 rfl λS w0=>?_
 refine sr ?_
 refine bx λb1=>?_
 refine cq ?_
 refine nt ?_
 refine cu (Z:=Unit) (α:=Unit) (λz3 x2=>[(1,Pt b1)]) (λz3 x2=>[.obj b1 28 (.rep ak a0)]) (λe=>e=r) h (λe h=>Option.some.inj h) (λK hR h=>?_) (λz3 x2 h=>?_)
 .
  refine sr (cq (nt (ah ?_)));refine aC (λz5 y4=>[(1,Pt b1),(3,I y4)]) (λz5 y4=>[.obj b1 28 (.rep ak a0)]) (iJ k a0) k () 0 (λ_=>rfl) h (SE.fin [0] ⟨rfl,rfl,trivial⟩ rfl) (λn z5 y4 h=>?_);unfold iJ at h;refine ai (aE (Z:=Unit) (α:=Bool) (λz7 x6=>[(1,Pt b1),(3,I y4),(13,.eq (.bool x6))]) (λz7 x6=>[.obj b1 28 (.rep ak a0)]) h (λK h=>?_) (λz7 x6 h=>?_))
  .refine ae (mq ?_);refine fl bL ?_;refine lo eL ?_;refine ol oC ?_;refine jb (bh rfl) ?_;refine mq ?_;refine bX (s:=10) rfl (λhb=>?_) (λhb=>?_)
   .replace h:=eh (va hb) h;refine gm ?_;refine gb (bh rfl) ?_;refine pt (nl ?_);exact jz ((),decide (y4 < 20)) h [0]
   .replace h:=cK (vb hb) h;iterate 2 refine gn ?_
    refine pf (nl ?_);exact jz ((),false) h [0]
  .refine cv h (λh=>?_) (λh=>?_)
   .refine sk (cu (Z:=Unit) (α:=Unit) (λz9 x8=>[(1,Pt b1),(3,I y4)]) (λz9 x8=>[.obj b1 28 (.rep ak a0)]) (λe=>e=r) h (λe h=>hR e h) (λK hR h=>?_) (λz9 x8 h=>?_))
    .refine ah (ai (sr (fl bL ?_)));refine lo eL ?_;refine mq ?_;obtain⟨Y,J,h⟩:=aa h;refine jb (aA (t:=(.slice Tl)) rfl oC iR J) ?_;refine ja (am (t:=(.slice Tl)) rfl iR rfl) ?_;refine ol lF ?_;refine jb (jE rfl) ?_;refine nt (ci h (λh=>?_) (λh=>?_))
     .refine sr (cq (nt (rx (br (aX (be ?_))))));obtain rfl:=hR _ h;exact ra
     .refine sk (sr (cq (nt (ah ?_))));refine aC (λu c=>[(1,Pt b1),(3,I y4),(4,I c)]) (λu c=>[.obj b1 28 (.rep ak a0)]) (iI k a0 y4) k () 0 (λ_=>rfl) h (SE.fin [0] ⟨rfl,rfl,rfl,trivial⟩ rfl) (λn u c h=>?_);unfold iI at h;refine ai (sr (mq ?_));refine fl bL ?_;refine lo eL ?_;refine mq ?_;obtain⟨X,F,h⟩:=aa h;refine jb (aA (t:=(.slice Tl)) rfl oC iR F) ?_;refine ja (am (t:=(.slice Tl)) rfl iR rfl) ?_;refine ol lF ?_;refine jb (bh rfl) ?_;refine nt (ci h (λh=>?_) (λh=>?_))
      .refine sk (ai (ah (sr (fl bL ?_))));refine lo eL ?_;refine mq ?_;obtain⟨U,E,h⟩:=aa h;refine jb (aA (t:=(.slice Tl)) rfl oC iR E) ?_;refine ja (am (t:=(.slice Tl)) rfl iR rfl) ?_;refine mq ?_;obtain⟨Q,D,h⟩:=aa h;refine jb (aA (t:=Tl) rfl lF dO D) ?_;refine ja (am (t:=Tl) rfl dO rfl) ?_;refine ol gi ?_;refine jb (jE rfl) ?_;refine nt (ci h (λh=>?_) (λh=>?_))
       .refine sr (cq (nt (aD (br (aX (br (aX (be ?_))))))));obtain rfl:=hR _ h;exact ra
       .refine bg (aJ (tn (ae (mq ?_))));obtain⟨O,y,h⟩:=aa h;refine jb (aU rfl y) ?_;refine aq (nl ?_);exact jz ((),O) h [0]
      .refine eQ (bp (bp (cM (bn ?_))));exact jz ((),()) h [0]
    .refine ae (mq ?_);obtain⟨M,x,h⟩:=aa h;refine jb (aU rfl x) ?_;refine aq (nl ?_);exact jz ((),M) h [0]
   .refine xa ?_;exact jz ((),()) h [0]
 .
  refine aE (Z:=Unit) (α:=Bool) (λl j=>[(2,.eq (.bool j))]) (λl j=>[]) h (λK h=>?_) (λl j h=>?_)
  .refine ae (fl bL ?_);refine lo eL ?_;refine ol oC ?_;refine jb (jE rfl) ?_;refine mq ?_;refine bX (s:=47) rfl (λhb=>?_) (λhb=>?_)
   .replace h:=eh (va hb) h;iterate 4 refine gn ?_
    refine pt ?_;refine aq (nl ?_);exact jz ((),true) h []
   .replace h:=cK (vb hb) h;refine ga (au rfl gf) ?_;refine eX rfl rfl rfl rfl rfl rfl (ao rfl nP jI rfl) ⟨rfl,trivial⟩ ?_;refine ga (pi rfl rfl Dj) ?_;refine gb (jE rfl) ?_;refine pf ?_;refine aq (nl ?_);exact jz ((),decide (20 < (a0.2.2.2.2.2.length:Int))) h []
  .refine aD ?_;cases h;exact ra
def ee(k:Nat)(a0:ab):Nat->((List (List (List Int)))×Int)->Option (List (List (List Int)))
 |0,_=>none
 |n+1,y9=>
  if y9.2 < (a0.2.2.2.2.1.length:Int) then((aG a0.2.2.2.2.1 y9.2).bind λh=>
  (il k h).bind λc=>
  (bU (aR (length y9.1+length [c]))).bind λ_=>
  (ck (y9.2+1)).bind λe=>
  ee k a0 n (y9.1++[c],e)) else(some y9.1)
def ik(k:Nat)(a0:ab):Option ab:=
 (bU (aR (length ([]:(List aQ))+length a0.2.2.2.2.2))).bind λ_=>
 ((ee k a0 k (([]:(List (List (List Int)))),0)):Option ((List (List (List Int))))).bind λx7=>
 some (a0.1,a0.2.1,a0.2.2.1,a0.2.2.2.1,x7,([]:(List aQ))++a0.2.2.2.2.2)
theorem oh(k:Nat)(a0:ab)(r:ab)(h:ik k a0=some r):
 c6 Tryz.prog 18 [.rep ak a0] [] (λz:Value=>(bA [.agg (.pair (I r.1) (.pair (I r.2.1) (.pair (I r.2.2.1) (.pair (I r.2.2.2.1) (.pair (.rep (.slice (.slice Tl)) r.2.2.2.2.1) (.eq z))))))],[.sl z 46 aI r.2.2.2.2.2])):=by
 unfold ik at h
 replace h:=bb h
 refine c6.of 30 Tryz.func18 rfl Tryz.ntmps18 rfl λS w0=>?_
 refine sr ?_
 refine bx λb1=>?_
 refine aW rfl rfl rfl (bq rfl sK vd) trivial λb2=>?_
 refine nt ?_
 refine sr ?_
 refine fl bL ?_
 refine fr 1 ?_
 refine lo eL ?_
 refine aq ?_
 refine nt ?_
 refine sr ?_
 refine aW rfl rfl rfl (gR (t:=aI) [] ([]:(List aQ)) rfl rfl AY .nil rfl rfl) trivial λv3=>?_
 refine fl gf ?_
 refine fr 1 ?_
 refine lo nP ?_
 obtain⟨u4,E,h⟩:=aa h
 refine fr 1 ?_
 refine cC rfl rfl rfl (bf rfl rfl AY (ap E)) ⟨rfl,rfl,trivial⟩ λv5=>?_
 refine fl bL ?_
 refine fr 1 ?_
 refine aO rfl rfl (aK rfl eL rfl rfl rfl) ⟨rfl,rfl,trivial⟩ ?_
 refine fl gf ?_
 refine fr 1 ?_
 refine nJ λo6=>?_
 refine fr 1 ?_
 refine aO rfl rfl (aK rfl nP o6 rfl rfl) ⟨rfl,rfl,trivial⟩ ?_
 refine nt ?_
 refine aE (Z:=Value) (α:=(List (List (List Int)))) (λz8 x7=>[(1,Pt b1),(2,Pt b2)]) (λz8 x7=>[.obj b1 28 (.agg (.pair (I a0.1) (.pair (I a0.2.1) (.pair (I a0.2.2.1) (.pair (I a0.2.2.2.1) (.pair (.eq z8) (.eq v5))))))),.sl z8 29 (.slice Tl) x7,.sl v5 46 aI (([]:(List aQ))++a0.2.2.2.2.2),.obj b2 28 (.agg (.pair (I 0) (.pair (I 0) (.pair (I 0) (.pair (I 0) (.pair (.eq (.slice none 0 0)) (.eq (.slice none 0 0))))))))]) h (λK h=>?_) (λz8 x7 h=>?_)
 .
  refine sr (cq (nt (ah ?_)));refine fS (SE.nil 29 (.slice Tl)) ?_;refine dN 1 rfl ?_;refine fS (gZ (a:=.agg (.pair (.rep Ti a0.1) (.pair (.rep Ti a0.2.1) (.pair (.rep Ti a0.2.2.1) (.pair (.rep Ti a0.2.2.2.1) (.pair (.eq (.slice none 0 0)) (.eq v5))))))) (a':=.agg (.pair (I a0.1) (.pair (I a0.2.1) (.pair (I a0.2.2.1) (.pair (I a0.2.2.2.1) (.pair (.eq (.slice none 0 0)) (.eq v5))))))) (AE.agg (AE.pair AE.int (AE.pair AE.int (AE.pair AE.int (AE.pair AE.int AE.rfl)))))) ?_;refine aC (λc y9=>[(1,Pt b1),(2,Pt b2),(3,.rep (.slice (.slice Tl)) a0.2.2.2.2.1),(4,I y9.2)]) (λc y9=>[.obj b1 28 (.agg (.pair (I a0.1) (.pair (I a0.2.1) (.pair (I a0.2.2.1) (.pair (I a0.2.2.2.1) (.pair (.eq c) (.eq v5))))))),.sl c 29 (.slice Tl) y9.1,.sl v5 46 aI (([]:(List aQ))++a0.2.2.2.2.2),.obj b2 28 (.agg (.pair (I 0) (.pair (I 0) (.pair (I 0) (.pair (I 0) (.pair (.eq (.slice none 0 0)) (.eq (.slice none 0 0))))))))]) (ee k a0) k (.slice none 0 0) (([]:(List (List (List Int)))),0) (λ_=>rfl) h (SE.fin [0,1,2,3] ⟨rfl,rfl,rfl,rfl,trivial⟩ rfl) (λn c y9 h=>?_);unfold ee at h;refine ai (sr ?_);iterate 2 refine mq ?_
  refine ol oC ?_;refine jb (bh rfl) ?_;refine nt (ci h (λh=>?_) (λh=>?_))
  .refine sk (ai (ah (bB ?_)));refine da (au rfl bL) ?_;refine ea 0 (ao rfl eL jI rfl) ?_;refine dm ?_;refine dm ?_;obtain⟨y,l,h⟩:=aa h;refine db (aA (t:=(.slice Tl)) rfl oC iR l) ?_;refine da (am (t:=(.slice Tl)) rfl iR rfl) ?_;obtain⟨e,u,h⟩:=aa h;refine da (Ai (av [.tmp 24] rfl rfl T8 rfl (om k y e u))) ?_;refine da (aP (t:=(.slice Tl)) [(.tmp 25,_)] [e] rfl rfl vL (.cons rfl .rep .nil) rfl rfl) ?_;refine df cY ?_;obtain⟨F,s,h⟩:=aa h;refine fr 1 ?_;refine cC rfl rfl rfl (bf rfl rfl vL (ap s)) ⟨rfl,rfl,trivial⟩ λD=>?_;refine fl bL ?_;refine nJ λo15=>?_;refine fr 1 ?_;refine aO rfl rfl (aK rfl eL o15 rfl rfl) ⟨rfl,rfl,trivial⟩ ?_;refine aH (aJ (tn (ae (mq ?_))));obtain⟨x,j,h⟩:=aa h;refine jb (aU rfl j) ?_;refine aq (nl ?_);exact jz (D,(y9.1++[e],x)) h [0,1,2,3]
  .refine xa ?_;exact jz (c,y9.1) h [0,1,2,3]
 .
  refine sr (lo dq ?_);refine fr 3 ?_;refine aO rfl rfl (aK rfl dq trivial rfl rfl) ⟨rfl,rfl,trivial⟩ ?_;refine nt (aD (bI 2 rfl ?_));refine bD (iN (off:=4) [] trivial rfl rfl) ?_;refine bD (SE.fin (Γ':=[(2,_)]) [2,0,1] ⟨rfl,trivial⟩ rfl) ?_;cases h;exact aS v5 [.agg (.pair (I a0.1) (.pair (I a0.2.1) (.pair (I a0.2.2.1) (.pair (I a0.2.2.2.1) (.pair (.rep (.slice (.slice Tl)) x7) (.eq v5))))))] 1 ⟨⟨_,_,_,_,_,rfl,(.tail _ (.head _)),dq,(pu),rfl⟩,trivial⟩ rfl
def fj(k:Nat)(a0:Int)(a1:Int)(a2:Int):Option Bool:=
 ((if a1≤a0 then(some (decide (a0≤a2))) else(some false)):Option (Bool)).bind λx1=>
 some x1
theorem fU(k:Nat)(a0:Int)(a1:Int)(a2:Int)(r:Bool)(h:fj k a0 a1 a2=some r):
 c6 Tryz.prog 51 [I a0,I a1,I a2] [] (λ_:Unit=>(bA [.eq (.bool r)],[])):=by
 unfold fj at h
 replace h:=bb h
 refine c6.of 15 Tryz.func51 rfl Tryz.ntmps51 rfl λS w0=>?_
 refine sr ?_
 refine cq ?_
 refine nt ?_
 refine aE (Z:=Unit) (α:=Bool) (λz2 x1=>[(6,.eq (.bool x1))]) (λz2 x1=>[]) h (λK h=>?_) (λz2 x1 h=>?_)
 .
  refine ae ?_;iterate 2 refine mq ?_
  refine jb (iV rfl) ?_;refine mq ?_;refine bX (s:=10) rfl (λhb=>?_) (λhb=>?_)
  .replace h:=eh (va hb) h;refine gm ?_;refine gm ?_;refine gb (yo rfl) ?_;refine pt ?_;refine aq (nl ?_);exact jz ((),decide (a0≤a2)) h []
  .replace h:=cK (vb hb) h;iterate 3 refine gn ?_
   refine pf ?_;refine aq (nl ?_);exact jz ((),false) h []
 .
  refine aD ?_;cases h;exact ra
def ii(k:Nat)(a0:ab)(a1:Int):Option Bool:=
 (fj k a1 0 (IntKind.i64.wrap (a0.1 - 1))).bind λr2=>
 some r2
theorem nY(k:Nat)(a0:ab)(a1:Int)(r:Bool)(h:ii k a0 a1=some r):
 c6 Tryz.prog 127 [.rep ak a0,I a1] [] (λ_:Unit=>(bA [.eq (.bool r)],[])):=by
 unfold ii at h
 replace h:=bb h
 refine c6.of 10 Tryz.func127 rfl Tryz.ntmps127 rfl λS w0=>?_
 refine sr ?_
 refine bx λb1=>?_
 refine cq ?_
 refine nt ?_
 refine sr ?_
 refine mq ?_
 refine fl fq ?_
 refine lo bR ?_
 refine jb (Qq rfl) ?_
 obtain⟨r2,c,h⟩:=aa h
 have e:=fU k a1 0 (IntKind.i64.wrap (a0.1 - 1)) r2 c
 refine jc (av [.tmp 5,.const (.int .i64 (0)),.tmp 8] rfl rfl EC rfl e) ?_
 refine aq ?_
 refine nt ?_
 refine aD ?_
 cases h
 exact ra
def dT(k:Nat)(a0:ab)(a1:(List (List Int)))(y4:(List Int)×Int):Nat->((List Int)×Int)->Option (Except Int (List Int))
 |0,_=>none
 |n+1,y8=>
  (aG a1 y4.2).bind λu=>
  if y8.2 < (u.length:Int) then((aG a1 y4.2).bind λs=>
  (aG s y8.2).bind λr=>
  (ii k a0 r).bind λy=>
  if¬(y=true) then(some (.error 3)) else((aG a1 y4.2).bind λl=>
  (aG l y8.2).bind λj=>
  (lN k y8.1 j).bind λx=>
  if x=true then(some (.error 4)) else((aG a1 y4.2).bind λh=>
  (aG h y8.2).bind λc=>
  (bU (aR (length y8.1+length [c]))).bind λ_=>
  (ck (y8.2+1)).bind λe=>
  dT k a0 a1 y4 n (y8.1++[c],e)))) else(some (.ok y8.1))
def dU(k:Nat)(a0:ab)(a1:(List (List Int))):Nat->((List Int)×Int)->Option (Except Int Unit)
 |0,_=>none
 |n+1,y4=>
  if y4.2 < (a1.length:Int) then(bE (α:=(List Int)) (dT k a0 a1 y4 k (y4.1,0)) (λe=>some (.error e)) λx6=>
  (ck (y4.2+1)).bind λc=>
  dU k a0 a1 n (x6,c)) else(some (.ok ()))
def jS(k:Nat)(a0:ab)(a1:(List (List Int))):Option Int:=
 if 3 < (a1.length:Int) then(some 6) else(bE (α:=Unit) (dU k a0 a1 k (([]:(List Int)),0)) (some) λ_=>
 some 0)
theorem uW(k:Nat)(a0:ab)(a1:(List (List Int)))(r:Int)(h:jS k a0 a1=some r):
 c6 Tryz.prog 101 [.rep ak a0,.rep (.slice Tl) a1] [] (λ_:Unit=>(bA [I r],[])):=by
 unfold jS at h
 replace h:=bb h
 refine c6.of 55 Tryz.func101 rfl Tryz.ntmps101 rfl λS w0=>?_
 refine sr ?_
 refine bx λb1=>?_
 refine cq ?_
 refine nt ?_
 refine ai ?_
 refine sr ?_
 refine mq ?_
 refine ol lF ?_
 refine jb (jE rfl) ?_
 refine nt ?_
 refine ci h (λh=>?_) (λh=>?_)
 .
  refine sr (cq (nt (rx ?_)));cases h;exact ra
 .
  refine sk (sr (cq (nt ?_)));refine cu (Z:=Unit) (α:=Unit) (λz3 x2=>[]) (λz3 x2=>[]) (λe=>e=r) h (λe h=>Option.some.inj h) (λK hR h=>?_) (λz3 x2 h=>?_)
  .refine sr (cq (nt (ah ?_)));refine fS (SE.nil 3 Ti) ?_;refine aC (λz5 y4=>[(1,.rep (.slice Tl) a1),(2,Pt b1),(5,.eq z5),(6,I y4.2)]) (λz5 y4=>[.obj b1 28 (.rep ak a0),.sl z5 3 Ti y4.1]) (dU k a0 a1) k (.slice none 0 0) (([]:(List Int)),0) (λ_=>rfl) h (SE.fin [1,0] ⟨rfl,rfl,rfl,rfl,trivial⟩ rfl) (λn z5 y4 h=>?_);unfold dU at h;refine ai (sr ?_);iterate 2 refine mq ?_
   refine ol lF ?_;refine jb (bh rfl) ?_;refine nt (ci h (λh=>?_) (λh=>?_))
   .refine sk (cu (Z:=Value) (α:=(List Int)) (λz7 x6=>[(1,.rep (.slice Tl) a1),(2,Pt b1),(5,.eq z7),(6,I y4.2)]) (λz7 x6=>[.obj b1 28 (.rep ak a0),.sl z7 3 Ti x6]) (λe=>e=r) h (λe h=>hR e h) (λK hR h=>?_) (λz7 x6 h=>?_))
    .refine ah (sr (cq (nt (ah ?_))));refine aC (λz9 y8=>[(1,.rep (.slice Tl) a1),(2,Pt b1),(5,.eq z9),(6,I y4.2),(7,I y8.2)]) (λz9 y8=>[.obj b1 28 (.rep ak a0),.sl z9 3 Ti y8.1]) (dT k a0 a1 y4) k z5 (y4.1,0) (λ_=>rfl) h (SE.fin [0,1] ⟨rfl,rfl,rfl,rfl,rfl,trivial⟩ rfl) (λn z9 y8 h=>?_);unfold dT at h;refine ai (sr ?_);iterate 3 refine mq ?_
     obtain⟨Xf,J,h⟩:=aa h;refine jb (aA (t:=Tl) rfl lF dO J) ?_;refine ja (am (t:=Tl) rfl dO rfl) ?_;refine ol gi ?_;refine jb (bh rfl) ?_;refine nt (ci h (λh=>?_) (λh=>?_))
     .refine sk (ai (ah (ai (ai (bB ?_)))));refine ea 0 (ao rfl dq (pu) rfl) ?_;refine dm ?_;refine dm ?_;obtain⟨Xe,F,h⟩:=aa h;refine db (aA (t:=Tl) rfl lF dO F) ?_;refine da (am (t:=Tl) rfl dO rfl) ?_;refine dm ?_;obtain⟨Y,E,h⟩:=aa h;refine db (aA (t:=Ti) rfl gi bR E) ?_;refine da (am (t:=Ti) rfl bR rfl) ?_;refine df cY ?_;obtain⟨mw,Q,h⟩:=aa h;refine jb (av [.tmp 26,.tmp 33] rfl rfl Pm rfl (nY k a0 Y mw Q)) ?_;refine ja (fo rfl) ?_;refine nt (cw h (λh=>?_) (λh=>?_))
      .refine sr (cq (nt (rx (br (aX (br (aX (be ?_))))))));obtain rfl:=hR _ h;exact ra
      .refine sk (ai (sr ?_));iterate 3 refine mq ?_
       obtain⟨zz,D,h⟩:=aa h;refine jb (aA (t:=Tl) rfl lF dO D) ?_;refine ja (am (t:=Tl) rfl dO rfl) ?_;refine mq ?_;obtain⟨j,y,h⟩:=aa h;refine jb (aA (t:=Ti) rfl gi bR y) ?_;refine ja (am (t:=Ti) rfl bR rfl) ?_;obtain⟨mc,O,h⟩:=aa h;refine fr 1 ?_;refine kb (kH (N:=[(.tmp 36,.eq z9),(.tmp 43,I j)]) (av [.tmp 36,.tmp 43] rfl rfl NU rfl (oM k y8.1 j mc O)) (λ_ _ _ hv hn=>⟨(lend hn.1 hv),hn.2.1,trivial⟩) (λ_=>⟨rfl,ou⟩)) ?_;refine nt (cv h (λh=>?_) (λh=>?_))
       .refine sr (cq (nt (rx (br (aX (br (aX (be ?_))))))));obtain rfl:=hR _ h;exact ra
       .refine sk (ae ?_);iterate 3 refine mq ?_
        obtain⟨qt,x,h⟩:=aa h;refine jb (aA (t:=Tl) rfl lF dO x) ?_;refine ja (am (t:=Tl) rfl dO rfl) ?_;refine mq ?_;obtain⟨c,u,h⟩:=aa h;refine jb (aA (t:=Ti) rfl gi bR u) ?_;refine ja (am (t:=Ti) rfl bR rfl) ?_;refine ja (aP (t:=Ti) [(.tmp 52,_)] [c] rfl rfl cZ (.cons rfl .int .nil) rfl rfl) ?_;obtain⟨Xg,M,h⟩:=aa h;refine cC rfl rfl rfl (bf rfl rfl cZ (ap M)) ⟨rfl,rfl,trivial⟩ λgw=>?_;refine aq (aH (aJ (tn (ae ?_))));refine mq ?_;obtain⟨X,s,h⟩:=aa h;refine jb (aU rfl s) ?_;refine aq (nl ?_);exact jz (gw,(y8.1++[c],X)) h [1,0]
     .refine eQ (bp (bp (cM (bn ?_))));exact jz (z9,y8.1) h [0,1]
    .refine ae (mq ?_);obtain⟨U,l,h⟩:=aa h;refine jb (aU rfl l) ?_;refine aq (nl ?_);exact jz (z7,(x6,U)) h [0,1]
   .refine xa ?_;exact jz ((),()) h []
  .refine sr (cq (nt (aD ?_)));cases h;exact ra
def jd(k:Nat)(a0:ab)(a1:Int):Option Bool:=
 (fj k a1 0 (a0.2.2.2.2.1.length:Int)).bind λr2=>
 some r2
theorem tJ(k:Nat)(a0:ab)(a1:Int)(r:Bool)(h:jd k a0 a1=some r):
 c6 Tryz.prog 128 [.rep ak a0,I a1] [] (λ_:Unit=>(bA [.eq (.bool r)],[])):=by
 unfold jd at h
 replace h:=bb h
 refine c6.of 10 Tryz.func128 rfl Tryz.ntmps128 rfl λS w0=>?_
 refine sr ?_
 refine bx λb1=>?_
 refine cq ?_
 refine nt ?_
 refine sr ?_
 refine mq ?_
 refine fl bL ?_
 refine lo eL ?_
 refine ol oC ?_
 obtain⟨r2,c,h⟩:=aa h
 have e:=fU k a1 0 (a0.2.2.2.2.1.length:Int) r2 c
 refine jc (av [.tmp 5,.const (.int .i64 (0)),.tmp 8] rfl rfl EC rfl e) ?_
 refine aq ?_
 refine nt ?_
 refine aD ?_
 cases h
 exact ra
def hJ(k:Nat)(a0:ab)(a1:aQ):Option Int:=
 (((ii k a0 a1.1).bind λr5=>
 if¬(r5=true) then(some true) else((jd k a0 a1.2.1).bind λr6=>
 some (!r6))):Option (Bool)).bind λx3=>
 if x3=true then(some 3) else(some 0)
theorem rM(k:Nat)(a0:ab)(a1:aQ)(r:Int)(h:hJ k a0 a1=some r):
 c6 Tryz.prog 102 [.rep ak a0,.rep aI a1] [] (λ_:Unit=>(bA [I r],[])):=by
 unfold hJ at h
 replace h:=bb h
 refine c6.of 17 Tryz.func102 rfl Tryz.ntmps102 rfl λS w0=>?_
 refine sr ?_
 refine bx λb1=>?_
 refine bx λb2=>?_
 refine cq ?_
 refine nt ?_
 refine ai ?_
 refine aE (Z:=Unit) (α:=Bool) (λz4 x3=>[(16,.eq (.bool x3))]) (λz4 x3=>[]) h (λK h=>?_) (λz4 x3 h=>?_)
 .
  refine ae (fr 1 ?_);refine lo dq ?_;refine fl zO ?_;refine fr 1 ?_;refine lo bR ?_;obtain⟨r5,e,h⟩:=aa h;refine jb (av [.tmp 5,.tmp 7] rfl rfl Pm rfl (nY k a0 a1.1 r5 e)) ?_;refine ja (fo rfl) ?_;refine mq ?_;refine bX (s:=10) rfl (λhb=>?_) (λhb=>?_)
  .replace h:=eh (tU hb) h;iterate 5 refine gn ?_
   refine pt (nl ?_);exact jz ((),true) h []
  .replace h:=cK (od hb) h;refine fr 1 ?_;refine eX rfl rfl rfl rfl rfl rfl (ao rfl dq (pu) rfl) ⟨rfl,trivial⟩ ?_;refine ga (au rfl zN) ?_;refine fr 1 ?_;refine eX rfl rfl rfl rfl rfl rfl (ao rfl bR jI rfl) ⟨rfl,trivial⟩ ?_;obtain⟨r6,c,h⟩:=aa h;refine gb (av [.tmp 11,.tmp 13] rfl rfl Um rfl (tJ k a0 a1.2.1 r6 c)) ?_;refine ga (fo rfl) ?_;refine pf (nl ?_);exact jz ((), !r6) h []
 .
  refine cv h (λh=>?_) (λh=>?_)
  .refine sr (cq (nt (rx ?_)));cases h;exact ra
  .refine sk (sr (cq (nt (aD ?_))));cases h;exact ra
def fJ(k:Nat)(a0:ab):Nat->Int->Option (Except Int Unit)
 |0,_=>none
 |n+1,c=>
  if c < (a0.2.2.2.2.1.length:Int) then((aG a0.2.2.2.2.1 c).bind λj=>
  (jS k a0 j).bind λe=>
  if¬(e=0) then(some (.error e)) else((ck (c+1)).bind λh=>
  fJ k a0 n h)) else(some (.ok ()))
def fH(k:Nat)(a0:ab):Nat->Int->Option (Except Int Unit)
 |0,_=>none
 |n+1,c=>
  if c < (a0.2.2.2.2.2.length:Int) then((aG a0.2.2.2.2.2 c).bind λj=>
  (hJ k a0 j).bind λe=>
  if¬(e=0) then(some (.error e)) else((ck (c+1)).bind λh=>
  fH k a0 n h)) else(some (.ok ()))
def nZ(k:Nat)(a0:ab):Option Int:=
 (((fj k a0.1 1 5).bind λr4=>
 if¬(r4=true) then(some true) else((fj k a0.2.1 0 3).bind λr5=>
 if¬(r5=true) then(some true) else((fj k a0.2.2.1 0 3).bind λr6=>
 if¬(r6=true) then(some true) else((fj k a0.2.2.2.1 1 3).bind λr7=>
 some (!r7))))):Option (Bool)).bind λx2=>
 if x2=true then(some 1) else(if(a0.2.2.2.2.1.length:Int)=0 then(some 7) else(if 6 < (a0.2.2.2.2.1.length:Int) then(some 6) else(bE (α:=Unit) (fJ k a0 k 0) (some) λ_=>
 if 8 < (a0.2.2.2.2.2.length:Int) then(some 6) else(bE (α:=Unit) (fH k a0 k 0) (some) λ_=>
 some 0))))
theorem zi(k:Nat)(a0:ab)(r:Int)(h:nZ k a0=some r):
 c6 Tryz.prog 84 [.rep ak a0] [] (λ_:Unit=>(bA [I r],[])):=by
 unfold nZ at h
 replace h:=bb h
 refine c6.of 75 Tryz.func84 rfl Tryz.ntmps84 rfl λS w0=>?_
 refine sr ?_
 refine bx λb1=>?_
 refine cq ?_
 refine nt ?_
 refine ai ?_
 refine aE (Z:=Unit) (α:=Bool) (λz3 x2=>[(1,Pt b1),(28,.eq (.bool x2))]) (λz3 x2=>[.obj b1 28 (.rep ak a0)]) h (λK h=>?_) (λz3 x2 h=>?_)
 .
  refine ae (fl fq ?_);refine lo bR ?_;obtain⟨r4,Xe,h⟩:=aa h;refine jc (av [.tmp 8,.const (.int .i64 (1)),.const (.int .i64 (5))] rfl rfl EC rfl (fU k a0.1 1 5 r4 Xe)) ?_;refine ja (fo rfl) ?_;refine mq ?_;refine bX (s:=11) rfl (λhb=>?_) (λhb=>?_)
  .replace h:=eh (tU hb) h;iterate 4 refine gn ?_
   refine pt ?_;refine mq ?_;iterate 4 refine gn ?_
   refine pt ?_;refine mq ?_;iterate 4 refine gn ?_
   refine pt (nl ?_);exact jz ((),true) h [0]
  .replace h:=cK (od hb) h;refine ga (au rfl qj) ?_;refine eX rfl rfl rfl rfl rfl rfl (ao rfl bR jI rfl) ⟨rfl,trivial⟩ ?_;obtain⟨r5,zz,h⟩:=aa h;refine gc (av [.tmp 13,.const (.int .i64 (0)),.const (.int .i64 (3))] rfl rfl EC rfl (fU k a0.2.1 0 3 r5 zz)) ?_;refine ga (fo rfl) ?_;refine pf ?_;refine mq ?_;refine bX (s:=17) rfl (λhb=>?_) (λhb=>?_)
   .replace h:=eh (tU hb) h;iterate 4 refine gn ?_
    refine pt ?_;refine mq ?_;iterate 4 refine gn ?_
    refine pt (nl ?_);exact jz ((),true) h [0]
   .replace h:=cK (od hb) h;refine ga (au rfl sw) ?_;refine eX rfl rfl rfl rfl rfl rfl (ao rfl bR jI rfl) ⟨rfl,trivial⟩ ?_;obtain⟨r6,qt,h⟩:=aa h;refine gc (av [.tmp 19,.const (.int .i64 (0)),.const (.int .i64 (3))] rfl rfl EC rfl (fU k a0.2.2.1 0 3 r6 qt)) ?_;refine ga (fo rfl) ?_;refine pf ?_;refine mq ?_;refine bX (s:=23) rfl (λhb=>?_) (λhb=>?_)
    .replace h:=eh (tU hb) h;iterate 4 refine gn ?_
     refine pt (nl ?_);exact jz ((),true) h [0]
    .replace h:=cK (od hb) h;refine ga (au rfl uk) ?_;refine eX rfl rfl rfl rfl rfl rfl (ao rfl bR jI rfl) ⟨rfl,trivial⟩ ?_;obtain⟨r7,mw,h⟩:=aa h;refine gc (av [.tmp 25,.const (.int .i64 (1)),.const (.int .i64 (3))] rfl rfl EC rfl (fU k a0.2.2.2.1 1 3 r7 mw)) ?_;refine ga (fo rfl) ?_;refine pf (nl ?_);exact jz ((), !r7) h [0]
 .
  refine cv h (λh=>?_) (λh=>?_)
  .refine sr (cq (nt (rx ?_)));cases h;exact ra
  .refine sk (ai (sr (fl bL ?_)));refine lo eL ?_;refine ol oC ?_;refine jb (jF rfl) ?_;refine nt (ci h (λh=>?_) (λh=>?_))
   .refine sr (cq (nt (rx ?_)));cases h;exact ra
   .refine sk (ai (sr (fl bL ?_)));refine lo eL ?_;refine ol oC ?_;refine jb (jE rfl) ?_;refine nt (ci h (λh=>?_) (λh=>?_))
    .refine sr (cq (nt (rx ?_)));cases h;exact ra
    .refine sk (cu (Z:=Unit) (α:=Unit) (λz9 x8=>[(1,Pt b1)]) (λz9 x8=>[.obj b1 28 (.rep ak a0)]) (λe=>e=r) h (λe h=>Option.some.inj h) (λK hR h=>?_) (λz9 x8 h=>?_))
     .refine sr (cq (nt (ah ?_)));refine aC (λx j=>[(1,Pt b1),(3,I j)]) (λx j=>[.obj b1 28 (.rep ak a0)]) (fJ k a0) k () 0 (λ_=>rfl) h (SE.fin [0] ⟨rfl,rfl,trivial⟩ rfl) (λn x j h=>?_);unfold fJ at h;refine ai (sr (mq ?_));refine fl bL ?_;refine lo eL ?_;refine ol oC ?_;refine jb (bh rfl) ?_;refine nt (ci h (λh=>?_) (λh=>?_))
      .refine sk (ai (ah (ai (bB ?_))));refine ea 0 (ao rfl dq (pu) rfl) ?_;refine da (au rfl bL) ?_;refine ea 0 (ao rfl eL jI rfl) ?_;refine dm ?_;obtain⟨Y,J,h⟩:=aa h;refine db (aA (t:=(.slice Tl)) rfl oC iR J) ?_;refine da (am (t:=(.slice Tl)) rfl iR rfl) ?_;refine df cY ?_;obtain⟨mc,O,h⟩:=aa h;refine jb (av [.tmp 44,.tmp 49] rfl rfl Ur rfl (uW k a0 Y mc O)) ?_;refine aq (nt (sr ?_));refine mq ?_;refine jb (eT rfl) ?_;refine nt (cn h (λh=>?_) (λh=>?_))
       .refine sr (mq ?_);refine aq (nt (aD (br (aX (be ?_)))));obtain rfl:=hR _ h;exact ra
       .refine bg (aJ (tn (ae (mq ?_))));obtain⟨X,F,h⟩:=aa h;refine jb (aU rfl F) ?_;refine aq (nl ?_);exact jz ((),X) h [0]
      .refine xa ?_;exact jz ((),()) h [0]
     .refine ai (sr (fl gf ?_));refine lo nP ?_;refine ol Dj ?_;refine jb (jE rfl) ?_;refine nt (ci h (λh=>?_) (λh=>?_))
      .refine sr (cq (nt (rx ?_)));cases h;exact ra
      .refine sk (cu (Z:=Unit) (α:=Unit) (λu y=>[]) (λu y=>[]) (λe=>e=r) h (λe h=>Option.some.inj h) (λK hR h=>?_) (λu y h=>?_))
       .refine sr (cq (nt (ah ?_)));refine aC (λl c=>[(1,Pt b1),(5,I c)]) (λl c=>[.obj b1 28 (.rep ak a0)]) (fH k a0) k () 0 (λ_=>rfl) h (SE.fin [0] ⟨rfl,rfl,trivial⟩ rfl) (λn l c h=>?_);unfold fH at h;refine ai (sr (mq ?_));refine fl gf ?_;refine lo nP ?_;refine ol Dj ?_;refine jb (bh rfl) ?_;refine nt (ci h (λh=>?_) (λh=>?_))
        .refine sk (ai (ah (ai (bB ?_))));refine ea 0 (ao rfl dq (pu) rfl) ?_;refine da (au rfl gf) ?_;refine ea 0 (ao rfl nP jI rfl) ?_;refine dm ?_;obtain⟨U,E,h⟩:=aa h;refine db (aA (t:=aI) rfl Dj nB E) ?_;refine da (am (t:=aI) rfl nB rfl) ?_;refine df cY ?_;obtain⟨gw,M,h⟩:=aa h;refine jb (av [.tmp 65,.tmp 70] rfl rfl Up rfl (rM k a0 U gw M)) ?_;refine aq (nt (sr ?_));refine mq ?_;refine jb (eT rfl) ?_;refine nt (cn h (λh=>?_) (λh=>?_))
         .refine sr (mq ?_);refine aq (nt (aD (br (aX (be ?_)))));obtain rfl:=hR _ h;exact ra
         .refine bg (aJ (tn (ae (mq ?_))));obtain⟨Q,D,h⟩:=aa h;refine jb (aU rfl D) ?_;refine aq (nl ?_);exact jz ((),Q) h [0]
        .refine xa ?_;exact jz ((),()) h []
       .refine sr (cq (nt (aD ?_)));cases h;exact ra
def iz(k:Nat)(a0:Int)(a1:(List Int))(self:Int->(List Int)->Option ((List (List Int)))):Nat->((List (List Int))×Int)->Option (List (List Int))
 |0,_=>none
 |n+1,y9=>
  if y9.2 < a0 then((bU (aR (length ([]:(List Int))+length a1))).bind λ_=>
  (bU (aR (length (([]:(List Int))++a1)+length [y9.2]))).bind λ_=>
  (self a0 ((([]:(List Int))++a1)++[y9.2])).bind λc=>
  (bU (aR (length y9.1+length c))).bind λ_=>
  (ck (y9.2+1)).bind λe=>
  iz k a0 a1 self n (y9.1++c,e)) else(some y9.1)
def lO(k:Nat):Nat->Int->(List Int)->Option ((List (List Int)))
 |0,_,_=>none
 |m0+1,a0,a1=>
  ((if 0 < (a1.length:Int) then((ck ((a1.length:Int) - 1)).bind λx4=>
  (aG a1 x4).bind λx5=>
  (ck (x5+1)).bind λx6=>
  some x6) else(some 0)):Option (Int)).bind λx2=>
  ((iz k a0 a1 (lO k m0) k ([a1],x2)):Option ((List (List Int)))).bind λx7=>
  some x7
theorem DG(k:Nat):
 ∀(n:Nat) (a0:Int) (a1:(List Int)) (r:(List (List Int))),lO k n a0 a1=some r->c6 Tryz.prog 22 [I a0,.rep Tl a1] ([]) (λ_:Unit=>(bA [.rep (.slice Tl) r],[])):=by
 intro n
 induction n with
 |zero=>intro a0 a1 r h;cases h
 |succ m0 ih=>
  intro a0 a1 r h;rw [lO] at h;replace h:=bb h;refine c6.of 37 Tryz.func22 rfl Tryz.ntmps22 rfl λS w0=>?_;refine sr (cq (nt (sr ?_)));refine mq ?_;refine aW rfl rfl rfl (gR (t:=Tl) [(.tmp 8,_)] [a1] rfl rfl kj (.cons rfl .rep .nil) rfl rfl) ⟨rfl,trivial⟩ λv1=>?_;refine aq (nt (sr ?_));refine cq (nt ?_);refine aE (Z:=Unit) (α:=Int) (λz3 x2=>[(0,I a0),(1,.rep Tl a1),(5,.eq v1),(6,I x2)]) (λz3 x2=>[.sl v1 22 Tl [a1]]) h (λK h=>?_) (λz3 x2 h=>?_)
  .refine sr (mq ?_);refine ol gi ?_;refine jb (jE rfl) ?_;refine nt (ci h (λh=>?_) (λh=>?_))
   .refine ae ?_;iterate 2 refine mq ?_
    refine ol gi ?_;obtain⟨x4,J,h⟩:=aa h;refine jb (eJ rfl J) ?_;obtain⟨x5,F,h⟩:=aa h;refine jb (aA (t:=Ti) rfl gi bR F) ?_;refine ja (am (t:=Ti) rfl bR rfl) ?_;obtain⟨x6,E,h⟩:=aa h;refine jb (aU rfl E) ?_;refine aq (nl ?_);exact jz ((),x6) h [0]
   .refine bg (ax ?_);exact jz ((),0) h [0]
  .refine aE (Z:=Value) (α:=(List (List Int))) (λz8 x7=>[(5,.eq z8)]) (λz8 x7=>[.sl z8 22 Tl x7]) h (λK h=>?_) (λz8 x7 h=>?_)
   .refine sr (mq ?_);refine aq (nt (ah ?_));refine aC (λc y9=>[(0,I a0),(1,.rep Tl a1),(5,.eq c),(7,I y9.2)]) (λc y9=>[.sl c 22 Tl y9.1]) (iz k a0 a1 (lO k m0)) k v1 ([a1],x2) (λ_=>rfl) h (SE.fin [0] ⟨rfl,rfl,rfl,rfl,trivial⟩ rfl) (λn c y9 h=>?_);unfold iz at h;refine ai (sr ?_);iterate 2 refine mq ?_
    refine jb (bh rfl) ?_;refine nt (ci h (λh=>?_) (λh=>?_))
    .refine sk (ai (ah (ae ?_)));iterate 2 refine mq ?_
     refine aW rfl rfl rfl (gR (t:=Ti) [] ([]:(List Int)) rfl rfl cZ .nil rfl rfl) trivial λQ=>?_;refine mq ?_;obtain⟨Y,u,h⟩:=aa h;refine cC rfl rfl rfl (bf rfl rfl cZ (ap u)) ⟨rfl,rfl,trivial⟩ λO=>?_;refine mq ?_;refine ja (aP (t:=Ti) [(.tmp 31,_)] [y9.2] rfl rfl cZ (.cons rfl .int .nil) rfl rfl) ?_;obtain⟨X,s,h⟩:=aa h;refine cC rfl rfl rfl (bf rfl rfl cZ (ap s)) ⟨rfl,rfl,trivial⟩ λM=>?_;refine d4 (fu [33] ⟨rfl,trivial⟩) ?_;obtain⟨e,x,h⟩:=aa h;refine jb (av [.tmp 27,.tmp 33] rfl rfl Ud rfl (ih a0 ((([]:(List Int))++a1)++[y9.2]) e x)) ?_;obtain⟨U,l,h⟩:=aa h;refine cC rfl rfl rfl (bf rfl rfl kj (ap l)) ⟨rfl,rfl,trivial⟩ λD=>?_;refine aq (aH (aJ (tn (ae ?_))));refine mq ?_;obtain⟨y,j,h⟩:=aa h;refine jb (aU rfl j) ?_;refine aq (nl ?_);exact jz (D,(y9.1++e,y)) h [0]
    .refine xa ?_;exact jz (c,y9.1) h [0]
   .refine sr (mq ?_);refine aq (nt (aD ?_));refine bD (fu [4,5,36] ⟨rfl,rfl,rfl,trivial⟩) ?_;cases h;exact ra
def eC(k:Nat)(a2:Int)(e:(List Int)):Nat->Int->Option (Except ((List Int)×Bool) Unit)
 |0,_=>none
 |n+1,c=>
  if c < (e.length:Int) then((aG e c).bind λD=>
  if¬(D=a2) then((ck (c+1)).bind λy=>
  eC k a2 e n y) else(((if 0 < c then((ck (c - 1)).bind λx=>
  (aG e x).bind λl=>
  (bU (aR (length ([]:(List Int))+length [l]))).bind λ_=>
  some (([]:(List Int))++[l])) else(some ([]:(List Int)))):Option ((List Int))).bind λh=>
  (((ck (c+1)).bind λs=>
  if s < (e.length:Int) then((ck (c+1)).bind λr=>
  (aG e r).bind λj=>
  (bU (aR (length h+length [j]))).bind λ_=>
  some (h++[j])) else(some h)):Option ((List Int))).bind λu=>
  some (.error (u,true)))) else(some (.ok ()))
def eZ(k:Nat)(a0:ab)(a1:Int)(a2:Int):Nat->Int->Option (Except ((List Int)×Bool) Unit)
 |0,_=>none
 |n+1,y4=>
  (aG a0.2.2.2.2.1 a1).bind λx6=>
  if y4 < (x6.length:Int) then(bE (α:=Unit) ((aG a0.2.2.2.2.1 a1).bind λx9=>
  (aG x9 y4).bind λh=>
  eC k a2 h k 0) (λe=>some (.error e)) λ_=>
  (ck (y4+1)).bind λc=>
  eZ k a0 a1 a2 n c) else(some (.ok ()))
def kp(k:Nat)(a0:ab)(a1:Int)(a2:Int):Option ((List Int)×Bool):=
 bE (α:=Unit) (eZ k a0 a1 a2 k 0) (some) λ_=>
 some (([]:(List Int)),false)
theorem rp(k:Nat)(a0:ab)(a1:Int)(a2:Int)(r:(List Int)×Bool)(h:kp k a0 a1 a2=some r):
 c6 Tryz.prog 104 [.rep ak a0,I a1,I a2] [] (λ_:Unit=>(bA [.rep Tl r.1,.eq (.bool r.2)],[])):=by
 unfold kp at h
 replace h:=bb h
 refine c6.of 66 Tryz.func104 rfl Tryz.ntmps104 rfl λS w0=>?_
 refine sr ?_
 refine bx λb1=>?_
 refine cq ?_
 refine cq ?_
 refine nt ?_
 refine cu (Z:=Unit) (α:=Unit) (λz3 x2=>[]) (λz3 x2=>[]) (λe=>e=r) h (λe h=>Option.some.inj h) (λK hR h=>?_) (λz3 x2 h=>?_)
 .
  refine sr (cq (nt (ah ?_)));refine aC (λz5 y4=>[(1,I a1),(2,I a2),(3,Pt b1),(8,I y4)]) (λz5 y4=>[.obj b1 28 (.rep ak a0)]) (eZ k a0 a1 a2) k () 0 (λ_=>rfl) h (SE.fin [0] ⟨rfl,rfl,rfl,rfl,trivial⟩ rfl) (λn z5 y4 h=>?_);unfold eZ at h;refine ai (sr (mq ?_));refine fl bL ?_;refine lo eL ?_;refine mq ?_;obtain⟨x6,Xi,h⟩:=aa h;refine jb (aA (t:=(.slice Tl)) rfl oC iR Xi) ?_;refine ja (am (t:=(.slice Tl)) rfl iR rfl) ?_;refine ol lF ?_;refine jb (bh rfl) ?_;refine nt (ci h (λh=>?_) (λh=>?_))
  .refine sk (cu (Z:=Unit) (α:=Unit) (λz8 x7=>[(1,I a1),(2,I a2),(3,Pt b1),(8,I y4)]) (λz8 x7=>[.obj b1 28 (.rep ak a0)]) (λe=>e=r) h (λe h=>hR e h) (λK hR h=>?_) (λz8 x7 h=>?_))
   .refine ah (sr (fl bL ?_));refine lo eL ?_;refine mq ?_;obtain⟨x9,Xh,h⟩:=aa h;refine jb (aA (t:=(.slice Tl)) rfl oC iR Xh) ?_;refine ja (am (t:=(.slice Tl)) rfl iR rfl) ?_;refine mq ?_;obtain⟨y,mc,h⟩:=aa h;refine jb (aA (t:=Tl) rfl lF dO mc) ?_;refine ja (am (t:=Tl) rfl dO rfl) ?_;refine aq (nt (sr ?_));refine cq (nt (ah ?_));refine aC (λD s=>[(1,I a1),(2,I a2),(3,Pt b1),(8,I y4),(9,.rep Tl y),(10,I s)]) (λD s=>[.obj b1 28 (.rep ak a0)]) (eC k a2 y) k () 0 (λ_=>rfl) h (SE.fin [0] ⟨rfl,rfl,rfl,rfl,rfl,rfl,trivial⟩ rfl) (λn D s h=>?_);unfold eC at h;refine ai (sr ?_);iterate 2 refine mq ?_
    refine ol gi ?_;refine jb (bh rfl) ?_;refine nt (ci h (λh=>?_) (λh=>?_))
    .refine sk (ai (ah (ai (sr ?_))));iterate 2 refine mq ?_
     obtain⟨Xm,gw,h⟩:=aa h;refine jb (aA (t:=Ti) rfl gi bR gw) ?_;refine ja (am (t:=Ti) rfl bR rfl) ?_;refine mq ?_;refine jb (eT rfl) ?_;refine nt (cn h (λh=>?_) (λh=>?_))
     .refine eQ (bp (cM (tn (ae (mq ?_)))));obtain⟨Xe,Y,h⟩:=aa h;refine jb (aU rfl Y) ?_;refine aq (nl ?_);exact jz ((),Xe) h [0]
     .refine sk (sr (cq (nt ?_)));refine aE (Z:=Value) (α:=(List Int)) (λc j=>[(9,.rep Tl y),(10,I s),(11,.eq c)]) (λc j=>[.sl c 3 Ti j]) h (λK h=>?_) (λc j h=>?_)
      .refine sr (mq ?_);refine jb (jE rfl) ?_;refine nt (ci h (λh=>?_) (λh=>?_))
       .refine ae ?_;iterate 3 refine mq ?_
        obtain⟨Xl,X,h⟩:=aa h;refine jb (eJ rfl X) ?_;obtain⟨F,U,h⟩:=aa h;refine jb (aA (t:=Ti) rfl gi bR U) ?_;refine ja (am (t:=Ti) rfl bR rfl) ?_;refine ja (aP (t:=Ti) [(.tmp 49,_)] [F] rfl rfl cZ (.cons rfl .int .nil) rfl rfl) ?_;refine d4 (SE.nil 3 Ti) ?_;obtain⟨Xo,qt,h⟩:=aa h;refine cC rfl rfl rfl (bf rfl rfl cZ (ap qt)) ⟨rfl,rfl,trivial⟩ λXg=>?_;refine aq (nl ?_);exact jz (Xg,([]:(List Int))++[F]) h [0]
       .refine bg (ax (bD (SE.nil 3 Ti) ?_));exact jz ((.slice none 0 0),([]:(List Int))) h [0]
      .refine aE (Z:=Value) (α:=(List Int)) (λl u=>[(11,.eq l)]) (λl u=>[.sl l 3 Ti u]) h (λK h=>?_) (λl u h=>?_)
       .refine sr (mq ?_);obtain⟨Xk,Q,h⟩:=aa h;refine jb (aU rfl Q) ?_;refine mq ?_;refine ol gi ?_;refine jb (bh rfl) ?_;refine nt (ci h (λh=>?_) (λh=>?_))
        .refine ae ?_;iterate 3 refine mq ?_
         obtain⟨Xj,O,h⟩:=aa h;refine jb (aU rfl O) ?_;obtain⟨E,M,h⟩:=aa h;refine jb (aA (t:=Ti) rfl gi bR M) ?_;refine ja (am (t:=Ti) rfl bR rfl) ?_;refine ja (aP (t:=Ti) [(.tmp 62,_)] [E] rfl rfl cZ (.cons rfl .int .nil) rfl rfl) ?_;obtain⟨Xn,mw,h⟩:=aa h;refine cC rfl rfl rfl (bf rfl rfl cZ (ap mw)) ⟨rfl,rfl,trivial⟩ λXf=>?_;refine aq (nl ?_);exact jz (Xf,j++[E]) h [0]
        .refine bg (ax ?_);exact jz (c,j) h [0]
       .refine sr (mq ?_);refine aq ?_;refine cq (nt (aD (br (aX (br (aX (be ?_)))))));refine bD (fu [6,11,65] ⟨rfl,rfl,rfl,trivial⟩) ?_;obtain rfl:=hR _ h;exact rb
    .refine eQ (bp (bp (cM (bn ?_))));exact jz ((),()) h [0]
   .refine ae (mq ?_);obtain⟨zz,J,h⟩:=aa h;refine jb (aU rfl J) ?_;refine aq (nl ?_);exact jz ((),zz) h [0]
  .refine xa ?_;exact jz ((),()) h []
 .
  refine sr (cq ?_);refine cq (nt (aD ?_));refine bD (ek (t:=Tl) (x:=([]:(List Int))) 6 rfl .nil rfl rfl) ?_;cases h;exact rb
def fF(k:Nat)(a0:ab)(a2:Int):Nat->(Int×Int)->Option (Except Int Int)
 |0,_=>none
 |n+1,y4=>
  if 0≤y4.2 then((kp k a0 y4.2 a2).bind λr6=>
  if r6.2=true then(some (.error y4.1)) else((ck (y4.1+1)).bind λx7=>
  (ck (y4.2 - 1)).bind λx8=>
  fF k a0 a2 n (x7,x8))) else(some (.ok y4.1))
def pQ(k:Nat)(a0:ab)(a1:Int)(a2:Int):Option Int:=
 bE (α:=Int) (fF k a0 a2 k (0,a1)) (some) λx2=>
 some x2
theorem A5(k:Nat)(a0:ab)(a1:Int)(a2:Int)(r:Int)(h:pQ k a0 a1 a2=some r):
 c6 Tryz.prog 105 [.rep ak a0,I a1,I a2] [] (λ_:Unit=>(bA [I r],[])):=by
 unfold pQ at h
 replace h:=bb h
 refine c6.of 28 Tryz.func105 rfl Tryz.ntmps105 rfl λS w0=>?_
 refine sr ?_
 refine bx λb1=>?_
 refine cq ?_
 refine nt ?_
 refine sr ?_
 refine cq ?_
 refine nt ?_
 refine cu (Z:=Unit) (α:=Int) (λz3 x2=>[(7,I x2)]) (λz3 x2=>[]) (λe=>e=r) h (λe h=>Option.some.inj h) (λK hR h=>?_) (λz3 x2 h=>?_)
 .
  refine sr (mq ?_);refine aq (nt (ah ?_));refine aC (λz5 y4=>[(2,I a2),(3,Pt b1),(7,I y4.1),(8,I y4.2)]) (λz5 y4=>[.obj b1 28 (.rep ak a0)]) (fF k a0 a2) k () (0,a1) (λ_=>rfl) h (SE.fin [0] ⟨rfl,rfl,rfl,rfl,trivial⟩ rfl) (λn z5 y4 h=>?_);unfold fF at h;refine ai (sr (mq ?_));refine jb (iV rfl) ?_;refine nt (ci h (λh=>?_) (λh=>?_))
  .refine sk (ai (ah (ai (sr (lo dq ?_)))));iterate 2 refine mq ?_
   obtain⟨r6,l,h⟩:=aa h;refine jc (av [.tmp 17,.tmp 18,.tmp 19] rfl rfl Pn rfl (rp k a0 y4.2 a2 r6 l)) ?_;refine mq ?_;refine xr ?_;refine xr ?_;refine aq ?_;refine aq (nt (sr ?_));refine mq (nt ?_);refine cv h (λh=>?_) (λh=>?_)
   .refine sr (mq ?_);refine aq (nt (rx (br (aX (be ?_)))));obtain rfl:=hR _ h;exact ra
   .refine sk (ae (mq ?_));obtain⟨x7,j,h⟩:=aa h;refine jb (aU rfl j) ?_;refine aq (aH (aJ (tn (ae ?_))));refine mq ?_;obtain⟨x8,c,h⟩:=aa h;refine jb (eJ rfl c) ?_;refine aq (nl ?_);exact jz ((),(x7,x8)) h [0]
  .refine xa ?_;exact jz ((),y4.1) h []
 .
  refine sr (mq ?_);refine aq (nt (aD ?_));cases h;exact ra
def gp(k:Nat)(a0:ab)(a2:(List Int))(r8:(List Int)×Bool):Nat->(Int×Int)->Option Int
 |0,_=>none
 |n+1,c=>
  if c.2 < (r8.1.length:Int) then((((aG r8.1 c.2).bind λj=>
  (aG a2 j).bind λh=>
  if a0.2.1≤h then(some 0) else(some c.1)):Option (Int)).bind λl=>
  (ck (c.2+1)).bind λe=>
  gp k a0 a2 r8 n (l,e)) else(some c.1)
def gq(k:Nat)(a0:ab)(a1:Int)(a2:(List Int)):Nat->((List Int)×Int)->Option (List Int)
 |0,_=>none
 |n+1,y4=>
  if y4.2 < a0.1 then((((kp k a0 a1 y4.2).bind λr8=>
  ((if¬(r8.2=true) then((pQ k a0 a1 y4.2).bind λs=>
  some (decide (a0.2.2.2.1≤s))) else(some false)):Option (Bool)).bind λx9=>
  if x9=true then((bU (aR (length y4.1+length [(-1:Int)]))).bind λ_=>
  some (y4.1++[(-1:Int)])) else(if¬(r8.2=true) then((aG a2 y4.2).bind λh=>
  (bU (aR (length y4.1+length [h]))).bind λ_=>
  some (y4.1++[h])) else((aG a2 y4.2).bind λr=>
  if 0≤r then((aG a2 y4.2).bind λl=>
  (ck (l+1)).bind λe=>
  (bU (aR (length y4.1+length [e]))).bind λ_=>
  some (y4.1++[e])) else(((gp k a0 a2 r8 k ((-1:Int),0)):Option (Int)).bind λc=>
  (bU (aR (length y4.1+length [c]))).bind λ_=>
  some (y4.1++[c]))))):Option ((List Int))).bind λx6=>
  (ck (y4.2+1)).bind λj=>
  gq k a0 a1 a2 n (x6,j)) else(some y4.1)
def pP(k:Nat)(a0:ab)(a1:Int)(a2:(List Int)):Option (List Int):=
 ((gq k a0 a1 a2 k (([]:(List Int)),0)):Option ((List Int))).bind λx2=>
 some x2
theorem A4(k:Nat)(a0:ab)(a1:Int)(a2:(List Int))(r:(List Int))(h:pP k a0 a1 a2=some r):
 c6 Tryz.prog 86 [.rep ak a0,I a1,.rep Tl a2] [] (λ_:Unit=>(bA [.rep Tl r],[])):=by
 unfold pP at h
 replace h:=bb h
 refine c6.of 86 Tryz.func86 rfl Tryz.ntmps86 rfl λS w0=>?_
 refine sr ?_
 refine bx λb1=>?_
 refine cq ?_
 refine nt ?_
 refine sr ?_
 refine cq ?_
 refine nt ?_
 refine aE (Z:=Value) (α:=(List Int)) (λz3 x2=>[(7,.eq z3)]) (λz3 x2=>[.sl z3 3 Ti x2]) h (λK h=>?_) (λz3 x2 h=>?_)
 .
  refine sr (cq (nt (ah ?_)));refine fS (SE.nil 3 Ti) ?_;refine aC (λz5 y4=>[(1,I a1),(2,.rep Tl a2),(3,Pt b1),(7,.eq z5),(8,I y4.2)]) (λz5 y4=>[.obj b1 28 (.rep ak a0),.sl z5 3 Ti y4.1]) (gq k a0 a1 a2) k (.slice none 0 0) (([]:(List Int)),0) (λ_=>rfl) h (SE.fin [1,0] ⟨rfl,rfl,rfl,rfl,rfl,trivial⟩ rfl) (λn z5 y4 h=>?_);unfold gq at h;refine ai (sr (mq ?_));refine fl fq ?_;refine lo bR ?_;refine jb (bh rfl) ?_;refine nt (ci h (λh=>?_) (λh=>?_))
  .refine sk (aE (Z:=Value) (α:=(List Int)) (λz7 x6=>[(1,I a1),(2,.rep Tl a2),(3,Pt b1),(7,.eq z7),(8,I y4.2)]) (λz7 x6=>[.obj b1 28 (.rep ak a0),.sl z7 3 Ti x6]) h (λK h=>?_) (λz7 x6 h=>?_))
   .refine ah (sr (lo dq ?_));iterate 2 refine mq ?_
    obtain⟨r8,Xk,h⟩:=aa h;refine jc (av [.tmp 20,.tmp 21,.tmp 22] rfl rfl Pn rfl (rp k a0 a1 y4.2 r8 Xk)) ?_;refine mq ?_;refine xr ?_;refine xr ?_;refine aq ?_;refine aq (nt (ah ?_));refine aE (Z:=Unit) (α:=Bool) (λx x9=>[(1,I a1),(2,.rep Tl a2),(3,Pt b1),(7,.eq z5),(8,I y4.2),(9,.rep Tl r8.1),(10,.eq (.bool r8.2)),(46,.eq (.bool x9))]) (λx x9=>[.obj b1 28 (.rep ak a0),.sl z5 3 Ti y4.1]) h (λK h=>?_) (λx x9 h=>?_)
    .refine bB ?_;refine dm ?_;refine da (fo rfl) ?_;refine nA rfl rfl rfl (ba rfl) ⟨rfl,trivial⟩ (λhb=>?_) (λhb=>?_)
     .replace h:=eh (tU hb) h;refine g9 0 rfl rfl rfl rfl rfl rfl (ao rfl dq (pu) rfl) ⟨rfl,rfl,trivial⟩ ?_;refine bu rfl rfl rfl rfl rfl (ba rfl) ⟨rfl,rfl,trivial⟩ ?_;refine bu rfl rfl rfl rfl rfl (ba rfl) ⟨rfl,rfl,trivial⟩ ?_;obtain⟨E,zz,h⟩:=aa h;refine bu rfl rfl rfl rfl rfl (av [.tmp 50,.tmp 51,.tmp 52] rfl rfl Un rfl (A5 k a0 a1 y4.2 E zz)) ⟨rfl,rfl,rfl,rfl,trivial⟩ ?_;refine bu rfl rfl rfl rfl rfl (au rfl uk) ⟨rfl,rfl,trivial⟩ ?_;refine g9 0 rfl rfl rfl rfl rfl rfl (ao rfl bR jI rfl) ⟨rfl,rfl,trivial⟩ ?_;refine df cY ?_;refine gb (iV rfl) ?_;refine pt ?_;refine aq (nl ?_);exact jz ((),decide (a0.2.2.2.1≤E)) h [0,1]
     .replace h:=cK (od hb) h;iterate 6 refine dg ?_
      refine df cY ?_;refine gn ?_;refine pf ?_;refine aq (nl ?_);exact jz ((),false) h [0,1]
    .refine cv h (λh=>?_) (λh=>?_)
     .refine ae (mq ?_);refine ja (aP (t:=Ti) [(.const (.int .i64 (-1)),_)] [(-1:Int)] rfl rfl cZ (.cons rfl .int .nil) rfl rfl) ?_;obtain⟨Xs,qt,h⟩:=aa h;refine fr 1 ?_;refine cC rfl rfl rfl (bf rfl rfl cZ (ap qt)) ⟨rfl,rfl,trivial⟩ λXj=>?_;refine aq (aH (aJ (bn ?_)));exact jz (Xj,y4.1++[(-1:Int)]) h [1,0]
     .refine sr (mq ?_);refine ja (fo rfl) ?_;refine aq (nt ?_);refine cw h (λh=>?_) (λh=>?_)
      .refine ae ?_;iterate 3 refine mq ?_
       obtain⟨D,Y,h⟩:=aa h;refine jb (aA (t:=Ti) rfl gi bR Y) ?_;refine ja (am (t:=Ti) rfl bR rfl) ?_;refine ja (aP (t:=Ti) [(.tmp 68,_)] [D] rfl rfl cZ (.cons rfl .int .nil) rfl rfl) ?_;obtain⟨Xr,mw,h⟩:=aa h;refine fr 1 ?_;refine cC rfl rfl rfl (bf rfl rfl cZ (ap mw)) ⟨rfl,rfl,trivial⟩ λXi=>?_;refine aq (aH (aJ (bn ?_)));exact jz (Xi,y4.1++[D]) h [1,0]
      .refine sr ?_;iterate 2 refine mq ?_
       obtain⟨Xo,X,h⟩:=aa h;refine jb (aA (t:=Ti) rfl gi bR X) ?_;refine ja (am (t:=Ti) rfl bR rfl) ?_;refine jb (iV rfl) ?_;refine aq (nt ?_);refine ci h (λh=>?_) (λh=>?_)
       .refine ae ?_;iterate 3 refine mq ?_
        obtain⟨Xn,U,h⟩:=aa h;refine jb (aA (t:=Ti) rfl gi bR U) ?_;refine ja (am (t:=Ti) rfl bR rfl) ?_;obtain⟨y,Q,h⟩:=aa h;refine jb (aU rfl Q) ?_;refine ja (aP (t:=Ti) [(.tmp 82,_)] [y] rfl rfl cZ (.cons rfl .int .nil) rfl rfl) ?_;obtain⟨Xq,mc,h⟩:=aa h;refine fr 1 ?_;refine cC rfl rfl rfl (bf rfl rfl cZ (ap mc)) ⟨rfl,rfl,trivial⟩ λXh=>?_;refine aq (aH (aJ (bn ?_)));exact jz (Xh,y4.1++[y]) h [1,0]
       .refine sr (cq (nt ?_));refine aE (Z:=Unit) (α:=Int) (λu e=>[(1,I a1),(2,.rep Tl a2),(3,Pt b1),(7,.eq z5),(8,I y4.2),(11,I e)]) (λu e=>[.obj b1 28 (.rep ak a0),.sl z5 3 Ti y4.1]) h (λK h=>?_) (λu e h=>?_)
        .refine sr (cq (nt (ah ?_)));refine aC (λs c=>[(1,I a1),(2,.rep Tl a2),(3,Pt b1),(7,.eq z5),(8,I y4.2),(9,.rep Tl r8.1),(11,I c.1),(12,I c.2)]) (λs c=>[.obj b1 28 (.rep ak a0),.sl z5 3 Ti y4.1]) (gp k a0 a2 r8) k () ((-1:Int),0) (λ_=>rfl) h (SE.fin [0,1] ⟨rfl,rfl,rfl,rfl,rfl,rfl,rfl,rfl,trivial⟩ rfl) (λn s c h=>?_);unfold gp at h;refine ai (sr ?_);iterate 2 refine mq ?_
         refine ol gi ?_;refine jb (bh rfl) ?_;refine nt (ci h (λh=>?_) (λh=>?_))
         .refine sk (aE (Z:=Unit) (α:=Int) (λl j=>[(1,I a1),(2,.rep Tl a2),(3,Pt b1),(7,.eq z5),(8,I y4.2),(9,.rep Tl r8.1),(11,I j),(12,I c.2)]) (λl j=>[.obj b1 28 (.rep ak a0),.sl z5 3 Ti y4.1]) h (λK h=>?_) (λl j h=>?_))
          .refine ah (ai (bB ?_));refine dm ?_;refine dm ?_;refine dm ?_;obtain⟨Xm,O,h⟩:=aa h;refine db (aA (t:=Ti) rfl gi bR O) ?_;refine da (am (t:=Ti) rfl bR rfl) ?_;obtain⟨Xl,M,h⟩:=aa h;refine db (aA (t:=Ti) rfl gi bR M) ?_;refine da (am (t:=Ti) rfl bR rfl) ?_;refine da (au rfl qj) ?_;refine ea 0 (ao rfl bR jI rfl) ?_;refine df cY ?_;refine jb (iV rfl) ?_;refine nt (ci h (λh=>?_) (λh=>?_))
           .refine ae (cq (aH (bn ?_)));exact jz ((),0) h [0,1]
           .refine bg (bn ?_);exact jz ((),c.1) h [0,1]
          .refine ae (mq ?_);obtain⟨Xf,J,h⟩:=aa h;refine jb (aU rfl J) ?_;refine aq (nl ?_);exact jz ((),(j,Xf)) h [0,1]
         .refine xa ?_;exact jz ((),c.1) h [0,1]
        .refine ae ?_;iterate 2 refine mq ?_
         refine ja (aP (t:=Ti) [(.tmp 43,_)] [e] rfl rfl cZ (.cons rfl .int .nil) rfl rfl) ?_;obtain⟨Xp,gw,h⟩:=aa h;refine fr 1 ?_;refine cC rfl rfl rfl (bf rfl rfl cZ (ap gw)) ⟨rfl,rfl,trivial⟩ λXg=>?_;refine aq (aH (aJ (bn ?_)));exact jz (Xg,y4.1++[e]) h [1,0]
   .refine ae (mq ?_);obtain⟨Xe,F,h⟩:=aa h;refine jb (aU rfl F) ?_;refine aq (nl ?_);exact jz (z7,(x6,Xe)) h [0,1]
  .refine xa ?_;exact jz (z5,y4.1) h [1]
 .
  refine sr (mq ?_);refine aq (nt (aD ?_));refine bD (fu [6,7,85] ⟨rfl,rfl,rfl,trivial⟩) ?_;cases h;exact ra
def gx(k:Nat)(a0:ab)(a1:(List Int)):Nat->((List Int)×Int)->Option (List Int)
 |0,_=>none
 |n+1,y4=>
  if y4.2 < a0.1 then((((lN k a1 y4.2).bind λr8=>
  if r8=true then((bU (aR (length y4.1+length [a0.2.1]))).bind λ_=>
  some (y4.1++[a0.2.1])) else((bU (aR (length y4.1+length [(-1:Int)]))).bind λ_=>
  some (y4.1++[(-1:Int)]))):Option ((List Int))).bind λx6=>
  (ck (y4.2+1)).bind λc=>
  gx k a0 a1 n (x6,c)) else(some y4.1)
def gr(k:Nat)(a0:ab):Nat->((List (List Int))×Int)->Option (List (List Int))
 |0,_=>none
 |n+1,c=>
  if c.2 < (a0.2.2.2.2.1.length:Int) then((aG c.1 c.2).bind λj=>
  (pP k a0 c.2 j).bind λe=>
  (bU (aR (length c.1+length [e]))).bind λ_=>
  (ck (c.2+1)).bind λh=>
  gr k a0 n (c.1++[e],h)) else(some c.1)
def oa(k:Nat)(a0:ab)(a1:(List Int)):Option (List (List Int)):=
 ((gx k a0 a1 k (([]:(List Int)),0)):Option ((List Int))).bind λx2=>
 ((gr k a0 k ([x2],0)):Option ((List (List Int)))).bind λc=>
 some c
theorem uH(k:Nat)(a0:ab)(a1:(List Int))(r:(List (List Int)))(h:oa k a0 a1=some r):
 c6 Tryz.prog 54 [.rep ak a0,.rep Tl a1] [] (λ_:Unit=>(bA [.rep (.slice Tl) r],[])):=by
 unfold oa at h
 replace h:=bb h
 refine c6.of 46 Tryz.func54 rfl Tryz.ntmps54 rfl λS w0=>?_
 refine sr ?_
 refine bx λb1=>?_
 refine cq ?_
 refine nt ?_
 refine sr ?_
 refine cq ?_
 refine nt ?_
 refine aE (Z:=Value) (α:=(List Int)) (λz3 x2=>[(2,Pt b1),(5,.eq z3)]) (λz3 x2=>[.obj b1 28 (.rep ak a0),.sl z3 3 Ti x2]) h (λK h=>?_) (λz3 x2 h=>?_)
 .
  refine sr (cq (nt (ah ?_)));refine fS (SE.nil 3 Ti) ?_;refine aC (λz5 y4=>[(1,.rep Tl a1),(2,Pt b1),(5,.eq z5),(6,I y4.2)]) (λz5 y4=>[.obj b1 28 (.rep ak a0),.sl z5 3 Ti y4.1]) (gx k a0 a1) k (.slice none 0 0) (([]:(List Int)),0) (λ_=>rfl) h (SE.fin [1,0] ⟨rfl,rfl,rfl,rfl,trivial⟩ rfl) (λn z5 y4 h=>?_);unfold gx at h;refine ai (sr (mq ?_));refine fl fq ?_;refine lo bR ?_;refine jb (bh rfl) ?_;refine nt (ci h (λh=>?_) (λh=>?_))
  .refine sk (aE (Z:=Value) (α:=(List Int)) (λz7 x6=>[(1,.rep Tl a1),(2,Pt b1),(5,.eq z7),(6,I y4.2)]) (λz7 x6=>[.obj b1 28 (.rep ak a0),.sl z7 3 Ti x6]) h (λK h=>?_) (λz7 x6 h=>?_))
   .refine ah (sr ?_);iterate 2 refine mq ?_
    obtain⟨r8,mc,h⟩:=aa h;refine jb (av [.tmp 15,.tmp 16] rfl rfl NU rfl (oM k a1 y4.2 r8 mc)) ?_;refine nt (cv h (λh=>?_) (λh=>?_))
    .refine ae (mq ?_);refine fl qj ?_;refine lo bR ?_;refine ja (aP (t:=Ti) [(.tmp 20,_)] [a0.2.1] rfl rfl cZ (.cons rfl .int .nil) rfl rfl) ?_;obtain⟨u9,gw,h⟩:=aa h;refine fr 1 ?_;refine cC rfl rfl rfl (bf rfl rfl cZ (ap gw)) ⟨rfl,rfl,trivial⟩ λY=>?_;refine aq (aH (bn ?_));exact jz (Y,y4.1++[a0.2.1]) h [1,0]
    .refine ae (mq ?_);refine ja (aP (t:=Ti) [(.const (.int .i64 (-1)),_)] [(-1:Int)] rfl rfl cZ (.cons rfl .int .nil) rfl rfl) ?_;obtain⟨qt,E,h⟩:=aa h;refine fr 1 ?_;refine cC rfl rfl rfl (bf rfl rfl cZ (ap E)) ⟨rfl,rfl,trivial⟩ λX=>?_;refine aq (aH (bn ?_));exact jz (X,y4.1++[(-1:Int)]) h [1,0]
   .refine ae (mq ?_);obtain⟨O,y,h⟩:=aa h;refine jb (aU rfl y) ?_;refine aq (nl ?_);exact jz (z7,(x6,O)) h [0,1]
  .refine xa ?_;exact jz (z5,y4.1) h [0,1]
 .
  refine sr (mq ?_);refine fr 1 ?_;refine d4 (fu [5,26] ⟨rfl,rfl,trivial⟩) ?_;refine aW rfl rfl rfl (gR (t:=Tl) [(.tmp 26,_)] [x2] rfl rfl kj (.cons rfl .rep .nil) rfl rfl) ⟨rfl,trivial⟩ λU=>?_;refine aq (nt ?_);refine aE (Z:=Value) (α:=(List (List Int))) (λj s=>[(7,.eq j)]) (λj s=>[.sl j 22 Tl s]) h (λK h=>?_) (λj s h=>?_)
  .refine sr (cq (nt (ah ?_)));refine aC (λe c=>[(2,Pt b1),(7,.eq e),(8,I c.2)]) (λe c=>[.obj b1 28 (.rep ak a0),.sl e 22 Tl c.1]) (gr k a0) k U ([x2],0) (λ_=>rfl) h (SE.fin [1,0] ⟨rfl,rfl,rfl,trivial⟩ rfl) (λn e c h=>?_);unfold gr at h;refine ai (sr (mq ?_));refine fl bL ?_;refine lo eL ?_;refine ol oC ?_;refine jb (bh rfl) ?_;refine nt (ci h (λh=>?_) (λh=>?_))
   .refine sk (ai (ah (bB ?_)));refine dm ?_;refine ea 0 (ao rfl dq (pu) rfl) ?_;refine dm ?_;refine dm ?_;refine dm ?_;obtain⟨M,l,h⟩:=aa h;refine eb 1 (cQ (t:=Tl) rfl lF dO l) ?_;refine ea 1 (ij (i:=Int.toNat c.2) (off:=0) rfl dO (λ_=>rfl) rfl (dR l).2.2 rfl) ?_;obtain⟨u,F,h⟩:=aa h;refine dc (av [.tmp 36,.tmp 37,.tmp 41] rfl rfl VP rfl (A4 k a0 c.2 M u F)) ?_;refine da (aP (t:=Tl) [(.tmp 42,_)] [u] rfl rfl kj (.cons rfl .rep .nil) rfl rfl) ?_;refine df cY ?_;obtain⟨mw,D,h⟩:=aa h;refine fr 1 ?_;refine cC rfl rfl rfl (bf rfl rfl kj (ap D)) ⟨rfl,rfl,trivial⟩ λQ=>?_;refine aq (aH (aJ (tn (ae ?_))));refine mq ?_;obtain⟨J,x,h⟩:=aa h;refine jb (aU rfl x) ?_;refine aq (nl ?_);exact jz (Q,(c.1++[u],J)) h [1,0]
   .refine xa ?_;exact jz (e,c.1) h [1]
  .refine sr (mq ?_);refine aq (nt (aD ?_));refine bD (fu [4,7,45] ⟨rfl,rfl,rfl,trivial⟩) ?_;cases h;exact ra
def nX(k:Nat)(a0:ab)(a1:(List (List Int)))(a2:aQ):Option Bool:=
 (aG a1 a2.2.1).bind λx3=>
 (aG x3 a2.1).bind λx4=>
 some (decide (a2.2.2=(decide (a0.2.2.1≤x4))))
theorem zg(k:Nat)(a0:ab)(a1:(List (List Int)))(a2:aQ)(r:Bool)(h:nX k a0 a1 a2=some r):
 c6 Tryz.prog 103 [.rep ak a0,.rep (.slice Tl) a1,.rep aI a2] [] (λ_:Unit=>(bA [.eq (.bool r)],[])):=by
 unfold nX at h
 replace h:=bb h
 refine c6.of 22 Tryz.func103 rfl Tryz.ntmps103 rfl λS w0=>?_
 refine sr ?_
 refine bx λb1=>?_
 refine bx λb2=>?_
 refine cq ?_
 refine nt ?_
 refine ai ?_
 refine bB ?_
 refine da (au rfl J3) ?_
 refine ea 0 (ao rfl WP jI rfl) ?_
 refine dm ?_
 refine da (au rfl zN) ?_
 refine ea 0 (ao rfl bR jI rfl) ?_
 obtain⟨x3,e,h⟩:=aa h
 refine db (aA (t:=Tl) rfl lF dO e) ?_
 refine da (am (t:=Tl) rfl dO rfl) ?_
 refine da (au rfl zO) ?_
 refine ea 0 (ao rfl bR jI rfl) ?_
 obtain⟨x4,c,h⟩:=aa h
 refine db (aA (t:=Ti) rfl gi bR c) ?_
 refine da (am (t:=Ti) rfl bR rfl) ?_
 refine da (au rfl sw) ?_
 refine ea 1 (ao rfl bR jI rfl) ?_
 refine db (iV rfl) ?_
 refine df cY ?_
 refine jb (Qw rfl U4) ?_
 refine aq ?_
 refine nt ?_
 refine aD ?_
 cases h
 exact ra
def dk(k:Nat)(a0:ab)(a1:(List Int))(e:(List (List Int))):Nat->(Bool×Int)->Option Bool
 |0,_=>none
 |n+1,c=>
  if c.2 < (a0.2.2.2.2.2.length:Int) then(((if c.1=true then((lN k a1 c.2).bind λs=>
  if s=true then(some true) else((aG a0.2.2.2.2.2 c.2).bind λj=>
  (nX k a0 e j).bind λr=>
  some r)) else(some false)):Option (Bool)).bind λl=>
  (ck (c.2+1)).bind λh=>
  dk k a0 a1 e n (l,h)) else(some c.1)
def dE(k:Nat)(a0:ab)(a1:(List Int))(r2:(List (List Int))):Nat->((List (List Int))×Int)->Option (List (List Int))
 |0,_=>none
 |n+1,y5=>
  if y5.2 < (r2.length:Int) then((((aG r2 y5.2).bind λx9=>
  (oa k a0 x9).bind λj=>
  ((dk k a0 a1 j k (true,0)):Option (Bool)).bind λh=>
  if h=true then((aG r2 y5.2).bind λc=>
  (bU (aR (length y5.1+length [c]))).bind λ_=>
  some (y5.1++[c])) else(some y5.1)):Option ((List (List Int)))).bind λx7=>
  (ck (y5.2+1)).bind λe=>
  dE k a0 a1 r2 n (x7,e)) else(some y5.1)
def je(k:Nat)(a0:ab)(a1:(List Int)):Option (List (List Int)):=
 (lO k k a0.1 ([]:(List Int))).bind λr2=>
 ((dE k a0 a1 r2 k (([]:(List (List Int))),0)):Option ((List (List Int)))).bind λx3=>
 some x3
theorem tK(k:Nat)(a0:ab)(a1:(List Int))(r:(List (List Int)))(h:je k a0 a1=some r):
 c6 Tryz.prog 85 [.rep ak a0,.rep Tl a1] [] (λ_:Unit=>(bA [.rep (.slice Tl) r],[])):=by
 unfold je at h
 replace h:=bb h
 refine c6.of 58 Tryz.func85 rfl Tryz.ntmps85 rfl λS w0=>?_
 refine sr ?_
 refine bx λb1=>?_
 refine cq ?_
 refine nt ?_
 refine sr ?_
 refine cq ?_
 refine nt ?_
 refine sr ?_
 refine fl fq ?_
 refine lo bR ?_
 obtain⟨r2,Xf,h⟩:=aa h
 have Xg:=DG k k a0.1 ([]:(List Int)) r2 Xf
 refine jb (bW (N:=[(.tmp 12,I a0.1),(.const (.slice none 0 0),.eq (.slice none 0 0))]) (av [.tmp 12,.const (.slice none 0 0)] rfl rfl Ud rfl Xg) λ_ _ _ hn=>⟨hn.1,(aN (t:=Tl) (x:=([]:(List Int))) .nil rfl rfl hn.2.1),trivial⟩) ?_
 refine aq ?_
 refine nt ?_
 refine aE (Z:=Value) (α:=(List (List Int))) (λz4 x3=>[(5,.eq z4)]) (λz4 x3=>[.sl z4 22 Tl x3]) h (λK h=>?_) (λz4 x3 h=>?_)
 .
  refine sr (cq (nt (ah ?_)));refine fS (SE.nil 22 Tl) ?_;refine aC (λz6 y5=>[(1,.rep Tl a1),(2,Pt b1),(5,.eq z6),(6,.rep (.slice Tl) r2),(7,I y5.2)]) (λz6 y5=>[.obj b1 28 (.rep ak a0),.sl z6 22 Tl y5.1]) (dE k a0 a1 r2) k (.slice none 0 0) (([]:(List (List Int))),0) (λ_=>rfl) h (SE.fin [1,0] ⟨rfl,rfl,rfl,rfl,rfl,trivial⟩ rfl) (λn z6 y5 h=>?_);unfold dE at h;refine ai (sr ?_);iterate 2 refine mq ?_
  refine ol lF ?_;refine jb (bh rfl) ?_;refine nt (ci h (λh=>?_) (λh=>?_))
  .refine sk (aE (Z:=Value) (α:=(List (List Int))) (λz8 x7=>[(1,.rep Tl a1),(2,Pt b1),(5,.eq z8),(6,.rep (.slice Tl) r2),(7,I y5.2)]) (λz8 x7=>[.obj b1 28 (.rep ak a0),.sl z8 22 Tl x7]) h (λK h=>?_) (λz8 x7 h=>?_))
   .refine ah (ai (bB ?_));refine ea 0 (ao rfl dq (pu) rfl) ?_;refine dm ?_;refine dm ?_;obtain⟨x9,Xe,h⟩:=aa h;refine db (aA (t:=Tl) rfl lF dO Xe) ?_;refine da (am (t:=Tl) rfl dO rfl) ?_;refine df cY ?_;obtain⟨e,Y,h⟩:=aa h;refine jb (av [.tmp 20,.tmp 24] rfl rfl TY rfl (uH k a0 x9 e Y)) ?_;refine aq ?_;refine cq (nt ?_);refine aE (Z:=Unit) (α:=Bool) (λy l=>[(1,.rep Tl a1),(2,Pt b1),(5,.eq z6),(6,.rep (.slice Tl) r2),(7,I y5.2),(9,.eq (.bool l))]) (λy l=>[.obj b1 28 (.rep ak a0),.sl z6 22 Tl y5.1]) h (λK h=>?_) (λy l h=>?_)
    .refine sr (cq (nt (ah ?_)));refine aC (λu c=>[(1,.rep Tl a1),(2,Pt b1),(5,.eq z6),(6,.rep (.slice Tl) r2),(7,I y5.2),(8,.rep (.slice Tl) e),(9,.eq (.bool c.1)),(10,I c.2)]) (λu c=>[.obj b1 28 (.rep ak a0),.sl z6 22 Tl y5.1]) (dk k a0 a1 e) k () (true,0) (λ_=>rfl) h (SE.fin [0,1] ⟨rfl,rfl,rfl,rfl,rfl,rfl,rfl,rfl,trivial⟩ rfl) (λn u c h=>?_);unfold dk at h;refine ai (sr (mq ?_));refine fl gf ?_;refine lo nP ?_;refine ol Dj ?_;refine jb (bh rfl) ?_;refine nt (ci h (λh=>?_) (λh=>?_))
     .refine sk (aE (Z:=Unit) (α:=Bool) (λs j=>[(1,.rep Tl a1),(2,Pt b1),(5,.eq z6),(6,.rep (.slice Tl) r2),(7,I y5.2),(8,.rep (.slice Tl) e),(9,.eq (.bool j)),(10,I c.2)]) (λs j=>[.obj b1 28 (.rep ak a0),.sl z6 22 Tl y5.1]) h (λK h=>?_) (λs j h=>?_))
      .refine ah (bB ?_);refine dm ?_;refine nA rfl rfl rfl (ba rfl) ⟨rfl,trivial⟩ (λhb=>?_) (λhb=>?_)
       .replace h:=eh (Lp hb) h;refine bu rfl rfl rfl rfl rfl (ba rfl) ⟨rfl,rfl,trivial⟩ ?_;refine bu rfl rfl rfl rfl rfl (ba rfl) ⟨rfl,rfl,trivial⟩ ?_;obtain⟨zz,X,h⟩:=aa h;refine bu rfl rfl rfl rfl rfl (av [.tmp 35,.tmp 36] rfl rfl NU rfl (oM k a1 c.2 zz X)) ⟨rfl,rfl,rfl,trivial⟩ ?_;refine Lj rfl rfl rfl rfl rfl (ba rfl) ⟨rfl,rfl,trivial⟩ (λhb=>?_) (λhb=>?_)
        .replace h:=eh (Lp hb) h;iterate 7 refine dg ?_
         refine df cY ?_;refine gn ?_;refine gb (we rfl) ?_;refine pt ?_;refine aq (aH (bn ?_));exact jz ((),true) h [0,1]
        .replace h:=cK (Lq hb) h;refine g9 0 rfl rfl rfl rfl rfl rfl (ao rfl dq (pu) rfl) ⟨rfl,rfl,trivial⟩ ?_;refine bu rfl rfl rfl rfl rfl (ba rfl) ⟨rfl,rfl,trivial⟩ ?_;refine bu rfl rfl rfl rfl rfl (au rfl gf) ⟨rfl,rfl,trivial⟩ ?_;refine g9 0 rfl rfl rfl rfl rfl rfl (ao rfl nP jI rfl) ⟨rfl,rfl,trivial⟩ ?_;refine bu rfl rfl rfl rfl rfl (ba rfl) ⟨rfl,rfl,trivial⟩ ?_;obtain⟨mw,O,h⟩:=aa h;refine bu rfl rfl rfl rfl rfl (aA (t:=aI) rfl Dj nB O) ⟨rfl,rfl,rfl,trivial⟩ ?_;refine bu rfl rfl rfl rfl rfl (am (t:=aI) rfl nB rfl) ⟨rfl,rfl,trivial⟩ ?_;refine df cY ?_;obtain⟨E,U,h⟩:=aa h;refine gc (av [.tmp 39,.tmp 40,.tmp 45] rfl rfl Uo rfl (zg k a0 e mw E U)) ?_;refine gb (wh rfl) ?_;refine pt ?_;refine aq (aH (bn ?_));exact jz ((),E) h [0,1]
       .replace h:=cK (Lq hb) h;iterate 4 refine dg ?_
        refine du ?_;refine du ?_;refine du ?_;refine du ?_;refine du ?_;refine du ?_;refine du ?_;refine df cY ?_;refine gu ?_;refine gn ?_;refine pf ?_;refine aq (aH (bn ?_));exact jz ((),false) h [0,1]
      .refine ae (mq ?_);obtain⟨mc,M,h⟩:=aa h;refine jb (aU rfl M) ?_;refine aq (nl ?_);exact jz ((),(j,mc)) h [0,1]
     .refine xa ?_;exact jz ((),c.1) h [0,1]
    .refine sr (mq (nt ?_));refine cv h (λh=>?_) (λh=>?_)
     .refine ae ?_;iterate 3 refine mq ?_
      obtain⟨D,J,h⟩:=aa h;refine jb (aA (t:=Tl) rfl lF dO J) ?_;refine ja (am (t:=Tl) rfl dO rfl) ?_;refine ja (aP (t:=Tl) [(.tmp 54,_)] [D] rfl rfl kj (.cons rfl .rep .nil) rfl rfl) ?_;obtain⟨Xh,Q,h⟩:=aa h;refine fr 1 ?_;refine cC rfl rfl rfl (bf rfl rfl kj (ap Q)) ⟨rfl,rfl,trivial⟩ λqt=>?_;refine aq (aH (bn ?_));exact jz (qt,y5.1++[D]) h [1,0]
     .refine bg (bn ?_);exact jz (z6,y5.1) h [0,1]
   .refine ae (mq ?_);obtain⟨gw,F,h⟩:=aa h;refine jb (aU rfl F) ?_;refine aq (nl ?_);exact jz (z8,(x7,gw)) h [0,1]
  .refine xa ?_;exact jz (z6,y5.1) h [1]
 .
  refine sr (mq ?_);refine aq (nt (aD ?_));refine bD (fu [4,5,57] ⟨rfl,rfl,rfl,trivial⟩) ?_;cases h;exact ra
def ml(k:Nat)(a0:ab)(a1:Bool):Option ((List (List Int))×Int):=
 (nZ k a0).bind λr2=>
 if¬(r2=0) then(some (([]:(List (List Int))),r2)) else(if¬(a1=true) then(some (([]:(List (List Int))),3)) else((je k a0 ([]:(List Int))).bind λr3=>
 if(r3.length:Int)=0 then(some (([]:(List (List Int))),9)) else(some (r3,0))))
theorem xu(k:Nat)(a0:ab)(a1:Bool)(r:(List (List Int))×Int)(h:ml k a0 a1=some r):
 c6 Tryz.prog 50 [.rep ak a0,.eq (.bool a1)] [] (λ_:Unit=>(bA [.rep (.slice Tl) r.1,I r.2],[])):=by
 unfold ml at h
 replace h:=bb h
 refine c6.of 21 Tryz.func50 rfl Tryz.ntmps50 rfl λS w0=>?_
 refine sr ?_
 refine bx λb1=>?_
 refine cq ?_
 refine cq ?_
 refine nt ?_
 refine ai ?_
 refine sr ?_
 refine lo dq ?_
 obtain⟨r2,e,h⟩:=aa h
 have j:=zi k a0 r2 e
 refine ja (av [.tmp 8] rfl rfl VS rfl j) ?_
 refine aq ?_
 refine nt ?_
 refine sr ?_
 refine mq ?_
 refine jb (eT rfl) ?_
 refine nt ?_
 refine cn h (λh=>?_) (λh=>?_)
 .
  refine sr (mq ?_);refine cq ?_;refine aq (nt (rx ?_));refine bD (ek (t:=(.slice Tl)) (x:=([]:(List (List Int)))) 4 rfl .nil rfl rfl) ?_;cases h;exact rb
 .
  refine sk (ai (sr (mq ?_)));refine ja (fo rfl) ?_;refine nt (cw h (λh=>?_) (λh=>?_))
  .refine sr (cq ?_);refine cq (nt (rx ?_));refine bD (ek (t:=(.slice Tl)) (x:=([]:(List (List Int)))) 4 rfl .nil rfl rfl) ?_;cases h;exact rb
  .refine sk (sr (lo dq ?_));obtain⟨r3,c,h⟩:=aa h;refine jb (bW (N:=[(.tmp 15,.rep ak a0),(.const (.slice none 0 0),.eq (.slice none 0 0))]) (av [.tmp 15,.const (.slice none 0 0)] rfl rfl VQ rfl (tK k a0 ([]:(List Int)) r3 c)) λ_ _ _ hn=>⟨hn.1,(aN (t:=Tl) (x:=([]:(List Int))) .nil rfl rfl hn.2.1),trivial⟩) ?_;refine aq (nt (ai (sr ?_)));refine mq ?_;refine ol lF ?_;refine jb (jF rfl) ?_;refine nt (ci h (λh=>?_) (λh=>?_))
   .refine sr (cq ?_);refine cq (nt (rx ?_));refine bD (ek (t:=(.slice Tl)) (x:=([]:(List (List Int)))) 4 rfl .nil rfl rfl) ?_;cases h;exact rb
   .refine sk (sr (mq ?_));refine aq ?_;refine cq (nt (aD ?_));cases h;exact rb
def lL(k:Nat)(y3:(List (List Int))×Int)(r9:(List (List Int))):Nat->((List (List Int))×Int)->Option (List (List Int))
 |0,_=>none
 |n+1,c=>
  if c.2 < (r9.length:Int) then((aG r9 c.2).bind λe=>
  (bU (aR (length [y3.2]+length e))).bind λ_=>
  (bU (aR (length c.1+length [[y3.2]++e]))).bind λ_=>
  (ck (c.2+1)).bind λh=>
  lL k y3 r9 n (c.1++[[y3.2]++e],h)) else(some c.1)
def lM(k:Nat)(a1:Int)(a2:Int)(self:Int->Int->Int->Option ((List (List Int)))):Nat->((List (List Int))×Int)->Option (List (List Int))
 |0,_=>none
 |n+1,y3=>
  if y3.2 < a1 then((((ck (y3.2+1)).bind λx7=>
  (ck (a2 - 1)).bind λx8=>
  (self x7 a1 x8).bind λr9=>
  lL k y3 r9 k (y3.1,0)):Option ((List (List Int)))).bind λx5=>
  (ck (y3.2+1)).bind λc=>
  lM k a1 a2 self n (x5,c)) else(some y3.1)
def jD(k:Nat):Nat->Int->Int->Int->Option ((List (List Int)))
 |0,_,_,_=>none
 |m0+1,a0,a1,a2=>
  if a2=0 then(some [[]]) else(((lM k a1 a2 (jD k m0) k (([]:(List (List Int))),a0)):Option ((List (List Int)))).bind λx1=>
  some x1)
theorem zh(k:Nat):
 ∀(n:Nat) (a0:Int) (a1:Int) (a2:Int) (r:(List (List Int))),jD k n a0 a1 a2=some r->c6 Tryz.prog 52 [I a0,I a1,I a2] ([]) (λ_:Unit=>(bA [.rep (.slice Tl) r],[])):=by
 intro n
 induction n with
 |zero=>intro a0 a1 a2 r h;cases h
 |succ m0 ih=>
  intro a0 a1 a2 r h;rw [jD] at h;replace h:=bb h;refine c6.of 43 Tryz.func52 rfl Tryz.ntmps52 rfl λS w0=>?_;refine sr (cq (nt (ai (sr ?_))));refine mq ?_;refine jb (jF rfl) ?_;refine nt (ci h (λh=>?_) (λh=>?_))
  .refine sr (ja (aP (t:=Tl) [(.const (.slice none 0 0),_)] [[]] rfl rfl kj (.cons rfl .nil .nil) rfl rfl) ?_);refine aq (nt (rx ?_));cases h;exact ra
  .refine sk (sr (cq (nt ?_)));refine aE (Z:=Value) (α:=(List (List Int))) (λz2 x1=>[(7,.eq z2)]) (λz2 x1=>[.sl z2 22 Tl x1]) h (λK h=>?_) (λz2 x1 h=>?_)
   .refine sr (mq ?_);refine aq (nt (ah ?_));refine fS (SE.nil 22 Tl) ?_;refine aC (λz4 y3=>[(1,I a1),(2,I a2),(7,.eq z4),(8,I y3.2)]) (λz4 y3=>[.sl z4 22 Tl y3.1]) (lM k a1 a2 (jD k m0)) k (.slice none 0 0) (([]:(List (List Int))),a0) (λ_=>rfl) h (SE.fin [0] ⟨rfl,rfl,rfl,rfl,trivial⟩ rfl) (λn z4 y3 h=>?_);unfold lM at h;refine ai (sr ?_);iterate 2 refine mq ?_
    refine jb (bh rfl) ?_;refine nt (ci h (λh=>?_) (λh=>?_))
    .refine sk (aE (Z:=Value) (α:=(List (List Int))) (λz6 x5=>[(1,I a1),(2,I a2),(7,.eq z6),(8,I y3.2)]) (λz6 x5=>[.sl z6 22 Tl x5]) h (λK h=>?_) (λz6 x5 h=>?_))
     .refine ah (sr (mq ?_));obtain⟨x7,M,h⟩:=aa h;refine jb (aU rfl M) ?_;iterate 2 refine mq ?_
      obtain⟨x8,J,h⟩:=aa h;refine jb (eJ rfl J) ?_;obtain⟨r9,O,h⟩:=aa h;refine jc (av [.tmp 21,.tmp 22,.tmp 24] rfl rfl TZ rfl (ih x7 a1 x8 r9 O)) ?_;refine aq (nt (sr ?_));refine cq (nt (ah ?_));refine aC (λe c=>[(1,I a1),(2,I a2),(7,.eq e),(8,I y3.2),(9,.rep (.slice Tl) r9),(10,I c.2)]) (λe c=>[.sl e 22 Tl c.1]) (lL k y3 r9) k z4 (y3.1,0) (λ_=>rfl) h (SE.fin [0] ⟨rfl,rfl,rfl,rfl,rfl,rfl,trivial⟩ rfl) (λn e c h=>?_);unfold lL at h;refine ai (sr ?_);iterate 2 refine mq ?_
      refine ol lF ?_;refine jb (bh rfl) ?_;refine nt (ci h (λh=>?_) (λh=>?_))
      .refine sk (ai (ah (ae ?_)));iterate 2 refine mq ?_
       refine aW rfl rfl rfl (gR (t:=Ti) [(.tmp 33,_)] [y3.2] rfl rfl cZ (.cons rfl .int .nil) rfl rfl) ⟨rfl,trivial⟩ λU=>?_;iterate 2 refine mq ?_
       obtain⟨j,u,h⟩:=aa h;refine jb (aA (t:=Tl) rfl lF dO u) ?_;refine ja (am (t:=Tl) rfl dO rfl) ?_;obtain⟨X,y,h⟩:=aa h;refine cC rfl rfl rfl (bf rfl rfl cZ (ap y)) ⟨rfl,rfl,trivial⟩ λQ=>?_;refine d4 (fu [39] ⟨rfl,trivial⟩) ?_;refine ja (aP (t:=Tl) [(.tmp 39,_)] [[y3.2]++j] rfl rfl kj (.cons rfl .rep .nil) rfl rfl) ?_;obtain⟨u16,x,h⟩:=aa h;refine cC rfl rfl rfl (bf rfl rfl kj (ap x)) ⟨rfl,rfl,trivial⟩ λF=>?_;refine aq (aH (aJ (tn (ae ?_))));refine mq ?_;obtain⟨E,s,h⟩:=aa h;refine jb (aU rfl s) ?_;refine aq (nl ?_);exact jz (F,(c.1++[[y3.2]++j],E)) h [0]
      .refine eQ (bp (bp (cM (bn ?_))));exact jz (e,c.1) h [0]
     .refine ae (mq ?_);obtain⟨D,l,h⟩:=aa h;refine jb (aU rfl l) ?_;refine aq (nl ?_);exact jz (z6,(x5,D)) h [0]
    .refine xa ?_;exact jz (z4,y3.1) h [0]
   .refine sr (mq ?_);refine aq (nt (aD ?_));refine bD (fu [6,7,42] ⟨rfl,rfl,rfl,trivial⟩) ?_;cases h;exact ra
def fG(k:Nat)(a0:(List (List Int)))(y3:Int):Nat->Int->Option (Except Bool Unit)
 |0,_=>none
 |n+1,y8=>
  (aG a0 y3).bind λu=>
  if y8 < (u.length:Int) then((((aG a0 y3).bind λr=>
  (aG r y8).bind λl=>
  if l < 0 then((ck (y3+1)).bind λj=>
  (aG a0 j).bind λh=>
  (aG h y8).bind λe=>
  some (decide (0≤e))) else(some false)):Option (Bool)).bind λs=>
  if s=true then(some (.error false)) else((ck (y8+1)).bind λc=>
  fG k a0 y3 n c)) else(some (.ok ()))
def iy(k:Nat)(a0:(List (List Int))):Nat->Int->Option (Except Bool Unit)
 |0,_=>none
 |n+1,y3=>
  (ck (y3+1)).bind λx5=>
  if x5 < (a0.length:Int) then(bE (α:=Unit) (fG k a0 y3 k 0) (λe=>some (.error e)) λ_=>
  (ck (y3+1)).bind λc=>
  iy k a0 n c) else(some (.ok ()))
def pR(k:Nat)(a0:(List (List Int)))(a1:Int):Option Bool:=
 bE (α:=Unit) (iy k a0 k a1) (some) λ_=>
 some true
theorem A6(k:Nat)(a0:(List (List Int)))(a1:Int)(r:Bool)(h:pR k a0 a1=some r):
 c6 Tryz.prog 53 [.rep (.slice Tl) a0,I a1] [] (λ_:Unit=>(bA [.eq (.bool r)],[])):=by
 unfold pR at h
 replace h:=bb h
 refine c6.of 43 Tryz.func53 rfl Tryz.ntmps53 rfl λS w0=>?_
 refine sr ?_
 refine cq ?_
 refine nt ?_
 refine cu (Z:=Unit) (α:=Unit) (λz2 x1=>[]) (λz2 x1=>[]) (λe=>e=r) h (λe h=>Option.some.inj h) (λK hR h=>?_) (λz2 x1 h=>?_)
 .
  refine sr (mq ?_);refine aq (nt (ah ?_));refine aC (λz4 y3=>[(0,.rep (.slice Tl) a0),(5,I y3)]) (λz4 y3=>[]) (iy k a0) k () a1 (λ_=>rfl) h (SE.fin [] ⟨rfl,rfl,trivial⟩ rfl) (λn z4 y3 h=>?_);unfold iy at h;refine ai (sr (mq ?_));obtain⟨x5,U,h⟩:=aa h;refine jb (aU rfl U) ?_;refine mq ?_;refine ol lF ?_;refine jb (bh rfl) ?_;refine nt (ci h (λh=>?_) (λh=>?_))
  .refine sk (cu (Z:=Unit) (α:=Unit) (λz7 x6=>[(0,.rep (.slice Tl) a0),(5,I y3)]) (λz7 x6=>[]) (λe=>e=r) h (λe h=>hR e h) (λK hR h=>?_) (λz7 x6 h=>?_))
   .refine ah (sr (cq (nt (ah ?_))));refine aC (λz9 y8=>[(0,.rep (.slice Tl) a0),(5,I y3),(6,I y8)]) (λz9 y8=>[]) (fG k a0 y3) k () 0 (λ_=>rfl) h (SE.fin [] ⟨rfl,rfl,rfl,trivial⟩ rfl) (λn z9 y8 h=>?_);unfold fG at h;refine ai (sr ?_);iterate 3 refine mq ?_
    obtain⟨mw,J,h⟩:=aa h;refine jb (aA (t:=Tl) rfl lF dO J) ?_;refine ja (am (t:=Tl) rfl dO rfl) ?_;refine ol gi ?_;refine jb (bh rfl) ?_;refine nt (ci h (λh=>?_) (λh=>?_))
    .refine sk (ai (ah (aE (Z:=Unit) (α:=Bool) (λj c=>[(0,.rep (.slice Tl) a0),(5,I y3),(6,I y8),(42,.eq (.bool c))]) (λj c=>[]) h (λK h=>?_) (λj c h=>?_))))
     .refine ae ?_;iterate 2 refine mq ?_
      obtain⟨mc,F,h⟩:=aa h;refine jb (aA (t:=Tl) rfl lF dO F) ?_;refine ja (am (t:=Tl) rfl dO rfl) ?_;refine mq ?_;obtain⟨gw,E,h⟩:=aa h;refine jb (aA (t:=Ti) rfl gi bR E) ?_;refine ja (am (t:=Ti) rfl bR rfl) ?_;refine jb (bh rfl) ?_;refine mq ?_;refine bX (s:=32) rfl (λhb=>?_) (λhb=>?_)
      .replace h:=eh (va hb) h;refine gm ?_;refine gm ?_;obtain⟨Y,D,h⟩:=aa h;refine gb (aU rfl D) ?_;obtain⟨X,y,h⟩:=aa h;refine gb (aA (t:=Tl) rfl lF dO y) ?_;refine ga (am (t:=Tl) rfl dO rfl) ?_;refine gm ?_;obtain⟨Q,x,h⟩:=aa h;refine gb (aA (t:=Ti) rfl gi bR x) ?_;refine ga (am (t:=Ti) rfl bR rfl) ?_;refine gb (iV rfl) ?_;refine pt (nl ?_);exact jz ((),decide (0≤Q)) h []
      .replace h:=cK (vb hb) h;iterate 9 refine gn ?_
       refine pf (nl ?_);exact jz ((),false) h []
     .refine cv h (λh=>?_) (λh=>?_)
      .refine sr (cq (nt (aD (br (aX (br (aX (be ?_))))))));obtain rfl:=hR _ h;exact ra
      .refine bg (aJ (tn (ae (mq ?_))));obtain⟨O,u,h⟩:=aa h;refine jb (aU rfl u) ?_;refine aq (nl ?_);exact jz ((),O) h []
    .refine eQ (bp (bp (cM (bn ?_))));exact jz ((),()) h []
   .refine ae (mq ?_);obtain⟨M,l,h⟩:=aa h;refine jb (aU rfl l) ?_;refine aq (nl ?_);exact jz ((),M) h []
  .refine xa ?_;exact jz ((),()) h []
 .
  refine sr (cq (nt (aD ?_)));cases h;exact ra
def ew(k:Nat)(a1:Int)(r4:(List (List Int))×Int)(e:ab):Nat->(Bool×Int)->Option Bool
 |0,_=>none
 |n+1,c=>
  if c.2 < (r4.1.length:Int) then(((if c.1=true then((aG r4.1 c.2).bind λj=>
  (oa k e j).bind λs=>
  (pR k s a1).bind λr=>
  some r) else(some false)):Option (Bool)).bind λl=>
  (ck (c.2+1)).bind λh=>
  ew k a1 r4 e n (l,h)) else(some c.1)
def eA(k:Nat)(a0:ab)(a1:Int)(r4:(List (List Int))×Int)(h:(List (List Int))):Nat->Int->Option (Except ((List Int)×Int) Unit)
 |0,_=>none
 |n+1,c=>
  if c < (h.length:Int) then(bE (α:=Unit) ((aG h c).bind λs=>
  (mm k a0 a1 s).bind λu=>
  ((ew k a1 r4 u k (true,0)):Option (Bool)).bind λr=>
  if r=true then((aG h c).bind λl=>
  some (.error (l,0))) else(some (.ok ()))) (λe=>some (.error e)) λ_=>
  (ck (c+1)).bind λj=>
  eA k a0 a1 r4 h n j) else(some (.ok ()))
def eB(k:Nat)(a0:ab)(a1:Int)(r4:(List (List Int))×Int):Nat->Int->Option (Except ((List Int)×Int) Unit)
 |0,_=>none
 |n+1,y7=>
  if y7≤a0.1 then(bE (α:=Unit) ((jD k k 0 a0.1 y7).bind λh=>
  eA k a0 a1 r4 h k 0) (λe=>some (.error e)) λ_=>
  (ck (y7+1)).bind λc=>
  eB k a0 a1 r4 n c) else(some (.ok ()))
def mr(k:Nat)(a0:ab)(a1:Int):Option ((List Int)×Int):=
 (ck ((a0.2.2.2.2.1.length:Int) - 1)).bind λx2=>
 (fj k a1 0 x2).bind λr3=>
 (ml k a0 r3).bind λr4=>
 if¬(r4.2=0) then(some (([]:(List Int)),r4.2)) else(bE (α:=Unit) (eB k a0 a1 r4 k 0) (some) λ_=>
 some (([]:(List Int)),0))
theorem xy(k:Nat)(a0:ab)(a1:Int)(r:(List Int)×Int)(h:mr k a0 a1=some r):
 c6 Tryz.prog 19 [.rep ak a0,I a1] [] (λ_:Unit=>(bA [.rep Tl r.1,I r.2],[])):=by
 unfold mr at h
 replace h:=bb h
 refine c6.of 73 Tryz.func19 rfl Tryz.ntmps19 rfl λS w0=>?_
 refine sr ?_
 refine bx λb1=>?_
 refine cq ?_
 refine cq ?_
 refine nt ?_
 refine ai ?_
 refine bB ?_
 refine ea 0 (ao rfl dq (pu) rfl) ?_
 refine dm ?_
 refine da (au rfl bL) ?_
 refine ea 0 (ao rfl eL jI rfl) ?_
 refine da (pi rfl rfl oC) ?_
 obtain⟨x2,Xw,h⟩:=aa h
 refine db (eJ rfl Xw) ?_
 obtain⟨r3,Xy,h⟩:=aa h
 have XA:=fU k a1 0 x2 r3 Xy
 refine dc (av [.tmp 16,.const (.int .i64 (0)),.tmp 20] rfl rfl EC rfl XA) ?_
 obtain⟨r4,Xx,h⟩:=aa h
 have Xz:=xu k a0 r3 r4 Xx
 refine db (av [.tmp 15,.tmp 21] rfl rfl V8 rfl Xz) ?_
 refine dm ?_
 refine da (f6 rfl rfl) ?_
 refine da (f6 rfl rfl) ?_
 refine da (kS rfl) ?_
 refine df cY ?_
 refine aq ?_
 refine nt ?_
 refine ai ?_
 refine sr ?_
 refine mq ?_
 refine jb (eT rfl) ?_
 refine nt ?_
 refine cn h (λh=>?_) (λh=>?_)
 .
  refine sr (mq ?_);refine cq ?_;refine aq (nt (rx ?_));refine bD (ek (t:=Tl) (x:=([]:(List Int))) 4 rfl .nil rfl rfl) ?_;cases h;exact rb
 .
  refine sk (cu (Z:=Unit) (α:=Unit) (λz6 x5=>[]) (λz6 x5=>[]) (λe=>e=r) h (λe h=>Option.some.inj h) (λK hR h=>?_) (λz6 x5 h=>?_))
  .refine sr (cq (nt (ah ?_)));refine aC (λz8 y7=>[(1,I a1),(2,Pt b1),(6,.rep (.slice Tl) r4.1),(8,I y7)]) (λz8 y7=>[.obj b1 28 (.rep ak a0)]) (eB k a0 a1 r4) k () 0 (λ_=>rfl) h (SE.fin [0] ⟨rfl,rfl,rfl,rfl,trivial⟩ rfl) (λn z8 y7 h=>?_);unfold eB at h;refine ai (sr (mq ?_));refine fl fq ?_;refine lo bR ?_;refine jb (yo rfl) ?_;refine nt (ci h (λh=>?_) (λh=>?_))
   .refine sk (cu (Z:=Unit) (α:=Unit) (λQ x9=>[(1,I a1),(2,Pt b1),(6,.rep (.slice Tl) r4.1),(8,I y7)]) (λQ x9=>[.obj b1 28 (.rep ak a0)]) (λe=>e=r) h (λe h=>hR e h) (λK hR h=>?_) (λQ x9 h=>?_))
    .refine ah (sr (fl fq ?_));refine lo bR ?_;refine mq ?_;obtain⟨j,Xi,h⟩:=aa h;refine jc (av [.const (.int .i64 (0)),.tmp 35,.tmp 36] rfl rfl TZ rfl (zh k k 0 a0.1 y7 j Xi)) ?_;refine aq (nt (sr ?_));refine cq (nt (ah ?_));refine aC (λO c=>[(1,I a1),(2,Pt b1),(6,.rep (.slice Tl) r4.1),(8,I y7),(9,.rep (.slice Tl) j),(10,I c)]) (λO c=>[.obj b1 28 (.rep ak a0)]) (eA k a0 a1 r4 j) k () 0 (λ_=>rfl) h (SE.fin [0] ⟨rfl,rfl,rfl,rfl,rfl,rfl,trivial⟩ rfl) (λn O c h=>?_);unfold eA at h;refine ai (sr ?_);iterate 2 refine mq ?_
     refine ol lF ?_;refine jb (bh rfl) ?_;refine nt (ci h (λh=>?_) (λh=>?_))
     .refine sk (cu (Z:=Unit) (α:=Unit) (λM U=>[(1,I a1),(2,Pt b1),(6,.rep (.slice Tl) r4.1),(8,I y7),(9,.rep (.slice Tl) j),(10,I c)]) (λM U=>[.obj b1 28 (.rep ak a0)]) (λe=>e=r) h (λe h=>hR e h) (λK hR h=>?_) (λM U h=>?_))
      .refine ah (ai (qy ?_));refine iO 0 rfl rfl rfl rfl (ao rfl dq (pu) rfl) ⟨rfl,trivial⟩ ?_;refine bM rfl rfl rfl (ba rfl) ⟨rfl,trivial⟩ ?_;refine bM rfl rfl rfl (ba rfl) ⟨rfl,trivial⟩ ?_;refine bM rfl rfl rfl (ba rfl) ⟨rfl,trivial⟩ ?_;obtain⟨Xn,Xe,h⟩:=aa h;refine bM rfl rfl rfl (aA (t:=Tl) rfl lF dO Xe) ⟨rfl,rfl,trivial⟩ ?_;refine bM rfl rfl rfl (am (t:=Tl) rfl dO rfl) ⟨rfl,trivial⟩ ?_;obtain⟨u,Xh,h⟩:=aa h;refine bM rfl rfl rfl (av [.tmp 44,.tmp 45,.tmp 49] rfl rfl Wv rfl (xw k a0 a1 Xn u Xh)) ⟨rfl,rfl,rfl,trivial⟩ ?_;refine Gi (ME 28 (.agg (.pair (I 0) (.pair (I 0) (.pair (I 0) (.pair (I 0) (.pair (.eq (.slice none 0 0)) (.eq (.slice none 0 0))))))))) (λ_=>rfl) rfl rfl rfl (bq rfl sK vd) trivial ?_;refine uE 8 [true,true,true,true,true,true,true,true] [12] [] [] rfl (by kernel_rfl) (by kernel_rfl) (by kernel_rfl) cY (λvs hv hB=>?_);obtain⟨w0,XJ,rfl,Xv⟩:=aF hv;obtain⟨w1,XI,rfl,Xu⟩:=aF Xv;obtain⟨w2,XH,rfl,Xt⟩:=aF Xu;obtain⟨w3,XG,rfl,Xs⟩:=aF Xt;obtain⟨w4,XF,rfl,Xr⟩:=aF Xs;obtain⟨w5,XE,rfl,Xq⟩:=aF Xr;obtain⟨w6,XD,rfl,Xp⟩:=aF Xq;obtain⟨w7,XC,rfl,Xo⟩:=aF Xp;obtain rfl:=qK Xo;obtain⟨l,rfl⟩:=IT hB.2.2.2.2.2.2.2.1;refine⟨[0,1],[.obj b1 28 (.rep ak a0),.obj l 28 (.agg (.pair (I 0) (.pair (I 0) (.pair (I 0) (.pair (I 0) (.pair (.eq (.slice none 0 0)) (.eq (.slice none 0 0))))))))],by kernel_rfl,by decide,?_⟩;refine qx 1 rfl ?_;refine sH rfl rfl (aK rfl dq rfl rfl rfl) ⟨rfl,rfl,trivial⟩ (by kernel_rfl) ?_;refine Ru rfl rfl rfl rfl (kS rfl) ⟨rfl,trivial⟩ (by kernel_rfl) ?_;refine wY ?_;refine bD (SE.fin (Γ':=[(1,I a1),(2,Pt b1),(6,.rep (.slice Tl) r4.1),(8,I y7),(9,.rep (.slice Tl) j),(10,I c),(11,Pt l),(12,.eq (.bool true))]) (Δ':=[.obj l 28 (.rep ak u),.obj b1 28 (.rep ak a0)]) [0,1] ⟨rfl,rfl,rfl,rfl,rfl,rfl,rfl,rfl,trivial⟩ rfl) ?_;refine tn (aE (Z:=Unit) (α:=Bool) (λJ D=>[(1,I a1),(2,Pt b1),(6,.rep (.slice Tl) r4.1),(8,I y7),(9,.rep (.slice Tl) j),(10,I c),(12,.eq (.bool D))]) (λJ D=>[.obj b1 28 (.rep ak a0)]) h (λK h=>?_) (λJ D h=>?_))
       .refine sr (cq (nt (ah ?_)));refine aC (λF s=>[(1,I a1),(2,Pt b1),(6,.rep (.slice Tl) r4.1),(8,I y7),(9,.rep (.slice Tl) j),(10,I c),(11,Pt l),(12,.eq (.bool s.1)),(13,I s.2)]) (λF s=>[.obj b1 28 (.rep ak a0),.obj l 28 (.rep ak u)]) (ew k a1 r4 u) k () (true,0) (λ_=>rfl) h (SE.fin [1,0] ⟨rfl,rfl,rfl,rfl,rfl,rfl,rfl,rfl,rfl,trivial⟩ rfl) (λn F s h=>?_);unfold ew at h;refine ai (sr ?_);iterate 2 refine mq ?_
        refine ol lF ?_;refine jb (bh rfl) ?_;refine nt (ci h (λh=>?_) (λh=>?_))
        .refine sk (aE (Z:=Unit) (α:=Bool) (λE y=>[(1,I a1),(2,Pt b1),(6,.rep (.slice Tl) r4.1),(8,I y7),(9,.rep (.slice Tl) j),(10,I c),(11,Pt l),(12,.eq (.bool y)),(13,I s.2)]) (λE y=>[.obj b1 28 (.rep ak a0),.obj l 28 (.rep ak u)]) h (λK h=>?_) (λE y h=>?_))
         .refine ah (bB ?_);refine dm ?_;refine nA rfl rfl rfl (ba rfl) ⟨rfl,trivial⟩ (λhb=>?_) (λhb=>?_)
          .replace h:=eh (Lp hb) h;refine g9 1 rfl rfl rfl rfl rfl rfl (ao rfl dq (pu) rfl) ⟨rfl,rfl,trivial⟩ ?_;refine bu rfl rfl rfl rfl rfl (ba rfl) ⟨rfl,rfl,trivial⟩ ?_;refine bu rfl rfl rfl rfl rfl (ba rfl) ⟨rfl,rfl,trivial⟩ ?_;obtain⟨Xm,zz,h⟩:=aa h;refine bu rfl rfl rfl rfl rfl (aA (t:=Tl) rfl lF dO zz) ⟨rfl,rfl,rfl,trivial⟩ ?_;refine bu rfl rfl rfl rfl rfl (am (t:=Tl) rfl dO rfl) ⟨rfl,rfl,trivial⟩ ?_;obtain⟨Y,Xg,h⟩:=aa h;refine bu rfl rfl rfl rfl rfl (av [.tmp 59,.tmp 63] rfl rfl TY rfl (uH k u Xm Y Xg)) ⟨rfl,rfl,rfl,trivial⟩ ?_;refine bu rfl rfl rfl rfl rfl (ba rfl) ⟨rfl,rfl,trivial⟩ ?_;refine df cY ?_;obtain⟨X,Xf,h⟩:=aa h;refine gb (av [.tmp 64,.tmp 65] rfl rfl V7 rfl (A6 k Y a1 X Xf)) ?_;refine pt ?_;refine aq (aH (bn ?_));exact jz ((),X) h [0,1]
          .replace h:=cK (Lq hb) h;iterate 7 refine dg ?_
           refine df cY ?_;refine gn ?_;refine pf ?_;refine aq (aH (bn ?_));exact jz ((),false) h [0,1]
         .refine ae (mq ?_);obtain⟨Xl,qt,h⟩:=aa h;refine jb (aU rfl qt) ?_;refine aq (nl ?_);exact jz ((),(y,Xl)) h [0,1]
        .refine xa ?_;exact jz ((),s.1) h [0]
       .refine sr (mq (nt ?_));refine cv h (λh=>?_) (λh=>?_)
        .refine sr ?_;iterate 2 refine mq ?_
         obtain⟨XB,mw,h⟩:=aa h;refine jb (aA (t:=Tl) rfl lF dO mw) ?_;refine ja (am (t:=Tl) rfl dO rfl) ?_;refine aq ?_;refine cq (nt (aD (br (aX (br (aX (be ?_)))))));obtain rfl:=hR _ h;exact rb
        .refine bg (bn ?_);exact jz ((),()) h [0]
      .refine ae (mq ?_);obtain⟨Xk,mc,h⟩:=aa h;refine jb (aU rfl mc) ?_;refine aq (nl ?_);exact jz ((),Xk) h [0]
     .refine eQ (bp (bp (cM (bn ?_))));exact jz ((),()) h [0]
    .refine ae (mq ?_);obtain⟨Xj,gw,h⟩:=aa h;refine jb (aU rfl gw) ?_;refine aq (nl ?_);exact jz ((),Xj) h [0]
   .refine xa ?_;exact jz ((),()) h []
  .refine sr (cq ?_);refine cq (nt (aD ?_));refine bD (ek (t:=Tl) (x:=([]:(List Int))) 4 rfl .nil rfl rfl) ?_;cases h;exact rb
def dJ(k:Nat)(a0:ab)(a1:ab):Nat->Int->Option (Except Bool Unit)
 |0,_=>none
 |n+1,y7=>
  if y7 < (a0.2.2.2.2.1.length:Int) then((aG a0.2.2.2.2.1 y7).bind λx9=>
  (aG a1.2.2.2.2.1 y7).bind λe=>
  (fV k x9 e).bind λh=>
  if¬(h=true) then(some (.error false)) else((ck (y7+1)).bind λc=>
  dJ k a0 a1 n c)) else(some (.ok ()))
def dI(k:Nat)(a0:ab)(a1:ab):Nat->Int->Option (Except Bool Unit)
 |0,_=>none
 |n+1,c=>
  if c < (a0.2.2.2.2.2.length:Int) then((aG a0.2.2.2.2.2 c).bind λj=>
  (aG a1.2.2.2.2.2 c).bind λh=>
  if¬(j=h) then(some (.error false)) else((ck (c+1)).bind λe=>
  dI k a0 a1 n e)) else(some (.ok ()))
def jg(k:Nat)(a0:ab)(a1:ab):Option Bool:=
 ((if¬(a0.1=a1.1) then(some true) else(if¬(a0.2.1=a1.2.1) then(some true) else(if¬(a0.2.2.1=a1.2.2.1) then(some true) else(if¬(a0.2.2.2.1=a1.2.2.2.1) then(some true) else(if¬((a0.2.2.2.2.1.length:Int)=(a1.2.2.2.2.1.length:Int)) then(some true) else(some (!decide ((a0.2.2.2.2.2.length:Int)=(a1.2.2.2.2.2.length:Int))))))))):Option (Bool)).bind λx3=>
 if x3=true then(some false) else(bE (α:=Unit) (dJ k a0 a1 k 0) (some) λ_=>
 bE (α:=Unit) (dI k a0 a1 k 0) (some) λ_=>
 some true)
theorem uc(k:Nat)(a0:ab)(a1:ab)(r:Bool)(h:jg k a0 a1=some r):
 c6 Tryz.prog 20 [.rep ak a0,.rep ak a1] [] (λ_:Unit=>(bA [.eq (.bool r)],[])):=by
 unfold jg at h
 replace h:=bb h
 refine c6.of 88 Tryz.func20 rfl Tryz.ntmps20 rfl λS w0=>?_
 refine sr ?_
 refine bx λb1=>?_
 refine bx λb2=>?_
 refine cq ?_
 refine nt ?_
 refine ai ?_
 refine aE (Z:=Unit) (α:=Bool) (λz4 x3=>[(2,Pt b1),(3,Pt b2),(50,.eq (.bool x3))]) (λz4 x3=>[.obj b1 28 (.rep ak a0),.obj b2 28 (.rep ak a1)]) h (λK h=>?_) (λz4 x3 h=>?_)
 .
  refine ae (fl fq ?_);refine fr 1 ?_;refine lo bR ?_;refine fl fq ?_;refine fr 1 ?_;refine lo bR ?_;refine jb (eT rfl) ?_;refine mq ?_;refine bX (s:=12) rfl (λhb=>?_) (λhb=>?_)
  .replace h:=eh (QF hb) h;iterate 5 refine gn ?_
   refine pt ?_;refine mq ?_;iterate 5 refine gn ?_
   refine pt ?_;refine mq ?_;iterate 5 refine gn ?_
   refine pt ?_;refine mq ?_;iterate 7 refine gn ?_
   refine pt ?_;refine mq ?_;iterate 7 refine gn ?_
   refine pt (nl ?_);exact jz ((),true) h [1,0]
  .replace h:=cK (Ed hb) h;refine ga (au rfl qj) ?_;refine fr 1 ?_;refine eX rfl rfl rfl rfl rfl rfl (ao rfl bR jI rfl) ⟨rfl,trivial⟩ ?_;refine ga (au rfl qj) ?_;refine fr 1 ?_;refine eX rfl rfl rfl rfl rfl rfl (ao rfl bR jI rfl) ⟨rfl,trivial⟩ ?_;refine gb (eT rfl) ?_;refine pf ?_;refine mq ?_;refine bX (s:=19) rfl (λhb=>?_) (λhb=>?_)
   .replace h:=eh (QF hb) h;iterate 5 refine gn ?_
    refine pt ?_;refine mq ?_;iterate 5 refine gn ?_
    refine pt ?_;refine mq ?_;iterate 7 refine gn ?_
    refine pt ?_;refine mq ?_;iterate 7 refine gn ?_
    refine pt (nl ?_);exact jz ((),true) h [1,0]
   .replace h:=cK (Ed hb) h;refine ga (au rfl sw) ?_;refine fr 1 ?_;refine eX rfl rfl rfl rfl rfl rfl (ao rfl bR jI rfl) ⟨rfl,trivial⟩ ?_;refine ga (au rfl sw) ?_;refine fr 1 ?_;refine eX rfl rfl rfl rfl rfl rfl (ao rfl bR jI rfl) ⟨rfl,trivial⟩ ?_;refine gb (eT rfl) ?_;refine pf ?_;refine mq ?_;refine bX (s:=26) rfl (λhb=>?_) (λhb=>?_)
    .replace h:=eh (QF hb) h;iterate 5 refine gn ?_
     refine pt ?_;refine mq ?_;iterate 7 refine gn ?_
     refine pt ?_;refine mq ?_;iterate 7 refine gn ?_
     refine pt (nl ?_);exact jz ((),true) h [1,0]
    .replace h:=cK (Ed hb) h;refine ga (au rfl uk) ?_;refine fr 1 ?_;refine eX rfl rfl rfl rfl rfl rfl (ao rfl bR jI rfl) ⟨rfl,trivial⟩ ?_;refine ga (au rfl uk) ?_;refine fr 1 ?_;refine eX rfl rfl rfl rfl rfl rfl (ao rfl bR jI rfl) ⟨rfl,trivial⟩ ?_;refine gb (eT rfl) ?_;refine pf ?_;refine mq ?_;refine bX (s:=33) rfl (λhb=>?_) (λhb=>?_)
     .replace h:=eh (QF hb) h;iterate 7 refine gn ?_
      refine pt ?_;refine mq ?_;iterate 7 refine gn ?_
      refine pt (nl ?_);exact jz ((),true) h [1,0]
     .replace h:=cK (Ed hb) h;refine ga (au rfl bL) ?_;refine fr 1 ?_;refine eX rfl rfl rfl rfl rfl rfl (ao rfl eL jI rfl) ⟨rfl,trivial⟩ ?_;refine ga (pi rfl rfl oC) ?_;refine ga (au rfl bL) ?_;refine fr 1 ?_;refine eX rfl rfl rfl rfl rfl rfl (ao rfl eL jI rfl) ⟨rfl,trivial⟩ ?_;refine ga (pi rfl rfl oC) ?_;refine gb (eT rfl) ?_;refine pf ?_;refine mq ?_;refine bX (s:=42) rfl (λhb=>?_) (λhb=>?_)
      .replace h:=eh (QF hb) h;iterate 7 refine gn ?_
       refine pt (nl ?_);exact jz ((),true) h [1,0]
      .replace h:=cK (Ed hb) h;refine ga (au rfl gf) ?_;refine fr 1 ?_;refine eX rfl rfl rfl rfl rfl rfl (ao rfl nP jI rfl) ⟨rfl,trivial⟩ ?_;refine ga (pi rfl rfl Dj) ?_;refine ga (au rfl gf) ?_;refine fr 1 ?_;refine eX rfl rfl rfl rfl rfl rfl (ao rfl nP jI rfl) ⟨rfl,trivial⟩ ?_;refine ga (pi rfl rfl Dj) ?_;refine gb (eT rfl) ?_;refine pf (nl ?_);exact jz ((), !decide ((a0.2.2.2.2.2.length:Int)=(a1.2.2.2.2.2.length:Int))) h [1,0]
 .
  refine cv h (λh=>?_) (λh=>?_)
  .refine sr (cq (nt (rx ?_)));cases h;exact ra
  .refine sk (cu (Z:=Unit) (α:=Unit) (λz6 x5=>[(2,Pt b1),(3,Pt b2)]) (λz6 x5=>[.obj b1 28 (.rep ak a0),.obj b2 28 (.rep ak a1)]) (λe=>e=r) h (λe h=>Option.some.inj h) (λK hR h=>?_) (λz6 x5 h=>?_))
   .refine sr (cq (nt (ah ?_)));refine aC (λz8 y7=>[(2,Pt b1),(3,Pt b2),(5,I y7)]) (λz8 y7=>[.obj b1 28 (.rep ak a0),.obj b2 28 (.rep ak a1)]) (dJ k a0 a1) k () 0 (λ_=>rfl) h (SE.fin [0,1] ⟨rfl,rfl,rfl,trivial⟩ rfl) (λn z8 y7 h=>?_);unfold dJ at h;refine ai (sr (mq ?_));refine fl bL ?_;refine lo eL ?_;refine ol oC ?_;refine jb (bh rfl) ?_;refine nt (ci h (λh=>?_) (λh=>?_))
    .refine sk (ai (ah (ai (bB ?_))));refine da (au rfl bL) ?_;refine ea 0 (ao rfl eL jI rfl) ?_;refine dm ?_;obtain⟨x9,X,h⟩:=aa h;refine db (aA (t:=(.slice Tl)) rfl oC iR X) ?_;refine da (am (t:=(.slice Tl)) rfl iR rfl) ?_;refine da (au rfl bL) ?_;refine ea 1 (ao rfl eL jI rfl) ?_;refine dm ?_;obtain⟨Q,F,h⟩:=aa h;refine db (aA (t:=(.slice Tl)) rfl oC iR F) ?_;refine da (am (t:=(.slice Tl)) rfl iR rfl) ?_;refine df cY ?_;obtain⟨U,J,h⟩:=aa h;refine jb (av [.tmp 62,.tmp 67] rfl rfl Q0 rfl (kC k x9 Q U J)) ?_;refine ja (fo rfl) ?_;refine nt (cw h (λh=>?_) (λh=>?_))
     .refine sr (cq (nt (aD (br (aX (be ?_))))));obtain rfl:=hR _ h;exact ra
     .refine bg (aJ (tn (ae (mq ?_))));obtain⟨O,E,h⟩:=aa h;refine jb (aU rfl E) ?_;refine aq (nl ?_);exact jz ((),O) h [0,1]
    .refine xa ?_;exact jz ((),()) h [0,1]
   .refine cu (Z:=Unit) (α:=Unit) (λl u=>[]) (λl u=>[]) (λe=>e=r) h (λe h=>Option.some.inj h) (λK hR h=>?_) (λl u h=>?_)
    .refine sr (cq (nt (ah ?_)));refine aC (λj c=>[(2,Pt b1),(3,Pt b2),(6,I c)]) (λj c=>[.obj b1 28 (.rep ak a0),.obj b2 28 (.rep ak a1)]) (dI k a0 a1) k () 0 (λ_=>rfl) h (SE.fin [0,1] ⟨rfl,rfl,rfl,trivial⟩ rfl) (λn j c h=>?_);unfold dI at h;refine ai (sr (mq ?_));refine fl gf ?_;refine lo nP ?_;refine ol Dj ?_;refine jb (bh rfl) ?_;refine nt (ci h (λh=>?_) (λh=>?_))
     .refine sk (ai (ah (ai (bB ?_))));refine da (au rfl gf) ?_;refine ea 0 (ao rfl nP jI rfl) ?_;refine dm ?_;obtain⟨gw,D,h⟩:=aa h;refine db (aA (t:=aI) rfl Dj nB D) ?_;refine da (am (t:=aI) rfl nB rfl) ?_;refine da (au rfl gf) ?_;refine ea 1 (ao rfl nP jI rfl) ?_;refine dm ?_;obtain⟨Y,y,h⟩:=aa h;refine db (aA (t:=aI) rfl Dj nB y) ?_;refine da (am (t:=aI) rfl nB rfl) ?_;refine df cY ?_;refine jb (I4 rfl VK rfl) ?_;refine nt (cn h (λh=>?_) (λh=>?_))
      .refine sr (cq (nt (aD (br (aX (be ?_))))));obtain rfl:=hR _ h;exact ra
      .refine bg (aJ (tn (ae (mq ?_))));obtain⟨M,x,h⟩:=aa h;refine jb (aU rfl x) ?_;refine aq (nl ?_);exact jz ((),M) h [0,1]
     .refine xa ?_;exact jz ((),()) h []
    .refine sr (cq (nt (aD ?_)));cases h;exact ra
