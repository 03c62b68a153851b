import Derived.Test.YtlmopgkkijhllaaGreatVBB10
set_option linter.unusedSimpArgs false
set_option linter.unusedVariables false
set_option maxRecDepth 4000
set_option maxHeartbeats 1000000
namespace Go.Proofs.YtlmopgkkijhllaaGreat
open K Go Go.Proofs
def eQ(k:Nat)(a0:ag)(a1:(List Int)):Nat→(Int×Int)→Option (Except ((Option ag)×Int×Int) Int)
 |0,_=>none
 |n+1,y5=>
  if y5.2 < (a1.length:Int) then((aO a1 y5.2).bind fun x7=>
  (ck (a0.1 - 1)).bind fun x8=>
  (dz k x7 0 x8).bind fun r9=>
  if¬(r9=true) then(some (.error (none,0,3))) else(((if 0 < y5.2 then((ck (y5.2 - 1)).bind fun h=>
  (aO a1 h).bind fun e=>
  some (decide (x7≤e))) else(some false)):Option (Bool)).bind fun j=>
  if j=true then(some (.error (none,0,5))) else((fL k y5.1 x7).bind fun l=>
  (ck (y5.2+1)).bind fun c=>
  eQ k a0 a1 n (l,c)))) else(some (.ok y5.1))
def dn(k:Nat)(a0:ag)(h:Int)(e:(List Int)):Nat→Int→Option (Except ((Option ag)×Int×Int) Unit)
 |0,_=>none
 |n+1,c=>
  if c < (e.length:Int) then((aO e c).bind fun u=>
  (ck (a0.1 - 1)).bind fun s=>
  (ck ((a0.2.2.2.2.1.length:Int) - 1)).bind fun r=>
  (aO [s,r,(a0.2.2.2.2.1.length:Int)] h).bind fun l=>
  (dz k u 0 l).bind fun x=>
  if¬(x=true) then(some (.error (none,0,3))) else((ck (c+1)).bind fun j=>
  dn k a0 h e n j)) else(some (.ok ()))
def cJ(k:Nat)(a0:ag)(a2:(List Int))(a3:(List Int))(a4:(List Int)):Nat→Int→Option (Except ((Option ag)×Int×Int) Unit)
 |0,_=>none
 |n+1,c=>
  if c < ([a2,a3,a4].length:Int) then(bE (α:=Unit) ((aO [a2,a3,a4] c).bind fun j=>
  dn k a0 c j k 0) (fun e=>some (.error e)) fun _=>
  (ck (c+1)).bind fun h=>
  cJ k a0 a2 a3 a4 n h) else(some (.ok ()))
def jN(k:Nat)(a0:ag)(a1:(List Int))(a2:(List Int))(a3:(List Int))(a4:(List Int)):Option ((Option ag)×Int×Int):=
 (mE k a0).bind fun r2=>
 if¬(r2=0) then(some (none,0,r2)) else(bE (α:=Int) (eQ k a0 a1 k (0,0)) (some) fun x3=>
 bE (α:=Unit) (cJ k a0 a2 a3 a4 k 0) (some) fun _=>
 (iS k a0).bind fun e=>
 fN e (none) (fun c=>(ew k c).bind fun h=>
 some (some c,x3,0)))
theorem lP(k:Nat)(a0:ag)(a1:(List Int))(a2:(List Int))(a3:(List Int))(a4:(List Int))(r:(Option ag)×Int×Int)(h:jN k a0 a1 a2 a3 a4=some r):
 bQ (dC Tryz.prog) 34 [.rep aj a0,.rep Tl a1,.rep Tl a2,.rep Tl a3,.rep Tl a4] [] (fun z:Nat×Nat=>(bv [J6 r.1 z.1,.eq (.int .u8 r.2.1),I r.2.2],J5 r.1 fun q=>qC q z.1 z.2 k)):=by
 unfold jN at h
 replace h:=aY h
 refine bQ.of 95 Tryz.func34 rfl Tryz.ntmps34 rfl fun S w0=>?_
 refine sr ?_
 refine bx fun b1=>?_
 refine au ?_
 refine lo g9 ?_
 obtain⟨r2,UP,h⟩:=aa h
 have UQ:=xI k a0 r2 UP
 refine ja (ay [.tmp 22] rfl rfl TA rfl UQ) ?_
 refine au ?_
 refine jb (fh rfl) ?_
 refine nt ?_
 refine cn h (fun h=>?_) (fun h=>?_)
 ·
  refine au ?_;cases h;exact aM (0,0) [.eq (.pointer none),_,_] 0 ⟨rfl,rfl,rfl,trivial⟩ rfl
 ·
  refine sk (sr (cq (nt ?_)));refine dx (Z:=Unit) (α:=Int) (fun z4 x3=>[(2,.rep Tl a2),(3,.rep Tl a3),(4,.rep Tl a4),(5,Pt b1),(14,.eq (.int .u8 x3))]) (fun z4 x3=>[.obj b1 25 (.rep aj a0)]) (fun e=>e=r) h (fun e h=>Option.some.inj h) (fun K hR h=>?_) (fun z4 x3 h=>?_)
  ·refine au ?_;refine ol iu ?_;refine fa rfl ?_;refine nt (ak (aK (fun z6 y5=>[(1,.rep Tl a1),(2,.rep Tl a2),(3,.rep Tl a3),(4,.rep Tl a4),(5,Pt b1),(14,.eq (.int .u8 y5.1)),(27,.rep Tl a1),(28,I (a1.length:Int)),(29,I y5.2)]) (fun z6 y5=>[.obj b1 25 (.rep aj a0)]) (eQ k a0 a1) k () (0,0) (fun _=>rfl) h (SE.fin [0] ⟨rfl,rfl,rfl,rfl,rfl,rfl,rfl,rfl,rfl,trivial⟩ rfl) (fun n z6 y5 h=>?_)));unfold eQ at h;refine sr (jb (bB rfl) ?_);refine au ?_;refine ci h (fun h=>?_) (fun h=>?_)
   ·refine au ?_;refine ak (au ?_);obtain⟨x7,UN,h⟩:=aa h;refine jb (aS (t:=Ti) rfl iu bV UN) ?_;refine ja (av (t:=Ti) rfl bV rfl) ?_;refine au ?_;refine fl gX ?_;refine lo bV ?_;obtain⟨x8,UM,h⟩:=aa h;refine jb (d4 rfl UM) ?_;obtain⟨r9,UO,h⟩:=aa h;refine jc (ay [.tmp 34,.const (.int .i64 (0)),.tmp 37] rfl rfl ye rfl (dD k x7 0 x8 r9 UO)) ?_;refine ja (iE rfl) ?_;refine nt (cw h (fun h=>?_) (fun h=>?_))
    ·refine au ?_;obtain rfl:=hR _ h;exact aM (0,0) [.eq (.pointer none),_,_] 0 ⟨rfl,rfl,rfl,trivial⟩ rfl
    ·refine sk (cg (aI (Z:=Unit) (α:=Bool) (fun O y=>[(1,.rep Tl a1),(2,.rep Tl a2),(3,.rep Tl a3),(4,.rep Tl a4),(5,Pt b1),(14,.eq (.int .u8 y5.1)),(16,I x7),(27,.rep Tl a1),(28,I (a1.length:Int)),(29,I y5.2),(50,.eq (.bool y))]) (fun O y=>[.obj b1 25 (.rep aj a0)]) h (fun K h=>?_) (fun O y h=>?_)))
     ·refine ae (mq ?_);refine jb (nB rfl) ?_;refine mq ?_;refine cG (s:=42) rfl (fun hb=>?_) (fun hb=>?_)
      ·replace h:=fe (tU hb) h;refine au ?_;obtain⟨UT,Uy,h⟩:=aa h;refine gb (d4 rfl Uy) ?_;obtain⟨UI,Ux,h⟩:=aa h;refine gb (aS (t:=Ti) rfl iu bV Ux) ?_;refine ga (av (t:=Ti) rfl bV rfl) ?_;refine gb (C0 rfl) ?_;refine au ?_;exact jz ((),decide (x7≤UI)) h [0]
      ·replace h:=cS (tV hb) h;refine au ?_;exact jz ((),false) h [0]
     ·refine cv h (fun h=>?_) (fun h=>?_)
      ·refine au ?_;obtain rfl:=hR _ h;exact aM (0,0) [.eq (.pointer none),_,_] 0 ⟨rfl,rfl,rfl,trivial⟩ rfl
      ·refine sk (ae (au ?_));obtain⟨Y,UC,h⟩:=aa h;refine jb (ay [.tmp 51,.tmp 52] rfl rfl OA rfl (ko k y5.1 x7 Y UC)) ?_;refine au ?_;refine ae ?_;obtain⟨UH,Uw,h⟩:=aa h;refine jb (bA rfl Uw) ?_;refine au ?_;exact jz ((),(Y,UH)) h [0]
   ·refine au ?_;exact jz ((),y5.1) h [0]
  ·refine dx (Z:=Unit) (α:=Unit) (fun M U=>[(5,Pt b1),(14,.eq (.int .u8 x3))]) (fun M U=>[.obj b1 25 (.rep aj a0)]) (fun e=>e=r) h (fun e h=>Option.some.inj h) (fun K hR h=>?_) (fun M U h=>?_)
   ·refine au ?_;refine jc (bg (t:=Tl) [(.tmp 55,_),(.tmp 56,_),(.tmp 57,_)] [a2,a3,a4] rfl rfl my (.cons rfl .rep (.cons rfl .rep (.cons rfl .rep .nil))) rfl rfl) ?_;refine ol qy ?_;refine fa rfl ?_;refine nt (ak (aK (fun J c=>[(5,Pt b1),(14,.eq (.int .u8 x3)),(58,.rep (.slice Tl) [a2,a3,a4]),(59,I ([a2,a3,a4].length:Int)),(60,I c)]) (fun J c=>[.obj b1 25 (.rep aj a0)]) (cJ k a0 a2 a3 a4) k () 0 (fun _=>rfl) h (SE.fin [0] ⟨rfl,rfl,rfl,rfl,rfl,trivial⟩ rfl) (fun n J c h=>?_)));unfold cJ at h;refine sr (jb (bB rfl) ?_);refine au ?_;refine ci h (fun h=>?_) (fun h=>?_)
    ·refine sk (dx (Z:=Unit) (α:=Unit) (fun E Q=>[(5,Pt b1),(14,.eq (.int .u8 x3)),(58,.rep (.slice Tl) [a2,a3,a4]),(59,I ([a2,a3,a4].length:Int)),(60,I c)]) (fun E Q=>[.obj b1 25 (.rep aj a0)]) (fun e=>e=r) h (fun e h=>hR e h) (fun K hR h=>?_) (fun E Q h=>?_))
     ·refine ak (au ?_);obtain⟨x,Uu,h⟩:=aa h;refine jb (aS (t:=Tl) rfl qy gh Uu) ?_;refine ja (av (t:=Tl) rfl gh rfl) ?_;refine au ?_;refine ol iu ?_;refine fa rfl ?_;refine nt (ak (aK (fun D u=>[(5,Pt b1),(14,.eq (.int .u8 x3)),(17,I c),(58,.rep (.slice Tl) [a2,a3,a4]),(59,I ([a2,a3,a4].length:Int)),(60,I c),(65,.rep Tl x),(66,I (x.length:Int)),(67,I u)]) (fun D u=>[.obj b1 25 (.rep aj a0)]) (dn k a0 c x) k () 0 (fun _=>rfl) h (SE.fin [0] ⟨rfl,rfl,rfl,rfl,rfl,rfl,rfl,rfl,rfl,trivial⟩ rfl) (fun n D u h=>?_)));unfold dn at h;refine sr (jb (bB rfl) ?_);refine au ?_;refine ci h (fun h=>?_) (fun h=>?_)
      ·refine au ?_;refine ak (sr ?_);obtain⟨UG,zz,h⟩:=aa h;refine jb (aS (t:=Ti) rfl iu bV zz) ?_;refine ja (av (t:=Ti) rfl bV rfl) ?_;refine au ?_;refine fl gX ?_;refine lo bV ?_;obtain⟨US,qt,h⟩:=aa h;refine jb (d4 rfl qt) ?_;refine fl eG ?_;refine lo lG ?_;refine ol AM ?_;obtain⟨UR,mw,h⟩:=aa h;refine jb (d4 rfl mw) ?_;refine fl eG ?_;refine lo lG ?_;refine ol AM ?_;refine jc (EG rfl Q5 bV Py) ?_;refine mq ?_;obtain⟨UF,mc,h⟩:=aa h;refine jb (d5 (t:=Ti) rfl Q5 bV rfl rfl (fun _=>rfl) mc) ?_;obtain⟨UK,UB,h⟩:=aa h;refine jc (ay [.tmp 71,.const (.int .i64 (0)),.tmp 84] rfl rfl ye rfl (dD k UG 0 UF UK UB)) ?_;refine ja (iE rfl) ?_;refine nt (cw h (fun h=>?_) (fun h=>?_))
       ·refine au ?_;obtain rfl:=hR _ h;exact aM (0,0) [.eq (.pointer none),_,_] 0 ⟨rfl,rfl,rfl,trivial⟩ rfl
       ·refine au ?_;refine ae ?_;obtain⟨UE,gw,h⟩:=aa h;refine jb (bA rfl gw) ?_;refine au ?_;exact jz ((),UE) h [0]
      ·refine au ?_;exact jz ((),()) h [0]
     ·refine ae ?_;obtain⟨UD,gq,h⟩:=aa h;refine jb (bA rfl gq) ?_;refine au ?_;exact jz ((),UD) h [0]
    ·refine au ?_;exact jz ((),()) h [0]
   ·refine sr (lo g9 ?_);obtain⟨X,UA,h⟩:=aa h;have j:=nD k a0 X UA;rcases hr:X with _ |UL
    ·rw [hr] at h j;replace h:=u4 h;refine aD (Δ:=[]) (F:=_) (fun _ _ _=>ab rfl _) rfl rfl (ay [.tmp 89] rfl rfl Ld rfl j) ⟨rfl,trivial⟩ fun _=>?_;cases h
    ·rw [hr] at h j;replace h:=uZ h;refine aD (Δ:=[]) (F:=_) (fun _ _ _=>ab rfl _) rfl rfl (ay [.tmp 89] rfl rfl Ld rfl j) ⟨rfl,trivial⟩ fun l=>?_;refine aq (nt (sr ?_));refine mq ?_;obtain⟨UJ,Uz,h⟩:=aa h;refine fr 1 ?_;refine fr 1 ?_;refine aD (Δ:=[_,_]) (F:=_) (fun _ _ _=>ab rfl _) rfl rfl (aJ [.tmp 91] rfl rfl SQ rfl (pZ k UL l.1 l.2 UJ Uz)) ⟨rfl,trivial⟩ fun _=>?_;refine au ?_;cases h;exact aM (l.1,l.2) [.eq (.pointer (some ⟨l.1,0,none⟩)),_,_] 2 ⟨rfl,rfl,rfl,trivial⟩ rfl
def ec(k:Nat)(a0:ag)(r5:(List (List Int)))(x9:Int):Nat→((List (List Int))×Int)→Option (List (List Int))
 |0,_=>none
 |n+1,c=>
  if c.2 < x9 then((aO r5 c.2).bind fun j=>
  (cF (0≤a0.1∧a0.1≤5)).bind fun _=>
  (hH k (List.take (Int.toNat a0.1) j)).bind fun e=>
  (cF (bK (List.length c.1+List.length [e]))).bind fun _=>
  (ck (c.2+1)).bind fun h=>
  ec k a0 r5 x9 n (c.1++[e],h)) else(some c.1)
def iz(k:Nat)(a0:ag)(a1:(List Int)):Option ((List (List Int))×Int):=
 (jN k a0 a1 ([]:(List Int)) ([]:(List Int)) ([]:(List Int))).bind fun r2=>
 fN r2.1 (if¬(r2.2.2=0) then(some (([]:(List (List Int))),r2.2.2)) else(none)) (fun q3=>if¬(r2.2.2=0) then(some (([]:(List (List Int))),r2.2.2)) else((lI k q3 r2.2.1).bind fun r5=>
 (((ck ((a0.2.2.2.2.1.length:Int)+1)).bind fun x9=>
 ec k a0 r5 x9 k (([]:(List (List Int))),0)):Option ((List (List Int)))).bind fun x7=>
 some (x7,0)))
theorem pE(k:Nat)(a0:ag)(a1:(List Int))(r:(List (List Int))×Int)(h:iz k a0 a1=some r):
 bQ (dC Tryz.prog) 13 [.rep aj a0,.rep Tl a1] [] (fun _:Unit=>(bv [.rep (.slice Tl) r.1,I r.2],[])):=by
 unfold iz at h
 replace h:=aY h
 refine bQ.of 43 Tryz.func13 rfl Tryz.ntmps13 rfl fun S w0=>?_
 refine sr ?_
 refine bx fun b1=>?_
 refine au ?_
 refine lo g9 ?_
 refine mq ?_
 obtain⟨r2,X,h⟩:=aa h
 have j:=lP k a0 a1 ([]:(List Int)) ([]:(List Int)) ([]:(List Int)) r2 X
 rcases hr:r2.1 with _ |q3
 ·
  rw [hr] at h j;replace h:=u4 h;refine aD (Δ:=[]) (F:=_) (fun _ _ _=>ab rfl _) rfl rfl (bF (N:=[(.tmp 13,.rep aj a0),(.tmp 14,.rep Tl a1),(.const (.slice none 0 0),.eq (.slice none 0 0)),(.const (.slice none 0 0),.eq (.slice none 0 0)),(.const (.slice none 0 0),.eq (.slice none 0 0))]) (aJ [.tmp 13,.tmp 14,.const (.slice none 0 0),.const (.slice none 0 0),.const (.slice none 0 0)] rfl rfl zP rfl j) fun _ _ _ hn=>⟨hn.1,hn.2.1,(aE (t:=Tl) (x:=([]:(List Int))) .nil rfl rfl hn.2.2.1),(aE (t:=Tl) (x:=([]:(List Int))) .nil rfl rfl hn.2.2.2.1),(aE (t:=Tl) (x:=([]:(List Int))) .nil rfl rfl hn.2.2.2.2.1),trivial⟩) ⟨rfl,rfl,rfl,rfl,rfl,trivial⟩ fun _=>?_;refine au ?_;refine jb (fh rfl) ?_;refine nt (cn h (fun h=>?_) (fun h=>?_))
  ·refine sr (mq ?_);refine cq ?_;refine aq (nt (rx ?_));refine bL (eA (t:=(.slice Tl)) (x:=([]:(List (List Int)))) 4 rfl .nil rfl rfl) ?_;cases h;exact rb
  ·cases h
 ·
  rw [hr] at h j;replace h:=uZ h;refine aD (Δ:=[]) (F:=_) (fun _ _ _=>ab rfl _) rfl rfl (bF (N:=[(.tmp 13,.rep aj a0),(.tmp 14,.rep Tl a1),(.const (.slice none 0 0),.eq (.slice none 0 0)),(.const (.slice none 0 0),.eq (.slice none 0 0)),(.const (.slice none 0 0),.eq (.slice none 0 0))]) (aJ [.tmp 13,.tmp 14,.const (.slice none 0 0),.const (.slice none 0 0),.const (.slice none 0 0)] rfl rfl zP rfl j) fun _ _ _ hn=>⟨hn.1,hn.2.1,(aE (t:=Tl) (x:=([]:(List Int))) .nil rfl rfl hn.2.2.1),(aE (t:=Tl) (x:=([]:(List Int))) .nil rfl rfl hn.2.2.2.1),(aE (t:=Tl) (x:=([]:(List Int))) .nil rfl rfl hn.2.2.2.2.1),trivial⟩) ⟨rfl,rfl,rfl,rfl,rfl,trivial⟩ fun z4=>?_;refine au ?_;refine jb (fh rfl) ?_;refine nt (cn h (fun h=>?_) (fun h=>?_))
  ·refine sr (mq ?_);refine cq ?_;refine aq (nt (rx ?_));refine bL (eA (t:=(.slice Tl)) (x:=([]:(List (List Int)))) 4 rfl .nil rfl rfl) ?_;cases h;exact rb
  ·refine sk (sr (cq (nt (sr ?_))));iterate 2 refine mq ?_
   obtain⟨r5,U,h⟩:=aa h;refine fr 1 ?_;refine fr 1 ?_;refine aD (Δ:=[_,_]) (F:=_) (fun _ _ _=>ab rfl _) rfl rfl (aJ [.tmp 22,.tmp 23] rfl rfl oH rfl (eY k q3 z4.1 z4.2 r2.2.1 r5 U)) ⟨rfl,rfl,trivial⟩ fun _=>?_;refine aW rfl rfl rfl (bj rfl FN ID) trivial fun b6=>?_;refine aR rfl rfl (aP rfl Gy rfl rfl rfl) ⟨rfl,rfl,trivial⟩ ?_;refine eC (jw (t:=(.arr 7 Tr)) (x:=r5) [10] .rep ⟨rfl,trivial⟩) ?_;refine nt (aI (Z:=Value) (α:=(List (List Int))) (fun z8 x7=>[(9,.eq z8)]) (fun z8 x7=>[.sl z8 28 Tl x7,.inv z4.2 (aL k q3)]) h (fun K h=>?_) (fun z8 x7 h=>?_))
   ·refine sr (fl eG ?_);refine fr 2 ?_;refine lo lG ?_;refine ol AM ?_;obtain⟨x9,Q,h⟩:=aa h;refine jb (bA rfl Q) ?_;refine fa rfl ?_;refine nt (ak (jf (SE.nil 28 Tl) ?_));refine aK (fun e c=>[(2,Pt b1),(9,.eq e),(10,.at (.arr 7 Tr) r5),(28,I x9),(29,I c.2)]) (fun e c=>[.obj b1 25 (.rep aj a0),.sl e 28 Tl c.1,.inv z4.2 (aL k q3)]) (ec k a0 r5 x9) k (.slice none 0 0) (([]:(List (List Int))),0) (fun _=>rfl) h (SE.fin [1,0,3] ⟨rfl,rfl,rfl,rfl,rfl,trivial⟩ rfl) (fun n e c h=>?_);unfold ec at h;refine sr (jb (bB rfl) ?_);refine au ?_;refine ci h (fun h=>?_) (fun h=>?_)
    ·refine au ?_;refine ak (au ?_);refine cK ?_;refine dm ?_;refine dm ?_;obtain⟨M,y,h⟩:=aa h;refine db (bZ (t:=Tr) rfl Cj gV y) ?_;refine da (aG rfl gX) ?_;refine ea 0 (aA rfl bV nJ rfl) ?_;obtain⟨gq,l,h⟩:=aa h;refine db (vH (t:=Ti) rfl An bV (ao l).1 (ao l).2) ?_;obtain⟨s,E,h⟩:=aa h;refine da (D5 (ay [.tmp 37] rfl rfl Tf rfl (rP k (List.take (Int.toNat a0.1) M) s E))) ?_;refine da (bg (t:=Tl) [(.tmp 38,_)] [s] rfl rfl my (.cons rfl .rep .nil) rfl rfl) ?_;refine df dW ?_;obtain⟨Y,D,h⟩:=aa h;refine fr 1 ?_;refine dU rfl rfl rfl (cj rfl rfl my (ao D)) ⟨rfl,rfl,trivial⟩ fun O=>?_;refine au ?_;refine ae ?_;obtain⟨J,u,h⟩:=aa h;refine jb (bA rfl u) ?_;refine au ?_;exact jz (O,(c.1++[s],J)) h [1,0,2]
    ·refine au ?_;exact jz (e,c.1) h [1,2]
   ·refine sr (mq ?_);refine aq ?_;refine cq (nt (dw ?_));refine bL (gZ [4,9,42] ⟨rfl,rfl,rfl,trivial⟩) ?_;cases h;exact rb
def co(k:Nat)(a0:ag)(a2:Int)(r1:(List (List Int))):Nat→Int→Option Bool
 |0,_=>none
 |n+1,y3=>
  if y3 < (a0.2.2.2.2.2.length:Int) then((aO a0.2.2.2.2.2 y3).bind fun x5=>
  (((eP k a2 y3).bind fun r9=>
  if¬(r9=true) then((aO r1 x5.2.1).bind fun h=>
  (aO h x5.1).bind fun e=>
  some (!decide ((decide (a0.2.2.1≤e))=x5.2.2))) else(some false)):Option (Bool)).bind fun x7=>
  if x7=true then(some false) else((ck (y3+1)).bind fun c=>
  co k a0 a2 r1 n c)) else(some true)
def f7(k:Nat)(a0:ag)(a1:Int)(a2:Int):Option Bool:=
 (lI k a0 a1).bind fun r1=>
 co k a0 a2 r1 k 0
theorem ou(k:Nat)(a0:ag)(c z_a0:Nat)(a1:Int)(a2:Int)(r:Bool)(h:f7 k a0 a1 a2=some r):
 CH (dC Tryz.prog) 104 [Pt c,.eq (.int .u8 a1),.eq (.int .u8 a2)] [.obj c 123 (am a0 z_a0),.inv z_a0 (aL k a0)] (.iface 160 (.agg #[])) r:=by
 unfold f7 at h
 replace h:=aY h
 refine CH.of 48 Tryz.func104 rfl Tryz.ntmps104 rfl fun S w0=>?_
 refine sr ?_
 iterate 2 refine mq ?_
 obtain⟨r1,E,h⟩:=aa h
 have J:=eY k a0 c z_a0 a1 r1 E
 refine fr 1 ?_
 refine fr 1 ?_
 refine aD (Δ:=[_,_]) (F:=_) (fun _ _ _=>ab rfl _) rfl rfl (aJ [.tmp 9,.tmp 10] rfl rfl oH rfl J) ⟨rfl,rfl,trivial⟩ fun _=>?_
 refine aW rfl rfl rfl (bj rfl FN ID) trivial fun b2=>?_
 refine aR rfl rfl (aP rfl Gy rfl rfl rfl) ⟨rfl,rfl,trivial⟩ ?_
 refine eC (jw (t:=(.arr 7 Tr)) (x:=r1) [6] .rep ⟨rfl,trivial⟩) ?_
 refine au ?_
 refine ja (cH rfl) ?_
 refine fl gP ?_
 refine fl qp ?_
 refine lo AZ ?_
 refine ol OW ?_
 refine fa rfl ?_
 refine nt ?_
 refine ak ?_
 refine aK (fun z4 y3=>[(0,Pt c),(2,.eq (.int .u8 a2)),(6,.at (.arr 7 Tr) r1),(16,Rs aZ a0.2.2.2.2.2),(17,I (a0.2.2.2.2.2.length:Int)),(18,I y3)]) (fun z4 y3=>[.obj c 123 (am a0 z_a0),.inv z_a0 (aL k a0)]) (co k a0 a2 r1) k () 0 (fun _=>rfl) h (SE.fin [0,1] ⟨rfl,rfl,rfl,rfl,rfl,rfl,trivial⟩ rfl) (fun n z4 y3 h=>?_)
 unfold co at h
 refine sr ?_
 refine jb (bB rfl) ?_
 refine au ?_
 refine ci h (fun h=>?_) (fun h=>?_)
 ·
  refine au ?_;refine ak (au ?_);obtain⟨x5,y,h⟩:=aa h;refine jb (aS (t:=aZ) rfl OW qI y) ?_;refine ja (av (t:=aZ) rfl qI rfl) ?_;refine aW rfl rfl rfl (bj rfl AO IE) trivial fun b6=>?_;refine aq ?_;refine aR rfl rfl (aP rfl qI rfl rfl rfl) ⟨rfl,rfl,trivial⟩ ?_;refine nt (aI (Z:=Unit) (α:=Bool) (fun z8 x7=>[(0,Pt c),(2,.eq (.int .u8 a2)),(6,.at (.arr 7 Tr) r1),(16,Rs aZ a0.2.2.2.2.2),(17,I (a0.2.2.2.2.2.length:Int)),(18,I y3),(44,.eq (.bool x7))]) (fun z8 x7=>[.obj c 123 (am a0 z_a0),.inv z_a0 (aL k a0)]) h (fun K h=>?_) (fun z8 x7 h=>?_))
  ·refine cK ?_;refine dm ?_;refine dm ?_;obtain⟨r9,D,h⟩:=aa h;refine db (ay [.tmp 23,.tmp 24] rfl rfl Ik rfl (gy k a2 y3 r9 D)) ?_;refine da (iE rfl) ?_;refine t3 rfl rfl rfl (bz rfl) ⟨rfl,trivial⟩ (fun hb=>?_) (fun hb=>?_)
   ·replace h:=fe (Bl hb) h;refine cz rfl rfl rfl rfl rfl (aG rfl BN) ⟨rfl,rfl,trivial⟩ ?_;refine gR 0 rfl rfl rfl rfl rfl rfl (aA rfl bV nJ rfl) ⟨rfl,rfl,trivial⟩ ?_;refine cz rfl rfl rfl rfl rfl (aG rfl BO) ⟨rfl,rfl,trivial⟩ ?_;refine gR 0 rfl rfl rfl rfl rfl rfl (aA rfl bV nJ rfl) ⟨rfl,rfl,trivial⟩ ?_;obtain⟨M,l,h⟩:=aa h;refine cz rfl rfl rfl rfl rfl (bZ (t:=Tr) rfl Cj gV l) ⟨rfl,rfl,rfl,trivial⟩ ?_;obtain⟨u,j,h⟩:=aa h;refine cz rfl rfl rfl rfl rfl (bZ (t:=Ti) rfl An bV j) ⟨rfl,rfl,rfl,trivial⟩ ?_;refine cz rfl rfl rfl rfl rfl (av (t:=Ti) rfl bV rfl) ⟨rfl,rfl,trivial⟩ ?_;refine cz rfl rfl rfl rfl rfl (bz rfl) ⟨rfl,rfl,trivial⟩ ?_;refine cz rfl rfl rfl rfl rfl (cH rfl) ⟨rfl,rfl,trivial⟩ ?_;refine cz rfl rfl rfl rfl rfl (aG rfl gP) ⟨rfl,rfl,trivial⟩ ?_;refine cz rfl rfl rfl rfl rfl (aG rfl dM) ⟨rfl,rfl,trivial⟩ ?_;refine gR 1 rfl rfl rfl rfl rfl rfl (aA rfl bV nJ rfl) ⟨rfl,rfl,trivial⟩ ?_;refine cz rfl rfl rfl rfl rfl (kx rfl) ⟨rfl,rfl,rfl,trivial⟩ ?_;refine cz rfl rfl rfl rfl rfl (aG rfl If) ⟨rfl,rfl,trivial⟩ ?_;refine gR 0 rfl rfl rfl rfl rfl rfl (aA rfl TW nJ rfl) ⟨rfl,rfl,trivial⟩ ?_;refine df dW ?_;refine gb (Hf rfl U4) ?_;refine au ?_;exact jz ((), !decide ((decide (a0.2.2.1≤u))=x5.2.2)) h [1,2]
   ·replace h:=cS (uw hb) h;iterate 15 refine dg ?_
    refine df dW ?_;refine au ?_;exact jz ((),false) h [1,2]
  ·refine cv h (fun h=>?_) (fun h=>?_)
   ·refine ae (bY rfl (Hk rfl OX Px) trivial ?_);refine ja (Hh rfl OX) ?_;refine Fq rfl rfl rfl rfl ?_;refine Av ?_;refine sZ ?_;refine sZ ?_;refine Av ?_;refine bL (SE.fin (Γ':=[]) [0,1] trivial rfl) ?_;cases h;exact L0
   ·refine au ?_;refine ae ?_;obtain⟨s,e,h⟩:=aa h;refine jb (bA rfl e) ?_;refine au ?_;exact jz ((),s) h [0,1]
 ·
  refine au ?_;refine j8 ?_;refine bL (SE.fin (Γ':=[]) [0,1] trivial rfl) ?_;cases h;exact aM () [] 2 trivial rfl
def cT(k:Nat)(a0:ag)(a1:Int)(a2:Int):Option Bool:=f7 k a0 a1 a2
theorem MM:OY Tryz.prog 160 (.agg #[]):=⟨⟨_,OX⟩,fun w=>by kernel_rfl⟩
theorem Io:∀(S:FS) (w:World),(A.rep (.arr 0 Ti) []).holds S w (.agg #[]):=fun _ _=>⟨[],⟨rfl,rfl⟩,rfl⟩
theorem MB:∀w,(zeroValue 160).run Tryz.prog w= .ok (.agg #[]) w:=fun w=>by kernel_rfl
theorem M8:∀S w,(A.cells S w (.rep (.arr 0 Ti) []) (Value.cells (.agg #[])).toList):=fun _ _=>⟨rfl,rfl⟩
theorem MN:dY Tryz.prog 160 0 true:=⟨fun w=>by kernel_rfl,fun w=>by kernel_rfl⟩
theorem QW:ah Tryz.prog 103:=ah.of Tryz.func103 (by kernel_rfl) (by kernel_rfl)
theorem MX:ah Tryz.prog 104:=ah.of Tryz.func104 (by kernel_rfl) (by kernel_rfl)
theorem JI:dY Tryz.prog 4 1 false:=⟨fun w=>by kernel_rfl,fun w=>by kernel_rfl⟩
theorem RJ:∀w,(zeroValue 4).run Tryz.prog w= .ok (.bool false) w:=fun w=>by kernel_rfl
theorem TF:∀S w,(A.cells S w (.eq (.bool false)) (Value.cells (.bool false)).toList):=fun _ _=>⟨rfl,rfl⟩
theorem zY:yx Tryz.prog 103 (.iface 160 (.agg #[])) 4 (.bool false):=by
 refine⟨QW,fun M e0=>?_,fun M e0=>?_⟩
 ·refine lD.of (M:=M) (m:=.returning) (m1:=.returning) (val:=.nilIface) Tryz.func103 rfl rfl (by decide) rfl rfl (by decide) (fun ρ=>rfl) (fun fr b cs hb hm=>GU hb hm rfl) (.inl rfl) fun b S w0=>?_;refine ja (J9 Io rfl MM) ?_;refine au ?_;refine aW rfl rfl rfl (bj rfl MB M8) trivial fun b1=>?_;refine aR rfl rfl (aP rfl MN rfl rfl rfl) ⟨rfl,rfl,trivial⟩ ?_;refine au ?_;refine jg rfl (fun hb=>by cases hb) (fun hb=>?_);refine je (j8 ?_);refine bL (SE.fin (Γ':=[]) [1] trivial rfl) ?_;exact aM () [] 1 trivial rfl
 ·refine lD.of (M:=M) (m:=.panicking (gY (.iface 160 (.agg #[])) false)) (m1:=.panicking (gY (.iface 160 (.agg #[])) true)) (val:=.iface 160 (.agg #[])) Tryz.func103 rfl rfl (by decide) rfl rfl (by decide) (fun ρ=>rfl) (fun fr b cs hb hm=>GT hb hm) (.inr ⟨_,rfl⟩) fun b S w0=>?_;refine ja (J8 Io rfl MM) ?_;refine au ?_;refine aW rfl rfl rfl (bj rfl MB M8) trivial fun b1=>?_;refine aR rfl rfl (aP rfl MN rfl rfl rfl) ⟨rfl,rfl,trivial⟩ ?_;refine au ?_;refine jg rfl (fun hb=>?_) (fun hb=>by cases hb);refine ae (fr 1 ?_);refine aR rfl rfl (aP rfl JI rfl rfl rfl) ⟨rfl,rfl,trivial⟩ ?_;refine be (j8 ?_);refine bL (SE.fin (Γ':=[]) [0] trivial rfl) ?_;exact aM () [] 1 trivial rfl
theorem nL(k:Nat)(a0:ag)(c z_a0:Nat)(a1:Int)(a2:Int)(r:Bool)(h:cT k a0 a1 a2=some r):
 bQ (dC Tryz.prog) 82 [Pt c,.eq (.int .u8 a1),.eq (.int .u8 a2)] (qC a0 c z_a0 k) (fun _:Unit=>(bv [.eq (.bool r)],qC a0 c z_a0 k)):=by
 have cr:=ou k a0 c z_a0 a1 a2 r h
 refine Az 12 Tryz.func82 rfl Tryz.ntmps82 rfl fun S w0=>?_
 refine sr ?_
 refine aW rfl rfl rfl (bj rfl RJ TF) trivial fun b6=>?_
 refine au ?_
 refine ja (pT [] [.tmp 6] [] [(Pv b6)] rfl rfl rfl) ?_
 refine I0 rfl rfl rfl rfl rfl ?_
 refine nt ?_
 refine sr ?_
 iterate 3 refine mq ?_
 refine fr 2 ?_
 refine fr 2 ?_
 cases r with
 |false=>
  refine I1 (Ss:=[Pt c,.eq (.int .u8 a1),.eq (.int .u8 a2)]) (Δ:=qC a0 c z_a0 k) (F:=[.obj b6 4 (.eq (.bool false))]) [.tmp 8,.tmp 9,.tmp 10] rfl rfl rfl rfl MX ⟨rfl,rfl,rfl,trivial⟩ cr ?_;refine sZ ?_;refine bL (SE.fin (Γ':=[(6,_)]) [2,0,1] ⟨rfl,trivial⟩ rfl) ?_;refine Ft zY ?_;refine bL (SE.fin (Γ':=[(6,_)]) [1,2,0] ⟨rfl,trivial⟩ rfl) ?_;exact aM () [.eq (.bool false)] 2 ⟨⟨_,_,_,_,_,rfl,(.tail _ (.tail _ (.head _))),JI,(fun _=>rfl),rfl⟩,trivial⟩ rfl
 |true=>
  refine aD (Δ:=qC a0 c z_a0 k) (F:=[.obj b6 4 (.eq (.bool false))]) (fun _ _ _=>ab rfl _) rfl rfl (aJ [.tmp 8,.tmp 9,.tmp 10] rfl rfl MX rfl cr.ok) ⟨rfl,rfl,rfl,trivial⟩ fun _=>?_;refine nt (sr (fr 2 ?_));refine aR rfl rfl (aP rfl JI rfl rfl rfl) ⟨rfl,rfl,trivial⟩ ?_;refine au ?_;refine LZ zY ?_;refine bL (SE.fin (Γ':=[(6,_)]) [1,2,0] ⟨rfl,trivial⟩ rfl) ?_;exact aM () [.eq (.bool true)] 2 ⟨⟨_,_,_,_,_,rfl,(.tail _ (.tail _ (.head _))),JI,(fun _=>rfl),rfl⟩,trivial⟩ rfl
def ek(k:Nat)(a0:ag)(a1:Int):Option (List Int):=
 (jP k (qJ (fun(y5:(List Int)) (p7:Int)=>
  (cT k a0 p7 a1).bind fun r9=>
  if r9=true then((cF (bK (List.length y5+List.length [p7]))).bind fun _=>
  some (y5++[p7],true)) else(some (y5,true)))) a0.1 (([]:(List Int)),false)).bind fun r8=>
 if r8.2=true then(none) else(some r8.1)
theorem ky(k:Nat)(a0:ag)(c z_a0:Nat)(a1:Int)(r:(List Int))(h:ek k a0 a1=some r):
 bQ (dC Tryz.prog) 45 [Pt c,.eq (.int .u8 a1)] [.obj c 123 (am a0 z_a0),.inv z_a0 (aL k a0)] (fun _:Unit=>(bv [.rep (.slice (.int .u8)) r],[.obj c 123 (am a0 z_a0),.inv z_a0 (aL k a0)])):=by
 unfold ek at h
 replace h:=aY h
 refine vu 23 Tryz.func45 rfl Tryz.ntmps45 rfl fun S w0=>?_
 refine sr ?_
 refine bx fun b1=>?_
 refine bx fun b2=>?_
 refine au ?_
 refine aW rfl rfl rfl (bj rfl Jl LG) trivial fun b3=>?_
 refine nt ?_
 refine cg ?_
 refine sr ?_
 refine fr 2 ?_
 refine lo JH ?_
 refine ja (cH rfl) ?_
 refine fl gP ?_
 refine fl gX ?_
 refine fr 3 ?_
 refine lo bV ?_
 refine aW rfl rfl rfl (ay [.tmp 11] rfl rfl QE rfl (qZ a0.1)) ⟨rfl,trivial⟩ fun b4=>?_
 refine nt ?_
 refine ak ?_
 refine jf (SE.nil 71 (.int .u8)) ?_
 refine dN 6 rfl ?_
 refine dN 6 rfl ?_
 refine dN 2 rfl ?_
 refine dN 6 rfl ?_
 refine dN 6 rfl ?_
 refine dN 6 rfl ?_
 refine dN 6 rfl ?_
 obtain⟨r8,s,h⟩:=aa h
 refine rI (Δ:=[.obj b4 3 (I a0.1),.obj c 123 (am a0 z_a0),.obj b1 70 (Pt c),.obj b3 84 (.eq (.slice none 0 0)),.sl (.slice none 0 0) 71 (.int .u8) ([]:(List Int)),.obj b2 71 (.eq (.int .u8 a1)),.inv z_a0 (aL k a0)]) (F:=[]) (X:=Value) (J:=fun _=>Pm r8.2) (E:=fun z6=>[.obj b4 3 (I a0.1),.obj c 123 (am a0 z_a0),.obj b1 70 (Pt c),.obj b3 84 (.eq z6),.sl z6 71 (.int .u8) r8.1,.obj b2 71 (.eq (.int .u8 a1)),.inv z_a0 (aL k a0)]) (r0:=fun _=>.tup .any) rfl rfl Qy (fun rec hp ha hb hs hpe hN hv l=>?_) (fun dl z6=>t9 (fun hj=>?_) (fun hj=>?_))
 ·
  rcases rec with⟨st0,pe0,fn0,tm0,ps0,as0,bd0,df0⟩;dsimp only at hp ha hb hs hpe hN hv;subst hp hs hpe;have vN:Am tm0 [(2,Pt b1),(3,Pt b2),(5,Pt b3)]:=⟨congrArg A.eq (hv 2 _ rfl).symm,congrArg A.eq (hv 3 _ rfl).symm,congrArg A.eq (hv 5 _ rfl).symm,trivial⟩;refine bQ.pick (M:=(dC Tryz.prog)) [1,0,2,3,4,5,6,7] [1,0,2,3,4,5,6,7] (ov (fun(z6:Value) (q:(List Int)×Bool)=>[.raw l (.loop (kj ⟨.ready,none,fn0,tm0, #[13],as0,bd0,df0⟩ (Pm q.2))),.obj c 123 (am a0 z_a0),.obj b1 70 (Pt c),.obj b3 84 (.eq z6),.sl z6 71 (.int .u8) q.1,.obj b2 71 (.eq (.int .u8 a1)),.inv z_a0 (aL k a0)]) l (qJ (fun(y5:(List Int)) (p7:Int)=>
  (cT k a0 p7 a1).bind fun r9=>
  if r9=true then((cF (bK (List.length y5+List.length [p7]))).bind fun _=>
  some (y5++[p7],true)) else(some (y5,true)))) k a0.1 b4 (fun z6 q p r' h=>?_) (.slice none 0 0) (([]:(List Int)),false) r8 s) rfl (fun _=>rfl) (fun _=>rfl)
  obtain⟨rq,hq,h2,rfl⟩:=ua h;obtain⟨y5,b5⟩:=q;obtain rfl:b5=false:=hq;replace h:=aY h2;obtain⟨p7,hpv⟩:∃x,x=p:=⟨_,rfl⟩;subst hpv;refine YT.pick (R':=(fun z6:Value=>(.eq (.bool rq.2),[.raw l (.loop (kj ⟨.ready,none,fn0,tm0, #[13],as0,bd0,df0⟩ (Pm (!rq.2)))),.obj c 123 (am a0 z_a0),.obj b1 70 (Pt c),.obj b3 84 (.eq z6),.sl z6 71 (.int .u8) rq.1,.obj b2 71 (.eq (.int .u8 a1)),.inv z_a0 (aL k a0)]))) [0,1,2,3,4,5,6] [0,1,2,3,4,5,6] (IH ha hb (N:=23) (Γ:=[(2,Pt b1),(3,Pt b2),(5,Pt b3)]) rfl hN (by decide) vN (fun S w=>?_)) rfl (fun _=>rfl) (fun _=>rfl);refine ae (au ?_);refine Aw rfl rfl ?_;refine ak (sr (fr 2 ?_));refine lo JH ?_;refine mq ?_;refine fr 5 ?_;refine lo l7 ?_;obtain⟨r9,n,h⟩:=aa h;refine fr 6 ?_;refine fr 4 ?_;refine aD (Δ:=[_,_]) (F:=_) (fun _ _ _=>ab rfl _) rfl rfl (aJ [.tmp 14,.tmp 15,.tmp 16] rfl rfl SO rfl (nL k a0 c z_a0 p7 a1 r9 n)) ⟨rfl,rfl,rfl,trivial⟩ fun _=>?_;refine nt (cv h (fun h=>?_) (fun h=>?_))
  ·refine ae (fr 5 ?_);refine lo xj ?_;refine mq ?_;refine ja (bg (t:=(.int .u8)) [(.tmp 19,_)] [p7] rfl rfl JV (.cons rfl .int .nil) rfl rfl) ?_;obtain⟨u,e,h⟩:=aa h;refine fr 6 ?_;refine dU rfl rfl rfl (cj rfl rfl JV (ao e)) ⟨rfl,rfl,trivial⟩ fun j=>?_;refine sY fun o12=>?_;refine fr 1 ?_;refine aR rfl rfl (aP rfl xj o12 rfl rfl) ⟨rfl,rfl,trivial⟩ ?_;refine be (gC (bn 3 rfl ?_));refine bn 4 rfl ?_;refine bn 3 rfl ?_;refine bn 3 rfl ?_;refine bn 5 rfl ?_;refine bn 5 rfl ?_;refine bn 6 rfl ?_;cases h;exact pq j 6 rfl
  ·refine je (gC (bn 1 rfl ?_));refine bn 2 rfl ?_;refine bn 6 rfl ?_;refine bn 6 rfl ?_;refine bn 5 rfl ?_;refine bn 5 rfl ?_;refine bn 6 rfl ?_;cases h;exact pq z6 6 rfl
 ·
  replace h:=cS (MK hj) h;refine gC (tn (sr (fr 4 ?_)));refine lo xj ?_;refine aq (nt (dw ?_));refine bn 5 rfl ?_;refine bL (nv (off:=0) [4,22] ⟨rfl,rfl,trivial⟩ rfl rfl) ?_;refine bn 1 rfl ?_;refine Ea ?_;refine bL (SE.fin (Γ':=[(4,_)]) [2,5,0,1,3,4] ⟨rfl,trivial⟩ rfl) ?_;cases h;exact aM () [_] 2 ⟨rfl,trivial⟩ rfl
 ·
  replace h:=fe (MI hj) h;cases h
def dE(k:Nat)(r7:(List Int)):Nat→((List (List Int))×Int)→Option (List (List Int))
 |0,_=>none
 |n+1,y8=>
  if y8.2 < (r7.length:Int) then((aO r7 y8.2).bind fun h=>
  (dX k h).bind fun c=>
  (cF (bK (List.length y8.1+List.length [c]))).bind fun _=>
  (ck (y8.2+1)).bind fun e=>
  dE k r7 n (y8.1++[c],e)) else(some y8.1)
def jo(k:Nat)(a0:ag):Option ((List (List Int))×Int):=
 (jN k a0 ([]:(List Int)) ([]:(List Int)) ([]:(List Int)) ([]:(List Int))).bind fun r2=>
 fN r2.1 (if¬(r2.2.2=0) then(some (([]:(List (List Int))),r2.2.2)) else(none)) (fun q3=>if¬(r2.2.2=0) then(some (([]:(List (List Int))),r2.2.2)) else((((ek k q3 0).bind fun r7=>
 dE k r7 k (([]:(List (List Int))),0)):Option ((List (List Int)))).bind fun x5=>
 some (x5,0)))
theorem pG(k:Nat)(a0:ag)(r:(List (List Int))×Int)(h:jo k a0=some r):
 bQ (dC Tryz.prog) 20 [.rep aj a0] [] (fun _:Unit=>(bv [.rep (.slice Tl) r.1,I r.2],[])):=by
 unfold jo at h
 replace h:=aY h
 refine bQ.of 33 Tryz.func20 rfl Tryz.ntmps20 rfl fun S w0=>?_
 refine sr ?_
 refine bx fun b1=>?_
 refine au ?_
 refine lo g9 ?_
 obtain⟨r2,M,h⟩:=aa h
 have c:=lP k a0 ([]:(List Int)) ([]:(List Int)) ([]:(List Int)) ([]:(List Int)) r2 M
 rcases hr:r2.1 with _ |q3
 ·
  rw [hr] at h c;replace h:=u4 h;refine aD (Δ:=[]) (F:=_) (fun _ _ _=>ab rfl _) rfl rfl (bF (N:=[(.tmp 11,.rep aj a0),(.const (.slice none 0 0),.eq (.slice none 0 0)),(.const (.slice none 0 0),.eq (.slice none 0 0)),(.const (.slice none 0 0),.eq (.slice none 0 0)),(.const (.slice none 0 0),.eq (.slice none 0 0))]) (aJ [.tmp 11,.const (.slice none 0 0),.const (.slice none 0 0),.const (.slice none 0 0),.const (.slice none 0 0)] rfl rfl zP rfl c) fun _ _ _ hn=>⟨hn.1,(aE (t:=Tl) (x:=([]:(List Int))) .nil rfl rfl hn.2.1),(aE (t:=Tl) (x:=([]:(List Int))) .nil rfl rfl hn.2.2.1),(aE (t:=Tl) (x:=([]:(List Int))) .nil rfl rfl hn.2.2.2.1),(aE (t:=Tl) (x:=([]:(List Int))) .nil rfl rfl hn.2.2.2.2.1),trivial⟩) ⟨rfl,rfl,rfl,rfl,rfl,trivial⟩ fun _=>?_;refine au ?_;refine jb (fh rfl) ?_;refine nt (cn h (fun h=>?_) (fun h=>?_))
  ·refine sr (mq ?_);refine cq ?_;refine aq (nt (rx ?_));refine bL (eA (t:=(.slice Tl)) (x:=([]:(List (List Int)))) 2 rfl .nil rfl rfl) ?_;cases h;exact rb
  ·cases h
 ·
  rw [hr] at h c;replace h:=uZ h;refine aD (Δ:=[]) (F:=_) (fun _ _ _=>ab rfl _) rfl rfl (bF (N:=[(.tmp 11,.rep aj a0),(.const (.slice none 0 0),.eq (.slice none 0 0)),(.const (.slice none 0 0),.eq (.slice none 0 0)),(.const (.slice none 0 0),.eq (.slice none 0 0)),(.const (.slice none 0 0),.eq (.slice none 0 0))]) (aJ [.tmp 11,.const (.slice none 0 0),.const (.slice none 0 0),.const (.slice none 0 0),.const (.slice none 0 0)] rfl rfl zP rfl c) fun _ _ _ hn=>⟨hn.1,(aE (t:=Tl) (x:=([]:(List Int))) .nil rfl rfl hn.2.1),(aE (t:=Tl) (x:=([]:(List Int))) .nil rfl rfl hn.2.2.1),(aE (t:=Tl) (x:=([]:(List Int))) .nil rfl rfl hn.2.2.2.1),(aE (t:=Tl) (x:=([]:(List Int))) .nil rfl rfl hn.2.2.2.2.1),trivial⟩) ⟨rfl,rfl,rfl,rfl,rfl,trivial⟩ fun z4=>?_;refine au ?_;refine jb (fh rfl) ?_;refine nt (cn h (fun h=>?_) (fun h=>?_))
  ·refine sr (mq ?_);refine cq ?_;refine aq (nt (rx ?_));refine bL (eA (t:=(.slice Tl)) (x:=([]:(List (List Int)))) 2 rfl .nil rfl rfl) ?_;cases h;exact rb
  ·refine sk (sr (cq (nt ?_)));refine aI (Z:=Value) (α:=(List (List Int))) (fun z6 x5=>[(7,.eq z6)]) (fun z6 x5=>[.sl z6 28 Tl x5,.inv z4.2 (aL k q3)]) h (fun K h=>?_) (fun z6 x5 h=>?_)
   ·refine sr (mq ?_);obtain⟨r7,J,h⟩:=aa h;refine fr 1 ?_;refine fr 1 ?_;refine aD (Δ:=[_,_]) (F:=_) (fun _ _ _=>ab rfl _) rfl rfl (aJ [.tmp 19,.const (.int .u8 (0))] rfl rfl QK rfl (ky k q3 z4.1 z4.2 0 r7 J)) ⟨rfl,rfl,trivial⟩ fun _=>?_;refine ol vW ?_;refine fa rfl ?_;refine nt (ak (jf (SE.nil 28 Tl) ?_));refine aK (fun z9 y8=>[(7,.eq z9),(20,.rep (.slice (.int .u8)) r7),(21,I (r7.length:Int)),(22,I y8.2)]) (fun z9 y8=>[.sl z9 28 Tl y8.1,.inv z4.2 (aL k q3)]) (dE k r7) k (.slice none 0 0) (([]:(List (List Int))),0) (fun _=>rfl) h (SE.fin [0,2] ⟨rfl,rfl,rfl,rfl,trivial⟩ rfl) (fun n z9 y8 h=>?_);unfold dE at h;refine sr (jb (bB rfl) ?_);refine au ?_;refine ci h (fun h=>?_) (fun h=>?_)
    ·refine au ?_;refine ak (sr ?_);obtain⟨D,l,h⟩:=aa h;refine jb (aS (t:=(.int .u8)) rfl vW l7 l) ?_;refine ja (av (t:=(.int .u8)) rfl l7 rfl) ?_;refine au ?_;refine ae (au ?_);obtain⟨e,u,h⟩:=aa h;refine ja (ay [.tmp 27] rfl rfl Il rfl (fU k D e u)) ?_;refine ja (bg (t:=Tl) [(.tmp 28,_)] [e] rfl rfl my (.cons rfl .rep .nil) rfl rfl) ?_;obtain⟨O,s,h⟩:=aa h;refine dU rfl rfl rfl (cj rfl rfl my (ao s)) ⟨rfl,rfl,trivial⟩ fun E=>?_;refine au ?_;refine ae ?_;obtain⟨y,j,h⟩:=aa h;refine jb (bA rfl j) ?_;refine au ?_;exact jz (E,(y8.1++[e],y)) h [0,1]
    ·refine au ?_;exact jz (z9,y8.1) h [0,1]
   ·refine sr (mq ?_);refine aq ?_;refine cq (nt (dw ?_));refine bL (gZ [2,7,32] ⟨rfl,rfl,rfl,trivial⟩) ?_;cases h;exact rb
def iG(k:Nat)(a0:ag)(a1:(List Int))(a2:(List Int))(a3:(List Int)):Option ((Option ag)×(List Int)×Int):=
 (jN k a0 ([]:(List Int)) a1 a2 a3).bind fun r2=>
 fN r2.1 (if¬(r2.2.2=0) then(some (none,([]:(List Int)),r2.2.2)) else(none)) (fun q3=>if¬(r2.2.2=0) then(some (none,([]:(List Int)),r2.2.2)) else((ek k q3 0).bind fun r5=>
 if(r5.length:Int)=0 then(some (none,([]:(List Int)),9)) else(some (some q3,r5,0))))
theorem kD(k:Nat)(a0:ag)(a1:(List Int))(a2:(List Int))(a3:(List Int))(r:(Option ag)×(List Int)×Int)(h:iG k a0 a1 a2 a3=some r):
 bQ (dC Tryz.prog) 48 [.rep aj a0,.rep Tl a1,.rep Tl a2,.rep Tl a3] [] (fun z:Nat×Nat=>(bv [J6 r.1 z.1,.rep (.slice (.int .u8)) r.2.1,I r.2.2],J5 r.1 fun q=>qC q z.1 z.2 k)):=by
 unfold iG at h
 replace h:=aY h
 refine bQ.of 34 Tryz.func48 rfl Tryz.ntmps48 rfl fun S w0=>?_
 refine sr ?_
 refine bx fun b1=>?_
 refine au ?_
 refine lo g9 ?_
 refine au ?_
 obtain⟨r2,j,h⟩:=aa h
 have c:=lP k a0 ([]:(List Int)) a1 a2 a3 r2 j
 rcases hr:r2.1 with _ |q3
 ·
  rw [hr] at h c;replace h:=u4 h;refine aD (Δ:=[]) (F:=_) (fun _ _ _=>ab rfl _) rfl rfl (bF (N:=[(.tmp 16,.rep aj a0),(.const (.slice none 0 0),.eq (.slice none 0 0)),(.tmp 17,.rep Tl a1),(.tmp 18,.rep Tl a2),(.tmp 19,.rep Tl a3)]) (aJ [.tmp 16,.const (.slice none 0 0),.tmp 17,.tmp 18,.tmp 19] rfl rfl zP rfl c) fun _ _ _ hn=>⟨hn.1,(aE (t:=Tl) (x:=([]:(List Int))) .nil rfl rfl hn.2.1),hn.2.2.1,hn.2.2.2.1,hn.2.2.2.2.1,trivial⟩) ⟨rfl,rfl,rfl,rfl,rfl,trivial⟩ fun _=>?_;refine au ?_;refine jb (fh rfl) ?_;refine nt (cn h (fun h=>?_) (fun h=>?_))
  ·refine sr (mq ?_);refine cq ?_;refine cq ?_;refine aq (nt (rx ?_));refine bL (eA (t:=(.slice (.int .u8))) (x:=([]:(List Int))) 9 rfl .nil rfl rfl) ?_;cases h;exact aM (0,0) [.eq (.pointer none),_,_] 0 ⟨rfl,rfl,rfl,trivial⟩ rfl
  ·cases h
 ·
  rw [hr] at h c;replace h:=uZ h;refine aD (Δ:=[]) (F:=_) (fun _ _ _=>ab rfl _) rfl rfl (bF (N:=[(.tmp 16,.rep aj a0),(.const (.slice none 0 0),.eq (.slice none 0 0)),(.tmp 17,.rep Tl a1),(.tmp 18,.rep Tl a2),(.tmp 19,.rep Tl a3)]) (aJ [.tmp 16,.const (.slice none 0 0),.tmp 17,.tmp 18,.tmp 19] rfl rfl zP rfl c) fun _ _ _ hn=>⟨hn.1,(aE (t:=Tl) (x:=([]:(List Int))) .nil rfl rfl hn.2.1),hn.2.2.1,hn.2.2.2.1,hn.2.2.2.2.1,trivial⟩) ⟨rfl,rfl,rfl,rfl,rfl,trivial⟩ fun z4=>?_;refine au ?_;refine jb (fh rfl) ?_;refine nt (cn h (fun h=>?_) (fun h=>?_))
  ·refine sr (mq ?_);refine cq ?_;refine cq ?_;refine aq (nt (rx ?_));refine bL (eA (t:=(.slice (.int .u8))) (x:=([]:(List Int))) 9 rfl .nil rfl rfl) ?_;cases h;exact aM (0,0) [.eq (.pointer none),_,_] 0 ⟨rfl,rfl,rfl,trivial⟩ rfl
  ·refine sk (sr (mq ?_));obtain⟨r5,e,h⟩:=aa h;refine fr 1 ?_;refine fr 1 ?_;refine aD (Δ:=[_,_]) (F:=_) (fun _ _ _=>ab rfl _) rfl rfl (aJ [.tmp 27,.const (.int .u8 (0))] rfl rfl QK rfl (ky k q3 z4.1 z4.2 0 r5 e)) ⟨rfl,rfl,trivial⟩ fun _=>?_;refine au ?_;refine ol vW ?_;refine jb (hP rfl) ?_;refine nt (ci h (fun h=>?_) (fun h=>?_))
   ·refine sr (cq ?_);refine cq ?_;refine cq (nt (rx ?_));refine bL (eA (t:=(.slice (.int .u8))) (x:=([]:(List Int))) 9 rfl .nil rfl rfl) ?_;cases h;exact aM (0,0) [.eq (.pointer none),_,_] 0 ⟨rfl,rfl,rfl,trivial⟩ rfl
   ·refine au ?_;cases h;exact aM (z4.1,z4.2) [.eq (.pointer (some ⟨z4.1,0,none⟩)),_,_] 2 ⟨rfl,rfl,rfl,trivial⟩ rfl
def fM(k:Nat)(a2:Int)(r1:(List (List Int)))(x5:Int):Nat→Int→Option (Except Int Unit)
 |0,_=>none
 |n+1,y6=>
  if y6 < x5 then((aO r1 y6).bind fun x8=>
  (aO x8 a2).bind fun x9=>
  if 0≤x9 then(some (.error y6)) else((ck (y6+1)).bind fun c=>
  fM k a2 r1 x5 n c)) else(some (.ok ()))
def ip(k:Nat)(a0:ag)(a1:Int)(a2:Int):Option Int:=
 (lI k a0 a1).bind fun r1=>
 bE (α:=Unit) ((ck ((a0.2.2.2.2.1.length:Int)+1)).bind fun x5=>
 fM k a2 r1 x5 k 0) (some) fun _=>
 some (-1:Int)
theorem li(k:Nat)(a0:ag)(c z_a0:Nat)(a1:Int)(a2:Int)(r:Int)(h:ip k a0 a1 a2=some r):
 bQ (dC Tryz.prog) 58 [Pt c,.eq (.int .u8 a1),I a2] [.obj c 123 (am a0 z_a0),.inv z_a0 (aL k a0)] (fun _:Unit=>(bv [I r],[.obj c 123 (am a0 z_a0),.inv z_a0 (aL k a0)])):=by
 unfold ip at h
 replace h:=aY h
 refine bQ.of 30 Tryz.func58 rfl Tryz.ntmps58 rfl fun S w0=>?_
 refine sr ?_
 refine cq ?_
 refine nt ?_
 refine sr ?_
 iterate 2 refine mq ?_
 obtain⟨r1,D,h⟩:=aa h
 have E:=eY k a0 c z_a0 a1 r1 D
 refine fr 1 ?_
 refine fr 1 ?_
 refine aD (Δ:=[_,_]) (F:=_) (fun _ _ _=>ab rfl _) rfl rfl (aJ [.tmp 9,.tmp 10] rfl rfl oH rfl E) ⟨rfl,rfl,trivial⟩ fun _=>?_
 refine aW rfl rfl rfl (bj rfl FN ID) trivial fun b2=>?_
 refine aR rfl rfl (aP rfl Gy rfl rfl rfl) ⟨rfl,rfl,trivial⟩ ?_
 refine eC (jw (t:=(.arr 7 Tr)) (x:=r1) [7] .rep ⟨rfl,trivial⟩) ?_
 refine nt ?_
 refine dx (Z:=Unit) (α:=Unit) (fun z4 x3=>[]) (fun z4 x3=>[.obj c 123 (am a0 z_a0),.inv z_a0 (aL k a0)]) (fun e=>e=r) h (fun e h=>Option.some.inj h) (fun K hR h=>?_) (fun z4 x3 h=>?_)
 ·
  refine au ?_;refine ja (cH rfl) ?_;refine fl gP ?_;refine fl eG ?_;refine lo lG ?_;refine ol AM ?_;obtain⟨x5,y,h⟩:=aa h;refine jb (bA rfl y) ?_;refine fa rfl ?_;refine nt (ak (aK (fun z7 y6=>[(2,I a2),(7,.at (.arr 7 Tr) r1),(18,I x5),(19,I y6)]) (fun z7 y6=>[.obj c 123 (am a0 z_a0),.inv z_a0 (aL k a0)]) (fM k a2 r1 x5) k () 0 (fun _=>rfl) h (SE.fin [0,1] ⟨rfl,rfl,rfl,rfl,trivial⟩ rfl) (fun n z7 y6 h=>?_)));unfold fM at h;refine sr (jb (bB rfl) ?_);refine au ?_;refine ci h (fun h=>?_) (fun h=>?_)
  ·refine au ?_;refine ak (au ?_);obtain⟨x8,u,h⟩:=aa h;refine jb (bZ (t:=Tr) rfl Cj gV u) ?_;obtain⟨x9,s,h⟩:=aa h;refine jb (bZ (t:=Ti) rfl An bV s) ?_;refine ja (av (t:=Ti) rfl bV rfl) ?_;refine jb (kx rfl) ?_;refine nt (ci h (fun h=>?_) (fun h=>?_))
   ·refine au ?_;obtain rfl:=hR _ h;exact aM () [_] 2 ⟨rfl,trivial⟩ rfl
   ·refine au ?_;refine ae ?_;obtain⟨l,j,h⟩:=aa h;refine jb (bA rfl j) ?_;refine au ?_;exact jz ((),l) h [0,1]
  ·refine au ?_;exact jz ((),()) h [0,1]
 ·
  refine au ?_;cases h;exact aM () [_] 2 ⟨rfl,trivial⟩ rfl
def kF(k:Nat)(a1:Int)(r3:(Option ag)×(List Int)×Int)(q4:ag):Nat→((List Int)×Int)→Option (List Int)
 |0,_=>none
 |n+1,y8=>
  if y8.2 < (r3.2.1.length:Int) then((((aO r3.2.1 y8.2).bind fun h=>
  (ip k q4 h a1).bind fun c=>
  if 0≤c then((cF (bK (List.length y8.1+List.length [c]))).bind fun _=>
  some (y8.1++[c])) else(some y8.1)):Option ((List Int))).bind fun j=>
  (ck (y8.2+1)).bind fun e=>
  kF k a1 r3 q4 n (j,e)) else(some y8.1)
def so(k:Nat)(a0:ag)(a1:Int):Option (fu×Int):=
 (iG k a0 [a1] ([]:(List Int)) ([]:(List Int))).bind fun r3=>
 fN r3.1 (if¬(r3.2.2=0) then(some ((0,0),r3.2.2)) else(none)) (fun q4=>if¬(r3.2.2=0) then(some ((0,0),r3.2.2)) else(((kF k a1 r3 q4 k (([]:(List Int)),0)):Option ((List Int))).bind fun x6=>
 if(x6.length:Int)=0 then(some ((0,0),11)) else((lK k x6).bind fun e=>
 (nW k x6).bind fun c=>
 some ((e,c),0))))
theorem xH(k:Nat)(a0:ag)(a1:Int)(r:fu×Int)(h:so k a0 a1=some r):
 bQ (dC Tryz.prog) 28 [.rep aj a0,I a1] [] (fun _:Unit=>(bv [.rep bI r.1,I r.2],[])):=by
 unfold so at h
 replace h:=aY h
 refine bQ.of 51 Tryz.func28 rfl Tryz.ntmps28 rfl fun S w0=>?_
 refine sr ?_
 refine bx fun b1=>?_
 refine aW rfl rfl rfl (bj rfl AN Q2) trivial fun b2=>?_
 refine cq ?_
 refine nt ?_
 refine sr ?_
 refine fr 1 ?_
 refine lo g9 ?_
 refine mq ?_
 refine ja (bg (t:=Ti) [(.tmp 15,_)] [a1] rfl rfl dG (.cons rfl .int .nil) rfl rfl) ?_
 obtain⟨r3,Y,h⟩:=aa h
 have s:=kD k a0 [a1] ([]:(List Int)) ([]:(List Int)) r3 Y
 rcases hr:r3.1 with _ |q4
 ·
  rw [hr] at h s;replace h:=u4 h;refine aD (Δ:=[]) (F:=_) (fun _ _ _=>ab rfl _) rfl rfl (bF (N:=[(.tmp 14,.rep aj a0),(.tmp 16,.rep Tl [a1]),(.const (.slice none 0 0),.eq (.slice none 0 0)),(.const (.slice none 0 0),.eq (.slice none 0 0))]) (aJ [.tmp 14,.tmp 16,.const (.slice none 0 0),.const (.slice none 0 0)] rfl rfl zO rfl s) fun _ _ _ hn=>⟨hn.1,hn.2.1,(aE (t:=Tl) (x:=([]:(List Int))) .nil rfl rfl hn.2.2.1),(aE (t:=Tl) (x:=([]:(List Int))) .nil rfl rfl hn.2.2.2.1),trivial⟩) ⟨rfl,rfl,rfl,rfl,trivial⟩ fun _=>?_;refine au ?_;refine jb (fh rfl) ?_;refine nt (cn h (fun h=>?_) (fun h=>?_))
  ·refine sr (bY rfl (dV [] rfl G3 AN Ag (jK trivial) rfl) trivial ?_);refine mq ?_;refine fr 1 ?_;refine aR rfl rfl (aP rfl vG trivial rfl rfl) ⟨rfl,rfl,trivial⟩ ?_;refine aq (nt (rx ?_));refine bL (iv (a:=.agg (.pair (I 0) (I 0))) (a':=.rep bI (0,0)) (jB (.agg (.pair .int .int)))) ?_;cases h;exact aM () [.rep bI (0,0),_] 0 ⟨⟨_,_,_,_,_,rfl,(.head _),vG,(qV),rfl⟩,rfl,trivial⟩ rfl
  ·cases h
 ·
  rw [hr] at h s;replace h:=uZ h;refine aD (Δ:=[]) (F:=_) (fun _ _ _=>ab rfl _) rfl rfl (bF (N:=[(.tmp 14,.rep aj a0),(.tmp 16,.rep Tl [a1]),(.const (.slice none 0 0),.eq (.slice none 0 0)),(.const (.slice none 0 0),.eq (.slice none 0 0))]) (aJ [.tmp 14,.tmp 16,.const (.slice none 0 0),.const (.slice none 0 0)] rfl rfl zO rfl s) fun _ _ _ hn=>⟨hn.1,hn.2.1,(aE (t:=Tl) (x:=([]:(List Int))) .nil rfl rfl hn.2.2.1),(aE (t:=Tl) (x:=([]:(List Int))) .nil rfl rfl hn.2.2.2.1),trivial⟩) ⟨rfl,rfl,rfl,rfl,trivial⟩ fun z5=>?_;refine au ?_;refine jb (fh rfl) ?_;refine nt (cn h (fun h=>?_) (fun h=>?_))
  ·refine sr (bY rfl (dV [] rfl G3 AN Ag (jK trivial) rfl) trivial ?_);refine mq ?_;refine fr 3 ?_;refine aR rfl rfl (aP rfl vG trivial rfl rfl) ⟨rfl,rfl,trivial⟩ ?_;refine aq (nt (rx ?_));refine bL (iv (a:=.agg (.pair (I 0) (I 0))) (a':=.rep bI (0,0)) (jB (.agg (.pair .int .int)))) ?_;cases h;exact aM () [.rep bI (0,0),_] 0 ⟨⟨_,_,_,_,_,rfl,(.head _),vG,(qV),rfl⟩,rfl,trivial⟩ rfl
  ·refine sk (sr (cq (nt ?_)));refine aI (Z:=Value) (α:=(List Int)) (fun z7 x6=>[(4,Pt b2),(9,.eq z7)]) (fun z7 x6=>[.obj b2 58 (.agg (.pair (I 0) (I 0))),.sl z7 3 Ti x6,.inv z5.2 (aL k q4)]) h (fun K h=>?_) (fun z7 x6 h=>?_)
   ·refine au ?_;refine ol vW ?_;refine fa rfl ?_;refine nt (ak (jf (SE.nil 3 Ti) ?_));refine aK (fun z9 y8=>[(1,I a1),(4,Pt b2),(6,.eq (.pointer (some ⟨z5.1,0,none⟩))),(9,.eq z9),(25,.rep (.slice (.int .u8)) r3.2.1),(26,I (r3.2.1.length:Int)),(27,I y8.2)]) (fun z9 y8=>[.obj b2 58 (.agg (.pair (I 0) (I 0))),.obj z5.1 123 (am q4 z5.2),.sl z9 3 Ti y8.1,.inv z5.2 (aL k q4)]) (kF k a1 r3 q4) k (.slice none 0 0) (([]:(List Int)),0) (fun _=>rfl) h (SE.fin [4,1,0,2] ⟨rfl,rfl,rfl,rfl,rfl,rfl,rfl,trivial⟩ rfl) (fun n z9 y8 h=>?_);unfold kF at h;refine sr (jb (bB rfl) ?_);refine au ?_;refine ci h (fun h=>?_) (fun h=>?_)
    ·refine sk (aI (Z:=Value) (α:=(List Int)) (fun c e=>[(1,I a1),(4,Pt b2),(6,.eq (.pointer (some ⟨z5.1,0,none⟩))),(9,.eq c),(25,.rep (.slice (.int .u8)) r3.2.1),(26,I (r3.2.1.length:Int)),(27,I y8.2)]) (fun c e=>[.obj b2 58 (.agg (.pair (I 0) (I 0))),.obj z5.1 123 (am q4 z5.2),.sl c 3 Ti e,.inv z5.2 (aL k q4)]) h (fun K h=>?_) (fun c e h=>?_))
     ·refine ak (sr ?_);obtain⟨U,D,h⟩:=aa h;refine jb (aS (t:=(.int .u8)) rfl vW l7 D) ?_;refine ja (av (t:=(.int .u8)) rfl l7 rfl) ?_;refine aq (nt (sr ?_));iterate 3 refine mq ?_
      obtain⟨u,O,h⟩:=aa h;refine fr 3 ?_;refine fr 2 ?_;refine aD (Δ:=[_,_]) (F:=_) (fun _ _ _=>ab rfl _) rfl rfl (aJ [.tmp 31,.tmp 32,.tmp 33] rfl rfl QH rfl (li k q4 z5.1 z5.2 U a1 u O)) ⟨rfl,rfl,rfl,trivial⟩ fun _=>?_;refine au ?_;refine jb (kx rfl) ?_;refine nt (ci h (fun h=>?_) (fun h=>?_))
      ·refine ae (au ?_);refine ja (bg (t:=Ti) [(.tmp 38,_)] [u] rfl rfl dG (.cons rfl .int .nil) rfl rfl) ?_;obtain⟨gq,E,h⟩:=aa h;refine fr 3 ?_;refine dU rfl rfl rfl (cj rfl rfl dG (ao E)) ⟨rfl,rfl,trivial⟩ fun X=>?_;refine au ?_;exact jz (X,y8.1++[u]) h [3,1,0,2]
      ·refine au ?_;exact jz (z9,y8.1) h [2,0,3,1]
     ·refine ae ?_;obtain⟨Q,y,h⟩:=aa h;refine jb (bA rfl y) ?_;refine au ?_;exact jz (c,(e,Q)) h [0,1,2,3]
    ·refine au ?_;exact jz (z9,y8.1) h [0,2,3]
   ·refine cg (sr (mq ?_));refine fr 1 ?_;refine ka (mA rfl rfl iu) ?_;refine jb (hP rfl) ?_;refine nt (ci h (fun h=>?_) (fun h=>?_))
    ·refine sr (bY rfl (dV [] rfl G3 AN Ag (jK trivial) rfl) trivial ?_);refine fr 1 ?_;refine aR rfl rfl (aP rfl vG trivial rfl rfl) ⟨rfl,rfl,trivial⟩ ?_;refine cq (nt (rx ?_));refine bL (iv (a:=.agg (.pair (I 0) (I 0))) (a':=.rep bI (0,0)) (jB (.agg (.pair .int .int)))) ?_;cases h;exact aM () [.rep bI (0,0),_] 0 ⟨⟨_,_,_,_,_,rfl,(.head _),vG,(qV),rfl⟩,rfl,trivial⟩ rfl
    ·refine au ?_;obtain⟨l,M,h⟩:=aa h;refine ka (lA (N:=[(.tmp 46,.eq z7)]) (ay [.tmp 46] rfl rfl QG rfl (nV k x6 l M)) (fun _ _ _ hv hn=>⟨(lend hn.1 hv),trivial⟩) (fun _=>⟨rfl,oD⟩)) ?_;refine mq ?_;obtain⟨j,J,h⟩:=aa h;refine ka (lA (N:=[(.tmp 48,.eq z7)]) (ay [.tmp 48] rfl rfl SY rfl (ud k x6 j J)) (fun _ _ _ hv hn=>⟨(lend hn.1 hv),trivial⟩) (fun _=>⟨rfl,oD⟩)) ?_;refine jb (dV [(0,.tmp 47,_),(1,.tmp 49,_)] rfl G3 AN Ag (jK ⟨rfl,rfl,trivial⟩) rfl) ?_;refine fr 1 ?_;refine aR rfl rfl (aP rfl vG trivial rfl rfl) ⟨rfl,rfl,trivial⟩ ?_;refine cq (nt (dw ?_));refine bL (iv (a:=.agg (.pair (I l) (I j))) (a':=.rep bI (l,j)) (jB (.agg (.pair .int .int)))) ?_;cases h;exact aM () [.rep bI (l,j),_] 0 ⟨⟨_,_,_,_,_,rfl,(.head _),vG,(qV),rfl⟩,rfl,trivial⟩ rfl
def f8(k:Nat)(r2:(List (List Int)))(y6:Int×Int×(List (eH×eH))):Nat→Int→Option Int
 |0,_=>none
 |n+1,c=>
  ((if 0 < c then((ck (c - 1)).bind fun l=>
  (aO r2 l).bind fun j=>
  (aO j y6.1).bind fun h=>
  some (decide (0≤h))) else(some false)):Option (Bool)).bind fun r=>
  if r=true then((ck (c - 1)).bind fun e=>
  f8 k r2 y6 n e) else(some c)
def f9(k:Nat)(a0:ag)(r2:(List (List Int))):Nat→(Int×Int×(List (eH×eH)))→Option (List (fu×fu))
 |0,_=>none
 |n+1,y6=>
  bE (α:=Int×Int×(List (eH×eH))) (((f8 k r2 y6 k y6.2.1):Option (Int)).bind fun c=>
  if c=0 then((cF (yR (y6.1,y6.2.1))).bind fun _=>
  some (.error (Bz y6.2.2 (y6.1,y6.2.1) ((-1:Int),0)))) else((ck (c - 1)).bind fun r=>
  (aO r2 r).bind fun l=>
  (ck (c - 1)).bind fun j=>
  (di k a0 l y6.1 j).bind fun h=>
  (ck (c - 1)).bind fun e=>
  (cF (yR (y6.1,y6.2.1))).bind fun _=>
  some (.ok (h,e,Bz y6.2.2 (y6.1,y6.2.1) (h,e))))) (some) fun x8=>
  f9 k a0 r2 n (x8.1,x8.2.1,x8.2.2)
def ll(k:Nat)(a0:ag)(a1:Int)(a2:fu):Option (List (fu×fu)):=
 (lI k a0 a1).bind fun r2=>
 f9 k a0 r2 k (a2.1,a2.2,([]:List (eH×eH)))
theorem qY(k:Nat)(a0:ag)(c z_a0:Nat)(a1:Int)(a2:fu)(r:(List (fu×fu)))(h:ll k a0 a1 a2=some r):
 bQ (dC Tryz.prog) 61 [Pt c,.eq (.int .u8 a1),.rep bI a2] [.obj c 123 (am a0 z_a0),.inv z_a0 (aL k a0)] (fun z:Nat=>(bv [.eq (.map (some z))],[.inv z (tq r),.obj c 123 (am a0 z_a0),.inv z_a0 (aL k a0)])):=by
 unfold ll at h
 replace h:=aY h
 refine bQ.of 56 Tryz.func61 rfl Tryz.ntmps61 rfl fun S w0=>?_
 refine sr ?_
 refine bx fun b1=>?_
 refine cq ?_
 refine nt ?_
 refine sr ?_
 iterate 2 refine mq ?_
 obtain⟨r2,UO,h⟩:=aa h
 have UP:=eY k a0 c z_a0 a1 r2 UO
 refine fr 2 ?_
 refine fr 2 ?_
 refine aD (Δ:=[_,_]) (F:=_) (fun _ _ _=>ab rfl _) rfl rfl (aJ [.tmp 12,.tmp 13] rfl rfl oH rfl UP) ⟨rfl,rfl,trivial⟩ fun _=>?_
 refine aW rfl rfl rfl (bj rfl FN ID) trivial fun b3=>?_
 refine aR rfl rfl (aP rfl Gy rfl rfl rfl) ⟨rfl,rfl,trivial⟩ ?_
 refine eC (jw (t:=(.arr 7 Tr)) (x:=r2) [7] .rep ⟨rfl,trivial⟩) ?_
 refine au ?_
 refine aW rfl rfl rfl (wz rfl) trivial fun z4=>?_
 refine eC (sW (tq []) JB) ?_
 refine au ?_
 refine aW rfl rfl rfl (bj rfl s5 Ah) trivial fun b5=>?_
 refine au ?_
 refine fl ya ?_
 refine aR rfl rfl (aP rfl bV rfl rfl rfl) ⟨rfl,rfl,trivial⟩ ?_
 refine nt ?_
 refine ak ?_
 refine dN 4 rfl ?_
 refine jf (iv (a:=.rep bI a2) (a':=.agg (.pair (I a2.1) (I a2.2))) (AE.trans Ej (AE.agg (AE.trans AA (AE.pair AE.int AE.int))))) ?_
 refine aK (fun z7 y6=>[(0,Pt c),(5,Pt b1),(7,.at (.arr 7 Tr) r2),(8,.eq (.map (some z4))),(9,Pt b5)]) (fun z7 y6=>[.obj c 123 (am a0 z_a0),.obj b1 100 (.agg (.pair (I y6.1) (I y6.2.1))),.obj b5 100 (.agg (.pair (I (-1:Int)) (I 0))),.inv z_a0 (aL k a0),.inv z4 (tq y6.2.2)]) (f9 k a0 r2) k () (a2.1,a2.2,([]:List (eH×eH))) (fun _=>rfl) h (SE.fin [3,0,1,4,2] ⟨rfl,rfl,rfl,rfl,rfl,trivial⟩ rfl) (fun n z7 y6 h=>?_)
 unfold f9 at h
 refine I6 (Z:=Unit) (α:=Int×Int×(List (eH×eH))) (fun z9 x8=>[(0,Pt c),(5,Pt b1),(7,.at (.arr 7 Tr) r2),(8,.eq (.map (some z4))),(9,Pt b5)]) (fun z9 x8=>[.obj c 123 (am a0 z_a0),.obj b1 100 (.agg (.pair (I x8.1) (I x8.2.1))),.obj b5 100 (.agg (.pair (I (-1:Int)) (I 0))),.inv z_a0 (aL k a0),.inv z4 (tq x8.2.2)]) (fun e=>e=r) h (fun e h=>Option.some.inj h) (fun K hR h=>?_) (fun z9 x8 h=>?_)
 ·
  refine ak (sr (fl K9 ?_));refine fr 1 ?_;refine lo bV ?_;refine aq (nt ?_);refine aI (Z:=Unit) (α:=Int) (fun O D=>[(0,Pt c),(5,Pt b1),(7,.at (.arr 7 Tr) r2),(8,.eq (.map (some z4))),(9,Pt b5),(10,I D)]) (fun O D=>[.obj c 123 (am a0 z_a0),.obj b1 100 (.agg (.pair (I y6.1) (I y6.2.1))),.obj b5 100 (.agg (.pair (I (-1:Int)) (I 0))),.inv z_a0 (aL k a0),.inv z4 (tq y6.2.2)]) h (fun K h=>?_) (fun O D h=>?_)
  ·refine ak (aK (fun M s=>[(0,Pt c),(5,Pt b1),(7,.at (.arr 7 Tr) r2),(8,.eq (.map (some z4))),(9,Pt b5),(10,I s)]) (fun M s=>[.obj c 123 (am a0 z_a0),.obj b1 100 (.agg (.pair (I y6.1) (I y6.2.1))),.obj b5 100 (.agg (.pair (I (-1:Int)) (I 0))),.inv z_a0 (aL k a0),.inv z4 (tq y6.2.2)]) (f8 k r2 y6) k () y6.2.1 (fun _=>rfl) h (SE.fin [1,0,2,3,4] ⟨rfl,rfl,rfl,rfl,rfl,rfl,trivial⟩ rfl) (fun n M s h=>?_));unfold f8 at h;refine cg (aI (Z:=Unit) (α:=Bool) (fun J y=>[(0,Pt c),(5,Pt b1),(7,.at (.arr 7 Tr) r2),(8,.eq (.map (some z4))),(9,Pt b5),(10,I s),(30,.eq (.bool y))]) (fun J y=>[.obj c 123 (am a0 z_a0),.obj b1 100 (.agg (.pair (I y6.1) (I y6.2.1))),.obj b5 100 (.agg (.pair (I (-1:Int)) (I 0))),.inv z_a0 (aL k a0),.inv z4 (tq y6.2.2)]) h (fun K h=>?_) (fun J y h=>?_))
   ·refine cK ?_;refine dm ?_;refine db (nB rfl) ?_;refine t3 rfl rfl rfl (bz rfl) ⟨rfl,trivial⟩ (fun hb=>?_) (fun hb=>?_)
    ·replace h:=fe (tU hb) h;refine cz rfl rfl rfl rfl rfl (bz rfl) ⟨rfl,rfl,trivial⟩ ?_;obtain⟨UX,Ux,h⟩:=aa h;refine cz rfl rfl rfl rfl rfl (d4 rfl Ux) ⟨rfl,rfl,rfl,trivial⟩ ?_;refine cz rfl rfl rfl rfl rfl (aG rfl ya) ⟨rfl,rfl,trivial⟩ ?_;refine gR 1 rfl rfl rfl rfl rfl rfl (aA rfl bV nJ rfl) ⟨rfl,rfl,trivial⟩ ?_;obtain⟨UW,Uw,h⟩:=aa h;refine cz rfl rfl rfl rfl rfl (bZ (t:=Tr) rfl Cj gV Uw) ⟨rfl,rfl,rfl,trivial⟩ ?_;refine df dW ?_;obtain⟨UE,Uu,h⟩:=aa h;refine gb (bZ (t:=Ti) rfl An bV Uu) ?_;refine ga (av (t:=Ti) rfl bV rfl) ?_;refine gb (kx rfl) ?_;refine au ?_;exact jz ((),decide (0≤UE)) h [0,1,2,3,4]
    ·replace h:=cS (tV hb) h;iterate 5 refine dg ?_
     refine df dW ?_;refine au ?_;exact jz ((),false) h [0,1,2,3,4]
   ·refine cv h (fun h=>?_) (fun h=>?_)
    ·refine sk (ak (ae (mq ?_)));obtain⟨UD,zz,h⟩:=aa h;refine jb (d4 rfl zz) ?_;refine au ?_;exact jz ((),UD) h [0,1,2,3,4]
    ·refine au ?_;exact jz ((),s) h [0,1,2,3,4]
  ·refine au ?_;refine jb (hP rfl) ?_;refine nt (ci h (fun h=>?_) (fun h=>?_))
   ·refine sr (mq ?_);refine fr 1 ?_;refine lo jJ ?_;refine fr 2 ?_;refine lo jJ ?_;refine eC (eA (t:=bI) (x:=(y6.1,y6.2.1)) 36 rfl (.agg (.pair .int .int)) trivial rfl) ?_;obtain⟨Vi,Uz,h⟩:=aa h;refine eC (eA (t:=bI) (x:=((-1:Int),0)) 37 rfl (.agg (.pair .int .int)) trivial rfl) ?_;refine fr 4 ?_;refine aR rfl rfl (qQ (K:=kT) (V:=kT) (t:=(y6.1,y6.2.1)) (n:=((-1:Int),0)) (l:=y6.2.2) (fun _ _ _ h=>mU h) rfl Fe ml (fun _ _ _ h=>mU h) (qG (ao Uz)) (qF _) qH) ⟨rfl,rfl,rfl,trivial⟩ ?_;refine nt (sr (mq ?_));refine aq (nt (rx (br (oO ?_))));refine bL (SE.fin (Γ':=[(6,_)]) [0,3,4,1,2] ⟨rfl,trivial⟩ rfl) ?_;obtain rfl:=hR _ h;exact aM z4 [.eq (.map (some z4))] 3 ⟨rfl,trivial⟩ rfl
   ·refine au ?_;refine rJ ?_;refine bJ rfl rfl rfl (bz rfl) ⟨rfl,trivial⟩ ?_;refine bJ rfl rfl rfl (bz rfl) ⟨rfl,trivial⟩ ?_;obtain⟨UV,qt,h⟩:=aa h;refine bJ rfl rfl rfl (d4 rfl qt) ⟨rfl,rfl,trivial⟩ ?_;obtain⟨UC,mw,h⟩:=aa h;refine bJ rfl rfl rfl (bZ (t:=Tr) rfl Cj gV mw) ⟨rfl,rfl,trivial⟩ ?_;refine bJ rfl rfl rfl (av (t:=Tr) rfl gV rfl) ⟨rfl,trivial⟩ ?_;refine bJ rfl rfl rfl (aG rfl ya) ⟨rfl,trivial⟩ ?_;refine g7 1 rfl rfl rfl rfl (aA rfl bV nJ rfl) ⟨rfl,trivial⟩ ?_;refine bJ rfl rfl rfl (bz rfl) ⟨rfl,trivial⟩ ?_;obtain⟨UB,mc,h⟩:=aa h;refine bJ rfl rfl rfl (d4 rfl mc) ⟨rfl,rfl,trivial⟩ ?_;obtain⟨j,UA,h⟩:=aa h;refine g7 0 rfl rfl rfl rfl (ay [.tmp 39,.tmp 43,.tmp 45,.tmp 47] rfl rfl Qz rfl (nK k a0 c z_a0 UC y6.1 UB j UA)) ⟨rfl,rfl,rfl,rfl,trivial⟩ ?_;refine bJ rfl rfl rfl (bz rfl) ⟨rfl,trivial⟩ ?_;obtain⟨u,gw,h⟩:=aa h;refine bJ rfl rfl rfl (d4 rfl gw) ⟨rfl,rfl,trivial⟩ ?_;refine bJ rfl rfl rfl (dV [(0,.tmp 48,_),(1,.tmp 50,_)] rfl G4 s5 Ce (jK ⟨rfl,rfl,trivial⟩) rfl) ⟨rfl,rfl,trivial⟩ ?_;refine L8 (NW 100 (.agg (.pair (I 0) (I 0)))) (fun _=>rfl) rfl rfl rfl (bj rfl s5 Ah) trivial ?_;refine vt 14 [true,true,true,true,true,true,true,true,true,true,true,true,true,true] [] [] [] rfl (by kernel_rfl) (by kernel_rfl) (by kernel_rfl) dW (fun vs hv hB=>?_);obtain⟨w0,Vg,rfl,UN⟩:=aC hv;obtain⟨w1,Vf,rfl,UM⟩:=aC UN;obtain⟨w2,Ve,rfl,UL⟩:=aC UM;obtain⟨w3,Vb,rfl,UK⟩:=aC UL;obtain⟨w4,Va,rfl,UJ⟩:=aC UK;obtain⟨w5,U8,rfl,UI⟩:=aC UJ;obtain⟨w6,U7,rfl,UH⟩:=aC UI;obtain⟨w7,U6,rfl,UG⟩:=aC UH;obtain⟨w8,U2,rfl,UF⟩:=aC UG;obtain⟨w9,UU,rfl,gq⟩:=aC UF;obtain⟨U1,UT,rfl,Y⟩:=aC gq;obtain⟨U0,US,rfl,X⟩:=aC Y;obtain⟨UZ,UR,rfl,U⟩:=aC X;obtain⟨UY,UQ,rfl,Q⟩:=aC U;obtain rfl:=ri Q;obtain⟨E,rfl⟩:=NV hB.2.2.2.2.2.2.2.2.2.2.2.2.2.1;refine⟨[0,1,2,3,4,5],[.obj c 123 (am a0 z_a0),.obj b1 100 (.agg (.pair (I y6.1) (I y6.2.1))),.obj b5 100 (.agg (.pair (I (-1:Int)) (I 0))),.inv z_a0 (aL k a0),.inv z4 (tq y6.2.2),.obj E 100 (.agg (.pair (I 0) (I 0)))],by kernel_rfl,by decide,?_⟩;refine rH 5 rfl ?_;refine sX rfl rfl (aP rfl jJ trivial rfl rfl) ⟨rfl,rfl,trivial⟩ (by kernel_rfl) ?_;refine yr ?_;refine bL (SE.fin (Γ':=[(0,Pt c),(5,Pt b1),(7,.at (.arr 7 Tr) r2),(8,.eq (.map (some z4))),(9,Pt b5),(11,Pt E)]) (Δ':=[.obj E 100 (.agg (.pair (I j) (I u))),.obj c 123 (am a0 z_a0),.obj b1 100 (.agg (.pair (I y6.1) (I y6.2.1))),.obj b5 100 (.agg (.pair (I (-1:Int)) (I 0))),.inv z_a0 (aL k a0),.inv z4 (tq y6.2.2)]) [0,1,2,3,4,5] ⟨rfl,rfl,rfl,rfl,rfl,rfl,trivial⟩ rfl) ?_;refine tn (sr (mq ?_));refine fr 2 ?_;refine lo jJ ?_;refine fr 1 ?_;refine lo jJ ?_;refine eC (eA (t:=bI) (x:=(y6.1,y6.2.1)) 53 rfl (.agg (.pair .int .int)) trivial rfl) ?_;obtain⟨Vh,Uy,h⟩:=aa h;refine eC (eA (t:=bI) (x:=(j,u)) 54 rfl (.agg (.pair .int .int)) trivial rfl) ?_;refine fr 5 ?_;refine aR rfl rfl (qQ (K:=kT) (V:=kT) (t:=(y6.1,y6.2.1)) (n:=(j,u)) (l:=y6.2.2) (fun _ _ _ h=>mU h) rfl Fe ml (fun _ _ _ h=>mU h) (qG (ao Uy)) (qF _) qH) ⟨rfl,rfl,rfl,trivial⟩ ?_
    refine nt (ae (fr 1 ?_));refine lo jJ ?_;refine fr 2 ?_;refine aR rfl rfl (aP rfl jJ trivial rfl rfl) ⟨rfl,rfl,trivial⟩ ?_;refine au ?_;exact jz ((),(j,u,Bz y6.2.2 (y6.1,y6.2.1) (j,u))) h [3,0,4,5,2]
 ·
  refine ax ?_;exact jz ((),(x8.1,x8.2.1,x8.2.2)) h [0,1,2,3,4]
def kG(k:Nat)(r7:(List (fu×fu))):Nat→(Int×Int×(List Int))→Option (List Int)
 |0,_=>none
 |n+1,c=>
  (cF (yR (c.1,c.2.1))).bind fun _=>
  if¬((ni r7 (c.1,c.2.1) (0,0))=((-1:Int),0)) then((cF (yR (c.1,c.2.1))).bind fun _=>
  (cF (bK (List.length c.2.2+List.length [(ni r7 (c.1,c.2.1) (0,0)).1]))).bind fun _=>
  (cF (yR (c.1,c.2.1))).bind fun _=>
  kG k r7 n ((ni r7 (c.1,c.2.1) (0,0)).1,(ni r7 (c.1,c.2.1) (0,0)).2,c.2.2++[(ni r7 (c.1,c.2.1) (0,0)).1])) else(some c.2.2)
def sq(k:Nat)(a0:ag)(a1:(List Int))(a2:Int):Option ((List Int)×Int):=
 (jN k a0 a1 [a2] ([]:(List Int)) ([]:(List Int))).bind fun r2=>
 fN r2.1 (if¬(r2.2.2=0) then(some (([]:(List Int)),r2.2.2)) else(none)) (fun q3=>if¬(r2.2.2=0) then(some (([]:(List Int)),r2.2.2)) else((ip k q3 r2.2.1 a2).bind fun r5=>
 if r5 < 0 then(some (([]:(List Int)),11)) else((ll k q3 r2.2.1 (a2,r5)).bind fun r7=>
 ((kG k r7 k (a2,r5,[a2])):Option ((List Int))).bind fun c=>
 (kg k c).bind fun e=>
 some (e,0))))
theorem xJ(k:Nat)(a0:ag)(a1:(List Int))(a2:Int)(r:(List Int)×Int)(h:sq k a0 a1 a2=some r):
 bQ (dC Tryz.prog) 29 [.rep aj a0,.rep Tl a1,I a2] [] (fun _:Unit=>(bv [.rep Tl r.1,I r.2],[])):=by
 unfold sq at h
 replace h:=aY h
 refine bQ.of 64 Tryz.func29 rfl Tryz.ntmps29 rfl fun S w0=>?_
 refine sr ?_
 refine bx fun b1=>?_
 refine au ?_
 refine lo g9 ?_
 refine au ?_
 refine ja (bg (t:=Ti) [(.tmp 19,_)] [a2] rfl rfl dG (.cons rfl .int .nil) rfl rfl) ?_
 obtain⟨r2,Y,h⟩:=aa h
 have u:=lP k a0 a1 [a2] ([]:(List Int)) ([]:(List Int)) r2 Y
 rcases hr:r2.1 with _ |q3
 ·
  rw [hr] at h u;replace h:=u4 h;refine aD (Δ:=[]) (F:=_) (fun _ _ _=>ab rfl _) rfl rfl (bF (N:=[(.tmp 17,.rep aj a0),(.tmp 18,.rep Tl a1),(.tmp 20,.rep Tl [a2]),(.const (.slice none 0 0),.eq (.slice none 0 0)),(.const (.slice none 0 0),.eq (.slice none 0 0))]) (aJ [.tmp 17,.tmp 18,.tmp 20,.const (.slice none 0 0),.const (.slice none 0 0)] rfl rfl zP rfl u) fun _ _ _ hn=>⟨hn.1,hn.2.1,hn.2.2.1,(aE (t:=Tl) (x:=([]:(List Int))) .nil rfl rfl hn.2.2.2.1),(aE (t:=Tl) (x:=([]:(List Int))) .nil rfl rfl hn.2.2.2.2.1),trivial⟩) ⟨rfl,rfl,rfl,rfl,rfl,trivial⟩ fun _=>?_;refine au ?_;refine jb (fh rfl) ?_;refine nt (cn h (fun h=>?_) (fun h=>?_))
  ·refine sr (mq ?_);refine cq ?_;refine aq (nt (rx ?_));refine bL (eA (t:=Tl) (x:=([]:(List Int))) 6 rfl .nil rfl rfl) ?_;cases h;exact rb
  ·cases h
 ·
  rw [hr] at h u;replace h:=uZ h;refine aD (Δ:=[]) (F:=_) (fun _ _ _=>ab rfl _) rfl rfl (bF (N:=[(.tmp 17,.rep aj a0),(.tmp 18,.rep Tl a1),(.tmp 20,.rep Tl [a2]),(.const (.slice none 0 0),.eq (.slice none 0 0)),(.const (.slice none 0 0),.eq (.slice none 0 0))]) (aJ [.tmp 17,.tmp 18,.tmp 20,.const (.slice none 0 0),.const (.slice none 0 0)] rfl rfl zP rfl u) fun _ _ _ hn=>⟨hn.1,hn.2.1,hn.2.2.1,(aE (t:=Tl) (x:=([]:(List Int))) .nil rfl rfl hn.2.2.2.1),(aE (t:=Tl) (x:=([]:(List Int))) .nil rfl rfl hn.2.2.2.2.1),trivial⟩) ⟨rfl,rfl,rfl,rfl,rfl,trivial⟩ fun z4=>?_;refine au ?_;refine jb (fh rfl) ?_;refine nt (cn h (fun h=>?_) (fun h=>?_))
  ·refine sr (mq ?_);refine cq ?_;refine aq (nt (rx ?_));refine bL (eA (t:=Tl) (x:=([]:(List Int))) 6 rfl .nil rfl rfl) ?_;cases h;exact rb
  ·refine sk (sr ?_);iterate 3 refine mq ?_
   obtain⟨r5,X,h⟩:=aa h;refine fr 1 ?_;refine fr 1 ?_;refine aD (Δ:=[_,_]) (F:=_) (fun _ _ _=>ab rfl _) rfl rfl (aJ [.tmp 28,.tmp 29,.tmp 30] rfl rfl QH rfl (li k q3 z4.1 z4.2 r2.2.1 a2 r5 X)) ⟨rfl,rfl,rfl,trivial⟩ fun _=>?_;refine au ?_;refine jb (bB rfl) ?_;refine nt (ci h (fun h=>?_) (fun h=>?_))
   ·refine sr (cq ?_);refine cq (nt (rx ?_));refine bL (eA (t:=Tl) (x:=([]:(List Int))) 6 rfl .nil rfl rfl) ?_;cases h;exact rb
   ·refine au ?_;refine jb (dV [(0,.tmp 34,_),(1,.tmp 35,_)] rfl G4 s5 Ce (jK ⟨rfl,rfl,trivial⟩) rfl) ?_;refine aW rfl rfl rfl (bj rfl s5 Ah) trivial fun b6=>?_;refine aR rfl rfl (aP rfl jJ trivial rfl rfl) ⟨rfl,rfl,trivial⟩ ?_;refine au ?_;refine lo jJ ?_;obtain⟨r7,U,h⟩:=aa h;refine fr 2 ?_;refine fr 2 ?_;refine aD (Δ:=[_,_]) (F:=_) (fun _ _ _=>ab rfl _) rfl rfl (bF (N:=[(.tmp 37,.eq (.pointer (some ⟨z4.1,0,none⟩))),(.tmp 38,.eq (.int .u8 r2.2.1)),(.tmp 39,.agg (.pair (I a2) (I r5)))]) (aJ [.tmp 37,.tmp 38,.tmp 39] rfl rfl SX rfl (qY k q3 z4.1 z4.2 r2.2.1 (a2,r5) r7 U)) fun _ _ _ hn=>⟨hn.1,hn.2.1,(aE (t:=bI) (x:=(a2,r5)) (.agg (.pair .int .int)) trivial rfl hn.2.2.1),trivial⟩) ⟨rfl,rfl,rfl,trivial⟩ fun z8=>?_;refine au ?_;refine aW rfl rfl rfl (jk (t:=Ti) [(.tmp 41,_)] [a2] rfl rfl dG (.cons rfl .int .nil) rfl rfl) ⟨rfl,trivial⟩ fun v9=>?_;refine aq (nt ?_);refine aI (Z:=Value) (α:=(List Int)) (fun j s=>[(13,.eq (.map (some z8))),(14,.eq j)]) (fun j s=>[.sl j 3 Ti s,.inv z4.2 (aL k q3),.inv z8 (tq r7)]) h (fun K h=>?_) (fun j s h=>?_)
    ·refine sr (ja (dV [(0,.const (.int .i64 (-1)),_)] rfl G4 s5 Ce (jK ⟨rfl,trivial⟩) rfl) ?_);refine aW rfl rfl rfl (bj rfl s5 Ah) trivial fun gw=>?_;refine aR rfl rfl (aP rfl jJ trivial rfl rfl) ⟨rfl,rfl,trivial⟩ ?_;refine nt (ak (aK (fun e c=>[(12,Pt b6),(13,.eq (.map (some z8))),(14,.eq e.1),(15,.eq (.pointer (some ⟨e.2,0,none⟩)))]) (fun e c=>[.obj b6 100 (.agg (.pair (I c.1) (I c.2.1))),.sl e.1 3 Ti c.2.2,.obj e.2 100 (.agg (.pair (I (-1:Int)) (I 0))),.inv z4.2 (aL k q3),.inv z8 (tq r7)]) (kG k r7) k (v9,gw) (a2,r5,[a2]) (fun _=>rfl) h (SE.fin [5,1,0,4,2] ⟨rfl,rfl,rfl,rfl,trivial⟩ rfl) (fun n e c h=>?_)));unfold kG at h;refine au ?_;refine cK ?_;refine dm ?_;refine ea 0 (aA rfl jJ (qV) rfl) ?_;obtain⟨qt,J,h⟩:=aa h;refine eb 4 (bF (N:=[(.tmp 44,.eq (.map (some z8))),(.tmp 45,.agg (.pair (I c.1) (I c.2.1)))]) (rV (K:=kT) (V:=kT) (t:=(c.1,c.2.1)) (l:=r7) (fun n=>.rep bI n) t7 rfl Fe (0,0) t6 ml (fun _ _ _ h=>mU h) (qG (ao J)) (qF _) qH) fun _ _ _ hn=>⟨hn.1,(aE (t:=bI) (x:=(c.1,c.2.1)) (.agg (.pair .int .int)) trivial rfl hn.2.1),trivial⟩) ?_;refine ea 2 (aA rfl jJ (qV) rfl) ?_;refine df dW ?_;refine eC (eA (t:=bI) (x:=((-1:Int),0)) 47 rfl (.agg (.pair .int .int)) trivial rfl) ?_;refine jb (N5 rfl Qw rfl) ?_;refine nt (cn h (fun h=>?_) (fun h=>?_))
     ·refine au ?_;refine ak (ae (au ?_));refine lo jJ ?_;refine eC (eA (t:=bI) (x:=(c.1,c.2.1)) 54 rfl (.agg (.pair .int .int)) trivial rfl) ?_;obtain⟨u16,E,h⟩:=aa h;refine fr 4 ?_;refine kb (bF (N:=[(.tmp 53,.eq (.map (some z8))),(.tmp 54,.rep bI (c.1,c.2.1))]) (rV (K:=kT) (V:=kT) (t:=(c.1,c.2.1)) (l:=r7) (fun n=>.rep bI n) t7 rfl Fe (0,0) t6 ml (fun _ _ _ h=>mU h) (qG (ao E)) (qF _) qH) fun _ _ _ hn=>⟨hn.1,hn.2.1,trivial⟩) ?_;refine ja (Kr rfl TL rfl bV (fun _=>rfl) rfl rfl rfl) ?_;refine ja (bg (t:=Ti) [(.tmp 56,_)] [(ni r7 (c.1,c.2.1) (0,0)).1] rfl rfl dG (.cons rfl .int .nil) rfl rfl) ?_;obtain⟨mw,D,h⟩:=aa h;refine fr 2 ?_;refine dU rfl rfl rfl (cj rfl rfl dG (ao D)) ⟨rfl,rfl,trivial⟩ fun O=>?_;refine aq (be (gC (tn (cg (sr ?_)))));refine fr 3 ?_;refine lo jJ ?_;refine nt (ae (aW rfl rfl rfl (bj rfl s5 Ah) trivial fun gq=>?_));refine aR rfl rfl (aP rfl jJ trivial rfl rfl) ⟨rfl,rfl,trivial⟩ ?_;refine nt (ae (mq ?_));refine fr 4 ?_;refine lo jJ ?_;refine eC (eA (t:=bI) (x:=(c.1,c.2.1)) 50 rfl (.agg (.pair .int .int)) trivial rfl) ?_;obtain⟨mc,y,h⟩:=aa h;refine fr 4 ?_;refine kb (bF (N:=[(.tmp 49,.eq (.map (some z8))),(.tmp 50,.rep bI (c.1,c.2.1))]) (rV (K:=kT) (V:=kT) (t:=(c.1,c.2.1)) (l:=r7) (fun n=>.rep bI n) t7 rfl Fe (0,0) t6 ml (fun _ _ _ h=>mU h) (qG (ao y)) (qF _) qH) fun _ _ _ hn=>⟨hn.1,hn.2.1,trivial⟩) ?_;refine fr 1 ?_;refine aR rfl rfl (aP rfl jJ rfl rfl rfl) ⟨rfl,rfl,trivial⟩ ?_;refine nl (bL (iv (a:=.rep bI (ni r7 (c.1,c.2.1) (0,0))) (a':=.agg (.pair (I ((ni r7 (c.1,c.2.1) (0,0)).1)) (I ((ni r7 (c.1,c.2.1) (0,0)).2)))) (AE.trans Ej (AE.agg (AE.trans AA (AE.pair AE.int AE.int))))) ?_);exact jz ((O,gq),((ni r7 (c.1,c.2.1) (0,0)).1,(ni r7 (c.1,c.2.1) (0,0)).2,c.2.2++[(ni r7 (c.1,c.2.1) (0,0)).1])) h [0,4,2,5,1]
     ·refine au ?_;exact jz (e.1,c.2.2) h [1,3,4]
    ·refine sr (mq ?_);refine fr 2 ?_;refine aR rfl rfl (Hj rfl rfl Fe) ⟨rfl,trivial⟩ ?_;refine nt (sr (mq ?_));obtain⟨Q,M,h⟩:=aa h;refine fr 1 ?_;refine ka (ay [.tmp 61] rfl rfl SV rfl (pP k s j Q M)) ?_;refine nt (sr (mq ?_));refine aq ?_;refine cq (nt (dw ?_));refine bL (gZ [6,14,61,63] ⟨rfl,rfl,rfl,rfl,trivial⟩) ?_;cases h;exact rb
def lQ(k:Nat)(a0:ag)(a1:Int)(r2:(Option ag)×(List Int)×Int)(q3:ag)(y7:(List Int)×Int):Nat→(Int×Int)→Option Int
 |0,_=>none
 |n+1,c=>
  if c.2 < (r2.2.1.length:Int) then((((aO r2.2.1 c.2).bind fun r=>
  (lI k q3 r).bind fun u=>
  (aO u a1).bind fun l=>
  (aO l y7.2).bind fun j=>
  if a0.2.2.1≤j then((ck (c.1+1)).bind fun h=>
  some h) else(some c.1)):Option (Int)).bind fun s=>
  (ck (c.2+1)).bind fun e=>
  lQ k a0 a1 r2 q3 y7 n (s,e)) else(some c.1)
def lR(k:Nat)(a0:ag)(a1:Int)(r2:(Option ag)×(List Int)×Int)(q3:ag):Nat→((List Int)×Int)→Option (List Int)
 |0,_=>none
 |n+1,y7=>
  if y7.2 < a0.1 then(((((lQ k a0 a1 r2 q3 y7 k (0,0)):Option (Int)).bind fun c=>
  (ck ((r2.2.1.length:Int) - c)).bind fun e=>
  (cF (bK (List.length y7.1+List.length [sF c e]))).bind fun _=>
  some (y7.1++[sF c e])):Option ((List Int))).bind fun x9=>
  (ck (y7.2+1)).bind fun h=>
  lR k a0 a1 r2 q3 n (x9,h)) else(some y7.1)
def uE(k:Nat)(a0:ag)(a1:Int):Option (Int×Int×Int):=
 (iG k a0 ([]:(List Int)) ([]:(List Int)) [a1]).bind fun r2=>
 fN r2.1 (if¬(r2.2.2=0) then(some (0,0,r2.2.2)) else(none)) (fun q3=>if¬(r2.2.2=0) then(some (0,0,r2.2.2)) else(((lR k a0 a1 r2 q3 k (([]:(List Int)),0)):Option ((List Int))).bind fun x5=>
 (lK k x5).bind fun c=>
 if(r2.2.1.length:Int)≤c then(some (0,0,11)) else((fY k x5 c).bind fun e=>
 some (e,c,0))))
theorem zp(k:Nat)(a0:ag)(a1:Int)(r:Int×Int×Int)(h:uE k a0 a1=some r):
 bQ (dC Tryz.prog) 30 [.rep aj a0,I a1] [] (fun _:Unit=>(bv [I r.1,I r.2.1,I r.2.2],[])):=by
 unfold uE at h
 replace h:=aY h
 refine bQ.of 71 Tryz.func30 rfl Tryz.ntmps30 rfl fun S w0=>?_
 refine sr ?_
 refine bx fun b1=>?_
 refine au ?_
 refine lo g9 ?_
 refine mq ?_
 refine ja (bg (t:=Ti) [(.tmp 18,_)] [a1] rfl rfl dG (.cons rfl .int .nil) rfl rfl) ?_
 obtain⟨r2,UG,h⟩:=aa h
 have X:=kD k a0 ([]:(List Int)) ([]:(List Int)) [a1] r2 UG
 rcases hr:r2.1 with _ |q3
 ·
  rw [hr] at h X;replace h:=u4 h;refine aD (Δ:=[]) (F:=_) (fun _ _ _=>ab rfl _) rfl rfl (bF (N:=[(.tmp 17,.rep aj a0),(.const (.slice none 0 0),.eq (.slice none 0 0)),(.const (.slice none 0 0),.eq (.slice none 0 0)),(.tmp 19,.rep Tl [a1])]) (aJ [.tmp 17,.const (.slice none 0 0),.const (.slice none 0 0),.tmp 19] rfl rfl zO rfl X) fun _ _ _ hn=>⟨hn.1,(aE (t:=Tl) (x:=([]:(List Int))) .nil rfl rfl hn.2.1),(aE (t:=Tl) (x:=([]:(List Int))) .nil rfl rfl hn.2.2.1),hn.2.2.2.1,trivial⟩) ⟨rfl,rfl,rfl,rfl,trivial⟩ fun _=>?_;refine au ?_;refine jb (fh rfl) ?_;refine nt (cn h (fun h=>?_) (fun h=>?_))
  ·refine au ?_;cases h;exact aM () [_,_,_] 0 ⟨rfl,rfl,rfl,trivial⟩ rfl
  ·cases h
 ·
  rw [hr] at h X;replace h:=uZ h;refine aD (Δ:=[]) (F:=_) (fun _ _ _=>ab rfl _) rfl rfl (bF (N:=[(.tmp 17,.rep aj a0),(.const (.slice none 0 0),.eq (.slice none 0 0)),(.const (.slice none 0 0),.eq (.slice none 0 0)),(.tmp 19,.rep Tl [a1])]) (aJ [.tmp 17,.const (.slice none 0 0),.const (.slice none 0 0),.tmp 19] rfl rfl zO rfl X) fun _ _ _ hn=>⟨hn.1,(aE (t:=Tl) (x:=([]:(List Int))) .nil rfl rfl hn.2.1),(aE (t:=Tl) (x:=([]:(List Int))) .nil rfl rfl hn.2.2.1),hn.2.2.2.1,trivial⟩) ⟨rfl,rfl,rfl,rfl,trivial⟩ fun z4=>?_;refine au ?_;refine jb (fh rfl) ?_;refine nt (cn h (fun h=>?_) (fun h=>?_))
  ·refine au ?_;cases h;exact aM () [_,_,_] 0 ⟨rfl,rfl,rfl,trivial⟩ rfl
  ·refine sk (sr (cq (nt ?_)));refine aI (Z:=Value) (α:=(List Int)) (fun z6 x5=>[(8,.rep (.slice (.int .u8)) r2.2.1),(10,.eq z6)]) (fun z6 x5=>[.sl z6 3 Ti x5,.inv z4.2 (aL k q3)]) h (fun K h=>?_) (fun z6 x5 h=>?_)
   ·refine sr (fl gX ?_);refine fr 2 ?_;refine lo bV ?_;refine fa rfl ?_;refine nt (ak (jf (SE.nil 3 Ti) ?_));refine aK (fun z8 y7=>[(1,I a1),(2,Pt b1),(7,.eq (.pointer (some ⟨z4.1,0,none⟩))),(8,.rep (.slice (.int .u8)) r2.2.1),(10,.eq z8),(28,I a0.1),(29,I y7.2)]) (fun z8 y7=>[.obj b1 25 (.rep aj a0),.obj z4.1 123 (am q3 z4.2),.sl z8 3 Ti y7.1,.inv z4.2 (aL k q3)]) (lR k a0 a1 r2 q3) k (.slice none 0 0) (([]:(List Int)),0) (fun _=>rfl) h (SE.fin [1,2,0,3] ⟨rfl,rfl,rfl,rfl,rfl,rfl,rfl,trivial⟩ rfl) (fun n z8 y7 h=>?_);unfold lR at h;refine sr (jb (bB rfl) ?_);refine au ?_;refine ci h (fun h=>?_) (fun h=>?_)
    ·refine sk (aI (Z:=Value) (α:=(List Int)) (fun E x9=>[(1,I a1),(2,Pt b1),(7,.eq (.pointer (some ⟨z4.1,0,none⟩))),(8,.rep (.slice (.int .u8)) r2.2.1),(10,.eq E),(28,I a0.1),(29,I y7.2)]) (fun E x9=>[.obj b1 25 (.rep aj a0),.obj z4.1 123 (am q3 z4.2),.sl E 3 Ti x9,.inv z4.2 (aL k q3)]) h (fun K h=>?_) (fun E x9 h=>?_))
     ·refine ak (sr (mq ?_));refine aq (nt (sr ?_));refine cq (nt ?_);refine aI (Z:=Unit) (α:=Int) (fun mc O=>[(1,I a1),(2,Pt b1),(7,.eq (.pointer (some ⟨z4.1,0,none⟩))),(8,.rep (.slice (.int .u8)) r2.2.1),(10,.eq z8),(12,I O),(28,I a0.1),(29,I y7.2)]) (fun mc O=>[.obj b1 25 (.rep aj a0),.obj z4.1 123 (am q3 z4.2),.sl z8 3 Ti y7.1,.inv z4.2 (aL k q3)]) h (fun K h=>?_) (fun mc O h=>?_)
      ·refine au ?_;refine ol vW ?_;refine fa rfl ?_;refine nt (ak (aK (fun gw s=>[(1,I a1),(2,Pt b1),(7,.eq (.pointer (some ⟨z4.1,0,none⟩))),(8,.rep (.slice (.int .u8)) r2.2.1),(10,.eq z8),(11,I y7.2),(12,I s.1),(28,I a0.1),(29,I y7.2),(32,.rep (.slice (.int .u8)) r2.2.1),(33,I (r2.2.1.length:Int)),(34,I s.2)]) (fun gw s=>[.obj b1 25 (.rep aj a0),.obj z4.1 123 (am q3 z4.2),.sl z8 3 Ti y7.1,.inv z4.2 (aL k q3)]) (lQ k a0 a1 r2 q3 y7) k () (0,0) (fun _=>rfl) h (SE.fin [0,1,2,3] ⟨rfl,rfl,rfl,rfl,rfl,rfl,rfl,rfl,rfl,rfl,rfl,rfl,trivial⟩ rfl) (fun n gw s h=>?_)));unfold lQ at h;refine sr (jb (bB rfl) ?_);refine au ?_;refine ci h (fun h=>?_) (fun h=>?_)
       ·refine sk (aI (Z:=Unit) (α:=Int) (fun gq U=>[(1,I a1),(2,Pt b1),(7,.eq (.pointer (some ⟨z4.1,0,none⟩))),(8,.rep (.slice (.int .u8)) r2.2.1),(10,.eq z8),(11,I y7.2),(12,I U),(28,I a0.1),(29,I y7.2),(32,.rep (.slice (.int .u8)) r2.2.1),(33,I (r2.2.1.length:Int)),(34,I s.2)]) (fun gq U=>[.obj b1 25 (.rep aj a0),.obj z4.1 123 (am q3 z4.2),.sl z8 3 Ti y7.1,.inv z4.2 (aL k q3)]) h (fun K h=>?_) (fun gq U h=>?_))
        ·refine ak (sr ?_);obtain⟨c,Ux,h⟩:=aa h;refine jb (aS (t:=(.int .u8)) rfl vW l7 Ux) ?_;refine ja (av (t:=(.int .u8)) rfl l7 rfl) ?_;refine aq (nt (cg ?_));obtain⟨j,l,h⟩:=aa h;obtain⟨y,u,h⟩:=aa h;obtain⟨M,Q,h⟩:=aa h;refine jf (SE.fin (Γ':=[(1,I a1),(2,Pt b1),(7,.eq (.pointer (some ⟨z4.1,0,none⟩))),(8,.rep (.slice (.int .u8)) r2.2.1),(10,.eq z8),(11,I y7.2),(12,I s.1),(28,I a0.1),(29,I y7.2),(32,.rep (.slice (.int .u8)) r2.2.1),(33,I (r2.2.1.length:Int)),(34,I s.2),(14,.eq (.int .u8 c))]) (Δ':=[.obj b1 25 (.rep aj a0),.obj z4.1 123 (am q3 z4.2),.sl z8 3 Ti y7.1,.inv z4.2 (aL k q3)]) [0,1,2,3] ⟨rfl,rfl,rfl,rfl,rfl,rfl,rfl,rfl,rfl,rfl,rfl,rfl,rfl,trivial⟩ rfl) ?_;refine I5 (I:=Unit) (Ge:=fun i=>[(1,I a1),(2,Pt b1),(7,.eq (.pointer (some ⟨z4.1,0,none⟩))),(8,.rep (.slice (.int .u8)) r2.2.1),(10,.eq z8),(11,I y7.2),(12,I s.1),(28,I a0.1),(29,I y7.2),(32,.rep (.slice (.int .u8)) r2.2.1),(33,I (r2.2.1.length:Int)),(34,I s.2),(47,.eq (.bool (decide (a0.2.2.1≤M))))]) (De:=fun i=>[.inv z4.2 (aL k q3),.obj b1 25 (.rep aj a0),.obj z4.1 123 (am q3 z4.2),.sl z8 3 Ti y7.1]) (L:=[true,true,true,true,true,true,true,true,true,true]) dW rfl (fun J hJ hE=>?_) (by kernel_rfl) ?_
         ·obtain⟨K_,hK⟩:∃K_:Nat→List Bool→Ga→List D→Prop,K_=fun n L e d=>J n L ([(1,I a1),(2,Pt b1),(7,.eq (.pointer (some ⟨z4.1,0,none⟩))),(8,.rep (.slice (.int .u8)) r2.2.1),(10,.eq z8),(11,I y7.2),(12,I s.1),(28,I a0.1),(29,I y7.2),(32,.rep (.slice (.int .u8)) r2.2.1),(33,I (r2.2.1.length:Int)),(34,I s.2)]++e) d:=⟨_,rfl⟩
          have s511:K_ 1 [true,true,true,true,true,true,true,true,true,false] [(44,I M),(46,I a0.2.2.1)] [.inv z4.2 (aL k q3),.obj b1 25 (.rep aj a0),.obj z4.1 123 (am q3 z4.2),.sl z8 3 Ti y7.1]:=by
           subst hK hJ;refine JD.step [9] (by kernel_rfl) rfl ⟨⟨_,rfl,?_⟩,trivial⟩;refine jb (kx rfl) ?_;exact an (hE ()) [0,1,2,3]
          have s255:K_ 2 [true,true,true,true,true,true,true,true,false,false] [(44,I M),(45,.eq (.pointer (some ⟨b1,2,none⟩)))] [.inv z4.2 (aL k q3),.obj b1 25 (.rep aj a0),.obj z4.1 123 (am q3 z4.2),.sl z8 3 Ti y7.1]:=by
           subst hK hJ;refine JD.step [8] (by kernel_rfl) rfl ⟨⟨_,rfl,?_⟩,trivial⟩;refine fr 1 ?_;refine lo bV ?_;exact an s511 [1,0,2,3]
          have s447:K_ 2 [true,true,true,true,true,true,false,true,true,false] [(42,.rep Tr y),(43,I y7.2),(46,I a0.2.2.1)] [.inv z4.2 (aL k q3),.obj b1 25 (.rep aj a0),.obj z4.1 123 (am q3 z4.2),.sl z8 3 Ti y7.1]:=by
           subst hK hJ;refine JD.step [6] (by kernel_rfl) rfl ⟨⟨_,rfl,?_⟩,trivial⟩;refine jb (d5 (t:=Ti) rfl An bV rfl rfl (fun _=>rfl) Q) ?_;exact an s511 [0,1,2,3]
          have s127:K_ 3 [true,true,true,true,true,true,true,false,false,false] [(44,I M)] [.inv z4.2 (aL k q3),.obj b1 25 (.rep aj a0),.obj z4.1 123 (am q3 z4.2),.sl z8 3 Ti y7.1]:=by
           subst hK hJ;refine JD.step [7] (by kernel_rfl) rfl ⟨⟨_,rfl,?_⟩,trivial⟩;refine fl dM ?_;exact an s255 [0,1,2,3]
          have s191:K_ 3 [true,true,true,true,true,true,false,true,false,false] [(42,.rep Tr y),(43,I y7.2),(45,.eq (.pointer (some ⟨b1,2,none⟩)))] [.inv z4.2 (aL k q3),.obj b1 25 (.rep aj a0),.obj z4.1 123 (am q3 z4.2),.sl z8 3 Ti y7.1]:=by
           subst hK hJ;refine JD.step [6,8] (by kernel_rfl) rfl ⟨⟨_,rfl,?_⟩,⟨_,rfl,?_⟩,trivial⟩
           ·refine jb (d5 (t:=Ti) rfl An bV rfl rfl (fun _=>rfl) Q) ?_;exact an s255 [0,1,2,3]
           ·refine fr 1 ?_;refine lo bV ?_;exact an s447 [1,0,2,3]
          have s415:K_ 3 [true,true,true,true,true,false,false,true,true,false] [(42,.rep Tr y),(46,I a0.2.2.1)] [.inv z4.2 (aL k q3),.obj b1 25 (.rep aj a0),.obj z4.1 123 (am q3 z4.2),.sl z8 3 Ti y7.1]:=by
           subst hK hJ;refine JD.step [5] (by kernel_rfl) rfl ⟨⟨_,rfl,?_⟩,trivial⟩;refine mq ?_;exact an s447 [0,1,2,3]
          have s431:K_ 3 [true,true,true,true,false,true,false,true,true,false] [(40,.rep (.arr 7 Tr) j),(41,I a1),(43,I y7.2),(46,I a0.2.2.1)] [.inv z4.2 (aL k q3),.obj b1 25 (.rep aj a0),.obj z4.1 123 (am q3 z4.2),.sl z8 3 Ti y7.1]:=by
           subst hK hJ;refine JD.step [4] (by kernel_rfl) rfl ⟨⟨_,rfl,?_⟩,trivial⟩;refine jb (d5 (t:=Tr) rfl Cj gV rfl rfl (qV) u) ?_;exact an s447 [0,1,2,3]
          have s63:K_ 4 [true,true,true,true,true,true,false,false,false,false] [(42,.rep Tr y),(43,I y7.2)] [.inv z4.2 (aL k q3),.obj b1 25 (.rep aj a0),.obj z4.1 123 (am q3 z4.2),.sl z8 3 Ti y7.1]:=by
           subst hK hJ;refine JD.step [6,7] (by kernel_rfl) rfl ⟨⟨_,rfl,?_⟩,⟨_,rfl,?_⟩,trivial⟩
           ·refine jb (d5 (t:=Ti) rfl An bV rfl rfl (fun _=>rfl) Q) ?_;exact an s127 [0,1,2,3]
           ·refine fl dM ?_;exact an s191 [0,1,2,3]
          have s159:K_ 4 [true,true,true,true,true,false,false,true,false,false] [(42,.rep Tr y),(45,.eq (.pointer (some ⟨b1,2,none⟩)))] [.inv z4.2 (aL k q3),.obj b1 25 (.rep aj a0),.obj z4.1 123 (am q3 z4.2),.sl z8 3 Ti y7.1]:=by
           subst hK hJ;refine JD.step [5,8] (by kernel_rfl) rfl ⟨⟨_,rfl,?_⟩,⟨_,rfl,?_⟩,trivial⟩
           ·refine mq ?_;exact an s191 [0,1,2,3]
           ·refine fr 1 ?_;refine lo bV ?_;exact an s415 [1,0,2,3]
          have s175:K_ 4 [true,true,true,true,false,true,false,true,false,false] [(40,.rep (.arr 7 Tr) j),(41,I a1),(43,I y7.2),(45,.eq (.pointer (some ⟨b1,2,none⟩)))] [.inv z4.2 (aL k q3),.obj b1 25 (.rep aj a0),.obj z4.1 123 (am q3 z4.2),.sl z8 3 Ti y7.1]:=by
           subst hK hJ;refine JD.step [4,8] (by kernel_rfl) rfl ⟨⟨_,rfl,?_⟩,⟨_,rfl,?_⟩,trivial⟩
           ·refine jb (d5 (t:=Tr) rfl Cj gV rfl rfl (qV) u) ?_;exact an s191 [0,1,2,3]
           ·refine fr 1 ?_;refine lo bV ?_;exact an s431 [1,0,2,3]
          have s399:K_ 4 [true,true,true,true,false,false,false,true,true,false] [(40,.rep (.arr 7 Tr) j),(41,I a1),(46,I a0.2.2.1)] [.inv z4.2 (aL k q3),.obj b1 25 (.rep aj a0),.obj z4.1 123 (am q3 z4.2),.sl z8 3 Ti y7.1]:=by
           subst hK hJ;refine JD.step [4,5] (by kernel_rfl) rfl ⟨⟨_,rfl,?_⟩,⟨_,rfl,?_⟩,trivial⟩
           ·refine jb (d5 (t:=Tr) rfl Cj gV rfl rfl (qV) u) ?_;exact an s415 [0,1,2,3]
           ·refine mq ?_;exact an s431 [0,1,2,3]
          have s423:K_ 4 [true,true,true,false,false,true,false,true,true,false] [(40,.rep (.arr 7 Tr) j),(43,I y7.2),(46,I a0.2.2.1)] [.inv z4.2 (aL k q3),.obj b1 25 (.rep aj a0),.obj z4.1 123 (am q3 z4.2),.sl z8 3 Ti y7.1]:=by
           subst hK hJ;refine JD.step [3] (by kernel_rfl) rfl ⟨⟨_,rfl,?_⟩,trivial⟩;refine mq ?_;exact an s431 [0,1,2,3]
          have s427:K_ 4 [true,true,false,true,false,true,false,true,true,false] [(38,.eq (.pointer (some ⟨z4.1,0,none⟩))),(39,.eq (.int .u8 c)),(41,I a1),(43,I y7.2),(46,I a0.2.2.1)] [.inv z4.2 (aL k q3),.obj b1 25 (.rep aj a0),.obj z4.1 123 (am q3 z4.2),.sl z8 3 Ti y7.1]:=by
           subst hK hJ;refine JD.step [2] (by kernel_rfl) rfl ⟨⟨_,rfl,?_⟩,trivial⟩;refine fr 2 ?_;refine aD (Δ:=[_,_]) (F:=_) (fun _ _ _=>ab rfl _) rfl rfl (aJ [.tmp 38,.tmp 39] rfl rfl oH rfl (eY k q3 z4.1 z4.2 c j l)) ⟨rfl,rfl,trivial⟩ fun _=>?_;exact an s431 [1,2,0,3]
          have s31:K_ 5 [true,true,true,true,true,false,false,false,false,false] [(42,.rep Tr y)] [.inv z4.2 (aL k q3),.obj b1 25 (.rep aj a0),.obj z4.1 123 (am q3 z4.2),.sl z8 3 Ti y7.1]:=by
           subst hK hJ;refine JD.step [5,7] (by kernel_rfl) rfl ⟨⟨_,rfl,?_⟩,⟨_,rfl,?_⟩,trivial⟩
           ·refine mq ?_;exact an s63 [0,1,2,3]
           ·refine fl dM ?_;exact an s159 [0,1,2,3]
          have s47:K_ 5 [true,true,true,true,false,true,false,false,false,false] [(40,.rep (.arr 7 Tr) j),(41,I a1),(43,I y7.2)] [.inv z4.2 (aL k q3),.obj b1 25 (.rep aj a0),.obj z4.1 123 (am q3 z4.2),.sl z8 3 Ti y7.1]:=by
           subst hK hJ;refine JD.step [4,7] (by kernel_rfl) rfl ⟨⟨_,rfl,?_⟩,⟨_,rfl,?_⟩,trivial⟩
           ·refine jb (d5 (t:=Tr) rfl Cj gV rfl rfl (qV) u) ?_;exact an s63 [0,1,2,3]
           ·refine fl dM ?_;exact an s175 [0,1,2,3]
          have s143:K_ 5 [true,true,true,true,false,false,false,true,false,false] [(40,.rep (.arr 7 Tr) j),(41,I a1),(45,.eq (.pointer (some ⟨b1,2,none⟩)))] [.inv z4.2 (aL k q3),.obj b1 25 (.rep aj a0),.obj z4.1 123 (am q3 z4.2),.sl z8 3 Ti y7.1]:=by
           subst hK hJ;refine JD.step [4,5,8] (by kernel_rfl) rfl ⟨⟨_,rfl,?_⟩,⟨_,rfl,?_⟩,⟨_,rfl,?_⟩,trivial⟩
           ·refine jb (d5 (t:=Tr) rfl Cj gV rfl rfl (qV) u) ?_;exact an s159 [0,1,2,3]
           ·refine mq ?_;exact an s175 [0,1,2,3]
           ·refine fr 1 ?_;refine lo bV ?_;exact an s399 [1,0,2,3]
          have s167:K_ 5 [true,true,true,false,false,true,false,true,false,false] [(40,.rep (.arr 7 Tr) j),(43,I y7.2),(45,.eq (.pointer (some ⟨b1,2,none⟩)))] [.inv z4.2 (aL k q3),.obj b1 25 (.rep aj a0),.obj z4.1 123 (am q3 z4.2),.sl z8 3 Ti y7.1]:=by
           subst hK hJ;refine JD.step [3,8] (by kernel_rfl) rfl ⟨⟨_,rfl,?_⟩,⟨_,rfl,?_⟩,trivial⟩
           ·refine mq ?_;exact an s175 [0,1,2,3]
           ·refine fr 1 ?_;refine lo bV ?_;exact an s423 [1,0,2,3]
          have s391:K_ 5 [true,true,true,false,false,false,false,true,true,false] [(40,.rep (.arr 7 Tr) j),(46,I a0.2.2.1)] [.inv z4.2 (aL k q3),.obj b1 25 (.rep aj a0),.obj z4.1 123 (am q3 z4.2),.sl z8 3 Ti y7.1]:=by
           subst hK hJ;refine JD.step [3,5] (by kernel_rfl) rfl ⟨⟨_,rfl,?_⟩,⟨_,rfl,?_⟩,trivial⟩
           ·refine mq ?_;exact an s399 [0,1,2,3]
           ·refine mq ?_;exact an s423 [0,1,2,3]
          have s171:K_ 5 [true,true,false,true,false,true,false,true,false,false] [(38,.eq (.pointer (some ⟨z4.1,0,none⟩))),(39,.eq (.int .u8 c)),(41,I a1),(43,I y7.2),(45,.eq (.pointer (some ⟨b1,2,none⟩)))] [.inv z4.2 (aL k q3),.obj b1 25 (.rep aj a0),.obj z4.1 123 (am q3 z4.2),.sl z8 3 Ti y7.1]:=by
           subst hK hJ;refine JD.step [2,8] (by kernel_rfl) rfl ⟨⟨_,rfl,?_⟩,⟨_,rfl,?_⟩,trivial⟩
           ·refine fr 2 ?_;refine aD (Δ:=[_,_]) (F:=_) (fun _ _ _=>ab rfl _) rfl rfl (aJ [.tmp 38,.tmp 39] rfl rfl oH rfl (eY k q3 z4.1 z4.2 c j l)) ⟨rfl,rfl,trivial⟩ fun _=>?_;exact an s175 [1,2,0,3]
           ·refine fr 1 ?_;refine lo bV ?_;exact an s427 [1,0,2,3]
          have s395:K_ 5 [true,true,false,true,false,false,false,true,true,false] [(38,.eq (.pointer (some ⟨z4.1,0,none⟩))),(39,.eq (.int .u8 c)),(41,I a1),(46,I a0.2.2.1)] [.inv z4.2 (aL k q3),.obj b1 25 (.rep aj a0),.obj z4.1 123 (am q3 z4.2),.sl z8 3 Ti y7.1]:=by
           subst hK hJ;refine JD.step [2,5] (by kernel_rfl) rfl ⟨⟨_,rfl,?_⟩,⟨_,rfl,?_⟩,trivial⟩
           ·refine fr 2 ?_;refine aD (Δ:=[_,_]) (F:=_) (fun _ _ _=>ab rfl _) rfl rfl (aJ [.tmp 38,.tmp 39] rfl rfl oH rfl (eY k q3 z4.1 z4.2 c j l)) ⟨rfl,rfl,trivial⟩ fun _=>?_;exact an s399 [1,2,0,3]
           ·refine mq ?_;exact an s427 [0,1,2,3]
          have s419:K_ 5 [true,true,false,false,false,true,false,true,true,false] [(38,.eq (.pointer (some ⟨z4.1,0,none⟩))),(39,.eq (.int .u8 c)),(43,I y7.2),(46,I a0.2.2.1)] [.inv z4.2 (aL k q3),.obj b1 25 (.rep aj a0),.obj z4.1 123 (am q3 z4.2),.sl z8 3 Ti y7.1]:=by
           subst hK hJ;refine JD.step [2,3] (by kernel_rfl) rfl ⟨⟨_,rfl,?_⟩,⟨_,rfl,?_⟩,trivial⟩
           ·refine fr 2 ?_;refine aD (Δ:=[_,_]) (F:=_) (fun _ _ _=>ab rfl _) rfl rfl (aJ [.tmp 38,.tmp 39] rfl rfl oH rfl (eY k q3 z4.1 z4.2 c j l)) ⟨rfl,rfl,trivial⟩ fun _=>?_;exact an s423 [1,2,0,3]
           ·refine mq ?_;exact an s427 [0,1,2,3]
          have s425:K_ 5 [true,false,false,true,false,true,false,true,true,false] [(14,.eq (.int .u8 c)),(38,.eq (.pointer (some ⟨z4.1,0,none⟩))),(41,I a1),(43,I y7.2),(46,I a0.2.2.1)] [.inv z4.2 (aL k q3),.obj b1 25 (.rep aj a0),.obj z4.1 123 (am q3 z4.2),.sl z8 3 Ti y7.1]:=by
           subst hK hJ;refine JD.step [1] (by kernel_rfl) rfl ⟨⟨_,rfl,?_⟩,trivial⟩;refine mq ?_;exact an s427 [0,1,2,3]
          have s426:K_ 5 [false,true,false,true,false,true,false,true,true,false] [(39,.eq (.int .u8 c)),(41,I a1),(43,I y7.2),(46,I a0.2.2.1)] [.inv z4.2 (aL k q3),.obj b1 25 (.rep aj a0),.obj z4.1 123 (am q3 z4.2),.sl z8 3 Ti y7.1]:=by
           subst hK hJ;refine JD.step [0] (by kernel_rfl) rfl ⟨⟨_,rfl,?_⟩,trivial⟩;refine mq ?_;exact an s427 [0,1,2,3]
          have s15:K_ 6 [true,true,true,true,false,false,false,false,false,false] [(40,.rep (.arr 7 Tr) j),(41,I a1)] [.inv z4.2 (aL k q3),.obj b1 25 (.rep aj a0),.obj z4.1 123 (am q3 z4.2),.sl z8 3 Ti y7.1]:=by
           subst hK hJ;refine JD.step [4,5,7] (by kernel_rfl) rfl ⟨⟨_,rfl,?_⟩,⟨_,rfl,?_⟩,⟨_,rfl,?_⟩,trivial⟩
           ·refine jb (d5 (t:=Tr) rfl Cj gV rfl rfl (qV) u) ?_;exact an s31 [0,1,2,3]
           ·refine mq ?_;exact an s47 [0,1,2,3]
           ·refine fl dM ?_;exact an s143 [0,1,2,3]
          have s39:K_ 6 [true,true,true,false,false,true,false,false,false,false] [(40,.rep (.arr 7 Tr) j),(43,I y7.2)] [.inv z4.2 (aL k q3),.obj b1 25 (.rep aj a0),.obj z4.1 123 (am q3 z4.2),.sl z8 3 Ti y7.1]:=by
           subst hK hJ;refine JD.step [3,7] (by kernel_rfl) rfl ⟨⟨_,rfl,?_⟩,⟨_,rfl,?_⟩,trivial⟩
           ·refine mq ?_;exact an s47 [0,1,2,3]
           ·refine fl dM ?_;exact an s167 [0,1,2,3]
          have s135:K_ 6 [true,true,true,false,false,false,false,true,false,false] [(40,.rep (.arr 7 Tr) j),(45,.eq (.pointer (some ⟨b1,2,none⟩)))] [.inv z4.2 (aL k q3),.obj b1 25 (.rep aj a0),.obj z4.1 123 (am q3 z4.2),.sl z8 3 Ti y7.1]:=by
           subst hK hJ;refine JD.step [3,5,8] (by kernel_rfl) rfl ⟨⟨_,rfl,?_⟩,⟨_,rfl,?_⟩,⟨_,rfl,?_⟩,trivial⟩
           ·refine mq ?_;exact an s143 [0,1,2,3]
           ·refine mq ?_;exact an s167 [0,1,2,3]
           ·refine fr 1 ?_;refine lo bV ?_;exact an s391 [1,0,2,3]
          have s43:K_ 6 [true,true,false,true,false,true,false,false,false,false] [(38,.eq (.pointer (some ⟨z4.1,0,none⟩))),(39,.eq (.int .u8 c)),(41,I a1),(43,I y7.2)] [.inv z4.2 (aL k q3),.obj b1 25 (.rep aj a0),.obj z4.1 123 (am q3 z4.2),.sl z8 3 Ti y7.1]:=by
           subst hK hJ;refine JD.step [2,7] (by kernel_rfl) rfl ⟨⟨_,rfl,?_⟩,⟨_,rfl,?_⟩,trivial⟩
           ·refine fr 2 ?_;refine aD (Δ:=[_,_]) (F:=_) (fun _ _ _=>ab rfl _) rfl rfl (aJ [.tmp 38,.tmp 39] rfl rfl oH rfl (eY k q3 z4.1 z4.2 c j l)) ⟨rfl,rfl,trivial⟩ fun _=>?_;exact an s47 [1,2,0,3]
           ·refine fl dM ?_;exact an s171 [0,1,2,3]
          have s139:K_ 6 [true,true,false,true,false,false,false,true,false,false] [(38,.eq (.pointer (some ⟨z4.1,0,none⟩))),(39,.eq (.int .u8 c)),(41,I a1),(45,.eq (.pointer (some ⟨b1,2,none⟩)))] [.inv z4.2 (aL k q3),.obj b1 25 (.rep aj a0),.obj z4.1 123 (am q3 z4.2),.sl z8 3 Ti y7.1]:=by
           subst hK hJ;refine JD.step [2,5,8] (by kernel_rfl) rfl ⟨⟨_,rfl,?_⟩,⟨_,rfl,?_⟩,⟨_,rfl,?_⟩,trivial⟩
           ·refine fr 2 ?_;refine aD (Δ:=[_,_]) (F:=_) (fun _ _ _=>ab rfl _) rfl rfl (aJ [.tmp 38,.tmp 39] rfl rfl oH rfl (eY k q3 z4.1 z4.2 c j l)) ⟨rfl,rfl,trivial⟩ fun _=>?_;exact an s143 [1,2,0,3]
           ·refine mq ?_;exact an s171 [0,1,2,3]
           ·refine fr 1 ?_;refine lo bV ?_;exact an s395 [1,0,2,3]
          have s163:K_ 6 [true,true,false,false,false,true,false,true,false,false] [(38,.eq (.pointer (some ⟨z4.1,0,none⟩))),(39,.eq (.int .u8 c)),(43,I y7.2),(45,.eq (.pointer (some ⟨b1,2,none⟩)))] [.inv z4.2 (aL k q3),.obj b1 25 (.rep aj a0),.obj z4.1 123 (am q3 z4.2),.sl z8 3 Ti y7.1]:=by
           subst hK hJ;refine JD.step [2,3,8] (by kernel_rfl) rfl ⟨⟨_,rfl,?_⟩,⟨_,rfl,?_⟩,⟨_,rfl,?_⟩,trivial⟩
           ·refine fr 2 ?_;refine aD (Δ:=[_,_]) (F:=_) (fun _ _ _=>ab rfl _) rfl rfl (aJ [.tmp 38,.tmp 39] rfl rfl oH rfl (eY k q3 z4.1 z4.2 c j l)) ⟨rfl,rfl,trivial⟩ fun _=>?_;exact an s167 [1,2,0,3]
           ·refine mq ?_;exact an s171 [0,1,2,3]
           ·refine fr 1 ?_;refine lo bV ?_;exact an s419 [1,0,2,3]
          have s387:K_ 6 [true,true,false,false,false,false,false,true,true,false] [(38,.eq (.pointer (some ⟨z4.1,0,none⟩))),(39,.eq (.int .u8 c)),(46,I a0.2.2.1)] [.inv z4.2 (aL k q3),.obj b1 25 (.rep aj a0),.obj z4.1 123 (am q3 z4.2),.sl z8 3 Ti y7.1]:=by
           subst hK hJ;refine JD.step [2,3,5] (by kernel_rfl) rfl ⟨⟨_,rfl,?_⟩,⟨_,rfl,?_⟩,⟨_,rfl,?_⟩,trivial⟩
           ·refine fr 2 ?_;refine aD (Δ:=[_,_]) (F:=_) (fun _ _ _=>ab rfl _) rfl rfl (aJ [.tmp 38,.tmp 39] rfl rfl oH rfl (eY k q3 z4.1 z4.2 c j l)) ⟨rfl,rfl,trivial⟩ fun _=>?_;exact an s391 [1,2,0,3]
           ·refine mq ?_;exact an s395 [0,1,2,3]
           ·refine mq ?_;exact an s419 [0,1,2,3]
          have s169:K_ 6 [true,false,false,true,false,true,false,true,false,false] [(14,.eq (.int .u8 c)),(38,.eq (.pointer (some ⟨z4.1,0,none⟩))),(41,I a1),(43,I y7.2),(45,.eq (.pointer (some ⟨b1,2,none⟩)))] [.inv z4.2 (aL k q3),.obj b1 25 (.rep aj a0),.obj z4.1 123 (am q3 z4.2),.sl z8 3 Ti y7.1]:=by
           subst hK hJ;refine JD.step [1,8] (by kernel_rfl) rfl ⟨⟨_,rfl,?_⟩,⟨_,rfl,?_⟩,trivial⟩
           ·refine mq ?_;exact an s171 [0,1,2,3]
           ·refine fr 1 ?_;refine lo bV ?_;exact an s425 [1,0,2,3]
          have s393:K_ 6 [true,false,false,true,false,false,false,true,true,false] [(14,.eq (.int .u8 c)),(38,.eq (.pointer (some ⟨z4.1,0,none⟩))),(41,I a1),(46,I a0.2.2.1)] [.inv z4.2 (aL k q3),.obj b1 25 (.rep aj a0),.obj z4.1 123 (am q3 z4.2),.sl z8 3 Ti y7.1]:=by
           subst hK hJ;refine JD.step [1,5] (by kernel_rfl) rfl ⟨⟨_,rfl,?_⟩,⟨_,rfl,?_⟩,trivial⟩
           ·refine mq ?_;exact an s395 [0,1,2,3]
           ·refine mq ?_;exact an s425 [0,1,2,3]
          have s417:K_ 6 [true,false,false,false,false,true,false,true,true,false] [(14,.eq (.int .u8 c)),(38,.eq (.pointer (some ⟨z4.1,0,none⟩))),(43,I y7.2),(46,I a0.2.2.1)] [.inv z4.2 (aL k q3),.obj b1 25 (.rep aj a0),.obj z4.1 123 (am q3 z4.2),.sl z8 3 Ti y7.1]:=by
           subst hK hJ;refine JD.step [1,3] (by kernel_rfl) rfl ⟨⟨_,rfl,?_⟩,⟨_,rfl,?_⟩,trivial⟩
           ·refine mq ?_;exact an s419 [0,1,2,3]
           ·refine mq ?_;exact an s425 [0,1,2,3]
          have s170:K_ 6 [false,true,false,true,false,true,false,true,false,false] [(39,.eq (.int .u8 c)),(41,I a1),(43,I y7.2),(45,.eq (.pointer (some ⟨b1,2,none⟩)))] [.inv z4.2 (aL k q3),.obj b1 25 (.rep aj a0),.obj z4.1 123 (am q3 z4.2),.sl z8 3 Ti y7.1]:=by
           subst hK hJ;refine JD.step [0,8] (by kernel_rfl) rfl ⟨⟨_,rfl,?_⟩,⟨_,rfl,?_⟩,trivial⟩
           ·refine mq ?_;exact an s171 [0,1,2,3]
           ·refine fr 1 ?_;refine lo bV ?_;exact an s426 [1,0,2,3]
          have s394:K_ 6 [false,true,false,true,false,false,false,true,true,false] [(39,.eq (.int .u8 c)),(41,I a1),(46,I a0.2.2.1)] [.inv z4.2 (aL k q3),.obj b1 25 (.rep aj a0),.obj z4.1 123 (am q3 z4.2),.sl z8 3 Ti y7.1]:=by
           subst hK hJ;refine JD.step [0,5] (by kernel_rfl) rfl ⟨⟨_,rfl,?_⟩,⟨_,rfl,?_⟩,trivial⟩
           ·refine mq ?_;exact an s395 [0,1,2,3]
           ·refine mq ?_;exact an s426 [0,1,2,3]
          have s418:K_ 6 [false,true,false,false,false,true,false,true,true,false] [(39,.eq (.int .u8 c)),(43,I y7.2),(46,I a0.2.2.1)] [.inv z4.2 (aL k q3),.obj b1 25 (.rep aj a0),.obj z4.1 123 (am q3 z4.2),.sl z8 3 Ti y7.1]:=by
           subst hK hJ;refine JD.step [0,3] (by kernel_rfl) rfl ⟨⟨_,rfl,?_⟩,⟨_,rfl,?_⟩,trivial⟩
           ·refine mq ?_;exact an s419 [0,1,2,3]
           ·refine mq ?_;exact an s426 [0,1,2,3]
          have s424:K_ 6 [false,false,false,true,false,true,false,true,true,false] [(14,.eq (.int .u8 c)),(41,I a1),(43,I y7.2),(46,I a0.2.2.1)] [.inv z4.2 (aL k q3),.obj b1 25 (.rep aj a0),.obj z4.1 123 (am q3 z4.2),.sl z8 3 Ti y7.1]:=by
           subst hK hJ;refine JD.step [0,1] (by kernel_rfl) rfl ⟨⟨_,rfl,?_⟩,⟨_,rfl,?_⟩,trivial⟩
           ·refine mq ?_;exact an s425 [0,1,2,3]
           ·refine mq ?_;exact an s426 [0,1,2,3]
          have s7:K_ 7 [true,true,true,false,false,false,false,false,false,false] [(40,.rep (.arr 7 Tr) j)] [.inv z4.2 (aL k q3),.obj b1 25 (.rep aj a0),.obj z4.1 123 (am q3 z4.2),.sl z8 3 Ti y7.1]:=by
           subst hK hJ;refine JD.step [3,5,7] (by kernel_rfl) rfl ⟨⟨_,rfl,?_⟩,⟨_,rfl,?_⟩,⟨_,rfl,?_⟩,trivial⟩
           ·refine mq ?_;exact an s15 [0,1,2,3]
           ·refine mq ?_;exact an s39 [0,1,2,3]
           ·refine fl dM ?_;exact an s135 [0,1,2,3]
          have s11:K_ 7 [true,true,false,true,false,false,false,false,false,false] [(38,.eq (.pointer (some ⟨z4.1,0,none⟩))),(39,.eq (.int .u8 c)),(41,I a1)] [.inv z4.2 (aL k q3),.obj b1 25 (.rep aj a0),.obj z4.1 123 (am q3 z4.2),.sl z8 3 Ti y7.1]:=by
           subst hK hJ;refine JD.step [2,5,7] (by kernel_rfl) rfl ⟨⟨_,rfl,?_⟩,⟨_,rfl,?_⟩,⟨_,rfl,?_⟩,trivial⟩
           ·refine fr 2 ?_;refine aD (Δ:=[_,_]) (F:=_) (fun _ _ _=>ab rfl _) rfl rfl (aJ [.tmp 38,.tmp 39] rfl rfl oH rfl (eY k q3 z4.1 z4.2 c j l)) ⟨rfl,rfl,trivial⟩ fun _=>?_;exact an s15 [1,2,0,3]
           ·refine mq ?_;exact an s43 [0,1,2,3]
           ·refine fl dM ?_;exact an s139 [0,1,2,3]
          have s35:K_ 7 [true,true,false,false,false,true,false,false,false,false] [(38,.eq (.pointer (some ⟨z4.1,0,none⟩))),(39,.eq (.int .u8 c)),(43,I y7.2)] [.inv z4.2 (aL k q3),.obj b1 25 (.rep aj a0),.obj z4.1 123 (am q3 z4.2),.sl z8 3 Ti y7.1]:=by
           subst hK hJ;refine JD.step [2,3,7] (by kernel_rfl) rfl ⟨⟨_,rfl,?_⟩,⟨_,rfl,?_⟩,⟨_,rfl,?_⟩,trivial⟩
           ·refine fr 2 ?_;refine aD (Δ:=[_,_]) (F:=_) (fun _ _ _=>ab rfl _) rfl rfl (aJ [.tmp 38,.tmp 39] rfl rfl oH rfl (eY k q3 z4.1 z4.2 c j l)) ⟨rfl,rfl,trivial⟩ fun _=>?_;exact an s39 [1,2,0,3]
           ·refine mq ?_;exact an s43 [0,1,2,3]
           ·refine fl dM ?_;exact an s163 [0,1,2,3]
          have s131:K_ 7 [true,true,false,false,false,false,false,true,false,false] [(38,.eq (.pointer (some ⟨z4.1,0,none⟩))),(39,.eq (.int .u8 c)),(45,.eq (.pointer (some ⟨b1,2,none⟩)))] [.inv z4.2 (aL k q3),.obj b1 25 (.rep aj a0),.obj z4.1 123 (am q3 z4.2),.sl z8 3 Ti y7.1]:=by
           subst hK hJ;refine JD.step [2,3,5,8] (by kernel_rfl) rfl ⟨⟨_,rfl,?_⟩,⟨_,rfl,?_⟩,⟨_,rfl,?_⟩,⟨_,rfl,?_⟩,trivial⟩
           ·refine fr 2 ?_;refine aD (Δ:=[_,_]) (F:=_) (fun _ _ _=>ab rfl _) rfl rfl (aJ [.tmp 38,.tmp 39] rfl rfl oH rfl (eY k q3 z4.1 z4.2 c j l)) ⟨rfl,rfl,trivial⟩ fun _=>?_;exact an s135 [1,2,0,3]
           ·refine mq ?_;exact an s139 [0,1,2,3]
           ·refine mq ?_;exact an s163 [0,1,2,3]
           ·refine fr 1 ?_;refine lo bV ?_;exact an s387 [1,0,2,3]
          have s41:K_ 7 [true,false,false,true,false,true,false,false,false,false] [(14,.eq (.int .u8 c)),(38,.eq (.pointer (some ⟨z4.1,0,none⟩))),(41,I a1),(43,I y7.2)] [.inv z4.2 (aL k q3),.obj b1 25 (.rep aj a0),.obj z4.1 123 (am q3 z4.2),.sl z8 3 Ti y7.1]:=by
           subst hK hJ;refine JD.step [1,7] (by kernel_rfl) rfl ⟨⟨_,rfl,?_⟩,⟨_,rfl,?_⟩,trivial⟩
           ·refine mq ?_;exact an s43 [0,1,2,3]
           ·refine fl dM ?_;exact an s169 [0,1,2,3]
          have s137:K_ 7 [true,false,false,true,false,false,false,true,false,false] [(14,.eq (.int .u8 c)),(38,.eq (.pointer (some ⟨z4.1,0,none⟩))),(41,I a1),(45,.eq (.pointer (some ⟨b1,2,none⟩)))] [.inv z4.2 (aL k q3),.obj b1 25 (.rep aj a0),.obj z4.1 123 (am q3 z4.2),.sl z8 3 Ti y7.1]:=by
           subst hK hJ;refine JD.step [1,5,8] (by kernel_rfl) rfl ⟨⟨_,rfl,?_⟩,⟨_,rfl,?_⟩,⟨_,rfl,?_⟩,trivial⟩
           ·refine mq ?_;exact an s139 [0,1,2,3]
           ·refine mq ?_;exact an s169 [0,1,2,3]
           ·refine fr 1 ?_;refine lo bV ?_;exact an s393 [1,0,2,3]
          have s161:K_ 7 [true,false,false,false,false,true,false,true,false,false] [(14,.eq (.int .u8 c)),(38,.eq (.pointer (some ⟨z4.1,0,none⟩))),(43,I y7.2),(45,.eq (.pointer (some ⟨b1,2,none⟩)))] [.inv z4.2 (aL k q3),.obj b1 25 (.rep aj a0),.obj z4.1 123 (am q3 z4.2),.sl z8 3 Ti y7.1]:=by
           subst hK hJ;refine JD.step [1,3,8] (by kernel_rfl) rfl ⟨⟨_,rfl,?_⟩,⟨_,rfl,?_⟩,⟨_,rfl,?_⟩,trivial⟩
           ·refine mq ?_;exact an s163 [0,1,2,3]
           ·refine mq ?_;exact an s169 [0,1,2,3]
           ·refine fr 1 ?_;refine lo bV ?_;exact an s417 [1,0,2,3]
          have s385:K_ 7 [true,false,false,false,false,false,false,true,true,false] [(14,.eq (.int .u8 c)),(38,.eq (.pointer (some ⟨z4.1,0,none⟩))),(46,I a0.2.2.1)] [.inv z4.2 (aL k q3),.obj b1 25 (.rep aj a0),.obj z4.1 123 (am q3 z4.2),.sl z8 3 Ti y7.1]:=by
           subst hK hJ;refine JD.step [1,3,5] (by kernel_rfl) rfl ⟨⟨_,rfl,?_⟩,⟨_,rfl,?_⟩,⟨_,rfl,?_⟩,trivial⟩
           ·refine mq ?_;exact an s387 [0,1,2,3]
           ·refine mq ?_;exact an s393 [0,1,2,3]
           ·refine mq ?_;exact an s417 [0,1,2,3]
          have s42:K_ 7 [false,true,false,true,false,true,false,false,false,false] [(39,.eq (.int .u8 c)),(41,I a1),(43,I y7.2)] [.inv z4.2 (aL k q3),.obj b1 25 (.rep aj a0),.obj z4.1 123 (am q3 z4.2),.sl z8 3 Ti y7.1]:=by
           subst hK hJ;refine JD.step [0,7] (by kernel_rfl) rfl ⟨⟨_,rfl,?_⟩,⟨_,rfl,?_⟩,trivial⟩
           ·refine mq ?_;exact an s43 [0,1,2,3]
           ·refine fl dM ?_;exact an s170 [0,1,2,3]
          have s138:K_ 7 [false,true,false,true,false,false,false,true,false,false] [(39,.eq (.int .u8 c)),(41,I a1),(45,.eq (.pointer (some ⟨b1,2,none⟩)))] [.inv z4.2 (aL k q3),.obj b1 25 (.rep aj a0),.obj z4.1 123 (am q3 z4.2),.sl z8 3 Ti y7.1]:=by
           subst hK hJ;refine JD.step [0,5,8] (by kernel_rfl) rfl ⟨⟨_,rfl,?_⟩,⟨_,rfl,?_⟩,⟨_,rfl,?_⟩,trivial⟩
           ·refine mq ?_;exact an s139 [0,1,2,3]
           ·refine mq ?_;exact an s170 [0,1,2,3]
           ·refine fr 1 ?_;refine lo bV ?_;exact an s394 [1,0,2,3]
          have s162:K_ 7 [false,true,false,false,false,true,false,true,false,false] [(39,.eq (.int .u8 c)),(43,I y7.2),(45,.eq (.pointer (some ⟨b1,2,none⟩)))] [.inv z4.2 (aL k q3),.obj b1 25 (.rep aj a0),.obj z4.1 123 (am q3 z4.2),.sl z8 3 Ti y7.1]:=by
           subst hK hJ;refine JD.step [0,3,8] (by kernel_rfl) rfl ⟨⟨_,rfl,?_⟩,⟨_,rfl,?_⟩,⟨_,rfl,?_⟩,trivial⟩
           ·refine mq ?_;exact an s163 [0,1,2,3]
           ·refine mq ?_;exact an s170 [0,1,2,3]
           ·refine fr 1 ?_;refine lo bV ?_;exact an s418 [1,0,2,3]
          have s386:K_ 7 [false,true,false,false,false,false,false,true,true,false] [(39,.eq (.int .u8 c)),(46,I a0.2.2.1)] [.inv z4.2 (aL k q3),.obj b1 25 (.rep aj a0),.obj z4.1 123 (am q3 z4.2),.sl z8 3 Ti y7.1]:=by
           subst hK hJ;refine JD.step [0,3,5] (by kernel_rfl) rfl ⟨⟨_,rfl,?_⟩,⟨_,rfl,?_⟩,⟨_,rfl,?_⟩,trivial⟩
           ·refine mq ?_;exact an s387 [0,1,2,3]
           ·refine mq ?_;exact an s394 [0,1,2,3]
           ·refine mq ?_;exact an s418 [0,1,2,3]
          have s168:K_ 7 [false,false,false,true,false,true,false,true,false,false] [(14,.eq (.int .u8 c)),(41,I a1),(43,I y7.2),(45,.eq (.pointer (some ⟨b1,2,none⟩)))] [.inv z4.2 (aL k q3),.obj b1 25 (.rep aj a0),.obj z4.1 123 (am q3 z4.2),.sl z8 3 Ti y7.1]:=by
           subst hK hJ;refine JD.step [0,1,8] (by kernel_rfl) rfl ⟨⟨_,rfl,?_⟩,⟨_,rfl,?_⟩,⟨_,rfl,?_⟩,trivial⟩
           ·refine mq ?_;exact an s169 [0,1,2,3]
           ·refine mq ?_;exact an s170 [0,1,2,3]
           ·refine fr 1 ?_;refine lo bV ?_;exact an s424 [1,0,2,3]
          have s392:K_ 7 [false,false,false,true,false,false,false,true,true,false] [(14,.eq (.int .u8 c)),(41,I a1),(46,I a0.2.2.1)] [.inv z4.2 (aL k q3),.obj b1 25 (.rep aj a0),.obj z4.1 123 (am q3 z4.2),.sl z8 3 Ti y7.1]:=by
           subst hK hJ;refine JD.step [0,1,5] (by kernel_rfl) rfl ⟨⟨_,rfl,?_⟩,⟨_,rfl,?_⟩,⟨_,rfl,?_⟩,trivial⟩
           ·refine mq ?_;exact an s393 [0,1,2,3]
           ·refine mq ?_;exact an s394 [0,1,2,3]
           ·refine mq ?_;exact an s424 [0,1,2,3]
          have s416:K_ 7 [false,false,false,false,false,true,false,true,true,false] [(14,.eq (.int .u8 c)),(43,I y7.2),(46,I a0.2.2.1)] [.inv z4.2 (aL k q3),.obj b1 25 (.rep aj a0),.obj z4.1 123 (am q3 z4.2),.sl z8 3 Ti y7.1]:=by
           subst hK hJ;refine JD.step [0,1,3] (by kernel_rfl) rfl ⟨⟨_,rfl,?_⟩,⟨_,rfl,?_⟩,⟨_,rfl,?_⟩,trivial⟩
           ·refine mq ?_;exact an s417 [0,1,2,3]
           ·refine mq ?_;exact an s418 [0,1,2,3]
           ·refine mq ?_;exact an s424 [0,1,2,3]
          have s3:K_ 8 [true,true,false,false,false,false,false,false,false,false] [(38,.eq (.pointer (some ⟨z4.1,0,none⟩))),(39,.eq (.int .u8 c))] [.inv z4.2 (aL k q3),.obj b1 25 (.rep aj a0),.obj z4.1 123 (am q3 z4.2),.sl z8 3 Ti y7.1]:=by
           subst hK hJ;refine JD.step [2,3,5,7] (by kernel_rfl) rfl ⟨⟨_,rfl,?_⟩,⟨_,rfl,?_⟩,⟨_,rfl,?_⟩,⟨_,rfl,?_⟩,trivial⟩
           ·refine fr 2 ?_;refine aD (Δ:=[_,_]) (F:=_) (fun _ _ _=>ab rfl _) rfl rfl (aJ [.tmp 38,.tmp 39] rfl rfl oH rfl (eY k q3 z4.1 z4.2 c j l)) ⟨rfl,rfl,trivial⟩ fun _=>?_;exact an s7 [1,2,0,3]
           ·refine mq ?_;exact an s11 [0,1,2,3]
           ·refine mq ?_;exact an s35 [0,1,2,3]
           ·refine fl dM ?_;exact an s131 [0,1,2,3]
          have s9:K_ 8 [true,false,false,true,false,false,false,false,false,false] [(14,.eq (.int .u8 c)),(38,.eq (.pointer (some ⟨z4.1,0,none⟩))),(41,I a1)] [.inv z4.2 (aL k q3),.obj b1 25 (.rep aj a0),.obj z4.1 123 (am q3 z4.2),.sl z8 3 Ti y7.1]:=by
           subst hK hJ;refine JD.step [1,5,7] (by kernel_rfl) rfl ⟨⟨_,rfl,?_⟩,⟨_,rfl,?_⟩,⟨_,rfl,?_⟩,trivial⟩
           ·refine mq ?_;exact an s11 [0,1,2,3]
           ·refine mq ?_;exact an s41 [0,1,2,3]
           ·refine fl dM ?_;exact an s137 [0,1,2,3]
          have s33:K_ 8 [true,false,false,false,false,true,false,false,false,false] [(14,.eq (.int .u8 c)),(38,.eq (.pointer (some ⟨z4.1,0,none⟩))),(43,I y7.2)] [.inv z4.2 (aL k q3),.obj b1 25 (.rep aj a0),.obj z4.1 123 (am q3 z4.2),.sl z8 3 Ti y7.1]:=by
           subst hK hJ;refine JD.step [1,3,7] (by kernel_rfl) rfl ⟨⟨_,rfl,?_⟩,⟨_,rfl,?_⟩,⟨_,rfl,?_⟩,trivial⟩
           ·refine mq ?_;exact an s35 [0,1,2,3]
           ·refine mq ?_;exact an s41 [0,1,2,3]
           ·refine fl dM ?_;exact an s161 [0,1,2,3]
          have s129:K_ 8 [true,false,false,false,false,false,false,true,false,false] [(14,.eq (.int .u8 c)),(38,.eq (.pointer (some ⟨z4.1,0,none⟩))),(45,.eq (.pointer (some ⟨b1,2,none⟩)))] [.inv z4.2 (aL k q3),.obj b1 25 (.rep aj a0),.obj z4.1 123 (am q3 z4.2),.sl z8 3 Ti y7.1]:=by
           subst hK hJ;refine JD.step [1,3,5,8] (by kernel_rfl) rfl ⟨⟨_,rfl,?_⟩,⟨_,rfl,?_⟩,⟨_,rfl,?_⟩,⟨_,rfl,?_⟩,trivial⟩
           ·refine mq ?_;exact an s131 [0,1,2,3]
           ·refine mq ?_;exact an s137 [0,1,2,3]
           ·refine mq ?_;exact an s161 [0,1,2,3]
           ·refine fr 1 ?_;refine lo bV ?_;exact an s385 [1,0,2,3]
          have s10:K_ 8 [false,true,false,true,false,false,false,false,false,false] [(39,.eq (.int .u8 c)),(41,I a1)] [.inv z4.2 (aL k q3),.obj b1 25 (.rep aj a0),.obj z4.1 123 (am q3 z4.2),.sl z8 3 Ti y7.1]:=by
           subst hK hJ;refine JD.step [0,5,7] (by kernel_rfl) rfl ⟨⟨_,rfl,?_⟩,⟨_,rfl,?_⟩,⟨_,rfl,?_⟩,trivial⟩
           ·refine mq ?_;exact an s11 [0,1,2,3]
           ·refine mq ?_;exact an s42 [0,1,2,3]
           ·refine fl dM ?_;exact an s138 [0,1,2,3]
          have s34:K_ 8 [false,true,false,false,false,true,false,false,false,false] [(39,.eq (.int .u8 c)),(43,I y7.2)] [.inv z4.2 (aL k q3),.obj b1 25 (.rep aj a0),.obj z4.1 123 (am q3 z4.2),.sl z8 3 Ti y7.1]:=by
           subst hK hJ;refine JD.step [0,3,7] (by kernel_rfl) rfl ⟨⟨_,rfl,?_⟩,⟨_,rfl,?_⟩,⟨_,rfl,?_⟩,trivial⟩
           ·refine mq ?_;exact an s35 [0,1,2,3]
           ·refine mq ?_;exact an s42 [0,1,2,3]
           ·refine fl dM ?_;exact an s162 [0,1,2,3]
          have s130:K_ 8 [false,true,false,false,false,false,false,true,false,false] [(39,.eq (.int .u8 c)),(45,.eq (.pointer (some ⟨b1,2,none⟩)))] [.inv z4.2 (aL k q3),.obj b1 25 (.rep aj a0),.obj z4.1 123 (am q3 z4.2),.sl z8 3 Ti y7.1]:=by
           subst hK hJ;refine JD.step [0,3,5,8] (by kernel_rfl) rfl ⟨⟨_,rfl,?_⟩,⟨_,rfl,?_⟩,⟨_,rfl,?_⟩,⟨_,rfl,?_⟩,trivial⟩
           ·refine mq ?_;exact an s131 [0,1,2,3]
           ·refine mq ?_;exact an s138 [0,1,2,3]
           ·refine mq ?_;exact an s162 [0,1,2,3]
           ·refine fr 1 ?_;refine lo bV ?_;exact an s386 [1,0,2,3]
          have s40:K_ 8 [false,false,false,true,false,true,false,false,false,false] [(14,.eq (.int .u8 c)),(41,I a1),(43,I y7.2)] [.inv z4.2 (aL k q3),.obj b1 25 (.rep aj a0),.obj z4.1 123 (am q3 z4.2),.sl z8 3 Ti y7.1]:=by
           subst hK hJ;refine JD.step [0,1,7] (by kernel_rfl) rfl ⟨⟨_,rfl,?_⟩,⟨_,rfl,?_⟩,⟨_,rfl,?_⟩,trivial⟩
           ·refine mq ?_;exact an s41 [0,1,2,3]
           ·refine mq ?_;exact an s42 [0,1,2,3]
           ·refine fl dM ?_;exact an s168 [0,1,2,3]
          have s136:K_ 8 [false,false,false,true,false,false,false,true,false,false] [(14,.eq (.int .u8 c)),(41,I a1),(45,.eq (.pointer (some ⟨b1,2,none⟩)))] [.inv z4.2 (aL k q3),.obj b1 25 (.rep aj a0),.obj z4.1 123 (am q3 z4.2),.sl z8 3 Ti y7.1]:=by
           subst hK hJ;refine JD.step [0,1,5,8] (by kernel_rfl) rfl ⟨⟨_,rfl,?_⟩,⟨_,rfl,?_⟩,⟨_,rfl,?_⟩,⟨_,rfl,?_⟩,trivial⟩
           ·refine mq ?_;exact an s137 [0,1,2,3]
           ·refine mq ?_;exact an s138 [0,1,2,3]
           ·refine mq ?_;exact an s168 [0,1,2,3]
           ·refine fr 1 ?_;refine lo bV ?_;exact an s392 [1,0,2,3]
          have s160:K_ 8 [false,false,false,false,false,true,false,true,false,false] [(14,.eq (.int .u8 c)),(43,I y7.2),(45,.eq (.pointer (some ⟨b1,2,none⟩)))] [.inv z4.2 (aL k q3),.obj b1 25 (.rep aj a0),.obj z4.1 123 (am q3 z4.2),.sl z8 3 Ti y7.1]:=by
           subst hK hJ;refine JD.step [0,1,3,8] (by kernel_rfl) rfl ⟨⟨_,rfl,?_⟩,⟨_,rfl,?_⟩,⟨_,rfl,?_⟩,⟨_,rfl,?_⟩,trivial⟩
           ·refine mq ?_;exact an s161 [0,1,2,3]
           ·refine mq ?_;exact an s162 [0,1,2,3]
           ·refine mq ?_;exact an s168 [0,1,2,3]
           ·refine fr 1 ?_;refine lo bV ?_;exact an s416 [1,0,2,3]
          have s384:K_ 8 [false,false,false,false,false,false,false,true,true,false] [(14,.eq (.int .u8 c)),(46,I a0.2.2.1)] [.inv z4.2 (aL k q3),.obj b1 25 (.rep aj a0),.obj z4.1 123 (am q3 z4.2),.sl z8 3 Ti y7.1]:=by
           subst hK hJ;refine JD.step [0,1,3,5] (by kernel_rfl) rfl ⟨⟨_,rfl,?_⟩,⟨_,rfl,?_⟩,⟨_,rfl,?_⟩,⟨_,rfl,?_⟩,trivial⟩
           ·refine mq ?_;exact an s385 [0,1,2,3]
           ·refine mq ?_;exact an s386 [0,1,2,3]
           ·refine mq ?_;exact an s392 [0,1,2,3]
           ·refine mq ?_;exact an s416 [0,1,2,3]
          have s1:K_ 9 [true,false,false,false,false,false,false,false,false,false] [(14,.eq (.int .u8 c)),(38,.eq (.pointer (some ⟨z4.1,0,none⟩)))] [.inv z4.2 (aL k q3),.obj b1 25 (.rep aj a0),.obj z4.1 123 (am q3 z4.2),.sl z8 3 Ti y7.1]:=by
           subst hK hJ;refine JD.step [1,3,5,7] (by kernel_rfl) rfl ⟨⟨_,rfl,?_⟩,⟨_,rfl,?_⟩,⟨_,rfl,?_⟩,⟨_,rfl,?_⟩,trivial⟩
           ·refine mq ?_;exact an s3 [0,1,2,3]
           ·refine mq ?_;exact an s9 [0,1,2,3]
           ·refine mq ?_;exact an s33 [0,1,2,3]
           ·refine fl dM ?_;exact an s129 [0,1,2,3]
          have s2:K_ 9 [false,true,false,false,false,false,false,false,false,false] [(39,.eq (.int .u8 c))] [.inv z4.2 (aL k q3),.obj b1 25 (.rep aj a0),.obj z4.1 123 (am q3 z4.2),.sl z8 3 Ti y7.1]:=by
           subst hK hJ;refine JD.step [0,3,5,7] (by kernel_rfl) rfl ⟨⟨_,rfl,?_⟩,⟨_,rfl,?_⟩,⟨_,rfl,?_⟩,⟨_,rfl,?_⟩,trivial⟩
           ·refine mq ?_;exact an s3 [0,1,2,3]
           ·refine mq ?_;exact an s10 [0,1,2,3]
           ·refine mq ?_;exact an s34 [0,1,2,3]
           ·refine fl dM ?_;exact an s130 [0,1,2,3]
          have s8:K_ 9 [false,false,false,true,false,false,false,false,false,false] [(14,.eq (.int .u8 c)),(41,I a1)] [.inv z4.2 (aL k q3),.obj b1 25 (.rep aj a0),.obj z4.1 123 (am q3 z4.2),.sl z8 3 Ti y7.1]:=by
           subst hK hJ;refine JD.step [0,1,5,7] (by kernel_rfl) rfl ⟨⟨_,rfl,?_⟩,⟨_,rfl,?_⟩,⟨_,rfl,?_⟩,⟨_,rfl,?_⟩,trivial⟩
           ·refine mq ?_;exact an s9 [0,1,2,3]
           ·refine mq ?_;exact an s10 [0,1,2,3]
           ·refine mq ?_;exact an s40 [0,1,2,3]
           ·refine fl dM ?_;exact an s136 [0,1,2,3]
          have s32:K_ 9 [false,false,false,false,false,true,false,false,false,false] [(14,.eq (.int .u8 c)),(43,I y7.2)] [.inv z4.2 (aL k q3),.obj b1 25 (.rep aj a0),.obj z4.1 123 (am q3 z4.2),.sl z8 3 Ti y7.1]:=by
           subst hK hJ;refine JD.step [0,1,3,7] (by kernel_rfl) rfl ⟨⟨_,rfl,?_⟩,⟨_,rfl,?_⟩,⟨_,rfl,?_⟩,⟨_,rfl,?_⟩,trivial⟩
           ·refine mq ?_;exact an s33 [0,1,2,3]
           ·refine mq ?_;exact an s34 [0,1,2,3]
           ·refine mq ?_;exact an s40 [0,1,2,3]
           ·refine fl dM ?_;exact an s160 [0,1,2,3]
          have s128:K_ 9 [false,false,false,false,false,false,false,true,false,false] [(14,.eq (.int .u8 c)),(45,.eq (.pointer (some ⟨b1,2,none⟩)))] [.inv z4.2 (aL k q3),.obj b1 25 (.rep aj a0),.obj z4.1 123 (am q3 z4.2),.sl z8 3 Ti y7.1]:=by
           subst hK hJ;refine JD.step [0,1,3,5,8] (by kernel_rfl) rfl ⟨⟨_,rfl,?_⟩,⟨_,rfl,?_⟩,⟨_,rfl,?_⟩,⟨_,rfl,?_⟩,⟨_,rfl,?_⟩,trivial⟩
           ·refine mq ?_;exact an s129 [0,1,2,3]
           ·refine mq ?_;exact an s130 [0,1,2,3]
           ·refine mq ?_;exact an s136 [0,1,2,3]
           ·refine mq ?_;exact an s160 [0,1,2,3]
           ·refine fr 1 ?_;refine lo bV ?_;exact an s384 [1,0,2,3]
          have s0:K_ 10 [false,false,false,false,false,false,false,false,false,false] [(14,.eq (.int .u8 c))] [.obj b1 25 (.rep aj a0),.obj z4.1 123 (am q3 z4.2),.sl z8 3 Ti y7.1,.inv z4.2 (aL k q3)]:=by
           subst hK hJ;refine JD.step [0,1,3,5,7] (by kernel_rfl) rfl ⟨⟨_,rfl,?_⟩,⟨_,rfl,?_⟩,⟨_,rfl,?_⟩,⟨_,rfl,?_⟩,⟨_,rfl,?_⟩,trivial⟩
           ·refine mq ?_;exact an s1 [3,0,1,2]
           ·refine mq ?_;exact an s2 [3,0,1,2]
           ·refine mq ?_;exact an s8 [3,0,1,2]
           ·refine mq ?_;exact an s32 [3,0,1,2]
           ·refine fl dM ?_;exact an s128 [3,0,1,2]
          subst hK;exact s0
         rintro⟨⟩;show JN _ _ [(1,I a1),(2,Pt b1),(7,.eq (.pointer (some ⟨z4.1,0,none⟩))),(8,.rep (.slice (.int .u8)) r2.2.1),(10,.eq z8),(11,I y7.2),(12,I s.1),(28,I a0.1),(29,I y7.2),(32,.rep (.slice (.int .u8)) r2.2.1),(33,I (r2.2.1.length:Int)),(34,I s.2),(47,.eq (.bool (decide (a0.2.2.1≤M))))] [.inv z4.2 (aL k q3),.obj b1 25 (.rep aj a0),.obj z4.1 123 (am q3 z4.2),.sl z8 3 Ti y7.1];refine tn (ci h (fun h=>?_) (fun h=>?_))
         ·refine ae (mq ?_);obtain⟨UD,Uw,h⟩:=aa h;refine jb (bA rfl Uw) ?_;refine au ?_;exact jz ((),UD) h [1,2,3,0]
         ·refine au ?_;exact jz ((),s.1) h [1,2,3,0]
        ·refine ae ?_;obtain⟨UC,Uu,h⟩:=aa h;refine jb (bA rfl Uu) ?_;refine au ?_;exact jz ((),(U,UC)) h [0,1,2,3]
       ·refine au ?_;exact jz ((),s.1) h [0,1,2,3]
      ·refine ae (au ?_);refine ol vW ?_;refine mq ?_;obtain⟨mw,zz,h⟩:=aa h;refine jb (d4 rfl zz) ?_;refine jb (Hg rfl rfl) ?_;refine ja (bg (t:=Ti) [(.tmp 57,_)] [sF O mw] rfl rfl dG (.cons rfl .int .nil) rfl rfl) ?_;obtain⟨UH,Uy,h⟩:=aa h;refine fr 2 ?_;refine dU rfl rfl rfl (cj rfl rfl dG (ao Uy)) ⟨rfl,rfl,trivial⟩ fun UE=>?_;refine au ?_;exact jz (UE,y7.1++[sF O mw]) h [1,2,0,3]
     ·refine ae ?_;obtain⟨UB,qt,h⟩:=aa h;refine jb (bA rfl qt) ?_;refine au ?_;exact jz (E,(x9,UB)) h [0,1,2,3]
    ·refine au ?_;exact jz (z8,y7.1) h [2,3]
   ·refine au ?_;obtain⟨Y,UA,h⟩:=aa h;refine ka (lA (N:=[(.tmp 61,.eq z6)]) (ay [.tmp 61] rfl rfl QG rfl (nV k x5 Y UA)) (fun _ _ _ hv hn=>⟨(lend hn.1 hv),trivial⟩) (fun _=>⟨rfl,oD⟩)) ?_;refine au ?_;refine ol vW ?_;refine jb (kx rfl) ?_;refine nt (ci h (fun h=>?_) (fun h=>?_))
    ·refine au ?_;cases h;exact aM () [_,_,_] 0 ⟨rfl,rfl,rfl,trivial⟩ rfl
    ·refine au ?_;obtain⟨UF,Uz,h⟩:=aa h;refine kb (lA (N:=[(.tmp 67,.eq z6),(.tmp 68,I Y)]) (ay [.tmp 67,.tmp 68] rfl rfl QF rfl (mr k x5 Y UF Uz)) (fun _ _ _ hv hn=>⟨(lend hn.1 hv),hn.2.1,trivial⟩) (fun _=>⟨rfl,oD⟩)) ?_;refine au ?_;cases h;exact aM () [_,_,_] 0 ⟨rfl,rfl,rfl,trivial⟩ rfl
def jF(k:Nat)(a1:Int)(a2:Int)(y4:(List (List (List Int)))×Int)(h:(List Int)):Nat→((List Int)×Int)→Option (List Int)
 |0,_=>none
 |n+1,c=>
  if c.2 < (h.length:Int) then((((aO h c.2).bind fun e=>
  ((if y4.2 < a1 then(some true) else((eP k a2 e).bind fun s=>
  some (!s))):Option (Bool)).bind fun l=>
  if l=true then((cF (bK (List.length c.1+List.length [e]))).bind fun _=>
  some (c.1++[e])) else(some c.1)):Option ((List Int))).bind fun r=>
  (ck (c.2+1)).bind fun j=>
  jF k a1 a2 y4 h n (r,j)) else(some c.1)
def jG(k:Nat)(a1:Int)(a2:Int)(y4:(List (List (List Int)))×Int)(x8:(List (List Int))):Nat→((List (List Int))×Int)→Option (List (List Int))
 |0,_=>none
 |n+1,c=>
  if c.2 < (x8.length:Int) then((((aO x8 c.2).bind fun j=>
  ((jF k a1 a2 y4 j k (([]:(List Int)),0)):Option ((List Int))).bind fun e=>
  (cF (bK (List.length c.1+List.length [e]))).bind fun _=>
  some (c.1++[e])):Option ((List (List Int)))).bind fun l=>
  (ck (c.2+1)).bind fun h=>
  jG k a1 a2 y4 x8 n (l,h)) else(some c.1)
def jH(k:Nat)(a0:ag)(a1:Int)(a2:Int):Nat→((List (List (List Int)))×Int)→Option (List (List (List Int)))
 |0,_=>none
 |n+1,y4=>
  if y4.2 < (a0.2.2.2.2.1.length:Int) then((((aO a0.2.2.2.2.1 y4.2).bind fun x8=>
  ((jG k a1 a2 y4 x8 k (([]:(List (List Int))),0)):Option ((List (List Int)))).bind fun x9=>
  (cF (bK (List.length y4.1+List.length [x9]))).bind fun _=>
  some (y4.1++[x9])):Option ((List (List (List Int))))).bind fun x6=>
  (ck (y4.2+1)).bind fun c=>
  jH k a0 a1 a2 n (x6,c)) else(some y4.1)
def nf(k:Nat)(a0:ag)(a1:Int)(a2:Int):Option (Option ag):=
 ((jH k a0 a1 a2 k (([]:(List (List (List Int)))),0)):Option ((List (List (List Int))))).bind fun x2=>
 (iS k (a0.1,a0.2.1,a0.2.2.1,a0.2.2.2.1,x2,a0.2.2.2.2.2)).bind fun c=>
 fN c (some none) (fun e=>some (some e))
theorem vP(k:Nat)(a0:ag)(a1:Int)(a2:Int)(r:(Option ag))(h:nf k a0 a1 a2=some r):
 de Tryz.prog 65 [.rep aj a0,I a1,.eq (.int .u8 a2)] [] (fun z:Nat×Nat=>(bv [J6 r z.1],J5 r fun q=>qC q z.1 z.2 k)):=by
 unfold nf at h
 replace h:=aY h
 refine de.of 69 Tryz.func65 rfl Tryz.ntmps65 rfl fun S w0=>?_
 refine sr ?_
 refine bx fun b1=>?_
 refine au ?_
 refine fl eG ?_
 refine lo lG ?_
 refine mq ?_
 refine ja (pT [.tmp 19] [] [(.int .u8 a2)] [] rfl rfl rfl) ?_
 refine au ?_
 refine fl eG ?_
 refine aR rfl rfl (aP rfl lG rfl rfl rfl) ⟨rfl,rfl,trivial⟩ ?_
 refine nt ?_
 refine aI (Z:=Value) (α:=(List (List (List Int)))) (fun z3 x2=>[(3,Pt b1)]) (fun z3 x2=>[.obj b1 25 (.agg (.pair (I a0.1) (.pair (I a0.2.1) (.pair (I a0.2.2.1) (.pair (I a0.2.2.2.1) (.pair (.eq z3) (Rs aZ a0.2.2.2.2.2))))))),.sl z3 36 (.slice Tl) x2]) h (fun K h=>?_) (fun z3 x2 h=>?_)
 ·
  refine au ?_;refine ol AM ?_;refine fa rfl ?_;refine nt (ak (jf (SE.nil 36 (.slice Tl)) ?_));refine dN 1 rfl ?_;refine jf (iv (a:=.agg (.pair (.rep Ti a0.1) (.pair (.rep Ti a0.2.1) (.pair (.rep Ti a0.2.2.1) (.pair (.rep Ti a0.2.2.2.1) (.pair (.eq (.slice none 0 0)) (Rs aZ a0.2.2.2.2.2))))))) (a':=.agg (.pair (I a0.1) (.pair (I a0.2.1) (.pair (I a0.2.2.1) (.pair (I a0.2.2.2.1) (.pair (.eq (.slice none 0 0)) (Rs aZ a0.2.2.2.2.2))))))) (AE.agg (AE.pair AE.int (AE.pair AE.int (AE.pair AE.int (AE.pair AE.int AE.rfl)))))) ?_;refine aK (fun z5 y4=>[(1,I a1),(3,Pt b1),(8,.eq (.func (.func 80) #[(.int .u8 a2)] #[])),(22,.rep (.slice (.slice Tl)) a0.2.2.2.2.1),(23,I (a0.2.2.2.2.1.length:Int)),(24,I y4.2)]) (fun z5 y4=>[.obj b1 25 (.agg (.pair (I a0.1) (.pair (I a0.2.1) (.pair (I a0.2.2.1) (.pair (I a0.2.2.2.1) (.pair (.eq z5) (Rs aZ a0.2.2.2.2.2))))))),.sl z5 36 (.slice Tl) y4.1]) (jH k a0 a1 a2) k (.slice none 0 0) (([]:(List (List (List Int)))),0) (fun _=>rfl) h (SE.fin [0,1] ⟨rfl,rfl,rfl,rfl,rfl,rfl,trivial⟩ rfl) (fun n z5 y4 h=>?_);unfold jH at h;refine sr (jb (bB rfl) ?_);refine au ?_;refine ci h (fun h=>?_) (fun h=>?_)
  ·refine sk (aI (Z:=Value) (α:=(List (List (List Int)))) (fun z7 x6=>[(1,I a1),(3,Pt b1),(8,.eq (.func (.func 80) #[(.int .u8 a2)] #[])),(22,.rep (.slice (.slice Tl)) a0.2.2.2.2.1),(23,I (a0.2.2.2.2.1.length:Int)),(24,I y4.2)]) (fun z7 x6=>[.obj b1 25 (.agg (.pair (I a0.1) (.pair (I a0.2.1) (.pair (I a0.2.2.1) (.pair (I a0.2.2.2.1) (.pair (.eq z7) (Rs aZ a0.2.2.2.2.2))))))),.sl z7 36 (.slice Tl) x6]) h (fun K h=>?_) (fun z7 x6 h=>?_))
   ·refine ak (au ?_);obtain⟨x8,UJ,h⟩:=aa h;refine jb (aS (t:=(.slice Tl)) rfl AM yT UJ) ?_;refine ja (av (t:=(.slice Tl)) rfl yT rfl) ?_;refine aq ?_;refine aq (nt (sr ?_));refine cq (nt ?_);refine aI (Z:=Value) (α:=(List (List Int))) (fun Q x9=>[(1,I a1),(3,Pt b1),(8,.eq (.func (.func 80) #[(.int .u8 a2)] #[])),(11,.eq Q),(22,.rep (.slice (.slice Tl)) a0.2.2.2.2.1),(23,I (a0.2.2.2.2.1.length:Int)),(24,I y4.2)]) (fun Q x9=>[.obj b1 25 (.agg (.pair (I a0.1) (.pair (I a0.2.1) (.pair (I a0.2.2.1) (.pair (I a0.2.2.2.1) (.pair (.eq z5) (Rs aZ a0.2.2.2.2.2))))))),.sl z5 36 (.slice Tl) y4.1,.sl Q 28 Tl x9]) h (fun K h=>?_) (fun Q x9 h=>?_)
    ·refine au ?_;refine ol qy ?_;refine fa rfl ?_;refine nt (ak (jf (SE.nil 28 Tl) ?_));refine aK (fun e c=>[(1,I a1),(3,Pt b1),(8,.eq (.func (.func 80) #[(.int .u8 a2)] #[])),(9,I y4.2),(11,.eq e),(22,.rep (.slice (.slice Tl)) a0.2.2.2.2.1),(23,I (a0.2.2.2.2.1.length:Int)),(24,I y4.2),(29,.rep (.slice Tl) x8),(30,I (x8.length:Int)),(31,I c.2)]) (fun e c=>[.obj b1 25 (.agg (.pair (I a0.1) (.pair (I a0.2.1) (.pair (I a0.2.2.1) (.pair (I a0.2.2.2.1) (.pair (.eq z5) (Rs aZ a0.2.2.2.2.2))))))),.sl z5 36 (.slice Tl) y4.1,.sl e 28 Tl c.1]) (jG k a1 a2 y4 x8) k (.slice none 0 0) (([]:(List (List Int))),0) (fun _=>rfl) h (SE.fin [1,2,0] ⟨rfl,rfl,rfl,rfl,rfl,rfl,rfl,rfl,rfl,rfl,rfl,trivial⟩ rfl) (fun n e c h=>?_);unfold jG at h;refine sr (jb (bB rfl) ?_);refine au ?_;refine ci h (fun h=>?_) (fun h=>?_)
     ·refine sk (aI (Z:=Value) (α:=(List (List Int))) (fun E X=>[(1,I a1),(3,Pt b1),(8,.eq (.func (.func 80) #[(.int .u8 a2)] #[])),(9,I y4.2),(11,.eq E),(22,.rep (.slice (.slice Tl)) a0.2.2.2.2.1),(23,I (a0.2.2.2.2.1.length:Int)),(24,I y4.2),(29,.rep (.slice Tl) x8),(30,I (x8.length:Int)),(31,I c.2)]) (fun E X=>[.obj b1 25 (.agg (.pair (I a0.1) (.pair (I a0.2.1) (.pair (I a0.2.2.1) (.pair (I a0.2.2.2.1) (.pair (.eq z5) (Rs aZ a0.2.2.2.2.2))))))),.sl z5 36 (.slice Tl) y4.1,.sl E 28 Tl X]) h (fun K h=>?_) (fun E X h=>?_))
      ·refine ak (sr ?_);obtain⟨u,Ux,h⟩:=aa h;refine jb (aS (t:=Tl) rfl qy gh Ux) ?_;refine ja (av (t:=Tl) rfl gh rfl) ?_;refine aq (nt (sr ?_));refine cq (nt ?_);refine aI (Z:=Value) (α:=(List Int)) (fun O M=>[(1,I a1),(3,Pt b1),(8,.eq (.func (.func 80) #[(.int .u8 a2)] #[])),(9,I y4.2),(11,.eq e),(14,.eq O),(22,.rep (.slice (.slice Tl)) a0.2.2.2.2.1),(23,I (a0.2.2.2.2.1.length:Int)),(24,I y4.2),(29,.rep (.slice Tl) x8),(30,I (x8.length:Int)),(31,I c.2)]) (fun O M=>[.obj b1 25 (.agg (.pair (I a0.1) (.pair (I a0.2.1) (.pair (I a0.2.2.1) (.pair (I a0.2.2.2.1) (.pair (.eq z5) (Rs aZ a0.2.2.2.2.2))))))),.sl z5 36 (.slice Tl) y4.1,.sl e 28 Tl c.1,.sl O 3 Ti M]) h (fun K h=>?_) (fun O M h=>?_)
       ·refine au ?_;refine ol iu ?_;refine fa rfl ?_;refine nt (ak (jf (SE.nil 3 Ti) ?_));refine aK (fun l j=>[(1,I a1),(3,Pt b1),(8,.eq (.func (.func 80) #[(.int .u8 a2)] #[])),(9,I y4.2),(11,.eq e),(14,.eq l),(22,.rep (.slice (.slice Tl)) a0.2.2.2.2.1),(23,I (a0.2.2.2.2.1.length:Int)),(24,I y4.2),(29,.rep (.slice Tl) x8),(30,I (x8.length:Int)),(31,I c.2),(35,.rep Tl u),(36,I (u.length:Int)),(37,I j.2)]) (fun l j=>[.obj b1 25 (.agg (.pair (I a0.1) (.pair (I a0.2.1) (.pair (I a0.2.2.1) (.pair (I a0.2.2.2.1) (.pair (.eq z5) (Rs aZ a0.2.2.2.2.2))))))),.sl z5 36 (.slice Tl) y4.1,.sl e 28 Tl c.1,.sl l 3 Ti j.1]) (jF k a1 a2 y4 u) k (.slice none 0 0) (([]:(List Int)),0) (fun _=>rfl) h (SE.fin [1,2,3,0] ⟨rfl,rfl,rfl,rfl,rfl,rfl,rfl,rfl,rfl,rfl,rfl,rfl,rfl,rfl,rfl,trivial⟩ rfl) (fun n l j h=>?_);unfold jF at h;refine sr (jb (bB rfl) ?_);refine au ?_;refine ci h (fun h=>?_) (fun h=>?_)
        ·refine sk (aI (Z:=Value) (α:=(List Int)) (fun D U=>[(1,I a1),(3,Pt b1),(8,.eq (.func (.func 80) #[(.int .u8 a2)] #[])),(9,I y4.2),(11,.eq e),(14,.eq D),(22,.rep (.slice (.slice Tl)) a0.2.2.2.2.1),(23,I (a0.2.2.2.2.1.length:Int)),(24,I y4.2),(29,.rep (.slice Tl) x8),(30,I (x8.length:Int)),(31,I c.2),(35,.rep Tl u),(36,I (u.length:Int)),(37,I j.2)]) (fun D U=>[.obj b1 25 (.agg (.pair (I a0.1) (.pair (I a0.2.1) (.pair (I a0.2.2.1) (.pair (I a0.2.2.2.1) (.pair (.eq z5) (Rs aZ a0.2.2.2.2.2))))))),.sl z5 36 (.slice Tl) y4.1,.sl e 28 Tl c.1,.sl D 3 Ti U]) h (fun K h=>?_) (fun D U h=>?_))
         ·refine ak (sr ?_);obtain⟨J,Uw,h⟩:=aa h;refine jb (aS (t:=Ti) rfl iu bV Uw) ?_;refine ja (av (t:=Ti) rfl bV rfl) ?_;refine aq (nt ?_);refine aI (Z:=Unit) (α:=Bool) (fun gw gq=>[(1,I a1),(3,Pt b1),(8,.eq (.func (.func 80) #[(.int .u8 a2)] #[])),(9,I y4.2),(11,.eq e),(14,.eq l),(16,I J),(22,.rep (.slice (.slice Tl)) a0.2.2.2.2.1),(23,I (a0.2.2.2.2.1.length:Int)),(24,I y4.2),(29,.rep (.slice Tl) x8),(30,I (x8.length:Int)),(31,I c.2),(35,.rep Tl u),(36,I (u.length:Int)),(37,I j.2),(49,.eq (.bool gq))]) (fun gw gq=>[.obj b1 25 (.agg (.pair (I a0.1) (.pair (I a0.2.1) (.pair (I a0.2.2.1) (.pair (I a0.2.2.2.1) (.pair (.eq z5) (Rs aZ a0.2.2.2.2.2))))))),.sl z5 36 (.slice Tl) y4.1,.sl e 28 Tl c.1,.sl l 3 Ti j.1]) h (fun K h=>?_) (fun gw gq h=>?_)
          ·refine ae (au ?_);refine jb (bB rfl) ?_;refine mq ?_;refine cG (s:=44) rfl (fun hb=>?_) (fun hb=>?_)
           ·replace h:=fe (tU hb) h;refine au ?_;exact jz ((),true) h [0,1,2,3]
           ·replace h:=cS (tV hb) h;refine au ?_;obtain⟨mw,UC,h⟩:=aa h;refine gb (mZ (fs:=[(.int .u8 a2)]) (cs:=[]) (ags:=[I J]) [.tmp 46] rfl rfl Ik rfl (gy k a2 J mw UC)) ?_;refine ga (iE rfl) ?_;refine au ?_;exact jz ((), !mw) h [0,1,2,3]
          ·refine cv h (fun h=>?_) (fun h=>?_)
           ·refine ae (au ?_);refine ja (bg (t:=Ti) [(.tmp 51,_)] [J] rfl rfl dG (.cons rfl .int .nil) rfl rfl) ?_;obtain⟨UL,UA,h⟩:=aa h;refine fr 3 ?_;refine dU rfl rfl rfl (cj rfl rfl dG (ao UA)) ⟨rfl,rfl,trivial⟩ fun UI=>?_;refine au ?_;exact jz (UI,j.1++[J]) h [1,2,3,0]
           ·refine au ?_;exact jz (l,j.1) h [0,1,2,3]
         ·refine ae ?_;obtain⟨UF,Uu,h⟩:=aa h;refine jb (bA rfl Uu) ?_;refine au ?_;exact jz (D,(U,UF)) h [0,1,2,3]
        ·refine au ?_;exact jz (l,j.1) h [0,1,2,3]
       ·refine ae ?_;iterate 2 refine mq ?_
        refine fr 3 ?_;refine eC (gZ [14,56] ⟨rfl,rfl,trivial⟩) ?_;refine ja (bg (t:=Tl) [(.tmp 56,_)] [M] rfl rfl my (.cons rfl .rep .nil) rfl rfl) ?_;obtain⟨UK,Uz,h⟩:=aa h;refine fr 2 ?_;refine dU rfl rfl rfl (cj rfl rfl my (ao Uz)) ⟨rfl,rfl,trivial⟩ fun UH=>?_;refine au ?_;exact jz (UH,c.1++[M]) h [1,2,0]
      ·refine ae ?_;obtain⟨UE,zz,h⟩:=aa h;refine jb (bA rfl zz) ?_;refine au ?_;exact jz (E,(X,UE)) h [0,1,2]
     ·refine au ?_;exact jz (e,c.1) h [0,1,2]
    ·refine ae (fl eG ?_);refine lo lG ?_;refine mq ?_;refine fr 2 ?_;refine eC (gZ [11,62] ⟨rfl,rfl,trivial⟩) ?_;refine ja (bg (t:=(.slice Tl)) [(.tmp 62,_)] [x9] rfl rfl A4 (.cons rfl .rep .nil) rfl rfl) ?_;obtain⟨u32,Uy,h⟩:=aa h;refine fr 1 ?_;refine dU rfl rfl rfl (cj rfl rfl A4 (ao Uy)) ⟨rfl,rfl,trivial⟩ fun UG=>?_;refine fl eG ?_;refine sY fun o34=>?_;refine fr 1 ?_;refine aR rfl rfl (aP rfl lG o34 rfl rfl) ⟨rfl,rfl,trivial⟩ ?_;refine au ?_;exact jz (UG,y4.1++[x9]) h [0,1]
   ·refine ae ?_;obtain⟨UD,qt,h⟩:=aa h;refine jb (bA rfl qt) ?_;refine au ?_;exact jz (z7,(x6,UD)) h [0,1]
  ·refine au ?_;exact jz (z5,y4.1) h [0,1]
 ·
  refine sr (fr 1 ?_);refine eC (nv (off:=4) [] trivial rfl rfl) ?_;refine lo g9 ?_;obtain⟨mc,UB,h⟩:=aa h;have y:=nD k (a0.1,a0.2.1,a0.2.2.1,a0.2.2.2.1,x2,a0.2.2.2.2.2) mc UB;rcases hr:mc with _ |UM
  ·rw [hr] at h y;replace h:=u4 h;refine aD (Δ:=[]) (F:=_) (fun _ _ _=>ab rfl _) rfl rfl (bF (N:=[(.tmp 67,.agg (.pair (I a0.1) (.pair (I a0.2.1) (.pair (I a0.2.2.1) (.pair (I a0.2.2.2.1) (.pair (.rep (.slice (.slice Tl)) x2) (Rs aZ a0.2.2.2.2.2)))))))]) (ay [.tmp 67] rfl rfl Ld rfl y) fun _ _ _ hn=>⟨(aE (t:=aj) (x:=(a0.1,a0.2.1,a0.2.2.1,a0.2.2.2.1,x2,a0.2.2.2.2.2)) (.agg (.pair .int (.pair .int (.pair .int (.pair .int (.pair .rep .rep)))))) trivial rfl hn.1),trivial⟩) ⟨rfl,trivial⟩ fun _=>?_;refine au ?_;cases h;exact aM (0,0) [.eq (.pointer none)] 0 ⟨rfl,trivial⟩ rfl
  ·rw [hr] at h y;replace h:=uZ h;refine aD (Δ:=[]) (F:=_) (fun _ _ _=>ab rfl _) rfl rfl (bF (N:=[(.tmp 67,.agg (.pair (I a0.1) (.pair (I a0.2.1) (.pair (I a0.2.2.1) (.pair (I a0.2.2.2.1) (.pair (.rep (.slice (.slice Tl)) x2) (Rs aZ a0.2.2.2.2.2)))))))]) (ay [.tmp 67] rfl rfl Ld rfl y) fun _ _ _ hn=>⟨(aE (t:=aj) (x:=(a0.1,a0.2.1,a0.2.2.1,a0.2.2.2.1,x2,a0.2.2.2.2.2)) (.agg (.pair .int (.pair .int (.pair .int (.pair .int (.pair .rep .rep)))))) trivial rfl hn.1),trivial⟩) ⟨rfl,trivial⟩ fun Y=>?_;refine au ?_;cases h;exact aM (Y.1,Y.2) [.eq (.pointer (some ⟨Y.1,0,none⟩))] 2 ⟨rfl,trivial⟩ rfl
def eR(k:Nat)(a0:ag)(r1:(List (List Int)))(y5:Int):Nat→Int→Option (Except Bool Unit)
 |0,_=>none
 |n+1,c=>
  if c < a0.1 then((((aO r1 y5).bind fun s=>
  (aO s c).bind fun r=>
  if r < 0 then((ck (y5+1)).bind fun l=>
  (aO r1 l).bind fun j=>
  (aO j c).bind fun h=>
  some (decide (h=0))) else(some false)):Option (Bool)).bind fun u=>
  if u=true then(some (.error true)) else((ck (c+1)).bind fun e=>
  eR k a0 r1 y5 n e)) else(some (.ok ()))
def eS(k:Nat)(a0:ag)(r1:(List (List Int))):Nat→Int→Option (Except Bool Unit)
 |0,_=>none
 |n+1,y5=>
  if y5 < (a0.2.2.2.2.1.length:Int) then(bE (α:=Unit) ((ck (y5+1)).bind fun x9=>
  (aO r1 x9).bind fun h=>
  (aO r1 y5).bind fun c=>
  (cF (xo h∧xo c)).bind fun _=>
  if h=c then(some (.ok ())) else(eR k a0 r1 y5 k 0)) (fun e=>some (.error e)) fun _=>
  (ck (y5+1)).bind fun j=>
  eS k a0 r1 n j) else(some (.ok ()))
def iT(k:Nat)(a0:ag)(a1:Int)(a2:Int):Option Bool:=
 (lI k a0 a1).bind fun r1=>
 bE (α:=Unit) (eS k a0 r1 k a2) (some) fun _=>
 some false
theorem ot(k:Nat)(a0:ag)(c z_a0:Nat)(a1:Int)(a2:Int)(r:Bool)(h:iT k a0 a1 a2=some r):
 bQ (dC Tryz.prog) 67 [Pt c,.eq (.int .u8 a1),I a2] [.obj c 123 (am a0 z_a0),.inv z_a0 (aL k a0)] (fun _:Unit=>(bv [.eq (.bool r)],[.obj c 123 (am a0 z_a0),.inv z_a0 (aL k a0)])):=by
 unfold iT at h
 replace h:=aY h
 refine bQ.of 56 Tryz.func67 rfl Tryz.ntmps67 rfl fun S w0=>?_
 refine sr ?_
 refine cq ?_
 refine nt ?_
 refine sr ?_
 iterate 2 refine mq ?_
 obtain⟨r1,zz,h⟩:=aa h
 have Uu:=eY k a0 c z_a0 a1 r1 zz
 refine fr 1 ?_
 refine fr 1 ?_
 refine aD (Δ:=[_,_]) (F:=_) (fun _ _ _=>ab rfl _) rfl rfl (aJ [.tmp 10,.tmp 11] rfl rfl oH rfl Uu) ⟨rfl,rfl,trivial⟩ fun _=>?_
 refine aW rfl rfl rfl (bj rfl FN ID) trivial fun b2=>?_
 refine aR rfl rfl (aP rfl Gy rfl rfl rfl) ⟨rfl,rfl,trivial⟩ ?_
 refine eC (jw (t:=(.arr 7 Tr)) (x:=r1) [7] .rep ⟨rfl,trivial⟩) ?_
 refine nt ?_
 refine dx (Z:=Unit) (α:=Unit) (fun z4 x3=>[]) (fun z4 x3=>[.obj c 123 (am a0 z_a0),.inv z_a0 (aL k a0)]) (fun e=>e=r) h (fun e h=>Option.some.inj h) (fun K hR h=>?_) (fun z4 x3 h=>?_)
 ·
  refine au ?_;refine ak (aK (fun z6 y5=>[(0,Pt c),(7,.at (.arr 7 Tr) r1),(8,I y5)]) (fun z6 y5=>[.obj c 123 (am a0 z_a0),.inv z_a0 (aL k a0)]) (eS k a0 r1) k () a2 (fun _=>rfl) h (SE.fin [0,1] ⟨rfl,rfl,rfl,trivial⟩ rfl) (fun n z6 y5 h=>?_));unfold eS at h;refine au ?_;refine ja (cH rfl) ?_;refine fl gP ?_;refine fl eG ?_;refine lo lG ?_;refine ol AM ?_;refine jb (bB rfl) ?_;refine nt (ci h (fun h=>?_) (fun h=>?_))
  ·refine sk (dx (Z:=Unit) (α:=Unit) (fun z8 x7=>[(0,Pt c),(7,.at (.arr 7 Tr) r1),(8,I y5)]) (fun z8 x7=>[.obj c 123 (am a0 z_a0),.inv z_a0 (aL k a0)]) (fun e=>e=r) h (fun e h=>hR e h) (fun K hR h=>?_) (fun z8 x7 h=>?_))
   ·refine ak (au ?_);refine cK ?_;refine dm ?_;obtain⟨x9,qt,h⟩:=aa h;refine db (bA rfl qt) ?_;obtain⟨UB,gq,h⟩:=aa h;refine db (bZ (t:=Tr) rfl Cj gV gq) ?_;refine da (av (t:=Tr) rfl gV rfl) ?_;refine dm ?_;obtain⟨UA,Y,h⟩:=aa h;refine db (bZ (t:=Tr) rfl Cj gV Y) ?_;refine da (av (t:=Tr) rfl gV rfl) ?_;refine df dW ?_;obtain⟨UC,l,h⟩:=aa h;refine jb (Hi rfl (ao l).1 (ao l).2) ?_;refine nt (ci h (fun h=>?_) (fun h=>?_))
    ·refine au ?_;exact jz ((),()) h [0,1]
    ·refine au ?_;refine ja (cH rfl) ?_;refine fl gP ?_;refine fl gX ?_;refine lo bV ?_;refine fa rfl ?_;refine nt (ak (aK (fun D j=>[(0,Pt c),(7,.at (.arr 7 Tr) r1),(8,I y5),(36,I a0.1),(37,I j)]) (fun D j=>[.obj c 123 (am a0 z_a0),.inv z_a0 (aL k a0)]) (eR k a0 r1 y5) k () 0 (fun _=>rfl) h (SE.fin [0,1] ⟨rfl,rfl,rfl,rfl,rfl,trivial⟩ rfl) (fun n D j h=>?_)));unfold eR at h;refine sr (jb (bB rfl) ?_);refine au ?_;refine ci h (fun h=>?_) (fun h=>?_)
     ·refine au ?_;refine ak (sr (mq ?_));refine aq (nt ?_);refine aI (Z:=Unit) (α:=Bool) (fun y u=>[(0,Pt c),(7,.at (.arr 7 Tr) r1),(8,I y5),(36,I a0.1),(37,I j),(54,.eq (.bool u))]) (fun y u=>[.obj c 123 (am a0 z_a0),.inv z_a0 (aL k a0)]) h (fun K h=>?_) (fun y u h=>?_)
      ·refine ae (au ?_);obtain⟨Uz,X,h⟩:=aa h;refine jb (bZ (t:=Tr) rfl Cj gV X) ?_;obtain⟨Uy,U,h⟩:=aa h;refine jb (bZ (t:=Ti) rfl An bV U) ?_;refine ja (av (t:=Ti) rfl bV rfl) ?_;refine jb (bB rfl) ?_;refine mq ?_;refine cG (s:=46) rfl (fun hb=>?_) (fun hb=>?_)
       ·replace h:=fe (tU hb) h;refine gm ?_;obtain⟨Ux,Q,h⟩:=aa h;refine gb (bA rfl Q) ?_;refine gm ?_;obtain⟨Uw,O,h⟩:=aa h;refine gb (bZ (t:=Tr) rfl Cj gV O) ?_;obtain⟨mw,M,h⟩:=aa h;refine gb (bZ (t:=Ti) rfl An bV M) ?_;refine ga (av (t:=Ti) rfl bV rfl) ?_;refine gb (hP rfl) ?_;refine au ?_;exact jz ((),decide (mw=0)) h [0,1]
       ·replace h:=cS (tV hb) h;refine au ?_;exact jz ((),false) h [0,1]
      ·refine cv h (fun h=>?_) (fun h=>?_)
       ·refine au ?_;obtain rfl:=hR _ h;exact aM () [_] 2 ⟨rfl,trivial⟩ rfl
       ·refine au ?_;refine ae ?_;obtain⟨mc,J,h⟩:=aa h;refine jb (bA rfl J) ?_;refine au ?_;exact jz ((),mc) h [0,1]
     ·refine au ?_;exact jz ((),()) h [0,1]
   ·refine ae (mq ?_);obtain⟨gw,E,h⟩:=aa h;refine jb (bA rfl E) ?_;refine au ?_;exact jz ((),gw) h [0,1]
  ·refine au ?_;exact jz ((),()) h [0,1]
 ·
  refine au ?_;cases h;exact aM () [_] 2 ⟨rfl,trivial⟩ rfl
def nh(k:Nat)(a0:Int)(a1:ag)(a2:Int):Option Bool:=
 (iT k a1 a0 a2).bind fun r1=>
 some r1
theorem tC(k:Nat)(a0:Int)(a1:ag)(c z_a1 j:Nat)(a2:Int)(e:Nat)(r:Bool)(h:nh k a0 a1 a2=some r):
 bQ (dC Tryz.prog) 66 [.eq (.int .u8 a0),Pt j,Pt e] [.obj c 123 (am a1 z_a1),.inv z_a1 (aL k a1),.obj j 70 (Pt c),.obj e 3 (I a2)] (fun _:Unit=>(bv [.eq (.bool r)],[.obj c 123 (am a1 z_a1),.inv z_a1 (aL k a1),.obj j 70 (Pt c),.obj e 3 (I a2)])):=by
 unfold nh at h
 replace h:=aY h
 refine bQ.of 9 Tryz.func66 rfl Tryz.ntmps66 rfl fun S w0=>?_
 refine sr ?_
 refine cq ?_
 refine nt ?_
 refine sr ?_
 refine fr 2 ?_
 refine lo JH ?_
 refine mq ?_
 refine fr 3 ?_
 refine lo bV ?_
 obtain⟨r1,l,h⟩:=aa h
 have n:=ot k a1 c z_a1 a0 a2 r1 l
 refine fr 3 ?_
 refine fr 3 ?_
 refine aD (Δ:=[_,_]) (F:=_) (fun _ _ _=>ab rfl _) rfl rfl (aJ [.tmp 5,.tmp 6,.tmp 7] rfl rfl SS rfl n) ⟨rfl,rfl,rfl,trivial⟩ fun _=>?_
 refine aq ?_
 refine nt ?_
 refine dw ?_
 refine bL (SE.fin (Γ':=[(4,_)]) [0,1,3,2] ⟨rfl,trivial⟩ rfl) ?_
 cases h
 exact aM () [_] 4 ⟨rfl,trivial⟩ rfl
def eL(k:Nat)(a0:(List Int))(a1_0:ag)(a1_1:Int):Nat→Int→Option (Except Int Unit)
 |0,_=>none
 |n+1,y3=>
  if y3 < (a0.length:Int) then((aO a0 y3).bind fun x5=>
  (nh k x5 a1_0 a1_1).bind fun r6=>
  if r6=true then(some (.error y3)) else((ck (y3+1)).bind fun x7=>
  eL k a0 a1_0 a1_1 n x7)) else(some (.ok ()))
def iP(k:Nat)(a0:(List Int))(a1_0:ag)(a1_1:Int):Option Int:=
 bE (α:=Unit) (eL k a0 a1_0 a1_1 k 0) (some) fun _=>
 some (-1:Int)
theorem nX(k:Nat)(a0:(List Int))(a1_0:ag)(b_a1_0 z_a1_0 c_a1_0:Nat)(a1_1:Int)(c_a1_1:Nat)(r:Int)(h:iP k a0 a1_0 a1_1=some r):
 bQ (dC Tryz.prog) 93 [.rep (.slice (.int .u8)) a0,.eq (.func (.func 66) #[] #[(Pv c_a1_0),(Pv c_a1_1)])] [.obj b_a1_0 123 (am a1_0 z_a1_0),.inv z_a1_0 (aL k a1_0),.obj c_a1_0 70 (Pt b_a1_0),.obj c_a1_1 3 (I a1_1)] (fun _:Unit=>(bv [I r],[.obj b_a1_0 123 (am a1_0 z_a1_0),.inv z_a1_0 (aL k a1_0),.obj c_a1_0 70 (Pt b_a1_0),.obj c_a1_1 3 (I a1_1)])):=by
 unfold iP at h
 replace h:=aY h
 refine bQ.of 19 Tryz.func93 rfl Tryz.ntmps93 rfl fun S w0=>?_
 refine sr ?_
 refine cq ?_
 refine nt ?_
 refine dx (Z:=Unit) (α:=Unit) (fun z2 x1=>[]) (fun z2 x1=>[.obj b_a1_0 123 (am a1_0 z_a1_0),.inv z_a1_0 (aL k a1_0),.obj c_a1_0 70 (Pt b_a1_0),.obj c_a1_1 3 (I a1_1)]) (fun e=>e=r) h (fun e h=>Option.some.inj h) (fun K hR h=>?_) (fun z2 x1 h=>?_)
 ·
  refine au ?_;refine ol vW ?_;refine fa rfl ?_;refine nt (ak (aK (fun z4 y3=>[(0,.rep (.slice (.int .u8)) a0),(1,.eq (.func (.func 66) #[] #[(Pv c_a1_0),(Pv c_a1_1)])),(7,I (a0.length:Int)),(8,I y3)]) (fun z4 y3=>[.obj c_a1_0 70 (Pt b_a1_0),.obj b_a1_0 123 (am a1_0 z_a1_0),.obj c_a1_1 3 (I a1_1),.inv z_a1_0 (aL k a1_0)]) (eL k a0 a1_0 a1_1) k () 0 (fun _=>rfl) h (SE.fin [2,0,3,1] ⟨rfl,rfl,rfl,rfl,trivial⟩ rfl) (fun n z4 y3 h=>?_)));unfold eL at h;refine sr (jb (bB rfl) ?_);refine au ?_;refine ci h (fun h=>?_) (fun h=>?_)
  ·refine au ?_;refine ak (au ?_);obtain⟨x5,j,h⟩:=aa h;refine jb (aS (t:=(.int .u8)) rfl vW l7 j) ?_;refine ja (av (t:=(.int .u8)) rfl l7 rfl) ?_;obtain⟨r6,l,h⟩:=aa h;refine fr 2 ?_;refine fr 1 ?_;refine fr 3 ?_;refine fr 3 ?_;refine aD (Δ:=[_,_,_,_]) (F:=_) (fun _ _ _=>ab rfl _) rfl rfl (qR (fs:=[]) (cs:=[(Pv c_a1_0),(Pv c_a1_1)]) (ags:=[.eq (.int .u8 x5)]) [.tmp 15] rfl rfl SU rfl (tC k x5 a1_0 b_a1_0 z_a1_0 c_a1_0 a1_1 c_a1_1 r6 l)) ⟨rfl,rfl,trivial⟩ fun _=>?_;refine nt (cv h (fun h=>?_) (fun h=>?_))
   ·refine au ?_;obtain rfl:=hR _ h;exact aM () [_] 4 ⟨rfl,trivial⟩ rfl
   ·refine au ?_;refine ae ?_;obtain⟨x7,c,h⟩:=aa h;refine jb (bA rfl c) ?_;refine au ?_;exact jz ((),x7) h [2,0,3,1]
  ·refine au ?_;exact jz ((),()) h [1,3,0,2]
 ·
  refine au ?_;cases h;exact aM () [_] 4 ⟨rfl,trivial⟩ rfl
def eM(k:Nat)(a0:(List Int))(a1_0:ag)(a1_1:Int):Option Bool:=
 (iP k a0 a1_0 a1_1).bind fun r1=>
 some (decide (0≤r1))
theorem mt(k:Nat)(a0:(List Int))(a1_0:ag)(b_a1_0 z_a1_0 c_a1_0:Nat)(a1_1:Int)(c_a1_1:Nat)(r:Bool)(h:eM k a0 a1_0 a1_1=some r):
 bQ (dC Tryz.prog) 68 [.rep (.slice (.int .u8)) a0,.eq (.func (.func 66) #[] #[(Pv c_a1_0),(Pv c_a1_1)])] [.obj b_a1_0 123 (am a1_0 z_a1_0),.inv z_a1_0 (aL k a1_0),.obj c_a1_0 70 (Pt b_a1_0),.obj c_a1_1 3 (I a1_1)] (fun _:Unit=>(bv [.eq (.bool r)],[.obj b_a1_0 123 (am a1_0 z_a1_0),.inv z_a1_0 (aL k a1_0),.obj c_a1_0 70 (Pt b_a1_0),.obj c_a1_1 3 (I a1_1)])):=by
 unfold eM at h
 replace h:=aY h
 refine bQ.of 9 Tryz.func68 rfl Tryz.ntmps68 rfl fun S w0=>?_
 refine sr ?_
 refine cq ?_
 refine nt ?_
 refine sr ?_
 iterate 2 refine mq ?_
 obtain⟨r1,c,h⟩:=aa h
 have e:=nX k a0 a1_0 b_a1_0 z_a1_0 c_a1_0 a1_1 c_a1_1 r1 c
 refine fr 3 ?_
 refine fr 3 ?_
 refine fr 3 ?_
 refine fr 3 ?_
 refine aD (Δ:=[_,_,_,_]) (F:=_) (fun _ _ _=>ab rfl _) rfl rfl (aJ [.tmp 5,.tmp 6] rfl rfl SK rfl e) ⟨rfl,rfl,trivial⟩ fun _=>?_
 refine jb (kx rfl) ?_
 refine au ?_
 cases h
 exact aM () [_] 4 ⟨rfl,trivial⟩ rfl
def qg(k:Nat)(a0:ag)(a1:Int):Option ((List Int)×Int):=
 (iG k a0 ([]:(List Int)) [a1] ([]:(List Int))).bind fun r3=>
 fN r3.1 (if¬(r3.2.2=0) then(some (([]:(List Int)),r3.2.2)) else(none)) (fun q4=>if¬(r3.2.2=0) then(some (([]:(List Int)),r3.2.2)) else((jP k (qJ (fun(c:(List Int)) (e:Int)=>
  (nf k a0 a1 e).bind fun r=>
  fN r (none) (fun s=>(eM k r3.2.1 s a1).bind fun n=>
  if¬(n=true) then((cF (bK (List.length c+List.length [e]))).bind fun _=>
  some (c++[e],true)) else(some (c,true))))) a0.1 (([]:(List Int)),false)).bind fun h=>
 if h.2=true then(none) else((qd k h.1).bind fun l=>
 (dX k l).bind fun j=>
 some (j,0))))
theorem vR(k:Nat)(a0:ag)(a1:Int)(r:(List Int)×Int)(h:qg k a0 a1=some r):
 bQ (dC Tryz.prog) 31 [.rep aj a0,I a1] [] (fun _:Unit=>(bv [.rep Tl r.1,I r.2],[])):=by
 unfold qg at h
 replace h:=aY h
 refine vu 44 Tryz.func31 rfl Tryz.ntmps31 rfl fun S w0=>?_
 refine sr ?_
 refine bx fun b1=>?_
 refine bx fun b2=>?_
 refine cq ?_
 refine cq ?_
 refine nt ?_
 refine sr ?_
 refine fr 1 ?_
 refine lo g9 ?_
 refine fr 1 ?_
 refine lo bV ?_
 refine ja (bg (t:=Ti) [(.tmp 15,_)] [a1] rfl rfl dG (.cons rfl .int .nil) rfl rfl) ?_
 obtain⟨r3,Uw,h⟩:=aa h
 have y:=kD k a0 ([]:(List Int)) [a1] ([]:(List Int)) r3 Uw
 rcases hr:r3.1 with _ |q4
 ·
  rw [hr] at h y;replace h:=u4 h;refine aD (Δ:=[]) (F:=_) (fun _ _ _=>ab rfl _) rfl rfl (bF (N:=[(.tmp 14,.rep aj a0),(.const (.slice none 0 0),.eq (.slice none 0 0)),(.tmp 16,.rep Tl [a1]),(.const (.slice none 0 0),.eq (.slice none 0 0))]) (aJ [.tmp 14,.const (.slice none 0 0),.tmp 16,.const (.slice none 0 0)] rfl rfl zO rfl y) fun _ _ _ hn=>⟨hn.1,(aE (t:=Tl) (x:=([]:(List Int))) .nil rfl rfl hn.2.1),hn.2.2.1,(aE (t:=Tl) (x:=([]:(List Int))) .nil rfl rfl hn.2.2.2.1),trivial⟩) ⟨rfl,rfl,rfl,rfl,trivial⟩ fun _=>?_;refine au ?_;refine aW rfl rfl rfl (bj rfl Jl LG) trivial fun b5=>?_;refine aq ?_;refine aR rfl rfl (aP rfl xj rfl rfl rfl) ⟨rfl,rfl,trivial⟩ ?_;refine au ?_;refine jb (fh rfl) ?_;refine nt (cn h (fun h=>?_) (fun h=>?_))
  ·refine sr (mq ?_);refine cq ?_;refine aq (nt (rx ?_));refine bL (eA (t:=Tl) (x:=([]:(List Int))) 4 rfl .nil rfl rfl) ?_;refine Au ?_;cases h;exact rb
  ·cases h
 ·
  rw [hr] at h y;replace h:=uZ h;refine aD (Δ:=[]) (F:=_) (fun _ _ _=>ab rfl _) rfl rfl (bF (N:=[(.tmp 14,.rep aj a0),(.const (.slice none 0 0),.eq (.slice none 0 0)),(.tmp 16,.rep Tl [a1]),(.const (.slice none 0 0),.eq (.slice none 0 0))]) (aJ [.tmp 14,.const (.slice none 0 0),.tmp 16,.const (.slice none 0 0)] rfl rfl zO rfl y) fun _ _ _ hn=>⟨hn.1,(aE (t:=Tl) (x:=([]:(List Int))) .nil rfl rfl hn.2.1),hn.2.2.1,(aE (t:=Tl) (x:=([]:(List Int))) .nil rfl rfl hn.2.2.2.1),trivial⟩) ⟨rfl,rfl,rfl,rfl,trivial⟩ fun z6=>?_;refine au ?_;refine aW rfl rfl rfl (bj rfl Jl LG) trivial fun b7=>?_;refine aq ?_;refine aR rfl rfl (aP rfl xj rfl rfl rfl) ⟨rfl,rfl,trivial⟩ ?_;refine au ?_;refine jb (fh rfl) ?_;refine nt (cn h (fun h=>?_) (fun h=>?_))
  ·refine sr (mq ?_);refine cq ?_;refine aq (nt (rx ?_));refine bL (eA (t:=Tl) (x:=([]:(List Int))) 4 rfl .nil rfl rfl) ?_;refine Au ?_;cases h;exact rb
  ·refine au ?_;refine aW rfl rfl rfl (bj rfl Jl LG) trivial fun b8=>?_;refine au ?_;refine fl gX ?_;refine fr 5 ?_;refine lo bV ?_;refine aW rfl rfl rfl (ay [.tmp 25] rfl rfl QE rfl (qZ a0.1)) ⟨rfl,trivial⟩ fun b9=>?_;refine nt (ak (jf (SE.nil 71 (.int .u8)) ?_));refine dN 7 rfl ?_;refine dN 7 rfl ?_;refine dN 7 rfl ?_;refine dN 7 rfl ?_;refine dN 4 rfl ?_;refine dN 7 rfl ?_;refine dN 7 rfl ?_;refine dN 7 rfl ?_;obtain⟨u,mw,h⟩:=aa h;refine rI (Δ:=[.obj b9 3 (I a0.1),.obj b1 25 (.rep aj a0),.obj b8 84 (.eq (.slice none 0 0)),.sl (.slice none 0 0) 71 (.int .u8) ([]:(List Int)),.obj b7 84 (.rep (.slice (.int .u8)) r3.2.1),.obj z6.1 123 (am q4 z6.2),.inv z6.2 (aL k q4),.obj b2 3 (I a1)]) (F:=[]) (X:=Value) (J:=fun _=>Pm u.2) (E:=fun c=>[.obj b9 3 (I a0.1),.obj b1 25 (.rep aj a0),.obj b8 84 (.eq c),.sl c 71 (.int .u8) u.1,.obj b7 84 (.rep (.slice (.int .u8)) r3.2.1),.obj z6.1 123 (am q4 z6.2),.inv z6.2 (aL k q4),.obj b2 3 (I a1)]) (r0:=fun _=>.tup .any) rfl rfl Qy (fun rec hp ha hb hs hpe hN hv l=>?_) (fun dl c=>t9 (fun hj=>?_) (fun hj=>?_))
   ·rcases rec with⟨st0,pe0,fn0,tm0,ps0,as0,bd0,df0⟩;dsimp only at hp ha hb hs hpe hN hv;subst hp hs hpe;have vN:Am tm0 [(2,Pt b1),(3,Pt b2),(7,Pt b7),(9,Pt b8)]:=⟨congrArg A.eq (hv 2 _ rfl).symm,congrArg A.eq (hv 3 _ rfl).symm,congrArg A.eq (hv 7 _ rfl).symm,congrArg A.eq (hv 9 _ rfl).symm,trivial⟩;refine bQ.pick (M:=(dC Tryz.prog)) [1,0,2,3,4,5,6,7,8] [1,0,2,3,4,5,6,7,8] (ov (fun(c:Value) (q:(List Int)×Bool)=>[.raw l (.loop (kj ⟨.ready,none,fn0,tm0, #[27],as0,bd0,df0⟩ (Pm q.2))),.obj b1 25 (.rep aj a0),.obj b8 84 (.eq c),.sl c 71 (.int .u8) q.1,.obj b7 84 (.rep (.slice (.int .u8)) r3.2.1),.obj z6.1 123 (am q4 z6.2),.inv z6.2 (aL k q4),.obj b2 3 (I a1)]) l (qJ (fun(n:(List Int)) (j:Int)=>
    (nf k a0 a1 j).bind fun s=>
    fN s (none) (fun O=>(eM k r3.2.1 O a1).bind fun D=>
    if¬(D=true) then((cF (bK (List.length n+List.length [j]))).bind fun _=>
    some (n++[j],true)) else(some (n,true))))) k a0.1 b9 (fun c q p r' h=>?_) (.slice none 0 0) (([]:(List Int)),false) u mw) rfl (fun _=>rfl) (fun _=>rfl)
    obtain⟨rq,hq,h2,rfl⟩:=ua h;obtain⟨n,b5⟩:=q;obtain rfl:b5=false:=hq;replace h:=aY h2;obtain⟨j,hpv⟩:∃x,x=p:=⟨_,rfl⟩;subst hpv;refine YT.pick (R':=(fun c:Value=>(.eq (.bool rq.2),[.raw l (.loop (kj ⟨.ready,none,fn0,tm0, #[27],as0,bd0,df0⟩ (Pm (!rq.2)))),.obj b1 25 (.rep aj a0),.obj b8 84 (.eq c),.sl c 71 (.int .u8) rq.1,.obj b7 84 (.rep (.slice (.int .u8)) r3.2.1),.obj z6.1 123 (am q4 z6.2),.inv z6.2 (aL k q4),.obj b2 3 (I a1)]))) [0,1,2,3,4,5,6,7] [0,1,2,3,4,5,6,7] (IH ha hb (N:=44) (Γ:=[(2,Pt b1),(3,Pt b2),(7,Pt b7),(9,Pt b8)]) rfl hN (by decide) vN (fun S w=>?_)) rfl (fun _=>rfl) (fun _=>rfl);refine ae (au ?_);refine Aw rfl rfl ?_;refine ak (sr (fr 1 ?_));refine lo g9 ?_;refine fr 7 ?_;refine lo bV ?_;refine mq ?_;obtain⟨s,mc,h⟩:=aa h;have e:=vP k a0 a1 j s mc;rcases hr:s with _ |O
    ·rw [hr] at h e;replace h:=u4 h;refine aD (Δ:=[]) (F:=_) (fun _ _ _=>ab rfl _) rfl rfl (ay [.tmp 28,.tmp 29,.tmp 30] rfl rfl QD rfl e) ⟨rfl,rfl,rfl,trivial⟩ fun _=>?_;cases h
    ·rw [hr] at h e;replace h:=uZ h;refine aD (Δ:=[]) (F:=_) (fun _ _ _=>ab rfl _) rfl rfl (ay [.tmp 28,.tmp 29,.tmp 30] rfl rfl QD rfl e) ⟨rfl,rfl,rfl,trivial⟩ fun Q=>?_;refine aW rfl rfl rfl (bj rfl RH TD) trivial fun qt=>?_;refine aR rfl rfl (aP rfl JH rfl rfl rfl) ⟨rfl,rfl,trivial⟩ ?_;refine au ?_;refine jb (pT [] [.tmp 11,.tmp 3] [] [(Pv qt),(Pv b2)] rfl rfl rfl) ?_;refine aq (nt (sr ?_));refine fr 8 ?_;refine lo xj ?_;refine mq ?_;obtain⟨D,gw,h⟩:=aa h;refine fr 4 ?_;refine fr 2 ?_;refine fr 4 ?_;refine fr 4 ?_;refine aD (Δ:=[_,_,_,_]) (F:=_) (fun _ _ _=>ab rfl _) rfl rfl (aJ [.tmp 33,.tmp 34] rfl rfl SR rfl (mt k r3.2.1 O Q.1 Q.2 qt a1 b2 D gw)) ⟨rfl,rfl,trivial⟩ fun _=>?_;refine ja (iE rfl) ?_;refine nt (cw h (fun h=>?_) (fun h=>?_))
     ·refine ae (fr 7 ?_);refine lo xj ?_;refine mq ?_;refine ja (bg (t:=(.int .u8)) [(.tmp 38,_)] [j] rfl rfl JV (.cons rfl .int .nil) rfl rfl) ?_;obtain⟨Ux,Y,h⟩:=aa h;refine fr 8 ?_;refine dU rfl rfl rfl (cj rfl rfl JV (ao Y)) ⟨rfl,rfl,trivial⟩ fun zz=>?_;refine sY fun o22=>?_;refine fr 1 ?_;refine aR rfl rfl (aP rfl xj o22 rfl rfl) ⟨rfl,rfl,trivial⟩ ?_;refine be (gC (bn 5 rfl ?_));refine bn 10 rfl ?_;refine bn 10 rfl ?_;refine bn 8 rfl ?_;refine bn 5 rfl ?_;refine bn 5 rfl ?_;refine bn 9 rfl ?_;refine bn 10 rfl ?_;cases h;exact pq zz 7 rfl
     ·refine je (gC (bn 3 rfl ?_));refine bn 10 rfl ?_;refine bn 10 rfl ?_;refine bn 6 rfl ?_;refine bn 10 rfl ?_;refine bn 10 rfl ?_;refine bn 9 rfl ?_;refine bn 10 rfl ?_;cases h;exact pq c 7 rfl
   ·replace h:=cS (MK hj) h;refine gC (tn (sr (fr 3 ?_)));refine lo xj ?_;obtain⟨U,gq,h⟩:=aa h;refine fr 4 ?_;refine kb (lA (N:=[(.tmp 41,.eq c),(.func 69,.eq (.func (.func 69) #[] #[]))]) (ay [.tmp 41,.func 69] rfl rfl QJ rfl (vQ k u.1 U gq)) (fun _ _ _ hv hn=>⟨(lend hn.1 hv),hn.2.1,trivial⟩) (fun _=>⟨rfl,oD⟩)) ?_;obtain⟨Uu,Z,h⟩:=aa h;refine ja (ay [.tmp 42] rfl rfl Il rfl (fU k U Uu Z)) ?_;refine aq ?_;refine cq (nt (dw ?_));refine bn 2 rfl ?_;refine Ea ?_;cases h;exact rb
   ·replace h:=fe (MI hj) h;cases h
def ox(k:Nat):Option Bool:=
 (iH k ([]:(List bu))).bind fun r1=>
 (iz k r1 [0]).bind fun r2=>
 (iH k ([]:(List bu))).bind fun r3=>
 (jo k r3).bind fun r4=>
 (iH k ([]:(List bu))).bind fun r5=>
 (so k r5 2).bind fun r6=>
 (iH k ([]:(List bu))).bind fun r8=>
 (sq k r8 [0] 3).bind fun r9=>
 (iH k ([]:(List bu))).bind fun u=>
 (uE k u 2).bind fun c=>
 (iH k ([]:(List bu))).bind fun s=>
 (qg k s 2).bind fun e=>
 ((if r2.2=0 then(if r4.2=0 then(if r6.2=0 then(if r9.2=0 then(if c.2.2=0 then(if e.2=0 then(if r6.1=(1,3) then(if c.1=2 then(if c.2.1=2 then((ee k r2.1 [[1,(-1:Int),(-1:Int),(-1:Int)],[2,0,(-1:Int),(-1:Int)],[3,1,(-1:Int),(-1:Int)],[3,2,0,(-1:Int)],[(-1:Int),3,1,0]]).bind fun r=>
 if r=true then((ee k r4.1 [[0],[0,1],[1]]).bind fun n=>
 if n=true then((eW k r9.1 [0,1,3]).bind fun l=>
 if l=true then((eW k e.1 [1,2]).bind fun j=>
 some j) else(some false)) else(some false)) else(some false)) else(some false)) else(some false)) else(some false)) else(some false)) else(some false)) else(some false)) else(some false)) else(some false)) else(some false)):Option (Bool)).bind fun h=>
 some h
theorem tg(k:Nat)(r:Bool)(h:ox k=some r):
 bQ (dC Tryz.prog) 7 [] [] (fun _:Unit=>(bv [.eq (.bool r)],[])):=by
 unfold ox at h
 replace h:=aY h
 refine bQ.of 110 Tryz.func7 rfl Tryz.ntmps7 rfl fun S w0=>?_
 refine au ?_
 obtain⟨r1,UA,h⟩:=aa h
 have UI:=gK k ([]:(List bu)) r1 UA
 refine ja (bF (N:=[(.const (.slice none 0 0),.eq (.slice none 0 0))]) (ay [.const (.slice none 0 0)] rfl rfl ET rfl UI) fun _ _ _ hn=>⟨(aE (t:=(.slice aZ)) (x:=([]:(List bu))) .nil rfl rfl hn.1),trivial⟩) ?_
 refine ja (bg (t:=Ti) [(.const (.int .i64 (0)),_)] [0] rfl rfl dG (.cons rfl .int .nil) rfl rfl) ?_
 obtain⟨r2,Uz,h⟩:=aa h
 have UH:=pE k r1 [0] r2 Uz
 refine jb (aJ [.tmp 15,.tmp 16] rfl rfl QT rfl UH) ?_
 refine au ?_
 obtain⟨r3,Uy,h⟩:=aa h
 have UG:=gK k ([]:(List bu)) r3 Uy
 refine ja (bF (N:=[(.const (.slice none 0 0),.eq (.slice none 0 0))]) (ay [.const (.slice none 0 0)] rfl rfl ET rfl UG) fun _ _ _ hn=>⟨(aE (t:=(.slice aZ)) (x:=([]:(List bu))) .nil rfl rfl hn.1),trivial⟩) ?_
 obtain⟨r4,Ux,h⟩:=aa h
 have UF:=pG k r3 r4 Ux
 refine ja (aJ [.tmp 21] rfl rfl QM rfl UF) ?_
 refine au ?_
 obtain⟨r5,Uw,h⟩:=aa h
 have UE:=gK k ([]:(List bu)) r5 Uw
 refine ja (bF (N:=[(.const (.slice none 0 0),.eq (.slice none 0 0))]) (ay [.const (.slice none 0 0)] rfl rfl ET rfl UE) fun _ _ _ hn=>⟨(aE (t:=(.slice aZ)) (x:=([]:(List bu))) .nil rfl rfl hn.1),trivial⟩) ?_
 obtain⟨r6,Uu,h⟩:=aa h
 have UD:=xH k r5 2 r6 Uu
 refine jb (aJ [.tmp 26,.const (.int .i64 (2))] rfl rfl Tt rfl UD) ?_
 refine au ?_
 refine aW rfl rfl rfl (bj rfl AN Q2) trivial fun b7=>?_
 refine aR rfl rfl (aP rfl vG rfl rfl rfl) ⟨rfl,rfl,trivial⟩ ?_
 refine au ?_
 obtain⟨r8,zz,h⟩:=aa h
 have UC:=gK k ([]:(List bu)) r8 zz
 refine ja (bF (N:=[(.const (.slice none 0 0),.eq (.slice none 0 0))]) (ay [.const (.slice none 0 0)] rfl rfl ET rfl UC) fun _ _ _ hn=>⟨(aE (t:=(.slice aZ)) (x:=([]:(List bu))) .nil rfl rfl hn.1),trivial⟩) ?_
 refine ja (bg (t:=Ti) [(.const (.int .i64 (0)),_)] [0] rfl rfl dG (.cons rfl .int .nil) rfl rfl) ?_
 obtain⟨r9,qt,h⟩:=aa h
 have UB:=xJ k r8 [0] 3 r9 qt
 refine jc (aJ [.tmp 31,.tmp 32,.const (.int .i64 (3))] rfl rfl To rfl UB) ?_
 refine au ?_
 obtain⟨u,O,h⟩:=aa h
 have Y:=gK k ([]:(List bu)) u O
 refine ja (bF (N:=[(.const (.slice none 0 0),.eq (.slice none 0 0))]) (ay [.const (.slice none 0 0)] rfl rfl ET rfl Y) fun _ _ _ hn=>⟨(aE (t:=(.slice aZ)) (x:=([]:(List bu))) .nil rfl rfl hn.1),trivial⟩) ?_
 obtain⟨mw,M,h⟩:=aa h
 have X:=zp k u 2 mw M
 refine jb (aJ [.tmp 37,.const (.int .i64 (2))] rfl rfl Tn rfl X) ?_
 refine au ?_
 obtain⟨n,J,h⟩:=aa h
 have U:=gK k ([]:(List bu)) n J
 refine ja (bF (N:=[(.const (.slice none 0 0),.eq (.slice none 0 0))]) (ay [.const (.slice none 0 0)] rfl rfl ET rfl U) fun _ _ _ hn=>⟨(aE (t:=(.slice aZ)) (x:=([]:(List bu))) .nil rfl rfl hn.1),trivial⟩) ?_
 obtain⟨l,I,h⟩:=aa h
 have Q:=vR k n 2 l I
 refine jb (aJ [.tmp 43,.const (.int .i64 (2))] rfl rfl Tm rfl Q) ?_
 refine mq ?_
 refine xr ?_
 refine xr ?_
 refine aq ?_
 refine aq ?_
 refine nt ?_
 refine aI (Z:=Unit) (α:=Bool) (fun e c=>[(0,.eq (.bool c))]) (fun e c=>[]) h (fun K h=>?_) (fun e c h=>?_)
 ·
  refine ae (mq ?_);refine jb (hP rfl) ?_;refine mq ?_;refine cG (s:=49) rfl (fun hb=>?_) (fun hb=>?_)
  ·replace h:=fe (tU hb) h;refine gm ?_;refine gb (hP rfl) ?_;refine pt ?_;refine mq ?_;refine cG (s:=53) rfl (fun hb=>?_) (fun hb=>?_)
   ·replace h:=fe (tU hb) h;refine gm ?_;refine gb (hP rfl) ?_;refine pt ?_;refine mq ?_;refine cG (s:=57) rfl (fun hb=>?_) (fun hb=>?_)
    ·replace h:=fe (tU hb) h;refine gm ?_;refine gb (hP rfl) ?_;refine pt ?_;refine mq ?_;refine cG (s:=61) rfl (fun hb=>?_) (fun hb=>?_)
     ·replace h:=fe (tU hb) h;refine gm ?_;refine gb (hP rfl) ?_;refine pt ?_;refine mq ?_;refine cG (s:=65) rfl (fun hb=>?_) (fun hb=>?_)
      ·replace h:=fe (tU hb) h;refine gm ?_;refine gb (hP rfl) ?_;refine pt ?_;refine mq ?_;refine cG (s:=69) rfl (fun hb=>?_) (fun hb=>?_)
       ·replace h:=fe (tU hb) h;refine oN rfl rfl rfl rfl rfl rfl (aA rfl vG (qV) rfl) ⟨rfl,trivial⟩ ?_;refine gb (dV [(0,.const (.int .i64 (1)),_),(1,.const (.int .i64 (3)),_)] rfl G3 AN Ag (jK ⟨rfl,rfl,trivial⟩) rfl) ?_;refine eC (eA (t:=bI) (x:=(1,3)) 71 rfl (.agg (.pair .int .int)) trivial rfl) ?_;refine gb (N7 rfl SJ rfl) ?_;refine pt ?_;refine mq ?_;refine cG (s:=74) rfl (fun hb=>?_) (fun hb=>?_)
        ·replace h:=fe (tU hb) h;refine gm ?_;refine gb (hP rfl) ?_;refine pt ?_;refine mq ?_;refine cG (s:=78) rfl (fun hb=>?_) (fun hb=>?_)
         ·replace h:=fe (tU hb) h;refine gm ?_;refine gb (hP rfl) ?_;refine pt ?_;refine mq ?_;refine cG (s:=82) rfl (fun hb=>?_) (fun hb=>?_)
          ·replace h:=fe (tU hb) h;refine gm ?_;refine kw rfl rfl rfl rfl rfl rfl (bg (t:=Ti) [(.const (.int .i64 (1)),_),(.const (.int .i64 (-1)),_),(.const (.int .i64 (-1)),_),(.const (.int .i64 (-1)),_)] [1,(-1:Int),(-1:Int),(-1:Int)] rfl rfl dG (.cons rfl .int (.cons rfl .int (.cons rfl .int (.cons rfl .int .nil)))) rfl rfl) ⟨rfl,rfl,rfl,rfl,trivial⟩ ?_;refine kw rfl rfl rfl rfl rfl rfl (bg (t:=Ti) [(.const (.int .i64 (2)),_),(.const (.int .i64 (0)),_),(.const (.int .i64 (-1)),_),(.const (.int .i64 (-1)),_)] [2,0,(-1:Int),(-1:Int)] rfl rfl dG (.cons rfl .int (.cons rfl .int (.cons rfl .int (.cons rfl .int .nil)))) rfl rfl) ⟨rfl,rfl,rfl,rfl,trivial⟩ ?_;refine kw rfl rfl rfl rfl rfl rfl (bg (t:=Ti) [(.const (.int .i64 (3)),_),(.const (.int .i64 (1)),_),(.const (.int .i64 (-1)),_),(.const (.int .i64 (-1)),_)] [3,1,(-1:Int),(-1:Int)] rfl rfl dG (.cons rfl .int (.cons rfl .int (.cons rfl .int (.cons rfl .int .nil)))) rfl rfl) ⟨rfl,rfl,rfl,rfl,trivial⟩ ?_;refine kw rfl rfl rfl rfl rfl rfl (bg (t:=Ti) [(.const (.int .i64 (3)),_),(.const (.int .i64 (2)),_),(.const (.int .i64 (0)),_),(.const (.int .i64 (-1)),_)] [3,2,0,(-1:Int)] rfl rfl dG (.cons rfl .int (.cons rfl .int (.cons rfl .int (.cons rfl .int .nil)))) rfl rfl) ⟨rfl,rfl,rfl,rfl,trivial⟩ ?_;refine kw rfl rfl rfl rfl rfl rfl (bg (t:=Ti) [(.const (.int .i64 (-1)),_),(.const (.int .i64 (3)),_),(.const (.int .i64 (1)),_),(.const (.int .i64 (0)),_)] [(-1:Int),3,1,0] rfl rfl dG (.cons rfl .int (.cons rfl .int (.cons rfl .int (.cons rfl .int .nil)))) rfl rfl) ⟨rfl,rfl,rfl,rfl,trivial⟩ ?_;refine kw rfl rfl rfl rfl rfl rfl (bg (t:=Tl) [(.tmp 84,_),(.tmp 85,_),(.tmp 86,_),(.tmp 87,_),(.tmp 88,_)] [[1,(-1:Int),(-1:Int),(-1:Int)],[2,0,(-1:Int),(-1:Int)],[3,1,(-1:Int),(-1:Int)],[3,2,0,(-1:Int)],[(-1:Int),3,1,0]] rfl rfl my (.cons rfl .rep (.cons rfl .rep (.cons rfl .rep (.cons rfl .rep (.cons rfl .rep .nil))))) rfl rfl) ⟨rfl,rfl,rfl,rfl,rfl,trivial⟩ ?_;obtain⟨mc,F,h⟩:=aa h;refine gb (ay [.tmp 83,.tmp 89] rfl rfl OD rfl (jr k r2.1 [[1,(-1:Int),(-1:Int),(-1:Int)],[2,0,(-1:Int),(-1:Int)],[3,1,(-1:Int),(-1:Int)],[3,2,0,(-1:Int)],[(-1:Int),3,1,0]] mc F)) ?_;refine pt ?_;refine mq ?_;refine cG (s:=92) rfl (fun hb=>?_) (fun hb=>?_)
           ·replace h:=fe (MI hb) h;refine gm ?_;refine ga (bg (t:=Ti) [(.const (.int .i64 (0)),_)] [0] rfl rfl dG (.cons rfl .int .nil) rfl rfl) ?_;refine gb (bg (t:=Ti) [(.const (.int .i64 (0)),_),(.const (.int .i64 (1)),_)] [0,1] rfl rfl dG (.cons rfl .int (.cons rfl .int .nil)) rfl rfl) ?_;refine ga (bg (t:=Ti) [(.const (.int .i64 (1)),_)] [1] rfl rfl dG (.cons rfl .int .nil) rfl rfl) ?_;refine gc (bg (t:=Tl) [(.tmp 94,_),(.tmp 95,_),(.tmp 96,_)] [[0],[0,1],[1]] rfl rfl my (.cons rfl .rep (.cons rfl .rep (.cons rfl .rep .nil))) rfl rfl) ?_;obtain⟨gw,E,h⟩:=aa h;refine gb (ay [.tmp 93,.tmp 97] rfl rfl OD rfl (jr k r4.1 [[0],[0,1],[1]] gw E)) ?_;refine pt ?_;refine mq ?_;refine cG (s:=100) rfl (fun hb=>?_) (fun hb=>?_)
            ·replace h:=fe (MI hb) h;refine gm ?_;refine gc (bg (t:=Ti) [(.const (.int .i64 (0)),_),(.const (.int .i64 (1)),_),(.const (.int .i64 (3)),_)] [0,1,3] rfl rfl dG (.cons rfl .int (.cons rfl .int (.cons rfl .int .nil))) rfl rfl) ?_;obtain⟨gq,D,h⟩:=aa h;refine gb (ay [.tmp 101,.tmp 102] rfl rfl Le rfl (ir k r9.1 [0,1,3] gq D)) ?_;refine pt ?_;refine mq ?_;refine cG (s:=105) rfl (fun hb=>?_) (fun hb=>?_)
             ·replace h:=fe (MI hb) h;refine gm ?_;refine gb (bg (t:=Ti) [(.const (.int .i64 (1)),_),(.const (.int .i64 (2)),_)] [1,2] rfl rfl dG (.cons rfl .int (.cons rfl .int .nil)) rfl rfl) ?_;obtain⟨j,y,h⟩:=aa h;refine gb (ay [.tmp 106,.tmp 107] rfl rfl Le rfl (ir k l.1 [1,2] j y)) ?_;refine au ?_;exact jz ((),j) h []
             ·replace h:=cS (MK hb) h;refine au ?_;exact jz ((),false) h []
            ·replace h:=cS (MK hb) h;refine au ?_;exact jz ((),false) h []
           ·replace h:=cS (MK hb) h;refine au ?_;exact jz ((),false) h []
          ·replace h:=cS (tV hb) h;refine au ?_;exact jz ((),false) h []
         ·replace h:=cS (tV hb) h;refine au ?_;exact jz ((),false) h []
        ·replace h:=cS (tV hb) h;refine au ?_;exact jz ((),false) h []
       ·replace h:=cS (tV hb) h;refine au ?_;exact jz ((),false) h []
      ·replace h:=cS (tV hb) h;refine au ?_;exact jz ((),false) h []
     ·replace h:=cS (tV hb) h;refine au ?_;exact jz ((),false) h []
    ·replace h:=cS (tV hb) h;refine au ?_;exact jz ((),false) h []
   ·replace h:=cS (tV hb) h;refine au ?_;exact jz ((),false) h []
  ·replace h:=cS (tV hb) h;refine au ?_;exact jz ((),false) h []
 ·
  refine dw ?_;cases h;exact ra
def fj(k:Nat)(r4:(List Int)×bP):Nat→((List Int)×Int×Int×Int×(List (List Int)))→Option ((List Int)×Int×Int×(List (List Int)))
 |0,_=>none
 |n+1,y7=>
  if y7.2.2.2.1 < (r4.1.length:Int) then((((eZ k (y7.1,y7.2.1,y7.2.2.1) 5).bind fun c=>
  if c.1=true then(some (c.2.1,c.2.2.1,c.2.2.2,y7.2.2.2.2)) else((ck ((y7.2.2.2.2.length:Int) - 1)).bind fun r=>
  (cf k (c.2.1,c.2.2.1,c.2.2.2) r).bind fun e=>
  (aO y7.2.2.2.2 e.1).bind fun j=>
  (aO r4.1 y7.2.2.2.1).bind fun h=>
  (cF (bK (List.length j+List.length [h]))).bind fun _=>
  some (e.2.1,e.2.2.1,e.2.2.2,List.set y7.2.2.2.2 (Int.toNat e.1) (j++[h])))):Option ((List Int)×Int×Int×(List (List Int)))).bind fun x9=>
  (ck (y7.2.2.2.1+1)).bind fun l=>
  fj k r4 n (x9.1,x9.2.1,x9.2.2.1,l,x9.2.2.2)) else(some (y7.1,y7.2.1,y7.2.2.1,y7.2.2.2.2))
def jR(k:Nat)(a0:bP)(a1:Int):Option ((List (List Int))×bP):=
 (fB k (a0.1,a0.2.1,a0.2.2) 1 3).bind fun r1=>
 (cF (0≤r1.1∧bK (Int.toNat r1.1))).bind fun _=>
 (gB k (r1.2.1,r1.2.2.1,r1.2.2.2) a1).bind fun r4=>
 ((fj k r4 k (r4.2.1,r4.2.2.1,r4.2.2.2,0,List.replicate (Int.toNat r1.1) ([]:(List Int)))):Option ((List Int)×Int×Int×(List (List Int)))).bind fun x5=>
 some (x5.2.2.2,(x5.1,x5.2.1,x5.2.2.1))
theorem uN(k:Nat)(a0:bP)(c:Nat)(a1:Int)(r:(List (List Int))×bP)(h:jR k a0 a1=some r):
 de Tryz.prog 88 [Pt c,I a1] [.obj c 67 (.agg (.pair (.rep Tl a0.1) (.pair (I a0.2.1) (.eq (.int .u64 a0.2.2)))))] (fun _:Unit=>(bv [.rep (.slice Tl) r.1],[.obj c 67 (.agg (.pair (.rep Tl r.2.1) (.pair (I r.2.2.1) (.eq (.int .u64 r.2.2.2)))))])):=by
 unfold jR at h
 replace h:=aY h
 refine de.of 42 Tryz.func88 rfl Tryz.ntmps88 rfl fun S w0=>?_
 refine au ?_
 obtain⟨r1,UC,h⟩:=aa h
 have UE:=iZ k (a0.1,a0.2.1,a0.2.2) c 1 3 r1 UC
 refine kc (ay [.tmp 9,.const (.int .i64 (1)),.const (.int .i64 (3))] rfl rfl Lc rfl UE) ?_
 obtain⟨u2,U,h⟩:=aa h
 refine aW rfl rfl rfl (N6 (t:=.val) (d:=.slice none 0 0) rfl my Po (ao U).1 (ao U).2) ⟨rfl,rfl,trivial⟩ fun v3=>?_
 refine eC (IR (F:=[.obj c 67 (.agg (.pair (.rep Tl r1.2.1) (.pair (I r1.2.2.1) (.eq (.int .u64 r1.2.2.2)))))])) ?_
 refine au ?_
 obtain⟨r4,UB,h⟩:=aa h
 have UD:=rj k (r1.2.1,r1.2.2.1,r1.2.2.2) c a1 r4 UB
 refine kb (ay [.tmp 12,.tmp 13] rfl rfl QV rfl UD) ?_
 refine aq ?_
 refine nt ?_
 refine aI (Z:=(Value×(Nat→Value))) (α:=(List Int)×Int×Int×(List (List Int))) (fun z6 x5=>[(5,.eq z6.1)]) (fun z6 x5=>[.obj c 67 (.agg (.pair (.rep Tl x5.1) (.pair (I x5.2.1) (.eq (.int .u64 x5.2.2.1)))))]++xz 28 z6 x5.2.2.2) h (fun K h=>?_) (fun z6 x5 h=>?_)
 ·
  refine au ?_;refine ak (aK (Z:=(Value×(Nat→Value))) (α:=(List Int)×Int×Int×Int×(List (List Int))) (fun z8 y7=>[(0,Pt c),(5,.eq z8.1),(6,.rep Tl r4.1),(7,I y7.2.2.2.1)]) (fun z8 y7=>[.obj c 67 (.agg (.pair (.rep Tl y7.1) (.pair (I y7.2.1) (.eq (.int .u64 y7.2.2.1)))))]++xz 28 z8 y7.2.2.2.2) (fj k r4) k (v3,fun _=>.slice none 0 0) (r4.2.1,r4.2.2.1,r4.2.2.2,0,List.replicate (Int.toNat r1.1) ([]:(List Int))) (fun _=>rfl) h (kK [.obj c 67 (.agg (.pair (.rep Tl r4.2.1) (.pair (I r4.2.2.1) (.eq (.int .u64 r4.2.2.2)))))] (xz 28 (v3,fun _=>.slice none 0 0) (List.replicate (Int.toNat r1.1) ([]:(List Int)))) [0] ⟨rfl,rfl,rfl,rfl,trivial⟩ rfl) (fun n z8 y7 h=>?_));unfold fj at h;refine au ?_;refine ol iu ?_;refine jb (bB rfl) ?_;refine nt (ci h (fun h=>?_) (fun h=>?_))
  ·refine sk (aI (Z:=(Value×(Nat→Value))) (α:=(List Int)×Int×Int×(List (List Int))) (fun y x9=>[(0,Pt c),(5,.eq y.1),(6,.rep Tl r4.1),(7,I y7.2.2.2.1)]) (fun y x9=>[.obj c 67 (.agg (.pair (.rep Tl x9.1) (.pair (I x9.2.1) (.eq (.int .u64 x9.2.2.1)))))]++xz 28 y x9.2.2.2) h (fun K h=>?_) (fun y x9 h=>?_))
   ·refine ak (au ?_);obtain⟨j,gq,h⟩:=aa h;refine kb (ay [.tmp 21,.const (.int .i64 (5))] rfl rfl OC rfl (jt k (y7.1,y7.2.1,y7.2.2.1) c 5 j gq)) ?_;refine nt (cv h (fun h=>?_) (fun h=>?_))
    ·refine au ?_;exact vp (z8,(j.2.1,j.2.2.1,j.2.2.2,y7.2.2.2.2)) h (kK [.obj c 67 (.agg (.pair (.rep Tl j.2.1) (.pair (I j.2.2.1) (.eq (.int .u64 j.2.2.2)))))] (xz 28 z8 y7.2.2.2.2) [0] ⟨rfl,rfl,rfl,rfl,trivial⟩ rfl)
    ·refine au ?_;refine IZ (pre:=[.obj c 67 (.agg (.pair (.rep Tl j.2.1) (.pair (I j.2.2.1) (.eq (.int .u64 j.2.2.2)))))]) rfl rfl rfl rfl rfl qy ⟨rfl,trivial⟩ ?_;obtain⟨mc,Q,h⟩:=aa h;refine jb (d4 rfl Q) ?_;obtain⟨e,Y,h⟩:=aa h;refine kb (ay [.tmp 23,.tmp 26] rfl rfl vU rfl (cC k (j.2.1,j.2.2.1,j.2.2.2) c mc e Y)) ?_;refine aq (nt ?_);obtain⟨x,s,h⟩:=aa h;refine jf (Ff (pre:=[.obj c 67 (.agg (.pair (.rep Tl e.2.1) (.pair (I e.2.2.1) (.eq (.int .u64 e.2.2.2)))))]) (Do s).2) ?_;obtain⟨u,O,h⟩:=aa h;obtain⟨u16,X,h⟩:=aa h;refine I2 (Δ:=[.sl (z8.2 (Int.toNat e.1)) 3 Ti x,.sl z8.1 28 .val (nR z8.2 0 y7.2.2.2.2),.obj c 67 (.agg (.pair (.rep Tl e.2.1) (.pair (I e.2.2.1) (.eq (.int .u64 e.2.2.2)))))]) (F:=(nI z8.2 0 y7.2.2.2.2).eraseIdx (Int.toNat e.1)) (Z:=Value) (fun i=>[(0,Pt c),(5,.eq z8.1),(6,.rep Tl r4.1),(7,I y7.2.2.2.1)]) (fun i=>[.sl z8.1 28 .val (List.set (nR z8.2 0 y7.2.2.2.2) (Int.toNat e.1) i),.sl i 3 Ti (x++[u]),.obj c 67 (.agg (.pair (.rep Tl e.2.1) (.pair (I e.2.2.1) (.eq (.int .u64 e.2.2.2)))))]) (fun S w=>?_) (fun l=>?_)
     ·refine rJ ?_;refine bJ rfl rfl rfl (bz rfl) ⟨rfl,trivial⟩ ?_;refine bJ rfl rfl rfl (bz rfl) ⟨rfl,trivial⟩ ?_;refine bJ rfl rfl rfl (bz rfl) ⟨rfl,trivial⟩ ?_;refine bJ rfl rfl rfl (bz rfl) ⟨rfl,trivial⟩ ?_;refine g7 1 rfl rfl rfl rfl (cE (t:=.val) rfl qy gh (tI s)) ⟨rfl,rfl,trivial⟩ ?_;refine g7 1 rfl rfl rfl rfl (gJ (i:=Int.toNat e.1) (off:=0) rfl gh (fun _=>rfl) rfl (dA (tI s)).2.2 rfl) ⟨rfl,trivial⟩ ?_;refine bJ rfl rfl rfl (bz rfl) ⟨rfl,trivial⟩ ?_;refine bJ rfl rfl rfl (bz rfl) ⟨rfl,trivial⟩ ?_;refine bJ rfl rfl rfl (aS (t:=Ti) rfl iu bV O) ⟨rfl,rfl,trivial⟩ ?_;refine bJ rfl rfl rfl (av (t:=Ti) rfl bV rfl) ⟨rfl,trivial⟩ ?_;refine bJ rfl rfl rfl (bg (t:=Ti) [(.tmp 37,_)] [u] rfl rfl dG (.cons rfl .int .nil) rfl rfl) ⟨rfl,trivial⟩ ?_;refine Jc 0 rfl (fun v=>[.sl v 3 Ti (x++[u])]) (fun _=>rfl) rfl rfl rfl (cj rfl rfl dG (ao X)) ⟨rfl,rfl,trivial⟩ ?_;refine vt 12 [true,true,true,true,true,true,true,true,true,true,true,true] [40] [] [] rfl (by kernel_rfl) (by kernel_rfl) (by kernel_rfl) dW (fun vs hv hB=>?_);obtain⟨w0,UR,rfl,UA⟩:=aC hv;obtain⟨w1,UQ,rfl,Uz⟩:=aC UA;obtain⟨w2,UP,rfl,Uy⟩:=aC Uz;obtain⟨w3,UO,rfl,Ux⟩:=aC Uy;obtain⟨w4,UN,rfl,Uw⟩:=aC Ux;obtain⟨w5,UM,rfl,Uu⟩:=aC Uw;obtain⟨w6,UL,rfl,zz⟩:=aC Uu;obtain⟨w7,UK,rfl,qt⟩:=aC zz;obtain⟨w8,UJ,rfl,mw⟩:=aC qt;obtain⟨w9,UH,rfl,J⟩:=aC mw;obtain⟨UI,UG,rfl,E⟩:=aC J;obtain⟨l,UF,rfl,D⟩:=aC E;obtain rfl:=ri D;refine⟨[0,1,2],[.sl z8.1 28 .val (nR z8.2 0 y7.2.2.2.2),.obj c 67 (.agg (.pair (.rep Tl e.2.1) (.pair (I e.2.2.1) (.eq (.int .u64 e.2.2.2))))),.sl l 3 Ti (x++[u])],by kernel_rfl,by decide,?_⟩;refine vn rfl rfl rfl rfl (cE (t:=.val) rfl qy gh (tI s)) ⟨rfl,rfl,trivial⟩ (by kernel_rfl) ?_;refine rH 2 rfl ?_;refine O1 fun o18=>?_;refine rH 1 rfl ?_;refine sX rfl rfl (gp (i:=Int.toNat e.1) rfl gh rfl (nj (tI s)) rfl (.val o18) o18) ⟨rfl,rfl,trivial⟩ (by kernel_rfl) ?_;refine yr ?_;refine bL (SE.fin (Γ':=[(0,Pt c),(5,.eq z8.1),(6,.rep Tl r4.1),(7,I y7.2.2.2.1)]) (Δ':=[.sl z8.1 28 .val (List.set (nR z8.2 0 y7.2.2.2.2) (Int.toNat e.1) l),.sl l 3 Ti (x++[u]),.obj c 67 (.agg (.pair (.rep Tl e.2.1) (.pair (I e.2.2.1) (.eq (.int .u64 e.2.2.2)))))]) [0,1,2] ⟨rfl,rfl,rfl,rfl,trivial⟩ rfl) ?_;exact fun a w st=>⟨rfl,(l),(SE.fin (Γ':=[(0,Pt c),(5,.eq z8.1),(6,.rep Tl r4.1),(7,I y7.2.2.2.1)]) (Δ':=[.sl z8.1 28 .val (List.set (nR z8.2 0 y7.2.2.2.2) (Int.toNat e.1) l),.sl l 3 Ti (x++[u]),.obj c 67 (.agg (.pair (.rep Tl e.2.1) (.pair (I e.2.2.1) (.eq (.int .u64 e.2.2.2)))))]) [0,1,2] ⟨rfl,rfl,rfl,rfl,trivial⟩ rfl) a w st⟩
     ·show JN _ _ [(0,Pt c),(5,.eq z8.1),(6,.rep Tl r4.1),(7,I y7.2.2.2.1)] ([.sl z8.1 28 .val (List.set (nR z8.2 0 y7.2.2.2.2) (Int.toNat e.1) l),.sl l 3 Ti (x++[u]),.obj c 67 (.agg (.pair (.rep Tl e.2.1) (.pair (I e.2.2.1) (.eq (.int .u64 e.2.2.2)))))]++(nI z8.2 0 y7.2.2.2.2).eraseIdx (Int.toNat e.1));refine bn 1 rfl ?_;refine bL (Cm (pre:=[.obj c 67 (.agg (.pair (.rep Tl e.2.1) (.pair (I e.2.2.1) (.eq (.int .u64 e.2.2.2)))))]) (z:=z8) (i:=Int.toNat e.1) (Do s).2) ?_;refine au ?_;exact vp ((z8.1,A5 z8.2 (Int.toNat e.1) l),(e.2.1,e.2.2.1,e.2.2.2,List.set y7.2.2.2.2 (Int.toNat e.1) (x++[u]))) h (kK [.obj c 67 (.agg (.pair (.rep Tl e.2.1) (.pair (I e.2.2.1) (.eq (.int .u64 e.2.2.2)))))] (xz 28 (z8.1,A5 z8.2 (Int.toNat e.1) l) (List.set y7.2.2.2.2 (Int.toNat e.1) (x++[u]))) [0] ⟨rfl,rfl,rfl,rfl,trivial⟩ rfl)
   ·refine ae (mq ?_);obtain⟨gw,M,h⟩:=aa h;refine jb (bA rfl M) ?_;refine au ?_;exact vp (y,(x9.1,x9.2.1,x9.2.2.1,gw,x9.2.2.2)) h (kK [.obj c 67 (.agg (.pair (.rep Tl x9.1) (.pair (I x9.2.1) (.eq (.int .u64 x9.2.2.1)))))] (xz 28 y x9.2.2.2) [0] ⟨rfl,rfl,rfl,rfl,trivial⟩ rfl)
  ·refine au ?_;exact vp (z8,(y7.1,y7.2.1,y7.2.2.1,y7.2.2.2.2)) h (kK [.obj c 67 (.agg (.pair (.rep Tl y7.1) (.pair (I y7.2.1) (.eq (.int .u64 y7.2.2.1)))))] (xz 28 z8 y7.2.2.2.2) [0] ⟨rfl,trivial⟩ rfl)
 ·
  refine sr (mq ?_);refine aq (nt (dw ?_));refine bL (IS (pre:=[.obj c 67 (.agg (.pair (.rep Tl x5.1) (.pair (I x5.2.1) (.eq (.int .u64 x5.2.2.1)))))])) ?_;refine bL (gZ [4,5,41] ⟨rfl,rfl,rfl,trivial⟩) ?_;cases h;exact aM () [_] 1 ⟨rfl,trivial⟩ rfl
def fo(k:Nat)(r2:Int×bP):Nat→((List Int)×Int×Int×(List (List (List Int)))×Int)→Option ((List (List (List Int)))×(List Int)×Int×Int)
 |0,_=>none
 |n+1,c=>
  if 0 < c.2.2.2.2 then(((((if 0 < (c.2.2.2.1.length:Int) then((eZ k (c.1,c.2.1,c.2.2.1) 3).bind fun l=>
  some (l.2.1,l.2.2.1,l.2.2.2,l.1)) else(some (c.1,c.2.1,c.2.2.1,false))):Option ((List Int)×Int×Int×Bool)).bind fun e=>
  if e.2.2.2=true then((ck ((c.2.2.2.1.length:Int) - 1)).bind fun x=>
  (aO c.2.2.2.1 x).bind fun u=>
  (ig k u).bind fun r=>
  (cF (bK (List.length c.2.2.2.1+List.length [r]))).bind fun _=>
  some (e.1,e.2.1,e.2.2.1,c.2.2.2.1++[r])) else((jR k (e.1,e.2.1,e.2.2.1) r2.1).bind fun h=>
  (cF (bK (List.length c.2.2.2.1+List.length [h.1]))).bind fun _=>
  some (h.2.1,h.2.2.1,h.2.2.2,c.2.2.2.1++[h.1]))):Option ((List Int)×Int×Int×(List (List (List Int))))).bind fun j=>
  (ck (c.2.2.2.2 - 1)).bind fun s=>
  fo k r2 n (j.1,j.2.1,j.2.2.1,j.2.2.2,s)) else(some (c.2.2.2.1,c.1,c.2.1,c.2.2.1))
def jS(k:Nat)(a0:bP)(a1:Int)(a2:Int):Option (ag×bP):=
 (fB k (a0.1,a0.2.1,a0.2.2) 1 a1).bind fun r2=>
 (cf k (r2.2.1,r2.2.2.1,r2.2.2.2) 3).bind fun r3=>
 (gA k (r3.2.1,r3.2.2.1,r3.2.2.2) [0,1,1,2,r3.1]).bind fun r4=>
 (cf k (r4.2.1,r4.2.2.1,r4.2.2.2) 3).bind fun r5=>
 (gA k (r5.2.1,r5.2.2.1,r5.2.2.2) [0,1,2,r5.1]).bind fun r6=>
 (fB k (r6.2.1,r6.2.2.1,r6.2.2.2) 1 3).bind fun r7=>
 (gA k (r7.2.1,r7.2.2.1,r7.2.2.2) [1,2,r7.1]).bind fun r8=>
 (((fB k (r8.2.1,r8.2.2.1,r8.2.2.2) 1 a2).bind fun e=>
 fo k r2 k (e.2.1,e.2.2.1,e.2.2.2,([]:(List (List (List Int)))),e.1)):Option ((List (List (List Int)))×(List Int)×Int×Int)).bind fun c=>
 some ((r2.1,r4.1,r6.1,r8.1,c.1,[]),(c.2.1,c.2.2.1,c.2.2.2))
theorem uP(k:Nat)(a0:bP)(c:Nat)(a1:Int)(a2:Int)(r:ag×bP)(h:jS k a0 a1 a2=some r):
 de Tryz.prog 52 [Pt c,I a1,I a2] [.obj c 67 (.agg (.pair (.rep Tl a0.1) (.pair (I a0.2.1) (.eq (.int .u64 a0.2.2)))))] (fun _:Unit=>(bv [.agg (.pair (I r.1.1) (.pair (I r.1.2.1) (.pair (I r.1.2.2.1) (.pair (I r.1.2.2.2.1) (.pair (.rep (.slice (.slice Tl)) r.1.2.2.2.2.1) (.eq (.slice none 0 0)))))))],[.obj c 67 (.agg (.pair (.rep Tl r.2.1) (.pair (I r.2.2.1) (.eq (.int .u64 r.2.2.2)))))])):=by
 unfold jS at h
 replace h:=aY h
 refine de.of 67 Tryz.func52 rfl Tryz.ntmps52 rfl fun S w0=>?_
 refine sr ?_
 refine aW rfl rfl rfl (bj rfl yB E9) trivial fun b1=>?_
 refine nt ?_
 refine sr ?_
 iterate 2 refine mq ?_
 obtain⟨r2,UF,h⟩:=aa h
 have UM:=iZ k (a0.1,a0.2.1,a0.2.2) c 1 a1 r2 UF
 refine fr 1 ?_
 refine kc (ay [.tmp 10,.const (.int .i64 (1)),.tmp 11] rfl rfl Lc rfl UM) ?_
 refine au ?_
 obtain⟨r3,UE,h⟩:=aa h
 have UL:=cC k (r2.2.1,r2.2.2.1,r2.2.2.2) c 3 r3 UE
 refine kb (ay [.tmp 14,.const (.int .i64 (3))] rfl rfl vU rfl UL) ?_
 refine bY rfl (bg (t:=Ti) [(.const (.int .i64 (0)),_),(.const (.int .i64 (1)),_),(.const (.int .i64 (1)),_),(.const (.int .i64 (2)),_),(.tmp 15,_)] [0,1,1,2,r3.1] rfl rfl dG (.cons rfl .int (.cons rfl .int (.cons rfl .int (.cons rfl .int (.cons rfl .int .nil))))) rfl rfl) ⟨rfl,rfl,rfl,rfl,rfl,trivial⟩ ?_
 obtain⟨r4,UD,h⟩:=aa h
 have UK:=lr k (r3.2.1,r3.2.2.1,r3.2.2.2) c [0,1,1,2,r3.1] r4 UD
 refine kb (ay [.tmp 13,.tmp 16] rfl rfl Oz rfl UK) ?_
 refine au ?_
 obtain⟨r5,UC,h⟩:=aa h
 have UJ:=cC k (r4.2.1,r4.2.2.1,r4.2.2.2) c 3 r5 UC
 refine kb (ay [.tmp 19,.const (.int .i64 (3))] rfl rfl vU rfl UJ) ?_
 refine bY rfl (bg (t:=Ti) [(.const (.int .i64 (0)),_),(.const (.int .i64 (1)),_),(.const (.int .i64 (2)),_),(.tmp 20,_)] [0,1,2,r5.1] rfl rfl dG (.cons rfl .int (.cons rfl .int (.cons rfl .int (.cons rfl .int .nil)))) rfl rfl) ⟨rfl,rfl,rfl,rfl,trivial⟩ ?_
 obtain⟨r6,UB,h⟩:=aa h
 have UI:=lr k (r5.2.1,r5.2.2.1,r5.2.2.2) c [0,1,2,r5.1] r6 UB
 refine kb (ay [.tmp 18,.tmp 21] rfl rfl Oz rfl UI) ?_
 refine au ?_
 obtain⟨r7,UA,h⟩:=aa h
 have UH:=iZ k (r6.2.1,r6.2.2.1,r6.2.2.2) c 1 3 r7 UA
 refine kc (ay [.tmp 24,.const (.int .i64 (1)),.const (.int .i64 (3))] rfl rfl Lc rfl UH) ?_
 refine jc (bg (t:=Ti) [(.const (.int .i64 (1)),_),(.const (.int .i64 (2)),_),(.tmp 25,_)] [1,2,r7.1] rfl rfl dG (.cons rfl .int (.cons rfl .int (.cons rfl .int .nil))) rfl rfl) ?_
 obtain⟨r8,Uz,h⟩:=aa h
 have UG:=lr k (r7.2.1,r7.2.2.1,r7.2.2.2) c [1,2,r7.1] r8 Uz
 refine kb (ay [.tmp 23,.tmp 26] rfl rfl Oz rfl UG) ?_
 refine bY rfl (dV [(0,.tmp 12,_),(1,.tmp 17,_),(2,.tmp 22,_),(3,.tmp 27,_)] rfl PU yB M7 (jK ⟨rfl,rfl,rfl,rfl,trivial⟩) rfl) ⟨rfl,rfl,rfl,rfl,trivial⟩ ?_
 refine aW rfl rfl rfl (bj rfl yB E9) trivial fun b9=>?_
 refine aR rfl rfl (aP rfl g9 trivial rfl rfl) ⟨rfl,rfl,trivial⟩ ?_
 refine nt ?_
 refine aI (Z:=Value) (α:=(List (List (List Int)))×(List Int)×Int×Int) (fun J y=>[(6,Pt b1),(7,Pt b9)]) (fun J y=>[.obj b1 25 (.agg (.pair (I 0) (.pair (I 0) (.pair (I 0) (.pair (I 0) (.pair (.eq (.slice none 0 0)) (.eq (.slice none 0 0)))))))),.obj b9 25 (.agg (.pair (I r2.1) (.pair (I r4.1) (.pair (I r6.1) (.pair (I r8.1) (.pair (.eq J) (.eq (.slice none 0 0)))))))),.sl J 36 (.slice Tl) y.1,.obj c 67 (.agg (.pair (.rep Tl y.2.1) (.pair (I y.2.2.1) (.eq (.int .u64 y.2.2.2)))))]) h (fun K h=>?_) (fun J y h=>?_)
 ·
  refine sr ?_;iterate 2 refine mq ?_
  obtain⟨F,qt,h⟩:=aa h;refine fr 1 ?_;refine kc (ay [.tmp 29,.const (.int .i64 (1)),.tmp 30] rfl rfl Lc rfl (iZ k (r8.2.1,r8.2.2.1,r8.2.2.2) c 1 a2 F qt)) ?_;refine au ?_;refine ak (jf (SE.nil 36 (.slice Tl)) ?_);refine aK (fun u e=>[(0,Pt c),(6,Pt b1),(7,Pt b9),(8,I e.2.2.2.2)]) (fun u e=>[.obj c 67 (.agg (.pair (.rep Tl e.1) (.pair (I e.2.1) (.eq (.int .u64 e.2.2.1))))),.obj b1 25 (.agg (.pair (I 0) (.pair (I 0) (.pair (I 0) (.pair (I 0) (.pair (.eq (.slice none 0 0)) (.eq (.slice none 0 0)))))))),.obj b9 25 (.agg (.pair (I r2.1) (.pair (I r4.1) (.pair (I r6.1) (.pair (I r8.1) (.pair (.eq u) (.eq (.slice none 0 0)))))))),.sl u 36 (.slice Tl) e.2.2.2.1]) (fo k r2) k (.slice none 0 0) (F.2.1,F.2.2.1,F.2.2.2,([]:(List (List (List Int)))),F.1) (fun _=>rfl) h (SE.fin [1,3,2,0] ⟨rfl,rfl,rfl,rfl,trivial⟩ rfl) (fun n u e h=>?_);unfold fo at h;refine au ?_;refine jb (nB rfl) ?_;refine nt (ci h (fun h=>?_) (fun h=>?_))
  ·refine sk (aI (Z:=Value) (α:=(List Int)×Int×Int×(List (List (List Int)))) (fun D l=>[(0,Pt c),(6,Pt b1),(7,Pt b9),(8,I e.2.2.2.2)]) (fun D l=>[.obj c 67 (.agg (.pair (.rep Tl l.1) (.pair (I l.2.1) (.eq (.int .u64 l.2.2.1))))),.obj b1 25 (.agg (.pair (I 0) (.pair (I 0) (.pair (I 0) (.pair (I 0) (.pair (.eq (.slice none 0 0)) (.eq (.slice none 0 0)))))))),.obj b9 25 (.agg (.pair (I r2.1) (.pair (I r4.1) (.pair (I r6.1) (.pair (I r8.1) (.pair (.eq D) (.eq (.slice none 0 0)))))))),.sl D 36 (.slice Tl) l.2.2.2]) h (fun K h=>?_) (fun D l h=>?_))
   ·refine ak (au ?_);refine fl eG ?_;refine fr 2 ?_;refine lo lG ?_;refine fr 3 ?_;refine ka (mA rfl rfl AM) ?_;refine aq (nt ?_);refine aI (Z:=Unit) (α:=(List Int)×Int×Int×Bool) (fun Q j=>[(0,Pt c),(6,Pt b1),(7,Pt b9),(8,I e.2.2.2.2),(9,I (e.2.2.2.1.length:Int)),(44,.eq (.bool j.2.2.2))]) (fun Q j=>[.obj c 67 (.agg (.pair (.rep Tl j.1) (.pair (I j.2.1) (.eq (.int .u64 j.2.2.1))))),.obj b1 25 (.agg (.pair (I 0) (.pair (I 0) (.pair (I 0) (.pair (I 0) (.pair (.eq (.slice none 0 0)) (.eq (.slice none 0 0)))))))),.obj b9 25 (.agg (.pair (I r2.1) (.pair (I r4.1) (.pair (I r6.1) (.pair (I r8.1) (.pair (.eq u) (.eq (.slice none 0 0)))))))),.sl u 36 (.slice Tl) e.2.2.2.1]) h (fun K h=>?_) (fun Q j h=>?_)
    ·refine ae (mq ?_);refine jb (nB rfl) ?_;refine mq ?_;refine cG (s:=41) rfl (fun hb=>?_) (fun hb=>?_)
     ·replace h:=fe (tU hb) h;refine gm ?_;obtain⟨E,mw,h⟩:=aa h;refine fr 2 ?_;refine oN rfl rfl rfl rfl rfl rfl (ay [.tmp 42,.const (.int .i64 (3))] rfl rfl OC rfl (jt k (e.1,e.2.1,e.2.2.1) c 3 E mw)) ⟨rfl,rfl,trivial⟩ ?_;refine au ?_;exact jz ((),(E.2.1,E.2.2.1,E.2.2.2,E.1)) h [0,3,2,1]
     ·replace h:=cS (tV hb) h;refine au ?_;exact jz ((),(e.1,e.2.1,e.2.2.1,false)) h [2,3,1,0]
    ·refine cv h (fun h=>?_) (fun h=>?_)
     ·refine cg (cK ?_);refine da (aG rfl eG) ?_;refine ea 2 (aA rfl lG nJ rfl) ?_;refine da (aG rfl eG) ?_;refine ea 2 (aA rfl lG nJ rfl) ?_;refine dm ?_;obtain⟨Uw,X,h⟩:=aa h;refine db (d4 rfl X) ?_;obtain⟨Uu,M,h⟩:=aa h;refine eb 3 (cE (t:=(.slice Tl)) rfl AM yT M) ?_;refine ea 3 (gJ (i:=Int.toNat Uw) (off:=0) rfl yT (fun _=>rfl) rfl (dA M).2.2 rfl) ?_;obtain⟨O,mc,h⟩:=aa h;refine da (D5 (ay [.tmp 52] rfl rfl Tj rfl (sE k Uu O mc))) ?_;refine da (bg (t:=(.slice Tl)) [(.tmp 53,_)] [O] rfl rfl A4 (.cons rfl .rep .nil) rfl rfl) ?_;refine df dW ?_;obtain⟨UO,gq,h⟩:=aa h;refine fr 3 ?_;refine dU rfl rfl rfl (cj rfl rfl A4 (ao gq)) ⟨rfl,rfl,trivial⟩ fun Uy=>?_;refine fl eG ?_;refine sY fun o25=>?_;refine fr 3 ?_;refine aR rfl rfl (aP rfl lG o25 rfl rfl) ⟨rfl,rfl,trivial⟩ ?_;refine au ?_;exact jz (Uy,(j.1,j.2.1,j.2.2.1,e.2.2.2.1++[O])) h [2,3,0,1]
     ·refine sk (cK ?_);refine da (aG rfl eG) ?_;refine ea 2 (aA rfl lG nJ rfl) ?_;refine dm ?_;refine da (aG rfl gX) ?_;refine ea 2 (aA rfl bV nJ rfl) ?_;obtain⟨x,gw,h⟩:=aa h;refine Eh 0 rfl rfl rfl rfl (ay [.tmp 59,.tmp 61] rfl rfl SN rfl (uN k (j.1,j.2.1,j.2.2.1) c r2.1 x gw)) ⟨rfl,rfl,trivial⟩ ?_;refine da (bg (t:=(.slice Tl)) [(.tmp 62,_)] [x.1] rfl rfl A4 (.cons rfl .rep .nil) rfl rfl) ?_;refine Ei (Δ':=[.obj b1 25 (.agg (.pair (I 0) (.pair (I 0) (.pair (I 0) (.pair (I 0) (.pair (.eq (.slice none 0 0)) (.eq (.slice none 0 0)))))))),.obj b9 25 (.agg (.pair (I r2.1) (.pair (I r4.1) (.pair (I r6.1) (.pair (I r8.1) (.pair (.eq u) (.eq (.slice none 0 0)))))))),.sl u 36 (.slice Tl) e.2.2.2.1,.obj c 67 (.agg (.pair (.rep Tl x.2.1) (.pair (I x.2.2.1) (.eq (.int .u64 x.2.2.2)))))]) (by kernel_rfl) dW (by kernel_rfl) ?_;obtain⟨UN,Y,h⟩:=aa h;refine fr 2 ?_;refine dU rfl rfl rfl (cj rfl rfl A4 (ao Y)) ⟨rfl,rfl,trivial⟩ fun Ux=>?_;refine fl eG ?_;refine sY fun o29=>?_;refine fr 2 ?_;refine aR rfl rfl (aP rfl lG o29 rfl rfl) ⟨rfl,rfl,trivial⟩ ?_;refine au ?_;exact jz (Ux,(x.2.1,x.2.2.1,x.2.2.2,e.2.2.2.1++[x.1])) h [3,2,0,1]
   ·refine ae (mq ?_);obtain⟨zz,U,h⟩:=aa h;refine jb (d4 rfl U) ?_;refine au ?_;exact jz (D,(l.1,l.2.1,l.2.2.1,l.2.2.2,zz)) h [0,1,2,3]
  ·refine au ?_;exact jz (u,(e.2.2.2.1,e.1,e.2.1,e.2.2.1)) h [1,2,3,0]
 ·
  refine sr (fr 1 ?_);refine fr 2 ?_;refine eC (nv (off:=4) [] trivial rfl rfl) ?_;refine lo g9 ?_;refine fr 1 ?_;refine aR rfl rfl (aP rfl g9 trivial rfl rfl) ⟨rfl,rfl,trivial⟩ ?_;refine nt (dw (bL (SE.fin (Γ':=[(6,_)]) [2,0,1] ⟨rfl,trivial⟩ rfl) ?_));cases h;exact aM () [.agg (.pair (I r2.1) (.pair (I r4.1) (.pair (I r6.1) (.pair (I r8.1) (.pair (.rep (.slice (.slice Tl)) y.1) (.eq (.slice none 0 0)))))))] 1 ⟨⟨_,_,_,_,_,rfl,(.tail _ (.head _)),g9,(qV),rfl⟩,trivial⟩ rfl
def eo(k:Nat)(r2:ag×bP):Nat→((List Int)×Int×Int×(List bu)×Int)→Option ((List bu)×(List Int)×Int×Int)
 |0,_=>none
 |n+1,y7=>
  if 0 < y7.2.2.2.2 then((ie k (y7.1,y7.2.1,y7.2.2.1) (r2.1.1,r2.1.2.1,r2.1.2.2.1,r2.1.2.2.2.1,r2.1.2.2.2.2.1,())).bind fun r9=>
  (cF (bK (List.length y7.2.2.2.1+List.length [r9.1]))).bind fun _=>
  (ck (y7.2.2.2.2 - 1)).bind fun c=>
  eo k r2 n (r9.2.1,r9.2.2.1,r9.2.2.2,y7.2.2.2.1++[r9.1],c)) else(some (y7.2.2.2.1,y7.1,y7.2.1,y7.2.2.1))
def fZ(k:Nat)(a0:bP)(a1:Int)(a2:Int):Option (ag×bP):=
 (jS k (a0.1,a0.2.1,a0.2.2) a1 a2).bind fun r2=>
 (((cf k (r2.2.1,r2.2.2.1,r2.2.2.2) 4).bind fun r6=>
 eo k r2 k (r6.2.1,r6.2.2.1,r6.2.2.2,([]:(List bu)),r6.1)):Option ((List bu)×(List Int)×Int×Int)).bind fun x4=>
 some ((r2.1.1,r2.1.2.1,r2.1.2.2.1,r2.1.2.2.2.1,r2.1.2.2.2.2.1,x4.1),(x4.2.1,x4.2.2.1,x4.2.2.2))
theorem sC(k:Nat)(a0:bP)(c:Nat)(a1:Int)(a2:Int)(r:ag×bP)(h:fZ k a0 a1 a2=some r):
 de Tryz.prog 24 [Pt c,I a1,I a2] [.obj c 67 (.agg (.pair (.rep Tl a0.1) (.pair (I a0.2.1) (.eq (.int .u64 a0.2.2)))))] (fun _:Unit=>(bv [.rep aj r.1],[.obj c 67 (.agg (.pair (.rep Tl r.2.1) (.pair (I r.2.2.1) (.eq (.int .u64 r.2.2.2)))))])):=by
 unfold fZ at h
 replace h:=aY h
 refine de.of 28 Tryz.func24 rfl Tryz.ntmps24 rfl fun S w0=>?_
 refine sr ?_
 refine aW rfl rfl rfl (bj rfl yB E9) trivial fun b1=>?_
 refine nt ?_
 refine sr ?_
 iterate 3 refine mq ?_
 obtain⟨r2,D,h⟩:=aa h
 have E:=uP k (a0.1,a0.2.1,a0.2.2) c a1 a2 r2 D
 refine fr 1 ?_
 refine kc (ay [.tmp 9,.tmp 10,.tmp 11] rfl rfl S9 rfl E) ?_
 refine aW rfl rfl rfl (bj rfl yB E9) trivial fun b3=>?_
 refine aR rfl rfl (aP rfl g9 trivial rfl rfl) ⟨rfl,rfl,trivial⟩ ?_
 refine nt ?_
 refine aI (Z:=Value) (α:=(List bu)×(List Int)×Int×Int) (fun z5 x4=>[(6,Pt b1),(7,Pt b3)]) (fun z5 x4=>[.obj b1 25 (.agg (.pair (I 0) (.pair (I 0) (.pair (I 0) (.pair (I 0) (.pair (.eq (.slice none 0 0)) (.eq (.slice none 0 0)))))))),.obj b3 25 (.agg (.pair (I r2.1.1) (.pair (I r2.1.2.1) (.pair (I r2.1.2.2.1) (.pair (I r2.1.2.2.2.1) (.pair (.rep (.slice (.slice Tl)) r2.1.2.2.2.2.1) (.eq z5))))))),.sl z5 27 aZ x4.1,.obj c 67 (.agg (.pair (.rep Tl x4.2.1) (.pair (I x4.2.2.1) (.eq (.int .u64 x4.2.2.2)))))]) h (fun K h=>?_) (fun z5 x4 h=>?_)
 ·
  refine sr (mq ?_);obtain⟨r6,y,h⟩:=aa h;refine fr 1 ?_;refine kb (ay [.tmp 13,.const (.int .i64 (4))] rfl rfl vU rfl (cC k (r2.2.1,r2.2.2.1,r2.2.2.2) c 4 r6 y)) ?_;refine au ?_;refine ak (jf (SE.nil 27 aZ) ?_);refine aK (fun z8 y7=>[(0,Pt c),(6,Pt b1),(7,Pt b3),(8,I y7.2.2.2.2)]) (fun z8 y7=>[.obj c 67 (.agg (.pair (.rep Tl y7.1) (.pair (I y7.2.1) (.eq (.int .u64 y7.2.2.1))))),.obj b1 25 (.agg (.pair (I 0) (.pair (I 0) (.pair (I 0) (.pair (I 0) (.pair (.eq (.slice none 0 0)) (.eq (.slice none 0 0)))))))),.obj b3 25 (.agg (.pair (I r2.1.1) (.pair (I r2.1.2.1) (.pair (I r2.1.2.2.1) (.pair (I r2.1.2.2.2.1) (.pair (.rep (.slice (.slice Tl)) r2.1.2.2.2.2.1) (.eq z8))))))),.sl z8 27 aZ y7.2.2.2.1]) (eo k r2) k (.slice none 0 0) (r6.2.1,r6.2.2.1,r6.2.2.2,([]:(List bu)),r6.1) (fun _=>rfl) h (SE.fin [1,3,2,0] ⟨rfl,rfl,rfl,rfl,trivial⟩ rfl) (fun n z8 y7 h=>?_);unfold eo at h;refine au ?_;refine jb (nB rfl) ?_;refine nt (ci h (fun h=>?_) (fun h=>?_))
  ·refine au ?_;refine ak (cK ?_);refine da (aG rfl qp) ?_;refine ea 2 (aA rfl AZ nJ rfl) ?_;refine dm ?_;refine ea 2 (aA rfl g9 (qV) rfl) ?_;obtain⟨r9,u,h⟩:=aa h;refine Eh 0 rfl rfl rfl rfl (bF (N:=[(.tmp 21,Pt c),(.tmp 22,.agg (.pair (I r2.1.1) (.pair (I r2.1.2.1) (.pair (I r2.1.2.2.1) (.pair (I r2.1.2.2.2.1) (.pair (.rep (.slice (.slice Tl)) r2.1.2.2.2.2.1) (.eq z8)))))))]) (ay [.tmp 21,.tmp 22] rfl rfl S7 rfl (sD k (y7.1,y7.2.1,y7.2.2.1) c (r2.1.1,r2.1.2.1,r2.1.2.2.1,r2.1.2.2.2.1,r2.1.2.2.2.2.1,()) r9 u)) fun _ _ _ hn=>⟨hn.1,(LI (t:=(.pair Ti (.pair Ti (.pair Ti (.pair Ti (.pair (.slice (.slice Tl)) .ign)))))) (x:=(r2.1.1,r2.1.2.1,r2.1.2.2.1,r2.1.2.2.2.1,r2.1.2.2.2.2.1,())) (oQ (jB .int) (oQ (jB .int) (oQ (jB .int) (oQ (jB .int) (oQ (jB .rep) MA))))) hn.2.1),trivial⟩) ⟨rfl,rfl,trivial⟩ ?_;refine da (bg (t:=aZ) [(.tmp 23,_)] [r9.1] rfl rfl JW (.cons rfl .rep .nil) rfl rfl) ?_;refine Ei (Δ':=[.obj b1 25 (.agg (.pair (I 0) (.pair (I 0) (.pair (I 0) (.pair (I 0) (.pair (.eq (.slice none 0 0)) (.eq (.slice none 0 0)))))))),.obj b3 25 (.agg (.pair (I r2.1.1) (.pair (I r2.1.2.1) (.pair (I r2.1.2.2.1) (.pair (I r2.1.2.2.2.1) (.pair (.rep (.slice (.slice Tl)) r2.1.2.2.2.2.1) (.eq z8))))))),.sl z8 27 aZ y7.2.2.2.1,.obj c 67 (.agg (.pair (.rep Tl r9.2.1) (.pair (I r9.2.2.1) (.eq (.int .u64 r9.2.2.2)))))]) (by kernel_rfl) dW (by kernel_rfl) ?_;obtain⟨F,j,h⟩:=aa h;refine fr 2 ?_;refine dU rfl rfl rfl (cj rfl rfl JW (ao j)) ⟨rfl,rfl,trivial⟩ fun s=>?_;refine fl qp ?_;refine sY fun o12=>?_;refine fr 2 ?_;refine aR rfl rfl (aP rfl AZ o12 rfl rfl) ⟨rfl,rfl,trivial⟩ ?_;refine au ?_;refine ae (mq ?_);obtain⟨l,e,h⟩:=aa h;refine jb (d4 rfl e) ?_;refine au ?_;exact jz (s,(r9.2.1,r9.2.2.1,r9.2.2.2,y7.2.2.2.1++[r9.1],l)) h [3,2,0,1]
  ·refine au ?_;exact jz (z8,(y7.2.2.2.1,y7.1,y7.2.1,y7.2.2.1)) h [1,2,3,0]
 ·
  refine sr (fr 1 ?_);refine fr 2 ?_;refine eC (nv (off:=5) [] trivial rfl rfl) ?_;refine lo g9 ?_;refine fr 1 ?_;refine aR rfl rfl (aP rfl g9 trivial rfl rfl) ⟨rfl,rfl,trivial⟩ ?_;refine nt (dw (bL (iv (a:=.agg (.pair (I r2.1.1) (.pair (I r2.1.2.1) (.pair (I r2.1.2.2.1) (.pair (I r2.1.2.2.2.1) (.pair (.rep (.slice (.slice Tl)) r2.1.2.2.2.2.1) (Rs aZ x4.1))))))) (a':=.rep aj (r2.1.1,r2.1.2.1,r2.1.2.2.1,r2.1.2.2.2.1,r2.1.2.2.2.2.1,x4.1)) (jB (.agg (.pair .int (.pair .int (.pair .int (.pair .int (.pair .rep .rep)))))))) ?_));refine bL (SE.fin (Γ':=[(6,_)]) [2,0,1] ⟨rfl,trivial⟩ rfl) ?_;cases h;exact aM () [.rep aj (r2.1.1,r2.1.2.1,r2.1.2.2.1,r2.1.2.2.2.1,r2.1.2.2.2.2.1,x4.1)] 1 ⟨⟨_,_,_,_,_,rfl,(.tail _ (.head _)),g9,(qV),rfl⟩,trivial⟩ rfl
def lm(k:Nat)(a0:ag):Option ((List Int)×Int):=
 (iG k a0 ([]:(List Int)) ([]:(List Int)) ([]:(List Int))).bind fun r2=>
 fN r2.1 (if¬(r2.2.2=0) then(some (([]:(List Int)),r2.2.2)) else(none)) (fun q3=>if¬(r2.2.2=0) then(some (([]:(List Int)),r2.2.2)) else((jQ k r2.2.1).bind fun r5=>
 (dX k r5).bind fun r6=>
 some (r6,0)))
theorem vS(k:Nat)(a0:ag)(r:(List Int)×Int)(h:lm k a0=some r):
 bQ (dC Tryz.prog) 22 [.rep aj a0] [] (fun _:Unit=>(bv [.rep Tl r.1,I r.2],[])):=by
 unfold lm at h
 replace h:=aY h
 refine bQ.of 19 Tryz.func22 rfl Tryz.ntmps22 rfl fun S w0=>?_
 refine sr ?_
 refine bx fun b1=>?_
 refine au ?_
 refine lo g9 ?_
 obtain⟨r2,l,h⟩:=aa h
 have c:=kD k a0 ([]:(List Int)) ([]:(List Int)) ([]:(List Int)) r2 l
 rcases hr:r2.1 with _ |q3
 ·
  rw [hr] at h c;replace h:=u4 h;refine aD (Δ:=[]) (F:=_) (fun _ _ _=>ab rfl _) rfl rfl (bF (N:=[(.tmp 8,.rep aj a0),(.const (.slice none 0 0),.eq (.slice none 0 0)),(.const (.slice none 0 0),.eq (.slice none 0 0)),(.const (.slice none 0 0),.eq (.slice none 0 0))]) (aJ [.tmp 8,.const (.slice none 0 0),.const (.slice none 0 0),.const (.slice none 0 0)] rfl rfl zO rfl c) fun _ _ _ hn=>⟨hn.1,(aE (t:=Tl) (x:=([]:(List Int))) .nil rfl rfl hn.2.1),(aE (t:=Tl) (x:=([]:(List Int))) .nil rfl rfl hn.2.2.1),(aE (t:=Tl) (x:=([]:(List Int))) .nil rfl rfl hn.2.2.2.1),trivial⟩) ⟨rfl,rfl,rfl,rfl,trivial⟩ fun _=>?_;refine au ?_;refine jb (fh rfl) ?_;refine nt (cn h (fun h=>?_) (fun h=>?_))
  ·refine sr (mq ?_);refine cq ?_;refine aq (nt (rx ?_));refine bL (eA (t:=Tl) (x:=([]:(List Int))) 2 rfl .nil rfl rfl) ?_;cases h;exact rb
  ·cases h
 ·
  rw [hr] at h c;replace h:=uZ h;refine aD (Δ:=[]) (F:=_) (fun _ _ _=>ab rfl _) rfl rfl (bF (N:=[(.tmp 8,.rep aj a0),(.const (.slice none 0 0),.eq (.slice none 0 0)),(.const (.slice none 0 0),.eq (.slice none 0 0)),(.const (.slice none 0 0),.eq (.slice none 0 0))]) (aJ [.tmp 8,.const (.slice none 0 0),.const (.slice none 0 0),.const (.slice none 0 0)] rfl rfl zO rfl c) fun _ _ _ hn=>⟨hn.1,(aE (t:=Tl) (x:=([]:(List Int))) .nil rfl rfl hn.2.1),(aE (t:=Tl) (x:=([]:(List Int))) .nil rfl rfl hn.2.2.1),(aE (t:=Tl) (x:=([]:(List Int))) .nil rfl rfl hn.2.2.2.1),trivial⟩) ⟨rfl,rfl,rfl,rfl,trivial⟩ fun z4=>?_;refine au ?_;refine jb (fh rfl) ?_;refine nt (cn h (fun h=>?_) (fun h=>?_))
  ·refine sr (mq ?_);refine cq ?_;refine aq (nt (rx ?_));refine bL (eA (t:=Tl) (x:=([]:(List Int))) 2 rfl .nil rfl rfl) ?_;cases h;exact rb
  ·refine au ?_;obtain⟨r5,j,h⟩:=aa h;refine jb (ay [.tmp 16,.func 50] rfl rfl QJ rfl (uD k r2.2.1 r5 j)) ?_;obtain⟨r6,e,h⟩:=aa h;refine ja (ay [.tmp 17] rfl rfl Il rfl (fU k r5 r6 e)) ?_;refine au ?_;cases h;exact rb
def dp(k:Nat)(a0:ag)(a2:(List Int))(r2:(List (List Int))×Int):Nat→Int→Option (Except (Bool×Bool) Unit)
 |0,_=>none
 |n+1,y8=>
  if y8 < (a0.2.2.2.2.2.length:Int) then((aO a0.2.2.2.2.2 y8).bind fun c=>
  (((uQ k a2 y8).bind fun r=>
  if r < 0 then((aO r2.1 c.2.1).bind fun j=>
  (aO j c.1).bind fun h=>
  some (!decide (c.2.2=(decide (a0.2.2.1≤h))))) else(some false)):Option (Bool)).bind fun l=>
  if l=true then(some (.error (false,true))) else((ck (y8+1)).bind fun e=>
  dp k a0 a2 r2 n e)) else(some (.ok ()))
def iY(k:Nat)(a0:ag)(a1:(List Int))(a2:(List Int)):Option (Bool×Bool):=
 (iz k a0 a1).bind fun r2=>
 ((if¬(r2.2=0) then(some true) else((mF k a0 r2.1).bind fun r5=>
 some (!r5))):Option (Bool)).bind fun x3=>
 if x3=true then(some (false,false)) else(bE (α:=Unit) (dp k a0 a2 r2 k 0) (some) fun _=>
 some (true,true))
theorem tD(k:Nat)(a0:ag)(a1:(List Int))(a2:(List Int))(r:Bool×Bool)(h:iY k a0 a1 a2=some r):
 bQ (dC Tryz.prog) 26 [.rep aj a0,.rep Tl a1,.rep Tl a2] [] (fun _:Unit=>(bv [.eq (.bool r.1),.eq (.bool r.2)],[])):=by
 unfold iY at h
 replace h:=aY h
 refine bQ.of 59 Tryz.func26 rfl Tryz.ntmps26 rfl fun S w0=>?_
 refine sr ?_
 refine bx fun b1=>?_
 refine au ?_
 refine lo g9 ?_
 refine mq ?_
 obtain⟨r2,Q,h⟩:=aa h
 have U:=pE k a0 a1 r2 Q
 refine jb (aJ [.tmp 13,.tmp 14] rfl rfl QT rfl U) ?_
 refine mq ?_
 refine xr ?_
 refine xr ?_
 refine aq ?_
 refine aq ?_
 refine nt ?_
 refine cg ?_
 refine aI (Z:=Unit) (α:=Bool) (fun z4 x3=>[(2,.rep Tl a2),(3,Pt b1),(8,.rep (.slice Tl) r2.1),(25,.eq (.bool x3))]) (fun z4 x3=>[.obj b1 25 (.rep aj a0)]) h (fun K h=>?_) (fun z4 x3 h=>?_)
 ·
  refine ae (mq ?_);refine jb (fh rfl) ?_;refine mq ?_;refine cG (s:=20) rfl (fun hb=>?_) (fun hb=>?_)
  ·replace h:=fe (RU hb) h;refine au ?_;exact jz ((),true) h [0]
  ·replace h:=cS (Og hb) h;refine oN rfl rfl rfl rfl rfl rfl (aA rfl g9 (qV) rfl) ⟨rfl,trivial⟩ ?_;refine gm ?_;obtain⟨r5,O,h⟩:=aa h;refine gb (ay [.tmp 21,.tmp 22] rfl rfl S5 rfl (xO k a0 r2.1 r5 O)) ?_;refine ga (iE rfl) ?_;refine au ?_;exact jz ((), !r5) h [0]
 ·
  refine cv h (fun h=>?_) (fun h=>?_)
  ·refine au ?_;cases h;exact rb
  ·refine sk (dx (Z:=Unit) (α:=Unit) (fun z7 x6=>[]) (fun z7 x6=>[]) (fun e=>e=r) h (fun e h=>Option.some.inj h) (fun K hR h=>?_) (fun z7 x6 h=>?_))
   ·refine au ?_;refine ak (aK (fun z9 y8=>[(2,.rep Tl a2),(3,Pt b1),(8,.rep (.slice Tl) r2.1),(10,I y8)]) (fun z9 y8=>[.obj b1 25 (.rep aj a0)]) (dp k a0 a2 r2) k () 0 (fun _=>rfl) h (SE.fin [0] ⟨rfl,rfl,rfl,rfl,trivial⟩ rfl) (fun n z9 y8 h=>?_));unfold dp at h;refine au ?_;refine fl qp ?_;refine lo AZ ?_;refine ol OW ?_;refine jb (bB rfl) ?_;refine nt (ci h (fun h=>?_) (fun h=>?_))
    ·refine au ?_;refine ak (sr (fl qp ?_));refine lo AZ ?_;refine mq ?_;obtain⟨J,y,h⟩:=aa h;refine jb (aS (t:=aZ) rfl OW qI y) ?_;refine ja (av (t:=aZ) rfl qI rfl) ?_;refine aW rfl rfl rfl (bj rfl AO IE) trivial fun Y=>?_;refine aR rfl rfl (aP rfl qI rfl rfl rfl) ⟨rfl,rfl,trivial⟩ ?_;refine nt (aI (Z:=Unit) (α:=Bool) (fun j c=>[(2,.rep Tl a2),(3,Pt b1),(8,.rep (.slice Tl) r2.1),(10,I y8),(58,.eq (.bool c))]) (fun j c=>[.obj b1 25 (.rep aj a0)]) h (fun K h=>?_) (fun j c h=>?_))
     ·refine cK ?_;refine dm ?_;refine dm ?_;obtain⟨M,D,h⟩:=aa h;refine db (ay [.tmp 38,.tmp 39] rfl rfl SZ rfl (EM k a2 y8 M D)) ?_;refine db (bB rfl) ?_;refine t3 rfl rfl rfl (bz rfl) ⟨rfl,trivial⟩ (fun hb=>?_) (fun hb=>?_)
      ·replace h:=fe (tU hb) h;refine cz rfl rfl rfl rfl rfl (aG rfl If) ⟨rfl,rfl,trivial⟩ ?_;refine gR 0 rfl rfl rfl rfl rfl rfl (aA rfl TW nJ rfl) ⟨rfl,rfl,trivial⟩ ?_;refine cz rfl rfl rfl rfl rfl (bz rfl) ⟨rfl,rfl,trivial⟩ ?_;refine cz rfl rfl rfl rfl rfl (aG rfl BN) ⟨rfl,rfl,trivial⟩ ?_;refine gR 0 rfl rfl rfl rfl rfl rfl (aA rfl bV nJ rfl) ⟨rfl,rfl,trivial⟩ ?_;obtain⟨X,x,h⟩:=aa h;refine cz rfl rfl rfl rfl rfl (aS (t:=Tl) rfl qy gh x) ⟨rfl,rfl,rfl,trivial⟩ ?_;refine cz rfl rfl rfl rfl rfl (av (t:=Tl) rfl gh rfl) ⟨rfl,rfl,trivial⟩ ?_;refine cz rfl rfl rfl rfl rfl (aG rfl BO) ⟨rfl,rfl,trivial⟩ ?_;refine gR 0 rfl rfl rfl rfl rfl rfl (aA rfl bV nJ rfl) ⟨rfl,rfl,trivial⟩ ?_;obtain⟨F,u,h⟩:=aa h;refine cz rfl rfl rfl rfl rfl (aS (t:=Ti) rfl iu bV u) ⟨rfl,rfl,rfl,trivial⟩ ?_;refine cz rfl rfl rfl rfl rfl (av (t:=Ti) rfl bV rfl) ⟨rfl,rfl,trivial⟩ ?_;refine cz rfl rfl rfl rfl rfl (aG rfl dM) ⟨rfl,rfl,trivial⟩ ?_;refine gR 1 rfl rfl rfl rfl rfl rfl (aA rfl bV nJ rfl) ⟨rfl,rfl,trivial⟩ ?_;refine cz rfl rfl rfl rfl rfl (kx rfl) ⟨rfl,rfl,rfl,trivial⟩ ?_;refine df dW ?_;refine gb (Hf rfl U4) ?_;refine au ?_;exact jz ((), !decide (J.2.2=(decide (a0.2.2.1≤F)))) h [1]
      ·replace h:=cS (tV hb) h;iterate 14 refine dg ?_
       refine df dW ?_;refine au ?_;exact jz ((),false) h [1]
     ·refine cv h (fun h=>?_) (fun h=>?_)
      ·refine au ?_;obtain rfl:=hR _ h;exact rb
      ·refine au ?_;refine ae (mq ?_);obtain⟨E,l,h⟩:=aa h;refine jb (bA rfl l) ?_;refine au ?_;exact jz ((),E) h [0]
    ·refine au ?_;exact jz ((),()) h []
   ·refine au ?_;cases h;exact rb
def dK(k:Nat)(r3:ag×bP)(r5:(List (List Int))):Nat→((List (List Int))×Int)→Option (Except Bool (List (List Int)))
 |0,_=>none
 |n+1,y8=>
  if y8.2 < (r5.length:Int) then(bE (α:=(List (List Int))) ((aO r5 y8.2).bind fun l=>
  (iY k r3.1 l ([]:(List Int))).bind fun h=>
  if¬(h.2=true) then(some (.error false)) else(if h.1=true then((aO r5 y8.2).bind fun c=>
  (cF (bK (List.length y8.1+List.length [c]))).bind fun _=>
  some (.ok (y8.1++[c]))) else(some (.ok y8.1)))) (fun e=>some (.error e)) fun r=>
  (ck (y8.2+1)).bind fun j=>
  dK k r3 r5 n (r,j)) else(some (.ok y8.1))
def dJ(k:Nat)(e:(List (List Int))×Bool):Nat→((List Int)×Int)→Option (List Int)
 |0,_=>none
 |n+1,c=>
  if c.2 < (e.1.length:Int) then((((aO e.1 c.2).bind fun l=>
  if(l.length:Int) < (c.1.length:Int) then((aO e.1 c.2).bind fun j=>
  some j) else(some c.1)):Option ((List Int))).bind fun r=>
  (ck (c.2+1)).bind fun h=>
  dJ k e n (r,h)) else(some c.1)
def lS(k:Nat)(a0:(List Int)):Option Bool:=
 (lT k a0).bind fun r1=>
 (fZ k (r1.1,r1.2.1,r1.2.2) 4 4).bind fun r3=>
 (kB k k r3.1.1 ([]:(List Int))).bind fun r5=>
 bE (α:=(List (List Int))) (dK k r3 r5 k (([]:(List (List Int))),0)) (some) fun x6=>
 (jo k r3.1).bind fun h=>
 (lm k r3.1).bind fun e=>
 ((if¬(h.2=0) then(some (x6,true)) else((ee k h.1 x6).bind fun y=>
 some (x6, !y))):Option ((List (List Int))×Bool)).bind fun c=>
 if c.2=true then(some false) else(if(c.1.length:Int)=0 then(((if e.2=9 then(if(e.1.length:Int)=0 then((ox k).bind fun x=>
 some x) else(some false)) else(some false)):Option (Bool)).bind fun r=>
 some r) else((aO c.1 0).bind fun n=>
 ((dJ k c k (n,0)):Option ((List Int))).bind fun l=>
 ((if e.2=0 then((eW k e.1 l).bind fun u=>
 if u=true then((ox k).bind fun s=>
 some s) else(some false)) else(some false)):Option (Bool)).bind fun j=>
 some j))
theorem uM(k:Nat)(a0:(List Int))(r:Bool)(h:lS k a0=some r):
 bQ (dC Tryz.prog) 5 [.rep Tl a0] [] (fun _:Unit=>(bv [.eq (.bool r)],[])):=by
 unfold lS at h
 replace h:=aY h
 refine bQ.of 108 Tryz.func5 rfl Tryz.ntmps5 rfl fun S w0=>?_
 refine au ?_
 obtain⟨r1,UT,h⟩:=aa h
 have UW:=uO k a0 r1 UT
 refine aW rfl rfl rfl (ay [.tmp 15] rfl rfl Um rfl UW) ⟨rfl,trivial⟩ fun b2=>?_
 obtain⟨r3,US,h⟩:=aa h
 have UV:=sC k (r1.1,r1.2.1,r1.2.2) b2 4 4 r3 US
 refine kc (ay [.tmp 16,.const (.int .i64 (4)),.const (.int .i64 (4))] rfl rfl Tv rfl UV) ?_
 refine aW rfl rfl rfl (bj rfl yB E9) trivial fun b4=>?_
 refine aR rfl rfl (aP rfl g9 rfl rfl rfl) ⟨rfl,rfl,trivial⟩ ?_
 refine au ?_
 refine fl gX ?_
 refine lo bV ?_
 obtain⟨r5,UR,h⟩:=aa h
 have UU:=A8 k k r3.1.1 ([]:(List Int)) r5 UR
 refine jb (bF (N:=[(.tmp 19,I r3.1.1),(.const (.slice none 0 0),.eq (.slice none 0 0))]) (ay [.tmp 19,.const (.slice none 0 0)] rfl rfl QL rfl UU) fun _ _ _ hn=>⟨hn.1,(aE (t:=Tl) (x:=([]:(List Int))) .nil rfl rfl hn.2.1),trivial⟩) ?_
 refine aq ?_
 refine nt ?_
 refine dx (Z:=Value) (α:=(List (List Int))) (fun z7 x6=>[(3,Pt b4),(4,.eq z7)]) (fun z7 x6=>[.obj b4 25 (.rep aj r3.1),.sl z7 28 Tl x6]) (fun e=>e=r) h (fun e h=>Option.some.inj h) (fun K hR h=>?_) (fun z7 x6 h=>?_)
 ·
  refine au ?_;refine ak (jf (SE.nil 28 Tl) ?_);refine aK (fun z9 y8=>[(3,Pt b4),(4,.eq z9),(5,.rep (.slice Tl) r5),(6,I y8.2)]) (fun z9 y8=>[.obj b4 25 (.rep aj r3.1),.sl z9 28 Tl y8.1]) (dK k r3 r5) k (.slice none 0 0) (([]:(List (List Int))),0) (fun _=>rfl) h (SE.fin [1,0] ⟨rfl,rfl,rfl,rfl,trivial⟩ rfl) (fun n z9 y8 h=>?_);unfold dK at h;refine au ?_;refine ol qy ?_;refine jb (bB rfl) ?_;refine nt (ci h (fun h=>?_) (fun h=>?_))
  ·refine sk (dx (Z:=Value) (α:=(List (List Int))) (fun u E=>[(3,Pt b4),(4,.eq u),(5,.rep (.slice Tl) r5),(6,I y8.2)]) (fun u E=>[.obj b4 25 (.rep aj r3.1),.sl u 28 Tl E]) (fun e=>e=r) h (fun e h=>hR e h) (fun K hR h=>?_) (fun u E h=>?_))
   ·refine ak (cg (cK ?_));refine ea 0 (aA rfl g9 (qV) rfl) ?_;refine dm ?_;refine dm ?_;obtain⟨gw,UB,h⟩:=aa h;refine db (aS (t:=Tl) rfl qy gh UB) ?_;refine da (av (t:=Tl) rfl gh rfl) ?_;obtain⟨UQ,UJ,h⟩:=aa h;refine dc (bF (N:=[(.tmp 28,.rep aj r3.1),(.tmp 32,.rep Tl gw),(.const (.slice none 0 0),.eq (.slice none 0 0))]) (aJ [.tmp 28,.tmp 32,.const (.slice none 0 0)] rfl rfl Tu rfl (tD k r3.1 gw ([]:(List Int)) UQ UJ)) fun _ _ _ hn=>⟨hn.1,hn.2.1,(aE (t:=Tl) (x:=([]:(List Int))) .nil rfl rfl hn.2.2.1),trivial⟩) ?_;refine dm ?_;refine da (jl rfl rfl) ?_;refine da (jl rfl rfl) ?_;refine da (og rfl) ?_;refine df dW ?_;refine au ?_;refine ja (iE rfl) ?_;refine nt (cw h (fun h=>?_) (fun h=>?_))
    ·refine au ?_;obtain rfl:=hR _ h;exact ra
    ·refine au ?_;refine cv h (fun h=>?_) (fun h=>?_)
     ·refine ae (au ?_);obtain⟨gq,UA,h⟩:=aa h;refine jb (aS (t:=Tl) rfl qy gh UA) ?_;refine ja (av (t:=Tl) rfl gh rfl) ?_;refine ja (bg (t:=Tl) [(.tmp 43,_)] [gq] rfl rfl my (.cons rfl .rep .nil) rfl rfl) ?_;obtain⟨UY,UC,h⟩:=aa h;refine fr 1 ?_;refine dU rfl rfl rfl (cj rfl rfl my (ao UC)) ⟨rfl,rfl,trivial⟩ fun UO=>?_;refine au ?_;exact jz (UO,y8.1++[gq]) h [1,0]
     ·refine au ?_;exact jz (z9,y8.1) h [0,1]
   ·refine ae (mq ?_);obtain⟨UN,Uz,h⟩:=aa h;refine jb (bA rfl Uz) ?_;refine au ?_;exact jz (u,(E,UN)) h [0,1]
  ·refine au ?_;exact jz (z9,y8.1) h [0,1]
 ·
  refine sr (lo g9 ?_);obtain⟨zz,UI,h⟩:=aa h;refine ja (aJ [.tmp 47] rfl rfl QM rfl (pG k r3.1 zz UI)) ?_;refine au ?_;refine lo g9 ?_;obtain⟨c,UH,h⟩:=aa h;refine ja (aJ [.tmp 52] rfl rfl Tz rfl (vS k r3.1 c UH)) ?_;refine mq ?_;refine xr ?_;refine xr ?_;refine aq ?_;refine aq (nt (cg ?_));refine aI (Z:=Unit) (α:=(List (List Int))×Bool) (fun Y l=>[(4,.rep (.slice Tl) l.1),(11,.rep Tl c.1),(12,I c.2),(63,.eq (.bool l.2))]) (fun Y l=>[]) h (fun K h=>?_) (fun Y l h=>?_)
  ·refine ae (mq ?_);refine jb (fh rfl) ?_;refine mq ?_;refine cG (s:=58) rfl (fun hb=>?_) (fun hb=>?_)
   ·replace h:=fe (RU hb) h;iterate 4 refine gn ?_
    refine pt (nl ?_);refine bn 1 rfl ?_;refine bL (gZ [4] ⟨rfl,trivial⟩) ?_;exact jz ((),(x6,true)) h []
   ·replace h:=cS (Og hb) h;refine gm ?_;refine gm ?_;refine fr 1 ?_;refine eC (gZ [4,60] ⟨rfl,rfl,trivial⟩) ?_;obtain⟨qt,UG,h⟩:=aa h;refine gb (ay [.tmp 59,.tmp 60] rfl rfl OD rfl (jr k zz.1 x6 qt UG)) ?_;refine ga (iE rfl) ?_;refine au ?_;exact jz ((),(x6, !qt)) h []
  ·refine cv h (fun h=>?_) (fun h=>?_)
   ·refine au ?_;cases h;exact ra
   ·refine au ?_;refine ol qy ?_;refine jb (hP rfl) ?_;refine nt (ci h (fun h=>?_) (fun h=>?_))
    ·refine aI (Z:=Unit) (α:=Bool) (fun X J=>[(2,.eq (.bool J))]) (fun X J=>[]) h (fun K h=>?_) (fun X J h=>?_)
     ·refine ae (mq ?_);refine jb (hP rfl) ?_;refine mq ?_;refine cG (s:=69) rfl (fun hb=>?_) (fun hb=>?_)
      ·replace h:=fe (tU hb) h;refine gm ?_;refine ga (ta rfl rfl iu) ?_;refine gb (hP rfl) ?_;refine pt ?_;refine mq ?_;refine cG (s:=74) rfl (fun hb=>?_) (fun hb=>?_)
       ·replace h:=fe (tU hb) h;obtain⟨mw,UF,h⟩:=aa h;refine kw rfl rfl rfl rfl rfl rfl (aJ [] rfl rfl T8 rfl (tg k mw UF)) trivial ?_;refine au ?_;exact jz ((),mw) h []
       ·replace h:=cS (tV hb) h;refine au ?_;exact jz ((),false) h []
      ·replace h:=cS (tV hb) h;refine au ?_;exact jz ((),false) h []
     ·refine au ?_;cases h;exact ra
    ·refine au ?_;obtain⟨UM,Uy,h⟩:=aa h;refine jb (aS (t:=Tl) rfl qy gh Uy) ?_;refine ja (av (t:=Tl) rfl gh rfl) ?_;refine aq (nt ?_);refine aI (Z:=Unit) (α:=(List Int)) (fun U D=>[(11,.rep Tl c.1),(12,I c.2),(13,.rep Tl D)]) (fun U D=>[]) h (fun K h=>?_) (fun U D h=>?_)
     ·refine au ?_;refine ak (aK (fun Q j=>[(4,.rep (.slice Tl) l.1),(11,.rep Tl c.1),(12,I c.2),(13,.rep Tl j.1),(14,I j.2)]) (fun Q j=>[]) (dJ k l) k () (UM,0) (fun _=>rfl) h (SE.fin [] ⟨rfl,rfl,rfl,rfl,rfl,trivial⟩ rfl) (fun n Q j h=>?_));unfold dJ at h;refine au ?_;refine ol qy ?_;refine jb (bB rfl) ?_;refine nt (ci h (fun h=>?_) (fun h=>?_))
      ·refine sk (aI (Z:=Unit) (α:=(List Int)) (fun O y=>[(4,.rep (.slice Tl) l.1),(11,.rep Tl c.1),(12,I c.2),(13,.rep Tl y),(14,I j.2)]) (fun O y=>[]) h (fun K h=>?_) (fun O y h=>?_))
       ·refine ak (au ?_);obtain⟨UX,Ux,h⟩:=aa h;refine jb (aS (t:=Tl) rfl qy gh Ux) ?_;refine ja (av (t:=Tl) rfl gh rfl) ?_;refine ol iu ?_;refine mq ?_;refine ol iu ?_;refine jb (bB rfl) ?_;refine nt (ci h (fun h=>?_) (fun h=>?_))
        ·refine ae (au ?_);obtain⟨UL,Uw,h⟩:=aa h;refine jb (aS (t:=Tl) rfl qy gh Uw) ?_;refine ja (av (t:=Tl) rfl gh rfl) ?_;refine au ?_;exact jz ((),UL) h []
        ·refine au ?_;exact jz ((),j.1) h []
       ·refine ae (mq ?_);obtain⟨UK,Uu,h⟩:=aa h;refine jb (bA rfl Uu) ?_;refine au ?_;exact jz ((),(y,UK)) h []
      ·refine au ?_;exact jz ((),j.1) h []
     ·refine aI (Z:=Unit) (α:=Bool) (fun M F=>[(2,.eq (.bool F))]) (fun M F=>[]) h (fun K h=>?_) (fun M F h=>?_)
      ·refine ae (mq ?_);refine jb (hP rfl) ?_;refine mq ?_;refine cG (s:=100) rfl (fun hb=>?_) (fun hb=>?_)
       ·replace h:=fe (tU hb) h;refine au ?_;obtain⟨UP,UE,h⟩:=aa h;refine gb (ay [.tmp 101,.tmp 102] rfl rfl Le rfl (ir k c.1 D UP UE)) ?_;refine pt ?_;refine mq ?_;refine cG (s:=105) rfl (fun hb=>?_) (fun hb=>?_)
        ·replace h:=fe (MI hb) h;obtain⟨mc,UD,h⟩:=aa h;refine kw rfl rfl rfl rfl rfl rfl (aJ [] rfl rfl T8 rfl (tg k mc UD)) trivial ?_;refine au ?_;exact jz ((),mc) h []
        ·replace h:=cS (MK hb) h;refine au ?_;exact jz ((),false) h []
       ·replace h:=cS (tV hb) h;refine au ?_;exact jz ((),false) h []
      ·refine dw ?_;cases h;exact ra
