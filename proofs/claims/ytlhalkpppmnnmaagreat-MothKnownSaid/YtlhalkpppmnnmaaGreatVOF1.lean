import Derived.Test.YtlhalkpppmnnmaaGreatVOFacts
import Derived.Test.YtlhalkpppmnnmaaGreatVOB6
open Nat
open List hiding mem_of_getElem?
open Array hiding mem_of_getElem? mk
set_option linter.unusedSimpArgs false
set_option linter.unusedVariables false
set_option maxRecDepth 4000
set_option maxHeartbeats 1000000
namespace Go.Proofs.YtlhalkpppmnnmaaGreat
open K Go Go.Proofs
def eP(k:Nat)(a0:Int)(a1:Int)(a2:Bool):Option av:=
 some (a0,a1,a2)
theorem cT(k:Nat)(a0:Int)(a1:Int)(a2:Bool)(r:av)(h:eP k a0 a1 a2=some r):
 dA Tryz.prog 8 [I a0,I a1,.eq (.bool a2)] [] (λ_:Unit=>(bO [.rep aG r],[])):=by
 unfold eP at h
 replace h:=bz h
 refine dA.of 11 Tryz.func8 rfl Tryz.ntmps8 rfl λS w0=>?_
 refine sr ?_
 refine aS rfl rfl rfl (aY rfl FG J5) trivial λb1=>?_
 refine nt ?_
 refine sr ?_
 iterate 3 refine mq ?_
 refine jc (cJ [(0,.tmp 7,_),(1,.tmp 8,_),(2,.tmp 9,_)] rfl NG FG MJ (fO ⟨rfl,rfl,rfl,trivial⟩) rfl) ?_
 refine aK rfl rfl (aD rfl qy trivial rfl rfl) ⟨rfl,rfl,trivial⟩ ?_
 refine nt ?_
 refine aF ?_
 refine bL (dz (a:=.agg (.pair (I a0) (.pair (I a1) (.eq (.bool a2))))) (a':=.rep aG (a0,a1,a2)) (gk (.agg (.pair .int (.pair .int .bool))))) ?_
 cases h
 exact aZ () [.rep aG (a0,a1,a2)] 0 ⟨⟨_,_,_,_,_,rfl,(.head _),qy,(mW),rfl⟩,trivial⟩ rfl
def bf(k:Nat)(a0:(List av)):Option am:=
 (eP k 1 2 true).bind λr2=>
 (eP k 2 1 false).bind λr3=>
 (eP k 3 3 false).bind λr4=>
 (d3 (dR (length [r2,r3,r4]+length a0))).bind λ_=>
 some (4,1,1,2,[[[0,1,2],[3]],[[0,1],[2,3]],[[1,2,3]],[[1,3],[2]]],[r2,r3,r4]++a0)
theorem aU(k:Nat)(a0:(List av))(r:am)(h:bf k a0=some r):
 dA Tryz.prog 5 [Rs aG a0] [] (λ_:Unit=>(bO [.rep an r],[])):=by
 unfold bf at h
 replace h:=bz h
 refine dA.of 24 Tryz.func5 rfl Tryz.ntmps5 rfl λS w0=>?_
 refine sr ?_
 refine aS rfl rfl rfl (aY rfl mA te) trivial λb1=>?_
 refine nt ?_
 refine sr ?_
 obtain⟨r2,l,h⟩:=aa h
 have u:=cT k 1 2 true r2 l
 refine jc (ap [.const (.int .i64 (1)),.const (.int .i64 (2)),.const (.bool true)] rfl rfl Fv rfl u) ?_
 obtain⟨r3,j,h⟩:=aa h
 have s:=cT k 2 1 false r3 j
 refine jc (ap [.const (.int .i64 (2)),.const (.int .i64 (1)),.const (.bool false)] rfl rfl Fv rfl s) ?_
 obtain⟨r4,e,h⟩:=aa h
 have n:=cT k 3 3 false r4 e
 refine jc (ap [.const (.int .i64 (3)),.const (.int .i64 (3)),.const (.bool false)] rfl rfl Fv rfl n) ?_
 refine aS rfl rfl rfl (il (t:=aG) [(.tmp 4,_),(.tmp 5,_),(.tmp 6,_)] [r2,r3,r4] rfl rfl wG (.cons rfl .rep (.cons rfl .rep (.cons rfl .rep .nil))) rfl rfl) ⟨rfl,rfl,rfl,trivial⟩ λv5=>?_
 refine aq ?_
 refine nt ?_
 refine sr ?_
 refine jc (aQ (t:=Ti) [(.const (.int .i64 (0)),_),(.const (.int .i64 (1)),_),(.const (.int .i64 (2)),_)] [0,1,2] rfl rfl cD (.cons rfl .int (.cons rfl .int (.cons rfl .int .nil))) rfl rfl) ?_
 refine ja (aQ (t:=Ti) [(.const (.int .i64 (3)),_)] [3] rfl rfl cD (.cons rfl .int .nil) rfl rfl) ?_
 refine jb (aQ (t:=Tl) [(.tmp 8,_),(.tmp 9,_)] [[0,1,2],[3]] rfl rfl mC (.cons rfl .rep (.cons rfl .rep .nil)) rfl rfl) ?_
 refine jb (aQ (t:=Ti) [(.const (.int .i64 (0)),_),(.const (.int .i64 (1)),_)] [0,1] rfl rfl cD (.cons rfl .int (.cons rfl .int .nil)) rfl rfl) ?_
 refine jb (aQ (t:=Ti) [(.const (.int .i64 (2)),_),(.const (.int .i64 (3)),_)] [2,3] rfl rfl cD (.cons rfl .int (.cons rfl .int .nil)) rfl rfl) ?_
 refine jb (aQ (t:=Tl) [(.tmp 11,_),(.tmp 12,_)] [[0,1],[2,3]] rfl rfl mC (.cons rfl .rep (.cons rfl .rep .nil)) rfl rfl) ?_
 refine jc (aQ (t:=Ti) [(.const (.int .i64 (1)),_),(.const (.int .i64 (2)),_),(.const (.int .i64 (3)),_)] [1,2,3] rfl rfl cD (.cons rfl .int (.cons rfl .int (.cons rfl .int .nil))) rfl rfl) ?_
 refine ja (aQ (t:=Tl) [(.tmp 14,_)] [[1,2,3]] rfl rfl mC (.cons rfl .rep .nil) rfl rfl) ?_
 refine jb (aQ (t:=Ti) [(.const (.int .i64 (1)),_),(.const (.int .i64 (3)),_)] [1,3] rfl rfl cD (.cons rfl .int (.cons rfl .int .nil)) rfl rfl) ?_
 refine ja (aQ (t:=Ti) [(.const (.int .i64 (2)),_)] [2] rfl rfl cD (.cons rfl .int .nil) rfl rfl) ?_
 refine jb (aQ (t:=Tl) [(.tmp 16,_),(.tmp 17,_)] [[1,3],[2]] rfl rfl mC (.cons rfl .rep (.cons rfl .rep .nil)) rfl rfl) ?_
 refine bX rfl (aQ (t:=(.slice Tl)) [(.tmp 10,_),(.tmp 13,_),(.tmp 15,_),(.tmp 18,_)] [[[0,1,2],[3]],[[0,1],[2,3]],[[1,2,3]],[[1,3],[2]]] rfl rfl Ge (.cons rfl .rep (.cons rfl .rep (.cons rfl .rep (.cons rfl .rep .nil)))) rfl rfl) ⟨rfl,rfl,rfl,rfl,trivial⟩ ?_
 iterate 2 refine mq ?_
 obtain⟨u6,c,h⟩:=aa h
 refine fi rfl rfl rfl (c7 rfl rfl wG (ax c)) ⟨rfl,rfl,trivial⟩ λv7=>?_
 refine d4 (jq [22] ⟨rfl,trivial⟩) ?_
 refine bX rfl (cJ [(0,.const (.int .i64 (4)),_),(1,.const (.int .i64 (1)),_),(2,.const (.int .i64 (1)),_),(3,.const (.int .i64 (2)),_),(4,.tmp 19,_),(5,.tmp 22,_)] rfl yu mA td (fO ⟨rfl,rfl,rfl,rfl,rfl,rfl,trivial⟩) rfl) ⟨rfl,rfl,rfl,rfl,rfl,rfl,trivial⟩ ?_
 refine aK rfl rfl (aD rfl c6 trivial rfl rfl) ⟨rfl,rfl,trivial⟩ ?_
 refine nt ?_
 refine aF ?_
 refine bL (dz (a:=.agg (.pair (I 4) (.pair (I 1) (.pair (I 1) (.pair (I 2) (.pair (.rep (.slice (.slice Tl)) [[[0,1,2],[3]],[[0,1],[2,3]],[[1,2,3]],[[1,3],[2]]]) (Rs aG ([r2,r3,r4]++a0)))))))) (a':=.rep an (4,1,1,2,[[[0,1,2],[3]],[[0,1],[2,3]],[[1,2,3]],[[1,3],[2]]],[r2,r3,r4]++a0)) (gk (.agg (.pair .int (.pair .int (.pair .int (.pair .int (.pair .rep .rep)))))))) ?_
 cases h
 exact aZ () [.rep an (4,1,1,2,[[[0,1,2],[3]],[[0,1],[2,3]],[[1,2,3]],[[1,3],[2]]],[r2,r3,r4]++a0)] 0 ⟨⟨_,_,_,_,_,rfl,(.head _),c6,(mW),rfl⟩,trivial⟩ rfl
theorem ua(k:Nat)(a0:(List av))(r:am)(h:bf k a0=some r)(d0:List (List Int))(hd:bT r.2.2.2.2.1 0=some d0):
 dA Tryz.prog 5 [Rs aG a0] [] (λz:Value×Value=>(bO [.agg (.pair (I r.1) (.pair (I r.2.1) (.pair (I r.2.2.1) (.pair (I r.2.2.2.1) (.pair (.eq z.1) (Rs aG r.2.2.2.2.2))))))],[.sl z.1 28 (.alt (.slice Tl)) (List.set (List.map Sum.inl r.2.2.2.2.1) (Int.toNat 0) (Sum.inr z.2)),.sl z.2 27 Tl d0])):=by
 unfold bf at h
 replace h:=bz h
 refine dA.of 24 Tryz.func5 rfl Tryz.ntmps5 rfl λS w0=>?_
 refine sr ?_
 refine aS rfl rfl rfl (aY rfl mA te) trivial λb1=>?_
 refine nt ?_
 refine sr ?_
 obtain⟨r2,l,h⟩:=aa h
 have u:=cT k 1 2 true r2 l
 refine jc (ap [.const (.int .i64 (1)),.const (.int .i64 (2)),.const (.bool true)] rfl rfl Fv rfl u) ?_
 obtain⟨r3,j,h⟩:=aa h
 have s:=cT k 2 1 false r3 j
 refine jc (ap [.const (.int .i64 (2)),.const (.int .i64 (1)),.const (.bool false)] rfl rfl Fv rfl s) ?_
 obtain⟨r4,e,h⟩:=aa h
 have n:=cT k 3 3 false r4 e
 refine jc (ap [.const (.int .i64 (3)),.const (.int .i64 (3)),.const (.bool false)] rfl rfl Fv rfl n) ?_
 refine aS rfl rfl rfl (il (t:=aG) [(.tmp 4,_),(.tmp 5,_),(.tmp 6,_)] [r2,r3,r4] rfl rfl wG (.cons rfl .rep (.cons rfl .rep (.cons rfl .rep .nil))) rfl rfl) ⟨rfl,rfl,rfl,trivial⟩ λv5=>?_
 refine aq ?_
 refine nt ?_
 refine sr ?_
 refine jc (aQ (t:=Ti) [(.const (.int .i64 (0)),_),(.const (.int .i64 (1)),_),(.const (.int .i64 (2)),_)] [0,1,2] rfl rfl cD (.cons rfl .int (.cons rfl .int (.cons rfl .int .nil))) rfl rfl) ?_
 refine ja (aQ (t:=Ti) [(.const (.int .i64 (3)),_)] [3] rfl rfl cD (.cons rfl .int .nil) rfl rfl) ?_
 refine aS rfl rfl rfl (il (t:=Tl) [(.tmp 8,_),(.tmp 9,_)] [[0,1,2],[3]] rfl rfl mC (.cons rfl .rep (.cons rfl .rep .nil)) rfl rfl) ⟨rfl,rfl,trivial⟩ λvd=>?_
 refine rl λod=>?_
 refine jb (aQ (t:=Ti) [(.const (.int .i64 (0)),_),(.const (.int .i64 (1)),_)] [0,1] rfl rfl cD (.cons rfl .int (.cons rfl .int .nil)) rfl rfl) ?_
 refine jb (aQ (t:=Ti) [(.const (.int .i64 (2)),_),(.const (.int .i64 (3)),_)] [2,3] rfl rfl cD (.cons rfl .int (.cons rfl .int .nil)) rfl rfl) ?_
 refine jb (aQ (t:=Tl) [(.tmp 11,_),(.tmp 12,_)] [[0,1],[2,3]] rfl rfl mC (.cons rfl .rep (.cons rfl .rep .nil)) rfl rfl) ?_
 refine jc (aQ (t:=Ti) [(.const (.int .i64 (1)),_),(.const (.int .i64 (2)),_),(.const (.int .i64 (3)),_)] [1,2,3] rfl rfl cD (.cons rfl .int (.cons rfl .int (.cons rfl .int .nil))) rfl rfl) ?_
 refine ja (aQ (t:=Tl) [(.tmp 14,_)] [[1,2,3]] rfl rfl mC (.cons rfl .rep .nil) rfl rfl) ?_
 refine jb (aQ (t:=Ti) [(.const (.int .i64 (1)),_),(.const (.int .i64 (3)),_)] [1,3] rfl rfl cD (.cons rfl .int (.cons rfl .int .nil)) rfl rfl) ?_
 refine ja (aQ (t:=Ti) [(.const (.int .i64 (2)),_)] [2] rfl rfl cD (.cons rfl .int .nil) rfl rfl) ?_
 refine jb (aQ (t:=Tl) [(.tmp 16,_),(.tmp 17,_)] [[1,3],[2]] rfl rfl mC (.cons rfl .rep (.cons rfl .rep .nil)) rfl rfl) ?_
 refine aS rfl rfl rfl (il (t:=.alt (.slice Tl)) [(.tmp 10,_),(.tmp 13,_),(.tmp 15,_),(.tmp 18,_)] [.inr vd,.inl [[0,1],[2,3]],.inl [[1,2,3]],.inl [[1,3],[2]]] rfl rfl Ge (.cons od (.altR od) (.cons rfl (.altL rfl .rep) (.cons rfl (.altL rfl .rep) (.cons rfl (.altL rfl .rep) .nil)))) rfl rfl) ⟨rfl,rfl,rfl,rfl,trivial⟩ λv0=>?_
 refine rl λo0=>?_
 iterate 2 refine mq ?_
 obtain⟨u6,c,h⟩:=aa h
 refine fr 2 ?_
 refine fi rfl rfl rfl (c7 rfl rfl wG (ax c)) ⟨rfl,rfl,trivial⟩ λv7=>?_
 refine d4 (jq [22] ⟨rfl,trivial⟩) ?_
 refine bX rfl (cJ [(0,.const (.int .i64 (4)),_),(1,.const (.int .i64 (1)),_),(2,.const (.int .i64 (1)),_),(3,.const (.int .i64 (2)),_),(4,.tmp 19,_),(5,.tmp 22,_)] rfl yu mA td (fO ⟨rfl,rfl,rfl,rfl,o0,rfl,trivial⟩) rfl) ⟨rfl,rfl,rfl,rfl,rfl,rfl,trivial⟩ ?_
 refine fr 2 ?_
 refine aK rfl rfl (aD rfl c6 trivial rfl rfl) ⟨rfl,rfl,trivial⟩ ?_
 refine nt ?_
 refine aF ?_
 refine bL (SE.fin (Γ':=[(2,_)]) [1,2,0] ⟨rfl,trivial⟩ rfl) ?_
 cases h
 have hd':some [[0,1,2],[3]]=some d0:=hd
 obtain rfl:=Option.some.inj hd'
 exact aZ (v0,vd) [.agg (.pair (I 4) (.pair (I 1) (.pair (I 1) (.pair (I 2) (.pair (.eq v0) (Rs aG ([r2,r3,r4]++a0)))))))] 2 ⟨⟨_,_,_,_,_,rfl,(.tail _ (.tail _ (.head _))),c6,(mW),rfl⟩,trivial⟩ rfl
def dF(k:Nat)(a0:Int)(a1:Int)(a2:Int):Option Bool:=
 ((if a1≤a0 then(some (decide (a0≤a2))) else(some false)):Option (Bool)).bind λx1=>
 some x1
theorem de(k:Nat)(a0:Int)(a1:Int)(a2:Int)(r:Bool)(h:dF k a0 a1 a2=some r):
 dA Tryz.prog 30 [I a0,I a1,I a2] [] (λ_:Unit=>(bO [.eq (.bool r)],[])):=by
 unfold dF at h
 replace h:=bz h
 refine dA.of 15 Tryz.func30 rfl Tryz.ntmps30 rfl λS w0=>?_
 refine sr ?_
 refine cq ?_
 refine nt ?_
 refine aR (Z:=Unit) (α:=Bool) (λz2 x1=>[(6,.eq (.bool x1))]) (λz2 x1=>[]) h (λK h=>?_) (λz2 x1 h=>?_)
 .
  refine ae ?_;iterate 2 refine mq ?_
  refine jb (zB rfl) ?_;refine mq ?_;refine aP (s:=10) rfl (λhb=>?_) (λhb=>?_)
  .replace h:=cj (qf hb) h;refine gm ?_;refine gm ?_;refine gb (zB rfl) ?_;refine pt ?_;refine aq (nl ?_);exact jz ((),decide (a0≤a2)) h []
  .replace h:=bh (qg hb) h;iterate 3 refine gn ?_
   refine pf ?_;refine aq (nl ?_);exact jz ((),false) h []
 .
  refine aF ?_;cases h;exact ra
def eJ(k:Nat)(a0:Int)(a1:Int):Option Int:=
 (d3 (0≤a1)).bind λ_=>
 some (Ft .u8 a0 (vA .u8 1 a1))
theorem eW(k:Nat)(a0:Int)(a1:Int)(r:Int)(h:eJ k a0 a1=some r):
 dA Tryz.prog 45 [.eq (.int .u8 a0),I a1] [] (λ_:Unit=>(bO [.eq (.int .u8 r)],[])):=by
 unfold eJ at h
 replace h:=bz h
 refine dA.of 9 Tryz.func45 rfl Tryz.ntmps45 rfl λS w0=>?_
 refine sr ?_
 refine cq ?_
 refine nt ?_
 refine sr ?_
 iterate 2 refine mq ?_
 obtain⟨u1,c,h⟩:=aa h
 refine jb (Iq rfl (ax c)) ?_
 refine jb (K9 rfl) ?_
 refine aq ?_
 refine nt ?_
 refine aF ?_
 cases h
 exact ra
def fD(k:Nat)(a0:Int)(a1:Int):Option Bool:=
 (d3 (0≤a1)).bind λ_=>
 some (decide ((qV .u8 (o9 .u8 a0 a1) 1)=1))
theorem fC(k:Nat)(a0:Int)(a1:Int)(r:Bool)(h:fD k a0 a1=some r):
 dA Tryz.prog 67 [.eq (.int .u8 a0),I a1] [] (λ_:Unit=>(bO [.eq (.bool r)],[])):=by
 unfold fD at h
 replace h:=bz h
 refine dA.of 10 Tryz.func67 rfl Tryz.ntmps67 rfl λS w0=>?_
 refine sr ?_
 refine cq ?_
 refine nt ?_
 refine sr ?_
 iterate 2 refine mq ?_
 obtain⟨u1,c,h⟩:=aa h
 refine jb (zA rfl (ax c)) ?_
 refine jb (Ld rfl) ?_
 refine jb (dE rfl) ?_
 refine aq ?_
 refine nt ?_
 refine aF ?_
 cases h
 exact ra
def f8(k:Nat)(a0:am)(x8:(List Int)):Nat->(Int×Int)->Option (Except Int Int)
 |0,_=>none
 |n+1,y9=>
  if y9.2 < (x8.length:Int) then((bT x8 y9.2).bind λc=>
  (ck (a0.1 - 1)).bind λh=>
  (dF k c 0 h).bind λr=>
  if¬(r=true) then(some (.error 3)) else((fD k y9.1 c).bind λl=>
  if l=true then(some (.error 4)) else((eJ k y9.1 c).bind λj=>
  (ck (y9.2+1)).bind λe=>
  f8 k a0 x8 n (j,e)))) else(some (.ok y9.1))
def f9(k:Nat)(a0:am)(a1:(List (List Int))):Nat->(Int×Int)->Option (Except Int Unit)
 |0,_=>none
 |n+1,y4=>
  if y4.2 < (a1.length:Int) then(bE (α:=Int) ((bT a1 y4.2).bind λx8=>
  f8 k a0 x8 k (y4.1,0)) (λe=>some (.error e)) λx6=>
  (ck (y4.2+1)).bind λc=>
  f9 k a0 a1 n (x6,c)) else(some (.ok ()))
def lW(k:Nat)(a0:am)(a1:(List (List Int))):Option Int:=
 if 3 < (a1.length:Int) then(some 6) else(bE (α:=Unit) (f9 k a0 a1 k (0,0)) (some) λ_=>
 some 0)
theorem rO(k:Nat)(a0:am)(a1:(List (List Int)))(r:Int)(h:lW k a0 a1=some r):
 dA Tryz.prog 31 [.rep an a0,.rep (.slice Tl) a1] [] (λ_:Unit=>(bO [I r],[])):=by
 unfold lW at h
 replace h:=bz h
 refine dA.of 39 Tryz.func31 rfl Tryz.ntmps31 rfl λS w0=>?_
 refine sr ?_
 refine bx λb1=>?_
 refine cq ?_
 refine nt ?_
 refine ai ?_
 refine sr ?_
 refine mq ?_
 refine ol vT ?_
 refine jb (lA rfl) ?_
 refine nt ?_
 refine ci h (λh=>?_) (λh=>?_)
 .
  refine sr (cq (nt (rx ?_)));cases h;exact ra
 .
  refine sk (sr (cq (nt ?_)));refine dK (Z:=Unit) (α:=Unit) (λz3 x2=>[]) (λz3 x2=>[]) (λe=>e=r) h (λe h=>Option.some.inj h) (λK hR h=>?_) (λz3 x2 h=>?_)
  .refine sr (mq ?_);refine ol vT ?_;refine dx rfl ?_;refine nt (ak (aW (λz5 y4=>[(2,Pt b1),(5,.eq (.int .u8 y4.1)),(13,.rep (.slice Tl) a1),(14,I (a1.length:Int)),(15,I y4.2)]) (λz5 y4=>[.obj b1 25 (.rep an a0)]) (f9 k a0 a1) k () (0,0) (λ_=>rfl) h (SE.fin [0] ⟨rfl,rfl,rfl,rfl,rfl,trivial⟩ rfl) (λn z5 y4 h=>?_)));unfold f9 at h;refine sr (jb (bS rfl) ?_);refine nt (ai (ci h (λh=>?_) (λh=>?_)))
   .refine sk (dK (Z:=Unit) (α:=Int) (λz7 x6=>[(2,Pt b1),(5,.eq (.int .u8 x6)),(13,.rep (.slice Tl) a1),(14,I (a1.length:Int)),(15,I y4.2)]) (λz7 x6=>[.obj b1 25 (.rep an a0)]) (λe=>e=r) h (λe h=>hR e h) (λK hR h=>?_) (λz7 x6 h=>?_))
    .refine ak (sr ?_);obtain⟨x8,X,h⟩:=aa h;refine jb (bA (t:=Tl) rfl vT je X) ?_;refine ja (aA (t:=Tl) rfl je rfl) ?_;refine aq (nt (sr ?_));refine mq ?_;refine ol jp ?_;refine dx rfl ?_;refine nt (ak (aW (λj y9=>[(2,Pt b1),(5,.eq (.int .u8 y9.1)),(13,.rep (.slice Tl) a1),(14,I (a1.length:Int)),(15,I y4.2),(19,.rep Tl x8),(20,I (x8.length:Int)),(21,I y9.2)]) (λj y9=>[.obj b1 25 (.rep an a0)]) (f8 k a0 x8) k () (y4.1,0) (λ_=>rfl) h (SE.fin [0] ⟨rfl,rfl,rfl,rfl,rfl,rfl,rfl,rfl,trivial⟩ rfl) (λn j y9 h=>?_)));unfold f8 at h;refine sr (jb (bS rfl) ?_);refine nt (ai (ci h (λh=>?_) (λh=>?_)))
     .refine sk (ai (ak (sr ?_)));obtain⟨c,y,h⟩:=aa h;refine jb (bA (t:=Ti) rfl jp cL y) ?_;refine ja (aA (t:=Ti) rfl cL rfl) ?_;refine aq (nt (ai (sr ?_)));refine mq ?_;refine fl g7 ?_;refine lo cL ?_;obtain⟨O,x,h⟩:=aa h;refine jb (fy rfl x) ?_;obtain⟨U,F,h⟩:=aa h;refine jc (ap [.tmp 25,.const (.int .i64 (0)),.tmp 28] rfl rfl vH rfl (de k c 0 O U F)) ?_;refine ja (ec rfl) ?_;refine nt (cw h (λh=>?_) (λh=>?_))
      .refine sr (cq (nt (rx (br (bo (br (bo (bs ?_))))))));obtain rfl:=hR _ h;exact ra
      .refine sk (ai (sr ?_));iterate 2 refine mq ?_
       obtain⟨Q,E,h⟩:=aa h;refine jb (ap [.tmp 31,.tmp 32] rfl rfl En rfl (fC k y9.1 c Q E)) ?_;refine nt (cv h (λh=>?_) (λh=>?_))
       .refine sr (cq (nt (rx (br (bo (br (bo (bs ?_))))))));obtain rfl:=hR _ h;exact ra
       .refine sk (ae ?_);iterate 2 refine mq ?_
        obtain⟨l,D,h⟩:=aa h;refine jb (ap [.tmp 34,.tmp 35] rfl rfl Eo rfl (eW k y9.1 c l D)) ?_;refine aq (aJ (aV (tn (ae ?_))));obtain⟨M,u,h⟩:=aa h;refine jb (bK rfl u) ?_;refine mq (nl ?_);exact jz ((),(l,M)) h [0]
     .refine d5 (bM (bM (cz (bn ?_))));exact jz ((),y9.1) h [0]
    .refine ae ?_;obtain⟨J,s,h⟩:=aa h;refine jb (bK rfl s) ?_;refine mq (nl ?_);exact jz ((),(x6,J)) h [0]
   .refine xa ?_;exact jz ((),()) h []
  .refine sr (cq (nt (aF ?_)));cases h;exact ra
def f7(k:Nat)(a0:am)(a1:av):Option Int:=
 (((ck (a0.1 - 1)).bind λx5=>
 (dF k a1.1 0 x5).bind λr6=>
 if¬(r6=true) then(some true) else((dF k a1.2.1 0 (a0.2.2.2.2.1.length:Int)).bind λr7=>
 some (!r7))):Option (Bool)).bind λx3=>
 if x3=true then(some 3) else(some 0)
theorem kg(k:Nat)(a0:am)(a1:av)(r:Int)(h:f7 k a0 a1=some r):
 dA Tryz.prog 32 [.rep an a0,.rep aG a1] [] (λ_:Unit=>(bO [I r],[])):=by
 unfold f7 at h
 replace h:=bz h
 refine dA.of 21 Tryz.func32 rfl Tryz.ntmps32 rfl λS w0=>?_
 refine sr ?_
 refine bx λb1=>?_
 refine bx λb2=>?_
 refine cq ?_
 refine nt ?_
 refine ai ?_
 refine aR (Z:=Unit) (α:=Bool) (λz4 x3=>[(20,.eq (.bool x3))]) (λz4 x3=>[]) h (λK h=>?_) (λz4 x3 h=>?_)
 .
  refine ae (fl Ei ?_);refine lo cL ?_;refine fl g7 ?_;refine fr 1 ?_;refine lo cL ?_;obtain⟨x5,c,h⟩:=aa h;refine jb (fy rfl c) ?_;obtain⟨r6,j,h⟩:=aa h;refine jc (ap [.tmp 6,.const (.int .i64 (0)),.tmp 9] rfl rfl vH rfl (de k a1.1 0 x5 r6 j)) ?_;refine ja (ec rfl) ?_;refine mq ?_;refine aP (s:=12) rfl (λhb=>?_) (λhb=>?_)
  .replace h:=cj (qI hb) h;iterate 7 refine gn ?_
   refine pt (nl ?_);exact jz ((),true) h []
  .replace h:=bh (lE hb) h;refine ga (bg rfl Eh) ?_;refine fr 1 ?_;refine iw rfl rfl rfl rfl rfl rfl (aL rfl cL rM rfl) ⟨rfl,trivial⟩ ?_;refine ga (bg rfl fQ) ?_;refine fr 1 ?_;refine iw rfl rfl rfl rfl rfl rfl (aL rfl nZ rM rfl) ⟨rfl,trivial⟩ ?_;refine ga (oq rfl rfl Bo) ?_;obtain⟨r7,e,h⟩:=aa h;refine gc (ap [.tmp 14,.const (.int .i64 (0)),.tmp 17] rfl rfl vH rfl (de k a1.2.1 0 (a0.2.2.2.2.1.length:Int) r7 e)) ?_;refine ga (ec rfl) ?_;refine pf (nl ?_);exact jz ((), !r7) h []
 .
  refine cv h (λh=>?_) (λh=>?_)
  .refine sr (cq (nt (rx ?_)));cases h;exact ra
  .refine sk (sr (cq (nt (aF ?_))));cases h;exact ra
def jF(k:Nat)(a0:am):Nat->Int->Option (Except Int Unit)
 |0,_=>none
 |n+1,c=>
  if c < (a0.2.2.2.2.1.length:Int) then((bT a0.2.2.2.2.1 c).bind λj=>
  (lW k a0 j).bind λe=>
  if¬(e=0) then(some (.error e)) else((ck (c+1)).bind λh=>
  jF k a0 n h)) else(some (.ok ()))
def jE(k:Nat)(a0:am):Nat->Int->Option (Except Int Unit)
 |0,_=>none
 |n+1,c=>
  if c < (a0.2.2.2.2.2.length:Int) then((bT a0.2.2.2.2.2 c).bind λj=>
  (f7 k a0 j).bind λe=>
  if¬(e=0) then(some (.error e)) else((ck (c+1)).bind λh=>
  jE k a0 n h)) else(some (.ok ()))
def fK(k:Nat)(a0:am):Option Int:=
 (((dF k a0.1 1 5).bind λr4=>
 if¬(r4=true) then(some true) else((dF k a0.2.1 0 3).bind λr5=>
 if¬(r5=true) then(some true) else((dF k a0.2.2.1 0 3).bind λr6=>
 if¬(r6=true) then(some true) else((dF k a0.2.2.2.1 1 3).bind λr7=>
 some (!r7))))):Option (Bool)).bind λx2=>
 if x2=true then(some 1) else(if(a0.2.2.2.2.1.length:Int) < 1 then(some 7) else(if 6 < (a0.2.2.2.2.1.length:Int) then(some 6) else(bE (α:=Unit) (jF k a0 k 0) (some) λ_=>
 if 8 < (a0.2.2.2.2.2.length:Int) then(some 6) else(bE (α:=Unit) (jE k a0 k 0) (some) λ_=>
 some 0))))
theorem eO(k:Nat)(a0:am)(r:Int)(h:fK k a0=some r):
 dA Tryz.prog 7 [.rep an a0] [] (λ_:Unit=>(bO [I r],[])):=by
 unfold fK at h
 replace h:=bz h
 refine dA.of 73 Tryz.func7 rfl Tryz.ntmps7 rfl λS w0=>?_
 refine sr ?_
 refine bx λb1=>?_
 refine cq ?_
 refine nt ?_
 refine ai ?_
 refine aR (Z:=Unit) (α:=Bool) (λz3 x2=>[(1,Pt b1),(31,.eq (.bool x2))]) (λz3 x2=>[.obj b1 25 (.rep an a0)]) h (λK h=>?_) (λz3 x2 h=>?_)
 .
  refine ae (fl g7 ?_);refine lo cL ?_;obtain⟨r4,zz,h⟩:=aa h;refine jc (ap [.tmp 11,.const (.int .i64 (1)),.const (.int .i64 (5))] rfl rfl vH rfl (de k a0.1 1 5 r4 zz)) ?_;refine ja (ec rfl) ?_;refine mq ?_;refine aP (s:=14) rfl (λhb=>?_) (λhb=>?_)
  .replace h:=cj (qI hb) h;iterate 4 refine gn ?_
   refine pt ?_;refine mq ?_;iterate 4 refine gn ?_
   refine pt ?_;refine mq ?_;iterate 4 refine gn ?_
   refine pt (nl ?_);exact jz ((),true) h [0]
  .replace h:=bh (lE hb) h;refine ga (bg rfl yR) ?_;refine iw rfl rfl rfl rfl rfl rfl (aL rfl cL rM rfl) ⟨rfl,trivial⟩ ?_;obtain⟨r5,qt,h⟩:=aa h;refine gc (ap [.tmp 16,.const (.int .i64 (0)),.const (.int .i64 (3))] rfl rfl vH rfl (de k a0.2.1 0 3 r5 qt)) ?_;refine ga (ec rfl) ?_;refine pf ?_;refine mq ?_;refine aP (s:=20) rfl (λhb=>?_) (λhb=>?_)
   .replace h:=cj (qI hb) h;iterate 4 refine gn ?_
    refine pt ?_;refine mq ?_;iterate 4 refine gn ?_
    refine pt (nl ?_);exact jz ((),true) h [0]
   .replace h:=bh (lE hb) h;refine ga (bg rfl yQ) ?_;refine iw rfl rfl rfl rfl rfl rfl (aL rfl cL rM rfl) ⟨rfl,trivial⟩ ?_;obtain⟨r6,pq,h⟩:=aa h;refine gc (ap [.tmp 22,.const (.int .i64 (0)),.const (.int .i64 (3))] rfl rfl vH rfl (de k a0.2.2.1 0 3 r6 pq)) ?_;refine ga (ec rfl) ?_;refine pf ?_;refine mq ?_;refine aP (s:=26) rfl (λhb=>?_) (λhb=>?_)
    .replace h:=cj (qI hb) h;iterate 4 refine gn ?_
     refine pt (nl ?_);exact jz ((),true) h [0]
    .replace h:=bh (lE hb) h;refine ga (bg rfl yP) ?_;refine iw rfl rfl rfl rfl rfl rfl (aL rfl cL rM rfl) ⟨rfl,trivial⟩ ?_;obtain⟨r7,mw,h⟩:=aa h;refine gc (ap [.tmp 28,.const (.int .i64 (1)),.const (.int .i64 (3))] rfl rfl vH rfl (de k a0.2.2.2.1 1 3 r7 mw)) ?_;refine ga (ec rfl) ?_;refine pf (nl ?_);exact jz ((), !r7) h [0]
 .
  refine cv h (λh=>?_) (λh=>?_)
  .refine sr (cq (nt (rx ?_)));cases h;exact ra
  .refine sk (ai (sr (fl fQ ?_)));refine lo nZ ?_;refine ol Bo ?_;refine aq (nt (ak (sr ?_)));refine mq ?_;refine jb (bS rfl) ?_;refine aq (nt ?_);refine ci h (λh=>?_) (λh=>?_)
   .refine sr (cq (nt (aF (bo (bs ?_)))));cases h;exact ra
   .refine sr (mq ?_);refine jb (lA rfl) ?_;refine aq (nt ?_);refine ci h (λh=>?_) (λh=>?_)
    .refine sr (cq (nt (aF (bo (bs ?_)))));cases h;exact ra
    .refine bi (aV (tn (dK (Z:=Unit) (α:=Unit) (λz9 x8=>[(1,Pt b1)]) (λz9 x8=>[.obj b1 25 (.rep an a0)]) (λe=>e=r) h (λe h=>Option.some.inj h) (λK hR h=>?_) (λz9 x8 h=>?_))))
     .refine sr (fl fQ ?_);refine lo nZ ?_;refine ol Bo ?_;refine dx rfl ?_;refine nt (ak (aW (λx j=>[(1,Pt b1),(42,.rep (.slice (.slice Tl)) a0.2.2.2.2.1),(43,I (a0.2.2.2.2.1.length:Int)),(44,I j)]) (λx j=>[.obj b1 25 (.rep an a0)]) (jF k a0) k () 0 (λ_=>rfl) h (SE.fin [0] ⟨rfl,rfl,rfl,rfl,trivial⟩ rfl) (λn x j h=>?_)));unfold jF at h;refine sr (jb (bS rfl) ?_);refine nt (ai (ci h (λh=>?_) (λh=>?_)))
      .refine sk (ai (ak (sr ?_)));obtain⟨Y,J,h⟩:=aa h;refine jb (bA (t:=(.slice Tl)) rfl Bo wE J) ?_;refine ja (aA (t:=(.slice Tl)) rfl wE rfl) ?_;refine aq (nt (sr ?_));refine lo c6 ?_;refine mq ?_;obtain⟨mc,O,h⟩:=aa h;refine jb (ap [.tmp 48,.tmp 49] rfl rfl Om rfl (rO k a0 Y mc O)) ?_;refine aq (nt (sr ?_));refine mq ?_;refine jb (bV rfl) ?_;refine nt (cn h (λh=>?_) (λh=>?_))
       .refine sr (mq ?_);refine aq (nt (aF (br (bo (bs ?_)))));obtain rfl:=hR _ h;exact ra
       .refine bi (aV (tn (ae ?_)));obtain⟨X,F,h⟩:=aa h;refine jb (bK rfl F) ?_;refine mq (nl ?_);exact jz ((),X) h [0]
      .refine xa ?_;exact jz ((),()) h [0]
     .refine ai (sr (fl ma ?_));refine lo va ?_;refine ol FA ?_;refine jb (lA rfl) ?_;refine nt (ci h (λh=>?_) (λh=>?_))
      .refine sr (cq (nt (rx ?_)));cases h;exact ra
      .refine sk (dK (Z:=Unit) (α:=Unit) (λu y=>[]) (λu y=>[]) (λe=>e=r) h (λe h=>Option.some.inj h) (λK hR h=>?_) (λu y h=>?_))
       .refine sr (fl ma ?_);refine lo va ?_;refine ol FA ?_;refine dx rfl ?_;refine nt (ak (aW (λl c=>[(1,Pt b1),(60,Rs aG a0.2.2.2.2.2),(61,I (a0.2.2.2.2.2.length:Int)),(62,I c)]) (λl c=>[.obj b1 25 (.rep an a0)]) (jE k a0) k () 0 (λ_=>rfl) h (SE.fin [0] ⟨rfl,rfl,rfl,rfl,trivial⟩ rfl) (λn l c h=>?_)));unfold jE at h;refine sr (jb (bS rfl) ?_);refine nt (ai (ci h (λh=>?_) (λh=>?_)))
        .refine sk (ai (ak (sr ?_)));obtain⟨U,E,h⟩:=aa h;refine jb (bA (t:=aG) rfl FA qy E) ?_;refine ja (aA (t:=aG) rfl qy rfl) ?_;refine aS rfl rfl rfl (aY rfl FG J5) trivial λzM=>?_;refine aK rfl rfl (aD rfl qy rfl rfl rfl) ⟨rfl,rfl,trivial⟩ ?_;refine nt (sr (fr 1 ?_));refine lo c6 ?_;refine fr 1 ?_;refine lo qy ?_;obtain⟨gw,M,h⟩:=aa h;refine jb (ap [.tmp 66,.tmp 67] rfl rfl L6 rfl (kg k a0 U gw M)) ?_;refine aq (nt (sr ?_));refine mq ?_;refine jb (bV rfl) ?_;refine nt (cn h (λh=>?_) (λh=>?_))
         .refine sr (mq ?_);refine aq (nt (aF (br (bo (bs ?_)))));obtain rfl:=hR _ h;exact ra
         .refine bi (aV (tn (ae ?_)));obtain⟨Q,D,h⟩:=aa h;refine jb (bK rfl D) ?_;refine mq (nl ?_);exact jz ((),Q) h [1]
        .refine xa ?_;exact jz ((),()) h []
       .refine sr (cq (nt (aF ?_)));cases h;exact ra
def eK(k:Nat)(a0:am)(a1:Int):Nat->((List Int)×Int)->Option (List Int)
 |0,_=>none
 |n+1,y5=>
  if y5.2 < 5 then((((d3 (0≤y5.2/\y5.2 < 5)).bind λ_=>
  (fD k a1 y5.2).bind λe=>
  if e=true then((d3 (0≤y5.2/\y5.2 < 5)).bind λ_=>
  some (List.set (List.set y5.1 (Int.toNat y5.2) (-1:Int)) (Int.toNat y5.2) a0.2.1)) else(some (List.set y5.1 (Int.toNat y5.2) (-1:Int)))):Option ((List Int))).bind λx7=>
  (ck (y5.2+1)).bind λc=>
  eK k a0 a1 n (x7,c)) else(some y5.1)
def f6(k:Nat)(a0:am)(a1:Int):Option (List Int):=
 ((eK k a0 a1 k ([0,0,0,0,0],0)):Option ((List Int))).bind λx3=>
 some x3
theorem oU{M:Md Tryz.prog}{bm:Nat}{c0 c1 c2 c3 c4 c5:Value}(hK:Kn M bm 0 [c0,c1,c2,c3,c4,c5])(k:Nat)(a0:am)(a1:Int)(r:(List Int))(h:f6 k a0 a1=some r):
 bG M 71 [.rep (.mo (Pv bm) [c0,c1,c2,c3,c4,c5] an) a0,.eq (.int .u8 a1)] [] (λ_:Unit=>(bO [.rep Tr r],[])):=by
 unfold f6 at h
 replace h:=bz h
 refine bG.of 24 Tryz.func71 rfl Tryz.ntmps71 rfl λS w0=>?_
 refine sr ?_
 refine aS rfl rfl rfl (aY rfl FD HC) trivial λb1=>?_
 refine nt ?_
 refine sr ?_
 refine aS rfl rfl rfl (aY rfl FD HC) trivial λb2=>?_
 refine nt ?_
 refine aR (Z:=Unit) (α:=(List Int)) (λz4 x3=>[(4,Pt b1),(5,Pt b2)]) (λz4 x3=>[.obj b1 69 (.rep Tr [0,0,0,0,0]),.obj b2 69 (.rep Tr x3)]) h (λK h=>?_) (λz4 x3 h=>?_)
 .
  refine sr (dx rfl ?_);refine nt (ak (aW (λz6 y5=>[(0,.rep (.mo (Pv bm) [c0,c1,c2,c3,c4,c5] an) a0),(1,.eq (.int .u8 a1)),(4,Pt b1),(5,Pt b2),(7,I y5.2)]) (λz6 y5=>[.obj b1 69 (.rep Tr [0,0,0,0,0]),.obj b2 69 (.rep Tr y5.1)]) (eK k a0 a1) k () ([0,0,0,0,0],0) (λ_=>rfl) h (SE.fin [1,0] ⟨rfl,rfl,rfl,rfl,rfl,trivial⟩ rfl) (λn z6 y5 h=>?_)));unfold eK at h;refine sr (jb (bS rfl) ?_);refine nt (ai (ci h (λh=>?_) (λh=>?_)))
  .refine sk (aR (Z:=Unit) (α:=(List Int)) (λz8 x7=>[(0,.rep (.mo (Pv bm) [c0,c1,c2,c3,c4,c5] an) a0),(1,.eq (.int .u8 a1)),(4,Pt b1),(5,Pt b2),(7,I y5.2)]) (λz8 x7=>[.obj b1 69 (.rep Tr [0,0,0,0,0]),.obj b2 69 (.rep Tr x7)]) h (λK h=>?_) (λz8 x7 h=>?_))
   .refine ak (sr (mq ?_));refine aq (nt (sr ?_));refine mq ?_;obtain⟨u9,e,h⟩:=aa h;refine jb (dj rfl yd cL (ax e).1 (ax e).2) ?_;refine fr 1 ?_;refine aK rfl rfl (fA (t:=Ti) (off:=0) (i:=y5.2) (N:=5) rfl cL .int rfl rfl rfl rfl (ax e).1 (ax e).2 rfl) ⟨rfl,rfl,trivial⟩ ?_;refine nt (sr ?_);iterate 2 refine mq ?_
    obtain⟨u,l,h⟩:=aa h;refine jb (ap [.tmp 12,.tmp 13] rfl rfl En rfl (fC k a1 y5.2 u l)) ?_;refine nt (cv h (λh=>?_) (λh=>?_))
    .refine ae ?_;iterate 2 refine mq ?_
     refine ja (jZ rfl) ?_;refine ja (fB rfl fM) ?_;refine ja (gf 1 false rfl yR rfl rfl) ?_;refine ja (ij (t:=Ti) rfl cL (hK.sub 1 1 rfl (le_of_ble_eq_true rfl)) rfl rfl) ?_;obtain⟨x,c,h⟩:=aa h;refine jb (dj rfl yd cL (ax c).1 (ax c).2) ?_;refine aK rfl rfl (fA (t:=Ti) (off:=0) (i:=y5.2) (N:=5) rfl cL .int rfl rfl rfl rfl (ax c).1 (ax c).2 rfl) ⟨rfl,rfl,trivial⟩ ?_;refine aJ (bn ?_);exact jz ((),List.set (List.set y5.1 (Int.toNat y5.2) (-1:Int)) (Int.toNat y5.2) a0.2.1) h [1,0]
    .refine bi (bn ?_);exact jz ((),List.set y5.1 (Int.toNat y5.2) (-1:Int)) h [1,0]
   .refine ae ?_;obtain⟨s,j,h⟩:=aa h;refine jb (bK rfl j) ?_;refine mq (nl ?_);exact jz ((),(x7,s)) h [0,1]
  .refine xa ?_;exact jz ((),y5.1) h [0,1]
 .
  refine sr (fr 1 ?_);refine lo gB ?_;refine fr 1 ?_;refine aK rfl rfl (aD rfl gB rfl rfl rfl) ⟨rfl,rfl,trivial⟩ ?_;refine nt (aF ?_);obtain rfl:=Option.some.inj h;exact aZ () [.rep Tr x3] 0 ⟨⟨_,_,_,_,_,rfl,(.head _),gB,(mW),rfl⟩,trivial⟩ rfl
def fG(k:Nat)(a0:(List Int))(a1:Int):Nat->Int->Option (Except Int Unit)
 |0,_=>none
 |n+1,y3=>
  if y3 < (a0.length:Int) then((bT a0 y3).bind λx5=>
  if a1=x5 then(some (.error y3)) else((ck (y3+1)).bind λx6=>
  fG k a0 a1 n x6)) else(some (.ok ()))
def iz(k:Nat)(a0:(List Int))(a1:Int):Option Int:=
 bE (α:=Unit) (fG k a0 a1 k 0) (some) λ_=>
 some (-1:Int)
theorem lu(k:Nat)(a0:(List Int))(a1:Int)(r:Int)(h:iz k a0 a1=some r):
 dA Tryz.prog 51 [.rep Tl a0,I a1] [] (λ_:Unit=>(bO [I r],[])):=by
 unfold iz at h
 replace h:=bz h
 refine dA.of 19 Tryz.func51 rfl Tryz.ntmps51 rfl λS w0=>?_
 refine sr ?_
 refine cq ?_
 refine nt ?_
 refine dK (Z:=Unit) (α:=Unit) (λz2 x1=>[]) (λz2 x1=>[]) (λe=>e=r) h (λe h=>Option.some.inj h) (λK hR h=>?_) (λz2 x1 h=>?_)
 .
  refine sr (mq ?_);refine ol jp ?_;refine dx rfl ?_;refine nt (ak (aW (λz4 y3=>[(0,.rep Tl a0),(1,I a1),(7,I (a0.length:Int)),(8,I y3)]) (λz4 y3=>[]) (fG k a0 a1) k () 0 (λ_=>rfl) h (SE.fin [] ⟨rfl,rfl,rfl,rfl,trivial⟩ rfl) (λn z4 y3 h=>?_)));unfold fG at h;refine sr (jb (bS rfl) ?_);refine nt (ai (ci h (λh=>?_) (λh=>?_)))
  .refine sk (ai (ak (sr (mq ?_))));refine aq (nt (sr ?_));iterate 3 refine mq ?_
   obtain⟨x5,j,h⟩:=aa h;refine jb (bA (t:=Ti) rfl jp cL j) ?_;refine ja (aA (t:=Ti) rfl cL rfl) ?_;refine jb (dE rfl) ?_;refine nt (ci h (λh=>?_) (λh=>?_))
   .refine sr (mq ?_);refine aq (nt (aF (br (bo (bs ?_)))));obtain rfl:=hR _ h;exact ra
   .refine bi (aV (tn (ae ?_)));obtain⟨x6,c,h⟩:=aa h;refine jb (bK rfl c) ?_;refine mq (nl ?_);exact jz ((),x6) h []
  .refine xa ?_;exact jz ((),()) h []
 .
  refine sr (cq (nt (aF ?_)));cases h;exact ra
def nR(k:Nat)(a0:Int):Option Bool:=
 some (!decide (a0=a0))
theorem qh(k:Nat)(a0:Int)(r:Bool)(h:nR k a0=some r):
 dA Tryz.prog 162 [I a0] [] (λ_:Unit=>(bO [.eq (.bool r)],[])):=by
 unfold nR at h
 replace h:=bz h
 refine dA.of 6 Tryz.func162 rfl Tryz.ntmps162 rfl λS w0=>?_
 refine sr ?_
 refine cq ?_
 refine nt ?_
 refine sr ?_
 iterate 2 refine mq ?_
 refine jb (bV rfl) ?_
 refine aq ?_
 refine nt ?_
 refine aF ?_
 cases h
 exact ra
def s9(k:Nat)(a0:Int)(a1:Int):Option Bool:=
 (((nR k a0).bind λr3=>
 if r3=true then((nR k a1).bind λr4=>
 if¬(r4=true) then(some true) else(some (decide (a0 < a1)))) else(some (decide (a0 < a1)))):Option (Bool)).bind λx1=>
 some x1
theorem xB(k:Nat)(a0:Int)(a1:Int)(r:Bool)(h:s9 k a0 a1=some r):
 dA Tryz.prog 152 [I a0,I a1] [] (λ_:Unit=>(bO [.eq (.bool r)],[])):=by
 unfold s9 at h
 replace h:=bz h
 refine dA.of 17 Tryz.func152 rfl Tryz.ntmps152 rfl λS w0=>?_
 refine sr ?_
 refine cq ?_
 refine nt ?_
 refine aR (Z:=Unit) (α:=Bool) (λz2 x1=>[(4,.eq (.bool x1))]) (λz2 x1=>[]) h (λK h=>?_) (λz2 x1 h=>?_)
 .
  refine ae (mq ?_);obtain⟨r3,e,h⟩:=aa h;refine ja (ap [.tmp 5] rfl rfl It rfl (qh k a0 r3 e)) ?_;refine mq ?_;refine aP (s:=7) rfl (λhb=>?_) (λhb=>?_)
  .replace h:=cj (Ii hb) h;refine gm ?_;obtain⟨r4,c,h⟩:=aa h;refine ga (ap [.tmp 8] rfl rfl It rfl (qh k a1 r4 c)) ?_;refine ga (ec rfl) ?_;refine pt ?_;refine mq ?_;refine aP (s:=12) rfl (λhb=>?_) (λhb=>?_)
   .replace h:=cj (qI hb) h;iterate 3 refine gn ?_
    refine pt ?_;refine aq (nl ?_);exact jz ((),true) h []
   .replace h:=bh (lE hb) h;refine gm ?_;refine gm ?_;refine gb (bS rfl) ?_;refine pf ?_;refine aq (nl ?_);exact jz ((),decide (a0 < a1)) h []
  .replace h:=bh (Ik hb) h;iterate 3 refine gn ?_
   refine pf ?_;refine mq ?_;refine gm ?_;refine gm ?_;refine gb (bS rfl) ?_;refine pf ?_;refine aq (nl ?_);exact jz ((),decide (a0 < a1)) h []
 .
  refine aF ?_;cases h;exact ra
def cu(k:Nat)(a1:Int):Nat->((List Int)×Int)->Option (List Int)
 |0,_=>none
 |n+1,y6=>
  ((if a1 < y6.2 then((bT y6.1 y6.2).bind λu=>
  (ck (y6.2 - 1)).bind λs=>
  (bT y6.1 s).bind λr=>
  (s9 k u r).bind λx=>
  some x) else(some false)):Option (Bool)).bind λx8=>
  if x8=true then((ck (y6.2 - 1)).bind λe=>
  (ck (y6.2 - 1)).bind λl=>
  (bT y6.1 l).bind λc=>
  (bT y6.1 y6.2).bind λj=>
  (bT y6.1 y6.2).bind λD=>
  (bT (List.set y6.1 (Int.toNat y6.2) c) e).bind λy=>
  (ck (y6.2 - 1)).bind λh=>
  cu k a1 n (List.set (List.set y6.1 (Int.toNat y6.2) c) (Int.toNat e) j,h)) else(some y6.1)
def cx(k:Nat)(a1:Int)(a2:Int):Nat->((List Int)×Int)->Option (List Int)
 |0,_=>none
 |n+1,y2=>
  if y2.2 < a2 then(((cu k a1 k (y2.1,y2.2)):Option ((List Int))).bind λx4=>
  (ck (y2.2+1)).bind λc=>
  cx k a1 a2 n (x4,c)) else(some y2.1)
def dr(k:Nat)(a0:(List Int))(a1:Int)(a2:Int):Option (List Int):=
 (ck (a1+1)).bind λx1=>
 cx k a1 a2 k (a0,x1)
theorem ib(k:Nat)(a0:(List Int))(c:Value)(a1:Int)(a2:Int)(r:(List Int))(h:dr k a0 a1 a2=some r):
 dA Tryz.prog 146 [.eq c,I a1,I a2] [.sl c 3 Ti a0] (λ_:Unit=>(bO [],[.sl c 3 Ti r])):=by
 unfold dr at h
 replace h:=bz h
 refine dA.of 49 Tryz.func146 rfl Tryz.ntmps146 rfl λS w0=>?_
 refine sr ?_
 refine mq ?_
 obtain⟨x1,PD,h⟩:=aa h
 refine jb (bK rfl PD) ?_
 refine aq ?_
 refine nt ?_
 refine ak ?_
 refine aW (λz3 y2=>[(0,.eq c),(1,I a1),(2,I a2),(6,I y2.2)]) (λz3 y2=>[.sl c 3 Ti y2.1]) (cx k a1 a2) k () (a0,x1) (λ_=>rfl) h (SE.fin [0] ⟨rfl,rfl,rfl,rfl,trivial⟩ rfl) (λn z3 y2 h=>?_)
 unfold cx at h
 refine ai ?_
 refine sr ?_
 iterate 2 refine mq ?_
 refine jb (bS rfl) ?_
 refine nt ?_
 refine ci h (λh=>?_) (λh=>?_)
 .
  refine sk (aR (Z:=Unit) (α:=(List Int)) (λz5 x4=>[(0,.eq c),(1,I a1),(2,I a2),(6,I y2.2)]) (λz5 x4=>[.sl c 3 Ti x4]) h (λK h=>?_) (λz5 x4 h=>?_))
  .refine ak (sr (mq ?_));refine aq (nt (ak ?_));refine aW (λz7 y6=>[(0,.eq c),(1,I a1),(2,I a2),(6,I y2.2),(7,I y6.2)]) (λz7 y6=>[.sl c 3 Ti y6.1]) (cu k a1) k () (y2.1,y2.2) (λ_=>rfl) h (SE.fin [0] ⟨rfl,rfl,rfl,rfl,rfl,trivial⟩ rfl) (λn z7 y6 h=>?_);unfold cu at h;refine ai (aR (Z:=Unit) (α:=Bool) (λz9 x8=>[(0,.eq c),(1,I a1),(2,I a2),(6,I y2.2),(7,I y6.2),(30,.eq (.bool x8))]) (λz9 x8=>[.sl c 3 Ti y6.1]) h (λK h=>?_) (λz9 x8 h=>?_))
   .refine dn ?_;refine dm ?_;refine dm ?_;refine db (lA rfl) ?_;refine vZ rfl rfl rfl (bW rfl) ⟨rfl,trivial⟩ (λhb=>?_) (λhb=>?_)
    .replace h:=cj (qf hb) h;refine dq rfl rfl rfl rfl rfl (bW rfl) ⟨rfl,rfl,trivial⟩ ?_;refine dq rfl rfl rfl rfl rfl (bW rfl) ⟨rfl,rfl,trivial⟩ ?_;obtain⟨Pi,x,h⟩:=aa h;refine jJ 0 rfl rfl rfl rfl rfl rfl (cY (t:=Ti) rfl jp cL x) ⟨rfl,rfl,rfl,trivial⟩ ?_;refine jJ 0 rfl rfl rfl rfl rfl rfl (ik (i:=Int.toNat y6.2) (off:=0) rfl cL (λ_=>rfl) rfl (dp x).2.2 rfl) ⟨rfl,rfl,trivial⟩ ?_;refine dq rfl rfl rfl rfl rfl (bW rfl) ⟨rfl,rfl,trivial⟩ ?_;refine dq rfl rfl rfl rfl rfl (bW rfl) ⟨rfl,rfl,trivial⟩ ?_;obtain⟨Pg,pq,h⟩:=aa h;refine dq rfl rfl rfl rfl rfl (fy rfl pq) ⟨rfl,rfl,rfl,trivial⟩ ?_;obtain⟨Pe,u,h⟩:=aa h;refine jJ 0 rfl rfl rfl rfl rfl rfl (cY (t:=Ti) rfl jp cL u) ⟨rfl,rfl,rfl,trivial⟩ ?_;refine jJ 0 rfl rfl rfl rfl rfl rfl (ik (i:=Int.toNat Pg) (off:=0) rfl cL (λ_=>rfl) rfl (dp u).2.2 rfl) ⟨rfl,rfl,trivial⟩ ?_;refine df fa ?_;obtain⟨F,qt,h⟩:=aa h;refine gb (ap [.tmp 23,.tmp 28] rfl rfl MB rfl (xB k Pi Pe F qt)) ?_;refine pt (nl ?_);exact jz ((),F) h [0]
    .replace h:=bh (qg hb) h;iterate 9 refine dg ?_
     refine df fa ?_;refine gn ?_;refine pf (nl ?_);exact jz ((),false) h [0]
   .refine cv h (λh=>?_) (λh=>?_)
    .refine sk (ai (ak (nA ?_)));refine co rfl rfl rfl (bW rfl) ⟨rfl,trivial⟩ ?_;refine co rfl rfl rfl (bW rfl) ⟨rfl,trivial⟩ ?_;refine co rfl rfl rfl (bW rfl) ⟨rfl,trivial⟩ ?_;refine co rfl rfl rfl (bW rfl) ⟨rfl,trivial⟩ ?_;obtain⟨y,mw,h⟩:=aa h;refine co rfl rfl rfl (fy rfl mw) ⟨rfl,rfl,trivial⟩ ?_;refine co rfl rfl rfl (bW rfl) ⟨rfl,trivial⟩ ?_;refine co rfl rfl rfl (bW rfl) ⟨rfl,trivial⟩ ?_;obtain⟨O9,mc,h⟩:=aa h;refine co rfl rfl rfl (fy rfl mc) ⟨rfl,rfl,trivial⟩ ?_;obtain⟨E,s,h⟩:=aa h;refine fS 0 rfl rfl rfl rfl (cY (t:=Ti) rfl jp cL s) ⟨rfl,rfl,trivial⟩ ?_;refine fS 0 rfl rfl rfl rfl (ik (i:=Int.toNat O9) (off:=0) rfl cL (λ_=>rfl) rfl (dp s).2.2 rfl) ⟨rfl,trivial⟩ ?_;refine co rfl rfl rfl (bW rfl) ⟨rfl,trivial⟩ ?_;refine co rfl rfl rfl (bW rfl) ⟨rfl,trivial⟩ ?_;obtain⟨D,l,h⟩:=aa h;refine fS 0 rfl rfl rfl rfl (cY (t:=Ti) rfl jp cL l) ⟨rfl,rfl,trivial⟩ ?_;refine fS 0 rfl rfl rfl rfl (ik (i:=Int.toNat y6.2) (off:=0) rfl cL (λ_=>rfl) rfl (dp l).2.2 rfl) ⟨rfl,trivial⟩ ?_;obtain⟨PN,j,h⟩:=aa h;refine fS 0 rfl rfl rfl rfl (cY (t:=Ti) rfl jp cL j) ⟨rfl,rfl,trivial⟩ ?_;refine tG 15 [true,true,false,false,false,true,true,true,true,true,true,true,true,true,true] [48] [] [] rfl (by kernel_rfl) (by kernel_rfl) (by kernel_rfl) fa (λvs hv hB=>?_);obtain⟨w0,P1,rfl,PC⟩:=aM hv;obtain⟨w1,P0,rfl,Pz⟩:=aM PC;obtain⟨w2,PZ,rfl,Py⟩:=aM Pz;obtain⟨w3,PY,rfl,Px⟩:=aM Py;obtain⟨w4,PX,rfl,Po⟩:=aM Px;obtain⟨w5,PW,rfl,Pn⟩:=aM Po;obtain⟨w6,PV,rfl,Pm⟩:=aM Pn;obtain⟨w7,PU,rfl,Pl⟩:=aM Pm;obtain⟨w8,PT,rfl,Pj⟩:=aM Pl;obtain⟨w9,PL,rfl,X⟩:=aM Pj;obtain⟨PS,PK,rfl,U⟩:=aM X;obtain⟨PR,PI,rfl,Q⟩:=aM U;obtain⟨PQ,PH,rfl,O⟩:=aM Q;obtain⟨PP,PG,rfl,M⟩:=aM O;obtain⟨PO,PE,rfl,J⟩:=aM M;obtain rfl:=pV J;refine⟨[0],[.sl c 3 Ti y6.1],by kernel_rfl,by decide,?_⟩;refine ny rfl rfl (iL (i:=Int.toNat y6.2) rfl cL rfl (pW j) rfl .int rfl) ⟨rfl,rfl,trivial⟩ (by kernel_rfl) ?_;obtain⟨PM,e,h⟩:=aa h;refine EZ rfl rfl rfl rfl (cY (t:=Ti) rfl jp cL e) ⟨rfl,rfl,trivial⟩ (by kernel_rfl) ?_;refine ny rfl rfl (iL (i:=Int.toNat y) rfl cL rfl (pW e) rfl .int rfl) ⟨rfl,rfl,trivial⟩ (by kernel_rfl) ?_;refine zg ?_;refine bL (SE.fin (Γ':=[(0,.eq c),(1,I a1),(2,I a2),(6,I y2.2),(7,I y6.2)]) (Δ':=[.sl c 3 Ti (List.set (List.set y6.1 (Int.toNat y6.2) E) (Int.toNat y) D)]) [0] ⟨rfl,rfl,rfl,rfl,rfl,trivial⟩ rfl) ?_;refine aV (tn (ae (mq ?_)));obtain⟨zM,gw,h⟩:=aa h;refine jb (fy rfl gw) ?_;refine aq (nl ?_);exact jz ((),(List.set (List.set y6.1 (Int.toNat y6.2) E) (Int.toNat y) D,zM)) h [0]
    .refine d5 (bM (bM (cz (bn ?_))));exact jz ((),y6.1) h [0]
  .refine ae (mq ?_);obtain⟨zz,Y,h⟩:=aa h;refine jb (bK rfl Y) ?_;refine aq (nl ?_);exact jz ((),(x4,zz)) h [0]
 .
  refine d5 (bM (bM (cz (hP ?_))));cases h;exact aZ () [] 1 trivial rfl
def jm(k:Nat)(a0:Int):Option Int:=
 ((if 4294967296≤a0 then(some (o9 .u64 a0 32,32)) else(some (a0,0))):Option (Int×Int)).bind λx1=>
 ((if 65536≤x1.1 then((ck (x1.2+16)).bind λx5=>
 some (o9 .u64 x1.1 16,x5)) else(some (x1.1,x1.2))):Option (Int×Int)).bind λx3=>
 ((if 256≤x3.1 then((ck (x3.2+8)).bind λx8=>
 some (o9 .u64 x3.1 8,x8)) else(some (x3.1,x3.2))):Option (Int×Int)).bind λx6=>
 (yJ G3 (IntKind.u8.wrap x6.1)).bind λx9=>
 (ck (x9.toNat:Int)).bind λe=>
 (ck (x6.2+e)).bind λc=>
 some c
theorem o8(k:Nat)(a0:Int)(r:Int)(h:jm k a0=some r):
 dA Tryz.prog 156 [.eq (.int .u64 a0)] [] (λ_:Unit=>(bO [I r],[])):=by
 unfold jm at h
 replace h:=bz h
 refine dA.of 25 Tryz.func156 rfl Tryz.ntmps156 rfl λS w0=>?_
 refine sr ?_
 refine cq ?_
 refine nt ?_
 refine aR (Z:=Unit) (α:=Int×Int) (λz2 x1=>[(0,.eq (.int .u64 x1.1)),(2,I x1.2)]) (λz2 x1=>[]) h (λK h=>?_) (λz2 x1 h=>?_)
 .
  refine sr (mq ?_);refine jb (iN rfl) ?_;refine nt (ci h (λh=>?_) (λh=>?_))
  .refine sr (mq ?_);refine bX rfl (zA rfl (by decide)) ⟨rfl,rfl,trivial⟩ ?_;refine aq (nt (ae ?_));refine cq (nl ?_);exact jz ((),(o9 .u64 a0 32,32)) h []
  .refine bi (au ?_);exact jz ((),(a0,0)) h []
 .
  refine aR (Z:=Unit) (α:=Int×Int) (λz4 x3=>[(0,.eq (.int .u64 x3.1)),(2,I x3.2)]) (λz4 x3=>[]) h (λK h=>?_) (λz4 x3 h=>?_)
  .refine sr (mq ?_);refine jb (iN rfl) ?_;refine nt (ci h (λh=>?_) (λh=>?_))
   .refine sr (mq ?_);refine bX rfl (zA rfl (by decide)) ⟨rfl,rfl,trivial⟩ ?_;refine aq (nt (ae ?_));refine mq ?_;obtain⟨x5,n,h⟩:=aa h;refine jb (bK rfl n) ?_;refine aq (nl ?_);exact jz ((),(o9 .u64 x1.1 16,x5)) h []
   .refine bi (au ?_);exact jz ((),(x1.1,x1.2)) h []
  .refine aR (Z:=Unit) (α:=Int×Int) (λz7 x6=>[(0,.eq (.int .u64 x6.1)),(2,I x6.2)]) (λz7 x6=>[]) h (λK h=>?_) (λz7 x6 h=>?_)
   .refine sr (mq ?_);refine jb (iN rfl) ?_;refine nt (ci h (λh=>?_) (λh=>?_))
    .refine sr (mq ?_);refine bX rfl (zA rfl (by decide)) ⟨rfl,rfl,trivial⟩ ?_;refine aq (nt (ae ?_));refine mq ?_;obtain⟨x8,l,h⟩:=aa h;refine jb (bK rfl l) ?_;refine aq (nl ?_);exact jz ((),(o9 .u64 x3.1 8,x8)) h []
    .refine bi (au ?_);exact jz ((),(x3.1,x3.2)) h []
   .refine sr ?_;iterate 2 refine mq ?_
    refine ja (vq rfl OA U5) ?_;obtain⟨x9,j,h⟩:=aa h;refine ja (wQ rfl U9 j) ?_;obtain⟨u,e,h⟩:=aa h;refine ja (Dk rfl U5 U3 e) ?_;obtain⟨s,c,h⟩:=aa h;refine jb (bK rfl c) ?_;refine aq (nt (aF ?_));cases h;exact ra
def vM(k:Nat)(a0:Int):Option Int:=
 (jm k a0).bind λr1=>
 some r1
theorem yZ(k:Nat)(a0:Int)(r:Int)(h:vM k a0=some r):
 dA Tryz.prog 145 [.eq (.int .u64 a0)] [] (λ_:Unit=>(bO [I r],[])):=by
 unfold vM at h
 replace h:=bz h
 refine dA.of 8 Tryz.func145 rfl Tryz.ntmps145 rfl λS w0=>?_
 refine sr ?_
 refine cq ?_
 refine nt ?_
 refine ai ?_
 refine Fb (λhb=>(by cases hb)) (λhb=>?_)
 refine sk ?_
 refine sr ?_
 refine mq ?_
 obtain⟨r1,c,h⟩:=aa h
 have e:=o8 k a0 r1 c
 refine ja (ap [.tmp 6] rfl rfl MA rfl e) ?_
 refine aq ?_
 refine nt ?_
 refine aF ?_
 cases h
 exact ra
def dL(k:Nat)(a0:(List Int))(a1:Int)(a2:Int)(a3:Int):Nat->Unit->Option (List Int)
 |0,_=>none
 |n+1,y1=>
  (ck (a2 - a1)).bind λx3=>
  if x3≤12 then((dr k a0 a1 a2).bind λr4=>
  some r4) else(if a3=0 then(none) else(none))
def eD(k:Nat)(a0:(List Int))(a1:Int)(a2:Int)(a3:Int):Option (List Int):=
 dL k a0 a1 a2 a3 k ()
theorem kD(k:Nat)(a0:(List Int))(c:Value)(a1:Int)(a2:Int)(a3:Int)(r:(List Int))(h:eD k a0 a1 a2 a3=some r):
 dA Tryz.prog 144 [.eq c,I a1,I a2,I a3] [.sl c 3 Ti a0] (λ_:Unit=>(bO [],[.sl c 3 Ti r])):=by
 unfold eD at h
 replace h:=bz h
 refine dA.of 134 Tryz.func144 rfl Tryz.ntmps144 rfl λS w0=>?_
 refine sr ?_
 refine cq ?_
 refine nt ?_
 refine sr ?_
 refine cq ?_
 refine nt ?_
 refine ak ?_
 refine aW (λz2 y1=>[(0,.eq c),(1,I a1),(2,I a2),(3,I a3),(8,.eq (.bool true)),(9,.eq (.bool true))]) (λz2 y1=>[.sl c 3 Ti a0]) (dL k a0 a1 a2 a3) k () () (λ_=>rfl) h (SE.fin [0] ⟨rfl,rfl,rfl,rfl,rfl,rfl,trivial⟩ rfl) (λn z2 y1 h=>?_)
 unfold dL at h
 refine ak ?_
 refine sr ?_
 iterate 2 refine mq ?_
 obtain⟨x3,e,h⟩:=aa h
 refine jb (fy rfl e) ?_
 refine aq ?_
 refine nt ?_
 refine ai ?_
 refine sr ?_
 refine mq ?_
 refine jb (zB rfl) ?_
 refine nt ?_
 refine ci h (λh=>?_) (λh=>?_)
 .
  refine sr ?_;iterate 3 refine mq ?_
  obtain⟨r4,j,h⟩:=aa h;refine kc (ap [.tmp 24,.tmp 25,.tmp 26] rfl rfl MC rfl (ib k a0 c a1 a2 r4 j)) ?_;refine nt (rx (bo (bs (bo ?_))));cases h;exact aZ () [] 1 trivial rfl
 .
  refine sk (ai (sr (mq ?_)));refine jb (dE rfl) ?_;refine nt (ci h (λh=>?_) (λh=>?_))
  .cases h
  .cases h
def lN(k:Nat)(a0:(List Int)):Option (List Int):=
 (vM k (IntKind.u64.wrap (a0.length:Int))).bind λr1=>
 (eD k a0 0 (a0.length:Int) r1).bind λr2=>
 some r2
theorem rJ(k:Nat)(a0:(List Int))(c:Value)(r:(List Int))(h:lN k a0=some r):
 dA Tryz.prog 128 [.eq c] [.sl c 3 Ti a0] (λ_:Unit=>(bO [],[.sl c 3 Ti r])):=by
 unfold lN at h
 replace h:=bz h
 refine dA.of 11 Tryz.func128 rfl Tryz.ntmps128 rfl λS w0=>?_
 refine sr ?_
 refine mq ?_
 refine ka (qH rfl rfl jp) ?_
 refine aq ?_
 refine nt ?_
 refine ae ?_
 iterate 3 refine mq ?_
 refine ja (vq rfl U3 Ox) ?_
 obtain⟨r1,j,h⟩:=aa h
 have n:=yZ k (IntKind.u64.wrap (a0.length:Int)) r1 j
 refine ja (ap [.tmp 8] rfl rfl MD rfl n) ?_
 obtain⟨r2,e,h⟩:=aa h
 have l:=kD k a0 c 0 (a0.length:Int) r1 r2 e
 refine lj rfl rfl rfl (ap [.tmp 5,.const (.int .i64 (0)),.tmp 6,.tmp 9] rfl rfl ME rfl l) ⟨rfl,rfl,rfl,rfl,trivial⟩ ?_
 refine aJ ?_
 refine hP ?_
 cases h
 exact aZ () [] 1 trivial rfl
def eM(k:Nat)(a1:Int)(x3:(List (List Int))):Nat->Int->Option (Except (Int ⊕ (List Int)) Unit)
 |0,_=>none
 |n+1,y4=>
  if y4 < (x3.length:Int) then((bT x3 y4).bind λx6=>
  (iz k x6 a1).bind λr7=>
  if 0≤r7 then(((if 0 < r7 then((ck (r7 - 1)).bind λs=>
  (bT x6 s).bind λe=>
  (d3 (dR (length ([]:(List Int))+length [e]))).bind λ_=>
  some (([]:(List Int))++[e])) else(some ([]:(List Int)))):Option ((List Int))).bind λx8=>
  (((ck (r7+1)).bind λl=>
  if l < (x6.length:Int) then((ck (r7+1)).bind λj=>
  (bT x6 j).bind λc=>
  (d3 (dR (length x8+length [c]))).bind λ_=>
  some (x8++[c])) else(some x8)):Option ((List Int))).bind λr=>
  (lN k r).bind λu=>
  some (.error (Sum.inr u:(Int ⊕ (List Int))))) else((ck (y4+1)).bind λh=>
  eM k a1 x3 n h)) else(some (.ok ()))
def eY(k:Nat):Nat->am->Int->Int->Option ((Int ⊕ (List Int)))
 |0,_,_,_=>none
 |m0+1,a0,a1,a2=>
  bE (α:=Unit) ((bT a0.2.2.2.2.1 a2).bind λx3=>
  eM k a1 x3 k 0) (some) λ_=>
  ((if 0 < a2 then((ck (a2 - 1)).bind λh=>
  ((eY k m0) a0 a1 h).bind λc=>
  if K4 c=true then((ck (1+(NF c))).bind λe=>
  some e) else(some 1)) else(some 1)):Option (Int)).bind λj=>
  some (Sum.inl j:(Int ⊕ (List Int)))
theorem j7{M:Md Tryz.prog}{bm:Nat}{c0 c1 c2 c3 c4 c5:Value}(hK:Kn M bm 0 [c0,c1,c2,c3,c4,c5])(k:Nat):
 ∀(n:Nat) (a0:am) (a1:Int) (a2:Int) (r:(Int ⊕ (List Int))),eY k n a0 a1 a2=some r->bG M 99 [.rep (.mo (Pv bm) [c0,c1,c2,c3,c4,c5] an) a0,I a1,I a2] ([]) (λ_:Unit=>(bO [.rep (.pl 150 152 Tl) r],[])):=by
 intro n
 induction n with
 |zero=>intro a0 a1 a2 r h;cases h
 |succ m0 ih=>
  intro a0 a1 a2 r h;rw [eY] at h;replace h:=bz h;refine bG.of 80 Tryz.func99 rfl Tryz.ntmps99 rfl λS w0=>?_;refine sr (cq (nt ?_));refine dK (Z:=Unit) (α:=Unit) (λz2 x1=>[(0,.rep (.mo (Pv bm) [c0,c1,c2,c3,c4,c5] an) a0),(1,I a1),(2,I a2)]) (λz2 x1=>[]) (λe=>e=r) h (λe h=>Option.some.inj h) (λK hR h=>?_) (λz2 x1 h=>?_)
  .refine sr (mq ?_);refine ja (jZ rfl) ?_;refine ja (fB rfl fM) ?_;refine ja (gf 1 false rfl fQ rfl rfl) ?_;refine ja (ij (t:=(.slice (.slice Tl))) rfl nZ (hK.sub 4 1 rfl (le_of_ble_eq_true rfl)) rfl rfl) ?_;refine mq ?_;obtain⟨x3,Pi,h⟩:=aa h;refine jb (bA (t:=(.slice Tl)) rfl Bo wE Pi) ?_;refine ja (aA (t:=(.slice Tl)) rfl wE rfl) ?_;refine ol vT ?_;refine dx rfl ?_;refine nt (ak (aW (λz5 y4=>[(0,.rep (.mo (Pv bm) [c0,c1,c2,c3,c4,c5] an) a0),(1,I a1),(2,I a2),(21,.rep (.slice Tl) x3),(22,I (x3.length:Int)),(23,I y4)]) (λz5 y4=>[]) (eM k a1 x3) k () 0 (λ_=>rfl) h (SE.fin [] ⟨rfl,rfl,rfl,rfl,rfl,rfl,trivial⟩ rfl) (λn z5 y4 h=>?_)));unfold eM at h;refine sr (jb (bS rfl) ?_);refine nt (ai (ci h (λh=>?_) (λh=>?_)))
   .refine sk (ai (ak (sr ?_)));obtain⟨x6,Pg,h⟩:=aa h;refine jb (bA (t:=Tl) rfl vT je Pg) ?_;refine ja (aA (t:=Tl) rfl je rfl) ?_;refine aq (nt (sr ?_));iterate 2 refine mq ?_
    obtain⟨r7,Pj,h⟩:=aa h;refine jb (ap [.tmp 27,.tmp 28] rfl rfl LY rfl (lu k x6 a1 r7 Pj)) ?_;refine aq (nt (sr ?_));refine mq ?_;refine jb (iN rfl) ?_;refine nt (ci h (λh=>?_) (λh=>?_))
    .refine sr (cq (nt ?_));refine aR (Z:=Value) (α:=(List Int)) (λz9 x8=>[(8,.rep Tl x6),(9,I r7),(10,.eq z9)]) (λz9 x8=>[.sl z9 3 Ti x8]) h (λK h=>?_) (λz9 x8 h=>?_)
     .refine sr (mq ?_);refine jb (lA rfl) ?_;refine nt (ci h (λh=>?_) (λh=>?_))
      .refine ae ?_;iterate 3 refine mq ?_
       obtain⟨Pn,U,h⟩:=aa h;refine jb (fy rfl U) ?_;obtain⟨x,Q,h⟩:=aa h;refine jb (bA (t:=Ti) rfl jp cL Q) ?_;refine ja (aA (t:=Ti) rfl cL rfl) ?_;refine ja (aQ (t:=Ti) [(.tmp 39,_)] [x] rfl rfl cD (.cons rfl .int .nil) rfl rfl) ?_;refine d4 (SE.nil 3 Ti) ?_;obtain⟨Px,Y,h⟩:=aa h;refine fi rfl rfl rfl (c7 rfl rfl cD (ax Y)) ⟨rfl,rfl,trivial⟩ λzM=>?_;refine aq (nl ?_);exact jz (zM,([]:(List Int))++[x]) h [0]
      .refine bi (au (bL (SE.nil 3 Ti) ?_));exact jz ((.slice none 0 0),([]:(List Int))) h [0]
     .refine aR (Z:=Value) (α:=(List Int)) (λc j=>[(10,.eq c)]) (λc j=>[.sl c 3 Ti j]) h (λK h=>?_) (λc j h=>?_)
      .refine sr (mq ?_);obtain⟨Pm,O,h⟩:=aa h;refine jb (bK rfl O) ?_;refine mq ?_;refine ol jp ?_;refine jb (bS rfl) ?_;refine nt (ci h (λh=>?_) (λh=>?_))
       .refine ae ?_;iterate 3 refine mq ?_
        obtain⟨Pl,J,h⟩:=aa h;refine jb (bK rfl J) ?_;obtain⟨u,F,h⟩:=aa h;refine jb (bA (t:=Ti) rfl jp cL F) ?_;refine ja (aA (t:=Ti) rfl cL rfl) ?_;refine ja (aQ (t:=Ti) [(.tmp 52,_)] [u] rfl rfl cD (.cons rfl .int .nil) rfl rfl) ?_;obtain⟨Po,X,h⟩:=aa h;refine fi rfl rfl rfl (c7 rfl rfl cD (ax X)) ⟨rfl,rfl,trivial⟩ λzz=>?_;refine aq (nl ?_);exact jz (zz,x8++[u]) h [0]
       .refine bi (au ?_);exact jz (z9,x8) h [0]
      .refine sr (mq ?_);obtain⟨Pe,mc,h⟩:=aa h;refine ka (ap [.tmp 55] rfl rfl MF rfl (rJ k j c Pe mc)) ?_;refine nt (sr (mq ?_));refine d4 (jq [10,55,57] ⟨rfl,rfl,rfl,trivial⟩) ?_;refine ja (cJ [(0,.tmp 57,_)] rfl K5 Ib J1 (fO ⟨rfl,trivial⟩) rfl) ?_;refine ja (Gs (t0:=150) (t:=Ti) rfl Oy) ?_;refine aq (nt (aF (br (bo (bs ?_)))));obtain rfl:=hR _ h;exact ra
    .refine bi (aV (tn (ae ?_)));obtain⟨qt,E,h⟩:=aa h;refine jb (bK rfl E) ?_;refine mq (nl ?_);exact jz ((),qt) h []
   .refine xa ?_;exact jz ((),()) h []
  .refine sr (cq (nt ?_));refine aR (Z:=Unit) (α:=Int) (λs l=>[(11,I l)]) (λs l=>[]) h (λK h=>?_) (λs l h=>?_)
   .refine sr (mq ?_);refine jb (lA rfl) ?_;refine nt (ci h (λh=>?_) (λh=>?_))
    .refine sr ?_;iterate 3 refine mq ?_
     obtain⟨pq,D,h⟩:=aa h;refine jb (fy rfl D) ?_;obtain⟨O9,gw,h⟩:=aa h;refine jc (ay [.tmp 64,.tmp 65,.tmp 67] rfl rfl JH rfl (ih a0 a1 pq O9 gw)) ?_;refine bX rfl (zC rfl CH (by decide)) ⟨rfl,trivial⟩ ?_;refine mq ?_;refine xr ?_;refine xr ?_;refine aS rfl rfl rfl (aY rfl BM Iz) trivial λPy=>?_;refine aK rfl rfl (aD rfl Io trivial rfl rfl) ⟨rfl,rfl,trivial⟩ ?_;refine aq (nt (sr ?_));refine mq (nt ?_);refine cv h (λh=>?_) (λh=>?_)
     .refine ae (mq ?_);refine fl zV ?_;refine lo cL ?_;obtain⟨mw,y,h⟩:=aa h;refine jb (bK rfl y) ?_;refine aq (nl ?_);exact jz ((),mw) h []
     .refine bi (au ?_);exact jz ((),1) h []
    .refine bi (au ?_);exact jz ((),1) h []
   .refine sr (mq ?_);refine ja (cJ [(0,.tmp 77,_)] rfl K6 BM J2 (fO ⟨rfl,trivial⟩) rfl) ?_;refine ja (Gt (t1:=152) (t:=Ti) rfl Oz) ?_;refine aq (nt (aF ?_));cases h;exact ra
def jl(k:Nat)(a0:Ix):Option (List Int):=
 some ([]:(List Int))
theorem oZ(k:Nat)(a0:Ix)(r:(List Int))(h:jl k a0=some r):
 dA Tryz.prog 180 [.rep KY a0] [] (λ_:Unit=>(bO [.rep Tl r],[])):=by
 unfold jl at h
 replace h:=bz h
 refine dA.of 3 Tryz.func180 rfl Tryz.ntmps180 rfl λS w0=>?_
 refine sr ?_
 refine bx λb1=>?_
 refine cq ?_
 refine nt ?_
 refine sr ?_
 refine cq ?_
 refine nt ?_
 refine aF ?_
 refine bL (cU (t:=Tl) (x:=([]:(List Int))) 2 rfl .nil rfl rfl) ?_
 cases h
 exact ra
def jj(k:Nat)(a0:Iw):Option (List Int):=
 some a0
theorem oR(k:Nat)(a0:Iw)(r:(List Int))(h:jj k a0=some r):
 dA Tryz.prog 181 [.rep KX a0] [] (λ_:Unit=>(bO [.rep Tl r],[])):=by
 unfold jj at h
 replace h:=bz h
 refine dA.of 5 Tryz.func181 rfl Tryz.ntmps181 rfl λS w0=>?_
 refine sr ?_
 refine bx λb1=>?_
 refine cq ?_
 refine nt ?_
 refine sr ?_
 refine fl Hi ?_
 refine lo je ?_
 refine aq ?_
 refine nt ?_
 refine aF ?_
 cases h
 exact ra
def dW(k:Nat)(a0:am)(a1:(List Int))(r5:(List Int)):Nat->Int->Option (Except Int Unit)
 |0,_=>none
 |n+1,y6=>
  if y6 < (r5.length:Int) then((bT r5 y6).bind λx8=>
  (d3 (0≤x8/\x8 < 5)).bind λ_=>
  (bT a1 x8).bind λe=>
  if(uc 0 a0.2.1)≤e then(some (.error x8)) else((ck (y6+1)).bind λc=>
  dW k a0 a1 r5 n c)) else(some (.ok ()))
def dX(k:Nat)(a0:am)(a1:(List Int))(a2:Int)(a3:Int):Option Int:=
 bE (α:=Unit) ((eY k k a0 a2 a3).bind λr4=>
 (J0 r4 (λn=>jl k n) (λl=>jj k l)).bind λr5=>
 dW k a0 a1 r5 k 0) (some) λ_=>
 some (-1:Int)
theorem iR{M:Md Tryz.prog}{bm:Nat}{c0 c1 c2 c3 c4 c5:Value}(hK:Kn M bm 0 [c0,c1,c2,c3,c4,c5])(k:Nat)(a0:am)(a1:(List Int))(a2:Int)(a3:Int)(r:Int)(h:dX k a0 a1 a2 a3=some r):
    bG M 76 [.rep (.mo (Pv bm) [c0,c1,c2,c3,c4,c5] an) a0,.rep Tr a1,.eq (.int .i64 a2),.eq (.int .i64 a3)] [] (λ_:Unit=>(bO [.eq (.int .i64 r)],[])):=by
  unfold dX at h
  replace h:=bz h
  refine bG.of 33 Tryz.func76 rfl Tryz.ntmps76 rfl λS w0=>?_
  refine ai ?_
  refine ae ?_
  refine aS rfl rfl rfl (wR rfl rfl) ⟨rfl,trivial⟩ λb1=>?_
  refine Ap rfl ?_
  refine aJ ?_
  refine au ?_
  show JC _ _ _ _ _
  refine dK (Z:=Unit) (α:=Unit) (λz3 x2=>[]) (λz3 x2=>[]) (λe=>e=r) h (λe h=>Option.some.inj h) (λK hR h=>?_) (λz3 x2 h=>?_)
  .
    refine ai ?_
    refine ae ?_
    refine fP rfl rfl ?_
    refine fP rfl rfl ?_
    refine fP rfl rfl ?_
    obtain⟨r4,D,h⟩:=aa h
    have E:=j7 hK k k a0 a2 a3 r4 D
    refine bX rfl (ay [.tmp 11,.tmp 12,.tmp 13] rfl rfl JH rfl E) ⟨rfl,rfl,rfl,trivial⟩ ?_
    obtain⟨r5,c,h⟩:=aa h
    refine bX rfl (Gu (r:=.rep Tl r5) rfl rfl t5 t4 (λn hd=>.agI (oZ k n r5 (by rw [hd] at c;exact c))) (λl hd=>.agS (oR k l r5 (by rw [hd] at c;exact c)))) ⟨rfl,trivial⟩ ?_
    refine bX rfl (oq rfl rfl jp) ⟨rfl,trivial⟩ ?_
    refine dx rfl ?_
    refine aJ ?_
    refine au ?_
    show JC _ _ _ _ _
    refine ak ?_
    refine aW (λz7 y6=>[(0,.rep (.mo (Pv bm) [c0,c1,c2,c3,c4,c5] an) a0),(5,.eq (Pv b1)),(15,.rep Tl r5),(16,.eq (.int .i64 (r5.length:Int))),(17,.eq (.int .i64 y6))]) (λz7 y6=>[.obj b1 69 (.rep Tr a1)]) (dW k a0 a1 r5) k () 0 (λ_=>rfl) h (SE.fin [0] ⟨rfl,rfl,rfl,rfl,rfl,trivial⟩ rfl) (λn z7 y6 h=>?_)
    unfold dW at h
    refine ai ?_
    refine ae ?_
    refine bX rfl (bS rfl) ⟨rfl,rfl,trivial⟩ ?_
    refine aJ ?_
    refine au ?_
    show JC _ _ _ _ _
    refine ai ?_
    refine ia rfl (λhb=>?_) (λhb=>?_)
    . replace h:=cj (qf hb) h
      refine bi ?_
      refine au ?_
      show JC _ _ _ _ _
      refine ai ?_
      refine ak ?_
      refine ai ?_
      refine ae ?_
      obtain⟨x8,y,h⟩:=aa h
      refine bX rfl (bA (t:=Ti) rfl jp cL y) ⟨rfl,rfl,trivial⟩ ?_
      refine bX rfl (aA (t:=Ti) rfl cL rfl) ⟨rfl,trivial⟩ ?_
      refine tB rfl rfl ?_
      refine aJ ?_
      refine au ?_
      show JC _ _ _ _ _
      refine ai ?_
      refine dn ?_
      refine eT rfl rfl rfl (bW rfl) ⟨rfl,trivial⟩ ?_
      obtain⟨u9,u,h⟩:=aa h
      refine eT rfl rfl rfl (dj rfl yd cL (ax u).1 (ax u).2) ⟨rfl,rfl,trivial⟩ ?_
      obtain⟨F,s,h⟩:=aa h
      refine tH 0 rfl rfl rfl rfl (lP (t:=Ti) (off:=0) (i:=x8) (N:=5) rfl cL (λ_=>rfl) rfl rfl rfl rfl s) ⟨rfl,trivial⟩ ?_
      refine eT rfl rfl rfl (bW rfl) ⟨rfl,trivial⟩ ?_
      refine eT rfl rfl rfl (jZ rfl) ⟨rfl,trivial⟩ ?_
      refine eT rfl rfl rfl (fB rfl fM) ⟨rfl,trivial⟩ ?_
      refine eT rfl rfl rfl (gf 1 false rfl yR rfl rfl) ⟨rfl,trivial⟩ ?_
      refine eT rfl rfl rfl (ij (t:=Ti) rfl cL (hK.sub 1 1 rfl (le_of_ble_eq_true rfl)) rfl rfl) ⟨rfl,trivial⟩ ?_
      refine eT rfl rfl rfl (Dh rfl rfl) ⟨rfl,rfl,trivial⟩ ?_
      refine zi (by kernel_rfl) fa ?_
      refine bX rfl (iN rfl) ⟨rfl,rfl,trivial⟩ ?_
      refine aJ ?_
      refine au ?_
      show JC _ _ _ _ _
      refine ia rfl (λhb=>?_) (λhb=>?_)
      . replace h:=cj (qf hb) h
        refine ai ?_
        refine ae ?_
        refine fP rfl rfl ?_
        refine tB rfl rfl ?_
        refine aJ ?_
        refine au ?_
        show JC _ _ _ _ _
        refine aF ?_
        refine bo ?_
        refine bs ?_
        refine bs ?_
        refine bo ?_
        refine bs ?_
        obtain rfl:=hR _ h
        exact aZ () [_] 0 ⟨rfl,trivial⟩ rfl
      . replace h:=bh (qg hb) h
        refine bi ?_
        refine aV ?_
        refine au ?_
        show JC _ _ _ _ _
        refine ae ?_
        obtain⟨x,j,h⟩:=aa h
        refine bX rfl (bK rfl j) ⟨rfl,rfl,trivial⟩ ?_
        refine fP rfl rfl ?_
        refine aJ ?_
        refine au ?_
        exact vW ((),x) h (SE.fin [0] ⟨rfl,rfl,rfl,rfl,rfl,trivial⟩ rfl)
    . replace h:=bh (qg hb) h
      refine d5 ?_
      refine bM ?_
      refine bM ?_
      refine cz ?_
      refine au ?_
      exact vW ((),()) h (SE.fin [] trivial rfl)
  .
    refine ai ?_
    refine ae ?_
    refine Ap rfl ?_
    refine aJ ?_
    refine au ?_
    show JC _ _ _ _ _
    refine aF ?_
    obtain rfl:=Option.some.inj h
    exact aZ () [_] 0 ⟨rfl,trivial⟩ rfl
def fo(k:Nat)(a0:am)(a1:(List Int))(a2:Int):Nat->((List Int)×Int)->Option (List Int)
 |0,_=>none
 |n+1,y6=>
  if y6.2 < a0.1 then((((eY k k a0 y6.2 a2).bind λc=>
  if K4 c=true then(if a0.2.2.2.1≤(NF c) then((d3 (0≤y6.2/\y6.2 < 5)).bind λ_=>
  some (List.set y6.1 (Int.toNat y6.2) (-1:Int))) else(some y6.1)) else(if¬(K4 c=true) then((d3 (0≤y6.2/\y6.2 < 5)).bind λ_=>
  (bT a1 y6.2).bind λl=>
  if 0≤l then((d3 (0≤y6.2/\y6.2 < 5)).bind λ_=>
  (bT a1 y6.2).bind λj=>
  (ck (j+1)).bind λh=>
  (d3 (0≤y6.2/\y6.2 < 5)).bind λ_=>
  some (List.set y6.1 (Int.toNat y6.2) h)) else((dX k a0 a1 y6.2 a2).bind λr=>
  if 0≤r then((d3 (0≤y6.2/\y6.2 < 5)).bind λ_=>
  some (List.set y6.1 (Int.toNat y6.2) 0)) else(some y6.1))) else(some y6.1))):Option ((List Int))).bind λx8=>
  (ck (y6.2+1)).bind λe=>
  fo k a0 a1 a2 n (x8,e)) else(some y6.1)
def j8(k:Nat)(a0:am)(a1:(List Int))(a2:Int):Option (List Int):=
 ((fo k a0 a1 a2 k (a1,0)):Option ((List Int))).bind λx4=>
 some x4
theorem pP{M:Md Tryz.prog}{bm:Nat}{c0 c1 c2 c3 c4 c5:Value}(hK:Kn M bm 0 [c0,c1,c2,c3,c4,c5])(k:Nat)(a0:am)(a1:(List Int))(a2:Int)(r:(List Int))(h:j8 k a0 a1 a2=some r):
 bG M 72 [.rep (.mo (Pv bm) [c0,c1,c2,c3,c4,c5] an) a0,.rep Tr a1,I a2] [] (λ_:Unit=>(bO [.rep Tr r],[])):=by
 unfold j8 at h
 replace h:=bz h
 refine bG.of 60 Tryz.func72 rfl Tryz.ntmps72 rfl λS w0=>?_
 refine sr ?_
 refine bx λb1=>?_
 refine aS rfl rfl rfl (aY rfl FD HC) trivial λb2=>?_
 refine nt ?_
 refine sr ?_
 refine fr 1 ?_
 refine lo gB ?_
 refine aS rfl rfl rfl (aY rfl FD HC) trivial λb3=>?_
 refine aK rfl rfl (aD rfl gB rfl rfl rfl) ⟨rfl,rfl,trivial⟩ ?_
 refine nt ?_
 refine aR (Z:=Unit) (α:=(List Int)) (λz5 x4=>[(6,Pt b2),(7,Pt b3)]) (λz5 x4=>[.obj b2 69 (.rep Tr [0,0,0,0,0]),.obj b3 69 (.rep Tr x4)]) h (λK h=>?_) (λz5 x4 h=>?_)
 .
  refine sr (mq ?_);refine ja (jZ rfl) ?_;refine ja (fB rfl fM) ?_;refine ja (gf 1 false rfl g7 rfl rfl) ?_;refine ja (ij (t:=Ti) rfl cL (hK.sub 0 1 rfl (le_of_ble_eq_true rfl)) rfl rfl) ?_;refine dx rfl ?_;refine nt (ak (aW (λz7 y6=>[(0,.rep (.mo (Pv bm) [c0,c1,c2,c3,c4,c5] an) a0),(2,I a2),(4,Pt b1),(6,Pt b2),(7,Pt b3),(16,I a0.1),(17,I y6.2)]) (λz7 y6=>[.obj b1 69 (.rep Tr a1),.obj b2 69 (.rep Tr [0,0,0,0,0]),.obj b3 69 (.rep Tr y6.1)]) (fo k a0 a1 a2) k () (a1,0) (λ_=>rfl) h (SE.fin [1,2,0] ⟨rfl,rfl,rfl,rfl,rfl,rfl,rfl,trivial⟩ rfl) (λn z7 y6 h=>?_)));unfold fo at h;refine sr (jb (bS rfl) ?_);refine nt (ai (ci h (λh=>?_) (λh=>?_)))
  .refine sk (aR (Z:=Unit) (α:=(List Int)) (λz9 x8=>[(0,.rep (.mo (Pv bm) [c0,c1,c2,c3,c4,c5] an) a0),(2,I a2),(4,Pt b1),(6,Pt b2),(7,Pt b3),(16,I a0.1),(17,I y6.2)]) (λz9 x8=>[.obj b1 69 (.rep Tr a1),.obj b2 69 (.rep Tr [0,0,0,0,0]),.obj b3 69 (.rep Tr x8)]) h (λK h=>?_) (λz9 x8 h=>?_))
   .refine ak (sr (mq ?_));refine aq (nt (sr ?_));iterate 3 refine mq ?_
    obtain⟨U,F,h⟩:=aa h;refine jc (ay [.tmp 20,.tmp 21,.tmp 22] rfl rfl JH rfl (j7 hK k k a0 y6.2 a2 U F)) ?_;refine nt (ak (sr (bX rfl (zC rfl CH (by decide)) ⟨rfl,trivial⟩ ?_)));refine xr ?_;refine xr ?_;refine nt (cv h (λh=>?_) (λh=>?_))
    .refine sr (aS rfl rfl rfl (aY rfl BM Iz) trivial λzz=>?_);refine aK rfl rfl (aD rfl Io trivial rfl rfl) ⟨rfl,rfl,trivial⟩ ?_;refine nt (ai (dn ?_));refine da (bg rfl zV) ?_;refine ea 0 (aL rfl cL rM rfl) ?_;refine dm ?_;refine da (jZ rfl) ?_;refine da (fB rfl fM) ?_;refine da (gf 1 false rfl yP rfl rfl) ?_;refine da (ij (t:=Ti) rfl cL (hK.sub 3 1 rfl (le_of_ble_eq_true rfl)) rfl rfl) ?_;refine df fa ?_;refine jb (iN rfl) ?_;refine nt (ci h (λh=>?_) (λh=>?_))
     .refine ae (mq ?_);obtain⟨pq,j,h⟩:=aa h;refine jb (dj rfl yd cL (ax j).1 (ax j).2) ?_;refine fr 3 ?_;refine aK rfl rfl (fA (t:=Ti) (off:=0) (i:=y6.2) (N:=5) rfl cL .int rfl rfl rfl rfl (ax j).1 (ax j).2 rfl) ⟨rfl,rfl,trivial⟩ ?_;refine aJ (aV (bn ?_));exact jz ((),List.set y6.1 (Int.toNat y6.2) (-1:Int)) h [2,3,0]
     .refine bi (aV (bn ?_));exact jz ((),y6.1) h [1,2,3]
    .refine sr (bX rfl (Gz rfl IT (by decide)) ⟨rfl,trivial⟩ ?_);refine xr ?_;refine xr ?_;refine nt (cw h (λh=>?_) (λh=>?_))
     .refine sr (aS rfl rfl rfl (aY rfl Ib MK) trivial λqt=>?_);refine aK rfl rfl (aD rfl KZ trivial rfl rfl) ⟨rfl,rfl,trivial⟩ ?_;refine nt (sr (mq ?_));obtain⟨mw,s,h⟩:=aa h;refine jb (dj rfl yd cL (ax s).1 (ax s).2) ?_;obtain⟨Y,D,h⟩:=aa h;refine fr 1 ?_;refine ka (lP (t:=Ti) (off:=0) (i:=y6.2) (N:=5) rfl cL (λ_=>rfl) rfl rfl rfl rfl D) ?_;refine jb (iN rfl) ?_;refine nt (ci h (λh=>?_) (λh=>?_))
      .refine ae ?_;iterate 2 refine mq ?_
       obtain⟨u16,l,h⟩:=aa h;refine jb (dj rfl yd cL (ax l).1 (ax l).2) ?_;obtain⟨X,y,h⟩:=aa h;refine ka (lP (t:=Ti) (off:=0) (i:=y6.2) (N:=5) rfl cL (λ_=>rfl) rfl rfl rfl rfl y) ?_;obtain⟨O,x,h⟩:=aa h;refine jb (bK rfl x) ?_;obtain⟨mc,e,h⟩:=aa h;refine jb (dj rfl yd cL (ax e).1 (ax e).2) ?_;refine fr 3 ?_;refine aK rfl rfl (fA (t:=Ti) (off:=0) (i:=y6.2) (N:=5) rfl cL .int rfl rfl rfl rfl (ax e).1 (ax e).2 rfl) ⟨rfl,rfl,trivial⟩ ?_;refine aJ (aV (bn ?_));exact jz ((),List.set y6.1 (Int.toNat y6.2) O) h [1,3,0]
      .refine sr (mq ?_);refine lo gB ?_;iterate 2 refine mq ?_
       obtain⟨Q,E,h⟩:=aa h;refine bX rfl (ay [.tmp 50,.tmp 51,.tmp 52,.tmp 53] rfl rfl LR rfl (iR hK k a0 a1 y6.2 a2 Q E)) ⟨rfl,rfl,rfl,rfl,trivial⟩ ?_;refine jb (iN rfl) ?_;refine nt (ci h (λh=>?_) (λh=>?_))
       .refine ae (mq ?_);obtain⟨gw,c,h⟩:=aa h;refine jb (dj rfl yd cL (ax c).1 (ax c).2) ?_;refine fr 3 ?_;refine aK rfl rfl (fA (t:=Ti) (off:=0) (i:=y6.2) (N:=5) rfl cL .int rfl rfl rfl rfl (ax c).1 (ax c).2 rfl) ⟨rfl,rfl,trivial⟩ ?_;refine aJ (aV (bn ?_));exact jz ((),List.set y6.1 (Int.toNat y6.2) 0) h [1,3,0]
       .refine bi (aV (bn ?_));exact jz ((),y6.1) h [0,2,3]
     .refine bi (aV (bn ?_));exact jz ((),y6.1) h [0,1,2]
   .refine ae ?_;obtain⟨J,u,h⟩:=aa h;refine jb (bK rfl u) ?_;refine mq (nl ?_);exact jz ((),(x8,J)) h [0,1,2]
  .refine xa ?_;exact jz ((),y6.1) h [1,2]
 .
  refine sr (fr 1 ?_);refine lo gB ?_;refine fr 1 ?_;refine aK rfl rfl (aD rfl gB rfl rfl rfl) ⟨rfl,rfl,trivial⟩ ?_;refine nt (aF ?_);obtain rfl:=Option.some.inj h;exact aZ () [.rep Tr x4] 0 ⟨⟨_,_,_,_,_,rfl,(.head _),gB,(mW),rfl⟩,trivial⟩ rfl
def iC(k:Nat)(a0:List Int):Option (List Int):=
 (d3 (dR (length a0))).bind λ_=>some a0
theorem lx(k:Nat)(a0:List Int)(r:List Int)(h:iC k a0=some r):
 dA Tryz.prog 35 [.rep Tl a0] [] (λz:Value=>(bO [.eq z],[.sl z 3 Ti r])):=by
 unfold iC at h
 replace h:=bz h
 refine dA.of 8 Tryz.func35 rfl Tryz.ntmps35 rfl λS w0=>?_
 obtain⟨u1,c,h⟩:=aa h
 cases h
 refine sr ?_
 refine cq ?_
 refine nt ?_
 refine ai ?_
 refine sr ?_
 refine mq ?_
 refine aC (Δ:=[]) (F:=_) (λ_ _ _=>ab rfl _) rfl rfl (Gx rfl jp) ⟨rfl,rfl,trivial⟩ λb=>?_
 refine nt ?_
 refine ia rfl (λhb=>?_) (λhb=>?_)
 .
  refine sr (cq (nt (rx ?_)));obtain rfl:=b.2 hb;refine bL (SE.nil 3 Ti) ?_;exact aZ (.slice none 0 0) [.eq (.slice none 0 0)] 1 ⟨rfl,trivial⟩ rfl
 .
  refine sk (sr (aS rfl rfl rfl (il (t:=Ti) [] [] rfl rfl cD .nil rfl rfl) trivial λv1=>?_));refine mq ?_;refine fi rfl rfl rfl (c7 rfl rfl cD (by simpa using ax c)) ⟨rfl,rfl,trivial⟩ λv2=>?_;refine aq (nt (aF ?_));exact aZ v2 [.eq v2] 1 ⟨rfl,trivial⟩ rfl
def fH{σ:Type}(k:Nat)(a0:Int)(a3:Int)(self:Int->Int->σ->Option (Bool×σ)):Nat->(Int×σ)->Option (Except (Bool×σ) (σ))
 |0,_=>none
 |n+1,y5=>
  if y5.1 < a3 then((eJ k a0 y5.1).bind λr7=>
  (ck (y5.1+1)).bind λx8=>
  (self r7 x8 y5.2).bind λr9=>
  if¬(r9.1=true) then(some (.error (false,r9.2))) else((ck (y5.1+1)).bind λc=>
  fH k a0 a3 self n (c,r9.2))) else(some (.ok y5.2))
def fV{σ:Type}(k:Nat)(Y:σ->Int->Option (σ×Bool))(a3:Int):Nat->Int->Int->σ->Option (Bool×σ)
 |0,_,_,_=>none
 |m0+1,a0,a1,s0=>
  (Y s0 a0).bind λr1=>
  if¬(r1.2=true) then(some (false,r1.1)) else(bE (α:=σ) (fH k a0 a3 (fV k Y a3 m0) k (a1,r1.1)) (some) λx3=>
  some (true,x3))
theorem qP{M:Md Tryz.prog}{σ Z:Type}(E:Z->σ->List D)(l:Nat)(Y:σ->Int->Option (σ×Bool))(k:Nat)(u:Nat)(a3:Int)(j:Nat)(c:Nat)(hY:∀z s p r,Y s p=some r->YT M l [.eq (.int .u8 p)] (E z s) (λz':Z=>(.eq (.bool r.2),E z' r.1))):
 ∀(n:Nat) (a0:Int) (a1:Int) (z0:Z) (s0:σ) (r:Bool×σ),fV k Y a3 n a0 a1 s0=some r->bG M 80 [.eq (.int .u8 a0),I a1,Pt u,Pt j,Pt c] ([.obj u 100 (.eq (.func (.yield l) #[] #[])),.obj j 3 (I a3),.obj c 99 (.eq (.func (.func 80) #[] #[(Pv u),(Pv j),(Pv c)]))]++E z0 s0) (λz:Z=>(bO [.eq (.bool r.1)],[.obj u 100 (.eq (.func (.yield l) #[] #[])),.obj j 3 (I a3),.obj c 99 (.eq (.func (.func 80) #[] #[(Pv u),(Pv j),(Pv c)]))]++E z r.2)):=by
 intro n
 induction n with
 |zero=>intro a0 a1 z0 s0 r h;cases h
 |succ m0 ih=>
  intro a0 a1 z0 s0 r h;rw [fV] at h;replace h:=bz h;refine bG.of 27 Tryz.func80 rfl Tryz.ntmps80 rfl λS w0=>?_;refine sr (cq (nt (ai (sr ?_))));refine lo K1 ?_;refine mq ?_;obtain⟨r1,U,h⟩:=aa h;refine fr 2 ?_;refine fr 2 ?_;refine fr 2 ?_;refine tz [.obj u 100 (.eq (.func (.yield l) #[] #[])),.obj j 3 (I a3),.obj c 99 (.eq (.func (.func 80) #[] #[(Pv u),(Pv j),(Pv c)]))] rfl rfl rfl (zy [.tmp 10] rfl rfl rfl (hY z0 s0 a0 r1 U)) ⟨rfl,rfl,trivial⟩ λz2=>?_;refine ja (ec rfl) ?_;refine nt (cw h (λh=>?_) (λh=>?_))
  .refine sr (cq (nt (rx ?_)));cases h;exact kW z2 [_] ⟨rfl,trivial⟩ rfl
  .refine sk (dK (Z:=Z) (α:=σ) (λz4 x3=>[]) (λz4 x3=>[.obj u 100 (.eq (.func (.yield l) #[] #[])),.obj j 3 (I a3),.obj c 99 (.eq (.func (.func 80) #[] #[(Pv u),(Pv j),(Pv c)]))]++E z4 x3) (λe=>e=r) h (λe h=>Option.some.inj h) (λK hR h=>?_) (λz4 x3 h=>?_))
   .refine sr (mq ?_);refine aq (nt (ak ?_));refine aW (Z:=Z) (α:=Int×σ) (λz6 y5=>[(0,.eq (.int .u8 a0)),(3,Pt j),(4,Pt c),(8,I y5.1)]) (λz6 y5=>[.obj j 3 (I a3),.obj c 99 (.eq (.func (.func 80) #[] #[(Pv u),(Pv j),(Pv c)])),.obj u 100 (.eq (.func (.yield l) #[] #[]))]++E z6 y5.2) (fH k a0 a3 (fV k Y a3 m0)) k z2 (a1,r1.1) (λ_=>rfl) h (iJ [.obj u 100 (.eq (.func (.yield l) #[] #[])),.obj j 3 (I a3),.obj c 99 (.eq (.func (.func 80) #[] #[(Pv u),(Pv j),(Pv c)]))] (E z2 r1.1) [1,2,0] ⟨rfl,rfl,rfl,rfl,trivial⟩ rfl) (λn z6 y5 h=>?_);unfold fH at h;refine ai (sr (mq ?_));refine lo cL ?_;refine jb (bS rfl) ?_;refine nt (ci h (λh=>?_) (λh=>?_))
    .refine sk (ai (ak (ai (dn ?_))));refine ea 1 (aL rfl IU rM rfl) ?_;refine dm ?_;refine dm ?_;obtain⟨r7,Q,h⟩:=aa h;refine db (ap [.tmp 20,.tmp 21] rfl rfl Eo rfl (eW k a0 y5.1 r7 Q)) ?_;refine dm ?_;obtain⟨x8,J,h⟩:=aa h;refine db (bK rfl J) ?_;refine df fa ?_;obtain⟨r9,O,h⟩:=aa h;refine fr 1 ?_;refine fr 1 ?_;refine fr 2 ?_;refine tA rfl rfl rfl (lC (fs:=[]) (cs:=[(Pv u),(Pv j),(Pv c)]) (ags:=[.eq (.int .u8 r7),I x8]) [.tmp 22,.tmp 24] rfl rfl LO rfl (ih r7 x8 z6 y5.2 r9 O)) ⟨rfl,rfl,rfl,trivial⟩ λx=>?_;refine ja (ec rfl) ?_;refine nt (cw h (λh=>?_) (λh=>?_))
     .refine sr (cq (nt (aF (br (bo (bs ?_))))));obtain rfl:=hR _ h;exact kW x [_] ⟨rfl,trivial⟩ rfl
     .refine bi (aV (tn (ae (mq ?_))));obtain⟨F,y,h⟩:=aa h;refine jb (bK rfl y) ?_;refine aq (nl ?_);exact vW (x,(F,r9.2)) h (iJ [.obj u 100 (.eq (.func (.yield l) #[] #[])),.obj j 3 (I a3),.obj c 99 (.eq (.func (.func 80) #[] #[(Pv u),(Pv j),(Pv c)]))] (E x r9.2) [1,2,0] ⟨rfl,rfl,rfl,rfl,trivial⟩ rfl)
    .refine xa ?_;exact vW (z6,y5.2) h (iJ [.obj j 3 (I a3),.obj c 99 (.eq (.func (.func 80) #[] #[(Pv u),(Pv j),(Pv c)])),.obj u 100 (.eq (.func (.yield l) #[] #[]))] (E z6 y5.2) [2,0,1] trivial rfl)
   .refine sr (cq (nt (aF ?_)));cases h;exact kW z4 [_] ⟨rfl,trivial⟩ rfl
def kO{σ:Type}(k:Nat)(Y:σ->Int->Option (σ×Bool))(a1:Int)(s0:σ):Option (σ):=
 (fV k Y a1 k 0 0 s0).bind λr3=>
 some r3.2
theorem na{M:Md Tryz.prog}{σ Z:Type}(E:Z->σ->List D)(l:Nat)(Y:σ->Int->Option (σ×Bool))(k:Nat)(a1:Int)(c:Nat)(hY:∀z s p r,Y s p=some r->YT M l [.eq (.int .u8 p)] (E z s) (λz':Z=>(.eq (.bool r.2),E z' r.1))):
 ∀(z0:Z) (s0:σ) (r:σ),kO k Y a1 s0=some r->bG M 79 [.eq (.func (.yield l) #[] #[]),Pt c] ([.obj c 3 (I a1)]++E z0 s0) (λz:Z=>(bO [],[.obj c 3 (I a1)]++E z r)):=by
 intro z0 s0 r h
 unfold kO at h
 replace h:=bz h
 refine bG.of 7 Tryz.func79 rfl Tryz.ntmps79 rfl λS w0=>?_
 refine sr ?_
 refine bx λb1=>?_
 refine nt ?_
 refine sr ?_
 refine aS rfl rfl rfl (aY rfl Nx Oq) trivial λb2=>?_
 refine nt ?_
 refine sr ?_
 refine jc (lO [] [.tmp 2,.tmp 1,.tmp 3] [] [(Pv b1),(Pv c),(Pv b2)] rfl rfl rfl) ?_
 refine aK rfl rfl (aD rfl IU rfl rfl rfl) ⟨rfl,rfl,trivial⟩ ?_
 refine nt ?_
 refine ae ?_
 refine lo IU ?_
 obtain⟨r3,e,h⟩:=aa h
 have j:=qP E l Y k b1 a1 c b2 hY k 0 0 z0 s0 r3 e
 refine fr 2 ?_
 refine fr 2 ?_
 refine tA rfl rfl rfl (lC (fs:=[]) (cs:=[(Pv b1),(Pv c),(Pv b2)]) (ags:=[.eq (.int .u8 0),I 0]) [.const (.int .u8 (0)),.const (.int .i64 (0))] rfl rfl LO rfl j) ⟨rfl,rfl,rfl,trivial⟩ λz4=>?_
 refine aJ ?_
 refine hP ?_
 refine bL (iJ (Γ':=[]) [.obj b1 100 (.eq (.func (.yield l) #[] #[])),.obj c 3 (I a1),.obj b2 99 (.eq (.func (.func 80) #[] #[(Pv b1),(Pv c),(Pv b2)]))] (E z4 r3.2) [1] trivial rfl) ?_
 cases h
 exact kW z4 [] trivial rfl
theorem pR(a0:Int):dA Tryz.prog 52 [I a0] [] (λz:Nat=>(bO [.eq (.func (.func 79) #[] #[(Pv z)])],[.obj z 3 (I a0)])):=by
 refine dA.of 4 Tryz.func52 rfl Tryz.ntmps52 rfl λS w0=>?_;refine sr (bx λz=>?_);refine cq (nt (sr ?_));refine ja (lO [] [.tmp 1] [] [(Pv z)] rfl rfl rfl) ?_;refine aq (nt (aF ?_));exact aZ z [_] 1 ⟨rfl,trivial⟩ rfl
def f5(k:Nat)(a0:Int):Nat->((List Int)×Int)->Option (List Int)
 |0,_=>none
 |n+1,y3=>
  if y3.2 < 5 then((((fD k a0 y3.2).bind λr7=>
  if r7=true then((d3 (dR (length y3.1+length [y3.2]))).bind λ_=>
  some (y3.1++[y3.2])) else(some y3.1)):Option ((List Int))).bind λx5=>
  (ck (y3.2+1)).bind λc=>
  f5 k a0 n (x5,c)) else(some y3.1)
def dT(k:Nat)(a0:Int):Option (List Int):=
 ((f5 k a0 k (([]:(List Int)),0)):Option ((List Int))).bind λx1=>
 some x1
theorem dO(k:Nat)(a0:Int)(r:(List Int))(h:dT k a0=some r):
 dA Tryz.prog 37 [.eq (.int .u8 a0)] [] (λ_:Unit=>(bO [.rep Tl r],[])):=by
 unfold dT at h
 replace h:=bz h
 refine dA.of 17 Tryz.func37 rfl Tryz.ntmps37 rfl λS w0=>?_
 refine sr ?_
 refine cq ?_
 refine nt ?_
 refine sr ?_
 refine cq ?_
 refine nt ?_
 refine aR (Z:=Value) (α:=(List Int)) (λz2 x1=>[(3,.eq z2)]) (λz2 x1=>[.sl z2 3 Ti x1]) h (λK h=>?_) (λz2 x1 h=>?_)
 .
  refine sr (dx rfl ?_);refine nt (ak (i8 (SE.nil 3 Ti) ?_));refine aW (λz4 y3=>[(0,.eq (.int .u8 a0)),(3,.eq z4),(5,I y3.2)]) (λz4 y3=>[.sl z4 3 Ti y3.1]) (f5 k a0) k (.slice none 0 0) (([]:(List Int)),0) (λ_=>rfl) h (SE.fin [0] ⟨rfl,rfl,rfl,trivial⟩ rfl) (λn z4 y3 h=>?_);unfold f5 at h;refine sr (jb (bS rfl) ?_);refine nt (ai (ci h (λh=>?_) (λh=>?_)))
  .refine sk (aR (Z:=Value) (α:=(List Int)) (λz6 x5=>[(0,.eq (.int .u8 a0)),(3,.eq z6),(5,I y3.2)]) (λz6 x5=>[.sl z6 3 Ti x5]) h (λK h=>?_) (λz6 x5 h=>?_))
   .refine ak (sr (mq ?_));refine aq (nt (sr ?_));iterate 2 refine mq ?_
    obtain⟨r7,l,h⟩:=aa h;refine jb (ap [.tmp 8,.tmp 9] rfl rfl En rfl (fC k a0 y3.2 r7 l)) ?_;refine nt (cv h (λh=>?_) (λh=>?_))
    .refine ae ?_;iterate 2 refine mq ?_
     refine ja (aQ (t:=Ti) [(.tmp 12,_)] [y3.2] rfl rfl cD (.cons rfl .int .nil) rfl rfl) ?_;obtain⟨u8,j,h⟩:=aa h;refine fi rfl rfl rfl (c7 rfl rfl cD (ax j)) ⟨rfl,rfl,trivial⟩ λv9=>?_;refine aq (aJ (bn ?_));exact jz (v9,y3.1++[y3.2]) h [0]
    .refine bi (bn ?_);exact jz (z4,y3.1) h [0]
   .refine ae ?_;obtain⟨e,c,h⟩:=aa h;refine jb (bK rfl c) ?_;refine mq (nl ?_);exact jz (z6,(x5,e)) h [0]
  .refine xa ?_;exact jz (z4,y3.1) h [0]
 .
  refine sr (mq ?_);refine aq (nt (aF ?_));refine bL (jq [2,3,16] ⟨rfl,rfl,rfl,trivial⟩) ?_;cases h;exact ra
def gd(k:Nat)(a0:(List Int))(a1:(List Int)):Nat->Int->Option (Except Bool Unit)
 |0,_=>none
 |n+1,y3=>
  if y3 < (a0.length:Int) then((bT a0 y3).bind λx5=>
  (bT a1 y3).bind λx6=>
  if¬(x5=x6) then(some (.error false)) else((ck (y3+1)).bind λx7=>
  gd k a0 a1 n x7)) else(some (.ok ()))
def cE(k:Nat)(a0:(List Int))(a1:(List Int)):Option Bool:=
 if¬((a0.length:Int)=(a1.length:Int)) then(some false) else(bE (α:=Unit) (gd k a0 a1 k 0) (some) λ_=>
 some true)
theorem cg(k:Nat)(a0:(List Int))(a1:(List Int))(r:Bool)(h:cE k a0 a1=some r):
 dA Tryz.prog 12 [.rep Tl a0,.rep Tl a1] [] (λ_:Unit=>(bO [.eq (.bool r)],[])):=by
 unfold cE at h
 replace h:=bz h
 refine dA.of 26 Tryz.func12 rfl Tryz.ntmps12 rfl λS w0=>?_
 refine sr ?_
 refine cq ?_
 refine nt ?_
 refine ai ?_
 refine sr ?_
 refine mq ?_
 refine ol jp ?_
 refine mq ?_
 refine ol jp ?_
 refine jb (bV rfl) ?_
 refine nt ?_
 refine cn h (λh=>?_) (λh=>?_)
 .
  refine sr (cq (nt (rx ?_)));cases h;exact ra
 .
  refine sk (dK (Z:=Unit) (α:=Unit) (λz2 x1=>[]) (λz2 x1=>[]) (λe=>e=r) h (λe h=>Option.some.inj h) (λK hR h=>?_) (λz2 x1 h=>?_))
  .refine sr (cq (nt (ak ?_)));refine aW (λz4 y3=>[(0,.rep Tl a0),(1,.rep Tl a1),(5,I y3)]) (λz4 y3=>[]) (gd k a0 a1) k () 0 (λ_=>rfl) h (SE.fin [] ⟨rfl,rfl,rfl,trivial⟩ rfl) (λn z4 y3 h=>?_);unfold gd at h;refine ai (sr ?_);iterate 2 refine mq ?_
   refine ol jp ?_;refine jb (bS rfl) ?_;refine nt (ci h (λh=>?_) (λh=>?_))
   .refine sk (ai (ak (ai (dn ?_))));refine dm ?_;refine dm ?_;obtain⟨x5,l,h⟩:=aa h;refine db (bA (t:=Ti) rfl jp cL l) ?_;refine da (aA (t:=Ti) rfl cL rfl) ?_;refine dm ?_;refine dm ?_;obtain⟨x6,j,h⟩:=aa h;refine db (bA (t:=Ti) rfl jp cL j) ?_;refine da (aA (t:=Ti) rfl cL rfl) ?_;refine df fa ?_;refine jb (bV rfl) ?_;refine nt (cn h (λh=>?_) (λh=>?_))
    .refine sr (cq (nt (aF (br (bo (bs ?_))))));obtain rfl:=hR _ h;exact ra
    .refine bi (aV (tn (ae (mq ?_))));obtain⟨x7,c,h⟩:=aa h;refine jb (bK rfl c) ?_;refine aq (nl ?_);exact jz ((),x7) h []
   .refine xa ?_;exact jz ((),()) h []
  .refine sr (cq (nt (aF ?_)));cases h;exact ra
def gC(k:Nat)(a0:(List Int)):Nat->(Int×Int)->Option Int
 |0,_=>none
 |n+1,y4=>
  if y4.2 < (a0.length:Int) then((bT a0 y4.2).bind λx6=>
  (ck (y4.2+1)).bind λx7=>
  gC k a0 n (D6 y4.1 x6,x7)) else(some y4.1)
def kF(k:Nat)(a0:(List Int)):Option Int:=
 if(a0.length:Int) < 1 then(none) else((bT a0 0).bind λx1=>
 ((gC k a0 k (x1,1)):Option (Int)).bind λx2=>
 some x2)
theorem mN(k:Nat)(a0:(List Int))(r:Int)(h:kF k a0=some r):
 dA Tryz.prog 43 [.rep Tl a0] [] (λ_:Unit=>(bO [I r],[])):=by
 unfold kF at h
 replace h:=bz h
 refine dA.of 25 Tryz.func43 rfl Tryz.ntmps43 rfl λS w0=>?_
 refine sr ?_
 refine cq ?_
 refine nt ?_
 refine ai ?_
 refine sr ?_
 refine mq ?_
 refine ol jp ?_
 refine jb (bS rfl) ?_
 refine nt ?_
 refine ci h (λh=>?_) (λh=>?_)
 .
  cases h
 .
  refine sk (sr (mq ?_));obtain⟨x1,j,h⟩:=aa h;refine jb (bA (t:=Ti) rfl jp cL j) ?_;refine ja (aA (t:=Ti) rfl cL rfl) ?_;refine aq (nt ?_);refine aR (Z:=Unit) (α:=Int) (λz3 x2=>[(3,I x2)]) (λz3 x2=>[]) h (λK h=>?_) (λz3 x2 h=>?_)
  .refine sr (cq (nt (ak ?_)));refine aW (λz5 y4=>[(0,.rep Tl a0),(3,I y4.1),(4,I y4.2)]) (λz5 y4=>[]) (gC k a0) k () (x1,1) (λ_=>rfl) h (SE.fin [] ⟨rfl,rfl,rfl,trivial⟩ rfl) (λn z5 y4 h=>?_);unfold gC at h;refine ai (sr ?_);iterate 2 refine mq ?_
   refine ol jp ?_;refine jb (bS rfl) ?_;refine nt (ci h (λh=>?_) (λh=>?_))
   .refine sk (ai (ak (ae ?_)));iterate 3 refine mq ?_
    obtain⟨x6,e,h⟩:=aa h;refine jb (bA (t:=Ti) rfl jp cL e) ?_;refine ja (aA (t:=Ti) rfl cL rfl) ?_;refine jb (La rfl rfl) ?_;refine aq (aJ (aV (tn (ae ?_))));refine mq ?_;obtain⟨x7,c,h⟩:=aa h;refine jb (bK rfl c) ?_;refine aq (nl ?_);exact jz ((),(D6 y4.1 x6,x7)) h []
   .refine xa ?_;exact jz ((),y4.1) h []
  .refine sr (mq ?_);refine aq (nt (aF ?_));cases h;exact ra
def gG(k:Nat)(a0:(List Int)):Nat->(Int×Int)->Option Int
 |0,_=>none
 |n+1,y4=>
  if y4.2 < (a0.length:Int) then((bT a0 y4.2).bind λx6=>
  (ck (y4.2+1)).bind λx7=>
  gG k a0 n (uc y4.1 x6,x7)) else(some y4.1)
def mO(k:Nat)(a0:(List Int)):Option Int:=
 if(a0.length:Int) < 1 then(none) else((bT a0 0).bind λx1=>
 ((gG k a0 k (x1,1)):Option (Int)).bind λx2=>
 some x2)
theorem sq(k:Nat)(a0:(List Int))(r:Int)(h:mO k a0=some r):
 dA Tryz.prog 44 [.rep Tl a0] [] (λ_:Unit=>(bO [I r],[])):=by
 unfold mO at h
 replace h:=bz h
 refine dA.of 25 Tryz.func44 rfl Tryz.ntmps44 rfl λS w0=>?_
 refine sr ?_
 refine cq ?_
 refine nt ?_
 refine ai ?_
 refine sr ?_
 refine mq ?_
 refine ol jp ?_
 refine jb (bS rfl) ?_
 refine nt ?_
 refine ci h (λh=>?_) (λh=>?_)
 .
  cases h
 .
  refine sk (sr (mq ?_));obtain⟨x1,j,h⟩:=aa h;refine jb (bA (t:=Ti) rfl jp cL j) ?_;refine ja (aA (t:=Ti) rfl cL rfl) ?_;refine aq (nt ?_);refine aR (Z:=Unit) (α:=Int) (λz3 x2=>[(3,I x2)]) (λz3 x2=>[]) h (λK h=>?_) (λz3 x2 h=>?_)
  .refine sr (cq (nt (ak ?_)));refine aW (λz5 y4=>[(0,.rep Tl a0),(3,I y4.1),(4,I y4.2)]) (λz5 y4=>[]) (gG k a0) k () (x1,1) (λ_=>rfl) h (SE.fin [] ⟨rfl,rfl,rfl,trivial⟩ rfl) (λn z5 y4 h=>?_);unfold gG at h;refine ai (sr ?_);iterate 2 refine mq ?_
   refine ol jp ?_;refine jb (bS rfl) ?_;refine nt (ci h (λh=>?_) (λh=>?_))
   .refine sk (ai (ak (ae ?_)));iterate 3 refine mq ?_
    obtain⟨x6,e,h⟩:=aa h;refine jb (bA (t:=Ti) rfl jp cL e) ?_;refine ja (aA (t:=Ti) rfl cL rfl) ?_;refine jb (Dh rfl rfl) ?_;refine aq (aJ (aV (tn (ae ?_))));refine mq ?_;obtain⟨x7,c,h⟩:=aa h;refine jb (bK rfl c) ?_;refine aq (nl ?_);exact jz ((),(uc y4.1 x6,x7)) h []
   .refine xa ?_;exact jz ((),y4.1) h []
  .refine sr (mq ?_);refine aq (nt (aF ?_));cases h;exact ra
def eE(k:Nat):Nat->((List Int)×Int×Int)->Option (List Int)
 |0,_=>none
 |n+1,y2=>
  if y2.2.1 < y2.2.2 then((bT y2.1 y2.2.2).bind λx4=>
  (bT y2.1 y2.2.1).bind λx5=>
  (bT y2.1 y2.2.1).bind λx6=>
  (bT (List.set y2.1 (Int.toNat y2.2.1) x4) y2.2.2).bind λx7=>
  (ck (y2.2.1+1)).bind λx8=>
  (ck (y2.2.2 - 1)).bind λx9=>
  eE k n (List.set (List.set y2.1 (Int.toNat y2.2.1) x4) (Int.toNat y2.2.2) x5,x8,x9)) else(some y2.1)
def jf(k:Nat)(a0:(List Int)):Option (List Int):=
 (ck ((a0.length:Int) - 1)).bind λx1=>
 eE k k (a0,0,x1)
theorem oK(k:Nat)(a0:(List Int))(c:Value)(r:(List Int))(h:jf k a0=some r):
 dA Tryz.prog 47 [.eq c] [.sl c 3 Ti a0] (λ_:Unit=>(bO [],[.sl c 3 Ti r])):=by
 unfold jf at h
 replace h:=bz h
 refine dA.of 28 Tryz.func47 rfl Tryz.ntmps47 rfl λS w0=>?_
 refine sr ?_
 refine mq ?_
 refine ka (qH rfl rfl jp) ?_
 obtain⟨x1,mc,h⟩:=aa h
 refine jb (fy rfl mc) ?_
 refine cq ?_
 refine aq ?_
 refine nt ?_
 refine ak ?_
 refine aW (λz3 y2=>[(0,.eq c),(2,I y2.2.1),(3,I y2.2.2)]) (λz3 y2=>[.sl c 3 Ti y2.1]) (eE k) k () (a0,0,x1) (λ_=>rfl) h (SE.fin [0] ⟨rfl,rfl,rfl,trivial⟩ rfl) (λn z3 y2 h=>?_)
 unfold eE at h
 refine ai ?_
 refine sr ?_
 iterate 2 refine mq ?_
 refine jb (bS rfl) ?_
 refine nt ?_
 refine ci h (λh=>?_) (λh=>?_)
 .
  refine sk (ai (ak (nA ?_)));refine co rfl rfl rfl (bW rfl) ⟨rfl,trivial⟩ ?_;refine co rfl rfl rfl (bW rfl) ⟨rfl,trivial⟩ ?_;refine co rfl rfl rfl (bW rfl) ⟨rfl,trivial⟩ ?_;refine co rfl rfl rfl (bW rfl) ⟨rfl,trivial⟩ ?_;refine co rfl rfl rfl (bW rfl) ⟨rfl,trivial⟩ ?_;refine co rfl rfl rfl (bW rfl) ⟨rfl,trivial⟩ ?_;obtain⟨x4,D,h⟩:=aa h;refine fS 0 rfl rfl rfl rfl (cY (t:=Ti) rfl jp cL D) ⟨rfl,rfl,trivial⟩ ?_;refine fS 0 rfl rfl rfl rfl (ik (i:=Int.toNat y2.2.2) (off:=0) rfl cL (λ_=>rfl) rfl (dp D).2.2 rfl) ⟨rfl,trivial⟩ ?_;refine co rfl rfl rfl (bW rfl) ⟨rfl,trivial⟩ ?_;refine co rfl rfl rfl (bW rfl) ⟨rfl,trivial⟩ ?_;obtain⟨x5,y,h⟩:=aa h;refine fS 0 rfl rfl rfl rfl (cY (t:=Ti) rfl jp cL y) ⟨rfl,rfl,trivial⟩ ?_;refine fS 0 rfl rfl rfl rfl (ik (i:=Int.toNat y2.2.1) (off:=0) rfl cL (λ_=>rfl) rfl (dp y).2.2 rfl) ⟨rfl,trivial⟩ ?_;obtain⟨x6,x,h⟩:=aa h;refine fS 0 rfl rfl rfl rfl (cY (t:=Ti) rfl jp cL x) ⟨rfl,rfl,trivial⟩ ?_;refine tG 13 [true,true,false,false,true,true,true,true,true,true,true,true,true] [27] [] [] rfl (by kernel_rfl) (by kernel_rfl) (by kernel_rfl) fa (λvs hv hB=>?_);obtain⟨w0,Py,rfl,Y⟩:=aM hv;obtain⟨w1,Px,rfl,X⟩:=aM Y;obtain⟨w2,Po,rfl,U⟩:=aM X;obtain⟨w3,Pn,rfl,Q⟩:=aM U;obtain⟨w4,Pm,rfl,O⟩:=aM Q;obtain⟨w5,Pl,rfl,M⟩:=aM O;obtain⟨w6,Pj,rfl,J⟩:=aM M;obtain⟨w7,Pi,rfl,F⟩:=aM J;obtain⟨w8,Pg,rfl,E⟩:=aM F;obtain⟨w9,zz,rfl,s⟩:=aM E;obtain⟨Pe,qt,rfl,l⟩:=aM s;obtain⟨O9,pq,rfl,j⟩:=aM l;obtain⟨zM,mw,rfl,e⟩:=aM j;obtain rfl:=pV e;refine⟨[0],[.sl c 3 Ti y2.1],by kernel_rfl,by decide,?_⟩;refine ny rfl rfl (iL (i:=Int.toNat y2.2.1) rfl cL rfl (pW x) rfl .int rfl) ⟨rfl,rfl,trivial⟩ (by kernel_rfl) ?_;obtain⟨x7,u,h⟩:=aa h;refine EZ rfl rfl rfl rfl (cY (t:=Ti) rfl jp cL u) ⟨rfl,rfl,trivial⟩ (by kernel_rfl) ?_;refine ny rfl rfl (iL (i:=Int.toNat y2.2.2) rfl cL rfl (pW u) rfl .int rfl) ⟨rfl,rfl,trivial⟩ (by kernel_rfl) ?_;refine zg ?_;refine bL (SE.fin (Γ':=[(0,.eq c),(2,I y2.2.1),(3,I y2.2.2)]) (Δ':=[.sl c 3 Ti (List.set (List.set y2.1 (Int.toNat y2.2.1) x4) (Int.toNat y2.2.2) x5)]) [0] ⟨rfl,rfl,rfl,trivial⟩ rfl) ?_;refine aV (tn (ae (mq ?_)));obtain⟨x8,gw,h⟩:=aa h;refine jb (bK rfl gw) ?_;refine mq ?_;obtain⟨x9,Z,h⟩:=aa h;refine jb (fy rfl Z) ?_;refine aq ?_;refine aq (nl ?_);exact jz ((),(List.set (List.set y2.1 (Int.toNat y2.2.1) x4) (Int.toNat y2.2.2) x5,x8,x9)) h [0]
 .
  refine d5 (bM (bM (cz (hP ?_))));cases h;exact aZ () [] 1 trivial rfl
def fL(k:Nat)(a0:(List (List Int)))(a1:(List (List Int))):Nat->Int->Option (Except Bool Unit)
 |0,_=>none
 |n+1,y3=>
  if y3 < (a0.length:Int) then((bT a0 y3).bind λx5=>
  (bT a1 y3).bind λx6=>
  (cE k x5 x6).bind λr7=>
  if¬(r7=true) then(some (.error false)) else((ck (y3+1)).bind λx8=>
  fL k a0 a1 n x8)) else(some (.ok ()))
def fW(k:Nat)(a0:(List (List Int)))(a1:(List (List Int))):Option Bool:=
 if¬((a0.length:Int)=(a1.length:Int)) then(some false) else(bE (α:=Unit) (fL k a0 a1 k 0) (some) λ_=>
 some true)
theorem ip(k:Nat)(a0:(List (List Int)))(a1:(List (List Int)))(r:Bool)(h:fW k a0 a1=some r):
 dA Tryz.prog 19 [.rep (.slice Tl) a0,.rep (.slice Tl) a1] [] (λ_:Unit=>(bO [.eq (.bool r)],[])):=by
 unfold fW at h
 replace h:=bz h
 refine dA.of 27 Tryz.func19 rfl Tryz.ntmps19 rfl λS w0=>?_
 refine sr ?_
 refine cq ?_
 refine nt ?_
 refine ai ?_
 refine sr ?_
 refine mq ?_
 refine ol vT ?_
 refine mq ?_
 refine ol vT ?_
 refine jb (bV rfl) ?_
 refine nt ?_
 refine cn h (λh=>?_) (λh=>?_)
 .
  refine sr (cq (nt (rx ?_)));cases h;exact ra
 .
  refine sk (dK (Z:=Unit) (α:=Unit) (λz2 x1=>[]) (λz2 x1=>[]) (λe=>e=r) h (λe h=>Option.some.inj h) (λK hR h=>?_) (λz2 x1 h=>?_))
  .refine sr (cq (nt (ak ?_)));refine aW (λz4 y3=>[(0,.rep (.slice Tl) a0),(1,.rep (.slice Tl) a1),(5,I y3)]) (λz4 y3=>[]) (fL k a0 a1) k () 0 (λ_=>rfl) h (SE.fin [] ⟨rfl,rfl,rfl,trivial⟩ rfl) (λn z4 y3 h=>?_);unfold fL at h;refine ai (sr ?_);iterate 2 refine mq ?_
   refine ol vT ?_;refine jb (bS rfl) ?_;refine nt (ci h (λh=>?_) (λh=>?_))
   .refine sk (ai (ak (ai (dn ?_))));refine dm ?_;refine dm ?_;obtain⟨x5,l,h⟩:=aa h;refine db (bA (t:=Tl) rfl vT je l) ?_;refine da (aA (t:=Tl) rfl je rfl) ?_;refine dm ?_;refine dm ?_;obtain⟨x6,j,h⟩:=aa h;refine db (bA (t:=Tl) rfl vT je j) ?_;refine da (aA (t:=Tl) rfl je rfl) ?_;refine df fa ?_;obtain⟨r7,s,h⟩:=aa h;refine jb (ap [.tmp 20,.tmp 24] rfl rfl s5 rfl (cg k x5 x6 r7 s)) ?_;refine ja (ec rfl) ?_;refine nt (cw h (λh=>?_) (λh=>?_))
    .refine sr (cq (nt (aF (br (bo (bs ?_))))));obtain rfl:=hR _ h;exact ra
    .refine bi (aV (tn (ae (mq ?_))));obtain⟨x8,c,h⟩:=aa h;refine jb (bK rfl c) ?_;refine aq (nl ?_);exact jz ((),x8) h []
   .refine xa ?_;exact jz ((),()) h []
  .refine sr (cq (nt (aF ?_)));cases h;exact ra
def jD(k:Nat)(a0:Int):Option Int:=
 (dT k a0).bind λr1=>
 some (r1.length:Int)
theorem mz(k:Nat)(a0:Int)(r:Int)(h:jD k a0=some r):
 dA Tryz.prog 40 [.eq (.int .u8 a0)] [] (λ_:Unit=>(bO [I r],[])):=by
 unfold jD at h
 replace h:=bz h
 refine dA.of 6 Tryz.func40 rfl Tryz.ntmps40 rfl λS w0=>?_
 refine sr ?_
 refine cq ?_
 refine nt ?_
 refine sr ?_
 refine mq ?_
 obtain⟨r1,c,h⟩:=aa h
 have e:=dO k a0 r1 c
 refine ja (ap [.tmp 3] rfl rfl A6 rfl e) ?_
 refine ol jp ?_
 refine aq ?_
 refine nt ?_
 refine aF ?_
 cases h
 exact ra
def jB(k:Nat)(a0:Int):Option Int:=
 (dT k a0).bind λr1=>
 some (r1.length:Int)
theorem my(k:Nat)(a0:Int)(r:Int)(h:jB k a0=some r):
 dA Tryz.prog 57 [.eq (.int .u8 a0)] [] (λ_:Unit=>(bO [I r],[])):=by
 unfold jB at h
 replace h:=bz h
 refine dA.of 6 Tryz.func57 rfl Tryz.ntmps57 rfl λS w0=>?_
 refine sr ?_
 refine cq ?_
 refine nt ?_
 refine sr ?_
 refine mq ?_
 obtain⟨r1,c,h⟩:=aa h
 have e:=dO k a0 r1 c
 refine ja (ap [.tmp 3] rfl rfl A6 rfl e) ?_
 refine ol jp ?_
 refine aq ?_
 refine nt ?_
 refine aF ?_
 cases h
 exact ra
def lV(k:Nat)(a0:Int)(a1:Int):Option Int:=
 (jB k a0).bind λr1=>
 (jB k a1).bind λr2=>
 (ck (r1 - r2)).bind λx3=>
 some x3
theorem rN(k:Nat)(a0:Int)(a1:Int)(c:Nat)(r:Int)(h:lV k a0 a1=some r):
 dA Tryz.prog 75 [.eq (.int .u8 a0),.eq (.int .u8 a1),Pt c] [.obj c 80 (.eq (.func (.func 57) #[] #[]))] (λ_:Unit=>(bO [I r],[.obj c 80 (.eq (.func (.func 57) #[] #[]))])):=by
 unfold lV at h
 replace h:=bz h
 refine dA.of 13 Tryz.func75 rfl Tryz.ntmps75 rfl λS w0=>?_
 refine sr ?_
 refine cq ?_
 refine nt ?_
 refine ai ?_
 refine dn ?_
 refine ea 0 (aL rfl FW rM rfl) ?_
 refine dm ?_
 obtain⟨r1,l,h⟩:=aa h
 have s:=my k a0 r1 l
 refine db (lQ (fs:=[]) (cs:=[]) (ags:=[.eq (.int .u8 a0)]) [.tmp 7] rfl rfl LV rfl s) ?_
 refine ea 0 (aL rfl FW rM rfl) ?_
 refine dm ?_
 refine df fa ?_
 obtain⟨r2,j,h⟩:=aa h
 have n:=my k a1 r2 j
 refine jb (lQ (fs:=[]) (cs:=[]) (ags:=[.eq (.int .u8 a1)]) [.tmp 10] rfl rfl LV rfl n) ?_
 obtain⟨x3,e,h⟩:=aa h
 refine jb (fy rfl e) ?_
 refine aq ?_
 refine nt ?_
 refine aF ?_
 cases h
 exact aZ () [_] 1 ⟨rfl,trivial⟩ rfl
def kY(k:Nat)(a0:Int)(a1:Int):Option Int:=
 (jD k a0).bind λr1=>
 (jD k a1).bind λr2=>
 (ck (r1 - r2)).bind λx3=>
 some x3
theorem qR(k:Nat)(a0:Int)(a1:Int)(c:Nat)(r:Int)(h:kY k a0 a1=some r):
 dA Tryz.prog 75 [.eq (.int .u8 a0),.eq (.int .u8 a1),Pt c] [.obj c 80 (.eq (.func (.func 40) #[] #[]))] (λ_:Unit=>(bO [I r],[.obj c 80 (.eq (.func (.func 40) #[] #[]))])):=by
 unfold kY at h
 replace h:=bz h
 refine dA.of 13 Tryz.func75 rfl Tryz.ntmps75 rfl λS w0=>?_
 refine sr ?_
 refine cq ?_
 refine nt ?_
 refine ai ?_
 refine dn ?_
 refine ea 0 (aL rfl FW rM rfl) ?_
 refine dm ?_
 obtain⟨r1,l,h⟩:=aa h
 have s:=mz k a0 r1 l
 refine db (lQ (fs:=[]) (cs:=[]) (ags:=[.eq (.int .u8 a0)]) [.tmp 7] rfl rfl L0 rfl s) ?_
 refine ea 0 (aL rfl FW rM rfl) ?_
 refine dm ?_
 refine df fa ?_
 obtain⟨r2,j,h⟩:=aa h
 have n:=mz k a1 r2 j
 refine jb (lQ (fs:=[]) (cs:=[]) (ags:=[.eq (.int .u8 a1)]) [.tmp 10] rfl rfl L0 rfl n) ?_
 obtain⟨x3,e,h⟩:=aa h
 refine jb (fy rfl e) ?_
 refine aq ?_
 refine nt ?_
 refine aF ?_
 cases h
 exact aZ () [_] 1 ⟨rfl,trivial⟩ rfl
def eF(k:Nat)(a0:(List Int)):Nat->(Int×Int)->Option Int
 |0,_=>none
 |n+1,y4=>
  if y4.2 < (a0.length:Int) then((((bT a0 y4.2).bind λx8=>
  (lV k x8 y4.1).bind λr9=>
  if r9 < 0 then((bT a0 y4.2).bind λe=>
  some e) else(some y4.1)):Option (Int)).bind λx6=>
  (ck (y4.2+1)).bind λc=>
  eF k a0 n (x6,c)) else(some y4.1)
def jg(k:Nat)(a0:(List Int)):Option Int:=
 if(a0.length:Int) < 1 then(none) else((bT a0 0).bind λx1=>
 ((eF k a0 k (x1,1)):Option (Int)).bind λx2=>
 some x2)
theorem oL(k:Nat)(a0:(List Int))(c_a1_0:Nat)(r:Int)(h:jg k a0=some r):
 dA Tryz.prog 74 [.rep (.slice (.int .u8)) a0,.eq (.func (.func 75) #[] #[(Pv c_a1_0)])] [.obj c_a1_0 80 (.eq (.func (.func 57) #[] #[]))] (λ_:Unit=>(bO [.eq (.int .u8 r)],[.obj c_a1_0 80 (.eq (.func (.func 57) #[] #[]))])):=by
 unfold jg at h
 replace h:=bz h
 refine dA.of 33 Tryz.func74 rfl Tryz.ntmps74 rfl λS w0=>?_
 refine sr ?_
 refine cq ?_
 refine nt ?_
 refine ai ?_
 refine sr ?_
 refine mq ?_
 refine ol ql ?_
 refine jb (bS rfl) ?_
 refine nt ?_
 refine ci h (λh=>?_) (λh=>?_)
 .
  cases h
 .
  refine sk (sr (mq ?_));obtain⟨x1,u,h⟩:=aa h;refine jb (bA (t:=(.int .u8)) rfl ql jd u) ?_;refine ja (aA (t:=(.int .u8)) rfl jd rfl) ?_;refine aq (nt ?_);refine aR (Z:=Unit) (α:=Int) (λz3 x2=>[(5,.eq (.int .u8 x2))]) (λz3 x2=>[.obj c_a1_0 80 (.eq (.func (.func 57) #[] #[]))]) h (λK h=>?_) (λz3 x2 h=>?_)
  .refine sr (cq (nt (ak ?_)));refine aW (λz5 y4=>[(0,.rep (.slice (.int .u8)) a0),(1,.eq (.func (.func 75) #[] #[(Pv c_a1_0)])),(5,.eq (.int .u8 y4.1)),(6,I y4.2)]) (λz5 y4=>[.obj c_a1_0 80 (.eq (.func (.func 57) #[] #[]))]) (eF k a0) k () (x1,1) (λ_=>rfl) h (SE.fin [0] ⟨rfl,rfl,rfl,rfl,trivial⟩ rfl) (λn z5 y4 h=>?_);unfold eF at h;refine ai (sr ?_);iterate 2 refine mq ?_
   refine ol ql ?_;refine jb (bS rfl) ?_;refine nt (ci h (λh=>?_) (λh=>?_))
   .refine sk (aR (Z:=Unit) (α:=Int) (λz7 x6=>[(0,.rep (.slice (.int .u8)) a0),(1,.eq (.func (.func 75) #[] #[(Pv c_a1_0)])),(5,.eq (.int .u8 x6)),(6,I y4.2)]) (λz7 x6=>[.obj c_a1_0 80 (.eq (.func (.func 57) #[] #[]))]) h (λK h=>?_) (λz7 x6 h=>?_))
    .refine ak (sr ?_);iterate 3 refine mq ?_
     obtain⟨x8,s,h⟩:=aa h;refine jb (bA (t:=(.int .u8)) rfl ql jd s) ?_;refine ja (aA (t:=(.int .u8)) rfl jd rfl) ?_;refine mq ?_;obtain⟨r9,x,h⟩:=aa h;refine kc (lQ (fs:=[]) (cs:=[(Pv c_a1_0)]) (ags:=[.eq (.int .u8 x8),.eq (.int .u8 y4.1)]) [.tmp 24,.tmp 25] rfl rfl LS rfl (rN k x8 y4.1 c_a1_0 r9 x)) ?_;refine jb (bS rfl) ?_;refine nt (ci h (λh=>?_) (λh=>?_))
     .refine ae ?_;iterate 2 refine mq ?_
      obtain⟨l,e,h⟩:=aa h;refine jb (bA (t:=(.int .u8)) rfl ql jd e) ?_;refine ja (aA (t:=(.int .u8)) rfl jd rfl) ?_;refine aq (aJ (bn ?_));exact jz ((),l) h [0]
     .refine bi (bn ?_);exact jz ((),y4.1) h [0]
    .refine ae (mq ?_);obtain⟨j,c,h⟩:=aa h;refine jb (bK rfl c) ?_;refine aq (nl ?_);exact jz ((),(x6,j)) h [0]
   .refine xa ?_;exact jz ((),y4.1) h [0]
  .refine sr (mq ?_);refine aq (nt (aF ?_));cases h;exact aZ () [_] 1 ⟨rfl,trivial⟩ rfl
def ee(k:Nat)(a0:(List Int)):Nat->(Int×Int)->Option Int
 |0,_=>none
 |n+1,y4=>
  if y4.2 < (a0.length:Int) then((((bT a0 y4.2).bind λx8=>
  (kY k x8 y4.1).bind λr9=>
  if r9 < 0 then((bT a0 y4.2).bind λe=>
  some e) else(some y4.1)):Option (Int)).bind λx6=>
  (ck (y4.2+1)).bind λc=>
  ee k a0 n (x6,c)) else(some y4.1)
def ie(k:Nat)(a0:(List Int)):Option Int:=
 if(a0.length:Int) < 1 then(none) else((bT a0 0).bind λx1=>
 ((ee k a0 k (x1,1)):Option (Int)).bind λx2=>
 some x2)
theorem oa(k:Nat)(a0:(List Int))(c_a1_0:Nat)(r:Int)(h:ie k a0=some r):
 dA Tryz.prog 74 [.rep (.slice (.int .u8)) a0,.eq (.func (.func 75) #[] #[(Pv c_a1_0)])] [.obj c_a1_0 80 (.eq (.func (.func 40) #[] #[]))] (λ_:Unit=>(bO [.eq (.int .u8 r)],[.obj c_a1_0 80 (.eq (.func (.func 40) #[] #[]))])):=by
 unfold ie at h
 replace h:=bz h
 refine dA.of 33 Tryz.func74 rfl Tryz.ntmps74 rfl λS w0=>?_
 refine sr ?_
 refine cq ?_
 refine nt ?_
 refine ai ?_
 refine sr ?_
 refine mq ?_
 refine ol ql ?_
 refine jb (bS rfl) ?_
 refine nt ?_
 refine ci h (λh=>?_) (λh=>?_)
 .
  cases h
 .
  refine sk (sr (mq ?_));obtain⟨x1,u,h⟩:=aa h;refine jb (bA (t:=(.int .u8)) rfl ql jd u) ?_;refine ja (aA (t:=(.int .u8)) rfl jd rfl) ?_;refine aq (nt ?_);refine aR (Z:=Unit) (α:=Int) (λz3 x2=>[(5,.eq (.int .u8 x2))]) (λz3 x2=>[.obj c_a1_0 80 (.eq (.func (.func 40) #[] #[]))]) h (λK h=>?_) (λz3 x2 h=>?_)
  .refine sr (cq (nt (ak ?_)));refine aW (λz5 y4=>[(0,.rep (.slice (.int .u8)) a0),(1,.eq (.func (.func 75) #[] #[(Pv c_a1_0)])),(5,.eq (.int .u8 y4.1)),(6,I y4.2)]) (λz5 y4=>[.obj c_a1_0 80 (.eq (.func (.func 40) #[] #[]))]) (ee k a0) k () (x1,1) (λ_=>rfl) h (SE.fin [0] ⟨rfl,rfl,rfl,rfl,trivial⟩ rfl) (λn z5 y4 h=>?_);unfold ee at h;refine ai (sr ?_);iterate 2 refine mq ?_
   refine ol ql ?_;refine jb (bS rfl) ?_;refine nt (ci h (λh=>?_) (λh=>?_))
   .refine sk (aR (Z:=Unit) (α:=Int) (λz7 x6=>[(0,.rep (.slice (.int .u8)) a0),(1,.eq (.func (.func 75) #[] #[(Pv c_a1_0)])),(5,.eq (.int .u8 x6)),(6,I y4.2)]) (λz7 x6=>[.obj c_a1_0 80 (.eq (.func (.func 40) #[] #[]))]) h (λK h=>?_) (λz7 x6 h=>?_))
    .refine ak (sr ?_);iterate 3 refine mq ?_
     obtain⟨x8,s,h⟩:=aa h;refine jb (bA (t:=(.int .u8)) rfl ql jd s) ?_;refine ja (aA (t:=(.int .u8)) rfl jd rfl) ?_;refine mq ?_;obtain⟨r9,x,h⟩:=aa h;refine kc (lQ (fs:=[]) (cs:=[(Pv c_a1_0)]) (ags:=[.eq (.int .u8 x8),.eq (.int .u8 y4.1)]) [.tmp 24,.tmp 25] rfl rfl LS rfl (qR k x8 y4.1 c_a1_0 r9 x)) ?_;refine jb (bS rfl) ?_;refine nt (ci h (λh=>?_) (λh=>?_))
     .refine ae ?_;iterate 2 refine mq ?_
      obtain⟨l,e,h⟩:=aa h;refine jb (bA (t:=(.int .u8)) rfl ql jd e) ?_;refine ja (aA (t:=(.int .u8)) rfl jd rfl) ?_;refine aq (aJ (bn ?_));exact jz ((),l) h [0]
     .refine bi (bn ?_);exact jz ((),y4.1) h [0]
    .refine ae (mq ?_);obtain⟨j,c,h⟩:=aa h;refine jb (bK rfl c) ?_;refine aq (nl ?_);exact jz ((),(x6,j)) h [0]
   .refine xa ?_;exact jz ((),y4.1) h [0]
  .refine sr (mq ?_);refine aq (nt (aF ?_));cases h;exact aZ () [_] 1 ⟨rfl,trivial⟩ rfl
def oY(k:Nat)(a0:(List Int)):Option Int:=
 (jg k a0).bind λr2=>
 some r2
theorem t8(k:Nat)(a0:(List Int))(r:Int)(h:oY k a0=some r):
 dA Tryz.prog 39 [.rep (.slice (.int .u8)) a0,.eq (.func (.func 57) #[] #[])] [] (λ_:Unit=>(bO [.eq (.int .u8 r)],[])):=by
 unfold oY at h
 replace h:=bz h
 refine dA.of 8 Tryz.func39 rfl Tryz.ntmps39 rfl λS w0=>?_
 refine sr ?_
 refine bx λb1=>?_
 refine cq ?_
 refine nt ?_
 refine sr ?_
 refine mq ?_
 refine ja (lO [] [.tmp 3] [] [(Pv b1)] rfl rfl rfl) ?_
 obtain⟨r2,c,h⟩:=aa h
 have e:=oL k a0 b1 r2 c
 refine kb (ap [.tmp 5,.tmp 6] rfl rfl LU rfl e) ?_
 refine aq ?_
 refine nt ?_
 refine aF ?_
 cases h
 exact ra
def nc(k:Nat)(a0:(List Int)):Option Int:=
 (ie k a0).bind λr2=>
 some r2
theorem sQ(k:Nat)(a0:(List Int))(r:Int)(h:nc k a0=some r):
 dA Tryz.prog 39 [.rep (.slice (.int .u8)) a0,.eq (.func (.func 40) #[] #[])] [] (λ_:Unit=>(bO [.eq (.int .u8 r)],[])):=by
 unfold nc at h
 replace h:=bz h
 refine dA.of 8 Tryz.func39 rfl Tryz.ntmps39 rfl λS w0=>?_
 refine sr ?_
 refine bx λb1=>?_
 refine cq ?_
 refine nt ?_
 refine sr ?_
 refine mq ?_
 refine ja (lO [] [.tmp 3] [] [(Pv b1)] rfl rfl rfl) ?_
 obtain⟨r2,c,h⟩:=aa h
 have e:=oa k a0 b1 r2 c
 refine kb (ap [.tmp 5,.tmp 6] rfl rfl LU rfl e) ?_
 refine aq ?_
 refine nt ?_
 refine aF ?_
 cases h
 exact ra
def mY(k:Nat)(a0:Int)(a1:Int):Option Int:=
 if a0=a1 then((ck (0+1)).bind λx1=>
 (ck (x1+1)).bind λx2=>
 if x2=0 then(some 2) else(if x2=1 then(some 3) else(some 1))) else(if 0 < a0 then((ck (0+1)).bind λx3=>
 if x3=0 then(some 2) else(if x3=1 then(some 3) else(some 1))) else(if 0=0 then(some 2) else(if 0=1 then(some 3) else(some 1))))
theorem sO(k:Nat)(a0:Int)(a1:Int)(r:Int)(h:mY k a0 a1=some r):
 dA Tryz.prog 41 [I a0,I a1] [] (λ_:Unit=>(bO [I r],[])):=by
 unfold mY at h
 replace h:=bz h
 refine dA.of 22 Tryz.func41 rfl Tryz.ntmps41 rfl λS w0=>?_
 refine sr ?_
 refine cq ?_
 refine nt ?_
 refine sr ?_
 refine cq ?_
 refine nt ?_
 refine ai ?_
 refine ak ?_
 refine ai ?_
 refine ak ?_
 refine ai ?_
 refine ak ?_
 refine ai ?_
 refine ai ?_
 refine sr ?_
 iterate 2 refine mq ?_
 refine jb (dE rfl) ?_
 refine aq ?_
 refine nt ?_
 refine ci h (λh=>?_) (λh=>?_)
 .
  refine d5 (bM (bM (cz (tn (ae (mq ?_))))));obtain⟨x1,j,h⟩:=aa h;refine jb (bK rfl j) ?_;refine aq (aJ (aV (tn (sr ?_))));refine mq ?_;obtain⟨x2,e,h⟩:=aa h;refine jb (bK rfl e) ?_;refine aq (nt (d5 (cz (tn (ai (sr ?_))))));refine mq (nt (ak (sr ?_)));refine jb (dE rfl) ?_;refine aq (nt ?_);refine ci h (λh=>?_) (λh=>?_)
  .refine sr (cq (nt (aF (bo (bs ?_)))));cases h;exact ra
  .refine sr (jb (dE rfl) ?_);refine aq (nt ?_);refine ci h (λh=>?_) (λh=>?_)
   .refine sr (cq (nt (aF (bo (bs ?_)))));cases h;exact ra
   .refine bi (aV (tn (sr (cq (nt (aF ?_))))));cases h;exact ra
 .
  refine sk (sr (mq ?_));refine jb (lA rfl) ?_;refine aq (nt ?_);refine ci h (λh=>?_) (λh=>?_)
  .refine d5 (bM (nz (eq_false (by decide)) ?_));refine bM (cz (tn (sr (mq ?_))));obtain⟨x3,c,h⟩:=aa h;refine jb (bK rfl c) ?_;refine aq (nt (d5 (cz (tn (ai (sr ?_))))));refine mq (nt (ak (sr ?_)));refine jb (dE rfl) ?_;refine aq (nt ?_);refine ci h (λh=>?_) (λh=>?_)
   .refine sr (cq (nt (aF (bo (bs ?_)))));cases h;exact ra
   .refine sr (jb (dE rfl) ?_);refine aq (nt ?_);refine ci h (λh=>?_) (λh=>?_)
    .refine sr (cq (nt (aF (bo (bs ?_)))));cases h;exact ra
    .refine bi (aV (tn (sr (cq (nt (aF ?_))))));cases h;exact ra
  .refine sk (d5 (nz (eq_false (by decide)) ?_));refine bM (nz (eq_false (by decide)) ?_);refine bM (cz (tn (ai (sr (mq (nt (ak (sr ?_))))))));refine jb (dE rfl) ?_;refine aq (nt ?_);refine ci h (λh=>?_) (λh=>?_)
   .refine sr (cq (nt (aF (bo (bs ?_)))));cases h;exact ra
   .refine sr (jb (dE rfl) ?_);refine aq (nt ?_);refine ci h (λh=>?_) (λh=>?_)
    .refine sr (cq (nt (aF (bo (bs ?_)))));cases h;exact ra
    .refine bi (aV (tn (sr (cq (nt (aF ?_))))));cases h;exact ra
def eN{σ:Type}(k:Nat)(a0:(List Int))(a3:Int)(self:(List Int)->Int->σ->Option (Bool×σ)):Nat->(Int×σ)->Option (Except (Bool×σ) (σ))
 |0,_=>none
 |n+1,y6=>
  if y6.1 < a3 then((d3 (dR (length a0+length [y6.1]))).bind λ_=>
  (ck (y6.1+1)).bind λh=>
  (self (a0++[y6.1]) h y6.2).bind λc=>
  if¬(c.1=true) then(some (.error (false,c.2))) else((ck (y6.1+1)).bind λe=>
  eN k a0 a3 self n (e,c.2))) else(some (.ok y6.2))
def eZ{σ:Type}(k:Nat)(Y:σ->(List Int)->Option (σ×Bool))(a3:Int):Nat->(List Int)->Int->σ->Option (Bool×σ)
 |0,_,_,_=>none
 |m0+1,a0,a1,s0=>
  (iC k a0).bind λr1=>
  (Y s0 r1).bind λr2=>
  if¬(r2.2=true) then(some (false,r2.1)) else(bE (α:=σ) (eN k a0 a3 (eZ k Y a3 m0) k (a1,r2.1)) (some) λx4=>
  some (true,x4))
theorem oW{M:Md Tryz.prog}{σ Z:Type}(E:Z->σ->List D)(l:Nat)(Y:σ->(List Int)->Option (σ×Bool))(k:Nat)(u:Nat)(a3:Int)(j:Nat)(c:Nat)(hY:∀z s p r,Y s p=some r->YT M l [.rep Tl p] (E z s) (λz':Z=>(.eq (.bool r.2),E z' r.1))):
 ∀(n:Nat) (a0:(List Int)) (x:Value) (a1:Int) (z0:Z) (s0:σ) (r:Bool×σ),eZ k Y a3 n a0 a1 s0=some r->bG M 78 [.eq x,I a1,Pt u,Pt j,Pt c] ([.sl x 3 Ti a0,.obj u 129 (.eq (.func (.yield l) #[] #[])),.obj j 3 (I a3),.obj c 130 (.eq (.func (.func 78) #[] #[(Pv u),(Pv j),(Pv c)]))]++E z0 s0) (λz:Z=>(bO [.eq (.bool r.1)],[.sl x 3 Ti a0,.obj u 129 (.eq (.func (.yield l) #[] #[])),.obj j 3 (I a3),.obj c 130 (.eq (.func (.func 78) #[] #[(Pv u),(Pv j),(Pv c)]))]++E z r.2)):=by
 intro n
 induction n with
 |zero=>intro a0 x a1 z0 s0 r h;cases h
 |succ m0 ih=>
  intro a0 x a1 z0 s0 r h;rw [eZ] at h;replace h:=bz h;refine bG.of 29 Tryz.func78 rfl Tryz.ntmps78 rfl λS w0=>?_;refine sr (cq (nt (ai (ai ?_))));refine dn ?_;refine ea 1 (aL rfl K0 rM rfl) ?_;refine dm ?_;obtain⟨r1,Pg,h⟩:=aa h;refine tH 0 rfl rfl rfl rfl (EX (iv (N:=[(.tmp 10,.eq x)]) (ap [.tmp 10] rfl rfl L2 rfl (lx k a0 r1 Pg)) (λ_ _ _ hv hn=>⟨(lend hn.1 hv),trivial⟩) (λ_=>⟨rfl,Ej (by simp [D.flat,A.flat,Ty.flat])⟩))) ⟨rfl,trivial⟩ ?_;refine df fa ?_;obtain⟨r2,Pe,h⟩:=aa h;refine fr 3 ?_;refine fr 3 ?_;refine fr 3 ?_;refine fr 3 ?_;refine tz [.sl x 3 Ti a0,.obj u 129 (.eq (.func (.yield l) #[] #[])),.obj j 3 (I a3),.obj c 130 (.eq (.func (.func 78) #[] #[(Pv u),(Pv j),(Pv c)]))] rfl rfl rfl (zy [.tmp 11] rfl rfl rfl (hY z0 s0 r1 r2 Pe)) ⟨rfl,rfl,trivial⟩ λz3=>?_;refine ja (ec rfl) ?_;refine nt (cw h (λh=>?_) (λh=>?_))
  .refine sr (cq (nt (rx ?_)));cases h;exact kW z3 [_] ⟨rfl,trivial⟩ rfl
  .refine sk (dK (Z:=Z) (α:=σ) (λz5 x4=>[]) (λz5 x4=>[.sl x 3 Ti a0,.obj u 129 (.eq (.func (.yield l) #[] #[])),.obj j 3 (I a3),.obj c 130 (.eq (.func (.func 78) #[] #[(Pv u),(Pv j),(Pv c)]))]++E z5 x4) (λe=>e=r) h (λe h=>Option.some.inj h) (λK hR h=>?_) (λz5 x4 h=>?_))
   .refine sr (mq ?_);refine aq (nt (ak ?_));refine aW (Z:=Z) (α:=Int×σ) (λz7 y6=>[(0,.eq x),(3,Pt j),(4,Pt c),(8,I y6.1)]) (λz7 y6=>[.sl x 3 Ti a0,.obj j 3 (I a3),.obj c 130 (.eq (.func (.func 78) #[] #[(Pv u),(Pv j),(Pv c)])),.obj u 129 (.eq (.func (.yield l) #[] #[]))]++E z7 y6.2) (eN k a0 a3 (eZ k Y a3 m0)) k z3 (a1,r2.1) (λ_=>rfl) h (iJ [.sl x 3 Ti a0,.obj u 129 (.eq (.func (.yield l) #[] #[])),.obj j 3 (I a3),.obj c 130 (.eq (.func (.func 78) #[] #[(Pv u),(Pv j),(Pv c)]))] (E z3 r2.1) [0,2,3,1] ⟨rfl,rfl,rfl,rfl,trivial⟩ rfl) (λn z7 y6 h=>?_);unfold eN at h;refine ai (sr (mq ?_));refine fr 1 ?_;refine lo cL ?_;refine jb (bS rfl) ?_;refine nt (ci h (λh=>?_) (λh=>?_))
    .refine sk (ai (ak (ai (nA ?_))));refine fS 2 rfl rfl rfl rfl (aL rfl CM rM rfl) ⟨rfl,trivial⟩ ?_;refine co rfl rfl rfl (bW rfl) ⟨rfl,trivial⟩ ?_;refine co rfl rfl rfl (bW rfl) ⟨rfl,trivial⟩ ?_;refine co rfl rfl rfl (aQ (t:=Ti) [(.tmp 22,_)] [y6.1] rfl rfl cD (.cons rfl .int .nil) rfl rfl) ⟨rfl,trivial⟩ ?_;obtain⟨u8,O9,h⟩:=aa h;refine Fg 1 rfl (λv=>[.sl v 3 Ti (a0++[y6.1]),.sl (zr x v (length a0)) 3 Ti (zt x v a0)]) (λ_=>rfl) rfl rfl rfl (vt rfl rfl cD (ax O9) rfl) ⟨rfl,rfl,trivial⟩ ?_;refine co rfl rfl rfl (bW rfl) ⟨rfl,trivial⟩ ?_;obtain⟨J,Q,h⟩:=aa h;refine co rfl rfl rfl (bK rfl Q) ⟨rfl,rfl,trivial⟩ ?_;refine H5 (pre:=[.obj j 3 (I a3),.sl x 3 Ti a0,.obj c 130 (.eq (.func (.func 78) #[] #[(Pv u),(Pv j),(Pv c)])),.obj u 129 (.eq (.func (.yield l) #[] #[]))]) (E:=E z7 y6.2) 7 [true,true,true,true,true,true,true] [27,28] [] [] rfl (by kernel_rfl) (by kernel_rfl) (by kernel_rfl) fa (by kernel_rfl) (λvs hv hB=>?_);obtain⟨w0,Px,rfl,zM⟩:=aM hv;obtain⟨w1,Po,rfl,zz⟩:=aM zM;obtain⟨w2,Pn,rfl,qt⟩:=aM zz;obtain⟨w3,Pm,rfl,pq⟩:=aM qt;obtain⟨v9,Pl,rfl,mw⟩:=aM pq;obtain⟨w5,Pj,rfl,mc⟩:=aM mw;obtain⟨w6,Pi,rfl,gw⟩:=aM mc;obtain rfl:=pV gw;refine⟨[0,1,2,3,4],[.obj j 3 (I a3),.obj c 130 (.eq (.func (.func 78) #[] #[(Pv u),(Pv j),(Pv c)])),.obj u 129 (.eq (.func (.yield l) #[] #[])),.sl v9 3 Ti (a0++[y6.1]),.sl (zr x v9 (length a0)) 3 Ti (zt x v9 a0)],by kernel_rfl,by decide,?_⟩;refine HU (Δ':=[.obj j 3 (I a3),.obj c 130 (.eq (.func (.func 78) #[] #[(Pv u),(Pv j),(Pv c)])),.obj u 129 (.eq (.func (.yield l) #[] #[])),.sl v9 3 Ti (a0++[y6.1]),.sl (zr x v9 (length a0)) 3 Ti (zt x v9 a0)]++E z7 y6.2) (by kernel_rfl) rfl ?_;obtain⟨F,U,h⟩:=aa h;refine fr 1 ?_;refine fr 1 ?_;refine fr 2 ?_;refine fr 3 ?_;refine fr 4 ?_;refine tz [.sl (zr x v9 (length a0)) 3 Ti (zt x v9 a0)] rfl rfl rfl (lC (fs:=[]) (cs:=[(Pv u),(Pv j),(Pv c)]) (ags:=[.eq v9,I J]) [.tmp 24,.tmp 26] rfl rfl LQ rfl (ih (a0++[y6.1]) v9 J z7 y6.2 F U)) ⟨rfl,rfl,rfl,trivial⟩ λy=>?_;refine fr 1 ?_;refine d4 zd ?_;refine ja (ec rfl) ?_;refine nt (cw h (λh=>?_) (λh=>?_))
     .refine sr (cq (nt (aF (br (bo (bs ?_))))));obtain rfl:=hR _ h;exact kW y [_] ⟨rfl,trivial⟩ rfl
     .refine bi (aV (tn (ae (mq ?_))));obtain⟨X,O,h⟩:=aa h;refine jb (bK rfl O) ?_;refine aq (nl ?_);exact vW (y,(X,F.2)) h (iJ [.sl x 3 Ti a0,.obj u 129 (.eq (.func (.yield l) #[] #[])),.obj j 3 (I a3),.obj c 130 (.eq (.func (.func 78) #[] #[(Pv u),(Pv j),(Pv c)]))] (E y F.2) [0,2,3,1] ⟨rfl,rfl,rfl,rfl,trivial⟩ rfl)
    .refine xa ?_;exact vW (z7,y6.2) h (iJ [.obj j 3 (I a3),.sl x 3 Ti a0,.obj c 130 (.eq (.func (.func 78) #[] #[(Pv u),(Pv j),(Pv c)])),.obj u 129 (.eq (.func (.yield l) #[] #[]))] (E z7 y6.2) [1,3,0,2] trivial rfl)
   .refine sr (cq (nt (aF ?_)));cases h;exact kW z5 [_] ⟨rfl,trivial⟩ rfl
def kX{σ:Type}(k:Nat)(Y:σ->(List Int)->Option (σ×Bool))(a1:Int)(s0:σ):Option (σ):=
 (eZ k Y a1 k ([]:(List Int)) 0 s0).bind λr3=>
 some r3.2
theorem qQ{M:Md Tryz.prog}{σ Z:Type}(E:Z->σ->List D)(l:Nat)(Y:σ->(List Int)->Option (σ×Bool))(k:Nat)(a1:Int)(c:Nat)(hY:∀z s p r,Y s p=some r->YT M l [.rep Tl p] (E z s) (λz':Z=>(.eq (.bool r.2),E z' r.1))):
 ∀(z0:Z) (s0:σ) (r:σ),kX k Y a1 s0=some r->bG M 77 [.eq (.func (.yield l) #[] #[]),Pt c] ([.obj c 3 (I a1)]++E z0 s0) (λz:Z=>(bO [],[.obj c 3 (I a1)]++E z r)):=by
 intro z0 s0 r h
 unfold kX at h
 replace h:=bz h
 refine bG.of 7 Tryz.func77 rfl Tryz.ntmps77 rfl λS w0=>?_
 refine sr ?_
 refine bx λb1=>?_
 refine nt ?_
 refine sr ?_
 refine aS rfl rfl rfl (aY rfl KO MM) trivial λb2=>?_
 refine nt ?_
 refine sr ?_
 refine jc (lO [] [.tmp 2,.tmp 1,.tmp 3] [] [(Pv b1),(Pv c),(Pv b2)] rfl rfl rfl) ?_
 refine aK rfl rfl (aD rfl CM rfl rfl rfl) ⟨rfl,rfl,trivial⟩ ?_
 refine nt ?_
 refine ae ?_
 refine lo CM ?_
 refine d4 (SE.nil 3 Ti) ?_
 obtain⟨r3,e,h⟩:=aa h
 have j:=oW E l Y k b1 a1 c b2 hY k ([]:(List Int)) (.slice none 0 0) 0 z0 s0 r3 e
 refine fr 1 ?_
 refine fr 3 ?_
 refine fr 3 ?_
 refine fr 3 ?_
 refine tA rfl rfl rfl (lC (fs:=[]) (cs:=[(Pv b1),(Pv c),(Pv b2)]) (ags:=[.eq (.slice none 0 0),I 0]) [.const (.slice none 0 0),.const (.int .i64 (0))] rfl rfl LQ rfl j) ⟨rfl,rfl,rfl,trivial⟩ λz4=>?_
 refine aJ ?_
 refine hP ?_
 refine bL (iJ (Γ':=[]) [.sl (.slice none 0 0) 3 Ti ([]:(List Int)),.obj b1 129 (.eq (.func (.yield l) #[] #[])),.obj c 3 (I a1),.obj b2 130 (.eq (.func (.func 78) #[] #[(Pv b1),(Pv c),(Pv b2)]))] (E z4 r3.2) [2] trivial rfl) ?_
 cases h
 exact kW z4 [] trivial rfl
theorem sP(a0:Int):dA Tryz.prog 48 [I a0] [] (λz:Nat=>(bO [.eq (.func (.func 77) #[] #[(Pv z)])],[.obj z 3 (I a0)])):=by
 refine dA.of 4 Tryz.func48 rfl Tryz.ntmps48 rfl λS w0=>?_;refine sr (bx λz=>?_);refine cq (nt (sr ?_));refine ja (lO [] [.tmp 1] [] [(Pv z)] rfl rfl rfl) ?_;refine aq (nt (aF ?_));exact aZ z [_] 1 ⟨rfl,trivial⟩ rfl
