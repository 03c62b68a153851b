import Derived.Test.YtlhalkpppmnnmaaGreatVOB11
open Nat
open List hiding mem_of_getElem?
open Array hiding mem_of_getElem? mk
set_option linter.unusedSimpArgs false
set_option linter.unusedVariables false
set_option maxRecDepth 4000
set_option maxHeartbeats 1000000
namespace Go.Proofs.YtlhalkpppmnnmaaGreat
open K Go Go.Proofs
def kN(k:Nat)(a0:am)(a1:(List Int)):Nat->(Int×Int)->Option (Except ((Option am)×Int×Int) Int)
 |0,_=>none
 |n+1,y5=>
  if y5.2 < (a1.length:Int) then((bT a1 y5.2).bind λx7=>
  (ck (a0.1 - 1)).bind λx8=>
  (dF k x7 0 x8).bind λr9=>
  if¬(r9=true) then(some (.error (none,0,3))) else(((if 0 < y5.2 then((ck (y5.2 - 1)).bind λh=>
  (bT a1 h).bind λe=>
  some (decide (x7≤e))) else(some false)):Option (Bool)).bind λj=>
  if j=true then(some (.error (none,0,5))) else((eJ k y5.1 x7).bind λl=>
  (ck (y5.2+1)).bind λc=>
  kN k a0 a1 n (l,c)))) else(some (.ok y5.1))
def kL(k:Nat)(a0:am)(h:Int)(e:(List Int)):Nat->Int->Option (Except ((Option am)×Int×Int) Unit)
 |0,_=>none
 |n+1,c=>
  if c < (e.length:Int) then((bT e c).bind λu=>
  (ck (a0.1 - 1)).bind λs=>
  (ck ((a0.2.2.2.2.1.length:Int) - 1)).bind λr=>
  (bT [s,r,(a0.2.2.2.2.1.length:Int)] h).bind λl=>
  (dF k u 0 l).bind λx=>
  if¬(x=true) then(some (.error (none,0,3))) else((ck (c+1)).bind λj=>
  kL k a0 h e n j)) else(some (.ok ()))
def kM(k:Nat)(a0:am)(a2:(List Int))(a3:(List Int))(a4:(List Int)):Nat->Int->Option (Except ((Option am)×Int×Int) Unit)
 |0,_=>none
 |n+1,c=>
  if c < ([a2,a3,a4].length:Int) then(bE (α:=Unit) ((bT [a2,a3,a4] c).bind λj=>
  kL k a0 c j k 0) (λe=>some (.error e)) λ_=>
  (ck (c+1)).bind λh=>
  kM k a0 a2 a3 a4 n h) else(some (.ok ()))
def iQ(k:Nat)(a0:am)(a1:(List Int))(a2:(List Int))(a3:(List Int))(a4:(List Int)):Option ((Option am)×Int×Int):=
 (fK k a0).bind λr2=>
 if¬(r2=0) then(some (none,0,r2)) else(bE (α:=Int) (kN k a0 a1 k (0,0)) (some) λx3=>
 bE (α:=Unit) (kM k a0 a2 a3 a4 k 0) (some) λ_=>
 (jw k a0).bind λe=>
 eQ e (none) (λc=>(gR k c).bind λh=>
 some (some c,x3,0)))
theorem gr(k:Nat)(a0:am)(a1:(List Int))(a2:(List Int))(a3:(List Int))(a4:(List Int))(r:(Option am)×Int×Int)(h:iQ k a0 a1 a2 a3 a4=some r):
 bG (cS Tryz.prog) 33 [.rep an a0,.rep Tl a1,.rep Tl a2,.rep Tl a3,.rep Tl a4] [] (λz:Nat×Nat=>(bO [Gm r.1 z.1,.eq (.int .u8 r.2.1),I r.2.2],Gk r.1 λq=>po q z.1 z.2 k)):=by
 unfold iQ at h
 replace h:=bz h
 refine bG.of 95 Tryz.func33 rfl Tryz.ntmps33 rfl λS w0=>?_
 refine sr ?_
 refine bx λb1=>?_
 refine cq ?_
 refine cq ?_
 refine cq ?_
 refine nt ?_
 refine ai ?_
 refine sr ?_
 refine lo c6 ?_
 obtain⟨r2,PL,h⟩:=aa h
 have PM:=eO k a0 r2 PL
 refine ja (ap [.tmp 22] rfl rfl JI rfl PM) ?_
 refine aq ?_
 refine nt ?_
 refine sr ?_
 refine mq ?_
 refine jb (bV rfl) ?_
 refine nt ?_
 refine cn h (λh=>?_) (λh=>?_)
 .
  refine sr (mq ?_);refine cq ?_;refine cq ?_;refine aq (nt (rx ?_));cases h;exact aZ (0,0) [.eq (.pointer none),_,_] 0 ⟨rfl,rfl,rfl,trivial⟩ rfl
 .
  refine sk (sr (cq (nt ?_)));refine dK (Z:=Unit) (α:=Int) (λz4 x3=>[(2,.rep Tl a2),(3,.rep Tl a3),(4,.rep Tl a4),(5,Pt b1),(14,.eq (.int .u8 x3))]) (λz4 x3=>[.obj b1 25 (.rep an a0)]) (λe=>e=r) h (λe h=>Option.some.inj h) (λK hR h=>?_) (λz4 x3 h=>?_)
  .refine sr (mq ?_);refine ol jp ?_;refine dx rfl ?_;refine nt (ak (aW (λz6 y5=>[(1,.rep Tl a1),(2,.rep Tl a2),(3,.rep Tl a3),(4,.rep Tl a4),(5,Pt b1),(14,.eq (.int .u8 y5.1)),(27,.rep Tl a1),(28,I (a1.length:Int)),(29,I y5.2)]) (λz6 y5=>[.obj b1 25 (.rep an a0)]) (kN k a0 a1) k () (0,0) (λ_=>rfl) h (SE.fin [0] ⟨rfl,rfl,rfl,rfl,rfl,rfl,rfl,rfl,rfl,trivial⟩ rfl) (λn z6 y5 h=>?_)));unfold kN at h;refine sr (jb (bS rfl) ?_);refine nt (ai (ci h (λh=>?_) (λh=>?_)))
   .refine sk (ai (ak (sr (mq ?_))));obtain⟨x7,PI,h⟩:=aa h;refine jb (bA (t:=Ti) rfl jp cL PI) ?_;refine ja (aA (t:=Ti) rfl cL rfl) ?_;refine aq ?_;refine aq (nt (ai (sr ?_)));refine mq ?_;refine fl g7 ?_;refine lo cL ?_;obtain⟨x8,PH,h⟩:=aa h;refine jb (fy rfl PH) ?_;obtain⟨r9,PK,h⟩:=aa h;refine jc (ap [.tmp 34,.const (.int .i64 (0)),.tmp 37] rfl rfl vH rfl (de k x7 0 x8 r9 PK)) ?_;refine ja (ec rfl) ?_;refine nt (cw h (λh=>?_) (λh=>?_))
    .refine sr (cq ?_);refine cq ?_;refine cq (nt (rx (br (bo (bs ?_)))));obtain rfl:=hR _ h;exact aZ (0,0) [.eq (.pointer none),_,_] 0 ⟨rfl,rfl,rfl,trivial⟩ rfl
    .refine sk (ai (aR (Z:=Unit) (α:=Bool) (λO y=>[(1,.rep Tl a1),(2,.rep Tl a2),(3,.rep Tl a3),(4,.rep Tl a4),(5,Pt b1),(14,.eq (.int .u8 y5.1)),(16,I x7),(27,.rep Tl a1),(28,I (a1.length:Int)),(29,I y5.2),(50,.eq (.bool y))]) (λO y=>[.obj b1 25 (.rep an a0)]) h (λK h=>?_) (λO y h=>?_)))
     .refine ae (mq ?_);refine jb (lA rfl) ?_;refine mq ?_;refine aP (s:=42) rfl (λhb=>?_) (λhb=>?_)
      .replace h:=cj (qf hb) h;refine gm ?_;refine gm ?_;refine gm ?_;obtain⟨PP,Pg,h⟩:=aa h;refine gb (fy rfl Pg) ?_;obtain⟨PC,Pe,h⟩:=aa h;refine gb (bA (t:=Ti) rfl jp cL Pe) ?_;refine ga (aA (t:=Ti) rfl cL rfl) ?_;refine gb (zB rfl) ?_;refine pt (nl ?_);exact jz ((),decide (x7≤PC)) h [0]
      .replace h:=bh (qg hb) h;iterate 7 refine gn ?_
       refine pf (nl ?_);exact jz ((),false) h [0]
     .refine cv h (λh=>?_) (λh=>?_)
      .refine sr (cq ?_);refine cq ?_;refine cq (nt (rx (br (bo (bs ?_)))));obtain rfl:=hR _ h;exact aZ (0,0) [.eq (.pointer none),_,_] 0 ⟨rfl,rfl,rfl,trivial⟩ rfl
      .refine sk (ae ?_);iterate 2 refine mq ?_
       obtain⟨Y,Pm,h⟩:=aa h;refine jb (ap [.tmp 51,.tmp 52] rfl rfl Eo rfl (eW k y5.1 x7 Y Pm)) ?_;refine aq (aJ (aV (tn (ae ?_))));obtain⟨Pz,O9,h⟩:=aa h;refine jb (bK rfl O9) ?_;refine mq (nl ?_);exact jz ((),(Y,Pz)) h [0]
   .refine xa ?_;exact jz ((),y5.1) h [0]
  .refine dK (Z:=Unit) (α:=Unit) (λM U=>[(5,Pt b1),(14,.eq (.int .u8 x3))]) (λM U=>[.obj b1 25 (.rep an a0)]) (λe=>e=r) h (λe h=>Option.some.inj h) (λK hR h=>?_) (λM U h=>?_)
   .refine sr ?_;iterate 3 refine mq ?_
    refine jc (aQ (t:=Tl) [(.tmp 55,_),(.tmp 56,_),(.tmp 57,_)] [a2,a3,a4] rfl rfl mC (.cons rfl .rep (.cons rfl .rep (.cons rfl .rep .nil))) rfl rfl) ?_;refine ol vT ?_;refine dx rfl ?_;refine nt (ak (aW (λJ c=>[(5,Pt b1),(14,.eq (.int .u8 x3)),(58,.rep (.slice Tl) [a2,a3,a4]),(59,I ([a2,a3,a4].length:Int)),(60,I c)]) (λJ c=>[.obj b1 25 (.rep an a0)]) (kM k a0 a2 a3 a4) k () 0 (λ_=>rfl) h (SE.fin [0] ⟨rfl,rfl,rfl,rfl,rfl,trivial⟩ rfl) (λn J c h=>?_)));unfold kM at h;refine sr (jb (bS rfl) ?_);refine nt (ai (ci h (λh=>?_) (λh=>?_)))
    .refine sk (dK (Z:=Unit) (α:=Unit) (λE Q=>[(5,Pt b1),(14,.eq (.int .u8 x3)),(58,.rep (.slice Tl) [a2,a3,a4]),(59,I ([a2,a3,a4].length:Int)),(60,I c)]) (λE Q=>[.obj b1 25 (.rep an a0)]) (λe=>e=r) h (λe h=>hR e h) (λK hR h=>?_) (λE Q h=>?_))
     .refine ak (sr (mq ?_));obtain⟨x,zM,h⟩:=aa h;refine jb (bA (t:=Tl) rfl vT je zM) ?_;refine ja (aA (t:=Tl) rfl je rfl) ?_;refine aq ?_;refine aq (nt (sr ?_));refine mq ?_;refine ol jp ?_;refine dx rfl ?_;refine nt (ak (aW (λD u=>[(5,Pt b1),(14,.eq (.int .u8 x3)),(17,I c),(58,.rep (.slice Tl) [a2,a3,a4]),(59,I ([a2,a3,a4].length:Int)),(60,I c),(65,.rep Tl x),(66,I (x.length:Int)),(67,I u)]) (λD u=>[.obj b1 25 (.rep an a0)]) (kL k a0 c x) k () 0 (λ_=>rfl) h (SE.fin [0] ⟨rfl,rfl,rfl,rfl,rfl,rfl,rfl,rfl,rfl,trivial⟩ rfl) (λn D u h=>?_)));unfold kL at h;refine sr (jb (bS rfl) ?_);refine nt (ai (ci h (λh=>?_) (λh=>?_)))
      .refine sk (ai (ak (sr ?_)));obtain⟨Py,zz,h⟩:=aa h;refine jb (bA (t:=Ti) rfl jp cL zz) ?_;refine ja (aA (t:=Ti) rfl cL rfl) ?_;refine aq (nt (sr ?_));refine mq ?_;refine fl g7 ?_;refine lo cL ?_;obtain⟨PO,qt,h⟩:=aa h;refine jb (fy rfl qt) ?_;refine fl fQ ?_;refine lo nZ ?_;refine ol Bo ?_;obtain⟨PN,pq,h⟩:=aa h;refine jb (fy rfl pq) ?_;refine fl fQ ?_;refine lo nZ ?_;refine ol Bo ?_;refine jc (AT rfl MO cL KN) ?_;refine mq ?_;obtain⟨Px,mw,h⟩:=aa h;refine jb (iM (t:=Ti) rfl MO cL rfl rfl (λ_=>rfl) mw) ?_;obtain⟨PE,Pl,h⟩:=aa h;refine jc (ap [.tmp 71,.const (.int .i64 (0)),.tmp 84] rfl rfl vH rfl (de k Py 0 Px PE Pl)) ?_;refine ja (ec rfl) ?_;refine nt (cw h (λh=>?_) (λh=>?_))
       .refine sr (cq ?_);refine cq ?_;refine cq (nt (aF (br (bo (br (bo (bs ?_)))))));obtain rfl:=hR _ h;exact aZ (0,0) [.eq (.pointer none),_,_] 0 ⟨rfl,rfl,rfl,trivial⟩ rfl
       .refine bi (aV (tn (ae ?_)));obtain⟨Po,mc,h⟩:=aa h;refine jb (bK rfl mc) ?_;refine mq (nl ?_);exact jz ((),Po) h [0]
      .refine d5 (bM (bM (cz (bn ?_))));exact jz ((),()) h [0]
     .refine ae ?_;obtain⟨Pn,gw,h⟩:=aa h;refine jb (bK rfl gw) ?_;refine mq (nl ?_);exact jz ((),Pn) h [0]
    .refine xa ?_;exact jz ((),()) h [0]
   .refine sr (lo c6 ?_);obtain⟨X,Pj,h⟩:=aa h;have j:=jk k a0 X Pj;rcases hr:X with _ |PG
    .rw [hr] at h j;replace h:=oe h;refine aC (Δ:=[]) (F:=_) (λ_ _ _=>ab rfl _) rfl rfl (ap [.tmp 89] rfl rfl A5 rfl j) ⟨rfl,trivial⟩ λ_=>?_;cases h
    .rw [hr] at h j;replace h:=oc h;refine aC (Δ:=[]) (F:=_) (λ_ _ _=>ab rfl _) rfl rfl (ap [.tmp 89] rfl rfl A5 rfl j) ⟨rfl,trivial⟩ λl=>?_;refine aq (nt (sr ?_));refine mq ?_;obtain⟨PD,Pi,h⟩:=aa h;refine fr 1 ?_;refine fr 1 ?_;refine aC (Δ:=[_,_]) (F:=_) (λ_ _ _=>ab rfl _) rfl rfl (ay [.tmp 91] rfl rfl Oa rfl (oS k PG l.1 l.2 PD Pi)) ⟨rfl,trivial⟩ λ_=>?_;refine nt (sr ?_);iterate 2 refine mq ?_
     refine aq ?_;refine aq ?_;refine cq (nt (aF ?_));cases h;exact aZ (l.1,l.2) [.eq (.pointer (some ⟨l.1,0,none⟩)),_,_] 2 ⟨rfl,rfl,rfl,trivial⟩ rfl
def iH(k:Nat)(a0:am)(r5:(List (List Int)))(x9:Int):Nat->((List (List Int))×Int)->Option (List (List Int))
 |0,_=>none
 |n+1,c=>
  if c.2 < x9 then((bT r5 c.2).bind λj=>
  (d3 (0≤a0.1/\a0.1≤5)).bind λ_=>
  (iC k (List.take (Int.toNat a0.1) j)).bind λe=>
  (d3 (dR (length c.1+length [e]))).bind λ_=>
  (ck (c.2+1)).bind λh=>
  iH k a0 r5 x9 n (c.1++[e],h)) else(some c.1)
def kh(k:Nat)(a0:am)(a1:(List Int)):Option ((List (List Int))×Int):=
 (iQ k a0 a1 ([]:(List Int)) ([]:(List Int)) ([]:(List Int))).bind λr2=>
 eQ r2.1 (if¬(r2.2.2=0) then(some (([]:(List (List Int))),r2.2.2)) else(none)) (λq3=>if¬(r2.2.2=0) then(some (([]:(List (List Int))),r2.2.2)) else((lg k q3 r2.2.1).bind λr5=>
 (((ck ((a0.2.2.2.2.1.length:Int)+1)).bind λx9=>
 iH k a0 r5 x9 k (([]:(List (List Int))),0)):Option ((List (List Int)))).bind λx7=>
 some (x7,0)))
theorem kZ(k:Nat)(a0:am)(a1:(List Int))(r:(List (List Int))×Int)(h:kh k a0 a1=some r):
 bG (cS Tryz.prog) 9 [.rep an a0,.rep Tl a1] [] (λ_:Unit=>(bO [.rep (.slice Tl) r.1,I r.2],[])):=by
 unfold kh at h
 replace h:=bz h
 refine bG.of 43 Tryz.func9 rfl Tryz.ntmps9 rfl λS w0=>?_
 refine sr ?_
 refine bx λb1=>?_
 refine cq ?_
 refine cq ?_
 refine nt ?_
 refine sr ?_
 refine lo c6 ?_
 refine mq ?_
 obtain⟨r2,X,h⟩:=aa h
 have j:=gr k a0 a1 ([]:(List Int)) ([]:(List Int)) ([]:(List Int)) r2 X
 rcases hr:r2.1 with _ |q3
 .
  rw [hr] at h j;replace h:=oe h;refine aC (Δ:=[]) (F:=_) (λ_ _ _=>ab rfl _) rfl rfl (aE (N:=[(.tmp 13,.rep an a0),(.tmp 14,.rep Tl a1),(.const (.slice none 0 0),.eq (.slice none 0 0)),(.const (.slice none 0 0),.eq (.slice none 0 0)),(.const (.slice none 0 0),.eq (.slice none 0 0))]) (ay [.tmp 13,.tmp 14,.const (.slice none 0 0),.const (.slice none 0 0),.const (.slice none 0 0)] rfl rfl rR rfl j) λ_ _ _ hn=>⟨hn.1,hn.2.1,(aj (t:=Tl) (x:=([]:(List Int))) .nil rfl rfl hn.2.2.1),(aj (t:=Tl) (x:=([]:(List Int))) .nil rfl rfl hn.2.2.2.1),(aj (t:=Tl) (x:=([]:(List Int))) .nil rfl rfl hn.2.2.2.2.1),trivial⟩) ⟨rfl,rfl,rfl,rfl,rfl,trivial⟩ λ_=>?_;refine mq ?_;refine xr ?_;refine xr ?_;refine xr ?_;refine aq ?_;refine aq ?_;refine aq (nt (ai (sr ?_)));refine mq ?_;refine jb (bV rfl) ?_;refine nt (cn h (λh=>?_) (λh=>?_))
  .refine sr (mq ?_);refine cq ?_;refine aq (nt (rx ?_));refine bL (cU (t:=(.slice Tl)) (x:=([]:(List (List Int)))) 4 rfl .nil rfl rfl) ?_;cases h;exact rb
  .cases h
 .
  rw [hr] at h j;replace h:=oc h;refine aC (Δ:=[]) (F:=_) (λ_ _ _=>ab rfl _) rfl rfl (aE (N:=[(.tmp 13,.rep an a0),(.tmp 14,.rep Tl a1),(.const (.slice none 0 0),.eq (.slice none 0 0)),(.const (.slice none 0 0),.eq (.slice none 0 0)),(.const (.slice none 0 0),.eq (.slice none 0 0))]) (ay [.tmp 13,.tmp 14,.const (.slice none 0 0),.const (.slice none 0 0),.const (.slice none 0 0)] rfl rfl rR rfl j) λ_ _ _ hn=>⟨hn.1,hn.2.1,(aj (t:=Tl) (x:=([]:(List Int))) .nil rfl rfl hn.2.2.1),(aj (t:=Tl) (x:=([]:(List Int))) .nil rfl rfl hn.2.2.2.1),(aj (t:=Tl) (x:=([]:(List Int))) .nil rfl rfl hn.2.2.2.2.1),trivial⟩) ⟨rfl,rfl,rfl,rfl,rfl,trivial⟩ λz4=>?_;refine mq ?_;refine xr ?_;refine xr ?_;refine xr ?_;refine aq ?_;refine aq ?_;refine aq (nt (ai (sr ?_)));refine mq ?_;refine jb (bV rfl) ?_;refine nt (cn h (λh=>?_) (λh=>?_))
  .refine sr (mq ?_);refine cq ?_;refine aq (nt (rx ?_));refine bL (cU (t:=(.slice Tl)) (x:=([]:(List (List Int)))) 4 rfl .nil rfl rfl) ?_;cases h;exact rb
  .refine sk (sr (cq (nt (sr ?_))));iterate 2 refine mq ?_
   obtain⟨r5,U,h⟩:=aa h;refine fr 1 ?_;refine fr 1 ?_;refine aC (Δ:=[_,_]) (F:=_) (λ_ _ _=>ab rfl _) rfl rfl (ay [.tmp 22,.tmp 23] rfl rfl yW rfl (me k q3 z4.1 z4.2 r2.2.1 r5 U)) ⟨rfl,rfl,trivial⟩ λ_=>?_;refine aS rfl rfl rfl (aY rfl BL EJ) trivial λb6=>?_;refine aK rfl rfl (aD rfl CL rfl rfl rfl) ⟨rfl,rfl,trivial⟩ ?_;refine d4 (iu (t:=(.arr 7 Tr)) (x:=r5) [10] .rep ⟨rfl,trivial⟩) ?_;refine nt (aR (Z:=Value) (α:=(List (List Int))) (λz8 x7=>[(9,.eq z8)]) (λz8 x7=>[.sl z8 27 Tl x7,.inv z4.2 (bu k q3)]) h (λK h=>?_) (λz8 x7 h=>?_))
   .refine sr (fl fQ ?_);refine fr 2 ?_;refine lo nZ ?_;refine ol Bo ?_;obtain⟨x9,Q,h⟩:=aa h;refine jb (bK rfl Q) ?_;refine dx rfl ?_;refine nt (ak (i8 (SE.nil 27 Tl) ?_));refine aW (λe c=>[(2,Pt b1),(9,.eq e),(10,.at (.arr 7 Tr) r5),(28,I x9),(29,I c.2)]) (λe c=>[.obj b1 25 (.rep an a0),.sl e 27 Tl c.1,.inv z4.2 (bu k q3)]) (iH k a0 r5 x9) k (.slice none 0 0) (([]:(List (List Int))),0) (λ_=>rfl) h (SE.fin [1,0,3] ⟨rfl,rfl,rfl,rfl,rfl,trivial⟩ rfl) (λn e c h=>?_);unfold iH at h;refine sr (jb (bS rfl) ?_);refine nt (ai (ci h (λh=>?_) (λh=>?_)))
    .refine sk (ai (ak (sr (mq ?_))));refine aq (nt ?_);refine dn ?_;refine dm ?_;refine dm ?_;obtain⟨M,y,h⟩:=aa h;refine db (ce (t:=Tr) rfl EO gB y) ?_;refine da (bg rfl g7) ?_;refine ea 0 (aL rfl cL rM rfl) ?_;obtain⟨gw,l,h⟩:=aa h;refine db (tU (t:=Ti) rfl yd cL (ax l).1 (ax l).2) ?_;obtain⟨s,E,h⟩:=aa h;refine da (Ak (ap [.tmp 37] rfl rfl L2 rfl (lx k (List.take (Int.toNat a0.1) M) s E))) ?_;refine da (aQ (t:=Tl) [(.tmp 38,_)] [s] rfl rfl mC (.cons rfl .rep .nil) rfl rfl) ?_;refine df fa ?_;obtain⟨Y,D,h⟩:=aa h;refine fr 1 ?_;refine fi rfl rfl rfl (c7 rfl rfl mC (ax D)) ⟨rfl,rfl,trivial⟩ λO=>?_;refine aq (aJ (aV (tn (ae ?_))));obtain⟨J,u,h⟩:=aa h;refine jb (bK rfl u) ?_;refine mq (nl ?_);exact jz (O,(c.1++[s],J)) h [1,0,2]
    .refine xa ?_;exact jz (e,c.1) h [1,2]
   .refine sr (mq ?_);refine aq ?_;refine cq (nt (aF ?_));refine bL (jq [4,9,42] ⟨rfl,rfl,rfl,trivial⟩) ?_;cases h;exact rb
def dY(k:Nat)(a0:am)(a2:Int)(r1:(List (List Int))):Nat->Int->Option Bool
 |0,_=>none
 |n+1,y3=>
  if y3 < (a0.2.2.2.2.2.length:Int) then((bT a0.2.2.2.2.2 y3).bind λx5=>
  (((fD k a2 y3).bind λr9=>
  if¬(r9=true) then((bT r1 x5.2.1).bind λh=>
  (bT h x5.1).bind λe=>
  some (!decide ((decide (a0.2.2.1≤e))=x5.2.2))) else(some false)):Option (Bool)).bind λx7=>
  if x7=true then(some false) else((ck (y3+1)).bind λc=>
  dY k a0 a2 r1 n c)) else(some true)
def gV(k:Nat)(a0:am)(a1:Int)(a2:Int):Option Bool:=
 (lg k a0 a1).bind λr1=>
 dY k a0 a2 r1 k 0
theorem m9(k:Nat)(a0:am)(c z_a0:Nat)(a1:Int)(a2:Int)(r:Bool)(h:gV k a0 a1 a2=some r):
 zk (cS Tryz.prog) 101 [Pt c,.eq (.int .u8 a1),.eq (.int .u8 a2)] [.obj c 121 (aI a0 z_a0),.inv z_a0 (bu k a0)] (.iface 153 (.agg #[])) r:=by
 unfold gV at h
 replace h:=bz h
 refine zk.of 48 Tryz.func101 rfl Tryz.ntmps101 rfl λS w0=>?_
 refine sr ?_
 iterate 2 refine mq ?_
 obtain⟨r1,E,h⟩:=aa h
 have J:=me k a0 c z_a0 a1 r1 E
 refine fr 1 ?_
 refine fr 1 ?_
 refine aC (Δ:=[_,_]) (F:=_) (λ_ _ _=>ab rfl _) rfl rfl (ay [.tmp 9,.tmp 10] rfl rfl yW rfl J) ⟨rfl,rfl,trivial⟩ λ_=>?_
 refine aS rfl rfl rfl (aY rfl BL EJ) trivial λb2=>?_
 refine aK rfl rfl (aD rfl CL rfl rfl rfl) ⟨rfl,rfl,trivial⟩ ?_
 refine d4 (iu (t:=(.arr 7 Tr)) (x:=r1) [6] .rep ⟨rfl,trivial⟩) ?_
 refine nt ?_
 refine sr ?_
 refine mq ?_
 refine ja (gp rfl) ?_
 refine fl fM ?_
 refine fl ma ?_
 refine lo va ?_
 refine ol FA ?_
 refine dx rfl ?_
 refine nt ?_
 refine ak ?_
 refine aW (λz4 y3=>[(0,Pt c),(2,.eq (.int .u8 a2)),(6,.at (.arr 7 Tr) r1),(16,Rs aG a0.2.2.2.2.2),(17,I (a0.2.2.2.2.2.length:Int)),(18,I y3)]) (λz4 y3=>[.obj c 121 (aI a0 z_a0),.inv z_a0 (bu k a0)]) (dY k a0 a2 r1) k () 0 (λ_=>rfl) h (SE.fin [0,1] ⟨rfl,rfl,rfl,rfl,rfl,rfl,trivial⟩ rfl) (λn z4 y3 h=>?_)
 unfold dY at h
 refine sr ?_
 refine jb (bS rfl) ?_
 refine nt ?_
 refine ai ?_
 refine ci h (λh=>?_) (λh=>?_)
 .
  refine sk (ai (ak (sr (mq ?_))));obtain⟨x5,y,h⟩:=aa h;refine jb (bA (t:=aG) rfl FA qy y) ?_;refine ja (aA (t:=aG) rfl qy rfl) ?_;refine aS rfl rfl rfl (aY rfl FG J5) trivial λb6=>?_;refine aq ?_;refine aK rfl rfl (aD rfl qy rfl rfl rfl) ⟨rfl,rfl,trivial⟩ ?_;refine nt (aR (Z:=Unit) (α:=Bool) (λz8 x7=>[(0,Pt c),(2,.eq (.int .u8 a2)),(6,.at (.arr 7 Tr) r1),(16,Rs aG a0.2.2.2.2.2),(17,I (a0.2.2.2.2.2.length:Int)),(18,I y3),(44,.eq (.bool x7))]) (λz8 x7=>[.obj c 121 (aI a0 z_a0),.inv z_a0 (bu k a0)]) h (λK h=>?_) (λz8 x7 h=>?_))
  .refine dn ?_;refine dm ?_;refine dm ?_;obtain⟨r9,D,h⟩:=aa h;refine db (ap [.tmp 23,.tmp 24] rfl rfl En rfl (fC k a2 y3 r9 D)) ?_;refine da (ec rfl) ?_;refine vZ rfl rfl rfl (bW rfl) ⟨rfl,trivial⟩ (λhb=>?_) (λhb=>?_)
   .replace h:=cj (qI hb) h;refine dq rfl rfl rfl rfl rfl (bg rfl Eh) ⟨rfl,rfl,trivial⟩ ?_;refine jJ 0 rfl rfl rfl rfl rfl rfl (aL rfl cL rM rfl) ⟨rfl,rfl,trivial⟩ ?_;refine dq rfl rfl rfl rfl rfl (bg rfl Ei) ⟨rfl,rfl,trivial⟩ ?_;refine jJ 0 rfl rfl rfl rfl rfl rfl (aL rfl cL rM rfl) ⟨rfl,rfl,trivial⟩ ?_;obtain⟨M,l,h⟩:=aa h;refine dq rfl rfl rfl rfl rfl (ce (t:=Tr) rfl EO gB l) ⟨rfl,rfl,rfl,trivial⟩ ?_;obtain⟨u,j,h⟩:=aa h;refine dq rfl rfl rfl rfl rfl (ce (t:=Ti) rfl yd cL j) ⟨rfl,rfl,rfl,trivial⟩ ?_;refine dq rfl rfl rfl rfl rfl (aA (t:=Ti) rfl cL rfl) ⟨rfl,rfl,trivial⟩ ?_;refine dq rfl rfl rfl rfl rfl (bW rfl) ⟨rfl,rfl,trivial⟩ ?_;refine dq rfl rfl rfl rfl rfl (gp rfl) ⟨rfl,rfl,trivial⟩ ?_;refine dq rfl rfl rfl rfl rfl (bg rfl fM) ⟨rfl,rfl,trivial⟩ ?_;refine dq rfl rfl rfl rfl rfl (bg rfl yQ) ⟨rfl,rfl,trivial⟩ ?_;refine jJ 1 rfl rfl rfl rfl rfl rfl (aL rfl cL rM rfl) ⟨rfl,rfl,trivial⟩ ?_;refine dq rfl rfl rfl rfl rfl (iN rfl) ⟨rfl,rfl,rfl,trivial⟩ ?_;refine dq rfl rfl rfl rfl rfl (bg rfl JA) ⟨rfl,rfl,trivial⟩ ?_;refine jJ 0 rfl rfl rfl rfl rfl rfl (aL rfl OW rM rfl) ⟨rfl,rfl,trivial⟩ ?_;refine df fa ?_;refine gb (Ji rfl U4) ?_;refine pt (nl ?_);exact jz ((), !decide ((decide (a0.2.2.1≤u))=x5.2.2)) h [1,2]
   .replace h:=bh (lE hb) h;iterate 15 refine dg ?_
    refine df fa ?_;refine gn ?_;refine pf (nl ?_);exact jz ((),false) h [1,2]
  .refine cv h (λh=>?_) (λh=>?_)
   .refine ae (bX rfl (Dm rfl Kp KL) trivial ?_);refine ja (Di rfl Kp) ?_;refine By rfl rfl rfl rfl ?_;refine xQ ?_;refine rm ?_;refine rm ?_;refine xQ ?_;refine bL (SE.fin (Γ':=[]) [0,1] trivial rfl) ?_;cases h;exact HY
   .refine bi (aV (tn (ae ?_)));obtain⟨s,e,h⟩:=aa h;refine jb (bK rfl e) ?_;refine mq (nl ?_);exact jz ((),s) h [0,1]
 .
  refine d5 (bM (bM (cz (hP ?_))));refine bL (SE.fin (Γ':=[]) [0,1] trivial rfl) ?_;cases h;exact aZ () [] 2 trivial rfl
def gh(k:Nat)(a0:am)(a1:Int)(a2:Int):Option Bool:=gV k a0 a1 a2
theorem Il:Kq Tryz.prog 153 (.agg #[]):=⟨⟨_,Kp⟩,λw=>by kernel_rfl⟩
theorem Et:∀(S:FS) (w:World),(A.rep (.arr 0 Ti) []).holds S w (.agg #[]):=λ_ _=>⟨[],⟨rfl,rfl⟩,rfl⟩
theorem Ia:∀w,(zeroValue 153).run Tryz.prog w= .ok (.agg #[]) w:=λw=>by kernel_rfl
theorem Iy:∀S w,(A.cells S w (.rep (.arr 0 Ti) []) (Value.cells (.agg #[])).toList):=λ_ _=>⟨rfl,rfl⟩
theorem Im:dk Tryz.prog 153 0 true:=⟨λw=>by kernel_rfl,λw=>by kernel_rfl⟩
theorem MH:ag Tryz.prog 100:=ag.of Tryz.func100 (by kernel_rfl) (by kernel_rfl)
theorem Iu:ag Tryz.prog 101:=ag.of Tryz.func101 (by kernel_rfl) (by kernel_rfl)
theorem FX:dk Tryz.prog 4 1 false:=⟨λw=>by kernel_rfl,λw=>by kernel_rfl⟩
theorem Ny:∀w,(zeroValue 4).run Tryz.prog w= .ok (.bool false) w:=λw=>by kernel_rfl
theorem Ot:∀S w,(A.cells S w (.eq (.bool false)) (Value.cells (.bool false)).toList):=λ_ _=>⟨rfl,rfl⟩
theorem xE:wa Tryz.prog 100 (.iface 153 (.agg #[])) 4 (.bool false):=by
 refine⟨MH,λM e0=>?_,λM e0=>?_⟩
 .refine kz.of (M:=M) (m:=.returning) (m1:=.returning) (val:=.nilIface) Tryz.func100 rfl rfl (by decide) rfl rfl (by decide) (λρ=>rfl) (λfr b cs hb hm=>C0 hb hm rfl) (.inl rfl) λb S w0=>?_;refine ja (Gq Et rfl Il) ?_;refine mq ?_;refine xr ?_;refine xr ?_;refine aS rfl rfl rfl (aY rfl Ia Iy) trivial λb1=>?_;refine aK rfl rfl (aD rfl Im rfl rfl rfl) ⟨rfl,rfl,trivial⟩ ?_;refine aq (nt (sr ?_));refine mq (nt ?_);refine ia rfl (λhb=>by cases hb) (λhb=>?_);refine bi (hP ?_);refine bL (SE.fin (Γ':=[]) [1] trivial rfl) ?_;exact aZ () [] 1 trivial rfl
 .refine kz.of (M:=M) (m:=.panicking (fR (.iface 153 (.agg #[])) false)) (m1:=.panicking (fR (.iface 153 (.agg #[])) true)) (val:=.iface 153 (.agg #[])) Tryz.func100 rfl rfl (by decide) rfl rfl (by decide) (λρ=>rfl) (λfr b cs hb hm=>CZ hb hm) (.inr ⟨_,rfl⟩) λb S w0=>?_;refine ja (Gn Et rfl Il) ?_;refine mq ?_;refine xr ?_;refine xr ?_;refine aS rfl rfl rfl (aY rfl Ia Iy) trivial λb1=>?_;refine aK rfl rfl (aD rfl Im rfl rfl rfl) ⟨rfl,rfl,trivial⟩ ?_;refine aq (nt (sr ?_));refine mq (nt ?_);refine ia rfl (λhb=>?_) (λhb=>by cases hb);refine ae (fr 1 ?_);refine aK rfl rfl (aD rfl FX rfl rfl rfl) ⟨rfl,rfl,trivial⟩ ?_;refine aJ (hP ?_);refine bL (SE.fin (Γ':=[]) [0] trivial rfl) ?_;exact aZ () [] 1 trivial rfl
theorem mE(k:Nat)(a0:am)(c z_a0:Nat)(a1:Int)(a2:Int)(r:Bool)(h:gh k a0 a1 a2=some r):
 bG (cS Tryz.prog) 73 [Pt c,.eq (.int .u8 a1),.eq (.int .u8 a2)] (po a0 c z_a0 k) (λ_:Unit=>(bO [.eq (.bool r)],po a0 c z_a0 k)):=by
 have cr:=m9 k a0 c z_a0 a1 a2 r h
 refine xU 12 Tryz.func73 rfl Tryz.ntmps73 rfl λS w0=>?_
 refine sr ?_
 refine aS rfl rfl rfl (aY rfl Ny Ot) trivial λb6=>?_
 refine nt ?_
 refine sr ?_
 refine ja (lO [] [.tmp 6] [] [(Pv b6)] rfl rfl rfl) ?_
 refine E2 rfl rfl rfl rfl rfl ?_
 refine nt ?_
 refine sr ?_
 iterate 3 refine mq ?_
 refine fr 2 ?_
 refine fr 2 ?_
 cases r with
 |false=>
  refine E3 (Ss:=[Pt c,.eq (.int .u8 a1),.eq (.int .u8 a2)]) (Δ:=po a0 c z_a0 k) (F:=[.obj b6 4 (.eq (.bool false))]) [.tmp 8,.tmp 9,.tmp 10] rfl rfl rfl rfl Iu ⟨rfl,rfl,rfl,trivial⟩ cr ?_;refine rm ?_;refine bL (SE.fin (Γ':=[(6,_)]) [2,0,1] ⟨rfl,trivial⟩ rfl) ?_;refine BA xE ?_;refine bL (SE.fin (Γ':=[(6,_)]) [1,2,0] ⟨rfl,trivial⟩ rfl) ?_;exact aZ () [.eq (.bool false)] 2 ⟨⟨_,_,_,_,_,rfl,(.tail _ (.tail _ (.head _))),FX,(λ_=>rfl),rfl⟩,trivial⟩ rfl
 |true=>
  refine aC (Δ:=po a0 c z_a0 k) (F:=[.obj b6 4 (.eq (.bool false))]) (λ_ _ _=>ab rfl _) rfl rfl (ay [.tmp 8,.tmp 9,.tmp 10] rfl rfl Iu rfl cr.ok) ⟨rfl,rfl,rfl,trivial⟩ λ_=>?_;refine nt (sr (fr 2 ?_));refine aK rfl rfl (aD rfl FX rfl rfl rfl) ⟨rfl,rfl,trivial⟩ ?_;refine nt (aF (HW xE ?_));refine bL (SE.fin (Γ':=[(6,_)]) [1,2,0] ⟨rfl,trivial⟩ rfl) ?_;exact aZ () [.eq (.bool true)] 2 ⟨⟨_,_,_,_,_,rfl,(.tail _ (.tail _ (.head _))),FX,(λ_=>rfl),rfl⟩,trivial⟩ rfl
def cR(k:Nat)(a0:am)(a1:Int):Option (List Int):=
 (kO k (ru (λ(y5:(List Int)) (p7:Int)=>
  (gh k a0 p7 a1).bind λr9=>
  if r9=true then((d3 (dR (length y5+length [p7]))).bind λ_=>
  some (y5++[p7],true)) else(some (y5,true)))) a0.1 (([]:(List Int)),false)).bind λr8=>
 if r8.2=true then(none) else(some r8.1)
theorem dw(k:Nat)(a0:am)(c z_a0:Nat)(a1:Int)(r:(List Int))(h:cR k a0 a1=some r):
 bG (cS Tryz.prog) 36 [Pt c,.eq (.int .u8 a1)] [.obj c 121 (aI a0 z_a0),.inv z_a0 (bu k a0)] (λ_:Unit=>(bO [.rep (.slice (.int .u8)) r],[.obj c 121 (aI a0 z_a0),.inv z_a0 (bu k a0)])):=by
 unfold cR at h
 replace h:=bz h
 refine tI 23 Tryz.func36 rfl Tryz.ntmps36 rfl λS w0=>?_
 refine sr ?_
 refine bx λb1=>?_
 refine bx λb2=>?_
 refine cq ?_
 refine nt ?_
 refine sr ?_
 refine aS rfl rfl rfl (aY rfl FC HB) trivial λb3=>?_
 refine nt ?_
 refine ai ?_
 refine sr ?_
 refine fr 2 ?_
 refine lo yj ?_
 refine ja (gp rfl) ?_
 refine fl fM ?_
 refine fl g7 ?_
 refine fr 3 ?_
 refine lo cL ?_
 refine aS rfl rfl rfl (ap [.tmp 11] rfl rfl LX rfl (pR a0.1)) ⟨rfl,trivial⟩ λb4=>?_
 refine nt ?_
 refine ak ?_
 refine i8 (SE.nil 65 (.int .u8)) ?_
 refine bR 6 rfl ?_
 refine bR 6 rfl ?_
 refine bR 2 rfl ?_
 refine bR 6 rfl ?_
 refine bR 6 rfl ?_
 refine bR 6 rfl ?_
 refine bR 6 rfl ?_
 obtain⟨r8,s,h⟩:=aa h
 refine mj (Δ:=[.obj b4 3 (I a0.1),.obj c 121 (aI a0 z_a0),.obj b1 64 (Pt c),.obj b3 74 (.eq (.slice none 0 0)),.sl (.slice none 0 0) 65 (.int .u8) ([]:(List Int)),.obj b2 65 (.eq (.int .u8 a1)),.inv z_a0 (bu k a0)]) (F:=[]) (X:=Value) (J:=λ_=>G7 r8.2) (E:=λz6=>[.obj b4 3 (I a0.1),.obj c 121 (aI a0 z_a0),.obj b1 64 (Pt c),.obj b3 74 (.eq z6),.sl z6 65 (.int .u8) r8.1,.obj b2 65 (.eq (.int .u8 a1)),.inv z_a0 (bu k a0)]) (r0:=λ_=>.tup .any) rfl rfl LP (λrec hp ha hb hs hpe hN hv l=>?_) (λdl z6=>oG (λhj=>?_) (λhj=>?_))
 .
  rcases rec with⟨st0,pe0,fn0,tm0,ps0,as0,bd0,df0⟩;dsimp only at hp ha hb hs hpe hN hv;subst hp hs hpe;have vN:vS tm0 [(2,Pt b1),(3,Pt b2),(5,Pt b3)]:=⟨congrArg A.eq (hv 2 _ rfl).symm,congrArg A.eq (hv 3 _ rfl).symm,congrArg A.eq (hv 5 _ rfl).symm,trivial⟩;refine bG.pick (M:=(cS Tryz.prog)) [1,0,2,3,4,5,6,7] [1,0,2,3,4,5,6,7] (na (λ(z6:Value) (q:(List Int)×Bool)=>[.raw l (.loop (gJ ⟨.ready,none,fn0,tm0, #[13],as0,bd0,df0⟩ (G7 q.2))),.obj c 121 (aI a0 z_a0),.obj b1 64 (Pt c),.obj b3 74 (.eq z6),.sl z6 65 (.int .u8) q.1,.obj b2 65 (.eq (.int .u8 a1)),.inv z_a0 (bu k a0)]) l (ru (λ(y5:(List Int)) (p7:Int)=>
  (gh k a0 p7 a1).bind λr9=>
  if r9=true then((d3 (dR (length y5+length [p7]))).bind λ_=>
  some (y5++[p7],true)) else(some (y5,true)))) k a0.1 b4 (λz6 q p r' h=>?_) (.slice none 0 0) (([]:(List Int)),false) r8 s) rfl (λ_=>rfl) (λ_=>rfl)
  obtain⟨rq,hq,h2,rfl⟩:=oH h;obtain⟨y5,b5⟩:=q;obtain rfl:b5=false:=hq;replace h:=bz h2;obtain⟨p7,hpv⟩:∃x,x=p:=⟨_,rfl⟩;subst hpv;refine YT.pick (R':=(λz6:Value=>(.eq (.bool rq.2),[.raw l (.loop (gJ ⟨.ready,none,fn0,tm0, #[13],as0,bd0,df0⟩ (G7 (!rq.2)))),.obj c 121 (aI a0 z_a0),.obj b1 64 (Pt c),.obj b3 74 (.eq z6),.sl z6 65 (.int .u8) rq.1,.obj b2 65 (.eq (.int .u8 a1)),.inv z_a0 (bu k a0)]))) [0,1,2,3,4,5,6] [0,1,2,3,4,5,6] (zb ha hb (N:=23) (Γ:=[(2,Pt b1),(3,Pt b2),(5,Pt b3)]) rfl hN (by decide) vN (λS w=>?_)) rfl (λ_=>rfl) (λ_=>rfl);refine ae (aq (nl ?_));refine tC rfl rfl ?_;refine ak (sr (fr 2 ?_));refine lo yj ?_;refine mq ?_;refine fr 5 ?_;refine lo jd ?_;obtain⟨r9,n,h⟩:=aa h;refine fr 6 ?_;refine fr 4 ?_;refine aC (Δ:=[_,_]) (F:=_) (λ_ _ _=>ab rfl _) rfl rfl (ay [.tmp 14,.tmp 15,.tmp 16] rfl rfl N9 rfl (mE k a0 c z_a0 p7 a1 r9 n)) ⟨rfl,rfl,rfl,trivial⟩ λ_=>?_;refine nt (cv h (λh=>?_) (λh=>?_))
  .refine ae (fr 5 ?_);refine lo u7 ?_;refine mq ?_;refine ja (aQ (t:=(.int .u8)) [(.tmp 19,_)] [p7] rfl rfl F9 (.cons rfl .int .nil) rfl rfl) ?_;obtain⟨u,e,h⟩:=aa h;refine fr 6 ?_;refine fi rfl rfl rfl (c7 rfl rfl F9 (ax e)) ⟨rfl,rfl,trivial⟩ λj=>?_;refine rl λo12=>?_;refine fr 1 ?_;refine aK rfl rfl (aD rfl u7 o12 rfl rfl) ⟨rfl,rfl,trivial⟩ ?_;refine aJ (aV (aH 3 rfl ?_));refine aH 4 rfl ?_;refine aH 3 rfl ?_;refine aH 3 rfl ?_;refine aH 5 rfl ?_;refine aH 5 rfl ?_;refine aH 6 rfl ?_;cases h;exact jO j 6 rfl
  .refine bi (aV (aH 1 rfl ?_));refine aH 2 rfl ?_;refine aH 6 rfl ?_;refine aH 6 rfl ?_;refine aH 5 rfl ?_;refine aH 5 rfl ?_;refine aH 6 rfl ?_;cases h;exact jO z6 6 rfl
 .
  replace h:=bh (Ik hj) h;refine aV (tn (sr (fr 4 ?_)));refine lo u7 ?_;refine aq (nt (aF ?_));refine aH 5 rfl ?_;refine bL (mh (off:=0) [4,22] ⟨rfl,rfl,trivial⟩ rfl rfl) ?_;refine aH 1 rfl ?_;refine Aq ?_;refine bL (SE.fin (Γ':=[(4,_)]) [2,5,0,1,3,4] ⟨rfl,trivial⟩ rfl) ?_;cases h;exact aZ () [_] 2 ⟨rfl,trivial⟩ rfl
 .
  replace h:=cj (Ii hj) h;cases h
def iI(k:Nat)(r7:(List Int)):Nat->((List (List Int))×Int)->Option (List (List Int))
 |0,_=>none
 |n+1,y8=>
  if y8.2 < (r7.length:Int) then((bT r7 y8.2).bind λh=>
  (dT k h).bind λc=>
  (d3 (dR (length y8.1+length [c]))).bind λ_=>
  (ck (y8.2+1)).bind λe=>
  iI k r7 n (y8.1++[c],e)) else(some y8.1)
def kj(k:Nat)(a0:am):Option ((List (List Int))×Int):=
 (iQ k a0 ([]:(List Int)) ([]:(List Int)) ([]:(List Int)) ([]:(List Int))).bind λr2=>
 eQ r2.1 (if¬(r2.2.2=0) then(some (([]:(List (List Int))),r2.2.2)) else(none)) (λq3=>if¬(r2.2.2=0) then(some (([]:(List (List Int))),r2.2.2)) else((((cR k q3 0).bind λr7=>
 iI k r7 k (([]:(List (List Int))),0)):Option ((List (List Int)))).bind λx5=>
 some (x5,0)))
theorem k9(k:Nat)(a0:am)(r:(List (List Int))×Int)(h:kj k a0=some r):
 bG (cS Tryz.prog) 10 [.rep an a0] [] (λ_:Unit=>(bO [.rep (.slice Tl) r.1,I r.2],[])):=by
 unfold kj at h
 replace h:=bz h
 refine bG.of 33 Tryz.func10 rfl Tryz.ntmps10 rfl λS w0=>?_
 refine sr ?_
 refine bx λb1=>?_
 refine cq ?_
 refine cq ?_
 refine nt ?_
 refine sr ?_
 refine lo c6 ?_
 obtain⟨r2,M,h⟩:=aa h
 have c:=gr k a0 ([]:(List Int)) ([]:(List Int)) ([]:(List Int)) ([]:(List Int)) r2 M
 rcases hr:r2.1 with _ |q3
 .
  rw [hr] at h c;replace h:=oe h;refine aC (Δ:=[]) (F:=_) (λ_ _ _=>ab rfl _) rfl rfl (aE (N:=[(.tmp 11,.rep an a0),(.const (.slice none 0 0),.eq (.slice none 0 0)),(.const (.slice none 0 0),.eq (.slice none 0 0)),(.const (.slice none 0 0),.eq (.slice none 0 0)),(.const (.slice none 0 0),.eq (.slice none 0 0))]) (ay [.tmp 11,.const (.slice none 0 0),.const (.slice none 0 0),.const (.slice none 0 0),.const (.slice none 0 0)] rfl rfl rR rfl c) λ_ _ _ hn=>⟨hn.1,(aj (t:=Tl) (x:=([]:(List Int))) .nil rfl rfl hn.2.1),(aj (t:=Tl) (x:=([]:(List Int))) .nil rfl rfl hn.2.2.1),(aj (t:=Tl) (x:=([]:(List Int))) .nil rfl rfl hn.2.2.2.1),(aj (t:=Tl) (x:=([]:(List Int))) .nil rfl rfl hn.2.2.2.2.1),trivial⟩) ⟨rfl,rfl,rfl,rfl,rfl,trivial⟩ λ_=>?_;refine mq ?_;refine xr ?_;refine xr ?_;refine xr ?_;refine aq ?_;refine aq ?_;refine aq (nt (ai (sr ?_)));refine mq ?_;refine jb (bV rfl) ?_;refine nt (cn h (λh=>?_) (λh=>?_))
  .refine sr (mq ?_);refine cq ?_;refine aq (nt (rx ?_));refine bL (cU (t:=(.slice Tl)) (x:=([]:(List (List Int)))) 2 rfl .nil rfl rfl) ?_;cases h;exact rb
  .cases h
 .
  rw [hr] at h c;replace h:=oc h;refine aC (Δ:=[]) (F:=_) (λ_ _ _=>ab rfl _) rfl rfl (aE (N:=[(.tmp 11,.rep an a0),(.const (.slice none 0 0),.eq (.slice none 0 0)),(.const (.slice none 0 0),.eq (.slice none 0 0)),(.const (.slice none 0 0),.eq (.slice none 0 0)),(.const (.slice none 0 0),.eq (.slice none 0 0))]) (ay [.tmp 11,.const (.slice none 0 0),.const (.slice none 0 0),.const (.slice none 0 0),.const (.slice none 0 0)] rfl rfl rR rfl c) λ_ _ _ hn=>⟨hn.1,(aj (t:=Tl) (x:=([]:(List Int))) .nil rfl rfl hn.2.1),(aj (t:=Tl) (x:=([]:(List Int))) .nil rfl rfl hn.2.2.1),(aj (t:=Tl) (x:=([]:(List Int))) .nil rfl rfl hn.2.2.2.1),(aj (t:=Tl) (x:=([]:(List Int))) .nil rfl rfl hn.2.2.2.2.1),trivial⟩) ⟨rfl,rfl,rfl,rfl,rfl,trivial⟩ λz4=>?_;refine mq ?_;refine xr ?_;refine xr ?_;refine xr ?_;refine aq ?_;refine aq ?_;refine aq (nt (ai (sr ?_)));refine mq ?_;refine jb (bV rfl) ?_;refine nt (cn h (λh=>?_) (λh=>?_))
  .refine sr (mq ?_);refine cq ?_;refine aq (nt (rx ?_));refine bL (cU (t:=(.slice Tl)) (x:=([]:(List (List Int)))) 2 rfl .nil rfl rfl) ?_;cases h;exact rb
  .refine sk (sr (cq (nt ?_)));refine aR (Z:=Value) (α:=(List (List Int))) (λz6 x5=>[(7,.eq z6)]) (λz6 x5=>[.sl z6 27 Tl x5,.inv z4.2 (bu k q3)]) h (λK h=>?_) (λz6 x5 h=>?_)
   .refine sr (mq ?_);obtain⟨r7,J,h⟩:=aa h;refine fr 1 ?_;refine fr 1 ?_;refine aC (Δ:=[_,_]) (F:=_) (λ_ _ _=>ab rfl _) rfl rfl (ay [.tmp 19,.const (.int .u8 (0))] rfl rfl Es rfl (dw k q3 z4.1 z4.2 0 r7 J)) ⟨rfl,rfl,trivial⟩ λ_=>?_;refine ol ql ?_;refine dx rfl ?_;refine nt (ak (i8 (SE.nil 27 Tl) ?_));refine aW (λz9 y8=>[(7,.eq z9),(20,.rep (.slice (.int .u8)) r7),(21,I (r7.length:Int)),(22,I y8.2)]) (λz9 y8=>[.sl z9 27 Tl y8.1,.inv z4.2 (bu k q3)]) (iI k r7) k (.slice none 0 0) (([]:(List (List Int))),0) (λ_=>rfl) h (SE.fin [0,2] ⟨rfl,rfl,rfl,rfl,trivial⟩ rfl) (λn z9 y8 h=>?_);unfold iI at h;refine sr (jb (bS rfl) ?_);refine nt (ai (ci h (λh=>?_) (λh=>?_)))
    .refine sk (ai (ak (sr ?_)));obtain⟨D,l,h⟩:=aa h;refine jb (bA (t:=(.int .u8)) rfl ql jd l) ?_;refine ja (aA (t:=(.int .u8)) rfl jd rfl) ?_;refine aq (nt (ae ?_));iterate 2 refine mq ?_
     obtain⟨e,u,h⟩:=aa h;refine ja (ap [.tmp 27] rfl rfl A6 rfl (dO k D e u)) ?_;refine ja (aQ (t:=Tl) [(.tmp 28,_)] [e] rfl rfl mC (.cons rfl .rep .nil) rfl rfl) ?_;obtain⟨O,s,h⟩:=aa h;refine fi rfl rfl rfl (c7 rfl rfl mC (ax s)) ⟨rfl,rfl,trivial⟩ λE=>?_;refine aq (aJ (aV (tn (ae ?_))));obtain⟨y,j,h⟩:=aa h;refine jb (bK rfl j) ?_;refine mq (nl ?_);exact jz (E,(y8.1++[e],y)) h [0,1]
    .refine xa ?_;exact jz (z9,y8.1) h [0,1]
   .refine sr (mq ?_);refine aq ?_;refine cq (nt (aF ?_));refine bL (jq [2,7,32] ⟨rfl,rfl,rfl,trivial⟩) ?_;cases h;exact rb
def gu(k:Nat)(a0:am)(a1:(List Int))(a2:(List Int))(a3:(List Int)):Option ((Option am)×(List Int)×Int):=
 (iQ k a0 ([]:(List Int)) a1 a2 a3).bind λr2=>
 eQ r2.1 (if¬(r2.2.2=0) then(some (none,([]:(List Int)),r2.2.2)) else(none)) (λq3=>if¬(r2.2.2=0) then(some (none,([]:(List Int)),r2.2.2)) else((cR k q3 0).bind λr5=>
 if(r5.length:Int)=0 then(some (none,([]:(List Int)),9)) else(some (some q3,r5,0))))
theorem fJ(k:Nat)(a0:am)(a1:(List Int))(a2:(List Int))(a3:(List Int))(r:(Option am)×(List Int)×Int)(h:gu k a0 a1 a2 a3=some r):
 bG (cS Tryz.prog) 38 [.rep an a0,.rep Tl a1,.rep Tl a2,.rep Tl a3] [] (λz:Nat×Nat=>(bO [Gm r.1 z.1,.rep (.slice (.int .u8)) r.2.1,I r.2.2],Gk r.1 λq=>po q z.1 z.2 k)):=by
 unfold gu at h
 replace h:=bz h
 refine bG.of 34 Tryz.func38 rfl Tryz.ntmps38 rfl λS w0=>?_
 refine sr ?_
 refine bx λb1=>?_
 refine cq ?_
 refine cq ?_
 refine cq ?_
 refine nt ?_
 refine sr ?_
 refine lo c6 ?_
 iterate 3 refine mq ?_
 obtain⟨r2,j,h⟩:=aa h
 have c:=gr k a0 ([]:(List Int)) a1 a2 a3 r2 j
 rcases hr:r2.1 with _ |q3
 .
  rw [hr] at h c;replace h:=oe h;refine aC (Δ:=[]) (F:=_) (λ_ _ _=>ab rfl _) rfl rfl (aE (N:=[(.tmp 16,.rep an a0),(.const (.slice none 0 0),.eq (.slice none 0 0)),(.tmp 17,.rep Tl a1),(.tmp 18,.rep Tl a2),(.tmp 19,.rep Tl a3)]) (ay [.tmp 16,.const (.slice none 0 0),.tmp 17,.tmp 18,.tmp 19] rfl rfl rR rfl c) λ_ _ _ hn=>⟨hn.1,(aj (t:=Tl) (x:=([]:(List Int))) .nil rfl rfl hn.2.1),hn.2.2.1,hn.2.2.2.1,hn.2.2.2.2.1,trivial⟩) ⟨rfl,rfl,rfl,rfl,rfl,trivial⟩ λ_=>?_;refine mq ?_;refine xr ?_;refine xr ?_;refine xr ?_;refine aq ?_;refine aq ?_;refine aq (nt (ai (sr ?_)));refine mq ?_;refine jb (bV rfl) ?_;refine nt (cn h (λh=>?_) (λh=>?_))
  .refine sr (mq ?_);refine cq ?_;refine cq ?_;refine aq (nt (rx ?_));refine bL (cU (t:=(.slice (.int .u8))) (x:=([]:(List Int))) 9 rfl .nil rfl rfl) ?_;cases h;exact aZ (0,0) [.eq (.pointer none),_,_] 0 ⟨rfl,rfl,rfl,trivial⟩ rfl
  .cases h
 .
  rw [hr] at h c;replace h:=oc h;refine aC (Δ:=[]) (F:=_) (λ_ _ _=>ab rfl _) rfl rfl (aE (N:=[(.tmp 16,.rep an a0),(.const (.slice none 0 0),.eq (.slice none 0 0)),(.tmp 17,.rep Tl a1),(.tmp 18,.rep Tl a2),(.tmp 19,.rep Tl a3)]) (ay [.tmp 16,.const (.slice none 0 0),.tmp 17,.tmp 18,.tmp 19] rfl rfl rR rfl c) λ_ _ _ hn=>⟨hn.1,(aj (t:=Tl) (x:=([]:(List Int))) .nil rfl rfl hn.2.1),hn.2.2.1,hn.2.2.2.1,hn.2.2.2.2.1,trivial⟩) ⟨rfl,rfl,rfl,rfl,rfl,trivial⟩ λz4=>?_;refine mq ?_;refine xr ?_;refine xr ?_;refine xr ?_;refine aq ?_;refine aq ?_;refine aq (nt (ai (sr ?_)));refine mq ?_;refine jb (bV rfl) ?_;refine nt (cn h (λh=>?_) (λh=>?_))
  .refine sr (mq ?_);refine cq ?_;refine cq ?_;refine aq (nt (rx ?_));refine bL (cU (t:=(.slice (.int .u8))) (x:=([]:(List Int))) 9 rfl .nil rfl rfl) ?_;cases h;exact aZ (0,0) [.eq (.pointer none),_,_] 0 ⟨rfl,rfl,rfl,trivial⟩ rfl
  .refine sk (sr (mq ?_));obtain⟨r5,e,h⟩:=aa h;refine fr 1 ?_;refine fr 1 ?_;refine aC (Δ:=[_,_]) (F:=_) (λ_ _ _=>ab rfl _) rfl rfl (ay [.tmp 27,.const (.int .u8 (0))] rfl rfl Es rfl (dw k q3 z4.1 z4.2 0 r5 e)) ⟨rfl,rfl,trivial⟩ λ_=>?_;refine aq (nt (ai (sr ?_)));refine mq ?_;refine ol ql ?_;refine jb (dE rfl) ?_;refine nt (ci h (λh=>?_) (λh=>?_))
   .refine sr (cq ?_);refine cq ?_;refine cq (nt (rx ?_));refine bL (cU (t:=(.slice (.int .u8))) (x:=([]:(List Int))) 9 rfl .nil rfl rfl) ?_;cases h;exact aZ (0,0) [.eq (.pointer none),_,_] 0 ⟨rfl,rfl,rfl,trivial⟩ rfl
   .refine sk (sr ?_);iterate 2 refine mq ?_
    refine aq ?_;refine aq ?_;refine cq (nt (aF ?_));cases h;exact aZ (z4.1,z4.2) [.eq (.pointer (some ⟨z4.1,0,none⟩)),_,_] 2 ⟨rfl,rfl,rfl,trivial⟩ rfl
def eL(k:Nat)(a2:Int)(r1:(List (List Int)))(x5:Int):Nat->Int->Option (Except Int Unit)
 |0,_=>none
 |n+1,y6=>
  if y6 < x5 then((bT r1 y6).bind λx8=>
  (bT x8 a2).bind λx9=>
  if 0≤x9 then(some (.error y6)) else((ck (y6+1)).bind λc=>
  eL k a2 r1 x5 n c)) else(some (.ok ()))
def eX(k:Nat)(a0:am)(a1:Int)(a2:Int):Option Int:=
 (lg k a0 a1).bind λr1=>
 bE (α:=Unit) ((ck ((a0.2.2.2.2.1.length:Int)+1)).bind λx5=>
 eL k a2 r1 x5 k 0) (some) λ_=>
 some (-1:Int)
theorem gg(k:Nat)(a0:am)(c z_a0:Nat)(a1:Int)(a2:Int)(r:Int)(h:eX k a0 a1 a2=some r):
 bG (cS Tryz.prog) 42 [Pt c,.eq (.int .u8 a1),I a2] [.obj c 121 (aI a0 z_a0),.inv z_a0 (bu k a0)] (λ_:Unit=>(bO [I r],[.obj c 121 (aI a0 z_a0),.inv z_a0 (bu k a0)])):=by
 unfold eX at h
 replace h:=bz h
 refine bG.of 30 Tryz.func42 rfl Tryz.ntmps42 rfl λS w0=>?_
 refine sr ?_
 refine cq ?_
 refine nt ?_
 refine sr ?_
 iterate 2 refine mq ?_
 obtain⟨r1,D,h⟩:=aa h
 have E:=me k a0 c z_a0 a1 r1 D
 refine fr 1 ?_
 refine fr 1 ?_
 refine aC (Δ:=[_,_]) (F:=_) (λ_ _ _=>ab rfl _) rfl rfl (ay [.tmp 9,.tmp 10] rfl rfl yW rfl E) ⟨rfl,rfl,trivial⟩ λ_=>?_
 refine aS rfl rfl rfl (aY rfl BL EJ) trivial λb2=>?_
 refine aK rfl rfl (aD rfl CL rfl rfl rfl) ⟨rfl,rfl,trivial⟩ ?_
 refine d4 (iu (t:=(.arr 7 Tr)) (x:=r1) [7] .rep ⟨rfl,trivial⟩) ?_
 refine nt ?_
 refine dK (Z:=Unit) (α:=Unit) (λz4 x3=>[]) (λz4 x3=>[.obj c 121 (aI a0 z_a0),.inv z_a0 (bu k a0)]) (λe=>e=r) h (λe h=>Option.some.inj h) (λK hR h=>?_) (λz4 x3 h=>?_)
 .
  refine sr (mq ?_);refine ja (gp rfl) ?_;refine fl fM ?_;refine fl fQ ?_;refine lo nZ ?_;refine ol Bo ?_;obtain⟨x5,y,h⟩:=aa h;refine jb (bK rfl y) ?_;refine dx rfl ?_;refine nt (ak (aW (λz7 y6=>[(2,I a2),(7,.at (.arr 7 Tr) r1),(18,I x5),(19,I y6)]) (λz7 y6=>[.obj c 121 (aI a0 z_a0),.inv z_a0 (bu k a0)]) (eL k a2 r1 x5) k () 0 (λ_=>rfl) h (SE.fin [0,1] ⟨rfl,rfl,rfl,rfl,trivial⟩ rfl) (λn z7 y6 h=>?_)));unfold eL at h;refine sr (jb (bS rfl) ?_);refine nt (ai (ci h (λh=>?_) (λh=>?_)))
  .refine sk (ai (ak (sr (mq ?_))));refine aq (nt (sr ?_));iterate 2 refine mq ?_
   obtain⟨x8,u,h⟩:=aa h;refine jb (ce (t:=Tr) rfl EO gB u) ?_;obtain⟨x9,s,h⟩:=aa h;refine jb (ce (t:=Ti) rfl yd cL s) ?_;refine ja (aA (t:=Ti) rfl cL rfl) ?_;refine jb (iN rfl) ?_;refine nt (ci h (λh=>?_) (λh=>?_))
   .refine sr (mq ?_);refine aq (nt (aF (br (bo (bs ?_)))));obtain rfl:=hR _ h;exact aZ () [_] 2 ⟨rfl,trivial⟩ rfl
   .refine bi (aV (tn (ae ?_)));obtain⟨l,j,h⟩:=aa h;refine jb (bK rfl j) ?_;refine mq (nl ?_);exact jz ((),l) h [0,1]
  .refine xa ?_;exact jz ((),()) h [0,1]
 .
  refine sr (cq (nt (aF ?_)));cases h;exact aZ () [_] 2 ⟨rfl,trivial⟩ rfl
def jC(k:Nat)(a1:Int)(r3:(Option am)×(List Int)×Int)(q4:am):Nat->((List Int)×Int)->Option (List Int)
 |0,_=>none
 |n+1,y8=>
  if y8.2 < (r3.2.1.length:Int) then((((bT r3.2.1 y8.2).bind λh=>
  (eX k q4 h a1).bind λc=>
  if 0≤c then((d3 (dR (length y8.1+length [c]))).bind λ_=>
  some (y8.1++[c])) else(some y8.1)):Option ((List Int))).bind λj=>
  (ck (y8.2+1)).bind λe=>
  jC k a1 r3 q4 n (j,e)) else(some y8.1)
def lI(k:Nat)(a0:am)(a1:Int):Option (er×Int):=
 (gu k a0 [a1] ([]:(List Int)) ([]:(List Int))).bind λr3=>
 eQ r3.1 (if¬(r3.2.2=0) then(some ((0,0),r3.2.2)) else(none)) (λq4=>if¬(r3.2.2=0) then(some ((0,0),r3.2.2)) else(((jC k a1 r3 q4 k (([]:(List Int)),0)):Option ((List Int))).bind λx6=>
 if(x6.length:Int)=0 then(some ((0,0),11)) else((kF k x6).bind λe=>
 (mO k x6).bind λc=>
 some ((e,c),0))))
theorem l5(k:Nat)(a0:am)(a1:Int)(r:er×Int)(h:lI k a0 a1=some r):
 bG (cS Tryz.prog) 14 [.rep an a0,I a1] [] (λ_:Unit=>(bO [.rep bJ r.1,I r.2],[])):=by
 unfold lI at h
 replace h:=bz h
 refine bG.of 51 Tryz.func14 rfl Tryz.ntmps14 rfl λS w0=>?_
 refine sr ?_
 refine bx λb1=>?_
 refine aS rfl rfl rfl (aY rfl sb HD) trivial λb2=>?_
 refine cq ?_
 refine nt ?_
 refine sr ?_
 refine fr 1 ?_
 refine lo c6 ?_
 refine mq ?_
 refine ja (aQ (t:=Ti) [(.tmp 15,_)] [a1] rfl rfl cD (.cons rfl .int .nil) rfl rfl) ?_
 obtain⟨r3,Y,h⟩:=aa h
 have s:=fJ k a0 [a1] ([]:(List Int)) ([]:(List Int)) r3 Y
 rcases hr:r3.1 with _ |q4
 .
  rw [hr] at h s;replace h:=oe h;refine aC (Δ:=[]) (F:=_) (λ_ _ _=>ab rfl _) rfl rfl (aE (N:=[(.tmp 14,.rep an a0),(.tmp 16,.rep Tl [a1]),(.const (.slice none 0 0),.eq (.slice none 0 0)),(.const (.slice none 0 0),.eq (.slice none 0 0))]) (ay [.tmp 14,.tmp 16,.const (.slice none 0 0),.const (.slice none 0 0)] rfl rfl rQ rfl s) λ_ _ _ hn=>⟨hn.1,hn.2.1,(aj (t:=Tl) (x:=([]:(List Int))) .nil rfl rfl hn.2.2.1),(aj (t:=Tl) (x:=([]:(List Int))) .nil rfl rfl hn.2.2.2.1),trivial⟩) ⟨rfl,rfl,rfl,rfl,trivial⟩ λ_=>?_;refine mq ?_;refine xr ?_;refine xr ?_;refine xr ?_;refine aq ?_;refine aq ?_;refine aq (nt (ai (sr ?_)));refine mq ?_;refine jb (bV rfl) ?_;refine nt (cn h (λh=>?_) (λh=>?_))
  .refine sr (bX rfl (cJ [] rfl yt sb tc (fO trivial) rfl) trivial ?_);refine mq ?_;refine fr 1 ?_;refine aK rfl rfl (aD rfl pB trivial rfl rfl) ⟨rfl,rfl,trivial⟩ ?_;refine aq (nt (rx ?_));refine bL (dz (a:=.agg (.pair (I 0) (I 0))) (a':=.rep bJ (0,0)) (gk (.agg (.pair .int .int)))) ?_;cases h;exact aZ () [.rep bJ (0,0),_] 0 ⟨⟨_,_,_,_,_,rfl,(.head _),pB,(mW),rfl⟩,rfl,trivial⟩ rfl
  .cases h
 .
  rw [hr] at h s;replace h:=oc h;refine aC (Δ:=[]) (F:=_) (λ_ _ _=>ab rfl _) rfl rfl (aE (N:=[(.tmp 14,.rep an a0),(.tmp 16,.rep Tl [a1]),(.const (.slice none 0 0),.eq (.slice none 0 0)),(.const (.slice none 0 0),.eq (.slice none 0 0))]) (ay [.tmp 14,.tmp 16,.const (.slice none 0 0),.const (.slice none 0 0)] rfl rfl rQ rfl s) λ_ _ _ hn=>⟨hn.1,hn.2.1,(aj (t:=Tl) (x:=([]:(List Int))) .nil rfl rfl hn.2.2.1),(aj (t:=Tl) (x:=([]:(List Int))) .nil rfl rfl hn.2.2.2.1),trivial⟩) ⟨rfl,rfl,rfl,rfl,trivial⟩ λz5=>?_;refine mq ?_;refine xr ?_;refine xr ?_;refine xr ?_;refine aq ?_;refine aq ?_;refine aq (nt (ai (sr ?_)));refine mq ?_;refine jb (bV rfl) ?_;refine nt (cn h (λh=>?_) (λh=>?_))
  .refine sr (bX rfl (cJ [] rfl yt sb tc (fO trivial) rfl) trivial ?_);refine mq ?_;refine fr 3 ?_;refine aK rfl rfl (aD rfl pB trivial rfl rfl) ⟨rfl,rfl,trivial⟩ ?_;refine aq (nt (rx ?_));refine bL (dz (a:=.agg (.pair (I 0) (I 0))) (a':=.rep bJ (0,0)) (gk (.agg (.pair .int .int)))) ?_;cases h;exact aZ () [.rep bJ (0,0),_] 0 ⟨⟨_,_,_,_,_,rfl,(.head _),pB,(mW),rfl⟩,rfl,trivial⟩ rfl
  .refine sk (sr (cq (nt ?_)));refine aR (Z:=Value) (α:=(List Int)) (λz7 x6=>[(4,Pt b2),(9,.eq z7)]) (λz7 x6=>[.obj b2 43 (.agg (.pair (I 0) (I 0))),.sl z7 3 Ti x6,.inv z5.2 (bu k q4)]) h (λK h=>?_) (λz7 x6 h=>?_)
   .refine sr (mq ?_);refine ol ql ?_;refine dx rfl ?_;refine nt (ak (i8 (SE.nil 3 Ti) ?_));refine aW (λz9 y8=>[(1,I a1),(4,Pt b2),(6,.eq (.pointer (some ⟨z5.1,0,none⟩))),(9,.eq z9),(25,.rep (.slice (.int .u8)) r3.2.1),(26,I (r3.2.1.length:Int)),(27,I y8.2)]) (λz9 y8=>[.obj b2 43 (.agg (.pair (I 0) (I 0))),.obj z5.1 121 (aI q4 z5.2),.sl z9 3 Ti y8.1,.inv z5.2 (bu k q4)]) (jC k a1 r3 q4) k (.slice none 0 0) (([]:(List Int)),0) (λ_=>rfl) h (SE.fin [4,1,0,2] ⟨rfl,rfl,rfl,rfl,rfl,rfl,rfl,trivial⟩ rfl) (λn z9 y8 h=>?_);unfold jC at h;refine sr (jb (bS rfl) ?_);refine nt (ai (ci h (λh=>?_) (λh=>?_)))
    .refine sk (aR (Z:=Value) (α:=(List Int)) (λc e=>[(1,I a1),(4,Pt b2),(6,.eq (.pointer (some ⟨z5.1,0,none⟩))),(9,.eq c),(25,.rep (.slice (.int .u8)) r3.2.1),(26,I (r3.2.1.length:Int)),(27,I y8.2)]) (λc e=>[.obj b2 43 (.agg (.pair (I 0) (I 0))),.obj z5.1 121 (aI q4 z5.2),.sl c 3 Ti e,.inv z5.2 (bu k q4)]) h (λK h=>?_) (λc e h=>?_))
     .refine ak (sr ?_);obtain⟨U,D,h⟩:=aa h;refine jb (bA (t:=(.int .u8)) rfl ql jd D) ?_;refine ja (aA (t:=(.int .u8)) rfl jd rfl) ?_;refine aq (nt (sr ?_));iterate 3 refine mq ?_
      obtain⟨u,O,h⟩:=aa h;refine fr 3 ?_;refine fr 2 ?_;refine aC (Δ:=[_,_]) (F:=_) (λ_ _ _=>ab rfl _) rfl rfl (ay [.tmp 31,.tmp 32,.tmp 33] rfl rfl JJ rfl (gg k q4 z5.1 z5.2 U a1 u O)) ⟨rfl,rfl,rfl,trivial⟩ λ_=>?_;refine aq (nt (sr ?_));refine mq ?_;refine jb (iN rfl) ?_;refine nt (ci h (λh=>?_) (λh=>?_))
      .refine ae ?_;iterate 2 refine mq ?_
       refine ja (aQ (t:=Ti) [(.tmp 38,_)] [u] rfl rfl cD (.cons rfl .int .nil) rfl rfl) ?_;obtain⟨gw,E,h⟩:=aa h;refine fr 3 ?_;refine fi rfl rfl rfl (c7 rfl rfl cD (ax E)) ⟨rfl,rfl,trivial⟩ λX=>?_;refine aq (aJ (bn ?_));exact jz (X,y8.1++[u]) h [3,1,0,2]
      .refine bi (bn ?_);exact jz (z9,y8.1) h [2,0,3,1]
     .refine ae ?_;obtain⟨Q,y,h⟩:=aa h;refine jb (bK rfl y) ?_;refine mq (nl ?_);exact jz (c,(e,Q)) h [0,1,2,3]
    .refine xa ?_;exact jz (z9,y8.1) h [0,2,3]
   .refine ai (sr (mq ?_));refine fr 1 ?_;refine ka (qH rfl rfl jp) ?_;refine jb (dE rfl) ?_;refine nt (ci h (λh=>?_) (λh=>?_))
    .refine sr (bX rfl (cJ [] rfl yt sb tc (fO trivial) rfl) trivial ?_);refine fr 1 ?_;refine aK rfl rfl (aD rfl pB trivial rfl rfl) ⟨rfl,rfl,trivial⟩ ?_;refine cq (nt (rx ?_));refine bL (dz (a:=.agg (.pair (I 0) (I 0))) (a':=.rep bJ (0,0)) (gk (.agg (.pair .int .int)))) ?_;cases h;exact aZ () [.rep bJ (0,0),_] 0 ⟨⟨_,_,_,_,_,rfl,(.head _),pB,(mW),rfl⟩,rfl,trivial⟩ rfl
    .refine sk (sr (mq ?_));obtain⟨l,M,h⟩:=aa h;refine ka (iv (N:=[(.tmp 46,.eq z7)]) (ap [.tmp 46] rfl rfl LZ rfl (mN k x6 l M)) (λ_ _ _ hv hn=>⟨(lend hn.1 hv),trivial⟩) (λ_=>⟨rfl,nk⟩)) ?_;refine mq ?_;obtain⟨j,J,h⟩:=aa h;refine ka (iv (N:=[(.tmp 48,.eq z7)]) (ap [.tmp 48] rfl rfl Oj rfl (sq k x6 j J)) (λ_ _ _ hv hn=>⟨(lend hn.1 hv),trivial⟩) (λ_=>⟨rfl,nk⟩)) ?_;refine jb (cJ [(0,.tmp 47,_),(1,.tmp 49,_)] rfl yt sb tc (fO ⟨rfl,rfl,trivial⟩) rfl) ?_;refine fr 1 ?_;refine aK rfl rfl (aD rfl pB trivial rfl rfl) ⟨rfl,rfl,trivial⟩ ?_;refine cq (nt (aF ?_));refine bL (dz (a:=.agg (.pair (I l) (I j))) (a':=.rep bJ (l,j)) (gk (.agg (.pair .int .int)))) ?_;cases h;exact aZ () [.rep bJ (l,j),_] 0 ⟨⟨_,_,_,_,_,rfl,(.head _),pB,(mW),rfl⟩,rfl,trivial⟩ rfl
def fp(k:Nat)(r2:(List (List Int)))(y6:Int×Int×(List (dM×dM))):Nat->Int->Option Int
 |0,_=>none
 |n+1,c=>
  ((if 0 < c then((ck (c - 1)).bind λl=>
  (bT r2 l).bind λj=>
  (bT j y6.1).bind λh=>
  some (decide (0≤h))) else(some false)):Option (Bool)).bind λr=>
  if r=true then((ck (c - 1)).bind λe=>
  fp k r2 y6 n e) else(some c)
def fq(k:Nat)(a0:am)(r2:(List (List Int))):Nat->(Int×Int×(List (dM×dM)))->Option (List (er×er))
 |0,_=>none
 |n+1,y6=>
  bE (α:=Int×Int×(List (dM×dM))) (((fp k r2 y6 k y6.2.1):Option (Int)).bind λc=>
  if c=0 then((d3 (wA (y6.1,y6.2.1))).bind λ_=>
  some (.error (yH y6.2.2 (y6.1,y6.2.1) ((-1:Int),0)))) else((ck (c - 1)).bind λr=>
  (bT r2 r).bind λl=>
  (ck (c - 1)).bind λj=>
  (dX k a0 l y6.1 j).bind λh=>
  (ck (c - 1)).bind λe=>
  (d3 (wA (y6.1,y6.2.1))).bind λ_=>
  some (.ok (h,e,yH y6.2.2 (y6.1,y6.2.1) (h,e))))) (some) λx8=>
  fq k a0 r2 n (x8.1,x8.2.1,x8.2.2)
def j9(k:Nat)(a0:am)(a1:Int)(a2:er):Option (List (er×er)):=
 (lg k a0 a1).bind λr2=>
 fq k a0 r2 k (a2.1,a2.2,([]:List (dM×dM)))
theorem pQ(k:Nat)(a0:am)(c z_a0:Nat)(a1:Int)(a2:er)(r:(List (er×er)))(h:j9 k a0 a1 a2=some r):
 bG (cS Tryz.prog) 46 [Pt c,.eq (.int .u8 a1),.rep bJ a2] [.obj c 121 (aI a0 z_a0),.inv z_a0 (bu k a0)] (λz:Nat=>(bO [.eq (.map (some z))],[.inv z (rI r),.obj c 121 (aI a0 z_a0),.inv z_a0 (bu k a0)])):=by
 unfold j9 at h
 replace h:=bz h
 refine bG.of 56 Tryz.func46 rfl Tryz.ntmps46 rfl λS w0=>?_
 refine sr ?_
 refine bx λb1=>?_
 refine cq ?_
 refine nt ?_
 refine sr ?_
 iterate 2 refine mq ?_
 obtain⟨r2,PK,h⟩:=aa h
 have PL:=me k a0 c z_a0 a1 r2 PK
 refine fr 2 ?_
 refine fr 2 ?_
 refine aC (Δ:=[_,_]) (F:=_) (λ_ _ _=>ab rfl _) rfl rfl (ay [.tmp 12,.tmp 13] rfl rfl yW rfl PL) ⟨rfl,rfl,trivial⟩ λ_=>?_
 refine aS rfl rfl rfl (aY rfl BL EJ) trivial λb3=>?_
 refine aK rfl rfl (aD rfl CL rfl rfl rfl) ⟨rfl,rfl,trivial⟩ ?_
 refine d4 (iu (t:=(.arr 7 Tr)) (x:=r2) [7] .rep ⟨rfl,trivial⟩) ?_
 refine nt ?_
 refine sr ?_
 refine aS rfl rfl rfl (uA rfl) trivial λz4=>?_
 refine d4 (rj (rI []) FV) ?_
 refine aq ?_
 refine nt ?_
 refine sr ?_
 refine aS rfl rfl rfl (aY rfl wh EI) trivial λb5=>?_
 refine nt ?_
 refine sr ?_
 refine fl yO ?_
 refine aK rfl rfl (aD rfl cL rfl rfl rfl) ⟨rfl,rfl,trivial⟩ ?_
 refine nt ?_
 refine ak ?_
 refine bR 4 rfl ?_
 refine i8 (dz (a:=.rep bJ a2) (a':=.agg (.pair (I a2.1) (I a2.2))) (AE.trans Az (AE.agg (AE.trans xX (AE.pair AE.int AE.int))))) ?_
 refine aW (λz7 y6=>[(0,Pt c),(5,Pt b1),(7,.at (.arr 7 Tr) r2),(8,.eq (.map (some z4))),(9,Pt b5)]) (λz7 y6=>[.obj c 121 (aI a0 z_a0),.obj b1 86 (.agg (.pair (I y6.1) (I y6.2.1))),.obj b5 86 (.agg (.pair (I (-1:Int)) (I 0))),.inv z_a0 (bu k a0),.inv z4 (rI y6.2.2)]) (fq k a0 r2) k () (a2.1,a2.2,([]:List (dM×dM))) (λ_=>rfl) h (SE.fin [3,0,1,4,2] ⟨rfl,rfl,rfl,rfl,rfl,trivial⟩ rfl) (λn z7 y6 h=>?_)
 unfold fq at h
 refine E8 (Z:=Unit) (α:=Int×Int×(List (dM×dM))) (λz9 x8=>[(0,Pt c),(5,Pt b1),(7,.at (.arr 7 Tr) r2),(8,.eq (.map (some z4))),(9,Pt b5)]) (λz9 x8=>[.obj c 121 (aI a0 z_a0),.obj b1 86 (.agg (.pair (I x8.1) (I x8.2.1))),.obj b5 86 (.agg (.pair (I (-1:Int)) (I 0))),.inv z_a0 (bu k a0),.inv z4 (rI x8.2.2)]) (λe=>e=r) h (λe h=>Option.some.inj h) (λK hR h=>?_) (λz9 x8 h=>?_)
 .
  refine ak (sr (fl Jz ?_));refine fr 1 ?_;refine lo cL ?_;refine aq (nt ?_);refine aR (Z:=Unit) (α:=Int) (λO D=>[(0,Pt c),(5,Pt b1),(7,.at (.arr 7 Tr) r2),(8,.eq (.map (some z4))),(9,Pt b5),(10,I D)]) (λO D=>[.obj c 121 (aI a0 z_a0),.obj b1 86 (.agg (.pair (I y6.1) (I y6.2.1))),.obj b5 86 (.agg (.pair (I (-1:Int)) (I 0))),.inv z_a0 (bu k a0),.inv z4 (rI y6.2.2)]) h (λK h=>?_) (λO D h=>?_)
  .refine ak (aW (λM s=>[(0,Pt c),(5,Pt b1),(7,.at (.arr 7 Tr) r2),(8,.eq (.map (some z4))),(9,Pt b5),(10,I s)]) (λM s=>[.obj c 121 (aI a0 z_a0),.obj b1 86 (.agg (.pair (I y6.1) (I y6.2.1))),.obj b5 86 (.agg (.pair (I (-1:Int)) (I 0))),.inv z_a0 (bu k a0),.inv z4 (rI y6.2.2)]) (fp k r2 y6) k () y6.2.1 (λ_=>rfl) h (SE.fin [1,0,2,3,4] ⟨rfl,rfl,rfl,rfl,rfl,rfl,trivial⟩ rfl) (λn M s h=>?_));unfold fp at h;refine ai (aR (Z:=Unit) (α:=Bool) (λJ y=>[(0,Pt c),(5,Pt b1),(7,.at (.arr 7 Tr) r2),(8,.eq (.map (some z4))),(9,Pt b5),(10,I s),(30,.eq (.bool y))]) (λJ y=>[.obj c 121 (aI a0 z_a0),.obj b1 86 (.agg (.pair (I y6.1) (I y6.2.1))),.obj b5 86 (.agg (.pair (I (-1:Int)) (I 0))),.inv z_a0 (bu k a0),.inv z4 (rI y6.2.2)]) h (λK h=>?_) (λJ y h=>?_))
   .refine dn ?_;refine dm ?_;refine db (lA rfl) ?_;refine vZ rfl rfl rfl (bW rfl) ⟨rfl,trivial⟩ (λhb=>?_) (λhb=>?_)
    .replace h:=cj (qf hb) h;refine dq rfl rfl rfl rfl rfl (bW rfl) ⟨rfl,rfl,trivial⟩ ?_;obtain⟨PT,Pe,h⟩:=aa h;refine dq rfl rfl rfl rfl rfl (fy rfl Pe) ⟨rfl,rfl,rfl,trivial⟩ ?_;refine dq rfl rfl rfl rfl rfl (bg rfl yO) ⟨rfl,rfl,trivial⟩ ?_;refine jJ 1 rfl rfl rfl rfl rfl rfl (aL rfl cL rM rfl) ⟨rfl,rfl,trivial⟩ ?_;obtain⟨PS,O9,h⟩:=aa h;refine dq rfl rfl rfl rfl rfl (ce (t:=Tr) rfl EO gB O9) ⟨rfl,rfl,rfl,trivial⟩ ?_;refine df fa ?_;obtain⟨Po,zM,h⟩:=aa h;refine gb (ce (t:=Ti) rfl yd cL zM) ?_;refine ga (aA (t:=Ti) rfl cL rfl) ?_;refine gb (iN rfl) ?_;refine pt (nl ?_);exact jz ((),decide (0≤Po)) h [0,1,2,3,4]
    .replace h:=bh (qg hb) h;iterate 5 refine dg ?_
     refine df fa ?_;iterate 3 refine gn ?_
     refine pf (nl ?_);exact jz ((),false) h [0,1,2,3,4]
   .refine cv h (λh=>?_) (λh=>?_)
    .refine sk (ak (ae (mq ?_)));obtain⟨Pn,zz,h⟩:=aa h;refine jb (fy rfl zz) ?_;refine aq (aJ (bn ?_));exact jz ((),Pn) h [0,1,2,3,4]
    .refine xa ?_;exact jz ((),s) h [0,1,2,3,4]
  .refine ai (sr (mq ?_));refine jb (dE rfl) ?_;refine nt (ci h (λh=>?_) (λh=>?_))
   .refine sr (mq ?_);refine fr 1 ?_;refine lo mK ?_;refine fr 2 ?_;refine lo mK ?_;refine d4 (cU (t:=bJ) (x:=(y6.1,y6.2.1)) 36 rfl (.agg (.pair .int .int)) trivial rfl) ?_;obtain⟨P8,Pi,h⟩:=aa h;refine d4 (cU (t:=bJ) (x:=((-1:Int),0)) 37 rfl (.agg (.pair .int .int)) trivial rfl) ?_;refine fr 4 ?_;refine aK rfl rfl (pI (K:=jT) (V:=jT) (t:=(y6.1,y6.2.1)) (n:=((-1:Int),0)) (l:=y6.2.2) (λ_ _ _ h=>lL h) rfl KI lq (λ_ _ _ h=>lL h) (pz (ax Pi)) (py _) pA) ⟨rfl,rfl,rfl,trivial⟩ ?_;refine nt (sr (mq ?_));refine aq (nt (rx (br (bo ?_))));refine bL (SE.fin (Γ':=[(6,_)]) [0,3,4,1,2] ⟨rfl,trivial⟩ rfl) ?_;obtain rfl:=hR _ h;exact aZ z4 [.eq (.map (some z4))] 3 ⟨rfl,trivial⟩ rfl
   .refine sk (ai (nA ?_));refine co rfl rfl rfl (bW rfl) ⟨rfl,trivial⟩ ?_;refine co rfl rfl rfl (bW rfl) ⟨rfl,trivial⟩ ?_;obtain⟨PR,qt,h⟩:=aa h;refine co rfl rfl rfl (fy rfl qt) ⟨rfl,rfl,trivial⟩ ?_;obtain⟨Pm,pq,h⟩:=aa h;refine co rfl rfl rfl (ce (t:=Tr) rfl EO gB pq) ⟨rfl,rfl,trivial⟩ ?_;refine co rfl rfl rfl (aA (t:=Tr) rfl gB rfl) ⟨rfl,trivial⟩ ?_;refine co rfl rfl rfl (bg rfl yO) ⟨rfl,trivial⟩ ?_;refine fS 1 rfl rfl rfl rfl (aL rfl cL rM rfl) ⟨rfl,trivial⟩ ?_;refine co rfl rfl rfl (bW rfl) ⟨rfl,trivial⟩ ?_;obtain⟨Pl,mw,h⟩:=aa h;refine co rfl rfl rfl (fy rfl mw) ⟨rfl,rfl,trivial⟩ ?_;obtain⟨j,Pj,h⟩:=aa h;refine fS 0 rfl rfl rfl rfl (ap [.tmp 39,.tmp 43,.tmp 45,.tmp 47] rfl rfl LR rfl (mD k a0 c z_a0 Pm y6.1 Pl j Pj)) ⟨rfl,rfl,rfl,rfl,trivial⟩ ?_;refine co rfl rfl rfl (bW rfl) ⟨rfl,trivial⟩ ?_;obtain⟨u,mc,h⟩:=aa h;refine co rfl rfl rfl (fy rfl mc) ⟨rfl,rfl,trivial⟩ ?_;refine co rfl rfl rfl (cJ [(0,.tmp 48,_),(1,.tmp 50,_)] rfl Jg wh EG (fO ⟨rfl,rfl,trivial⟩) rfl) ⟨rfl,rfl,trivial⟩ ?_;refine H4 (Je 86 (.agg (.pair (I 0) (I 0)))) (λ_=>rfl) rfl rfl rfl (aY rfl wh EI) trivial ?_;refine tG 14 [true,true,true,true,true,true,true,true,true,true,true,true,true,true] [] [] [] rfl (by kernel_rfl) (by kernel_rfl) (by kernel_rfl) fa (λvs hv hB=>?_);obtain⟨w0,P6,rfl,PI⟩:=aM hv;obtain⟨w1,P5,rfl,PH⟩:=aM PI;obtain⟨w2,P4,rfl,PG⟩:=aM PH;obtain⟨w3,P3,rfl,PE⟩:=aM PG;obtain⟨w4,P2,rfl,PD⟩:=aM PE;obtain⟨w5,P1,rfl,PC⟩:=aM PD;obtain⟨w6,P0,rfl,Pz⟩:=aM PC;obtain⟨w7,PZ,rfl,Py⟩:=aM Pz;obtain⟨w8,PY,rfl,Px⟩:=aM Py;obtain⟨w9,PQ,rfl,gw⟩:=aM Px;obtain⟨PX,PP,rfl,Y⟩:=aM gw;obtain⟨PW,PO,rfl,X⟩:=aM Y;obtain⟨PV,PN,rfl,U⟩:=aM X;obtain⟨PU,PM,rfl,Q⟩:=aM U;obtain rfl:=pV Q;obtain⟨E,rfl⟩:=Jd hB.2.2.2.2.2.2.2.2.2.2.2.2.2.1;refine⟨[0,1,2,3,4,5],[.obj c 121 (aI a0 z_a0),.obj b1 86 (.agg (.pair (I y6.1) (I y6.2.1))),.obj b5 86 (.agg (.pair (I (-1:Int)) (I 0))),.inv z_a0 (bu k a0),.inv z4 (rI y6.2.2),.obj E 86 (.agg (.pair (I 0) (I 0)))],by kernel_rfl,by decide,?_⟩;refine qp 5 rfl ?_;refine ny rfl rfl (aD rfl mK trivial rfl rfl) ⟨rfl,rfl,trivial⟩ (by kernel_rfl) ?_;refine zg ?_;refine bL (SE.fin (Γ':=[(0,Pt c),(5,Pt b1),(7,.at (.arr 7 Tr) r2),(8,.eq (.map (some z4))),(9,Pt b5),(11,Pt E)]) (Δ':=[.obj E 86 (.agg (.pair (I j) (I u))),.obj c 121 (aI a0 z_a0),.obj b1 86 (.agg (.pair (I y6.1) (I y6.2.1))),.obj b5 86 (.agg (.pair (I (-1:Int)) (I 0))),.inv z_a0 (bu k a0),.inv z4 (rI y6.2.2)]) [0,1,2,3,4,5] ⟨rfl,rfl,rfl,rfl,rfl,rfl,trivial⟩ rfl) ?_;refine tn (sr (mq ?_));refine fr 2 ?_;refine lo mK ?_;refine fr 1 ?_;refine lo mK ?_;refine d4 (cU (t:=bJ) (x:=(y6.1,y6.2.1)) 53 rfl (.agg (.pair .int .int)) trivial rfl) ?_;obtain⟨P7,Pg,h⟩:=aa h;refine d4 (cU (t:=bJ) (x:=(j,u)) 54 rfl (.agg (.pair .int .int)) trivial rfl) ?_;refine fr 5 ?_;refine aK rfl rfl (pI (K:=jT) (V:=jT) (t:=(y6.1,y6.2.1)) (n:=(j,u)) (l:=y6.2.2) (λ_ _ _ h=>lL h) rfl KI lq (λ_ _ _ h=>lL h) (pz (ax Pg)) (py _) pA) ⟨rfl,rfl,rfl,trivial⟩ ?_
    refine nt (ae (fr 1 ?_));refine lo mK ?_;refine fr 2 ?_;refine aK rfl rfl (aD rfl mK trivial rfl rfl) ⟨rfl,rfl,trivial⟩ ?_;refine aJ (bn ?_);exact jz ((),(j,u,yH y6.2.2 (y6.1,y6.2.1) (j,u))) h [3,0,4,5,2]
 .
  refine au ?_;exact jz ((),(x8.1,x8.2.1,x8.2.2)) h [0,1,2,3,4]
def jG(k:Nat)(r7:(List (er×er))):Nat->(Int×Int×(List Int))->Option (List Int)
 |0,_=>none
 |n+1,c=>
  (d3 (wA (c.1,c.2.1))).bind λ_=>
  if¬((l7 r7 (c.1,c.2.1) (0,0))=((-1:Int),0)) then((d3 (wA (c.1,c.2.1))).bind λ_=>
  (d3 (dR (length c.2.2+length [(l7 r7 (c.1,c.2.1) (0,0)).1]))).bind λ_=>
  (d3 (wA (c.1,c.2.1))).bind λ_=>
  jG k r7 n ((l7 r7 (c.1,c.2.1) (0,0)).1,(l7 r7 (c.1,c.2.1) (0,0)).2,c.2.2++[(l7 r7 (c.1,c.2.1) (0,0)).1])) else(some c.2.2)
def nL(k:Nat)(a0:am)(a1:(List Int))(a2:Int):Option ((List Int)×Int):=
 (iQ k a0 a1 [a2] ([]:(List Int)) ([]:(List Int))).bind λr2=>
 eQ r2.1 (if¬(r2.2.2=0) then(some (([]:(List Int)),r2.2.2)) else(none)) (λq3=>if¬(r2.2.2=0) then(some (([]:(List Int)),r2.2.2)) else((eX k q3 r2.2.1 a2).bind λr5=>
 if r5 < 0 then(some (([]:(List Int)),11)) else((j9 k q3 r2.2.1 (a2,r5)).bind λr7=>
 ((jG k r7 k (a2,r5,[a2])):Option ((List Int))).bind λc=>
 (jf k c).bind λe=>
 some (e,0))))
theorem pT(k:Nat)(a0:am)(a1:(List Int))(a2:Int)(r:(List Int)×Int)(h:nL k a0 a1 a2=some r):
 bG (cS Tryz.prog) 16 [.rep an a0,.rep Tl a1,I a2] [] (λ_:Unit=>(bO [.rep Tl r.1,I r.2],[])):=by
 unfold nL at h
 replace h:=bz h
 refine bG.of 64 Tryz.func16 rfl Tryz.ntmps16 rfl λS w0=>?_
 refine sr ?_
 refine bx λb1=>?_
 refine cq ?_
 refine cq ?_
 refine nt ?_
 refine sr ?_
 refine lo c6 ?_
 iterate 2 refine mq ?_
 refine ja (aQ (t:=Ti) [(.tmp 19,_)] [a2] rfl rfl cD (.cons rfl .int .nil) rfl rfl) ?_
 obtain⟨r2,Y,h⟩:=aa h
 have u:=gr k a0 a1 [a2] ([]:(List Int)) ([]:(List Int)) r2 Y
 rcases hr:r2.1 with _ |q3
 .
  rw [hr] at h u;replace h:=oe h;refine aC (Δ:=[]) (F:=_) (λ_ _ _=>ab rfl _) rfl rfl (aE (N:=[(.tmp 17,.rep an a0),(.tmp 18,.rep Tl a1),(.tmp 20,.rep Tl [a2]),(.const (.slice none 0 0),.eq (.slice none 0 0)),(.const (.slice none 0 0),.eq (.slice none 0 0))]) (ay [.tmp 17,.tmp 18,.tmp 20,.const (.slice none 0 0),.const (.slice none 0 0)] rfl rfl rR rfl u) λ_ _ _ hn=>⟨hn.1,hn.2.1,hn.2.2.1,(aj (t:=Tl) (x:=([]:(List Int))) .nil rfl rfl hn.2.2.2.1),(aj (t:=Tl) (x:=([]:(List Int))) .nil rfl rfl hn.2.2.2.2.1),trivial⟩) ⟨rfl,rfl,rfl,rfl,rfl,trivial⟩ λ_=>?_;refine mq ?_;refine xr ?_;refine xr ?_;refine xr ?_;refine aq ?_;refine aq ?_;refine aq (nt (ai (sr ?_)));refine mq ?_;refine jb (bV rfl) ?_;refine nt (cn h (λh=>?_) (λh=>?_))
  .refine sr (mq ?_);refine cq ?_;refine aq (nt (rx ?_));refine bL (cU (t:=Tl) (x:=([]:(List Int))) 6 rfl .nil rfl rfl) ?_;cases h;exact rb
  .cases h
 .
  rw [hr] at h u;replace h:=oc h;refine aC (Δ:=[]) (F:=_) (λ_ _ _=>ab rfl _) rfl rfl (aE (N:=[(.tmp 17,.rep an a0),(.tmp 18,.rep Tl a1),(.tmp 20,.rep Tl [a2]),(.const (.slice none 0 0),.eq (.slice none 0 0)),(.const (.slice none 0 0),.eq (.slice none 0 0))]) (ay [.tmp 17,.tmp 18,.tmp 20,.const (.slice none 0 0),.const (.slice none 0 0)] rfl rfl rR rfl u) λ_ _ _ hn=>⟨hn.1,hn.2.1,hn.2.2.1,(aj (t:=Tl) (x:=([]:(List Int))) .nil rfl rfl hn.2.2.2.1),(aj (t:=Tl) (x:=([]:(List Int))) .nil rfl rfl hn.2.2.2.2.1),trivial⟩) ⟨rfl,rfl,rfl,rfl,rfl,trivial⟩ λz4=>?_;refine mq ?_;refine xr ?_;refine xr ?_;refine xr ?_;refine aq ?_;refine aq ?_;refine aq (nt (ai (sr ?_)));refine mq ?_;refine jb (bV rfl) ?_;refine nt (cn h (λh=>?_) (λh=>?_))
  .refine sr (mq ?_);refine cq ?_;refine aq (nt (rx ?_));refine bL (cU (t:=Tl) (x:=([]:(List Int))) 6 rfl .nil rfl rfl) ?_;cases h;exact rb
  .refine sk (sr ?_);iterate 3 refine mq ?_
   obtain⟨r5,X,h⟩:=aa h;refine fr 1 ?_;refine fr 1 ?_;refine aC (Δ:=[_,_]) (F:=_) (λ_ _ _=>ab rfl _) rfl rfl (ay [.tmp 28,.tmp 29,.tmp 30] rfl rfl JJ rfl (gg k q3 z4.1 z4.2 r2.2.1 a2 r5 X)) ⟨rfl,rfl,rfl,trivial⟩ λ_=>?_;refine aq (nt (ai (sr ?_)));refine mq ?_;refine jb (bS rfl) ?_;refine nt (ci h (λh=>?_) (λh=>?_))
   .refine sr (cq ?_);refine cq (nt (rx ?_));refine bL (cU (t:=Tl) (x:=([]:(List Int))) 6 rfl .nil rfl rfl) ?_;cases h;exact rb
   .refine sk (sr ?_);iterate 2 refine mq ?_
    refine jb (cJ [(0,.tmp 34,_),(1,.tmp 35,_)] rfl Jg wh EG (fO ⟨rfl,rfl,trivial⟩) rfl) ?_;refine aS rfl rfl rfl (aY rfl wh EI) trivial λb6=>?_;refine aK rfl rfl (aD rfl mK trivial rfl rfl) ⟨rfl,rfl,trivial⟩ ?_;refine nt (sr ?_);iterate 2 refine mq ?_
    refine lo mK ?_;obtain⟨r7,U,h⟩:=aa h;refine fr 2 ?_;refine fr 2 ?_;refine aC (Δ:=[_,_]) (F:=_) (λ_ _ _=>ab rfl _) rfl rfl (aE (N:=[(.tmp 37,.eq (.pointer (some ⟨z4.1,0,none⟩))),(.tmp 38,.eq (.int .u8 r2.2.1)),(.tmp 39,.agg (.pair (I a2) (I r5)))]) (ay [.tmp 37,.tmp 38,.tmp 39] rfl rfl Oi rfl (pQ k q3 z4.1 z4.2 r2.2.1 (a2,r5) r7 U)) λ_ _ _ hn=>⟨hn.1,hn.2.1,(aj (t:=bJ) (x:=(a2,r5)) (.agg (.pair .int .int)) trivial rfl hn.2.2.1),trivial⟩) ⟨rfl,rfl,rfl,trivial⟩ λz8=>?_;refine aq (nt (sr ?_));refine mq ?_;refine aS rfl rfl rfl (il (t:=Ti) [(.tmp 41,_)] [a2] rfl rfl cD (.cons rfl .int .nil) rfl rfl) ⟨rfl,trivial⟩ λv9=>?_;refine aq (nt ?_);refine aR (Z:=Value) (α:=(List Int)) (λj s=>[(13,.eq (.map (some z8))),(14,.eq j)]) (λj s=>[.sl j 3 Ti s,.inv z4.2 (bu k q3),.inv z8 (rI r7)]) h (λK h=>?_) (λj s h=>?_)
    .refine sr (ja (cJ [(0,.const (.int .i64 (-1)),_)] rfl Jg wh EG (fO ⟨rfl,trivial⟩) rfl) ?_);refine aS rfl rfl rfl (aY rfl wh EI) trivial λmc=>?_;refine aK rfl rfl (aD rfl mK trivial rfl rfl) ⟨rfl,rfl,trivial⟩ ?_;refine nt (ak (aW (λe c=>[(12,Pt b6),(13,.eq (.map (some z8))),(14,.eq e.1),(15,.eq (.pointer (some ⟨e.2,0,none⟩)))]) (λe c=>[.obj b6 86 (.agg (.pair (I c.1) (I c.2.1))),.sl e.1 3 Ti c.2.2,.obj e.2 86 (.agg (.pair (I (-1:Int)) (I 0))),.inv z4.2 (bu k q3),.inv z8 (rI r7)]) (jG k r7) k (v9,mc) (a2,r5,[a2]) (λ_=>rfl) h (SE.fin [5,1,0,4,2] ⟨rfl,rfl,rfl,rfl,trivial⟩ rfl) (λn e c h=>?_)));unfold jG at h;refine ai (ai (dn ?_));refine dm ?_;refine ea 0 (aL rfl mK (mW) rfl) ?_;obtain⟨qt,J,h⟩:=aa h;refine eb 4 (aE (N:=[(.tmp 44,.eq (.map (some z8))),(.tmp 45,.agg (.pair (I c.1) (I c.2.1)))]) (qG (K:=jT) (V:=jT) (t:=(c.1,c.2.1)) (l:=r7) (λn=>.rep bJ n) sj rfl KI (0,0) sf lq (λ_ _ _ h=>lL h) (pz (ax J)) (py _) pA) λ_ _ _ hn=>⟨hn.1,(aj (t:=bJ) (x:=(c.1,c.2.1)) (.agg (.pair .int .int)) trivial rfl hn.2.1),trivial⟩) ?_;refine ea 2 (aL rfl mK (mW) rfl) ?_;refine df fa ?_;refine d4 (cU (t:=bJ) (x:=((-1:Int),0)) 47 rfl (.agg (.pair .int .int)) trivial rfl) ?_;refine jb (yw rfl N5 rfl) ?_;refine nt (cn h (λh=>?_) (λh=>?_))
     .refine sk (ai (ak (ae ?_)));iterate 2 refine mq ?_
      refine lo mK ?_;refine d4 (cU (t:=bJ) (x:=(c.1,c.2.1)) 54 rfl (.agg (.pair .int .int)) trivial rfl) ?_;obtain⟨u16,E,h⟩:=aa h;refine fr 4 ?_;refine kb (aE (N:=[(.tmp 53,.eq (.map (some z8))),(.tmp 54,.rep bJ (c.1,c.2.1))]) (qG (K:=jT) (V:=jT) (t:=(c.1,c.2.1)) (l:=r7) (λn=>.rep bJ n) sj rfl KI (0,0) sf lq (λ_ _ _ h=>lL h) (pz (ax E)) (py _) pA) λ_ _ _ hn=>⟨hn.1,hn.2.1,trivial⟩) ?_;refine ja (Gw rfl O4 rfl cL (λ_=>rfl) rfl rfl rfl) ?_;refine ja (aQ (t:=Ti) [(.tmp 56,_)] [(l7 r7 (c.1,c.2.1) (0,0)).1] rfl rfl cD (.cons rfl .int .nil) rfl rfl) ?_;obtain⟨pq,D,h⟩:=aa h;refine fr 2 ?_;refine fi rfl rfl rfl (c7 rfl rfl cD (ax D)) ⟨rfl,rfl,trivial⟩ λO=>?_;refine aq (aJ (aV (tn (ai (sr ?_)))));refine fr 3 ?_;refine lo mK ?_;refine nt (ae (aS rfl rfl rfl (aY rfl wh EI) trivial λgw=>?_));refine aK rfl rfl (aD rfl mK trivial rfl rfl) ⟨rfl,rfl,trivial⟩ ?_;refine nt (ae (mq ?_));refine fr 4 ?_;refine lo mK ?_;refine d4 (cU (t:=bJ) (x:=(c.1,c.2.1)) 50 rfl (.agg (.pair .int .int)) trivial rfl) ?_;obtain⟨mw,y,h⟩:=aa h;refine fr 4 ?_;refine kb (aE (N:=[(.tmp 49,.eq (.map (some z8))),(.tmp 50,.rep bJ (c.1,c.2.1))]) (qG (K:=jT) (V:=jT) (t:=(c.1,c.2.1)) (l:=r7) (λn=>.rep bJ n) sj rfl KI (0,0) sf lq (λ_ _ _ h=>lL h) (pz (ax y)) (py _) pA) λ_ _ _ hn=>⟨hn.1,hn.2.1,trivial⟩) ?_;refine fr 1 ?_;refine aK rfl rfl (aD rfl mK rfl rfl rfl) ⟨rfl,rfl,trivial⟩ ?_;refine nl (bL (dz (a:=.rep bJ (l7 r7 (c.1,c.2.1) (0,0))) (a':=.agg (.pair (I ((l7 r7 (c.1,c.2.1) (0,0)).1)) (I ((l7 r7 (c.1,c.2.1) (0,0)).2)))) (AE.trans Az (AE.agg (AE.trans xX (AE.pair AE.int AE.int))))) ?_);exact jz ((O,gw),((l7 r7 (c.1,c.2.1) (0,0)).1,(l7 r7 (c.1,c.2.1) (0,0)).2,c.2.2++[(l7 r7 (c.1,c.2.1) (0,0)).1])) h [0,4,2,5,1]
     .refine xa ?_;exact jz (e.1,c.2.2) h [1,3,4]
    .refine sr (mq ?_);refine fr 2 ?_;refine aK rfl rfl (Dl rfl rfl KI) ⟨rfl,trivial⟩ ?_;refine nt (sr (mq ?_));obtain⟨Q,M,h⟩:=aa h;refine fr 1 ?_;refine ka (ap [.tmp 61] rfl rfl Oh rfl (oK k s j Q M)) ?_;refine nt (sr (mq ?_));refine aq ?_;refine cq (nt (aF ?_));refine bL (jq [6,14,61,63] ⟨rfl,rfl,rfl,rfl,trivial⟩) ?_;cases h;exact rb
def kP(k:Nat)(a0:am)(a1:Int)(r2:(Option am)×(List Int)×Int)(q3:am)(y7:(List Int)×Int):Nat->(Int×Int)->Option Int
 |0,_=>none
 |n+1,c=>
  if c.2 < (r2.2.1.length:Int) then((((bT r2.2.1 c.2).bind λr=>
  (lg k q3 r).bind λu=>
  (bT u a1).bind λl=>
  (bT l y7.2).bind λj=>
  if a0.2.2.1≤j then((ck (c.1+1)).bind λh=>
  some h) else(some c.1)):Option (Int)).bind λs=>
  (ck (c.2+1)).bind λe=>
  kP k a0 a1 r2 q3 y7 n (s,e)) else(some c.1)
def kQ(k:Nat)(a0:am)(a1:Int)(r2:(Option am)×(List Int)×Int)(q3:am):Nat->((List Int)×Int)->Option (List Int)
 |0,_=>none
 |n+1,y7=>
  if y7.2 < a0.1 then(((((kP k a0 a1 r2 q3 y7 k (0,0)):Option (Int)).bind λc=>
  (ck ((r2.2.1.length:Int) - c)).bind λe=>
  (d3 (dR (length y7.1+length [uc c e]))).bind λ_=>
  some (y7.1++[uc c e])):Option ((List Int))).bind λx9=>
  (ck (y7.2+1)).bind λh=>
  kQ k a0 a1 r2 q3 n (x9,h)) else(some y7.1)
def nh(k:Nat)(a0:am)(a1:Int):Option (Int×Int×Int):=
 (gu k a0 ([]:(List Int)) ([]:(List Int)) [a1]).bind λr2=>
 eQ r2.1 (if¬(r2.2.2=0) then(some (0,0,r2.2.2)) else(none)) (λq3=>if¬(r2.2.2=0) then(some (0,0,r2.2.2)) else(((kQ k a0 a1 r2 q3 k (([]:(List Int)),0)):Option ((List Int))).bind λx5=>
 (kF k x5).bind λc=>
 if(r2.2.1.length:Int)≤c then(some (0,0,11)) else((iz k x5 c).bind λe=>
 some (e,c,0))))
theorem ng(k:Nat)(a0:am)(a1:Int)(r:Int×Int×Int)(h:nh k a0 a1=some r):
 bG (cS Tryz.prog) 20 [.rep an a0,I a1] [] (λ_:Unit=>(bO [I r.1,I r.2.1,I r.2.2],[])):=by
 unfold nh at h
 replace h:=bz h
 refine bG.of 71 Tryz.func20 rfl Tryz.ntmps20 rfl λS w0=>?_
 refine sr ?_
 refine bx λb1=>?_
 refine cq ?_
 refine cq ?_
 refine cq ?_
 refine nt ?_
 refine sr ?_
 refine lo c6 ?_
 refine mq ?_
 refine ja (aQ (t:=Ti) [(.tmp 18,_)] [a1] rfl rfl cD (.cons rfl .int .nil) rfl rfl) ?_
 obtain⟨r2,Pl,h⟩:=aa h
 have s:=fJ k a0 ([]:(List Int)) ([]:(List Int)) [a1] r2 Pl
 rcases hr:r2.1 with _ |q3
 .
  rw [hr] at h s;replace h:=oe h;refine aC (Δ:=[]) (F:=_) (λ_ _ _=>ab rfl _) rfl rfl (aE (N:=[(.tmp 17,.rep an a0),(.const (.slice none 0 0),.eq (.slice none 0 0)),(.const (.slice none 0 0),.eq (.slice none 0 0)),(.tmp 19,.rep Tl [a1])]) (ay [.tmp 17,.const (.slice none 0 0),.const (.slice none 0 0),.tmp 19] rfl rfl rQ rfl s) λ_ _ _ hn=>⟨hn.1,(aj (t:=Tl) (x:=([]:(List Int))) .nil rfl rfl hn.2.1),(aj (t:=Tl) (x:=([]:(List Int))) .nil rfl rfl hn.2.2.1),hn.2.2.2.1,trivial⟩) ⟨rfl,rfl,rfl,rfl,trivial⟩ λ_=>?_;refine mq ?_;refine xr ?_;refine xr ?_;refine xr ?_;refine aq ?_;refine aq ?_;refine aq (nt (ai (sr ?_)));refine mq ?_;refine jb (bV rfl) ?_;refine nt (cn h (λh=>?_) (λh=>?_))
  .refine sr (mq ?_);refine cq ?_;refine cq ?_;refine aq (nt (rx ?_));cases h;exact aZ () [_,_,_] 0 ⟨rfl,rfl,rfl,trivial⟩ rfl
  .cases h
 .
  rw [hr] at h s;replace h:=oc h;refine aC (Δ:=[]) (F:=_) (λ_ _ _=>ab rfl _) rfl rfl (aE (N:=[(.tmp 17,.rep an a0),(.const (.slice none 0 0),.eq (.slice none 0 0)),(.const (.slice none 0 0),.eq (.slice none 0 0)),(.tmp 19,.rep Tl [a1])]) (ay [.tmp 17,.const (.slice none 0 0),.const (.slice none 0 0),.tmp 19] rfl rfl rQ rfl s) λ_ _ _ hn=>⟨hn.1,(aj (t:=Tl) (x:=([]:(List Int))) .nil rfl rfl hn.2.1),(aj (t:=Tl) (x:=([]:(List Int))) .nil rfl rfl hn.2.2.1),hn.2.2.2.1,trivial⟩) ⟨rfl,rfl,rfl,rfl,trivial⟩ λz4=>?_;refine mq ?_;refine xr ?_;refine xr ?_;refine xr ?_;refine aq ?_;refine aq ?_;refine aq (nt (ai (sr ?_)));refine mq ?_;refine jb (bV rfl) ?_;refine nt (cn h (λh=>?_) (λh=>?_))
  .refine sr (mq ?_);refine cq ?_;refine cq ?_;refine aq (nt (rx ?_));cases h;exact aZ () [_,_,_] 0 ⟨rfl,rfl,rfl,trivial⟩ rfl
  .refine sk (sr (cq (nt ?_)));refine aR (Z:=Value) (α:=(List Int)) (λz6 x5=>[(8,.rep (.slice (.int .u8)) r2.2.1),(10,.eq z6)]) (λz6 x5=>[.sl z6 3 Ti x5,.inv z4.2 (bu k q3)]) h (λK h=>?_) (λz6 x5 h=>?_)
   .refine sr (fl g7 ?_);refine fr 2 ?_;refine lo cL ?_;refine dx rfl ?_;refine nt (ak (i8 (SE.nil 3 Ti) ?_));refine aW (λz8 y7=>[(1,I a1),(2,Pt b1),(7,.eq (.pointer (some ⟨z4.1,0,none⟩))),(8,.rep (.slice (.int .u8)) r2.2.1),(10,.eq z8),(28,I a0.1),(29,I y7.2)]) (λz8 y7=>[.obj b1 25 (.rep an a0),.obj z4.1 121 (aI q3 z4.2),.sl z8 3 Ti y7.1,.inv z4.2 (bu k q3)]) (kQ k a0 a1 r2 q3) k (.slice none 0 0) (([]:(List Int)),0) (λ_=>rfl) h (SE.fin [1,2,0,3] ⟨rfl,rfl,rfl,rfl,rfl,rfl,rfl,trivial⟩ rfl) (λn z8 y7 h=>?_);unfold kQ at h;refine sr (jb (bS rfl) ?_);refine nt (ai (ci h (λh=>?_) (λh=>?_)))
    .refine sk (aR (Z:=Value) (α:=(List Int)) (λe x9=>[(1,I a1),(2,Pt b1),(7,.eq (.pointer (some ⟨z4.1,0,none⟩))),(8,.rep (.slice (.int .u8)) r2.2.1),(10,.eq e),(28,I a0.1),(29,I y7.2)]) (λe x9=>[.obj b1 25 (.rep an a0),.obj z4.1 121 (aI q3 z4.2),.sl e 3 Ti x9,.inv z4.2 (bu k q3)]) h (λK h=>?_) (λe x9 h=>?_))
     .refine ak (sr (mq ?_));refine aq (nt (sr ?_));refine cq (nt ?_);refine aR (Z:=Unit) (α:=Int) (λE j=>[(1,I a1),(2,Pt b1),(7,.eq (.pointer (some ⟨z4.1,0,none⟩))),(8,.rep (.slice (.int .u8)) r2.2.1),(10,.eq z8),(12,I j),(28,I a0.1),(29,I y7.2)]) (λE j=>[.obj b1 25 (.rep an a0),.obj z4.1 121 (aI q3 z4.2),.sl z8 3 Ti y7.1,.inv z4.2 (bu k q3)]) h (λK h=>?_) (λE j h=>?_)
      .refine sr (mq ?_);refine ol ql ?_;refine dx rfl ?_;refine nt (ak (aW (λD c=>[(1,I a1),(2,Pt b1),(7,.eq (.pointer (some ⟨z4.1,0,none⟩))),(8,.rep (.slice (.int .u8)) r2.2.1),(10,.eq z8),(11,I y7.2),(12,I c.1),(28,I a0.1),(29,I y7.2),(32,.rep (.slice (.int .u8)) r2.2.1),(33,I (r2.2.1.length:Int)),(34,I c.2)]) (λD c=>[.obj b1 25 (.rep an a0),.obj z4.1 121 (aI q3 z4.2),.sl z8 3 Ti y7.1,.inv z4.2 (bu k q3)]) (kP k a0 a1 r2 q3 y7) k () (0,0) (λ_=>rfl) h (SE.fin [0,1,2,3] ⟨rfl,rfl,rfl,rfl,rfl,rfl,rfl,rfl,rfl,rfl,rfl,rfl,trivial⟩ rfl) (λn D c h=>?_)));unfold kP at h;refine sr (jb (bS rfl) ?_);refine nt (ai (ci h (λh=>?_) (λh=>?_)))
       .refine sk (aR (Z:=Unit) (α:=Int) (λy l=>[(1,I a1),(2,Pt b1),(7,.eq (.pointer (some ⟨z4.1,0,none⟩))),(8,.rep (.slice (.int .u8)) r2.2.1),(10,.eq z8),(11,I y7.2),(12,I l),(28,I a0.1),(29,I y7.2),(32,.rep (.slice (.int .u8)) r2.2.1),(33,I (r2.2.1.length:Int)),(34,I c.2)]) (λy l=>[.obj b1 25 (.rep an a0),.obj z4.1 121 (aI q3 z4.2),.sl z8 3 Ti y7.1,.inv z4.2 (bu k q3)]) h (λK h=>?_) (λy l h=>?_))
        .refine ak (sr ?_);obtain⟨Pe,gw,h⟩:=aa h;refine jb (bA (t:=(.int .u8)) rfl ql jd gw) ?_;refine ja (aA (t:=(.int .u8)) rfl jd rfl) ?_;refine aq (nt (ai ?_));refine dn ?_;refine dm ?_;refine dm ?_;obtain⟨Pj,qt,h⟩:=aa h;refine Kz 1 3 rfl rfl (by kernel_rfl) rfl rfl rfl (ay [.tmp 38,.tmp 39] rfl rfl yW rfl (me k q3 z4.1 z4.2 Pe Pj qt)) ⟨rfl,rfl,trivial⟩ ?_;refine dm ?_;obtain⟨Pn,Y,h⟩:=aa h;refine db (iM (t:=Tr) rfl EO gB rfl rfl (mW) Y) ?_;refine dm ?_;obtain⟨Pm,X,h⟩:=aa h;refine db (iM (t:=Ti) rfl yd cL rfl rfl (λ_=>rfl) X) ?_;refine da (bg rfl yQ) ?_;refine ea 0 (aL rfl cL rM rfl) ?_;refine df fa ?_;refine jb (iN rfl) ?_;refine nt (ci h (λh=>?_) (λh=>?_))
         .refine ae (mq ?_);obtain⟨O9,U,h⟩:=aa h;refine jb (bK rfl U) ?_;refine aq (aJ (bn ?_));exact jz ((),O9) h [0,1,2,3]
         .refine bi (bn ?_);exact jz ((),c.1) h [0,1,2,3]
        .refine ae ?_;obtain⟨zM,Q,h⟩:=aa h;refine jb (bK rfl Q) ?_;refine mq (nl ?_);exact jz ((),(l,zM)) h [0,1,2,3]
       .refine xa ?_;exact jz ((),c.1) h [0,1,2,3]
      .refine ae ?_;iterate 3 refine mq ?_
       refine ol ql ?_;refine mq ?_;obtain⟨J,O,h⟩:=aa h;refine jb (fy rfl O) ?_;refine jb (Dh rfl rfl) ?_;refine ja (aQ (t:=Ti) [(.tmp 57,_)] [uc j J] rfl rfl cD (.cons rfl .int .nil) rfl rfl) ?_;obtain⟨Po,mc,h⟩:=aa h;refine fr 2 ?_;refine fi rfl rfl rfl (c7 rfl rfl cD (ax mc)) ⟨rfl,rfl,trivial⟩ λPg=>?_;refine aq (aJ (bn ?_));exact jz (Pg,y7.1++[uc j J]) h [1,2,0,3]
     .refine ae ?_;obtain⟨zz,M,h⟩:=aa h;refine jb (bK rfl M) ?_;refine mq (nl ?_);exact jz (e,(x9,zz)) h [0,1,2,3]
    .refine xa ?_;exact jz (z8,y7.1) h [2,3]
   .refine sr (mq ?_);obtain⟨u,pq,h⟩:=aa h;refine ka (iv (N:=[(.tmp 61,.eq z6)]) (ap [.tmp 61] rfl rfl LZ rfl (mN k x5 u pq)) (λ_ _ _ hv hn=>⟨(lend hn.1 hv),trivial⟩) (λ_=>⟨rfl,nk⟩)) ?_;refine aq (nt (ai (sr ?_)));iterate 2 refine mq ?_
    refine ol ql ?_;refine jb (iN rfl) ?_;refine nt (ci h (λh=>?_) (λh=>?_))
    .refine sr (cq ?_);refine cq ?_;refine cq (nt (rx ?_));cases h;exact aZ () [_,_,_] 0 ⟨rfl,rfl,rfl,trivial⟩ rfl
    .refine sk (sr ?_);iterate 2 refine mq ?_
     obtain⟨Pi,mw,h⟩:=aa h;refine kb (iv (N:=[(.tmp 67,.eq z6),(.tmp 68,I u)]) (ap [.tmp 67,.tmp 68] rfl rfl LY rfl (lu k x5 u Pi mw)) (λ_ _ _ hv hn=>⟨(lend hn.1 hv),hn.2.1,trivial⟩) (λ_=>⟨rfl,nk⟩)) ?_;refine mq ?_;refine aq ?_;refine aq ?_;refine cq (nt (aF ?_));cases h;exact aZ () [_,_,_] 0 ⟨rfl,rfl,rfl,trivial⟩ rfl
def iE(k:Nat)(a1:Int)(a2:Int)(y4:(List (List (List Int)))×Int)(h:(List Int)):Nat->((List Int)×Int)->Option (List Int)
 |0,_=>none
 |n+1,c=>
  if c.2 < (h.length:Int) then((((bT h c.2).bind λe=>
  ((if y4.2 < a1 then(some true) else((fD k a2 e).bind λs=>
  some (!s))):Option (Bool)).bind λl=>
  if l=true then((d3 (dR (length c.1+length [e]))).bind λ_=>
  some (c.1++[e])) else(some c.1)):Option ((List Int))).bind λr=>
  (ck (c.2+1)).bind λj=>
  iE k a1 a2 y4 h n (r,j)) else(some c.1)
def iF(k:Nat)(a1:Int)(a2:Int)(y4:(List (List (List Int)))×Int)(x8:(List (List Int))):Nat->((List (List Int))×Int)->Option (List (List Int))
 |0,_=>none
 |n+1,c=>
  if c.2 < (x8.length:Int) then((((bT x8 c.2).bind λj=>
  ((iE k a1 a2 y4 j k (([]:(List Int)),0)):Option ((List Int))).bind λe=>
  (d3 (dR (length c.1+length [e]))).bind λ_=>
  some (c.1++[e])):Option ((List (List Int)))).bind λl=>
  (ck (c.2+1)).bind λh=>
  iF k a1 a2 y4 x8 n (l,h)) else(some c.1)
def iG(k:Nat)(a0:am)(a1:Int)(a2:Int):Nat->((List (List (List Int)))×Int)->Option (List (List (List Int)))
 |0,_=>none
 |n+1,y4=>
  if y4.2 < (a0.2.2.2.2.1.length:Int) then((((bT a0.2.2.2.2.1 y4.2).bind λx8=>
  ((iF k a1 a2 y4 x8 k (([]:(List (List Int))),0)):Option ((List (List Int)))).bind λx9=>
  (d3 (dR (length y4.1+length [x9]))).bind λ_=>
  some (y4.1++[x9])):Option ((List (List (List Int))))).bind λx6=>
  (ck (y4.2+1)).bind λc=>
  iG k a0 a1 a2 n (x6,c)) else(some y4.1)
def lU(k:Nat)(a0:am)(a1:Int)(a2:Int):Option (Option am):=
 ((iG k a0 a1 a2 k (([]:(List (List (List Int)))),0)):Option ((List (List (List Int))))).bind λx2=>
 (jw k (a0.1,a0.2.1,a0.2.2.1,a0.2.2.2.1,x2,a0.2.2.2.2.2)).bind λc=>
 eQ c (some none) (λe=>some (some e))
theorem t7(k:Nat)(a0:am)(a1:Int)(a2:Int)(r:(Option am))(h:lU k a0 a1 a2=some r):
 dA Tryz.prog 53 [.rep an a0,I a1,.eq (.int .u8 a2)] [] (λz:Nat×Nat=>(bO [Gm r z.1],Gk r λq=>po q z.1 z.2 k)):=by
 unfold lU at h
 replace h:=bz h
 refine dA.of 69 Tryz.func53 rfl Tryz.ntmps53 rfl λS w0=>?_
 refine sr ?_
 refine bx λb1=>?_
 refine cq ?_
 refine nt ?_
 refine sr ?_
 refine fl fQ ?_
 refine lo nZ ?_
 refine mq ?_
 refine ja (lO [.tmp 19] [] [(.int .u8 a2)] [] rfl rfl rfl) ?_
 refine aq ?_
 refine aq ?_
 refine nt ?_
 refine sr ?_
 refine fl fQ ?_
 refine aK rfl rfl (aD rfl nZ rfl rfl rfl) ⟨rfl,rfl,trivial⟩ ?_
 refine nt ?_
 refine aR (Z:=Value) (α:=(List (List (List Int)))) (λz3 x2=>[(3,Pt b1)]) (λz3 x2=>[.obj b1 25 (.agg (.pair (I a0.1) (.pair (I a0.2.1) (.pair (I a0.2.2.1) (.pair (I a0.2.2.2.1) (.pair (.eq z3) (Rs aG a0.2.2.2.2.2))))))),.sl z3 28 (.slice Tl) x2]) h (λK h=>?_) (λz3 x2 h=>?_)
 .
  refine sr (mq ?_);refine ol Bo ?_;refine dx rfl ?_;refine nt (ak (i8 (SE.nil 28 (.slice Tl)) ?_));refine bR 1 rfl ?_;refine i8 (dz (a:=.agg (.pair (.rep Ti a0.1) (.pair (.rep Ti a0.2.1) (.pair (.rep Ti a0.2.2.1) (.pair (.rep Ti a0.2.2.2.1) (.pair (.eq (.slice none 0 0)) (Rs aG a0.2.2.2.2.2))))))) (a':=.agg (.pair (I a0.1) (.pair (I a0.2.1) (.pair (I a0.2.2.1) (.pair (I a0.2.2.2.1) (.pair (.eq (.slice none 0 0)) (Rs aG a0.2.2.2.2.2))))))) (AE.agg (AE.pair AE.int (AE.pair AE.int (AE.pair AE.int (AE.pair AE.int AE.rfl)))))) ?_;refine aW (λz5 y4=>[(1,I a1),(3,Pt b1),(8,.eq (.func (.func 67) #[(.int .u8 a2)] #[])),(22,.rep (.slice (.slice Tl)) a0.2.2.2.2.1),(23,I (a0.2.2.2.2.1.length:Int)),(24,I y4.2)]) (λz5 y4=>[.obj b1 25 (.agg (.pair (I a0.1) (.pair (I a0.2.1) (.pair (I a0.2.2.1) (.pair (I a0.2.2.2.1) (.pair (.eq z5) (Rs aG a0.2.2.2.2.2))))))),.sl z5 28 (.slice Tl) y4.1]) (iG k a0 a1 a2) k (.slice none 0 0) (([]:(List (List (List Int)))),0) (λ_=>rfl) h (SE.fin [0,1] ⟨rfl,rfl,rfl,rfl,rfl,rfl,trivial⟩ rfl) (λn z5 y4 h=>?_);unfold iG at h;refine sr (jb (bS rfl) ?_);refine nt (ai (ci h (λh=>?_) (λh=>?_)))
  .refine sk (aR (Z:=Value) (α:=(List (List (List Int)))) (λz7 x6=>[(1,I a1),(3,Pt b1),(8,.eq (.func (.func 67) #[(.int .u8 a2)] #[])),(22,.rep (.slice (.slice Tl)) a0.2.2.2.2.1),(23,I (a0.2.2.2.2.1.length:Int)),(24,I y4.2)]) (λz7 x6=>[.obj b1 25 (.agg (.pair (I a0.1) (.pair (I a0.2.1) (.pair (I a0.2.2.1) (.pair (I a0.2.2.2.1) (.pair (.eq z7) (Rs aG a0.2.2.2.2.2))))))),.sl z7 28 (.slice Tl) x6]) h (λK h=>?_) (λz7 x6 h=>?_))
   .refine ak (sr (mq ?_));obtain⟨x8,PD,h⟩:=aa h;refine jb (bA (t:=(.slice Tl)) rfl Bo wE PD) ?_;refine ja (aA (t:=(.slice Tl)) rfl wE rfl) ?_;refine aq ?_;refine aq (nt (sr ?_));refine cq (nt ?_);refine aR (Z:=Value) (α:=(List (List Int))) (λQ x9=>[(1,I a1),(3,Pt b1),(8,.eq (.func (.func 67) #[(.int .u8 a2)] #[])),(11,.eq Q),(22,.rep (.slice (.slice Tl)) a0.2.2.2.2.1),(23,I (a0.2.2.2.2.1.length:Int)),(24,I y4.2)]) (λQ x9=>[.obj b1 25 (.agg (.pair (I a0.1) (.pair (I a0.2.1) (.pair (I a0.2.2.1) (.pair (I a0.2.2.2.1) (.pair (.eq z5) (Rs aG a0.2.2.2.2.2))))))),.sl z5 28 (.slice Tl) y4.1,.sl Q 27 Tl x9]) h (λK h=>?_) (λQ x9 h=>?_)
    .refine sr (mq ?_);refine ol vT ?_;refine dx rfl ?_;refine nt (ak (i8 (SE.nil 27 Tl) ?_));refine aW (λe c=>[(1,I a1),(3,Pt b1),(8,.eq (.func (.func 67) #[(.int .u8 a2)] #[])),(9,I y4.2),(11,.eq e),(22,.rep (.slice (.slice Tl)) a0.2.2.2.2.1),(23,I (a0.2.2.2.2.1.length:Int)),(24,I y4.2),(29,.rep (.slice Tl) x8),(30,I (x8.length:Int)),(31,I c.2)]) (λe c=>[.obj b1 25 (.agg (.pair (I a0.1) (.pair (I a0.2.1) (.pair (I a0.2.2.1) (.pair (I a0.2.2.2.1) (.pair (.eq z5) (Rs aG a0.2.2.2.2.2))))))),.sl z5 28 (.slice Tl) y4.1,.sl e 27 Tl c.1]) (iF k a1 a2 y4 x8) k (.slice none 0 0) (([]:(List (List Int))),0) (λ_=>rfl) h (SE.fin [1,2,0] ⟨rfl,rfl,rfl,rfl,rfl,rfl,rfl,rfl,rfl,rfl,rfl,trivial⟩ rfl) (λn e c h=>?_);unfold iF at h;refine sr (jb (bS rfl) ?_);refine nt (ai (ci h (λh=>?_) (λh=>?_)))
     .refine sk (aR (Z:=Value) (α:=(List (List Int))) (λE X=>[(1,I a1),(3,Pt b1),(8,.eq (.func (.func 67) #[(.int .u8 a2)] #[])),(9,I y4.2),(11,.eq E),(22,.rep (.slice (.slice Tl)) a0.2.2.2.2.1),(23,I (a0.2.2.2.2.1.length:Int)),(24,I y4.2),(29,.rep (.slice Tl) x8),(30,I (x8.length:Int)),(31,I c.2)]) (λE X=>[.obj b1 25 (.agg (.pair (I a0.1) (.pair (I a0.2.1) (.pair (I a0.2.2.1) (.pair (I a0.2.2.2.1) (.pair (.eq z5) (Rs aG a0.2.2.2.2.2))))))),.sl z5 28 (.slice Tl) y4.1,.sl E 27 Tl X]) h (λK h=>?_) (λE X h=>?_))
      .refine ak (sr ?_);obtain⟨u,Pe,h⟩:=aa h;refine jb (bA (t:=Tl) rfl vT je Pe) ?_;refine ja (aA (t:=Tl) rfl je rfl) ?_;refine aq (nt (sr ?_));refine cq (nt ?_);refine aR (Z:=Value) (α:=(List Int)) (λO M=>[(1,I a1),(3,Pt b1),(8,.eq (.func (.func 67) #[(.int .u8 a2)] #[])),(9,I y4.2),(11,.eq e),(14,.eq O),(22,.rep (.slice (.slice Tl)) a0.2.2.2.2.1),(23,I (a0.2.2.2.2.1.length:Int)),(24,I y4.2),(29,.rep (.slice Tl) x8),(30,I (x8.length:Int)),(31,I c.2)]) (λO M=>[.obj b1 25 (.agg (.pair (I a0.1) (.pair (I a0.2.1) (.pair (I a0.2.2.1) (.pair (I a0.2.2.2.1) (.pair (.eq z5) (Rs aG a0.2.2.2.2.2))))))),.sl z5 28 (.slice Tl) y4.1,.sl e 27 Tl c.1,.sl O 3 Ti M]) h (λK h=>?_) (λO M h=>?_)
       .refine sr (mq ?_);refine ol jp ?_;refine dx rfl ?_;refine nt (ak (i8 (SE.nil 3 Ti) ?_));refine aW (λl j=>[(1,I a1),(3,Pt b1),(8,.eq (.func (.func 67) #[(.int .u8 a2)] #[])),(9,I y4.2),(11,.eq e),(14,.eq l),(22,.rep (.slice (.slice Tl)) a0.2.2.2.2.1),(23,I (a0.2.2.2.2.1.length:Int)),(24,I y4.2),(29,.rep (.slice Tl) x8),(30,I (x8.length:Int)),(31,I c.2),(35,.rep Tl u),(36,I (u.length:Int)),(37,I j.2)]) (λl j=>[.obj b1 25 (.agg (.pair (I a0.1) (.pair (I a0.2.1) (.pair (I a0.2.2.1) (.pair (I a0.2.2.2.1) (.pair (.eq z5) (Rs aG a0.2.2.2.2.2))))))),.sl z5 28 (.slice Tl) y4.1,.sl e 27 Tl c.1,.sl l 3 Ti j.1]) (iE k a1 a2 y4 u) k (.slice none 0 0) (([]:(List Int)),0) (λ_=>rfl) h (SE.fin [1,2,3,0] ⟨rfl,rfl,rfl,rfl,rfl,rfl,rfl,rfl,rfl,rfl,rfl,rfl,rfl,rfl,rfl,trivial⟩ rfl) (λn l j h=>?_);unfold iE at h;refine sr (jb (bS rfl) ?_);refine nt (ai (ci h (λh=>?_) (λh=>?_)))
        .refine sk (aR (Z:=Value) (α:=(List Int)) (λD U=>[(1,I a1),(3,Pt b1),(8,.eq (.func (.func 67) #[(.int .u8 a2)] #[])),(9,I y4.2),(11,.eq e),(14,.eq D),(22,.rep (.slice (.slice Tl)) a0.2.2.2.2.1),(23,I (a0.2.2.2.2.1.length:Int)),(24,I y4.2),(29,.rep (.slice Tl) x8),(30,I (x8.length:Int)),(31,I c.2),(35,.rep Tl u),(36,I (u.length:Int)),(37,I j.2)]) (λD U=>[.obj b1 25 (.agg (.pair (I a0.1) (.pair (I a0.2.1) (.pair (I a0.2.2.1) (.pair (I a0.2.2.2.1) (.pair (.eq z5) (Rs aG a0.2.2.2.2.2))))))),.sl z5 28 (.slice Tl) y4.1,.sl e 27 Tl c.1,.sl D 3 Ti U]) h (λK h=>?_) (λD U h=>?_))
         .refine ak (sr ?_);obtain⟨J,O9,h⟩:=aa h;refine jb (bA (t:=Ti) rfl jp cL O9) ?_;refine ja (aA (t:=Ti) rfl cL rfl) ?_;refine aq (nt ?_);refine aR (Z:=Unit) (α:=Bool) (λmc gw=>[(1,I a1),(3,Pt b1),(8,.eq (.func (.func 67) #[(.int .u8 a2)] #[])),(9,I y4.2),(11,.eq e),(14,.eq l),(16,I J),(22,.rep (.slice (.slice Tl)) a0.2.2.2.2.1),(23,I (a0.2.2.2.2.1.length:Int)),(24,I y4.2),(29,.rep (.slice Tl) x8),(30,I (x8.length:Int)),(31,I c.2),(35,.rep Tl u),(36,I (u.length:Int)),(37,I j.2),(49,.eq (.bool gw))]) (λmc gw=>[.obj b1 25 (.agg (.pair (I a0.1) (.pair (I a0.2.1) (.pair (I a0.2.2.1) (.pair (I a0.2.2.2.1) (.pair (.eq z5) (Rs aG a0.2.2.2.2.2))))))),.sl z5 28 (.slice Tl) y4.1,.sl e 27 Tl c.1,.sl l 3 Ti j.1]) h (λK h=>?_) (λmc gw h=>?_)
          .refine ae ?_;iterate 2 refine mq ?_
           refine jb (bS rfl) ?_;refine mq ?_;refine aP (s:=44) rfl (λhb=>?_) (λhb=>?_)
           .replace h:=cj (qf hb) h;iterate 4 refine gn ?_
            refine pt (nl ?_);exact jz ((),true) h [0,1,2,3]
           .replace h:=bh (qg hb) h;refine gm ?_;refine gm ?_;obtain⟨pq,Pm,h⟩:=aa h;refine gb (lQ (fs:=[(.int .u8 a2)]) (cs:=[]) (ags:=[I J]) [.tmp 46] rfl rfl En rfl (fC k a2 J pq Pm)) ?_;refine ga (ec rfl) ?_;refine pf (nl ?_);exact jz ((), !pq) h [0,1,2,3]
          .refine cv h (λh=>?_) (λh=>?_)
           .refine ae ?_;iterate 2 refine mq ?_
            refine ja (aQ (t:=Ti) [(.tmp 51,_)] [J] rfl rfl cD (.cons rfl .int .nil) rfl rfl) ?_;obtain⟨PG,Pj,h⟩:=aa h;refine fr 3 ?_;refine fi rfl rfl rfl (c7 rfl rfl cD (ax Pj)) ⟨rfl,rfl,trivial⟩ λPC=>?_;refine aq (aJ (bn ?_));exact jz (PC,j.1++[J]) h [1,2,3,0]
           .refine bi (bn ?_);exact jz (l,j.1) h [0,1,2,3]
         .refine ae ?_;obtain⟨Px,zM,h⟩:=aa h;refine jb (bK rfl zM) ?_;refine mq (nl ?_);exact jz (D,(U,Px)) h [0,1,2,3]
        .refine xa ?_;exact jz (l,j.1) h [0,1,2,3]
       .refine ae ?_;iterate 2 refine mq ?_
        refine fr 3 ?_;refine d4 (jq [14,56] ⟨rfl,rfl,trivial⟩) ?_;refine ja (aQ (t:=Tl) [(.tmp 56,_)] [M] rfl rfl mC (.cons rfl .rep .nil) rfl rfl) ?_;obtain⟨PE,Pi,h⟩:=aa h;refine fr 2 ?_;refine fi rfl rfl rfl (c7 rfl rfl mC (ax Pi)) ⟨rfl,rfl,trivial⟩ λPz=>?_;refine aq (aJ (bn ?_));exact jz (Pz,c.1++[M]) h [1,2,0]
      .refine ae ?_;obtain⟨Po,zz,h⟩:=aa h;refine jb (bK rfl zz) ?_;refine mq (nl ?_);exact jz (E,(X,Po)) h [0,1,2]
     .refine xa ?_;exact jz (e,c.1) h [0,1,2]
    .refine ae (fl fQ ?_);refine lo nZ ?_;refine mq ?_;refine fr 2 ?_;refine d4 (jq [11,62] ⟨rfl,rfl,trivial⟩) ?_;refine ja (aQ (t:=(.slice Tl)) [(.tmp 62,_)] [x9] rfl rfl Ge (.cons rfl .rep .nil) rfl rfl) ?_;obtain⟨u32,Pg,h⟩:=aa h;refine fr 1 ?_;refine fi rfl rfl rfl (c7 rfl rfl Ge (ax Pg)) ⟨rfl,rfl,trivial⟩ λPy=>?_;refine fl fQ ?_;refine rl λo34=>?_;refine fr 1 ?_;refine aK rfl rfl (aD rfl nZ o34 rfl rfl) ⟨rfl,rfl,trivial⟩ ?_;refine aJ (bn ?_);exact jz (Py,y4.1++[x9]) h [0,1]
   .refine ae ?_;obtain⟨Pn,qt,h⟩:=aa h;refine jb (bK rfl qt) ?_;refine mq (nl ?_);exact jz (z7,(x6,Pn)) h [0,1]
  .refine xa ?_;exact jz (z5,y4.1) h [0,1]
 .
  refine sr (fr 1 ?_);refine d4 (mh (off:=4) [] trivial rfl rfl) ?_;refine lo c6 ?_;obtain⟨mw,Pl,h⟩:=aa h;have y:=jk k (a0.1,a0.2.1,a0.2.2.1,a0.2.2.2.1,x2,a0.2.2.2.2.2) mw Pl;rcases hr:mw with _ |PH
  .rw [hr] at h y;replace h:=oe h;refine aC (Δ:=[]) (F:=_) (λ_ _ _=>ab rfl _) rfl rfl (aE (N:=[(.tmp 67,.agg (.pair (I a0.1) (.pair (I a0.2.1) (.pair (I a0.2.2.1) (.pair (I a0.2.2.2.1) (.pair (.rep (.slice (.slice Tl)) x2) (Rs aG a0.2.2.2.2.2)))))))]) (ap [.tmp 67] rfl rfl A5 rfl y) λ_ _ _ hn=>⟨(aj (t:=an) (x:=(a0.1,a0.2.1,a0.2.2.1,a0.2.2.2.1,x2,a0.2.2.2.2.2)) (.agg (.pair .int (.pair .int (.pair .int (.pair .int (.pair .rep .rep)))))) trivial rfl hn.1),trivial⟩) ⟨rfl,trivial⟩ λ_=>?_;refine aq (nt (aF ?_));cases h;exact aZ (0,0) [.eq (.pointer none)] 0 ⟨rfl,trivial⟩ rfl
  .rw [hr] at h y;replace h:=oc h;refine aC (Δ:=[]) (F:=_) (λ_ _ _=>ab rfl _) rfl rfl (aE (N:=[(.tmp 67,.agg (.pair (I a0.1) (.pair (I a0.2.1) (.pair (I a0.2.2.1) (.pair (I a0.2.2.2.1) (.pair (.rep (.slice (.slice Tl)) x2) (Rs aG a0.2.2.2.2.2)))))))]) (ap [.tmp 67] rfl rfl A5 rfl y) λ_ _ _ hn=>⟨(aj (t:=an) (x:=(a0.1,a0.2.1,a0.2.2.1,a0.2.2.2.1,x2,a0.2.2.2.2.2)) (.agg (.pair .int (.pair .int (.pair .int (.pair .int (.pair .rep .rep)))))) trivial rfl hn.1),trivial⟩) ⟨rfl,trivial⟩ λY=>?_;refine aq (nt (aF ?_));cases h;exact aZ (Y.1,Y.2) [.eq (.pointer (some ⟨Y.1,0,none⟩))] 2 ⟨rfl,trivial⟩ rfl
def dU(k:Nat)(a0:am)(r1:(List (List Int)))(y5:Int):Nat->Int->Option (Except Bool Unit)
 |0,_=>none
 |n+1,c=>
  if c < a0.1 then((((bT r1 y5).bind λs=>
  (bT s c).bind λr=>
  if r < 0 then((ck (y5+1)).bind λl=>
  (bT r1 l).bind λj=>
  (bT j c).bind λh=>
  some (decide (h=0))) else(some false)):Option (Bool)).bind λu=>
  if u=true then(some (.error true)) else((ck (c+1)).bind λe=>
  dU k a0 r1 y5 n e)) else(some (.ok ()))
def dV(k:Nat)(a0:am)(r1:(List (List Int))):Nat->Int->Option (Except Bool Unit)
 |0,_=>none
 |n+1,y5=>
  if y5 < (a0.2.2.2.2.1.length:Int) then(bE (α:=Unit) ((ck (y5+1)).bind λx9=>
  (bT r1 x9).bind λh=>
  (bT r1 y5).bind λc=>
  (d3 (vf h/\vf c)).bind λ_=>
  if h=c then(some (.ok ())) else(dU k a0 r1 y5 k 0)) (λe=>some (.error e)) λ_=>
  (ck (y5+1)).bind λj=>
  dV k a0 r1 n j) else(some (.ok ()))
def gU(k:Nat)(a0:am)(a1:Int)(a2:Int):Option Bool:=
 (lg k a0 a1).bind λr1=>
 bE (α:=Unit) (dV k a0 r1 k a2) (some) λ_=>
 some false
theorem mZ(k:Nat)(a0:am)(c z_a0:Nat)(a1:Int)(a2:Int)(r:Bool)(h:gU k a0 a1 a2=some r):
 bG (cS Tryz.prog) 55 [Pt c,.eq (.int .u8 a1),I a2] [.obj c 121 (aI a0 z_a0),.inv z_a0 (bu k a0)] (λ_:Unit=>(bO [.eq (.bool r)],[.obj c 121 (aI a0 z_a0),.inv z_a0 (bu k a0)])):=by
 unfold gU at h
 replace h:=bz h
 refine bG.of 56 Tryz.func55 rfl Tryz.ntmps55 rfl λS w0=>?_
 refine sr ?_
 refine cq ?_
 refine nt ?_
 refine sr ?_
 iterate 2 refine mq ?_
 obtain⟨r1,zz,h⟩:=aa h
 have zM:=me k a0 c z_a0 a1 r1 zz
 refine fr 1 ?_
 refine fr 1 ?_
 refine aC (Δ:=[_,_]) (F:=_) (λ_ _ _=>ab rfl _) rfl rfl (ay [.tmp 10,.tmp 11] rfl rfl yW rfl zM) ⟨rfl,rfl,trivial⟩ λ_=>?_
 refine aS rfl rfl rfl (aY rfl BL EJ) trivial λb2=>?_
 refine aK rfl rfl (aD rfl CL rfl rfl rfl) ⟨rfl,rfl,trivial⟩ ?_
 refine d4 (iu (t:=(.arr 7 Tr)) (x:=r1) [7] .rep ⟨rfl,trivial⟩) ?_
 refine nt ?_
 refine dK (Z:=Unit) (α:=Unit) (λz4 x3=>[]) (λz4 x3=>[.obj c 121 (aI a0 z_a0),.inv z_a0 (bu k a0)]) (λe=>e=r) h (λe h=>Option.some.inj h) (λK hR h=>?_) (λz4 x3 h=>?_)
 .
  refine sr (mq ?_);refine aq (nt (ak ?_));refine aW (λz6 y5=>[(0,Pt c),(7,.at (.arr 7 Tr) r1),(8,I y5)]) (λz6 y5=>[.obj c 121 (aI a0 z_a0),.inv z_a0 (bu k a0)]) (dV k a0 r1) k () a2 (λ_=>rfl) h (SE.fin [0,1] ⟨rfl,rfl,rfl,trivial⟩ rfl) (λn z6 y5 h=>?_);unfold dV at h;refine ai (sr ?_);iterate 2 refine mq ?_
  refine ja (gp rfl) ?_;refine fl fM ?_;refine fl fQ ?_;refine lo nZ ?_;refine ol Bo ?_;refine jb (bS rfl) ?_;refine nt (ci h (λh=>?_) (λh=>?_))
  .refine sk (dK (Z:=Unit) (α:=Unit) (λz8 x7=>[(0,Pt c),(7,.at (.arr 7 Tr) r1),(8,I y5)]) (λz8 x7=>[.obj c 121 (aI a0 z_a0),.inv z_a0 (bu k a0)]) (λe=>e=r) h (λe h=>hR e h) (λK hR h=>?_) (λz8 x7 h=>?_))
   .refine ak (ai (ai (dn ?_)));refine dm ?_;obtain⟨x9,qt,h⟩:=aa h;refine db (bK rfl qt) ?_;obtain⟨Pl,gw,h⟩:=aa h;refine db (ce (t:=Tr) rfl EO gB gw) ?_;refine da (aA (t:=Tr) rfl gB rfl) ?_;refine dm ?_;obtain⟨Pj,Y,h⟩:=aa h;refine db (ce (t:=Tr) rfl EO gB Y) ?_;refine da (aA (t:=Tr) rfl gB rfl) ?_;refine df fa ?_;obtain⟨Pm,l,h⟩:=aa h;refine jb (Dj rfl (ax l).1 (ax l).2) ?_;refine nt (ci h (λh=>?_) (λh=>?_))
    .refine d5 (bM (cz (au ?_)));exact jz ((),()) h [0,1]
    .refine sk (sr (mq ?_));refine ja (gp rfl) ?_;refine fl fM ?_;refine fl g7 ?_;refine lo cL ?_;refine dx rfl ?_;refine nt (ak (aW (λD j=>[(0,Pt c),(7,.at (.arr 7 Tr) r1),(8,I y5),(36,I a0.1),(37,I j)]) (λD j=>[.obj c 121 (aI a0 z_a0),.inv z_a0 (bu k a0)]) (dU k a0 r1 y5) k () 0 (λ_=>rfl) h (SE.fin [0,1] ⟨rfl,rfl,rfl,rfl,rfl,trivial⟩ rfl) (λn D j h=>?_)));unfold dU at h;refine sr (jb (bS rfl) ?_);refine nt (ai (ci h (λh=>?_) (λh=>?_)))
     .refine sk (ai (ak (sr (mq ?_))));refine aq (nt ?_);refine aR (Z:=Unit) (α:=Bool) (λy u=>[(0,Pt c),(7,.at (.arr 7 Tr) r1),(8,I y5),(36,I a0.1),(37,I j),(54,.eq (.bool u))]) (λy u=>[.obj c 121 (aI a0 z_a0),.inv z_a0 (bu k a0)]) h (λK h=>?_) (λy u h=>?_)
      .refine ae ?_;iterate 2 refine mq ?_
       obtain⟨Pi,X,h⟩:=aa h;refine jb (ce (t:=Tr) rfl EO gB X) ?_;obtain⟨Pg,U,h⟩:=aa h;refine jb (ce (t:=Ti) rfl yd cL U) ?_;refine ja (aA (t:=Ti) rfl cL rfl) ?_;refine jb (bS rfl) ?_;refine mq ?_;refine aP (s:=46) rfl (λhb=>?_) (λhb=>?_)
       .replace h:=cj (qf hb) h;refine gm ?_;obtain⟨Pe,Q,h⟩:=aa h;refine gb (bK rfl Q) ?_;refine gm ?_;obtain⟨O9,O,h⟩:=aa h;refine gb (ce (t:=Tr) rfl EO gB O) ?_;obtain⟨pq,M,h⟩:=aa h;refine gb (ce (t:=Ti) rfl yd cL M) ?_;refine ga (aA (t:=Ti) rfl cL rfl) ?_;refine gb (dE rfl) ?_;refine pt (nl ?_);exact jz ((),decide (pq=0)) h [0,1]
       .replace h:=bh (qg hb) h;iterate 7 refine gn ?_
        refine pf (nl ?_);exact jz ((),false) h [0,1]
      .refine cv h (λh=>?_) (λh=>?_)
       .refine sr (cq (nt (aF (br (bo (br (bo (bs ?_))))))));obtain rfl:=hR _ h;exact aZ () [_] 2 ⟨rfl,trivial⟩ rfl
       .refine bi (aV (tn (ae ?_)));obtain⟨mw,J,h⟩:=aa h;refine jb (bK rfl J) ?_;refine mq (nl ?_);exact jz ((),mw) h [0,1]
     .refine d5 (bM (bM (cz (bn ?_))));exact jz ((),()) h [0,1]
   .refine ae (mq ?_);obtain⟨mc,E,h⟩:=aa h;refine jb (bK rfl E) ?_;refine aq (nl ?_);exact jz ((),mc) h [0,1]
  .refine xa ?_;exact jz ((),()) h [0,1]
 .
  refine sr (cq (nt (aF ?_)));cases h;exact aZ () [_] 2 ⟨rfl,trivial⟩ rfl
def lY(k:Nat)(a0:Int)(a1:am)(a2:Int):Option Bool:=
 (gU k a1 a0 a2).bind λr1=>
 some r1
theorem rP(k:Nat)(a0:Int)(a1:am)(c z_a1 j:Nat)(a2:Int)(e:Nat)(r:Bool)(h:lY k a0 a1 a2=some r):
 bG (cS Tryz.prog) 54 [.eq (.int .u8 a0),Pt j,Pt e] [.obj c 121 (aI a1 z_a1),.inv z_a1 (bu k a1),.obj j 64 (Pt c),.obj e 3 (I a2)] (λ_:Unit=>(bO [.eq (.bool r)],[.obj c 121 (aI a1 z_a1),.inv z_a1 (bu k a1),.obj j 64 (Pt c),.obj e 3 (I a2)])):=by
 unfold lY at h
 replace h:=bz h
 refine bG.of 9 Tryz.func54 rfl Tryz.ntmps54 rfl λS w0=>?_
 refine sr ?_
 refine cq ?_
 refine nt ?_
 refine sr ?_
 refine fr 2 ?_
 refine lo yj ?_
 refine mq ?_
 refine fr 3 ?_
 refine lo cL ?_
 obtain⟨r1,l,h⟩:=aa h
 have n:=mZ k a1 c z_a1 a0 a2 r1 l
 refine fr 3 ?_
 refine fr 3 ?_
 refine aC (Δ:=[_,_]) (F:=_) (λ_ _ _=>ab rfl _) rfl rfl (ay [.tmp 5,.tmp 6,.tmp 7] rfl rfl Oc rfl n) ⟨rfl,rfl,rfl,trivial⟩ λ_=>?_
 refine aq ?_
 refine nt ?_
 refine aF ?_
 refine bL (SE.fin (Γ':=[(4,_)]) [0,1,3,2] ⟨rfl,trivial⟩ rfl) ?_
 cases h
 exact aZ () [_] 4 ⟨rfl,trivial⟩ rfl
def dP(k:Nat)(a0:(List Int))(a1_0:am)(a1_1:Int):Nat->Int->Option (Except Int Unit)
 |0,_=>none
 |n+1,y3=>
  if y3 < (a0.length:Int) then((bT a0 y3).bind λx5=>
  (lY k x5 a1_0 a1_1).bind λr6=>
  if r6=true then(some (.error y3)) else((ck (y3+1)).bind λx7=>
  dP k a0 a1_0 a1_1 n x7)) else(some (.ok ()))
def gI(k:Nat)(a0:(List Int))(a1_0:am)(a1_1:Int):Option Int:=
 bE (α:=Unit) (dP k a0 a1_0 a1_1 k 0) (some) λ_=>
 some (-1:Int)
theorem mP(k:Nat)(a0:(List Int))(a1_0:am)(b_a1_0 z_a1_0 c_a1_0:Nat)(a1_1:Int)(c_a1_1:Nat)(r:Int)(h:gI k a0 a1_0 a1_1=some r):
 bG (cS Tryz.prog) 81 [.rep (.slice (.int .u8)) a0,.eq (.func (.func 54) #[] #[(Pv c_a1_0),(Pv c_a1_1)])] [.obj b_a1_0 121 (aI a1_0 z_a1_0),.inv z_a1_0 (bu k a1_0),.obj c_a1_0 64 (Pt b_a1_0),.obj c_a1_1 3 (I a1_1)] (λ_:Unit=>(bO [I r],[.obj b_a1_0 121 (aI a1_0 z_a1_0),.inv z_a1_0 (bu k a1_0),.obj c_a1_0 64 (Pt b_a1_0),.obj c_a1_1 3 (I a1_1)])):=by
 unfold gI at h
 replace h:=bz h
 refine bG.of 19 Tryz.func81 rfl Tryz.ntmps81 rfl λS w0=>?_
 refine sr ?_
 refine cq ?_
 refine nt ?_
 refine dK (Z:=Unit) (α:=Unit) (λz2 x1=>[]) (λz2 x1=>[.obj b_a1_0 121 (aI a1_0 z_a1_0),.inv z_a1_0 (bu k a1_0),.obj c_a1_0 64 (Pt b_a1_0),.obj c_a1_1 3 (I a1_1)]) (λe=>e=r) h (λe h=>Option.some.inj h) (λK hR h=>?_) (λz2 x1 h=>?_)
 .
  refine sr (mq ?_);refine ol ql ?_;refine dx rfl ?_;refine nt (ak (aW (λz4 y3=>[(0,.rep (.slice (.int .u8)) a0),(1,.eq (.func (.func 54) #[] #[(Pv c_a1_0),(Pv c_a1_1)])),(7,I (a0.length:Int)),(8,I y3)]) (λz4 y3=>[.obj c_a1_0 64 (Pt b_a1_0),.obj b_a1_0 121 (aI a1_0 z_a1_0),.obj c_a1_1 3 (I a1_1),.inv z_a1_0 (bu k a1_0)]) (dP k a0 a1_0 a1_1) k () 0 (λ_=>rfl) h (SE.fin [2,0,3,1] ⟨rfl,rfl,rfl,rfl,trivial⟩ rfl) (λn z4 y3 h=>?_)));unfold dP at h;refine sr (jb (bS rfl) ?_);refine nt (ai (ci h (λh=>?_) (λh=>?_)))
  .refine sk (ai (ak (sr (mq ?_))));refine aq (nt (sr ?_));iterate 3 refine mq ?_
   obtain⟨x5,j,h⟩:=aa h;refine jb (bA (t:=(.int .u8)) rfl ql jd j) ?_;refine ja (aA (t:=(.int .u8)) rfl jd rfl) ?_;obtain⟨r6,l,h⟩:=aa h;refine fr 2 ?_;refine fr 1 ?_;refine fr 3 ?_;refine fr 3 ?_;refine aC (Δ:=[_,_,_,_]) (F:=_) (λ_ _ _=>ab rfl _) rfl rfl (lC (fs:=[]) (cs:=[(Pv c_a1_0),(Pv c_a1_1)]) (ags:=[.eq (.int .u8 x5)]) [.tmp 15] rfl rfl Oe rfl (rP k x5 a1_0 b_a1_0 z_a1_0 c_a1_0 a1_1 c_a1_1 r6 l)) ⟨rfl,rfl,trivial⟩ λ_=>?_;refine nt (cv h (λh=>?_) (λh=>?_))
   .refine sr (mq ?_);refine aq (nt (aF (br (bo (bs ?_)))));obtain rfl:=hR _ h;exact aZ () [_] 4 ⟨rfl,trivial⟩ rfl
   .refine bi (aV (tn (ae ?_)));obtain⟨x7,c,h⟩:=aa h;refine jb (bK rfl c) ?_;refine mq (nl ?_);exact jz ((),x7) h [2,0,3,1]
  .refine xa ?_;exact jz ((),()) h [1,3,0,2]
 .
  refine sr (cq (nt (aF ?_)));cases h;exact aZ () [_] 4 ⟨rfl,trivial⟩ rfl
def dQ(k:Nat)(a0:(List Int))(a1_0:am)(a1_1:Int):Option Bool:=
 (gI k a0 a1_0 a1_1).bind λr1=>
 some (decide (0≤r1))
theorem lw(k:Nat)(a0:(List Int))(a1_0:am)(b_a1_0 z_a1_0 c_a1_0:Nat)(a1_1:Int)(c_a1_1:Nat)(r:Bool)(h:dQ k a0 a1_0 a1_1=some r):
 bG (cS Tryz.prog) 56 [.rep (.slice (.int .u8)) a0,.eq (.func (.func 54) #[] #[(Pv c_a1_0),(Pv c_a1_1)])] [.obj b_a1_0 121 (aI a1_0 z_a1_0),.inv z_a1_0 (bu k a1_0),.obj c_a1_0 64 (Pt b_a1_0),.obj c_a1_1 3 (I a1_1)] (λ_:Unit=>(bO [.eq (.bool r)],[.obj b_a1_0 121 (aI a1_0 z_a1_0),.inv z_a1_0 (bu k a1_0),.obj c_a1_0 64 (Pt b_a1_0),.obj c_a1_1 3 (I a1_1)])):=by
 unfold dQ at h
 replace h:=bz h
 refine bG.of 9 Tryz.func56 rfl Tryz.ntmps56 rfl λS w0=>?_
 refine sr ?_
 refine cq ?_
 refine nt ?_
 refine sr ?_
 iterate 2 refine mq ?_
 obtain⟨r1,c,h⟩:=aa h
 have e:=mP k a0 a1_0 b_a1_0 z_a1_0 c_a1_0 a1_1 c_a1_1 r1 c
 refine fr 3 ?_
 refine fr 3 ?_
 refine fr 3 ?_
 refine fr 3 ?_
 refine aC (Δ:=[_,_,_,_]) (F:=_) (λ_ _ _=>ab rfl _) rfl rfl (ay [.tmp 5,.tmp 6] rfl rfl N7 rfl e) ⟨rfl,rfl,trivial⟩ λ_=>?_
 refine jb (iN rfl) ?_
 refine aq ?_
 refine nt ?_
 refine aF ?_
 cases h
 exact aZ () [_] 4 ⟨rfl,trivial⟩ rfl
def lZ(k:Nat)(a0:am)(a1:Int):Option ((List Int)×Int):=
 (gu k a0 ([]:(List Int)) [a1] ([]:(List Int))).bind λr3=>
 eQ r3.1 (if¬(r3.2.2=0) then(some (([]:(List Int)),r3.2.2)) else(none)) (λq4=>if¬(r3.2.2=0) then(some (([]:(List Int)),r3.2.2)) else((kO k (ru (λ(c:(List Int)) (e:Int)=>
  (lU k a0 a1 e).bind λr=>
  eQ r (none) (λs=>(dQ k r3.2.1 s a1).bind λn=>
  if¬(n=true) then((d3 (dR (length c+length [e]))).bind λ_=>
  some (c++[e],true)) else(some (c,true))))) a0.1 (([]:(List Int)),false)).bind λh=>
 if h.2=true then(none) else((oY k h.1).bind λl=>
 (dT k l).bind λj=>
 some (j,0))))
theorem ou(k:Nat)(a0:am)(a1:Int)(r:(List Int)×Int)(h:lZ k a0 a1=some r):
 bG (cS Tryz.prog) 21 [.rep an a0,I a1] [] (λ_:Unit=>(bO [.rep Tl r.1,I r.2],[])):=by
 unfold lZ at h
 replace h:=bz h
 refine tI 44 Tryz.func21 rfl Tryz.ntmps21 rfl λS w0=>?_
 refine sr ?_
 refine bx λb1=>?_
 refine bx λb2=>?_
 refine cq ?_
 refine cq ?_
 refine nt ?_
 refine sr ?_
 refine fr 1 ?_
 refine lo c6 ?_
 refine fr 1 ?_
 refine lo cL ?_
 refine ja (aQ (t:=Ti) [(.tmp 15,_)] [a1] rfl rfl cD (.cons rfl .int .nil) rfl rfl) ?_
 obtain⟨r3,O9,h⟩:=aa h
 have y:=fJ k a0 ([]:(List Int)) [a1] ([]:(List Int)) r3 O9
 rcases hr:r3.1 with _ |q4
 .
  rw [hr] at h y;replace h:=oe h;refine aC (Δ:=[]) (F:=_) (λ_ _ _=>ab rfl _) rfl rfl (aE (N:=[(.tmp 14,.rep an a0),(.const (.slice none 0 0),.eq (.slice none 0 0)),(.tmp 16,.rep Tl [a1]),(.const (.slice none 0 0),.eq (.slice none 0 0))]) (ay [.tmp 14,.const (.slice none 0 0),.tmp 16,.const (.slice none 0 0)] rfl rfl rQ rfl y) λ_ _ _ hn=>⟨hn.1,(aj (t:=Tl) (x:=([]:(List Int))) .nil rfl rfl hn.2.1),hn.2.2.1,(aj (t:=Tl) (x:=([]:(List Int))) .nil rfl rfl hn.2.2.2.1),trivial⟩) ⟨rfl,rfl,rfl,rfl,trivial⟩ λ_=>?_;refine mq ?_;refine xr ?_;refine xr ?_;refine xr ?_;refine aS rfl rfl rfl (aY rfl FC HB) trivial λb5=>?_;refine aq ?_;refine aK rfl rfl (aD rfl u7 rfl rfl rfl) ⟨rfl,rfl,trivial⟩ ?_;refine aq (nt (ai (sr ?_)));refine mq ?_;refine jb (bV rfl) ?_;refine nt (cn h (λh=>?_) (λh=>?_))
  .refine sr (mq ?_);refine cq ?_;refine aq (nt (rx ?_));refine bL (cU (t:=Tl) (x:=([]:(List Int))) 4 rfl .nil rfl rfl) ?_;refine xO ?_;cases h;exact rb
  .cases h
 .
  rw [hr] at h y;replace h:=oc h;refine aC (Δ:=[]) (F:=_) (λ_ _ _=>ab rfl _) rfl rfl (aE (N:=[(.tmp 14,.rep an a0),(.const (.slice none 0 0),.eq (.slice none 0 0)),(.tmp 16,.rep Tl [a1]),(.const (.slice none 0 0),.eq (.slice none 0 0))]) (ay [.tmp 14,.const (.slice none 0 0),.tmp 16,.const (.slice none 0 0)] rfl rfl rQ rfl y) λ_ _ _ hn=>⟨hn.1,(aj (t:=Tl) (x:=([]:(List Int))) .nil rfl rfl hn.2.1),hn.2.2.1,(aj (t:=Tl) (x:=([]:(List Int))) .nil rfl rfl hn.2.2.2.1),trivial⟩) ⟨rfl,rfl,rfl,rfl,trivial⟩ λz6=>?_;refine mq ?_;refine xr ?_;refine xr ?_;refine xr ?_;refine aS rfl rfl rfl (aY rfl FC HB) trivial λb7=>?_;refine aq ?_;refine aK rfl rfl (aD rfl u7 rfl rfl rfl) ⟨rfl,rfl,trivial⟩ ?_;refine aq (nt (ai (sr ?_)));refine mq ?_;refine jb (bV rfl) ?_;refine nt (cn h (λh=>?_) (λh=>?_))
  .refine sr (mq ?_);refine cq ?_;refine aq (nt (rx ?_));refine bL (cU (t:=Tl) (x:=([]:(List Int))) 4 rfl .nil rfl rfl) ?_;refine xO ?_;cases h;exact rb
  .refine sk (sr (aS rfl rfl rfl (aY rfl FC HB) trivial λb8=>?_));refine nt (ai (sr (fl g7 ?_)));refine fr 5 ?_;refine lo cL ?_;refine aS rfl rfl rfl (ap [.tmp 25] rfl rfl LX rfl (pR a0.1)) ⟨rfl,trivial⟩ λb9=>?_;refine nt (ak (i8 (SE.nil 65 (.int .u8)) ?_));refine bR 7 rfl ?_;refine bR 7 rfl ?_;refine bR 7 rfl ?_;refine bR 7 rfl ?_;refine bR 4 rfl ?_;refine bR 7 rfl ?_;refine bR 7 rfl ?_;refine bR 7 rfl ?_;obtain⟨u,pq,h⟩:=aa h;refine mj (Δ:=[.obj b9 3 (I a0.1),.obj b1 25 (.rep an a0),.obj b8 74 (.eq (.slice none 0 0)),.sl (.slice none 0 0) 65 (.int .u8) ([]:(List Int)),.obj b7 74 (.rep (.slice (.int .u8)) r3.2.1),.obj z6.1 121 (aI q4 z6.2),.inv z6.2 (bu k q4),.obj b2 3 (I a1)]) (F:=[]) (X:=Value) (J:=λ_=>G7 u.2) (E:=λc=>[.obj b9 3 (I a0.1),.obj b1 25 (.rep an a0),.obj b8 74 (.eq c),.sl c 65 (.int .u8) u.1,.obj b7 74 (.rep (.slice (.int .u8)) r3.2.1),.obj z6.1 121 (aI q4 z6.2),.inv z6.2 (bu k q4),.obj b2 3 (I a1)]) (r0:=λ_=>.tup .any) rfl rfl LP (λrec hp ha hb hs hpe hN hv l=>?_) (λdl c=>oG (λhj=>?_) (λhj=>?_))
   .rcases rec with⟨st0,pe0,fn0,tm0,ps0,as0,bd0,df0⟩;dsimp only at hp ha hb hs hpe hN hv;subst hp hs hpe;have vN:vS tm0 [(2,Pt b1),(3,Pt b2),(7,Pt b7),(9,Pt b8)]:=⟨congrArg A.eq (hv 2 _ rfl).symm,congrArg A.eq (hv 3 _ rfl).symm,congrArg A.eq (hv 7 _ rfl).symm,congrArg A.eq (hv 9 _ rfl).symm,trivial⟩;refine bG.pick (M:=(cS Tryz.prog)) [1,0,2,3,4,5,6,7,8] [1,0,2,3,4,5,6,7,8] (na (λ(c:Value) (q:(List Int)×Bool)=>[.raw l (.loop (gJ ⟨.ready,none,fn0,tm0, #[27],as0,bd0,df0⟩ (G7 q.2))),.obj b1 25 (.rep an a0),.obj b8 74 (.eq c),.sl c 65 (.int .u8) q.1,.obj b7 74 (.rep (.slice (.int .u8)) r3.2.1),.obj z6.1 121 (aI q4 z6.2),.inv z6.2 (bu k q4),.obj b2 3 (I a1)]) l (ru (λ(n:(List Int)) (j:Int)=>
    (lU k a0 a1 j).bind λs=>
    eQ s (none) (λO=>(dQ k r3.2.1 O a1).bind λD=>
    if¬(D=true) then((d3 (dR (length n+length [j]))).bind λ_=>
    some (n++[j],true)) else(some (n,true))))) k a0.1 b9 (λc q p r' h=>?_) (.slice none 0 0) (([]:(List Int)),false) u pq) rfl (λ_=>rfl) (λ_=>rfl)
    obtain⟨rq,hq,h2,rfl⟩:=oH h;obtain⟨n,b5⟩:=q;obtain rfl:b5=false:=hq;replace h:=bz h2;obtain⟨j,hpv⟩:∃x,x=p:=⟨_,rfl⟩;subst hpv;refine YT.pick (R':=(λc:Value=>(.eq (.bool rq.2),[.raw l (.loop (gJ ⟨.ready,none,fn0,tm0, #[27],as0,bd0,df0⟩ (G7 (!rq.2)))),.obj b1 25 (.rep an a0),.obj b8 74 (.eq c),.sl c 65 (.int .u8) rq.1,.obj b7 74 (.rep (.slice (.int .u8)) r3.2.1),.obj z6.1 121 (aI q4 z6.2),.inv z6.2 (bu k q4),.obj b2 3 (I a1)]))) [0,1,2,3,4,5,6,7] [0,1,2,3,4,5,6,7] (zb ha hb (N:=44) (Γ:=[(2,Pt b1),(3,Pt b2),(7,Pt b7),(9,Pt b8)]) rfl hN (by decide) vN (λS w=>?_)) rfl (λ_=>rfl) (λ_=>rfl);refine ae (aq (nl ?_));refine tC rfl rfl ?_;refine ak (sr (fr 1 ?_));refine lo c6 ?_;refine fr 7 ?_;refine lo cL ?_;refine mq ?_;obtain⟨s,mw,h⟩:=aa h;have e:=t7 k a0 a1 j s mw;rcases hr:s with _ |O
    .rw [hr] at h e;replace h:=oe h;refine aC (Δ:=[]) (F:=_) (λ_ _ _=>ab rfl _) rfl rfl (ap [.tmp 28,.tmp 29,.tmp 30] rfl rfl LW rfl e) ⟨rfl,rfl,rfl,trivial⟩ λ_=>?_;cases h
    .rw [hr] at h e;replace h:=oc h;refine aC (Δ:=[]) (F:=_) (λ_ _ _=>ab rfl _) rfl rfl (ap [.tmp 28,.tmp 29,.tmp 30] rfl rfl LW rfl e) ⟨rfl,rfl,rfl,trivial⟩ λQ=>?_;refine aS rfl rfl rfl (aY rfl IF J4) trivial λqt=>?_;refine aK rfl rfl (aD rfl yj rfl rfl rfl) ⟨rfl,rfl,trivial⟩ ?_;refine nt (sr (jb (lO [] [.tmp 11,.tmp 3] [] [(Pv qt),(Pv b2)] rfl rfl rfl) ?_));refine aq (nt (sr ?_));refine fr 8 ?_;refine lo u7 ?_;refine mq ?_;obtain⟨D,mc,h⟩:=aa h;refine fr 4 ?_;refine fr 2 ?_;refine fr 4 ?_;refine fr 4 ?_;refine aC (Δ:=[_,_,_,_]) (F:=_) (λ_ _ _=>ab rfl _) rfl rfl (ay [.tmp 33,.tmp 34] rfl rfl Ob rfl (lw k r3.2.1 O Q.1 Q.2 qt a1 b2 D mc)) ⟨rfl,rfl,trivial⟩ λ_=>?_;refine ja (ec rfl) ?_;refine nt (cw h (λh=>?_) (λh=>?_))
     .refine ae (fr 7 ?_);refine lo u7 ?_;refine mq ?_;refine ja (aQ (t:=(.int .u8)) [(.tmp 38,_)] [j] rfl rfl F9 (.cons rfl .int .nil) rfl rfl) ?_;obtain⟨Pe,Y,h⟩:=aa h;refine fr 8 ?_;refine fi rfl rfl rfl (c7 rfl rfl F9 (ax Y)) ⟨rfl,rfl,trivial⟩ λzz=>?_;refine rl λo22=>?_;refine fr 1 ?_;refine aK rfl rfl (aD rfl u7 o22 rfl rfl) ⟨rfl,rfl,trivial⟩ ?_;refine aJ (aV (aH 5 rfl ?_));refine aH 10 rfl ?_;refine aH 10 rfl ?_;refine aH 8 rfl ?_;refine aH 5 rfl ?_;refine aH 5 rfl ?_;refine aH 9 rfl ?_;refine aH 10 rfl ?_;cases h;exact jO zz 7 rfl
     .refine bi (aV (aH 3 rfl ?_));refine aH 10 rfl ?_;refine aH 10 rfl ?_;refine aH 6 rfl ?_;refine aH 10 rfl ?_;refine aH 10 rfl ?_;refine aH 9 rfl ?_;refine aH 10 rfl ?_;cases h;exact jO c 7 rfl
   .replace h:=bh (Ik hj) h;refine aV (tn (sr (fr 3 ?_)));refine lo u7 ?_;obtain⟨U,gw,h⟩:=aa h;refine fr 4 ?_;refine kb (iv (N:=[(.tmp 41,.eq c),(.func 57,.eq (.func (.func 57) #[] #[]))]) (ap [.tmp 41,.func 57] rfl rfl L1 rfl (t8 k u.1 U gw)) (λ_ _ _ hv hn=>⟨(lend hn.1 hv),hn.2.1,trivial⟩) (λ_=>⟨rfl,nk⟩)) ?_;obtain⟨zM,Z,h⟩:=aa h;refine ja (ap [.tmp 42] rfl rfl A6 rfl (dO k U zM Z)) ?_;refine aq ?_;refine cq (nt (aF ?_));refine aH 2 rfl ?_;refine Aq ?_;cases h;exact rb
   .replace h:=cj (Ii hj) h;cases h
def sW(k:Nat):Option Bool:=
 (bf k ([]:(List av))).bind λr1=>
 (kh k r1 [0]).bind λr2=>
 (bf k ([]:(List av))).bind λr3=>
 (kj k r3).bind λr4=>
 (bf k ([]:(List av))).bind λr5=>
 (lI k r5 2).bind λr6=>
 (bf k ([]:(List av))).bind λr8=>
 (nL k r8 [0] 3).bind λr9=>
 (bf k ([]:(List av))).bind λu=>
 (nh k u 2).bind λc=>
 (bf k ([]:(List av))).bind λs=>
 (lZ k s 2).bind λe=>
 ((if r2.2=0 then(if r4.2=0 then(if r6.2=0 then(if r9.2=0 then(if c.2.2=0 then(if e.2=0 then(if r6.1=(1,3) then(if c.1=2 then(if c.2.1=2 then((fW k r2.1 [[1,(-1:Int),(-1:Int),(-1:Int)],[2,0,(-1:Int),(-1:Int)],[3,1,(-1:Int),(-1:Int)],[3,2,0,(-1:Int)],[(-1:Int),3,1,0]]).bind λr=>
 if r=true then((fW k r4.1 [[0],[0,1],[1]]).bind λn=>
 if n=true then((cE k r9.1 [0,1,3]).bind λl=>
 if l=true then((cE k e.1 [1,2]).bind λj=>
 some j) else(some false)) else(some false)) else(some false)) else(some false)) else(some false)) else(some false)) else(some false)) else(some false)) else(some false)) else(some false)) else(some false)) else(some false)):Option (Bool)).bind λh=>
 some h
theorem xi(k:Nat)(r:Bool)(h:sW k=some r):
 bG (cS Tryz.prog) 6 [] [] (λ_:Unit=>(bO [.eq (.bool r)],[])):=by
 unfold sW at h
 replace h:=bz h
 refine bG.of 110 Tryz.func6 rfl Tryz.ntmps6 rfl λS w0=>?_
 refine sr ?_
 refine cq ?_
 refine nt ?_
 refine sr ?_
 obtain⟨r1,Pj,h⟩:=aa h
 have PC:=aU k ([]:(List av)) r1 Pj
 refine ja (aE (N:=[(.const (.slice none 0 0),.eq (.slice none 0 0))]) (ap [.const (.slice none 0 0)] rfl rfl qd rfl PC) λ_ _ _ hn=>⟨(aj (t:=(.slice aG)) (x:=([]:(List av))) .nil rfl rfl hn.1),trivial⟩) ?_
 refine ja (aQ (t:=Ti) [(.const (.int .i64 (0)),_)] [0] rfl rfl cD (.cons rfl .int .nil) rfl rfl) ?_
 obtain⟨r2,Pi,h⟩:=aa h
 have Pz:=kZ k r1 [0] r2 Pi
 refine jb (ay [.tmp 15,.tmp 16] rfl rfl N6 rfl Pz) ?_
 refine mq ?_
 refine xr ?_
 refine xr ?_
 refine aq ?_
 refine aq ?_
 refine nt ?_
 refine sr ?_
 obtain⟨r3,Pg,h⟩:=aa h
 have Py:=aU k ([]:(List av)) r3 Pg
 refine ja (aE (N:=[(.const (.slice none 0 0),.eq (.slice none 0 0))]) (ap [.const (.slice none 0 0)] rfl rfl qd rfl Py) λ_ _ _ hn=>⟨(aj (t:=(.slice aG)) (x:=([]:(List av))) .nil rfl rfl hn.1),trivial⟩) ?_
 obtain⟨r4,Pe,h⟩:=aa h
 have Px:=k9 k r3 r4 Pe
 refine ja (ay [.tmp 21] rfl rfl JQ rfl Px) ?_
 refine mq ?_
 refine xr ?_
 refine xr ?_
 refine aq ?_
 refine aq ?_
 refine nt ?_
 refine sr ?_
 obtain⟨r5,O9,h⟩:=aa h
 have Po:=aU k ([]:(List av)) r5 O9
 refine ja (aE (N:=[(.const (.slice none 0 0),.eq (.slice none 0 0))]) (ap [.const (.slice none 0 0)] rfl rfl qd rfl Po) λ_ _ _ hn=>⟨(aj (t:=(.slice aG)) (x:=([]:(List av))) .nil rfl rfl hn.1),trivial⟩) ?_
 obtain⟨r6,zM,h⟩:=aa h
 have Pn:=l5 k r5 2 r6 zM
 refine jb (ay [.tmp 26,.const (.int .i64 (2))] rfl rfl JM rfl Pn) ?_
 refine mq ?_
 refine xr ?_
 refine xr ?_
 refine aS rfl rfl rfl (aY rfl sb HD) trivial λb7=>?_
 refine aK rfl rfl (aD rfl pB rfl rfl rfl) ⟨rfl,rfl,trivial⟩ ?_
 refine aq ?_
 refine nt ?_
 refine sr ?_
 obtain⟨r8,zz,h⟩:=aa h
 have Pm:=aU k ([]:(List av)) r8 zz
 refine ja (aE (N:=[(.const (.slice none 0 0),.eq (.slice none 0 0))]) (ap [.const (.slice none 0 0)] rfl rfl qd rfl Pm) λ_ _ _ hn=>⟨(aj (t:=(.slice aG)) (x:=([]:(List av))) .nil rfl rfl hn.1),trivial⟩) ?_
 refine ja (aQ (t:=Ti) [(.const (.int .i64 (0)),_)] [0] rfl rfl cD (.cons rfl .int .nil) rfl rfl) ?_
 obtain⟨r9,qt,h⟩:=aa h
 have Pl:=pT k r8 [0] 3 r9 qt
 refine jc (ay [.tmp 31,.tmp 32,.const (.int .i64 (3))] rfl rfl Me rfl Pl) ?_
 refine mq ?_
 refine xr ?_
 refine xr ?_
 refine aq ?_
 refine aq ?_
 refine nt ?_
 refine sr ?_
 obtain⟨u,O,h⟩:=aa h
 have Y:=aU k ([]:(List av)) u O
 refine ja (aE (N:=[(.const (.slice none 0 0),.eq (.slice none 0 0))]) (ap [.const (.slice none 0 0)] rfl rfl qd rfl Y) λ_ _ _ hn=>⟨(aj (t:=(.slice aG)) (x:=([]:(List av))) .nil rfl rfl hn.1),trivial⟩) ?_
 obtain⟨pq,M,h⟩:=aa h
 have X:=ng k u 2 pq M
 refine jb (ay [.tmp 37,.const (.int .i64 (2))] rfl rfl JK rfl X) ?_
 refine mq ?_
 refine xr ?_
 refine xr ?_
 refine xr ?_
 refine aq ?_
 refine aq ?_
 refine aq ?_
 refine nt ?_
 refine sr ?_
 obtain⟨n,J,h⟩:=aa h
 have U:=aU k ([]:(List av)) n J
 refine ja (aE (N:=[(.const (.slice none 0 0),.eq (.slice none 0 0))]) (ap [.const (.slice none 0 0)] rfl rfl qd rfl U) λ_ _ _ hn=>⟨(aj (t:=(.slice aG)) (x:=([]:(List av))) .nil rfl rfl hn.1),trivial⟩) ?_
 obtain⟨l,I,h⟩:=aa h
 have Q:=ou k n 2 l I
 refine jb (ay [.tmp 43,.const (.int .i64 (2))] rfl rfl L8 rfl Q) ?_
 refine mq ?_
 refine xr ?_
 refine xr ?_
 refine aq ?_
 refine aq ?_
 refine nt ?_
 refine aR (Z:=Unit) (α:=Bool) (λe c=>[(0,.eq (.bool c))]) (λe c=>[]) h (λK h=>?_) (λe c h=>?_)
 .
  refine ae (mq ?_);refine jb (dE rfl) ?_;refine mq ?_;refine aP (s:=49) rfl (λhb=>?_) (λhb=>?_)
  .replace h:=cj (qf hb) h;refine gm ?_;refine gb (dE rfl) ?_;refine pt ?_;refine mq ?_;refine aP (s:=53) rfl (λhb=>?_) (λhb=>?_)
   .replace h:=cj (qf hb) h;refine gm ?_;refine gb (dE rfl) ?_;refine pt ?_;refine mq ?_;refine aP (s:=57) rfl (λhb=>?_) (λhb=>?_)
    .replace h:=cj (qf hb) h;refine gm ?_;refine gb (dE rfl) ?_;refine pt ?_;refine mq ?_;refine aP (s:=61) rfl (λhb=>?_) (λhb=>?_)
     .replace h:=cj (qf hb) h;refine gm ?_;refine gb (dE rfl) ?_;refine pt ?_;refine mq ?_;refine aP (s:=65) rfl (λhb=>?_) (λhb=>?_)
      .replace h:=cj (qf hb) h;refine gm ?_;refine gb (dE rfl) ?_;refine pt ?_;refine mq ?_;refine aP (s:=69) rfl (λhb=>?_) (λhb=>?_)
       .replace h:=cj (qf hb) h;refine iw rfl rfl rfl rfl rfl rfl (aL rfl pB (mW) rfl) ⟨rfl,trivial⟩ ?_;refine gb (cJ [(0,.const (.int .i64 (1)),_),(1,.const (.int .i64 (3)),_)] rfl yt sb tc (fO ⟨rfl,rfl,trivial⟩) rfl) ?_;refine d4 (cU (t:=bJ) (x:=(1,3)) 71 rfl (.agg (.pair .int .int)) trivial rfl) ?_;refine gb (Jj rfl JF rfl) ?_;refine pt ?_;refine mq ?_;refine aP (s:=74) rfl (λhb=>?_) (λhb=>?_)
        .replace h:=cj (qf hb) h;refine gm ?_;refine gb (dE rfl) ?_;refine pt ?_;refine mq ?_;refine aP (s:=78) rfl (λhb=>?_) (λhb=>?_)
         .replace h:=cj (qf hb) h;refine gm ?_;refine gb (dE rfl) ?_;refine pt ?_;refine mq ?_;refine aP (s:=82) rfl (λhb=>?_) (λhb=>?_)
          .replace h:=cj (qf hb) h;refine gm ?_;refine hH rfl rfl rfl rfl rfl rfl (aQ (t:=Ti) [(.const (.int .i64 (1)),_),(.const (.int .i64 (-1)),_),(.const (.int .i64 (-1)),_),(.const (.int .i64 (-1)),_)] [1,(-1:Int),(-1:Int),(-1:Int)] rfl rfl cD (.cons rfl .int (.cons rfl .int (.cons rfl .int (.cons rfl .int .nil)))) rfl rfl) ⟨rfl,rfl,rfl,rfl,trivial⟩ ?_;refine hH rfl rfl rfl rfl rfl rfl (aQ (t:=Ti) [(.const (.int .i64 (2)),_),(.const (.int .i64 (0)),_),(.const (.int .i64 (-1)),_),(.const (.int .i64 (-1)),_)] [2,0,(-1:Int),(-1:Int)] rfl rfl cD (.cons rfl .int (.cons rfl .int (.cons rfl .int (.cons rfl .int .nil)))) rfl rfl) ⟨rfl,rfl,rfl,rfl,trivial⟩ ?_;refine hH rfl rfl rfl rfl rfl rfl (aQ (t:=Ti) [(.const (.int .i64 (3)),_),(.const (.int .i64 (1)),_),(.const (.int .i64 (-1)),_),(.const (.int .i64 (-1)),_)] [3,1,(-1:Int),(-1:Int)] rfl rfl cD (.cons rfl .int (.cons rfl .int (.cons rfl .int (.cons rfl .int .nil)))) rfl rfl) ⟨rfl,rfl,rfl,rfl,trivial⟩ ?_;refine hH rfl rfl rfl rfl rfl rfl (aQ (t:=Ti) [(.const (.int .i64 (3)),_),(.const (.int .i64 (2)),_),(.const (.int .i64 (0)),_),(.const (.int .i64 (-1)),_)] [3,2,0,(-1:Int)] rfl rfl cD (.cons rfl .int (.cons rfl .int (.cons rfl .int (.cons rfl .int .nil)))) rfl rfl) ⟨rfl,rfl,rfl,rfl,trivial⟩ ?_;refine hH rfl rfl rfl rfl rfl rfl (aQ (t:=Ti) [(.const (.int .i64 (-1)),_),(.const (.int .i64 (3)),_),(.const (.int .i64 (1)),_),(.const (.int .i64 (0)),_)] [(-1:Int),3,1,0] rfl rfl cD (.cons rfl .int (.cons rfl .int (.cons rfl .int (.cons rfl .int .nil)))) rfl rfl) ⟨rfl,rfl,rfl,rfl,trivial⟩ ?_;refine hH rfl rfl rfl rfl rfl rfl (aQ (t:=Tl) [(.tmp 84,_),(.tmp 85,_),(.tmp 86,_),(.tmp 87,_),(.tmp 88,_)] [[1,(-1:Int),(-1:Int),(-1:Int)],[2,0,(-1:Int),(-1:Int)],[3,1,(-1:Int),(-1:Int)],[3,2,0,(-1:Int)],[(-1:Int),3,1,0]] rfl rfl mC (.cons rfl .rep (.cons rfl .rep (.cons rfl .rep (.cons rfl .rep (.cons rfl .rep .nil))))) rfl rfl) ⟨rfl,rfl,rfl,rfl,rfl,trivial⟩ ?_;obtain⟨mw,F,h⟩:=aa h;refine gb (ap [.tmp 83,.tmp 89] rfl rfl JL rfl (ip k r2.1 [[1,(-1:Int),(-1:Int),(-1:Int)],[2,0,(-1:Int),(-1:Int)],[3,1,(-1:Int),(-1:Int)],[3,2,0,(-1:Int)],[(-1:Int),3,1,0]] mw F)) ?_;refine pt ?_;refine mq ?_;refine aP (s:=92) rfl (λhb=>?_) (λhb=>?_)
           .replace h:=cj (Ii hb) h;refine gm ?_;refine ga (aQ (t:=Ti) [(.const (.int .i64 (0)),_)] [0] rfl rfl cD (.cons rfl .int .nil) rfl rfl) ?_;refine gb (aQ (t:=Ti) [(.const (.int .i64 (0)),_),(.const (.int .i64 (1)),_)] [0,1] rfl rfl cD (.cons rfl .int (.cons rfl .int .nil)) rfl rfl) ?_;refine ga (aQ (t:=Ti) [(.const (.int .i64 (1)),_)] [1] rfl rfl cD (.cons rfl .int .nil) rfl rfl) ?_;refine gc (aQ (t:=Tl) [(.tmp 94,_),(.tmp 95,_),(.tmp 96,_)] [[0],[0,1],[1]] rfl rfl mC (.cons rfl .rep (.cons rfl .rep (.cons rfl .rep .nil))) rfl rfl) ?_;obtain⟨mc,E,h⟩:=aa h;refine gb (ap [.tmp 93,.tmp 97] rfl rfl JL rfl (ip k r4.1 [[0],[0,1],[1]] mc E)) ?_;refine pt ?_;refine mq ?_;refine aP (s:=100) rfl (λhb=>?_) (λhb=>?_)
            .replace h:=cj (Ii hb) h;refine gm ?_;refine gc (aQ (t:=Ti) [(.const (.int .i64 (0)),_),(.const (.int .i64 (1)),_),(.const (.int .i64 (3)),_)] [0,1,3] rfl rfl cD (.cons rfl .int (.cons rfl .int (.cons rfl .int .nil))) rfl rfl) ?_;obtain⟨gw,D,h⟩:=aa h;refine gb (ap [.tmp 101,.tmp 102] rfl rfl s5 rfl (cg k r9.1 [0,1,3] gw D)) ?_;refine pt ?_;refine mq ?_;refine aP (s:=105) rfl (λhb=>?_) (λhb=>?_)
             .replace h:=cj (Ii hb) h;refine gm ?_;refine gb (aQ (t:=Ti) [(.const (.int .i64 (1)),_),(.const (.int .i64 (2)),_)] [1,2] rfl rfl cD (.cons rfl .int (.cons rfl .int .nil)) rfl rfl) ?_;obtain⟨j,y,h⟩:=aa h;refine gb (ap [.tmp 106,.tmp 107] rfl rfl s5 rfl (cg k l.1 [1,2] j y)) ?_;refine pt ?_;refine aq (nl ?_);exact jz ((),j) h []
             .replace h:=bh (Ik hb) h;iterate 3 refine gn ?_
              refine pf ?_;refine aq (nl ?_);exact jz ((),false) h []
            .replace h:=bh (Ik hb) h;iterate 3 refine gn ?_
             refine pf ?_;refine mq ?_;iterate 3 refine gn ?_
             refine pf ?_;refine aq (nl ?_);exact jz ((),false) h []
           .replace h:=bh (Ik hb) h;iterate 6 refine gn ?_
            refine pf ?_;refine mq ?_;iterate 3 refine gn ?_
            refine pf ?_;refine mq ?_;iterate 3 refine gn ?_
            refine pf ?_;refine aq (nl ?_);exact jz ((),false) h []
          .replace h:=bh (qg hb) h;iterate 8 refine gn ?_
           refine pf ?_;refine mq ?_;iterate 6 refine gn ?_
           refine pf ?_;refine mq ?_;iterate 3 refine gn ?_
           refine pf ?_;refine mq ?_;iterate 3 refine gn ?_
           refine pf ?_;refine aq (nl ?_);exact jz ((),false) h []
         .replace h:=bh (qg hb) h;iterate 2 refine gn ?_
          refine pf ?_;refine mq ?_;iterate 8 refine gn ?_
          refine pf ?_;refine mq ?_;iterate 6 refine gn ?_
          refine pf ?_;refine mq ?_;iterate 3 refine gn ?_
          refine pf ?_;refine mq ?_;iterate 3 refine gn ?_
          refine pf ?_;refine aq (nl ?_);exact jz ((),false) h []
        .replace h:=bh (qg hb) h;iterate 2 refine gn ?_
         refine pf ?_;refine mq ?_;iterate 2 refine gn ?_
         refine pf ?_;refine mq ?_;iterate 8 refine gn ?_
         refine pf ?_;refine mq ?_;iterate 6 refine gn ?_
         refine pf ?_;refine mq ?_;iterate 3 refine gn ?_
         refine pf ?_;refine mq ?_;iterate 3 refine gn ?_
         refine pf ?_;refine aq (nl ?_);exact jz ((),false) h []
       .replace h:=bh (qg hb) h;iterate 3 refine gn ?_
        refine pf ?_;refine mq ?_;iterate 2 refine gn ?_
        refine pf ?_;refine mq ?_;iterate 2 refine gn ?_
        refine pf ?_;refine mq ?_;iterate 8 refine gn ?_
        refine pf ?_;refine mq ?_;iterate 6 refine gn ?_
        refine pf ?_;refine mq ?_;iterate 3 refine gn ?_
        refine pf ?_;refine mq ?_;iterate 3 refine gn ?_
        refine pf ?_;refine aq (nl ?_);exact jz ((),false) h []
      .replace h:=bh (qg hb) h;iterate 2 refine gn ?_
       refine pf ?_;refine mq ?_;iterate 3 refine gn ?_
       refine pf ?_;refine mq ?_;iterate 2 refine gn ?_
       refine pf ?_;refine mq ?_;iterate 2 refine gn ?_
       refine pf ?_;refine mq ?_;iterate 8 refine gn ?_
       refine pf ?_;refine mq ?_;iterate 6 refine gn ?_
       refine pf ?_;refine mq ?_;iterate 3 refine gn ?_
       refine pf ?_;refine mq ?_;iterate 3 refine gn ?_
       refine pf ?_;refine aq (nl ?_);exact jz ((),false) h []
     .replace h:=bh (qg hb) h;iterate 2 refine gn ?_
      refine pf ?_;refine mq ?_;iterate 2 refine gn ?_
      refine pf ?_;refine mq ?_;iterate 3 refine gn ?_
      refine pf ?_;refine mq ?_;iterate 2 refine gn ?_
      refine pf ?_;refine mq ?_;iterate 2 refine gn ?_
      refine pf ?_;refine mq ?_;iterate 8 refine gn ?_
      refine pf ?_;refine mq ?_;iterate 6 refine gn ?_
      refine pf ?_;refine mq ?_;iterate 3 refine gn ?_
      refine pf ?_;refine mq ?_;iterate 3 refine gn ?_
      refine pf ?_;refine aq (nl ?_);exact jz ((),false) h []
    .replace h:=bh (qg hb) h;iterate 2 refine gn ?_
     refine pf ?_;refine mq ?_;iterate 2 refine gn ?_
     refine pf ?_;refine mq ?_;iterate 2 refine gn ?_
     refine pf ?_;refine mq ?_;iterate 3 refine gn ?_
     refine pf ?_;refine mq ?_;iterate 2 refine gn ?_
     refine pf ?_;refine mq ?_;iterate 2 refine gn ?_
     refine pf ?_;refine mq ?_;iterate 8 refine gn ?_
     refine pf ?_;refine mq ?_;iterate 6 refine gn ?_
     refine pf ?_;refine mq ?_;iterate 3 refine gn ?_
     refine pf ?_;refine mq ?_;iterate 3 refine gn ?_
     refine pf ?_;refine aq (nl ?_);exact jz ((),false) h []
   .replace h:=bh (qg hb) h;iterate 2 refine gn ?_
    refine pf ?_;refine mq ?_;iterate 2 refine gn ?_
    refine pf ?_;refine mq ?_;iterate 2 refine gn ?_
    refine pf ?_;refine mq ?_;iterate 2 refine gn ?_
    refine pf ?_;refine mq ?_;iterate 3 refine gn ?_
    refine pf ?_;refine mq ?_;iterate 2 refine gn ?_
    refine pf ?_;refine mq ?_;iterate 2 refine gn ?_
    refine pf ?_;refine mq ?_;iterate 8 refine gn ?_
    refine pf ?_;refine mq ?_;iterate 6 refine gn ?_
    refine pf ?_;refine mq ?_;iterate 3 refine gn ?_
    refine pf ?_;refine mq ?_;iterate 3 refine gn ?_
    refine pf ?_;refine aq (nl ?_);exact jz ((),false) h []
  .replace h:=bh (qg hb) h;iterate 2 refine gn ?_
   refine pf ?_;refine mq ?_;iterate 2 refine gn ?_
   refine pf ?_;refine mq ?_;iterate 2 refine gn ?_
   refine pf ?_;refine mq ?_;iterate 2 refine gn ?_
   refine pf ?_;refine mq ?_;iterate 2 refine gn ?_
   refine pf ?_;refine mq ?_;iterate 3 refine gn ?_
   refine pf ?_;refine mq ?_;iterate 2 refine gn ?_
   refine pf ?_;refine mq ?_;iterate 2 refine gn ?_
   refine pf ?_;refine mq ?_;iterate 8 refine gn ?_
   refine pf ?_;refine mq ?_;iterate 6 refine gn ?_
   refine pf ?_;refine mq ?_;iterate 3 refine gn ?_
   refine pf ?_;refine mq ?_;iterate 3 refine gn ?_
   refine pf ?_;refine aq (nl ?_);exact jz ((),false) h []
 .
  refine aF ?_;cases h;exact ra
def l6(k:Nat)(a0:am):Option ((List Int)×Int):=
 (gu k a0 ([]:(List Int)) ([]:(List Int)) ([]:(List Int))).bind λr2=>
 eQ r2.1 (if¬(r2.2.2=0) then(some (([]:(List Int)),r2.2.2)) else(none)) (λq3=>if¬(r2.2.2=0) then(some (([]:(List Int)),r2.2.2)) else((nc k r2.2.1).bind λr5=>
 (dT k r5).bind λr6=>
 some (r6,0)))
theorem ov(k:Nat)(a0:am)(r:(List Int)×Int)(h:l6 k a0=some r):
 bG (cS Tryz.prog) 11 [.rep an a0] [] (λ_:Unit=>(bO [.rep Tl r.1,I r.2],[])):=by
 unfold l6 at h
 replace h:=bz h
 refine bG.of 19 Tryz.func11 rfl Tryz.ntmps11 rfl λS w0=>?_
 refine sr ?_
 refine bx λb1=>?_
 refine cq ?_
 refine cq ?_
 refine nt ?_
 refine sr ?_
 refine lo c6 ?_
 obtain⟨r2,l,h⟩:=aa h
 have c:=fJ k a0 ([]:(List Int)) ([]:(List Int)) ([]:(List Int)) r2 l
 rcases hr:r2.1 with _ |q3
 .
  rw [hr] at h c;replace h:=oe h;refine aC (Δ:=[]) (F:=_) (λ_ _ _=>ab rfl _) rfl rfl (aE (N:=[(.tmp 8,.rep an a0),(.const (.slice none 0 0),.eq (.slice none 0 0)),(.const (.slice none 0 0),.eq (.slice none 0 0)),(.const (.slice none 0 0),.eq (.slice none 0 0))]) (ay [.tmp 8,.const (.slice none 0 0),.const (.slice none 0 0),.const (.slice none 0 0)] rfl rfl rQ rfl c) λ_ _ _ hn=>⟨hn.1,(aj (t:=Tl) (x:=([]:(List Int))) .nil rfl rfl hn.2.1),(aj (t:=Tl) (x:=([]:(List Int))) .nil rfl rfl hn.2.2.1),(aj (t:=Tl) (x:=([]:(List Int))) .nil rfl rfl hn.2.2.2.1),trivial⟩) ⟨rfl,rfl,rfl,rfl,trivial⟩ λ_=>?_;refine mq ?_;refine xr ?_;refine xr ?_;refine xr ?_;refine aq ?_;refine aq ?_;refine aq (nt (ai (sr ?_)));refine mq ?_;refine jb (bV rfl) ?_;refine nt (cn h (λh=>?_) (λh=>?_))
  .refine sr (mq ?_);refine cq ?_;refine aq (nt (rx ?_));refine bL (cU (t:=Tl) (x:=([]:(List Int))) 2 rfl .nil rfl rfl) ?_;cases h;exact rb
  .cases h
 .
  rw [hr] at h c;replace h:=oc h;refine aC (Δ:=[]) (F:=_) (λ_ _ _=>ab rfl _) rfl rfl (aE (N:=[(.tmp 8,.rep an a0),(.const (.slice none 0 0),.eq (.slice none 0 0)),(.const (.slice none 0 0),.eq (.slice none 0 0)),(.const (.slice none 0 0),.eq (.slice none 0 0))]) (ay [.tmp 8,.const (.slice none 0 0),.const (.slice none 0 0),.const (.slice none 0 0)] rfl rfl rQ rfl c) λ_ _ _ hn=>⟨hn.1,(aj (t:=Tl) (x:=([]:(List Int))) .nil rfl rfl hn.2.1),(aj (t:=Tl) (x:=([]:(List Int))) .nil rfl rfl hn.2.2.1),(aj (t:=Tl) (x:=([]:(List Int))) .nil rfl rfl hn.2.2.2.1),trivial⟩) ⟨rfl,rfl,rfl,rfl,trivial⟩ λz4=>?_;refine mq ?_;refine xr ?_;refine xr ?_;refine xr ?_;refine aq ?_;refine aq ?_;refine aq (nt (ai (sr ?_)));refine mq ?_;refine jb (bV rfl) ?_;refine nt (cn h (λh=>?_) (λh=>?_))
  .refine sr (mq ?_);refine cq ?_;refine aq (nt (rx ?_));refine bL (cU (t:=Tl) (x:=([]:(List Int))) 2 rfl .nil rfl rfl) ?_;cases h;exact rb
  .refine sk (sr (mq ?_));obtain⟨r5,j,h⟩:=aa h;refine jb (ap [.tmp 16,.func 40] rfl rfl L1 rfl (sQ k r2.2.1 r5 j)) ?_;obtain⟨r6,e,h⟩:=aa h;refine ja (ap [.tmp 17] rfl rfl A6 rfl (dO k r5 r6 e)) ?_;refine aq ?_;refine cq (nt (aF ?_));cases h;exact rb
def jy(k:Nat)(a1:Int)(r2:(Option am)×(List Int)×Int)(q3:am)(y7:(List Int)×Int):Nat->(Int×Int)->Option Int
 |0,_=>none
 |n+1,c=>
  if c.2 < (r2.2.1.length:Int) then((((bT r2.2.1 c.2).bind λr=>
  (lg k q3 r).bind λu=>
  (bT u a1).bind λl=>
  (bT l y7.2).bind λj=>
  if 0≤j then((ck (c.1+1)).bind λh=>
  some h) else(some c.1)):Option (Int)).bind λs=>
  (ck (c.2+1)).bind λe=>
  jy k a1 r2 q3 y7 n (s,e)) else(some c.1)
def jA(k:Nat)(a0:am)(a1:Int)(r2:(Option am)×(List Int)×Int)(q3:am):Nat->((List Int)×Int)->Option (List Int)
 |0,_=>none
 |n+1,y7=>
  if y7.2 < a0.1 then(((((jy k a1 r2 q3 y7 k (0,0)):Option (Int)).bind λh=>
  (mY k h (r2.2.1.length:Int)).bind λc=>
  (d3 (dR (length y7.1+length [c]))).bind λ_=>
  some (y7.1++[c])):Option ((List Int))).bind λx9=>
  (ck (y7.2+1)).bind λe=>
  jA k a0 a1 r2 q3 n (x9,e)) else(some y7.1)
def lH(k:Nat)(a0:am)(a1:Int):Option ((List Int)×Int):=
 (gu k a0 ([]:(List Int)) ([]:(List Int)) [a1]).bind λr2=>
 eQ r2.1 (if¬(r2.2.2=0) then(some (([]:(List Int)),r2.2.2)) else(none)) (λq3=>if¬(r2.2.2=0) then(some (([]:(List Int)),r2.2.2)) else(((jA k a0 a1 r2 q3 k (([]:(List Int)),0)):Option ((List Int))).bind λx5=>
 some (x5,0)))
theorem lX(k:Nat)(a0:am)(a1:Int)(r:(List Int)×Int)(h:lH k a0 a1=some r):
 bG (cS Tryz.prog) 13 [.rep an a0,I a1] [] (λ_:Unit=>(bO [.rep Tl r.1,I r.2],[])):=by
 unfold lH at h
 replace h:=bz h
 refine bG.of 56 Tryz.func13 rfl Tryz.ntmps13 rfl λS w0=>?_
 refine sr ?_
 refine bx λb1=>?_
 refine cq ?_
 refine cq ?_
 refine nt ?_
 refine sr ?_
 refine lo c6 ?_
 refine mq ?_
 refine ja (aQ (t:=Ti) [(.tmp 16,_)] [a1] rfl rfl cD (.cons rfl .int .nil) rfl rfl) ?_
 obtain⟨r2,Pe,h⟩:=aa h
 have s:=fJ k a0 ([]:(List Int)) ([]:(List Int)) [a1] r2 Pe
 rcases hr:r2.1 with _ |q3
 .
  rw [hr] at h s;replace h:=oe h;refine aC (Δ:=[]) (F:=_) (λ_ _ _=>ab rfl _) rfl rfl (aE (N:=[(.tmp 15,.rep an a0),(.const (.slice none 0 0),.eq (.slice none 0 0)),(.const (.slice none 0 0),.eq (.slice none 0 0)),(.tmp 17,.rep Tl [a1])]) (ay [.tmp 15,.const (.slice none 0 0),.const (.slice none 0 0),.tmp 17] rfl rfl rQ rfl s) λ_ _ _ hn=>⟨hn.1,(aj (t:=Tl) (x:=([]:(List Int))) .nil rfl rfl hn.2.1),(aj (t:=Tl) (x:=([]:(List Int))) .nil rfl rfl hn.2.2.1),hn.2.2.2.1,trivial⟩) ⟨rfl,rfl,rfl,rfl,trivial⟩ λ_=>?_;refine mq ?_;refine xr ?_;refine xr ?_;refine xr ?_;refine aq ?_;refine aq ?_;refine aq (nt (ai (sr ?_)));refine mq ?_;refine jb (bV rfl) ?_;refine nt (cn h (λh=>?_) (λh=>?_))
  .refine sr (mq ?_);refine cq ?_;refine aq (nt (rx ?_));refine bL (cU (t:=Tl) (x:=([]:(List Int))) 4 rfl .nil rfl rfl) ?_;cases h;exact rb
  .cases h
 .
  rw [hr] at h s;replace h:=oc h;refine aC (Δ:=[]) (F:=_) (λ_ _ _=>ab rfl _) rfl rfl (aE (N:=[(.tmp 15,.rep an a0),(.const (.slice none 0 0),.eq (.slice none 0 0)),(.const (.slice none 0 0),.eq (.slice none 0 0)),(.tmp 17,.rep Tl [a1])]) (ay [.tmp 15,.const (.slice none 0 0),.const (.slice none 0 0),.tmp 17] rfl rfl rQ rfl s) λ_ _ _ hn=>⟨hn.1,(aj (t:=Tl) (x:=([]:(List Int))) .nil rfl rfl hn.2.1),(aj (t:=Tl) (x:=([]:(List Int))) .nil rfl rfl hn.2.2.1),hn.2.2.2.1,trivial⟩) ⟨rfl,rfl,rfl,rfl,trivial⟩ λz4=>?_;refine mq ?_;refine xr ?_;refine xr ?_;refine xr ?_;refine aq ?_;refine aq ?_;refine aq (nt (ai (sr ?_)));refine mq ?_;refine jb (bV rfl) ?_;refine nt (cn h (λh=>?_) (λh=>?_))
  .refine sr (mq ?_);refine cq ?_;refine aq (nt (rx ?_));refine bL (cU (t:=Tl) (x:=([]:(List Int))) 4 rfl .nil rfl rfl) ?_;cases h;exact rb
  .refine sk (sr (cq (nt ?_)));refine aR (Z:=Value) (α:=(List Int)) (λz6 x5=>[(9,.eq z6)]) (λz6 x5=>[.sl z6 3 Ti x5,.inv z4.2 (bu k q3)]) h (λK h=>?_) (λz6 x5 h=>?_)
   .refine sr (fl g7 ?_);refine fr 2 ?_;refine lo cL ?_;refine dx rfl ?_;refine nt (ak (i8 (SE.nil 3 Ti) ?_));refine aW (λz8 y7=>[(1,I a1),(6,.eq (.pointer (some ⟨z4.1,0,none⟩))),(7,.rep (.slice (.int .u8)) r2.2.1),(9,.eq z8),(26,I a0.1),(27,I y7.2)]) (λz8 y7=>[.obj z4.1 121 (aI q3 z4.2),.sl z8 3 Ti y7.1,.inv z4.2 (bu k q3)]) (jA k a0 a1 r2 q3) k (.slice none 0 0) (([]:(List Int)),0) (λ_=>rfl) h (SE.fin [2,0,3] ⟨rfl,rfl,rfl,rfl,rfl,rfl,trivial⟩ rfl) (λn z8 y7 h=>?_);unfold jA at h;refine sr (jb (bS rfl) ?_);refine nt (ai (ci h (λh=>?_) (λh=>?_)))
    .refine sk (aR (Z:=Value) (α:=(List Int)) (λe x9=>[(1,I a1),(6,.eq (.pointer (some ⟨z4.1,0,none⟩))),(7,.rep (.slice (.int .u8)) r2.2.1),(9,.eq e),(26,I a0.1),(27,I y7.2)]) (λe x9=>[.obj z4.1 121 (aI q3 z4.2),.sl e 3 Ti x9,.inv z4.2 (bu k q3)]) h (λK h=>?_) (λe x9 h=>?_))
     .refine ak (sr (mq ?_));refine aq (nt (sr ?_));refine cq (nt ?_);refine aR (Z:=Unit) (α:=Int) (λE l=>[(1,I a1),(6,.eq (.pointer (some ⟨z4.1,0,none⟩))),(7,.rep (.slice (.int .u8)) r2.2.1),(9,.eq z8),(11,I l),(26,I a0.1),(27,I y7.2)]) (λE l=>[.obj z4.1 121 (aI q3 z4.2),.sl z8 3 Ti y7.1,.inv z4.2 (bu k q3)]) h (λK h=>?_) (λE l h=>?_)
      .refine sr (mq ?_);refine ol ql ?_;refine dx rfl ?_;refine nt (ak (aW (λD c=>[(1,I a1),(6,.eq (.pointer (some ⟨z4.1,0,none⟩))),(7,.rep (.slice (.int .u8)) r2.2.1),(9,.eq z8),(10,I y7.2),(11,I c.1),(26,I a0.1),(27,I y7.2),(30,.rep (.slice (.int .u8)) r2.2.1),(31,I (r2.2.1.length:Int)),(32,I c.2)]) (λD c=>[.obj z4.1 121 (aI q3 z4.2),.sl z8 3 Ti y7.1,.inv z4.2 (bu k q3)]) (jy k a1 r2 q3 y7) k () (0,0) (λ_=>rfl) h (SE.fin [0,1,2] ⟨rfl,rfl,rfl,rfl,rfl,rfl,rfl,rfl,rfl,rfl,rfl,trivial⟩ rfl) (λn D c h=>?_)));unfold jy at h;refine sr (jb (bS rfl) ?_);refine nt (ai (ci h (λh=>?_) (λh=>?_)))
       .refine sk (aR (Z:=Unit) (α:=Int) (λy j=>[(1,I a1),(6,.eq (.pointer (some ⟨z4.1,0,none⟩))),(7,.rep (.slice (.int .u8)) r2.2.1),(9,.eq z8),(10,I y7.2),(11,I j),(26,I a0.1),(27,I y7.2),(30,.rep (.slice (.int .u8)) r2.2.1),(31,I (r2.2.1.length:Int)),(32,I c.2)]) (λy j=>[.obj z4.1 121 (aI q3 z4.2),.sl z8 3 Ti y7.1,.inv z4.2 (bu k q3)]) h (λK h=>?_) (λy j h=>?_))
        .refine ak (sr ?_);obtain⟨zz,X,h⟩:=aa h;refine jb (bA (t:=(.int .u8)) rfl ql jd X) ?_;refine ja (aA (t:=(.int .u8)) rfl jd rfl) ?_;refine aq (nt (sr ?_));iterate 2 refine mq ?_
         obtain⟨O9,mc,h⟩:=aa h;refine fr 2 ?_;refine fr 1 ?_;refine aC (Δ:=[_,_]) (F:=_) (λ_ _ _=>ab rfl _) rfl rfl (ay [.tmp 36,.tmp 37] rfl rfl yW rfl (me k q3 z4.1 z4.2 zz O9 mc)) ⟨rfl,rfl,trivial⟩ λ_=>?_;refine mq ?_;obtain⟨Pi,U,h⟩:=aa h;refine jb (iM (t:=Tr) rfl EO gB rfl rfl (mW) U) ?_;refine mq ?_;obtain⟨Pg,Q,h⟩:=aa h;refine jb (iM (t:=Ti) rfl yd cL rfl rfl (λ_=>rfl) Q) ?_;refine jb (iN rfl) ?_;refine nt (ci h (λh=>?_) (λh=>?_))
         .refine ae (mq ?_);obtain⟨qt,O,h⟩:=aa h;refine jb (bK rfl O) ?_;refine aq (aJ (bn ?_));exact jz ((),qt) h [0,2,1]
         .refine bi (bn ?_);exact jz ((),c.1) h [0,2,1]
        .refine ae ?_;obtain⟨pq,M,h⟩:=aa h;refine jb (bK rfl M) ?_;refine mq (nl ?_);exact jz ((),(j,pq)) h [0,1,2]
       .refine xa ?_;exact jz ((),c.1) h [0,1,2]
      .refine ae ?_;iterate 3 refine mq ?_
       refine ol ql ?_;obtain⟨u,gw,h⟩:=aa h;refine jb (ap [.tmp 48,.tmp 50] rfl rfl Ol rfl (sO k l (r2.2.1.length:Int) u gw)) ?_;refine ja (aQ (t:=Ti) [(.tmp 51,_)] [u] rfl rfl cD (.cons rfl .int .nil) rfl rfl) ?_;obtain⟨Pj,Y,h⟩:=aa h;refine fr 1 ?_;refine fi rfl rfl rfl (c7 rfl rfl cD (ax Y)) ⟨rfl,rfl,trivial⟩ λzM=>?_;refine aq (aJ (bn ?_));exact jz (zM,y7.1++[u]) h [1,0,2]
     .refine ae ?_;obtain⟨mw,J,h⟩:=aa h;refine jb (bK rfl J) ?_;refine mq (nl ?_);exact jz (e,(x9,mw)) h [0,1,2]
    .refine xa ?_;exact jz (z8,y7.1) h [1,2]
   .refine sr (mq ?_);refine aq ?_;refine cq (nt (aF ?_));refine bL (jq [4,9,55] ⟨rfl,rfl,rfl,trivial⟩) ?_;cases h;exact rb
def gY(k:Nat)(r2:(Option am)×(List Int)×Int):Nat->(Int×Int)->Option Int
 |0,_=>none
 |n+1,y7=>
  if y7.2 < (r2.2.1.length:Int) then((bT r2.2.1 y7.2).bind λx9=>
  (ck (y7.2+1)).bind λc=>
  gY k r2 n (Ft .u8 y7.1 x9,c)) else(some y7.1)
def gX(k:Nat)(a1:Int)(q3:am)(h:(List Int)):Nat->((List Int)×Int)->Option (List Int)
 |0,_=>none
 |n+1,c=>
  if c.2 < (h.length:Int) then((((bT h c.2).bind λe=>
  (eJ k 0 e).bind λs=>
  (eX k q3 s a1).bind λr=>
  if 0≤r then((d3 (dR (length c.1+length [e]))).bind λ_=>
  some (c.1++[e])) else(some c.1)):Option ((List Int))).bind λl=>
  (ck (c.2+1)).bind λj=>
  gX k a1 q3 h n (l,j)) else(some c.1)
def nf(k:Nat)(a0:am)(a1:Int):Option ((List Int)×Int):=
 (gu k a0 [a1] ([]:(List Int)) ([]:(List Int))).bind λr2=>
 eQ r2.1 (if¬(r2.2.2=0) then(some (([]:(List Int)),r2.2.2)) else(none)) (λq3=>if¬(r2.2.2=0) then(some (([]:(List Int)),r2.2.2)) else(((gY k r2 k (0,0)):Option (Int)).bind λx5=>
 (((dT k x5).bind λe=>
 gX k a1 q3 e k (([]:(List Int)),0)):Option ((List Int))).bind λc=>
 some (c,0)))
theorem sR(k:Nat)(a0:am)(a1:Int)(r:(List Int)×Int)(h:nf k a0 a1=some r):
 bG (cS Tryz.prog) 15 [.rep an a0,I a1] [] (λ_:Unit=>(bO [.rep Tl r.1,I r.2],[])):=by
 unfold nf at h
 replace h:=bz h
 refine bG.of 55 Tryz.func15 rfl Tryz.ntmps15 rfl λS w0=>?_
 refine sr ?_
 refine bx λb1=>?_
 refine cq ?_
 refine cq ?_
 refine nt ?_
 refine sr ?_
 refine lo c6 ?_
 refine mq ?_
 refine ja (aQ (t:=Ti) [(.tmp 17,_)] [a1] rfl rfl cD (.cons rfl .int .nil) rfl rfl) ?_
 obtain⟨r2,zM,h⟩:=aa h
 have y:=fJ k a0 [a1] ([]:(List Int)) ([]:(List Int)) r2 zM
 rcases hr:r2.1 with _ |q3
 .
  rw [hr] at h y;replace h:=oe h;refine aC (Δ:=[]) (F:=_) (λ_ _ _=>ab rfl _) rfl rfl (aE (N:=[(.tmp 16,.rep an a0),(.tmp 18,.rep Tl [a1]),(.const (.slice none 0 0),.eq (.slice none 0 0)),(.const (.slice none 0 0),.eq (.slice none 0 0))]) (ay [.tmp 16,.tmp 18,.const (.slice none 0 0),.const (.slice none 0 0)] rfl rfl rQ rfl y) λ_ _ _ hn=>⟨hn.1,hn.2.1,(aj (t:=Tl) (x:=([]:(List Int))) .nil rfl rfl hn.2.2.1),(aj (t:=Tl) (x:=([]:(List Int))) .nil rfl rfl hn.2.2.2.1),trivial⟩) ⟨rfl,rfl,rfl,rfl,trivial⟩ λ_=>?_;refine mq ?_;refine xr ?_;refine xr ?_;refine xr ?_;refine aq ?_;refine aq ?_;refine aq (nt (ai (sr ?_)));refine mq ?_;refine jb (bV rfl) ?_;refine nt (cn h (λh=>?_) (λh=>?_))
  .refine sr (mq ?_);refine cq ?_;refine aq (nt (rx ?_));refine bL (cU (t:=Tl) (x:=([]:(List Int))) 4 rfl .nil rfl rfl) ?_;cases h;exact rb
  .cases h
 .
  rw [hr] at h y;replace h:=oc h;refine aC (Δ:=[]) (F:=_) (λ_ _ _=>ab rfl _) rfl rfl (aE (N:=[(.tmp 16,.rep an a0),(.tmp 18,.rep Tl [a1]),(.const (.slice none 0 0),.eq (.slice none 0 0)),(.const (.slice none 0 0),.eq (.slice none 0 0))]) (ay [.tmp 16,.tmp 18,.const (.slice none 0 0),.const (.slice none 0 0)] rfl rfl rQ rfl y) λ_ _ _ hn=>⟨hn.1,hn.2.1,(aj (t:=Tl) (x:=([]:(List Int))) .nil rfl rfl hn.2.2.1),(aj (t:=Tl) (x:=([]:(List Int))) .nil rfl rfl hn.2.2.2.1),trivial⟩) ⟨rfl,rfl,rfl,rfl,trivial⟩ λz4=>?_;refine mq ?_;refine xr ?_;refine xr ?_;refine xr ?_;refine aq ?_;refine aq ?_;refine aq (nt (ai (sr ?_)));refine mq ?_;refine jb (bV rfl) ?_;refine nt (cn h (λh=>?_) (λh=>?_))
  .refine sr (mq ?_);refine cq ?_;refine aq (nt (rx ?_));refine bL (cU (t:=Tl) (x:=([]:(List Int))) 4 rfl .nil rfl rfl) ?_;cases h;exact rb
  .refine sk (sr (cq (nt ?_)));refine aR (Z:=Unit) (α:=Int) (λz6 x5=>[(1,I a1),(6,.eq (.pointer (some ⟨z4.1,0,none⟩))),(9,.eq (.int .u8 x5))]) (λz6 x5=>[.obj z4.1 121 (aI q3 z4.2),.inv z4.2 (bu k q3)]) h (λK h=>?_) (λz6 x5 h=>?_)
   .refine sr (mq ?_);refine ol ql ?_;refine dx rfl ?_;refine nt (ak (aW (λz8 y7=>[(1,I a1),(6,.eq (.pointer (some ⟨z4.1,0,none⟩))),(9,.eq (.int .u8 y7.1)),(26,.rep (.slice (.int .u8)) r2.2.1),(27,I (r2.2.1.length:Int)),(28,I y7.2)]) (λz8 y7=>[.obj z4.1 121 (aI q3 z4.2),.inv z4.2 (bu k q3)]) (gY k r2) k () (0,0) (λ_=>rfl) h (SE.fin [0,1] ⟨rfl,rfl,rfl,rfl,rfl,rfl,trivial⟩ rfl) (λn z8 y7 h=>?_)));unfold gY at h;refine sr (jb (bS rfl) ?_);refine nt (ai (ci h (λh=>?_) (λh=>?_)))
    .refine sk (ai (ak (sr ?_)));obtain⟨x9,zz,h⟩:=aa h;refine jb (bA (t:=(.int .u8)) rfl ql jd zz) ?_;refine ja (aA (t:=(.int .u8)) rfl jd rfl) ?_;refine aq (nt (ae ?_));iterate 2 refine mq ?_
     refine jb (K9 rfl) ?_;refine aq (aJ (aV (tn (ae ?_))));obtain⟨mw,Q,h⟩:=aa h;refine jb (bK rfl Q) ?_;refine mq (nl ?_);exact jz ((),(Ft .u8 y7.1 x9,mw)) h [0,1]
    .refine xa ?_;exact jz ((),y7.1) h [0,1]
   .refine sr (cq (nt ?_));refine aR (Z:=Value) (α:=(List Int)) (λs E=>[(12,.eq s)]) (λs E=>[.sl s 3 Ti E,.inv z4.2 (bu k q3)]) h (λK h=>?_) (λs E h=>?_)
    .refine sr (mq ?_);obtain⟨j,gw,h⟩:=aa h;refine ja (ap [.tmp 36] rfl rfl A6 rfl (dO k x5 j gw)) ?_;refine ol jp ?_;refine dx rfl ?_;refine nt (ak (i8 (SE.nil 3 Ti) ?_));refine aW (λe c=>[(1,I a1),(6,.eq (.pointer (some ⟨z4.1,0,none⟩))),(12,.eq e),(37,.rep Tl j),(38,I (j.length:Int)),(39,I c.2)]) (λe c=>[.obj z4.1 121 (aI q3 z4.2),.sl e 3 Ti c.1,.inv z4.2 (bu k q3)]) (gX k a1 q3 j) k (.slice none 0 0) (([]:(List Int)),0) (λ_=>rfl) h (SE.fin [1,0,2] ⟨rfl,rfl,rfl,rfl,rfl,rfl,trivial⟩ rfl) (λn e c h=>?_);unfold gX at h;refine sr (jb (bS rfl) ?_);refine nt (ai (ci h (λh=>?_) (λh=>?_)))
     .refine sk (aR (Z:=Value) (α:=(List Int)) (λl u=>[(1,I a1),(6,.eq (.pointer (some ⟨z4.1,0,none⟩))),(12,.eq l),(37,.rep Tl j),(38,I (j.length:Int)),(39,I c.2)]) (λl u=>[.obj z4.1 121 (aI q3 z4.2),.sl l 3 Ti u,.inv z4.2 (bu k q3)]) h (λK h=>?_) (λl u h=>?_))
      .refine ak (sr ?_);obtain⟨D,O,h⟩:=aa h;refine jb (bA (t:=Ti) rfl jp cL O) ?_;refine ja (aA (t:=Ti) rfl cL rfl) ?_;refine aq (nt (sr ?_));iterate 2 refine mq ?_
       obtain⟨J,Y,h⟩:=aa h;refine jb (ap [.const (.int .u8 (0)),.tmp 44] rfl rfl Eo rfl (eW k 0 D J Y)) ?_;refine mq ?_;obtain⟨qt,X,h⟩:=aa h;refine fr 2 ?_;refine fr 1 ?_;refine aC (Δ:=[_,_]) (F:=_) (λ_ _ _=>ab rfl _) rfl rfl (ay [.tmp 43,.tmp 45,.tmp 46] rfl rfl JJ rfl (gg k q3 z4.1 z4.2 J a1 qt X)) ⟨rfl,rfl,rfl,trivial⟩ λ_=>?_;refine jb (iN rfl) ?_;refine nt (ci h (λh=>?_) (λh=>?_))
       .refine ae ?_;iterate 2 refine mq ?_
        refine ja (aQ (t:=Ti) [(.tmp 50,_)] [D] rfl rfl cD (.cons rfl .int .nil) rfl rfl) ?_;obtain⟨O9,U,h⟩:=aa h;refine fr 2 ?_;refine fi rfl rfl rfl (c7 rfl rfl cD (ax U)) ⟨rfl,rfl,trivial⟩ λpq=>?_;refine aq (aJ (bn ?_));exact jz (pq,c.1++[D]) h [1,0,2]
       .refine bi (bn ?_);exact jz (e,c.1) h [0,2,1]
      .refine ae ?_;obtain⟨mc,M,h⟩:=aa h;refine jb (bK rfl M) ?_;refine mq (nl ?_);exact jz (l,(u,mc)) h [0,1,2]
     .refine xa ?_;exact jz (e,c.1) h [1,2]
    .refine sr (mq ?_);refine aq ?_;refine cq (nt (aF ?_));refine bL (jq [4,12,54] ⟨rfl,rfl,rfl,trivial⟩) ?_;cases h;exact rb
def gW(k:Nat)(e:(List Int)):Nat->(Int×Int)->Option Int
 |0,_=>none
 |n+1,c=>
  if c.2 < (e.length:Int) then((bT e c.2).bind λj=>
  (eJ k c.1 j).bind λl=>
  (ck (c.2+1)).bind λh=>
  gW k e n (l,h)) else(some c.1)
def jx(k:Nat)(a0:am)(q5:am):Nat->((List Int)×Int)->Option ((List Int)×Int)
 |0,_=>none
 |n+1,c=>
  (kX k (ru (λ(j:(List Int)) (h:(List Int))=>
   if¬((h.length:Int)=c.2) then(some (j,true)) else(((gW k h k (0,0)):Option (Int)).bind λr=>
   (cR k q5 r).bind λs=>
   if 0 < (s.length:Int) then(some (h,false)) else(some (j,true))))) (a0.2.2.2.2.2.length:Int) (c.1,false)).bind λe=>
  if e.2=true then(some (e.1,0)) else((ck (c.2+1)).bind λl=>
  jx k a0 q5 n (e.1,l))
def nK(k:Nat)(a0:am):Option ((List Int)×Int):=
 (iQ k a0 ([]:(List Int)) ([]:(List Int)) ([]:(List Int)) ([]:(List Int))).bind λr4=>
 eQ r4.1 (if¬(r4.2.2=0) then(some ([],r4.2.2)) else(none)) (λq5=>if¬(r4.2.2=0) then(some ([],r4.2.2)) else(jx k a0 q5 k ([],0)))
theorem pS(k:Nat)(a0:am)(r:(List Int)×Int)(h:nK k a0=some r):
 bG (cS Tryz.prog) 17 [.rep an a0] [] (λ_:Unit=>(bO [.rep Tl r.1,I r.2],[])):=by
 unfold nK at h
 replace h:=bz h
 refine xT 49 Tryz.func17 rfl Tryz.ntmps17 rfl λS w0=>?_
 refine sr ?_
 refine bx λb1=>?_
 refine aS rfl rfl rfl (aY rfl NA Ov) trivial λb2=>?_
 refine aS rfl rfl rfl (aY rfl Nz Ou) trivial λb3=>?_
 refine nt ?_
 refine sr ?_
 refine fr 2 ?_
 refine lo c6 ?_
 obtain⟨r4,Pm,h⟩:=aa h
 have U:=gr k a0 ([]:(List Int)) ([]:(List Int)) ([]:(List Int)) ([]:(List Int)) r4 Pm
 rcases hr:r4.1 with _ |q5
 .
  rw [hr] at h U;replace h:=oe h;refine aC (Δ:=[]) (F:=_) (λ_ _ _=>ab rfl _) rfl rfl (aE (N:=[(.tmp 13,.rep an a0),(.const (.slice none 0 0),.eq (.slice none 0 0)),(.const (.slice none 0 0),.eq (.slice none 0 0)),(.const (.slice none 0 0),.eq (.slice none 0 0)),(.const (.slice none 0 0),.eq (.slice none 0 0))]) (ay [.tmp 13,.const (.slice none 0 0),.const (.slice none 0 0),.const (.slice none 0 0),.const (.slice none 0 0)] rfl rfl rR rfl U) λ_ _ _ hn=>⟨hn.1,(aj (t:=Tl) (x:=([]:(List Int))) .nil rfl rfl hn.2.1),(aj (t:=Tl) (x:=([]:(List Int))) .nil rfl rfl hn.2.2.1),(aj (t:=Tl) (x:=([]:(List Int))) .nil rfl rfl hn.2.2.2.1),(aj (t:=Tl) (x:=([]:(List Int))) .nil rfl rfl hn.2.2.2.2.1),trivial⟩) ⟨rfl,rfl,rfl,rfl,rfl,trivial⟩ λ_=>?_;refine mq ?_;refine xr ?_;refine xr ?_;refine xr ?_;refine aS rfl rfl rfl (aY rfl IF J4) trivial λb6=>?_;refine aK rfl rfl (aD rfl yj rfl rfl rfl) ⟨rfl,rfl,trivial⟩ ?_;refine aq ?_;refine aq (nt (ai (sr ?_)));refine mq ?_;refine jb (bV rfl) ?_;refine nt (cn h (λh=>?_) (λh=>?_))
  .refine sr (mq ?_);refine fr 3 ?_;refine aK rfl rfl (aD rfl je rfl rfl rfl) ⟨rfl,rfl,trivial⟩ ?_;refine fr 3 ?_;refine aK rfl rfl (aD rfl AI rfl rfl rfl) ⟨rfl,rfl,trivial⟩ ?_;refine nt (rx (aH 1 rfl ?_));refine bL (dz (a:=.eq (.slice none 0 0)) (a':=.rep Tl []) (gk .nil)) ?_;refine xP ?_;cases h;exact aZ () [_,_] 0 ⟨⟨_,_,_,_,_,rfl,(.head _),je,(λ_=>rfl),rfl⟩,⟨_,_,_,_,_,rfl,(.tail _ (.head _)),AI,(λ_=>rfl),rfl⟩,trivial⟩ rfl
  .cases h
 .
  rw [hr] at h U;replace h:=oc h;refine aC (Δ:=[]) (F:=_) (λ_ _ _=>ab rfl _) rfl rfl (aE (N:=[(.tmp 13,.rep an a0),(.const (.slice none 0 0),.eq (.slice none 0 0)),(.const (.slice none 0 0),.eq (.slice none 0 0)),(.const (.slice none 0 0),.eq (.slice none 0 0)),(.const (.slice none 0 0),.eq (.slice none 0 0))]) (ay [.tmp 13,.const (.slice none 0 0),.const (.slice none 0 0),.const (.slice none 0 0),.const (.slice none 0 0)] rfl rfl rR rfl U) λ_ _ _ hn=>⟨hn.1,(aj (t:=Tl) (x:=([]:(List Int))) .nil rfl rfl hn.2.1),(aj (t:=Tl) (x:=([]:(List Int))) .nil rfl rfl hn.2.2.1),(aj (t:=Tl) (x:=([]:(List Int))) .nil rfl rfl hn.2.2.2.1),(aj (t:=Tl) (x:=([]:(List Int))) .nil rfl rfl hn.2.2.2.2.1),trivial⟩) ⟨rfl,rfl,rfl,rfl,rfl,trivial⟩ λz7=>?_;refine mq ?_;refine xr ?_;refine xr ?_;refine xr ?_;refine aS rfl rfl rfl (aY rfl IF J4) trivial λb8=>?_;refine aK rfl rfl (aD rfl yj rfl rfl rfl) ⟨rfl,rfl,trivial⟩ ?_;refine aq ?_;refine aq (nt (ai (sr ?_)));refine mq ?_;refine jb (bV rfl) ?_;refine nt (cn h (λh=>?_) (λh=>?_))
  .refine sr (mq ?_);refine fr 5 ?_;refine aK rfl rfl (aD rfl je rfl rfl rfl) ⟨rfl,rfl,trivial⟩ ?_;refine fr 5 ?_;refine aK rfl rfl (aD rfl AI rfl rfl rfl) ⟨rfl,rfl,trivial⟩ ?_;refine nt (rx (aH 1 rfl ?_));refine bL (dz (a:=.eq (.slice none 0 0)) (a':=.rep Tl []) (gk .nil)) ?_;refine xP ?_;cases h;exact aZ () [_,_] 0 ⟨⟨_,_,_,_,_,rfl,(.head _),je,(λ_=>rfl),rfl⟩,⟨_,_,_,_,_,rfl,(.tail _ (.head _)),AI,(λ_=>rfl),rfl⟩,trivial⟩ rfl
  .refine sk (sr (aS rfl rfl rfl (aY rfl OH OQ) trivial λb9=>?_));refine aK rfl rfl (aD rfl cL rfl rfl rfl) ⟨rfl,rfl,trivial⟩ ?_;refine nt (ak (bR 6 rfl ?_));refine i8 (dz (a:=.eq (.slice none 0 0)) (a':=.rep Tl []) (gk .nil)) ?_;refine E6 (Z:=Nat) (α:=(List Int)×Int) (λe c=>[(1,Pt b1),(2,Pt b2),(3,Pt b3),(4,Pt b8),(7,Pt e)]) (λe c=>[.obj b1 25 (.rep an a0),.obj b2 27 (.rep Tl c.1),.obj b3 30 (I 0),.obj b8 64 (.eq (.pointer (some ⟨z7.1,0,none⟩))),.obj z7.1 121 (aI q5 z7.2),.obj e 3 (I c.2),.inv z7.2 (bu k q5)]) (jx k a0 q5) k b9 ([],0) (λ_=>rfl) h (SE.fin [5,0,6,2,3,1,4] ⟨rfl,rfl,rfl,rfl,rfl,trivial⟩ rfl) (λn ml1 e c h=>?_);unfold jx at h;refine ai (ak (BB rfl (JE JB) ?_));refine ai (E7 ?_);refine tn (sr (fl ma ?_));refine lo va ?_;refine ol FA ?_;refine aS rfl rfl rfl (ap [.tmp 25] rfl rfl Og rfl (sP (a0.2.2.2.2.2.length:Int))) ⟨rfl,trivial⟩ λu=>?_;refine nt (ak (bR 7 rfl ?_));refine bR 7 rfl ?_;refine bR 7 rfl ?_;refine bR 7 rfl ?_;refine bR 7 rfl ?_;refine bR 7 rfl ?_;refine bR 7 rfl ?_;refine bR 7 rfl ?_;obtain⟨j,Pi,h⟩:=aa h;refine mj (Δ:=[.obj u 3 (I (a0.2.2.2.2.2.length:Int)),.obj b1 25 (.rep an a0),.obj b2 27 (.rep Tl c.1),.obj b3 30 (I 0),.obj b8 64 (.eq (.pointer (some ⟨z7.1,0,none⟩))),.obj z7.1 121 (aI q5 z7.2),.obj e 3 (I c.2),.inv z7.2 (bu k q5)]) (F:=wI ml1) (X:=Unit) (J:=λ_=>G7 j.2) (E:=λQ=>[.obj u 3 (I (a0.2.2.2.2.2.length:Int)),.obj b1 25 (.rep an a0),.obj b2 27 (.rep Tl j.1),.obj b3 30 (I 0),.obj b8 64 (.eq (.pointer (some ⟨z7.1,0,none⟩))),.obj z7.1 121 (aI q5 z7.2),.obj e 3 (I c.2),.inv z7.2 (bu k q5)]) (r0:=λ_=>.tup .any) rfl rfl N8 (λrec hp ha hb hs hpe hN hv l=>?_) (λdl Q=>oG (λhj=>?_) (λhj=>?_))
   .rcases rec with⟨st0,pe0,fn0,tm0,ps0,as0,bd0,df0⟩;dsimp only at hp ha hb hs hpe hN hv;subst hp hs hpe;have vN:vS tm0 [(2,Pt b2),(3,Pt b3),(4,Pt b8),(7,Pt e)]:=⟨congrArg A.eq (hv 2 _ rfl).symm,congrArg A.eq (hv 3 _ rfl).symm,congrArg A.eq (hv 4 _ rfl).symm,congrArg A.eq (hv 7 _ rfl).symm,trivial⟩;refine bG.pick (M:=(cS Tryz.prog)) [1,0,2,3,4,5,6,7,8] [1,0,2,3,4,5,6,7,8] (qQ (λ(Q:Unit) (q:(List Int)×Bool)=>[.raw l (.loop (gJ ⟨.ready,none,fn0,tm0, #[27],as0,bd0,df0⟩ (G7 q.2))),.obj b1 25 (.rep an a0),.obj b2 27 (.rep Tl q.1),.obj b3 30 (I 0),.obj b8 64 (.eq (.pointer (some ⟨z7.1,0,none⟩))),.obj z7.1 121 (aI q5 z7.2),.obj e 3 (I c.2),.inv z7.2 (bu k q5)]) l (ru (λ(O:(List Int)) (s:(List Int))=>
    if¬((s.length:Int)=c.2) then(some (O,true)) else(((gW k s k (0,0)):Option (Int)).bind λD=>
    (cR k q5 D).bind λgw=>
    if 0 < (gw.length:Int) then(some (s,false)) else(some (O,true))))) k (a0.2.2.2.2.2.length:Int) u (λQ q p r' h=>?_) () (c.1,false) j Pi) rfl (λ_=>rfl) (λ_=>rfl)
    obtain⟨rq,hq,h2,rfl⟩:=oH h;obtain⟨O,b5⟩:=q;obtain rfl:b5=false:=hq;replace h:=bz h2;obtain⟨s,hpv⟩:∃x,x=p:=⟨_,rfl⟩;subst hpv;refine YT.pick (R':=(λQ:Unit=>(.eq (.bool rq.2),[.raw l (.loop (gJ ⟨.ready,none,fn0,tm0, #[27],as0,bd0,df0⟩ (G7 (!rq.2)))),.obj b1 25 (.rep an a0),.obj b2 27 (.rep Tl rq.1),.obj b3 30 (I 0),.obj b8 64 (.eq (.pointer (some ⟨z7.1,0,none⟩))),.obj z7.1 121 (aI q5 z7.2),.obj e 3 (I c.2),.inv z7.2 (bu k q5)]))) [0,1,2,3,4,5,6,7] [0,1,2,3,4,5,6,7] (zb ha hb (N:=49) (Γ:=[(2,Pt b2),(3,Pt b3),(4,Pt b8),(7,Pt e)]) rfl hN (by decide) vN (λS w=>?_)) rfl (λ_=>rfl) (λ_=>rfl);refine ae (aq (nl ?_));refine tC rfl rfl ?_;refine ak (ai (sr (mq ?_)));refine ol jp ?_;refine fr 6 ?_;refine lo cL ?_;refine jb (bV rfl) ?_;refine nt (cn h (λh=>?_) (λh=>?_))
    .refine d5 (bM (cz (aH 7 rfl ?_)));refine aH 1 rfl ?_;refine aH 7 rfl ?_;refine aH 7 rfl ?_;refine aH 7 rfl ?_;refine aH 7 rfl ?_;refine aH 7 rfl ?_;refine aH 7 rfl ?_;cases h;exact jO () 7 rfl
    .refine sk (sr (cq (nt ?_)));refine aR (Z:=Unit) (α:=Int) (λpq D=>[(2,Pt b2),(3,Pt b3),(4,Pt b8),(8,.rep Tl s),(9,.eq (.int .u8 D))]) (λpq D=>[.obj b2 27 (.rep Tl O),.obj b3 30 (I 0),.obj b8 64 (.eq (.pointer (some ⟨z7.1,0,none⟩))),.obj z7.1 121 (aI q5 z7.2),.inv z7.2 (bu k q5),.obj b1 25 (.rep an a0),.obj e 3 (I c.2),.raw l (.loop (⟨.busy,none,fn0,tm0, #[27],as0,bd0,df0⟩:Loop))]) h (λK h=>?_) (λpq D h=>?_)
     .refine sr (mq ?_);refine ol jp ?_;refine dx rfl ?_;refine nt (ak (aW (Z:=Unit) (α:=Int×Int) (λmw y=>[(2,Pt b2),(3,Pt b3),(4,Pt b8),(8,.rep Tl s),(9,.eq (.int .u8 y.1)),(32,.rep Tl s),(33,I (s.length:Int)),(34,I y.2)]) (λmw y=>[.obj b2 27 (.rep Tl O),.obj b3 30 (I 0),.obj b8 64 (.eq (.pointer (some ⟨z7.1,0,none⟩))),.obj z7.1 121 (aI q5 z7.2),.inv z7.2 (bu k q5),.obj b1 25 (.rep an a0),.obj e 3 (I c.2),.raw l (.loop (⟨.busy,none,fn0,tm0, #[27],as0,bd0,df0⟩:Loop))]) (gW k s) k () (0,0) (λ_=>rfl) h (SE.fin [3,4,5,6,7,2,0,1] ⟨rfl,rfl,rfl,rfl,rfl,rfl,rfl,rfl,trivial⟩ rfl) (λn mw y h=>?_)));unfold gW at h;refine sr (jb (bS rfl) ?_);refine nt (ai (ci h (λh=>?_) (λh=>?_)))
      .refine sk (ai (ak (sr ?_)));obtain⟨Pl,O9,h⟩:=aa h;refine jb (bA (t:=Ti) rfl jp cL O9) ?_;refine ja (aA (t:=Ti) rfl cL rfl) ?_;refine aq (nt (ae ?_));iterate 2 refine mq ?_
       obtain⟨qt,Pg,h⟩:=aa h;refine jb (ap [.tmp 38,.tmp 39] rfl rfl Eo rfl (eW k y.1 Pl qt Pg)) ?_;refine aq (aJ (aV (tn (ae ?_))));obtain⟨Pj,zM,h⟩:=aa h;refine jb (bK rfl zM) ?_;refine mq (nl ?_);exact jz ((),(qt,Pj)) h [0,1,2,3,4,5,6,7]
      .refine xa ?_;exact jz ((),y.1) h [0,1,2,3,4,5,6,7]
     .refine sr (fr 2 ?_);refine lo yj ?_;refine mq ?_;obtain⟨gw,Pe,h⟩:=aa h;refine fr 4 ?_;refine fr 4 ?_;refine aC (Δ:=[_,_]) (F:=_) (λ_ _ _=>ab rfl _) rfl rfl (ay [.tmp 42,.tmp 43] rfl rfl Es rfl (dw k q5 z7.1 z7.2 D gw Pe)) ⟨rfl,rfl,trivial⟩ λ_=>?_;refine ol ql ?_;refine jb (lA rfl) ?_;refine nt (ci h (λh=>?_) (λh=>?_))
      .refine sr (mq ?_);refine fr 3 ?_;refine aK rfl rfl (aD rfl je rfl rfl rfl) ⟨rfl,rfl,trivial⟩ ?_;refine fr 4 ?_;refine aK rfl rfl (aD rfl AI rfl rfl rfl) ⟨rfl,rfl,trivial⟩ ?_;refine nt (aF (bo (aH 3 rfl ?_)));refine aH 6 rfl ?_;refine aH 4 rfl ?_;refine aH 5 rfl ?_;refine aH 4 rfl ?_;refine aH 5 rfl ?_;refine aH 6 rfl ?_;refine aH 7 rfl ?_;cases h;exact Bz () 7 rfl
      .refine bi (aV (aH 1 rfl ?_));refine aH 6 rfl ?_;refine aH 2 rfl ?_;refine aH 3 rfl ?_;refine aH 5 rfl ?_;refine aH 5 rfl ?_;refine aH 6 rfl ?_;refine aH 7 rfl ?_;cases h;exact jO () 7 rfl
   .replace h:=bh (Ik hj) h;refine aV (E5 ?_);refine aV (tn (ai (sr (fr 7 ?_))));refine lo cL ?_;refine nt (ae (aS rfl rfl rfl (aY rfl OH OQ) trivial λmc=>?_));refine aK rfl rfl (aD rfl cL rfl rfl rfl) ⟨rfl,rfl,trivial⟩ ?_;refine nt (ae (lo cL ?_));obtain⟨Y,zz,h⟩:=aa h;refine jb (bK rfl zz) ?_;refine aK rfl rfl (aD rfl cL rfl rfl rfl) ⟨rfl,rfl,trivial⟩ ?_;refine nl ?_;show JN _ _ _ ([.obj mc 3 (I Y),.obj e 3 (I c.2),.raw dl (.deferred (some [])),.obj u 3 (I (a0.2.2.2.2.2.length:Int)),.obj b1 25 (.rep an a0),.obj b2 27 (.rep Tl j.1),.obj b3 30 (I 0),.obj b8 64 (.eq (.pointer (some ⟨z7.1,0,none⟩))),.obj z7.1 121 (aI q5 z7.2),.inv z7.2 (bu k q5)]++wI ml1);exact Ku dl ml1 (mc,(j.1,Y)) h (iJ [.obj mc 3 (I Y),.obj e 3 (I c.2),.raw dl (.deferred (some [])),.obj u 3 (I (a0.2.2.2.2.2.length:Int)),.obj b1 25 (.rep an a0),.obj b2 27 (.rep Tl j.1),.obj b3 30 (I 0),.obj b8 64 (.eq (.pointer (some ⟨z7.1,0,none⟩))),.obj z7.1 121 (aI q5 z7.2),.inv z7.2 (bu k q5)] (wI ml1) [4,5,6,7,8,0,9,2] ⟨rfl,rfl,rfl,rfl,rfl,trivial⟩ rfl) (by exact rfl)
   .replace h:=cj (Ii hj) h;refine aF (bo (E4 ?_));refine br (bo ?_);show JN _ _ _ ([.raw dl (.deferred (some [])),.obj u 3 (I (a0.2.2.2.2.2.length:Int)),.obj b1 25 (.rep an a0),.obj b2 27 (.rep Tl j.1),.obj b3 30 (I 0),.obj b8 64 (.eq (.pointer (some ⟨z7.1,0,none⟩))),.obj z7.1 121 (aI q5 z7.2),.obj e 3 (I c.2),.inv z7.2 (bu k q5)]++wI ml1);refine bL (iJ (Γ':=[(2,_),(3,_)]) [.raw dl (.deferred (some [])),.obj u 3 (I (a0.2.2.2.2.2.length:Int)),.obj b1 25 (.rep an a0),.obj b2 27 (.rep Tl j.1),.obj b3 30 (I 0),.obj b8 64 (.eq (.pointer (some ⟨z7.1,0,none⟩))),.obj z7.1 121 (aI q5 z7.2),.obj e 3 (I c.2),.inv z7.2 (bu k q5)] (wI ml1) [1,2,3,4,5,6,7,8,0] ⟨rfl,rfl,trivial⟩ rfl) ?_;refine HV (Δ:=[.obj u 3 (I (a0.2.2.2.2.2.length:Int)),.obj b1 25 (.rep an a0),.obj b2 27 (.rep Tl j.1),.obj b3 30 (I 0),.obj b8 64 (.eq (.pointer (some ⟨z7.1,0,none⟩))),.obj z7.1 121 (aI q5 z7.2),.obj e 3 (I c.2),.inv z7.2 (bu k q5)]) (dl::ml1) ?_;cases h;exact aZ () [_,_] 0 ⟨⟨_,_,_,_,_,rfl,(.tail _ (.tail _ (.head _))),je,(λ_=>rfl),rfl⟩,⟨_,_,_,_,_,rfl,(.tail _ (.tail _ (.tail _ (.head _)))),AI,(λ_=>rfl),rfl⟩,trivial⟩ rfl
def oV(k:Nat)(a0:am)(a1:av):Option am:=
 (d3 (dR (length a0.2.2.2.2.2+length [a1]))).bind λ_=>
 some (a0.1,a0.2.1,a0.2.2.1,a0.2.2.2.1,a0.2.2.2.2.1,a0.2.2.2.2.2++[a1])
theorem t6(k:Nat)(a0:am)(a1:av)(r:am)(h:oV k a0 a1=some r):
 dA Tryz.prog 49 [.rep an a0,.rep aG a1] [] (λ_:Unit=>(bO [.rep an r],[])):=by
 unfold oV at h
 replace h:=bz h
 refine dA.of 19 Tryz.func49 rfl Tryz.ntmps49 rfl λS w0=>?_
 refine sr ?_
 refine bx λb1=>?_
 refine bx λb2=>?_
 refine aS rfl rfl rfl (aY rfl mA te) trivial λb3=>?_
 refine nt ?_
 refine ai ?_
 refine dn ?_
 refine da (bg rfl ma) ?_
 refine ea 2 (aL rfl va rM rfl) ?_
 refine da (bg rfl ma) ?_
 refine ea 2 (aL rfl va rM rfl) ?_
 refine da (oq rfl rfl FA) ?_
 refine da (bg rfl ma) ?_
 refine ea 2 (aL rfl va rM rfl) ?_
 refine da (oq rfl rfl FA) ?_
 refine dc (vo (t:=aG) rfl FA qy rfl rfl) ?_
 refine ea 1 (aL rfl qy (mW) rfl) ?_
 refine da (aQ (t:=aG) [(.tmp 14,_)] [a1] rfl rfl wG (.cons rfl .rep .nil) rfl rfl) ?_
 refine df fa ?_
 obtain⟨u4,c,h⟩:=aa h
 refine aS rfl rfl rfl (tV rfl rfl wG (ax c) rfl) ⟨rfl,rfl,trivial⟩ λv5=>?_
 refine fl ma ?_
 refine rl λo6=>?_
 refine fr 3 ?_
 refine aK rfl rfl (aD rfl va o6 rfl rfl) ⟨rfl,rfl,trivial⟩ ?_
 refine nt ?_
 refine sr ?_
 refine fr 1 ?_
 refine d4 (mh (off:=5) [16] ⟨rfl,trivial⟩ rfl rfl) ?_
 refine lo c6 ?_
 refine fr 1 ?_
 refine aK rfl rfl (aD rfl c6 trivial rfl rfl) ⟨rfl,rfl,trivial⟩ ?_
 refine nt ?_
 refine aF ?_
 refine bL (dz (a:=.agg (.pair (.rep Ti a0.1) (.pair (.rep Ti a0.2.1) (.pair (.rep Ti a0.2.2.1) (.pair (.rep Ti a0.2.2.2.1) (.pair (.rep (.slice (.slice Tl)) a0.2.2.2.2.1) (Rs aG (a0.2.2.2.2.2++[a1])))))))) (a':=.rep an (a0.1,a0.2.1,a0.2.2.1,a0.2.2.2.1,a0.2.2.2.2.1,a0.2.2.2.2.2++[a1])) (gk (.agg (.pair .rep (.pair .rep (.pair .rep (.pair .rep (.pair .rep .rep)))))))) ?_
 cases h
 exact aZ () [.rep an (a0.1,a0.2.1,a0.2.2.1,a0.2.2.2.1,a0.2.2.2.2.1,a0.2.2.2.2.2++[a1])] 0 ⟨⟨_,_,_,_,_,rfl,(.head _),c6,(mW),rfl⟩,trivial⟩ rfl
def rV(k:Nat)(a0:am)(a1:av):Option (am×Int):=
 (iQ k a0 ([]:(List Int)) ([]:(List Int)) ([]:(List Int)) ([]:(List Int))).bind λr4=>
 eQ r4.1 (if¬(r4.2.2=0) then(some ((0,0,0,0,[],[]),r4.2.2)) else(none)) (λq5=>if¬(r4.2.2=0) then(some ((0,0,0,0,[],[]),r4.2.2)) else(if(a0.2.2.2.2.2.length:Int)=8 then(some ((0,0,0,0,[],[]),6)) else((f7 k a0 a1).bind λr7=>
 if¬(r7=0) then(some ((0,0,0,0,[],[]),r7)) else((oV k a0 a1).bind λr8=>
 (((cR k q5 0).bind λj=>
 if 0 < (j.length:Int) then((jw k r8).bind λh=>
 eQ h (none) (λl=>(cR k l 0).bind λe=>
 some (decide ((e.length:Int)=0)))) else(some false)):Option (Bool)).bind λc=>
 if c=true then(some ((0,0,0,0,[],[]),9)) else(some (r8,0))))))
theorem sT(k:Nat)(a0:am)(a1:av)(r:am×Int)(h:rV k a0 a1=some r):
 bG (cS Tryz.prog) 18 [.rep an a0,.rep aG a1] [] (λ_:Unit=>(bO [.rep an r.1,I r.2],[])):=by
 unfold rV at h
 replace h:=bz h
 refine bG.of 49 Tryz.func18 rfl Tryz.ntmps18 rfl λS w0=>?_
 refine sr ?_
 refine bx λb1=>?_
 refine bx λb2=>?_
 refine aS rfl rfl rfl (aY rfl mA te) trivial λb3=>?_
 refine cq ?_
 refine nt ?_
 refine sr ?_
 refine fr 2 ?_
 refine lo c6 ?_
 obtain⟨r4,X,h⟩:=aa h
 have e:=gr k a0 ([]:(List Int)) ([]:(List Int)) ([]:(List Int)) ([]:(List Int)) r4 X
 rcases hr:r4.1 with _ |q5
 .
  rw [hr] at h e;replace h:=oe h;refine aC (Δ:=[]) (F:=_) (λ_ _ _=>ab rfl _) rfl rfl (aE (N:=[(.tmp 12,.rep an a0),(.const (.slice none 0 0),.eq (.slice none 0 0)),(.const (.slice none 0 0),.eq (.slice none 0 0)),(.const (.slice none 0 0),.eq (.slice none 0 0)),(.const (.slice none 0 0),.eq (.slice none 0 0))]) (ay [.tmp 12,.const (.slice none 0 0),.const (.slice none 0 0),.const (.slice none 0 0),.const (.slice none 0 0)] rfl rfl rR rfl e) λ_ _ _ hn=>⟨hn.1,(aj (t:=Tl) (x:=([]:(List Int))) .nil rfl rfl hn.2.1),(aj (t:=Tl) (x:=([]:(List Int))) .nil rfl rfl hn.2.2.1),(aj (t:=Tl) (x:=([]:(List Int))) .nil rfl rfl hn.2.2.2.1),(aj (t:=Tl) (x:=([]:(List Int))) .nil rfl rfl hn.2.2.2.2.1),trivial⟩) ⟨rfl,rfl,rfl,rfl,rfl,trivial⟩ λ_=>?_;refine mq ?_;refine xr ?_;refine xr ?_;refine xr ?_;refine aq ?_;refine aq ?_;refine aq (nt (ai (sr ?_)));refine mq ?_;refine jb (bV rfl) ?_;refine nt (cn h (λh=>?_) (λh=>?_))
  .refine sr (bX rfl (cJ [] rfl yu mA td (fO trivial) rfl) trivial ?_);refine mq ?_;refine fr 1 ?_;refine aK rfl rfl (aD rfl c6 trivial rfl rfl) ⟨rfl,rfl,trivial⟩ ?_;refine aq (nt (rx ?_));refine bL (dz (a:=.agg (.pair (I 0) (.pair (I 0) (.pair (I 0) (.pair (I 0) (.pair (.eq (.slice none 0 0)) (.eq (.slice none 0 0)))))))) (a':=.rep an (0,0,0,0,[],[])) (gk (.agg (.pair .int (.pair .int (.pair .int (.pair .int (.pair .nil .nil)))))))) ?_;cases h;exact aZ () [.rep an (0,0,0,0,[],[]),_] 0 ⟨⟨_,_,_,_,_,rfl,(.head _),c6,(mW),rfl⟩,rfl,trivial⟩ rfl
  .cases h
 .
  rw [hr] at h e;replace h:=oc h;refine aC (Δ:=[]) (F:=_) (λ_ _ _=>ab rfl _) rfl rfl (aE (N:=[(.tmp 12,.rep an a0),(.const (.slice none 0 0),.eq (.slice none 0 0)),(.const (.slice none 0 0),.eq (.slice none 0 0)),(.const (.slice none 0 0),.eq (.slice none 0 0)),(.const (.slice none 0 0),.eq (.slice none 0 0))]) (ay [.tmp 12,.const (.slice none 0 0),.const (.slice none 0 0),.const (.slice none 0 0),.const (.slice none 0 0)] rfl rfl rR rfl e) λ_ _ _ hn=>⟨hn.1,(aj (t:=Tl) (x:=([]:(List Int))) .nil rfl rfl hn.2.1),(aj (t:=Tl) (x:=([]:(List Int))) .nil rfl rfl hn.2.2.1),(aj (t:=Tl) (x:=([]:(List Int))) .nil rfl rfl hn.2.2.2.1),(aj (t:=Tl) (x:=([]:(List Int))) .nil rfl rfl hn.2.2.2.2.1),trivial⟩) ⟨rfl,rfl,rfl,rfl,rfl,trivial⟩ λz6=>?_;refine mq ?_;refine xr ?_;refine xr ?_;refine xr ?_;refine aq ?_;refine aq ?_;refine aq (nt (ai (sr ?_)));refine mq ?_;refine jb (bV rfl) ?_;refine nt (cn h (λh=>?_) (λh=>?_))
  .refine sr (bX rfl (cJ [] rfl yu mA td (fO trivial) rfl) trivial ?_);refine mq ?_;refine fr 3 ?_;refine aK rfl rfl (aD rfl c6 trivial rfl rfl) ⟨rfl,rfl,trivial⟩ ?_;refine aq (nt (rx ?_));refine bL (dz (a:=.agg (.pair (I 0) (.pair (I 0) (.pair (I 0) (.pair (I 0) (.pair (.eq (.slice none 0 0)) (.eq (.slice none 0 0)))))))) (a':=.rep an (0,0,0,0,[],[])) (gk (.agg (.pair .int (.pair .int (.pair .int (.pair .int (.pair .nil .nil)))))))) ?_;cases h;exact aZ () [.rep an (0,0,0,0,[],[]),_] 0 ⟨⟨_,_,_,_,_,rfl,(.head _),c6,(mW),rfl⟩,rfl,trivial⟩ rfl
  .refine sk (ai (sr (fl ma ?_)));refine fr 2 ?_;refine lo va ?_;refine ol FA ?_;refine jb (dE rfl) ?_;refine nt (ci h (λh=>?_) (λh=>?_))
   .refine sr (bX rfl (cJ [] rfl yu mA td (fO trivial) rfl) trivial ?_);refine fr 3 ?_;refine aK rfl rfl (aD rfl c6 trivial rfl rfl) ⟨rfl,rfl,trivial⟩ ?_;refine cq (nt (rx ?_));refine bL (dz (a:=.agg (.pair (I 0) (.pair (I 0) (.pair (I 0) (.pair (I 0) (.pair (.eq (.slice none 0 0)) (.eq (.slice none 0 0)))))))) (a':=.rep an (0,0,0,0,[],[])) (gk (.agg (.pair .int (.pair .int (.pair .int (.pair .int (.pair .nil .nil)))))))) ?_;cases h;exact aZ () [.rep an (0,0,0,0,[],[]),_] 0 ⟨⟨_,_,_,_,_,rfl,(.head _),c6,(mW),rfl⟩,rfl,trivial⟩ rfl
   .refine sk (ai (sr (lo c6 ?_)));refine fr 4 ?_;refine lo qy ?_;obtain⟨r7,U,h⟩:=aa h;refine jb (ap [.tmp 26,.tmp 27] rfl rfl L6 rfl (kg k a0 a1 r7 U)) ?_;refine aq (nt (sr ?_));refine mq ?_;refine jb (bV rfl) ?_;refine nt (cn h (λh=>?_) (λh=>?_))
    .refine sr (bX rfl (cJ [] rfl yu mA td (fO trivial) rfl) trivial ?_);refine mq ?_;refine fr 4 ?_;refine aK rfl rfl (aD rfl c6 trivial rfl rfl) ⟨rfl,rfl,trivial⟩ ?_;refine aq (nt (rx ?_));refine bL (dz (a:=.agg (.pair (I 0) (.pair (I 0) (.pair (I 0) (.pair (I 0) (.pair (.eq (.slice none 0 0)) (.eq (.slice none 0 0)))))))) (a':=.rep an (0,0,0,0,[],[])) (gk (.agg (.pair .int (.pair .int (.pair .int (.pair .int (.pair .nil .nil)))))))) ?_;cases h;exact aZ () [.rep an (0,0,0,0,[],[]),_] 0 ⟨⟨_,_,_,_,_,rfl,(.head _),c6,(mW),rfl⟩,rfl,trivial⟩ rfl
    .refine sk (sr (fr 1 ?_));refine lo c6 ?_;refine fr 1 ?_;refine lo qy ?_;obtain⟨r8,Q,h⟩:=aa h;refine jb (ap [.tmp 33,.tmp 34] rfl rfl Of rfl (t6 k a0 a1 r8 Q)) ?_;refine aS rfl rfl rfl (aY rfl mA te) trivial λb9=>?_;refine aK rfl rfl (aD rfl c6 rfl rfl rfl) ⟨rfl,rfl,trivial⟩ ?_;refine nt (ai (aR (Z:=Unit) (α:=Bool) (λn j=>[(4,Pt b3),(10,Pt b9),(46,.eq (.bool j))]) (λn j=>[.obj b3 25 (.agg (.pair (I 0) (.pair (I 0) (.pair (I 0) (.pair (I 0) (.pair (.eq (.slice none 0 0)) (.eq (.slice none 0 0)))))))),.obj b9 25 (.rep an r8),.inv z6.2 (bu k q5)]) h (λK h=>?_) (λn j h=>?_)))
     .refine ae (mq ?_);obtain⟨M,J,h⟩:=aa h;refine fr 4 ?_;refine fr 4 ?_;refine aC (Δ:=[_,_]) (F:=_) (λ_ _ _=>ab rfl _) rfl rfl (ay [.tmp 36,.const (.int .u8 (0))] rfl rfl Es rfl (dw k q5 z6.1 z6.2 0 M J)) ⟨rfl,rfl,trivial⟩ λ_=>?_;refine ol ql ?_;refine jb (lA rfl) ?_;refine mq ?_;refine aP (s:=40) rfl (λhb=>?_) (λhb=>?_)
      .replace h:=cj (qf hb) h;refine fr 2 ?_;refine iw rfl rfl rfl rfl rfl rfl (aL rfl c6 (mW) rfl) ⟨rfl,trivial⟩ ?_;obtain⟨y,E,h⟩:=aa h;have c:=jk k r8 y E;rcases hr:y with _ |O
       .rw [hr] at h c;replace h:=oe h;refine aC (Δ:=[]) (F:=_) (λ_ _ h=>(jL rfl rfl rfl rfl h).trans rfl) rfl rfl (ap [.tmp 41] rfl rfl A5 rfl c) ⟨rfl,trivial⟩ λ_=>?_;cases h
       .rw [hr] at h c;replace h:=oc h;refine aC (Δ:=[]) (F:=_) (λ_ _ h=>(jL rfl rfl rfl rfl h).trans rfl) rfl rfl (ap [.tmp 41] rfl rfl A5 rfl c) ⟨rfl,trivial⟩ λl=>?_;obtain⟨u,D,h⟩:=aa h;refine fr 1 ?_;refine fr 1 ?_;refine aC (Δ:=[_,_]) (F:=_) (λ_ _ h=>(jL rfl rfl rfl rfl h).trans rfl) rfl rfl (ay [.tmp 42,.const (.int .u8 (0))] rfl rfl Es rfl (dw k O l.1 l.2 0 u D)) ⟨rfl,rfl,trivial⟩ λ_=>?_;refine ga (oq rfl rfl ql) ?_;refine gb (dE rfl) ?_;refine pt (nl ?_);exact jz ((),decide ((u.length:Int)=0)) h [7,2,4]
      .replace h:=bh (qg hb) h;iterate 5 refine gn ?_
       refine pf (nl ?_);exact jz ((),false) h [5,2,1]
     .refine cv h (λh=>?_) (λh=>?_)
      .refine sr (bX rfl (cJ [] rfl yu mA td (fO trivial) rfl) trivial ?_);refine aK rfl rfl (aD rfl c6 trivial rfl rfl) ⟨rfl,rfl,trivial⟩ ?_;refine cq (nt (rx ?_));refine bL (dz (a:=.agg (.pair (I 0) (.pair (I 0) (.pair (I 0) (.pair (I 0) (.pair (.eq (.slice none 0 0)) (.eq (.slice none 0 0)))))))) (a':=.rep an (0,0,0,0,[],[])) (gk (.agg (.pair .int (.pair .int (.pair .int (.pair .int (.pair .nil .nil)))))))) ?_;cases h;exact aZ () [.rep an (0,0,0,0,[],[]),_] 0 ⟨⟨_,_,_,_,_,rfl,(.head _),c6,(mW),rfl⟩,rfl,trivial⟩ rfl
      .refine sk (sr (fr 1 ?_));refine lo c6 ?_;refine fr 1 ?_;refine aK rfl rfl (aD rfl c6 rfl rfl rfl) ⟨rfl,rfl,trivial⟩ ?_;refine cq (nt (aF ?_));cases h;exact aZ () [.rep an r8,_] 0 ⟨⟨_,_,_,_,_,rfl,(.head _),c6,(mW),rfl⟩,rfl,trivial⟩ rfl
def lb(k:Nat):Option Bool:=
 (bf k ([]:(List av))).bind λr1=>
 (bf k ([]:(List av))).bind λr2=>
 (bf k ([]:(List av))).bind λr3=>
 (bf k ([]:(List av))).bind λr4=>
 (bT r4.2.2.2.2.1 0).bind λx5=>
 (bT x5 0).bind λP2=>
 (((sW k).bind λP1=>
 if¬(P1=true) then(some true) else((bf k ([]:(List av))).bind λP0=>
 (fK k P0).bind λPZ=>
 if¬(PZ=0) then(some true) else((fK k (0,r1.2)).bind λPY=>
 if¬(PY=1) then(some true) else((fK k (r2.1,r2.2.1,r2.2.2.1,0,r2.2.2.2.2)).bind λPX=>
 if¬(PX=1) then(some true) else((fK k (r3.1,r3.2.1,r3.2.2.1,r3.2.2.2.1,[],r3.2.2.2.2.2)).bind λPW=>
 if¬(PW=7) then(some true) else((fK k (r4.1,r4.2.1,r4.2.2.1,r4.2.2.2.1,List.set r4.2.2.2.2.1 (Int.toNat 0) (List.set x5 (Int.toNat 0) [0,0]),r4.2.2.2.2.2)).bind λPV=>
 if¬(PV=4) then(some true) else((eP k 0 5 true).bind λPU=>
 (bf k [PU]).bind λPT=>
 (fK k PT).bind λPS=>
 some (!decide (PS=3))))))))):Option (Bool)).bind λZ=>
 if Z=true then(some false) else((eP k 0 2 false).bind λPR=>
 (bf k [PR]).bind λj=>
 (bf k ([]:(List av))).bind λPQ=>
 (kh k PQ [3]).bind λc=>
 (bf k ([]:(List av))).bind λPP=>
 (kh k PP [3,0]).bind λPO=>
 (kj k j).bind λJ=>
 (bf k ([]:(List av))).bind λPN=>
 (l6 k PN).bind λI=>
 (l6 k j).bind λPM=>
 ((if¬(c.2=0) then(some true) else(if¬(PO.2=5) then(some true) else(if¬(J.2=0) then(some true) else(if¬(I.2=0) then(some true) else(if¬(PM.2=9) then(some true) else(if¬((c.1.length:Int)=5) then(some true) else(if 0 < (J.1.length:Int) then(some true) else((bT c.1 0).bind λX=>
 (cE k X [(-1:Int),(-1:Int),(-1:Int),1]).bind λPL=>
 if¬(PL=true) then(some true) else((bT c.1 4).bind λU=>
 (cE k U [(-1:Int),0,2,5]).bind λPK=>
 if¬(PK=true) then(some true) else((cE k I.1 [0]).bind λPI=>
 some (!PI))))))))))):Option (Bool)).bind λY=>
 if Y=true then(some false) else((bf k ([]:(List av))).bind λPH=>
 (lH k PH 1).bind λF=>
 (bf k ([]:(List av))).bind λPG=>
 (lH k PG 4).bind λE=>
 (bf k ([]:(List av))).bind λPE=>
 (lH k PE 5).bind λPD=>
 (bf k ([]:(List av))).bind λPC=>
 (lI k PC 0).bind λD=>
 (bf k ([]:(List av))).bind λPz=>
 (lI k Pz 3).bind λy=>
 (bf k ([]:(List av))).bind λPy=>
 (nf k Py 3).bind λx=>
 ((if¬(F.2=0) then(some true) else(if¬(E.2=0) then(some true) else(if¬(PD.2=3) then(some true) else(if¬(D.2=0) then(some true) else(if¬(y.2=0) then(some true) else(if¬(x.2=0) then(some true) else(if¬(D.1=(0,1)) then(some true) else(if¬(y.1=(3,4)) then(some true) else((cE k F.1 [1,1,3,2]).bind λPx=>
 if¬(Px=true) then(some true) else((cE k E.1 [2,1,1,1]).bind λPo=>
 if¬(Po=true) then(some true) else((cE k x.1 [0,1]).bind λPn=>
 some (!Pn)))))))))))):Option (Bool)).bind λQ=>
 if Q=true then(some false) else((bf k ([]:(List av))).bind λPm=>
 (nL k Pm [3] 0).bind λPl=>
 (nK k j).bind λu=>
 (bf k ([]:(List av))).bind λPj=>
 (nK k Pj).bind λs=>
 (bf k ([]:(List av))).bind λPi=>
 (eP k 0 2 false).bind λPg=>
 (rV k Pi Pg).bind λPe=>
 (bf k ([]:(List av))).bind λO9=>
 (eP k 2 2 true).bind λzM=>
 (rV k O9 zM).bind λr=>
 (kj k r.1).bind λn=>
 ((if¬(Pl.2=11) then(some true) else(if¬(u.2=0) then(some true) else(if¬(s.2=0) then(some true) else(if¬(Pe.2=9) then(some true) else(if¬(r.2=0) then(some true) else(if¬(n.2=0) then(some true) else(if 0 < (s.1.length:Int) then(some true) else((cE k u.1 [0]).bind λzz=>
 if¬(zz=true) then(some true) else((fW k n.1 [[0,1],[1]]).bind λqt=>
 some (!qt)))))))))):Option (Bool)).bind λO=>
 if O=true then(some false) else((bf k ([]:(List av))).bind λpq=>
 (nh k pq 1).bind λh=>
 (bf k ([]:(List av))).bind λmw=>
 (nh k mw 0).bind λe=>
 (bf k ([]:(List av))).bind λmc=>
 (lZ k mc 3).bind λl=>
 ((if h.2.2=0 then(if e.2.2=0 then(if l.2=0 then(if h.1=0 then(if h.2.1=2 then(if e.1=0 then(if e.2.1=2 then((cE k l.1 [1]).bind λgw=>
 some gw) else(some false)) else(some false)) else(some false)) else(some false)) else(some false)) else(some false)) else(some false)):Option (Bool)).bind λM=>
 some M))))
theorem qU(k:Nat)(r:Bool)(h:lb k=some r):
 bG (cS Tryz.prog) 3 [] [] (λ_:Unit=>(bO [.eq (.bool r)],[])):=by
 unfold lb at h
 replace h:=bz h
 refine bG.of 355 Tryz.func3 rfl Tryz.ntmps3 rfl λS w0=>?_
 refine sr ?_
 refine cq ?_
 refine nt ?_
 refine sr ?_
 obtain⟨r1,RE,h⟩:=aa h
 have RI:=aU k ([]:(List av)) r1 RE
 refine ja (aE (N:=[(.const (.slice none 0 0),.eq (.slice none 0 0))]) (ap [.const (.slice none 0 0)] rfl rfl qd rfl RI) λ_ _ _ hn=>⟨(aj (t:=(.slice aG)) (x:=([]:(List av))) .nil rfl rfl hn.1),trivial⟩) ?_
 obtain⟨r2,RD,h⟩:=aa h
 have RH:=aU k ([]:(List av)) r2 RD
 refine ja (aE (N:=[(.const (.slice none 0 0),.eq (.slice none 0 0))]) (ap [.const (.slice none 0 0)] rfl rfl qd rfl RH) λ_ _ _ hn=>⟨(aj (t:=(.slice aG)) (x:=([]:(List av))) .nil rfl rfl hn.1),trivial⟩) ?_
 obtain⟨r3,RB,h⟩:=aa h
 have RG:=aU k ([]:(List av)) r3 RB
 refine ja (aE (N:=[(.const (.slice none 0 0),.eq (.slice none 0 0))]) (ap [.const (.slice none 0 0)] rfl rfl qd rfl RG) λ_ _ _ hn=>⟨(aj (t:=(.slice aG)) (x:=([]:(List av))) .nil rfl rfl hn.1),trivial⟩) ?_
 obtain⟨r4,Rz,h⟩:=aa h
 obtain⟨x5,Q,h⟩:=aa h
 have RF:=ua k ([]:(List av)) r4 Rz x5 Q
 refine aC (Δ:=[]) (F:=[]) (λ_ _ _=>ab rfl _) rfl rfl (aE (N:=[(.const (.slice none 0 0),.eq (.slice none 0 0))]) (ap [.const (.slice none 0 0)] rfl rfl qd rfl RF) λ_ _ _ hn=>⟨(aj (t:=(.slice aG)) (x:=([]:(List av))) .nil rfl rfl hn.1),trivial⟩) ⟨rfl,trivial⟩ λz6=>?_
 refine aS rfl rfl rfl (aY rfl mA te) trivial λb7=>?_
 refine aS rfl rfl rfl (aY rfl mA te) trivial λb8=>?_
 refine aS rfl rfl rfl (aY rfl mA te) trivial λb9=>?_
 refine aS rfl rfl rfl (aY rfl mA te) trivial λRJ=>?_
 refine fr 3 ?_
 refine aK rfl rfl (aD rfl c6 rfl rfl rfl) ⟨rfl,rfl,trivial⟩ ?_
 refine fr 3 ?_
 refine aK rfl rfl (aD rfl c6 rfl rfl rfl) ⟨rfl,rfl,trivial⟩ ?_
 refine fr 3 ?_
 refine aK rfl rfl (aD rfl c6 rfl rfl rfl) ⟨rfl,rfl,trivial⟩ ?_
 refine fr 3 ?_
 refine aK rfl rfl (aD rfl c6 trivial rfl rfl) ⟨rfl,rfl,trivial⟩ ?_
 refine nt ?_
 refine ai ?_
 refine nA ?_
 refine co rfl rfl rfl (bg rfl fQ) ⟨rfl,trivial⟩ ?_
 refine fS 0 rfl rfl rfl rfl (aL rfl nZ rM rfl) ⟨rfl,trivial⟩ ?_
 refine fS 4 rfl rfl rfl rfl (cY (t:=.alt (.slice Tl)) rfl Bo wE (xm Q _)) ⟨rfl,rfl,trivial⟩ ?_
 refine fS 4 rfl rfl rfl rfl (yy (i:=Int.toNat 0) rfl wE rfl (dp (xm Q _)).2.2) ⟨rfl,trivial⟩ ?_
 refine co rfl rfl rfl (aQ (t:=Ti) [(.const (.int .i64 (0)),_),(.const (.int .i64 (0)),_)] [0,0] rfl rfl cD (.cons rfl .int (.cons rfl .int .nil)) rfl rfl) ⟨rfl,rfl,trivial⟩ ?_
 refine co rfl rfl rfl (bg rfl g7) ⟨rfl,trivial⟩ ?_
 refine tG 6 [false,false,false,false,false,true] [36,37] [0,4] [.obj RJ 25 (.agg (.pair (I r4.1) (.pair (I r4.2.1) (.pair (I r4.2.2.1) (.pair (I r4.2.2.2.1) (.pair (.eq z6.1) (Rs aG r4.2.2.2.2.2))))))),.sl z6.1 28 (.alt (.slice Tl)) (List.set (List.map Sum.inl r4.2.2.2.2.1) (Int.toNat 0) (Sum.inr z6.2))] rfl (by kernel_rfl) (by kernel_rfl) (by kernel_rfl) fa (λvs hv hB=>?_)
 obtain⟨w0,RS,rfl,Ry⟩:=aM hv
 obtain⟨w1,RR,rfl,Rx⟩:=aM Ry
 obtain⟨w2,RQ,rfl,Rw⟩:=aM Rx
 obtain⟨w3,RP,rfl,Ru⟩:=aM Rw
 obtain⟨w4,RO,rfl,Rt⟩:=aM Ru
 obtain⟨w5,RN,rfl,Rr⟩:=aM Rt
 obtain rfl:=pV Rr
 refine⟨[0,4,1,2,3,5],[.obj b9 25 (.rep an r3),.obj b8 25 (.rep an r2),.obj b7 25 (.rep an r1),.sl z6.2 27 Tl x5],by kernel_rfl,by decide,?_⟩
 refine qp 2 rfl ?_
 refine ny rfl rfl (aD rfl cL rfl rfl rfl) ⟨rfl,rfl,trivial⟩ (by kernel_rfl) ?_
 refine E0 rfl rfl rfl rfl (bg rfl yP) ⟨rfl,trivial⟩ (by kernel_rfl) ?_
 refine qp 2 rfl ?_
 refine ny rfl rfl (aD rfl cL rfl rfl rfl) ⟨rfl,rfl,trivial⟩ (by kernel_rfl) ?_
 refine E0 rfl rfl rfl rfl (bg rfl fQ) ⟨rfl,trivial⟩ (by kernel_rfl) ?_
 refine qp 2 rfl ?_
 refine ny rfl rfl (aD rfl nZ rfl rfl rfl) ⟨rfl,rfl,trivial⟩ (by kernel_rfl) ?_
 refine E1 (by kernel_rfl) ?_
 obtain⟨RL,j,h⟩:=aa h
 refine fr 5 ?_
 refine kb (cY (t:=Tl) rfl vT je j) ?_
 refine aK rfl rfl (iL (i:=Int.toNat 0) rfl je rfl (pW j) rfl .rep rfl) ⟨rfl,rfl,trivial⟩ ?_
 refine nt ?_
 refine bR 2 rfl ?_
 refine bR 1 rfl ?_
 refine i8 (Bq (u:=.slice Ti) (l:=r4.2.2.2.2.1) (i:=Int.toNat 0)) ?_
 refine bR 1 rfl ?_
 refine bR 1 rfl ?_
 refine i8 (mh (off:=4) [31] ⟨rfl,trivial⟩ rfl rfl) ?_
 refine ai ?_
 refine aR (Z:=Unit) (α:=Bool) (λmc J=>[(72,.eq (.bool J))]) (λmc J=>[]) h (λK h=>?_) (λmc J h=>?_)
 .
  refine ae ?_;obtain⟨Rq,QV,h⟩:=aa h;refine bX rfl (ay [] rfl rfl O1 rfl (xi k Rq QV)) trivial ?_;refine ja (ec rfl) ?_;refine mq ?_;refine aP (s:=41) rfl (λhb=>?_) (λhb=>?_)
  .replace h:=cj (qI hb) h;iterate 3 refine gn ?_
   refine pt ?_;refine mq ?_;iterate 3 refine gn ?_
   refine pt ?_;refine mq ?_;iterate 3 refine gn ?_
   refine pt ?_;refine mq ?_;iterate 3 refine gn ?_
   refine pt ?_;refine mq ?_;iterate 3 refine gn ?_
   refine pt ?_;refine mq ?_;iterate 5 refine gn ?_
   refine pt (nl ?_);exact jz ((),true) h []
  .replace h:=bh (lE hb) h;obtain⟨PT,QU,h⟩:=aa h;refine ga (aE (N:=[(.const (.slice none 0 0),.eq (.slice none 0 0))]) (ap [.const (.slice none 0 0)] rfl rfl qd rfl (aU k ([]:(List av)) PT QU)) λ_ _ _ hn=>⟨(aj (t:=(.slice aG)) (x:=([]:(List av))) .nil rfl rfl hn.1),trivial⟩) ?_;obtain⟨Ro,QT,h⟩:=aa h;refine ga (ap [.tmp 42] rfl rfl JI rfl (eO k PT Ro QT)) ?_;refine gb (bV rfl) ?_;refine pf ?_;refine mq ?_;refine aP (s:=46) rfl (λhb=>?_) (λhb=>?_)
   .replace h:=cj (rC hb) h;iterate 3 refine gn ?_
    refine pt ?_;refine mq ?_;iterate 3 refine gn ?_
    refine pt ?_;refine mq ?_;iterate 3 refine gn ?_
    refine pt ?_;refine mq ?_;iterate 3 refine gn ?_
    refine pt ?_;refine mq ?_;iterate 5 refine gn ?_
    refine pt (nl ?_);exact jz ((),true) h []
   .replace h:=bh (iP hb) h;refine fr 3 ?_;refine iw rfl rfl rfl rfl rfl rfl (aL rfl c6 (mW) rfl) ⟨rfl,trivial⟩ ?_;obtain⟨Rn,QR,h⟩:=aa h;refine ga (aE (N:=[(.tmp 47,.agg (.pair (I 0) (.rep (.pair Ti (.pair Ti (.pair Ti (.pair (.slice (.slice Tl)) (.slice aG))))) r1.2)))]) (ap [.tmp 47] rfl rfl JI rfl (eO k (0,r1.2) Rn QR)) λ_ _ _ hn=>⟨(aj (t:=an) (x:=(0,r1.2)) (.agg (.pair .int .rep)) trivial rfl hn.1),trivial⟩) ?_;refine gb (bV rfl) ?_;refine pf ?_;refine mq ?_;refine aP (s:=51) rfl (λhb=>?_) (λhb=>?_)
    .replace h:=cj (rC hb) h;iterate 3 refine gn ?_
     refine pt ?_;refine mq ?_;iterate 3 refine gn ?_
     refine pt ?_;refine mq ?_;iterate 3 refine gn ?_
     refine pt ?_;refine mq ?_;iterate 5 refine gn ?_
     refine pt (nl ?_);exact jz ((),true) h []
    .replace h:=bh (iP hb) h;refine fr 3 ?_;refine iw rfl rfl rfl rfl rfl rfl (aL rfl c6 (mW) rfl) ⟨rfl,trivial⟩ ?_;obtain⟨Rm,QQ,h⟩:=aa h;refine ga (aE (N:=[(.tmp 52,.agg (.pair (.rep Ti r2.1) (.pair (.rep Ti r2.2.1) (.pair (.rep Ti r2.2.2.1) (.pair (I 0) (.rep (.pair (.slice (.slice Tl)) (.slice aG)) r2.2.2.2.2))))))]) (ap [.tmp 52] rfl rfl JI rfl (eO k (r2.1,r2.2.1,r2.2.2.1,0,r2.2.2.2.2) Rm QQ)) λ_ _ _ hn=>⟨(aj (t:=an) (x:=(r2.1,r2.2.1,r2.2.2.1,0,r2.2.2.2.2)) (.agg (.pair .rep (.pair .rep (.pair .rep (.pair .int .rep))))) trivial rfl hn.1),trivial⟩) ?_;refine gb (bV rfl) ?_;refine pf ?_;refine mq ?_;refine aP (s:=56) rfl (λhb=>?_) (λhb=>?_)
     .replace h:=cj (rC hb) h;iterate 3 refine gn ?_
      refine pt ?_;refine mq ?_;iterate 3 refine gn ?_
      refine pt ?_;refine mq ?_;iterate 5 refine gn ?_
      refine pt (nl ?_);exact jz ((),true) h []
     .replace h:=bh (iP hb) h;refine fr 3 ?_;refine iw rfl rfl rfl rfl rfl rfl (aL rfl c6 (mW) rfl) ⟨rfl,trivial⟩ ?_;obtain⟨Rl,QP,h⟩:=aa h;refine ga (aE (N:=[(.tmp 57,.agg (.pair (.rep Ti r3.1) (.pair (.rep Ti r3.2.1) (.pair (.rep Ti r3.2.2.1) (.pair (.rep Ti r3.2.2.2.1) (.pair (.eq (.slice none 0 0)) (Rs aG r3.2.2.2.2.2)))))))]) (ap [.tmp 57] rfl rfl JI rfl (eO k (r3.1,r3.2.1,r3.2.2.1,r3.2.2.2.1,[],r3.2.2.2.2.2) Rl QP)) λ_ _ _ hn=>⟨(aj (t:=an) (x:=(r3.1,r3.2.1,r3.2.2.1,r3.2.2.2.1,[],r3.2.2.2.2.2)) (.agg (.pair .rep (.pair .rep (.pair .rep (.pair .rep (.pair .nil .rep)))))) trivial rfl hn.1),trivial⟩) ?_;refine gb (bV rfl) ?_;refine pf ?_;refine mq ?_;refine aP (s:=61) rfl (λhb=>?_) (λhb=>?_)
      .replace h:=cj (rC hb) h;iterate 3 refine gn ?_
       refine pt ?_;refine mq ?_;iterate 5 refine gn ?_
       refine pt (nl ?_);exact jz ((),true) h []
      .replace h:=bh (iP hb) h;refine fr 3 ?_;refine iw rfl rfl rfl rfl rfl rfl (aL rfl c6 (mW) rfl) ⟨rfl,trivial⟩ ?_;obtain⟨Rj,QO,h⟩:=aa h;refine ga (aE (N:=[(.tmp 62,.agg (.pair (I r4.1) (.pair (I r4.2.1) (.pair (I r4.2.2.1) (.pair (I r4.2.2.2.1) (.pair (.rep (.slice (.slice Tl)) (List.set r4.2.2.2.2.1 (Int.toNat 0) (List.set x5 (Int.toNat 0) [0,0]))) (Rs aG r4.2.2.2.2.2)))))))]) (ap [.tmp 62] rfl rfl JI rfl (eO k (r4.1,r4.2.1,r4.2.2.1,r4.2.2.2.1,List.set r4.2.2.2.2.1 (Int.toNat 0) (List.set x5 (Int.toNat 0) [0,0]),r4.2.2.2.2.2) Rj QO)) λ_ _ _ hn=>⟨(aj (t:=an) (x:=(r4.1,r4.2.1,r4.2.2.1,r4.2.2.2.1,List.set r4.2.2.2.2.1 (Int.toNat 0) (List.set x5 (Int.toNat 0) [0,0]),r4.2.2.2.2.2)) (.agg (.pair .int (.pair .int (.pair .int (.pair .int (.pair .rep .rep)))))) trivial rfl hn.1),trivial⟩) ?_;refine gb (bV rfl) ?_;refine pf ?_;refine mq ?_;refine aP (s:=66) rfl (λhb=>?_) (λhb=>?_)
       .replace h:=cj (rC hb) h;iterate 5 refine gn ?_
        refine pt (nl ?_);exact jz ((),true) h []
       .replace h:=bh (iP hb) h;obtain⟨O,QN,h⟩:=aa h;refine gc (ap [.const (.int .i64 (0)),.const (.int .i64 (5)),.const (.bool true)] rfl rfl Fv rfl (cT k 0 5 true O QN)) ?_;refine ga (aQ (t:=aG) [(.tmp 67,_)] [O] rfl rfl wG (.cons rfl .rep .nil) rfl rfl) ?_;obtain⟨PS,QM,h⟩:=aa h;refine ga (ap [.tmp 68] rfl rfl qd rfl (aU k [O] PS QM)) ?_;obtain⟨PR,QL,h⟩:=aa h;refine ga (ap [.tmp 69] rfl rfl JI rfl (eO k PS PR QL)) ?_;refine gb (bV rfl) ?_;refine pf (nl ?_);exact jz ((), !decide (PR=3)) h []
 .
  refine cv h (λh=>?_) (λh=>?_)
  .refine sr (cq (nt (rx ?_)));cases h;exact ra
  .refine sk (sr ?_);obtain⟨M,QK,h⟩:=aa h;refine jc (ap [.const (.int .i64 (0)),.const (.int .i64 (2)),.const (.bool false)] rfl rfl Fv rfl (cT k 0 2 false M QK)) ?_;refine ja (aQ (t:=aG) [(.tmp 73,_)] [M] rfl rfl wG (.cons rfl .rep .nil) rfl rfl) ?_;obtain⟨c,QJ,h⟩:=aa h;refine ja (ap [.tmp 74] rfl rfl qd rfl (aU k [M] c QJ)) ?_;refine aS rfl rfl rfl (aY rfl mA te) trivial λe=>?_;refine aK rfl rfl (aD rfl c6 rfl rfl rfl) ⟨rfl,rfl,trivial⟩ ?_;refine nt (sr ?_);obtain⟨PQ,QI,h⟩:=aa h;refine ja (aE (N:=[(.const (.slice none 0 0),.eq (.slice none 0 0))]) (ap [.const (.slice none 0 0)] rfl rfl qd rfl (aU k ([]:(List av)) PQ QI)) λ_ _ _ hn=>⟨(aj (t:=(.slice aG)) (x:=([]:(List av))) .nil rfl rfl hn.1),trivial⟩) ?_;refine ja (aQ (t:=Ti) [(.const (.int .i64 (3)),_)] [3] rfl rfl cD (.cons rfl .int .nil) rfl rfl) ?_;obtain⟨Ri,QH,h⟩:=aa h;refine jb (ay [.tmp 77,.tmp 78] rfl rfl N6 rfl (kZ k PQ [3] Ri QH)) ?_;refine mq ?_;refine xr ?_;refine xr ?_;refine aq ?_;refine aq (nt (sr ?_));obtain⟨PP,QG,h⟩:=aa h;refine ja (aE (N:=[(.const (.slice none 0 0),.eq (.slice none 0 0))]) (ap [.const (.slice none 0 0)] rfl rfl qd rfl (aU k ([]:(List av)) PP QG)) λ_ _ _ hn=>⟨(aj (t:=(.slice aG)) (x:=([]:(List av))) .nil rfl rfl hn.1),trivial⟩) ?_;refine jb (aQ (t:=Ti) [(.const (.int .i64 (3)),_),(.const (.int .i64 (0)),_)] [3,0] rfl rfl cD (.cons rfl .int (.cons rfl .int .nil)) rfl rfl) ?_;obtain⟨Rh,QF,h⟩:=aa h;refine jb (ay [.tmp 83,.tmp 84] rfl rfl N6 rfl (kZ k PP [3,0] Rh QF)) ?_;refine mq ?_;refine xr ?_;refine xr ?_;refine aq ?_;refine aq (nt (sr ?_));refine lo c6 ?_;obtain⟨Rf,QE,h⟩:=aa h;refine ja (ay [.tmp 89] rfl rfl JQ rfl (k9 k c Rf QE)) ?_;refine mq ?_;refine xr ?_;refine xr ?_;refine aq ?_;refine aq (nt (sr ?_));obtain⟨PO,QD,h⟩:=aa h;refine ja (aE (N:=[(.const (.slice none 0 0),.eq (.slice none 0 0))]) (ap [.const (.slice none 0 0)] rfl rfl qd rfl (aU k ([]:(List av)) PO QD)) λ_ _ _ hn=>⟨(aj (t:=(.slice aG)) (x:=([]:(List av))) .nil rfl rfl hn.1),trivial⟩) ?_;obtain⟨PN,QC,h⟩:=aa h;refine ja (ay [.tmp 94] rfl rfl MG rfl (ov k PO PN QC)) ?_;refine mq ?_;refine xr ?_;refine xr ?_;refine aq ?_;refine aq (nt (sr ?_));refine lo c6 ?_;obtain⟨Re,QB,h⟩:=aa h;refine ja (ay [.tmp 99] rfl rfl MG rfl (ov k c Re QB)) ?_;refine mq ?_;refine xr ?_;refine xr ?_;refine aq ?_;refine aq (nt (ai ?_));refine aR (Z:=Unit) (α:=Bool) (λgw E=>[(5,Pt e),(152,.eq (.bool E))]) (λgw E=>[.obj e 25 (.rep an c)]) h (λK h=>?_) (λgw E h=>?_)
   .refine ae (mq ?_);refine jb (bV rfl) ?_;refine mq ?_;refine aP (s:=105) rfl (λhb=>?_) (λhb=>?_)
    .replace h:=cj (rC hb) h;iterate 2 refine gn ?_
     refine pt ?_;refine mq ?_;iterate 2 refine gn ?_
     refine pt ?_;refine mq ?_;iterate 2 refine gn ?_
     refine pt ?_;refine mq ?_;iterate 2 refine gn ?_
     refine pt ?_;refine mq ?_;iterate 3 refine gn ?_
     refine pt ?_;refine mq ?_;iterate 3 refine gn ?_
     refine pt ?_;refine mq ?_;iterate 6 refine gn ?_
     refine pt ?_;refine mq ?_;iterate 6 refine gn ?_
     refine pt ?_;refine mq ?_;iterate 4 refine gn ?_
     refine pt (nl ?_);exact jz ((),true) h [0]
    .replace h:=bh (iP hb) h;refine gm ?_;refine gb (bV rfl) ?_;refine pf ?_;refine mq ?_;refine aP (s:=109) rfl (λhb=>?_) (λhb=>?_)
     .replace h:=cj (rC hb) h;iterate 2 refine gn ?_
      refine pt ?_;refine mq ?_;iterate 2 refine gn ?_
      refine pt ?_;refine mq ?_;iterate 2 refine gn ?_
      refine pt ?_;refine mq ?_;iterate 3 refine gn ?_
      refine pt ?_;refine mq ?_;iterate 3 refine gn ?_
      refine pt ?_;refine mq ?_;iterate 6 refine gn ?_
      refine pt ?_;refine mq ?_;iterate 6 refine gn ?_
      refine pt ?_;refine mq ?_;iterate 4 refine gn ?_
      refine pt (nl ?_);exact jz ((),true) h [0]
     .replace h:=bh (iP hb) h;refine gm ?_;refine gb (bV rfl) ?_;refine pf ?_;refine mq ?_;refine aP (s:=113) rfl (λhb=>?_) (λhb=>?_)
      .replace h:=cj (rC hb) h;iterate 2 refine gn ?_
       refine pt ?_;refine mq ?_;iterate 2 refine gn ?_
       refine pt ?_;refine mq ?_;iterate 3 refine gn ?_
       refine pt ?_;refine mq ?_;iterate 3 refine gn ?_
       refine pt ?_;refine mq ?_;iterate 6 refine gn ?_
       refine pt ?_;refine mq ?_;iterate 6 refine gn ?_
       refine pt ?_;refine mq ?_;iterate 4 refine gn ?_
       refine pt (nl ?_);exact jz ((),true) h [0]
      .replace h:=bh (iP hb) h;refine gm ?_;refine gb (bV rfl) ?_;refine pf ?_;refine mq ?_;refine aP (s:=117) rfl (λhb=>?_) (λhb=>?_)
       .replace h:=cj (rC hb) h;iterate 2 refine gn ?_
        refine pt ?_;refine mq ?_;iterate 3 refine gn ?_
        refine pt ?_;refine mq ?_;iterate 3 refine gn ?_
        refine pt ?_;refine mq ?_;iterate 6 refine gn ?_
        refine pt ?_;refine mq ?_;iterate 6 refine gn ?_
        refine pt ?_;refine mq ?_;iterate 4 refine gn ?_
        refine pt (nl ?_);exact jz ((),true) h [0]
       .replace h:=bh (iP hb) h;refine gm ?_;refine gb (bV rfl) ?_;refine pf ?_;refine mq ?_;refine aP (s:=121) rfl (λhb=>?_) (λhb=>?_)
        .replace h:=cj (rC hb) h;iterate 3 refine gn ?_
         refine pt ?_;refine mq ?_;iterate 3 refine gn ?_
         refine pt ?_;refine mq ?_;iterate 6 refine gn ?_
         refine pt ?_;refine mq ?_;iterate 6 refine gn ?_
         refine pt ?_;refine mq ?_;iterate 4 refine gn ?_
         refine pt (nl ?_);exact jz ((),true) h [0]
        .replace h:=bh (iP hb) h;refine gm ?_;refine ga (oq rfl rfl vT) ?_;refine gb (bV rfl) ?_;refine pf ?_;refine mq ?_;refine aP (s:=126) rfl (λhb=>?_) (λhb=>?_)
         .replace h:=cj (rC hb) h;iterate 3 refine gn ?_
          refine pt ?_;refine mq ?_;iterate 6 refine gn ?_
          refine pt ?_;refine mq ?_;iterate 6 refine gn ?_
          refine pt ?_;refine mq ?_;iterate 4 refine gn ?_
          refine pt (nl ?_);exact jz ((),true) h [0]
         .replace h:=bh (iP hb) h;refine gm ?_;refine ga (oq rfl rfl vT) ?_;refine gb (lA rfl) ?_;refine pf ?_;refine mq ?_;refine aP (s:=131) rfl (λhb=>?_) (λhb=>?_)
          .replace h:=cj (qf hb) h;iterate 6 refine gn ?_
           refine pt ?_;refine mq ?_;iterate 6 refine gn ?_
           refine pt ?_;refine mq ?_;iterate 4 refine gn ?_
           refine pt (nl ?_);exact jz ((),true) h [0]
          .replace h:=bh (qg hb) h;refine gm ?_;obtain⟨QX,PV,h⟩:=aa h;refine gb (bA (t:=Tl) rfl vT je PV) ?_;refine ga (aA (t:=Tl) rfl je rfl) ?_;refine hH rfl rfl rfl rfl rfl rfl (aQ (t:=Ti) [(.const (.int .i64 (-1)),_),(.const (.int .i64 (-1)),_),(.const (.int .i64 (-1)),_),(.const (.int .i64 (1)),_)] [(-1:Int),(-1:Int),(-1:Int),1] rfl rfl cD (.cons rfl .int (.cons rfl .int (.cons rfl .int (.cons rfl .int .nil)))) rfl rfl) ⟨rfl,rfl,rfl,rfl,trivial⟩ ?_;obtain⟨Rb,QA,h⟩:=aa h;refine gb (ap [.tmp 134,.tmp 135] rfl rfl s5 rfl (cg k QX [(-1:Int),(-1:Int),(-1:Int),1] Rb QA)) ?_;refine ga (ec rfl) ?_;refine pf ?_;refine mq ?_;refine aP (s:=139) rfl (λhb=>?_) (λhb=>?_)
           .replace h:=cj (qI hb) h;iterate 6 refine gn ?_
            refine pt ?_;refine mq ?_;iterate 4 refine gn ?_
            refine pt (nl ?_);exact jz ((),true) h [0]
           .replace h:=bh (lE hb) h;refine gm ?_;obtain⟨QW,PU,h⟩:=aa h;refine gb (bA (t:=Tl) rfl vT je PU) ?_;refine ga (aA (t:=Tl) rfl je rfl) ?_;refine hH rfl rfl rfl rfl rfl rfl (aQ (t:=Ti) [(.const (.int .i64 (-1)),_),(.const (.int .i64 (0)),_),(.const (.int .i64 (2)),_),(.const (.int .i64 (5)),_)] [(-1:Int),0,2,5] rfl rfl cD (.cons rfl .int (.cons rfl .int (.cons rfl .int (.cons rfl .int .nil)))) rfl rfl) ⟨rfl,rfl,rfl,rfl,trivial⟩ ?_;obtain⟨Q9,Qz,h⟩:=aa h;refine gb (ap [.tmp 142,.tmp 143] rfl rfl s5 rfl (cg k QW [(-1:Int),0,2,5] Q9 Qz)) ?_;refine ga (ec rfl) ?_;refine pf ?_;refine mq ?_;refine aP (s:=147) rfl (λhb=>?_) (λhb=>?_)
            .replace h:=cj (qI hb) h;iterate 4 refine gn ?_
             refine pt (nl ?_);exact jz ((),true) h [0]
            .replace h:=bh (lE hb) h;refine gm ?_;refine ga (aQ (t:=Ti) [(.const (.int .i64 (0)),_)] [0] rfl rfl cD (.cons rfl .int .nil) rfl rfl) ?_;obtain⟨PM,Qy,h⟩:=aa h;refine gb (ap [.tmp 148,.tmp 149] rfl rfl s5 rfl (cg k PN.1 [0] PM Qy)) ?_;refine ga (ec rfl) ?_;refine pf (nl ?_);exact jz ((), !PM) h [0]
   .refine cv h (λh=>?_) (λh=>?_)
    .refine sr (cq (nt (rx ?_)));cases h;exact ra
    .refine sk (sr ?_);obtain⟨PL,Qx,h⟩:=aa h;refine ja (aE (N:=[(.const (.slice none 0 0),.eq (.slice none 0 0))]) (ap [.const (.slice none 0 0)] rfl rfl qd rfl (aU k ([]:(List av)) PL Qx)) λ_ _ _ hn=>⟨(aj (t:=(.slice aG)) (x:=([]:(List av))) .nil rfl rfl hn.1),trivial⟩) ?_;obtain⟨PK,Qw,h⟩:=aa h;refine jb (ay [.tmp 154,.const (.int .i64 (1))] rfl rfl JP rfl (lX k PL 1 PK Qw)) ?_;refine mq ?_;refine xr ?_;refine xr ?_;refine aq ?_;refine aq (nt (sr ?_));obtain⟨PI,Qv,h⟩:=aa h;refine ja (aE (N:=[(.const (.slice none 0 0),.eq (.slice none 0 0))]) (ap [.const (.slice none 0 0)] rfl rfl qd rfl (aU k ([]:(List av)) PI Qv)) λ_ _ _ hn=>⟨(aj (t:=(.slice aG)) (x:=([]:(List av))) .nil rfl rfl hn.1),trivial⟩) ?_;obtain⟨PH,Qu,h⟩:=aa h;refine jb (ay [.tmp 159,.const (.int .i64 (4))] rfl rfl JP rfl (lX k PI 4 PH Qu)) ?_;refine mq ?_;refine xr ?_;refine xr ?_;refine aq ?_;refine aq (nt (sr ?_));obtain⟨PG,Qs,h⟩:=aa h;refine ja (aE (N:=[(.const (.slice none 0 0),.eq (.slice none 0 0))]) (ap [.const (.slice none 0 0)] rfl rfl qd rfl (aU k ([]:(List av)) PG Qs)) λ_ _ _ hn=>⟨(aj (t:=(.slice aG)) (x:=([]:(List av))) .nil rfl rfl hn.1),trivial⟩) ?_;obtain⟨Q8,Qq,h⟩:=aa h;refine jb (ay [.tmp 164,.const (.int .i64 (5))] rfl rfl JP rfl (lX k PG 5 Q8 Qq)) ?_;refine mq ?_;refine xr ?_;refine xr ?_;refine aq (nt (sr ?_));obtain⟨PE,Qp,h⟩:=aa h;refine ja (aE (N:=[(.const (.slice none 0 0),.eq (.slice none 0 0))]) (ap [.const (.slice none 0 0)] rfl rfl qd rfl (aU k ([]:(List av)) PE Qp)) λ_ _ _ hn=>⟨(aj (t:=(.slice aG)) (x:=([]:(List av))) .nil rfl rfl hn.1),trivial⟩) ?_;obtain⟨Q7,Qo,h⟩:=aa h;refine jb (ay [.tmp 169,.const (.int .i64 (0))] rfl rfl JM rfl (l5 k PE 0 Q7 Qo)) ?_;refine mq ?_;refine xr ?_;refine xr ?_;refine aS rfl rfl rfl (aY rfl sb HD) trivial λRX=>?_;refine aK rfl rfl (aD rfl pB rfl rfl rfl) ⟨rfl,rfl,trivial⟩ ?_;refine aq (nt (sr ?_));obtain⟨PD,Qn,h⟩:=aa h;refine ja (aE (N:=[(.const (.slice none 0 0),.eq (.slice none 0 0))]) (ap [.const (.slice none 0 0)] rfl rfl qd rfl (aU k ([]:(List av)) PD Qn)) λ_ _ _ hn=>⟨(aj (t:=(.slice aG)) (x:=([]:(List av))) .nil rfl rfl hn.1),trivial⟩) ?_;obtain⟨Q6,Qm,h⟩:=aa h;refine jb (ay [.tmp 174,.const (.int .i64 (3))] rfl rfl JM rfl (l5 k PD 3 Q6 Qm)) ?_;refine mq ?_;refine xr ?_;refine xr ?_;refine aS rfl rfl rfl (aY rfl sb HD) trivial λRV=>?_;refine aK rfl rfl (aD rfl pB rfl rfl rfl) ⟨rfl,rfl,trivial⟩ ?_;refine aq (nt (sr ?_));obtain⟨PC,Ql,h⟩:=aa h;refine ja (aE (N:=[(.const (.slice none 0 0),.eq (.slice none 0 0))]) (ap [.const (.slice none 0 0)] rfl rfl qd rfl (aU k ([]:(List av)) PC Ql)) λ_ _ _ hn=>⟨(aj (t:=(.slice aG)) (x:=([]:(List av))) .nil rfl rfl hn.1),trivial⟩) ?_;obtain⟨Pz,Qk,h⟩:=aa h;refine jb (ay [.tmp 179,.const (.int .i64 (3))] rfl rfl On rfl (sR k PC 3 Pz Qk)) ?_;refine mq ?_;refine xr ?_;refine xr ?_;refine aq ?_;refine aq (nt (ai ?_));refine aR (Z:=Unit) (α:=Bool) (λY D=>[(5,Pt e),(232,.eq (.bool D))]) (λY D=>[.obj e 25 (.rep an c)]) h (λK h=>?_) (λY D h=>?_)
     .refine ae (mq ?_);refine jb (bV rfl) ?_;refine mq ?_;refine aP (s:=185) rfl (λhb=>?_) (λhb=>?_)
      .replace h:=cj (rC hb) h;iterate 2 refine gn ?_
       refine pt ?_;refine mq ?_;iterate 2 refine gn ?_
       refine pt ?_;refine mq ?_;iterate 2 refine gn ?_
       refine pt ?_;refine mq ?_;iterate 2 refine gn ?_
       refine pt ?_;refine mq ?_;iterate 2 refine gn ?_
       refine pt ?_;refine mq ?_;iterate 3 refine gn ?_
       refine pt ?_;refine mq ?_;iterate 3 refine gn ?_
       refine pt ?_;refine mq ?_;iterate 4 refine gn ?_
       refine pt ?_;refine mq ?_;iterate 4 refine gn ?_
       refine pt ?_;refine mq ?_;iterate 4 refine gn ?_
       refine pt (nl ?_);exact jz ((),true) h [2]
      .replace h:=bh (iP hb) h;refine gm ?_;refine gb (bV rfl) ?_;refine pf ?_;refine mq ?_;refine aP (s:=189) rfl (λhb=>?_) (λhb=>?_)
       .replace h:=cj (rC hb) h;iterate 2 refine gn ?_
        refine pt ?_;refine mq ?_;iterate 2 refine gn ?_
        refine pt ?_;refine mq ?_;iterate 2 refine gn ?_
        refine pt ?_;refine mq ?_;iterate 2 refine gn ?_
        refine pt ?_;refine mq ?_;iterate 3 refine gn ?_
        refine pt ?_;refine mq ?_;iterate 3 refine gn ?_
        refine pt ?_;refine mq ?_;iterate 4 refine gn ?_
        refine pt ?_;refine mq ?_;iterate 4 refine gn ?_
        refine pt ?_;refine mq ?_;iterate 4 refine gn ?_
        refine pt (nl ?_);exact jz ((),true) h [2]
       .replace h:=bh (iP hb) h;refine gm ?_;refine gb (bV rfl) ?_;refine pf ?_;refine mq ?_;refine aP (s:=193) rfl (λhb=>?_) (λhb=>?_)
        .replace h:=cj (rC hb) h;iterate 2 refine gn ?_
         refine pt ?_;refine mq ?_;iterate 2 refine gn ?_
         refine pt ?_;refine mq ?_;iterate 2 refine gn ?_
         refine pt ?_;refine mq ?_;iterate 3 refine gn ?_
         refine pt ?_;refine mq ?_;iterate 3 refine gn ?_
         refine pt ?_;refine mq ?_;iterate 4 refine gn ?_
         refine pt ?_;refine mq ?_;iterate 4 refine gn ?_
         refine pt ?_;refine mq ?_;iterate 4 refine gn ?_
         refine pt (nl ?_);exact jz ((),true) h [2]
        .replace h:=bh (iP hb) h;refine gm ?_;refine gb (bV rfl) ?_;refine pf ?_;refine mq ?_;refine aP (s:=197) rfl (λhb=>?_) (λhb=>?_)
         .replace h:=cj (rC hb) h;iterate 2 refine gn ?_
          refine pt ?_;refine mq ?_;iterate 2 refine gn ?_
          refine pt ?_;refine mq ?_;iterate 3 refine gn ?_
          refine pt ?_;refine mq ?_;iterate 3 refine gn ?_
          refine pt ?_;refine mq ?_;iterate 4 refine gn ?_
          refine pt ?_;refine mq ?_;iterate 4 refine gn ?_
          refine pt ?_;refine mq ?_;iterate 4 refine gn ?_
          refine pt (nl ?_);exact jz ((),true) h [2]
         .replace h:=bh (iP hb) h;refine gm ?_;refine gb (bV rfl) ?_;refine pf ?_;refine mq ?_;refine aP (s:=201) rfl (λhb=>?_) (λhb=>?_)
          .replace h:=cj (rC hb) h;iterate 2 refine gn ?_
           refine pt ?_;refine mq ?_;iterate 3 refine gn ?_
           refine pt ?_;refine mq ?_;iterate 3 refine gn ?_
           refine pt ?_;refine mq ?_;iterate 4 refine gn ?_
           refine pt ?_;refine mq ?_;iterate 4 refine gn ?_
           refine pt ?_;refine mq ?_;iterate 4 refine gn ?_
           refine pt (nl ?_);exact jz ((),true) h [2]
          .replace h:=bh (iP hb) h;refine gm ?_;refine gb (bV rfl) ?_;refine pf ?_;refine mq ?_;refine aP (s:=205) rfl (λhb=>?_) (λhb=>?_)
           .replace h:=cj (rC hb) h;iterate 3 refine gn ?_
            refine pt ?_;refine mq ?_;iterate 3 refine gn ?_
            refine pt ?_;refine mq ?_;iterate 4 refine gn ?_
            refine pt ?_;refine mq ?_;iterate 4 refine gn ?_
            refine pt ?_;refine mq ?_;iterate 4 refine gn ?_
            refine pt (nl ?_);exact jz ((),true) h [2]
           .replace h:=bh (iP hb) h;refine fr 1 ?_;refine iw rfl rfl rfl rfl rfl rfl (aL rfl pB (mW) rfl) ⟨rfl,trivial⟩ ?_;refine gb (cJ [(0,.const (.int .i64 (0)),_),(1,.const (.int .i64 (1)),_)] rfl yt sb tc (fO ⟨rfl,rfl,trivial⟩) rfl) ?_;refine d4 (cU (t:=bJ) (x:=(0,1)) 207 rfl (.agg (.pair .int .int)) trivial rfl) ?_;refine gb (yw rfl JF rfl) ?_;refine pf ?_;refine mq ?_;refine aP (s:=210) rfl (λhb=>?_) (λhb=>?_)
            .replace h:=cj (rC hb) h;iterate 3 refine gn ?_
             refine pt ?_;refine mq ?_;iterate 4 refine gn ?_
             refine pt ?_;refine mq ?_;iterate 4 refine gn ?_
             refine pt ?_;refine mq ?_;iterate 4 refine gn ?_
             refine pt (nl ?_);exact jz ((),true) h [2]
            .replace h:=bh (iP hb) h;refine fr 1 ?_;refine iw rfl rfl rfl rfl rfl rfl (aL rfl pB (mW) rfl) ⟨rfl,trivial⟩ ?_;refine gb (cJ [(0,.const (.int .i64 (3)),_),(1,.const (.int .i64 (4)),_)] rfl yt sb tc (fO ⟨rfl,rfl,trivial⟩) rfl) ?_;refine d4 (cU (t:=bJ) (x:=(3,4)) 212 rfl (.agg (.pair .int .int)) trivial rfl) ?_;refine gb (yw rfl JF rfl) ?_;refine pf ?_;refine mq ?_;refine aP (s:=215) rfl (λhb=>?_) (λhb=>?_)
             .replace h:=cj (rC hb) h;iterate 4 refine gn ?_
              refine pt ?_;refine mq ?_;iterate 4 refine gn ?_
              refine pt ?_;refine mq ?_;iterate 4 refine gn ?_
              refine pt (nl ?_);exact jz ((),true) h [2]
             .replace h:=bh (iP hb) h;refine gm ?_;refine hH rfl rfl rfl rfl rfl rfl (aQ (t:=Ti) [(.const (.int .i64 (1)),_),(.const (.int .i64 (1)),_),(.const (.int .i64 (3)),_),(.const (.int .i64 (2)),_)] [1,1,3,2] rfl rfl cD (.cons rfl .int (.cons rfl .int (.cons rfl .int (.cons rfl .int .nil)))) rfl rfl) ⟨rfl,rfl,rfl,rfl,trivial⟩ ?_;obtain⟨Q5,Qj,h⟩:=aa h;refine gb (ap [.tmp 216,.tmp 217] rfl rfl s5 rfl (cg k PK.1 [1,1,3,2] Q5 Qj)) ?_;refine ga (ec rfl) ?_;refine pf ?_;refine mq ?_;refine aP (s:=221) rfl (λhb=>?_) (λhb=>?_)
              .replace h:=cj (qI hb) h;iterate 4 refine gn ?_
               refine pt ?_;refine mq ?_;iterate 4 refine gn ?_
               refine pt (nl ?_);exact jz ((),true) h [2]
              .replace h:=bh (lE hb) h;refine gm ?_;refine hH rfl rfl rfl rfl rfl rfl (aQ (t:=Ti) [(.const (.int .i64 (2)),_),(.const (.int .i64 (1)),_),(.const (.int .i64 (1)),_),(.const (.int .i64 (1)),_)] [2,1,1,1] rfl rfl cD (.cons rfl .int (.cons rfl .int (.cons rfl .int (.cons rfl .int .nil)))) rfl rfl) ⟨rfl,rfl,rfl,rfl,trivial⟩ ?_;obtain⟨Q4,Qi,h⟩:=aa h;refine gb (ap [.tmp 222,.tmp 223] rfl rfl s5 rfl (cg k PH.1 [2,1,1,1] Q4 Qi)) ?_;refine ga (ec rfl) ?_;refine pf ?_;refine mq ?_;refine aP (s:=227) rfl (λhb=>?_) (λhb=>?_)
               .replace h:=cj (qI hb) h;iterate 4 refine gn ?_
                refine pt (nl ?_);exact jz ((),true) h [2]
               .replace h:=bh (lE hb) h;refine gm ?_;refine gb (aQ (t:=Ti) [(.const (.int .i64 (0)),_),(.const (.int .i64 (1)),_)] [0,1] rfl rfl cD (.cons rfl .int (.cons rfl .int .nil)) rfl rfl) ?_;obtain⟨Py,Qh,h⟩:=aa h;refine gb (ap [.tmp 228,.tmp 229] rfl rfl s5 rfl (cg k Pz.1 [0,1] Py Qh)) ?_;refine ga (ec rfl) ?_;refine pf (nl ?_);exact jz ((), !Py) h [2]
     .refine cv h (λh=>?_) (λh=>?_)
      .refine sr (cq (nt (rx ?_)));cases h;exact ra
      .refine sk (sr ?_);obtain⟨Px,Qg,h⟩:=aa h;refine ja (aE (N:=[(.const (.slice none 0 0),.eq (.slice none 0 0))]) (ap [.const (.slice none 0 0)] rfl rfl qd rfl (aU k ([]:(List av)) Px Qg)) λ_ _ _ hn=>⟨(aj (t:=(.slice aG)) (x:=([]:(List av))) .nil rfl rfl hn.1),trivial⟩) ?_;refine ja (aQ (t:=Ti) [(.const (.int .i64 (3)),_)] [3] rfl rfl cD (.cons rfl .int .nil) rfl rfl) ?_;obtain⟨Q3,Qf,h⟩:=aa h;refine jc (ay [.tmp 234,.tmp 235,.const (.int .i64 (0))] rfl rfl Me rfl (pT k Px [3] 0 Q3 Qf)) ?_;refine mq ?_;refine xr ?_;refine xr ?_;refine aq (nt (sr ?_));refine lo c6 ?_;obtain⟨Po,Qe,h⟩:=aa h;refine ja (ay [.tmp 240] rfl rfl Mc rfl (pS k c Po Qe)) ?_;refine mq ?_;refine xr ?_;refine xr ?_;refine aq ?_;refine aq (nt (sr ?_));obtain⟨Pn,Qd,h⟩:=aa h;refine ja (aE (N:=[(.const (.slice none 0 0),.eq (.slice none 0 0))]) (ap [.const (.slice none 0 0)] rfl rfl qd rfl (aU k ([]:(List av)) Pn Qd)) λ_ _ _ hn=>⟨(aj (t:=(.slice aG)) (x:=([]:(List av))) .nil rfl rfl hn.1),trivial⟩) ?_;obtain⟨Q2,Qc,h⟩:=aa h;refine ja (ay [.tmp 245] rfl rfl Mc rfl (pS k Pn Q2 Qc)) ?_;refine mq ?_;refine xr ?_;refine xr ?_;refine aq ?_;refine aq (nt (sr ?_));obtain⟨Pm,Qb,h⟩:=aa h;refine ja (aE (N:=[(.const (.slice none 0 0),.eq (.slice none 0 0))]) (ap [.const (.slice none 0 0)] rfl rfl qd rfl (aU k ([]:(List av)) Pm Qb)) λ_ _ _ hn=>⟨(aj (t:=(.slice aG)) (x:=([]:(List av))) .nil rfl rfl hn.1),trivial⟩) ?_;obtain⟨Pl,Qa,h⟩:=aa h;refine jc (ap [.const (.int .i64 (0)),.const (.int .i64 (2)),.const (.bool false)] rfl rfl Fv rfl (cT k 0 2 false Pl Qa)) ?_;obtain⟨Q1,P9,h⟩:=aa h;refine jb (ay [.tmp 250,.tmp 251] rfl rfl L9 rfl (sT k Pm Pl Q1 P9)) ?_;refine mq ?_;refine xr ?_;refine xr ?_;refine aq (nt (sr ?_));obtain⟨Pj,P8,h⟩:=aa h;refine ja (aE (N:=[(.const (.slice none 0 0),.eq (.slice none 0 0))]) (ap [.const (.slice none 0 0)] rfl rfl qd rfl (aU k ([]:(List av)) Pj P8)) λ_ _ _ hn=>⟨(aj (t:=(.slice aG)) (x:=([]:(List av))) .nil rfl rfl hn.1),trivial⟩) ?_;obtain⟨Pi,P7,h⟩:=aa h;refine jc (ap [.const (.int .i64 (2)),.const (.int .i64 (2)),.const (.bool true)] rfl rfl Fv rfl (cT k 2 2 true Pi P7)) ?_;obtain⟨Pg,P6,h⟩:=aa h;refine jb (ay [.tmp 256,.tmp 257] rfl rfl L9 rfl (sT k Pj Pi Pg P6)) ?_;refine mq ?_;refine xr ?_;refine xr ?_;refine aS rfl rfl rfl (aY rfl mA te) trivial λRU=>?_;refine aK rfl rfl (aD rfl c6 rfl rfl rfl) ⟨rfl,rfl,trivial⟩ ?_;refine aq (nt (sr ?_));refine lo c6 ?_;obtain⟨Pe,P5,h⟩:=aa h;refine ja (ay [.tmp 262] rfl rfl JQ rfl (k9 k Pg.1 Pe P5)) ?_;refine mq ?_;refine xr ?_;refine xr ?_;refine aq ?_;refine aq (nt (ai ?_));refine aR (Z:=Unit) (α:=Bool) (λX y=>[(306,.eq (.bool y))]) (λX y=>[]) h (λK h=>?_) (λX y h=>?_)
       .refine ae (mq ?_);refine jb (bV rfl) ?_;refine mq ?_;refine aP (s:=268) rfl (λhb=>?_) (λhb=>?_)
        .replace h:=cj (rC hb) h;iterate 2 refine gn ?_
         refine pt ?_;refine mq ?_;iterate 2 refine gn ?_
         refine pt ?_;refine mq ?_;iterate 2 refine gn ?_
         refine pt ?_;refine mq ?_;iterate 2 refine gn ?_
         refine pt ?_;refine mq ?_;iterate 2 refine gn ?_
         refine pt ?_;refine mq ?_;iterate 3 refine gn ?_
         refine pt ?_;refine mq ?_;iterate 4 refine gn ?_
         refine pt ?_;refine mq ?_;iterate 6 refine gn ?_
         refine pt (nl ?_);exact jz ((),true) h []
        .replace h:=bh (iP hb) h;refine gm ?_;refine gb (bV rfl) ?_;refine pf ?_;refine mq ?_;refine aP (s:=272) rfl (λhb=>?_) (λhb=>?_)
         .replace h:=cj (rC hb) h;iterate 2 refine gn ?_
          refine pt ?_;refine mq ?_;iterate 2 refine gn ?_
          refine pt ?_;refine mq ?_;iterate 2 refine gn ?_
          refine pt ?_;refine mq ?_;iterate 2 refine gn ?_
          refine pt ?_;refine mq ?_;iterate 3 refine gn ?_
          refine pt ?_;refine mq ?_;iterate 4 refine gn ?_
          refine pt ?_;refine mq ?_;iterate 6 refine gn ?_
          refine pt (nl ?_);exact jz ((),true) h []
         .replace h:=bh (iP hb) h;refine gm ?_;refine gb (bV rfl) ?_;refine pf ?_;refine mq ?_;refine aP (s:=276) rfl (λhb=>?_) (λhb=>?_)
          .replace h:=cj (rC hb) h;iterate 2 refine gn ?_
           refine pt ?_;refine mq ?_;iterate 2 refine gn ?_
           refine pt ?_;refine mq ?_;iterate 2 refine gn ?_
           refine pt ?_;refine mq ?_;iterate 3 refine gn ?_
           refine pt ?_;refine mq ?_;iterate 4 refine gn ?_
           refine pt ?_;refine mq ?_;iterate 6 refine gn ?_
           refine pt (nl ?_);exact jz ((),true) h []
          .replace h:=bh (iP hb) h;refine gm ?_;refine gb (bV rfl) ?_;refine pf ?_;refine mq ?_;refine aP (s:=280) rfl (λhb=>?_) (λhb=>?_)
           .replace h:=cj (rC hb) h;iterate 2 refine gn ?_
            refine pt ?_;refine mq ?_;iterate 2 refine gn ?_
            refine pt ?_;refine mq ?_;iterate 3 refine gn ?_
            refine pt ?_;refine mq ?_;iterate 4 refine gn ?_
            refine pt ?_;refine mq ?_;iterate 6 refine gn ?_
            refine pt (nl ?_);exact jz ((),true) h []
           .replace h:=bh (iP hb) h;refine gm ?_;refine gb (bV rfl) ?_;refine pf ?_;refine mq ?_;refine aP (s:=284) rfl (λhb=>?_) (λhb=>?_)
            .replace h:=cj (rC hb) h;iterate 2 refine gn ?_
             refine pt ?_;refine mq ?_;iterate 3 refine gn ?_
             refine pt ?_;refine mq ?_;iterate 4 refine gn ?_
             refine pt ?_;refine mq ?_;iterate 6 refine gn ?_
             refine pt (nl ?_);exact jz ((),true) h []
            .replace h:=bh (iP hb) h;refine gm ?_;refine gb (bV rfl) ?_;refine pf ?_;refine mq ?_;refine aP (s:=288) rfl (λhb=>?_) (λhb=>?_)
             .replace h:=cj (rC hb) h;iterate 3 refine gn ?_
              refine pt ?_;refine mq ?_;iterate 4 refine gn ?_
              refine pt ?_;refine mq ?_;iterate 6 refine gn ?_
              refine pt (nl ?_);exact jz ((),true) h []
             .replace h:=bh (iP hb) h;refine gm ?_;refine ga (oq rfl rfl jp) ?_;refine gb (lA rfl) ?_;refine pf ?_;refine mq ?_;refine aP (s:=293) rfl (λhb=>?_) (λhb=>?_)
              .replace h:=cj (qf hb) h;iterate 4 refine gn ?_
               refine pt ?_;refine mq ?_;iterate 6 refine gn ?_
               refine pt (nl ?_);exact jz ((),true) h []
              .replace h:=bh (qg hb) h;refine gm ?_;refine ga (aQ (t:=Ti) [(.const (.int .i64 (0)),_)] [0] rfl rfl cD (.cons rfl .int .nil) rfl rfl) ?_;obtain⟨Q0,P4,h⟩:=aa h;refine gb (ap [.tmp 294,.tmp 295] rfl rfl s5 rfl (cg k Po.1 [0] Q0 P4)) ?_;refine ga (ec rfl) ?_;refine pf ?_;refine mq ?_;refine aP (s:=299) rfl (λhb=>?_) (λhb=>?_)
               .replace h:=cj (qI hb) h;iterate 6 refine gn ?_
                refine pt (nl ?_);exact jz ((),true) h []
               .replace h:=bh (lE hb) h;refine gm ?_;refine gb (aQ (t:=Ti) [(.const (.int .i64 (0)),_),(.const (.int .i64 (1)),_)] [0,1] rfl rfl cD (.cons rfl .int (.cons rfl .int .nil)) rfl rfl) ?_;refine ga (aQ (t:=Ti) [(.const (.int .i64 (1)),_)] [1] rfl rfl cD (.cons rfl .int .nil) rfl rfl) ?_;refine gb (aQ (t:=Tl) [(.tmp 301,_),(.tmp 302,_)] [[0,1],[1]] rfl rfl mC (.cons rfl .rep (.cons rfl .rep .nil)) rfl rfl) ?_;obtain⟨O9,P3,h⟩:=aa h;refine gb (ap [.tmp 300,.tmp 303] rfl rfl JL rfl (ip k Pe.1 [[0,1],[1]] O9 P3)) ?_;refine ga (ec rfl) ?_;refine pf (nl ?_);exact jz ((), !O9) h []
       .refine cv h (λh=>?_) (λh=>?_)
        .refine sr (cq (nt (rx ?_)));cases h;exact ra
        .refine sk (sr ?_);obtain⟨zM,P2,h⟩:=aa h;refine ja (aE (N:=[(.const (.slice none 0 0),.eq (.slice none 0 0))]) (ap [.const (.slice none 0 0)] rfl rfl qd rfl (aU k ([]:(List av)) zM P2)) λ_ _ _ hn=>⟨(aj (t:=(.slice aG)) (x:=([]:(List av))) .nil rfl rfl hn.1),trivial⟩) ?_;obtain⟨QZ,P1,h⟩:=aa h;refine jb (ay [.tmp 308,.const (.int .i64 (1))] rfl rfl JK rfl (ng k zM 1 QZ P1)) ?_;refine mq ?_;refine xr ?_;refine xr ?_;refine xr ?_;refine aq ?_;refine aq ?_;refine aq (nt (sr ?_));obtain⟨zz,P0,h⟩:=aa h;refine ja (aE (N:=[(.const (.slice none 0 0),.eq (.slice none 0 0))]) (ap [.const (.slice none 0 0)] rfl rfl qd rfl (aU k ([]:(List av)) zz P0)) λ_ _ _ hn=>⟨(aj (t:=(.slice aG)) (x:=([]:(List av))) .nil rfl rfl hn.1),trivial⟩) ?_;obtain⟨QY,PZ,h⟩:=aa h;refine jb (ay [.tmp 314,.const (.int .i64 (0))] rfl rfl JK rfl (ng k zz 0 QY PZ)) ?_;refine mq ?_;refine xr ?_;refine xr ?_;refine xr ?_;refine aq ?_;refine aq ?_;refine aq (nt (sr ?_));obtain⟨qt,PY,h⟩:=aa h;refine ja (aE (N:=[(.const (.slice none 0 0),.eq (.slice none 0 0))]) (ap [.const (.slice none 0 0)] rfl rfl qd rfl (aU k ([]:(List av)) qt PY)) λ_ _ _ hn=>⟨(aj (t:=(.slice aG)) (x:=([]:(List av))) .nil rfl rfl hn.1),trivial⟩) ?_;obtain⟨pq,PX,h⟩:=aa h;refine jb (ay [.tmp 320,.const (.int .i64 (3))] rfl rfl L8 rfl (ou k qt 3 pq PX)) ?_;refine mq ?_;refine xr ?_;refine xr ?_;refine aq ?_;refine aq (nt ?_);refine aR (Z:=Unit) (α:=Bool) (λU n=>[(0,.eq (.bool n))]) (λU n=>[]) h (λK h=>?_) (λU n h=>?_)
         .refine ae (mq ?_);refine jb (dE rfl) ?_;refine mq ?_;refine aP (s:=326) rfl (λhb=>?_) (λhb=>?_)
          .replace h:=cj (qf hb) h;refine gm ?_;refine gb (dE rfl) ?_;refine pt ?_;refine mq ?_;refine aP (s:=330) rfl (λhb=>?_) (λhb=>?_)
           .replace h:=cj (qf hb) h;refine gm ?_;refine gb (dE rfl) ?_;refine pt ?_;refine mq ?_;refine aP (s:=334) rfl (λhb=>?_) (λhb=>?_)
            .replace h:=cj (qf hb) h;refine gm ?_;refine gb (dE rfl) ?_;refine pt ?_;refine mq ?_;refine aP (s:=338) rfl (λhb=>?_) (λhb=>?_)
             .replace h:=cj (qf hb) h;refine gm ?_;refine gb (dE rfl) ?_;refine pt ?_;refine mq ?_;refine aP (s:=342) rfl (λhb=>?_) (λhb=>?_)
              .replace h:=cj (qf hb) h;refine gm ?_;refine gb (dE rfl) ?_;refine pt ?_;refine mq ?_;refine aP (s:=346) rfl (λhb=>?_) (λhb=>?_)
               .replace h:=cj (qf hb) h;refine gm ?_;refine gb (dE rfl) ?_;refine pt ?_;refine mq ?_;refine aP (s:=350) rfl (λhb=>?_) (λhb=>?_)
                .replace h:=cj (qf hb) h;refine gm ?_;refine ga (aQ (t:=Ti) [(.const (.int .i64 (1)),_)] [1] rfl rfl cD (.cons rfl .int .nil) rfl rfl) ?_;obtain⟨mw,PW,h⟩:=aa h;refine gb (ap [.tmp 351,.tmp 352] rfl rfl s5 rfl (cg k pq.1 [1] mw PW)) ?_;refine pt ?_;refine aq (nl ?_);exact jz ((),mw) h []
                .replace h:=bh (qg hb) h;iterate 3 refine gn ?_
                 refine pf ?_;refine aq (nl ?_);exact jz ((),false) h []
               .replace h:=bh (qg hb) h;iterate 2 refine gn ?_
                refine pf ?_;refine mq ?_;iterate 3 refine gn ?_
                refine pf ?_;refine aq (nl ?_);exact jz ((),false) h []
              .replace h:=bh (qg hb) h;iterate 2 refine gn ?_
               refine pf ?_;refine mq ?_;iterate 2 refine gn ?_
               refine pf ?_;refine mq ?_;iterate 3 refine gn ?_
               refine pf ?_;refine aq (nl ?_);exact jz ((),false) h []
             .replace h:=bh (qg hb) h;iterate 2 refine gn ?_
              refine pf ?_;refine mq ?_;iterate 2 refine gn ?_
              refine pf ?_;refine mq ?_;iterate 2 refine gn ?_
              refine pf ?_;refine mq ?_;iterate 3 refine gn ?_
              refine pf ?_;refine aq (nl ?_);exact jz ((),false) h []
            .replace h:=bh (qg hb) h;iterate 2 refine gn ?_
             refine pf ?_;refine mq ?_;iterate 2 refine gn ?_
             refine pf ?_;refine mq ?_;iterate 2 refine gn ?_
             refine pf ?_;refine mq ?_;iterate 2 refine gn ?_
             refine pf ?_;refine mq ?_;iterate 3 refine gn ?_
             refine pf ?_;refine aq (nl ?_);exact jz ((),false) h []
           .replace h:=bh (qg hb) h;iterate 2 refine gn ?_
            refine pf ?_;refine mq ?_;iterate 2 refine gn ?_
            refine pf ?_;refine mq ?_;iterate 2 refine gn ?_
            refine pf ?_;refine mq ?_;iterate 2 refine gn ?_
            refine pf ?_;refine mq ?_;iterate 2 refine gn ?_
            refine pf ?_;refine mq ?_;iterate 3 refine gn ?_
            refine pf ?_;refine aq (nl ?_);exact jz ((),false) h []
          .replace h:=bh (qg hb) h;iterate 2 refine gn ?_
           refine pf ?_;refine mq ?_;iterate 2 refine gn ?_
           refine pf ?_;refine mq ?_;iterate 2 refine gn ?_
           refine pf ?_;refine mq ?_;iterate 2 refine gn ?_
           refine pf ?_;refine mq ?_;iterate 2 refine gn ?_
           refine pf ?_;refine mq ?_;iterate 2 refine gn ?_
           refine pf ?_;refine mq ?_;iterate 3 refine gn ?_
           refine pf ?_;refine aq (nl ?_);exact jz ((),false) h []
         .refine aF ?_;cases h;exact ra
